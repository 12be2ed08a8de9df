import PyProof.Rows.All
import HandS.ForMost
import HandS.IsInst
import HandS.Style
import HandS.Flow
import HandS.TupAny
import HandS.TupLe
import KE.DataMinMax
import HandS.Strs
import HandS.Evl
import PySem.Challenge.RW_tworeadings_k63_palindromes_in_a_word
set_option Elab.async false
set_option linter.all false
set_option autoImplicit false
set_option maxRecDepth 100000
namespace WL
open PySem PySem.Spec L2

/-! ### tuples made here: known to bear no dict -/
def tupO (its : List Value) : Obj := { cls := .type "tuple", data := .seq its.toArray }
def SqD (F : Hp) (a : Addr) (vs : List V) : Prop := ∃ its, F a = some (.frz (tupO its) (.tup vs))
theorem SqD.sq {K : PySem.W.Frag} {F : Hp} {a : Addr} {vs : List V} (h : SqD F a vs) : SqT K F a vs := let ⟨_, h⟩ := h; .inl (.inr ⟨_, h⟩)
theorem SqD.mono {F F' : Hp} {a : Addr} {vs : List V} (e : ∀ a o, F a = some o → F' a = some o) (h : SqD F a vs) : SqD F' a vs := let ⟨i, h⟩ := h; ⟨i, e _ _ h⟩
abbrev newTup (H : Hp) (p : Addr) (its : List Value) (vs : List V) : Hp := upd H p (.frz (tupO its) (.tup vs))
section
variable {X : Cx}
theorem lay_tup {pins : List (Addr × Obj)} {σ : L2.St} {H : Hp} {s : Shared} {xs : List V} {us : List Value} (I : Inv X pins σ H s) (r : Vals xs us) (z : xs.length ≤ sizeLine) :
    Inv X pins σ (newTup H s.heap.objs.size us xs) { s with heap := s.heap.push (tupO us) } ∧ H s.heap.objs.size = none := by
  have hf := I.hok.fresh (Nat.le_refl s.heap.objs.size)
  have hg : (s.heap.push (tupO us)).get? s.heap.objs.size = some (tupO us) := Heap.get?_push_size _ rfl
  refine ⟨?_, hf⟩
  have := I.laid (a := s.heap.objs.size) (o := .frz (tupO us) (.tup xs)) (h' := s.heap.push (tupO us)) (t' := s.toks) (fun b u e => Heap.get?_push_of_some _ e) (Nat.le_refl _) ⟨hg, z, us, r, ⟨_, hg, rfl, _, rfl⟩⟩
  exact this
def tTupD (t : TA) : TE := fun σ H Q => t σ H fun xs H1 => xs.length ≤ sizeLine ∧ ∀ p its, H1 p = none → Q (.ref p) (newTup H1 p its xs)
theorem pe_tupD {es : List Expr} {t : TA} {pos : Pos} {x1} (h : PA X es t) : PE X (.Tuple es x1 pos) (tTupD t) := by
  refine ⟨fun pins s σ H Q I hq => wpAny_Tuple_spliced (thn (h.run pos pins s σ H _ I hq) ?_)⟩
  rintro us s1 ⟨xs, H1, I1, r, z, q⟩
  obtain ⟨J, hf⟩ := lay_tup I1 r z
  exact ⟨r.length ▸ z, .ref _, _, J, rfl, q _ us hf⟩
theorem call_tupleD : CallR X (.type "tuple") (fun xs H Q => ∃ p ys, xs = [.ref p] ∧ ((SqL X.K H p ys ∧ ∀ l its, H l = none → Q (.ref l) (newTup H l its ys)) ∨ (SqT X.K H p ys ∧ Q (.ref p) H))) := by
  rintro pins s σ H xs us Q I r ⟨p, ys, rfl, h⟩
  rw [Vals.ref1 r]
  rcases h with ⟨hq, q⟩ | ⟨hq, q⟩
  · obtain ⟨its, rv, pl, hz⟩ := I.list hq
    refine call_tuple_list pl.isList (fun h' kp => ?_) (by rw [List.size_toArray, ← rv.length]; exact hz)
    obtain ⟨J, hf⟩ := lay_tup (I.kept (t' := s.toks) kp : Inv X pins σ H { s with heap := h' }) rv hz
    exact ⟨.ref _, _, J, rfl, q _ its hf⟩
  · obtain ⟨its, _, pl, _⟩ := I.tuple hq
    exact call_tuple_same pl ⟨.ref _, H, I, rfl, q⟩
def rCatD (K : PySem.W.Frag) : R2 := fun x y H Q => ∃ a b xs ys, x = .ref a ∧ y = .ref b ∧ SqT K H a xs ∧ SqT K H b ys ∧ xs.length + ys.length ≤ sizeLine ∧
  (xs = [] → Q (.ref b) H) ∧ (xs ≠ [] → ys = [] → Q (.ref a) H) ∧ (xs ≠ [] → ys ≠ [] → ∀ p its, H p = none → Q (.ref p) (newTup H p its (xs ++ ys)))
theorem op_catD : OpR X (binaryOp .Add) (rCatD X.K) := by
  rintro pins s σ H x y v u Q I rx ry ⟨a, b, xs, ys, rfl, rfl, ha, hb, hz, q0, q1, q2⟩
  cases rx; cases ry
  obtain ⟨i1, r1, p1, _⟩ := I.tuple ha
  obtain ⟨i2, r2, p2, _⟩ := I.tuple hb
  by_cases hx : xs = []
  · rw [r1.nil_iff.mpr hx] at p1
    exact cat_tup0 p1 p2 ⟨.ref _, H, I, rfl, q0 hx⟩
  · refine HT.cat_tup p1 p2 (fun z => hx (r1.nil_iff.mp z)) (fun z => ⟨.ref _, H, I, rfl, q1 hx (r2.nil_iff.mp z)⟩) (fun z => ?_) (by rw [← r1.length, ← r2.length]; exact hz)
    obtain ⟨J, hf⟩ := lay_tup I (r1.append r2) (by rw [List.length_append]; exact hz)
    exact ⟨.ref _, _, J, rfl, q2 hx (fun w => z (r2.nil_iff.mpr w)) _ _ hf⟩
def rSlD (K : PySem.W.Frag) : V → Option Int → Option Int → Hp → VK → Prop := fun x lo hi H Q => ∃ a xs, x = .ref a ∧ SqT K H a xs ∧
  (HT.sIx xs.length 0 lo = 0 ∧ HT.sIx xs.length xs.length hi = xs.length → Q (.ref a) H) ∧ (¬ (HT.sIx xs.length 0 lo = 0 ∧ HT.sIx xs.length xs.length hi = xs.length) → ∀ p its, H p = none → Q (.ref p) (newTup H p its (cutV xs lo hi)))
theorem sl_tupD : SlR X (rSlD X.K) := by
  rintro pins s σ H x v vl vu lo hi sl Q I rx hs pl pu ⟨a, xs, rfl, hx, q1, q2⟩
  cases rx
  obtain ⟨its, r, ht, hz⟩ := I.tuple hx
  have hlen : its.toArray.size = xs.length := (List.size_toArray (as := its)).trans r.length.symm
  refine ⟨"tuple", _, PyProof.Rows.slot_tuple_getitem.lookup, ht.typeIs, ?_⟩
  by_cases hw : HT.sIx xs.length 0 lo = 0 ∧ HT.sIx xs.length xs.length hi = xs.length
  · exact getItem_tuple_whole ht hs pl pu (hlen ▸ hw) ⟨.ref _, H, I, rfl, q1 hw⟩
  · refine HT.getItem_tuple_cut ht hs pl pu (hlen ▸ hw) ?_ (hlen ▸ hz)
    rw [hlen]
    obtain ⟨J, hf⟩ := lay_tup (xs := cutV xs lo hi) I ((r.drop (HT.sIx xs.length 0 lo)).take (HT.sIx xs.length xs.length hi - HT.sIx xs.length 0 lo)) (Nat.le_trans (cutV_length xs lo hi) hz)
    exact ⟨.ref _, _, J, rfl, q2 hw _ _ hf⟩
end
end WL
set_option Elab.async false
set_option linter.all false
set_option autoImplicit false
set_option maxRecDepth 100000
namespace WL
open PySem PySem.Spec L2

/-! ### values by what they hold -/
inductive D where
  | non | bl (b : Bool) | int (i : Int) | str (x : List Nat) | tup (xs : List D) | lst (xs : List D) | dct (ks vs : List D) | box

abbrev mkS (x : List Nat) : Str := ⟨x.toArray⟩
theorem mkS_len (x : List Nat) : (mkS x).length = x.length := by simp [mkS, Str.length]
theorem mkS_inj {x y : List Nat} : mkS x = mkS y ↔ x = y := by
  constructor
  · intro h
    have := congrArg (fun s : Str => s.cps.toList) h
    simpa [mkS] using this
  · intro h; rw [h]

/-- the one thing that calls may change in place -/
structure Bx where
  at_ : Addr
  foot : Addr → Prop
  inv : Hp → Prop
  loc : ∀ H H' : Hp, (∀ a, foot a → H' a = H a) → inv H → inv H'
  there : ∀ H : Hp, inv H → ∀ a, foot a → H a ≠ none

def Ex (H H' : Hp) : Prop := ∀ a o, H a = some o → H' a = some o
theorem Ex.refl (H : Hp) : Ex H H := fun _ _ h => h
theorem Ex.trans {H H1 H2 : Hp} (a : Ex H H1) (b : Ex H1 H2) : Ex H H2 := fun x o h => b x o (a x o h)
theorem Ex.new {H : Hp} {p : Addr} {o : HO} (h : H p = none) : Ex H (upd H p o) := fun a u e => by
  rw [upd_ne (ne_of_none e h)]
  exact e
theorem ex_rd {H H' : Hp} {a : Addr} {u : HO} (e : Ex H H') (h : Rd H a u) : Rd H' a u := by
  rcases h with h | ⟨o, h⟩
  · exact Or.inl (e a _ h)
  · exact Or.inr ⟨o, e a _ h⟩
theorem ex_l {K : PySem.W.Frag} {H H' : Hp} {a : Addr} {xs : List V} (e : Ex H H') (h : SqL K H a xs) : SqL K H' a xs := h.imp (ex_rd e) id
theorem ex_t {K : PySem.W.Frag} {H H' : Hp} {a : Addr} {xs : List V} (e : Ex H H') (h : SqT K H a xs) : SqT K H' a xs := h.imp (ex_rd e) id

/-- a text of ASCII signs within the line -/
def okS (x : List Nat) : Prop := x.length ≤ sizeLine ∧ ∀ c ∈ x, c < 128
/-- a key of a dict with whole numbers and texts as keys -/
def keyD : D → Option Key
  | .int i => some (.inl i)
  | .str x => some (.inr (mkS x))
  | _ => none

mutual
def Rep (K : PySem.W.Frag) (β : Bx) (F : Hp) : D → V → Prop
  | .non, v => v = .non
  | .bl b, v => v = .bl b
  | .int i, v => v = .int i
  | .str x, v => v = .str (mkS x) ∧ okS x
  | .tup ds, v => ∃ a vs, v = .ref a ∧ SqD F a vs ∧ ds.length ≤ sizeLine ∧ RepL K β F ds vs
  | .lst ds, v => ∃ a vs, v = .ref a ∧ F a = some (.lst vs) ∧ ds.length ≤ sizeLine ∧ RepL K β F ds vs
  | .dct ks ds, v => ∃ a kvs, v = .ref a ∧ F a = some (.dK kvs) ∧ ks.map keyD = kvs.map (fun p => some p.1) ∧ RepL K β F ds (kvs.map (·.2))
  | .box, v => v = .ref β.at_
def RepL (K : PySem.W.Frag) (β : Bx) (F : Hp) : List D → List V → Prop
  | [], vs => vs = []
  | d :: ds, vs => ∃ v ws, vs = v :: ws ∧ Rep K β F d v ∧ RepL K β F ds ws
end

section
variable {K : PySem.W.Frag} {β : Bx} {F F' H H' : Hp}
mutual
theorem Rep.mono (e : Ex F F') : ∀ {d : D} {v : V}, Rep K β F d v → Rep K β F' d v
  | .non, _, h => by rw [Rep] at h ⊢; exact h
  | .bl _, _, h => by rw [Rep] at h ⊢; exact h
  | .int _, _, h => by rw [Rep] at h ⊢; exact h
  | .str _, _, h => by rw [Rep] at h ⊢; exact h
  | .tup ds, _, h => by
    rw [Rep] at h ⊢
    obtain ⟨a, vs, h1, h2, h3, h4⟩ := h
    exact ⟨a, vs, h1, h2.mono e, h3, RepL.mono e h4⟩
  | .lst ds, _, h => by
    rw [Rep] at h ⊢
    obtain ⟨a, vs, h1, h2, h3, h4⟩ := h
    exact ⟨a, vs, h1, e _ _ h2, h3, RepL.mono e h4⟩
  | .dct ks ds, _, h => by
    rw [Rep] at h ⊢
    obtain ⟨a, kvs, h1, h2, h3, h4⟩ := h
    exact ⟨a, kvs, h1, e _ _ h2, h3, RepL.mono e h4⟩
  | .box, _, h => by rw [Rep] at h ⊢; exact h
theorem RepL.mono (e : Ex F F') : ∀ {ds : List D} {vs : List V}, RepL K β F ds vs → RepL K β F' ds vs
  | [], _, h => by rw [RepL] at h ⊢; exact h
  | d :: ds, _, h => by
    rw [RepL] at h ⊢
    obtain ⟨v, ws, h1, h2, h3⟩ := h
    exact ⟨v, ws, h1, Rep.mono e h2, RepL.mono e h3⟩
end
theorem RepL.length : ∀ {ds : List D} {vs : List V}, RepL K β F ds vs → vs.length = ds.length
  | [], _, h => by rw [RepL] at h; rw [h]; rfl
  | d :: ds, _, h => by
    rw [RepL] at h
    obtain ⟨v, ws, h1, h2, h3⟩ := h
    rw [h1, List.length_cons, List.length_cons, RepL.length h3]
theorem RepL.nil : RepL K β F [] [] := by rw [RepL]
theorem RepL.cons {d : D} {ds : List D} {v : V} {vs : List V} (h : Rep K β F d v) (t : RepL K β F ds vs) : RepL K β F (d :: ds) (v :: vs) := by
  rw [RepL]; exact ⟨v, vs, rfl, h, t⟩
theorem RepL.append : ∀ {ds es : List D} {vs ws : List V}, RepL K β F ds vs → RepL K β F es ws → RepL K β F (ds ++ es) (vs ++ ws)
  | [], _, _, _, h, t => by rw [RepL] at h; rw [h]; exact t
  | d :: ds, es, _, ws, h, t => by
    rw [RepL] at h
    obtain ⟨v, us, rfl, h2, h3⟩ := h
    exact RepL.cons h2 (RepL.append h3 t)
theorem RepL.get : ∀ {ds : List D} {vs : List V} {i : Nat} {d : D}, RepL K β F ds vs → ds[i]? = some d → ∃ v, vs[i]? = some v ∧ Rep K β F d v
  | [], _, _, _, _, e => by simp at e
  | d :: ds, _, 0, _, h, e => by
    rw [RepL] at h
    obtain ⟨v, us, rfl, h2, h3⟩ := h
    simp at e; subst e
    exact ⟨v, by simp, h2⟩
  | d :: ds, _, i + 1, _, h, e => by
    rw [RepL] at h
    obtain ⟨v, us, rfl, h2, h3⟩ := h
    obtain ⟨w, e1, e2⟩ := RepL.get (i := i) h3 (by simpa using e)
    exact ⟨w, by simpa using e1, e2⟩
theorem RepL.getV {ds : List D} {vs : List V} {i : Nat} {v : V} (h : RepL K β F ds vs) (e : vs[i]? = some v) : ∃ d, ds[i]? = some d ∧ Rep K β F d v := by
  have hl := h.length
  have hi : i < ds.length := by rw [← hl]; exact (List.getElem?_eq_some_iff.mp e).1
  obtain ⟨w, e1, e2⟩ := h.get (i := i) (d := ds[i]) (by simp [hi])
  rw [e] at e1; cases e1
  exact ⟨ds[i], by simp [hi], e2⟩
theorem RepL.set : ∀ {ds : List D} {vs : List V} (i : Nat) {d : D} {v : V}, RepL K β F ds vs → Rep K β F d v → RepL K β F (ds.set i d) (vs.set i v)
  | [], _, _, _, _, h, _ => by rw [RepL] at h; rw [h]; exact RepL.nil
  | _ :: _, _, 0, _, _, h, t => by
    rw [RepL] at h
    obtain ⟨v, us, rfl, h2, h3⟩ := h
    exact RepL.cons t h3
  | _ :: _, _, i + 1, _, _, h, t => by
    rw [RepL] at h
    obtain ⟨v, us, rfl, h2, h3⟩ := h
    exact RepL.cons h2 (RepL.set i h3 t)
theorem RepL.take : ∀ {ds : List D} {vs : List V} (i : Nat), RepL K β F ds vs → RepL K β F (ds.take i) (vs.take i)
  | [], _, _, h => by rw [RepL] at h; rw [h]; simpa using RepL.nil
  | _ :: _, _, 0, _ => by simpa using RepL.nil
  | _ :: _, _, i + 1, h => by
    rw [RepL] at h
    obtain ⟨v, us, rfl, h2, h3⟩ := h
    exact RepL.cons h2 (RepL.take i h3)
theorem RepL.drop : ∀ {ds : List D} {vs : List V} (i : Nat), RepL K β F ds vs → RepL K β F (ds.drop i) (vs.drop i)
  | [], _, _, h => by rw [RepL] at h; rw [h]; simpa using RepL.nil
  | _ :: _, _, 0, h => h
  | _ :: _, _, i + 1, h => by
    rw [RepL] at h
    obtain ⟨v, us, rfl, h2, h3⟩ := h
    exact RepL.drop i h3
theorem RepL.rep : ∀ {ds : List D} {vs : List V} (k : Nat), RepL K β F ds vs → RepL K β F (List.replicate k ds).flatten (List.replicate k vs).flatten
  | _, _, 0, _ => RepL.nil
  | _, _, k + 1, h => by
    rw [List.replicate_succ, List.replicate_succ, List.flatten_cons, List.flatten_cons]
    exact h.append (RepL.rep k h)
theorem RepL.erase : ∀ {ds : List D} {vs : List V} (i : Nat), RepL K β F ds vs → RepL K β F (ds.eraseIdx i) (vs.eraseIdx i)
  | [], _, _, h => by rw [RepL] at h; rw [h]; exact RepL.nil
  | _ :: _, _, 0, h => by
    rw [RepL] at h
    obtain ⟨v, us, rfl, h2, h3⟩ := h
    exact h3
  | _ :: _, _, i + 1, h => by
    rw [RepL] at h
    obtain ⟨v, us, rfl, h2, h3⟩ := h
    exact RepL.cons h2 (RepL.erase i h3)
end

/-! ### what stands in a slot -/
inductive Slot where
  | un | val (d : D) | own (d : D)
/-- what an expression gives: a value; a new object that nobody else holds; the object of a slot -/
inductive R where
  | val (d : D) | own (d : D) | bor (i : Nat) (d : D)
@[reducible] def R.d : R → D
  | .val d => d
  | .own d => d
  | .bor _ d => d
@[reducible] def R.fz : R → R
  | .own d => .val d
  | r => r
abbrev WEnv := List Slot
def ObjAt (K : PySem.W.Frag) (β : Bx) (F H : Hp) (a : Addr) : D → Prop
  | .lst ds => ∃ vs, H a = some (.lst vs) ∧ ds.length ≤ sizeLine ∧ RepL K β F ds vs
  | .dct ks ds => ∃ kvs, H a = some (.dK kvs) ∧ ks.map keyD = kvs.map (fun p => some p.1) ∧ RepL K β F ds (kvs.map (·.2))
  | _ => False
structure Rel (K : PySem.W.Frag) (β : Bx) (F Hf : Hp) (ρ : WEnv) (σ : L2.St) (H : Hp) : Prop where
  fex : ∀ a o, F a = some o → H a = some o
  hex : ∀ a o, Hf a = some o → H a = some o ∧ F a = none
  bx : β.inv H
  bxF : ∀ a, β.foot a → F a = none ∧ Hf a = none
  len : ρ.length = σ.length
  val : ∀ (i : Nat) d, ρ[i]? = some (Slot.val d) → ∃ v, σ[i]? = some (some v) ∧ Rep K β F d v
  own : ∀ (i : Nat) d, ρ[i]? = some (Slot.own d) → ∃ a, σ[i]? = some (some (V.ref a)) ∧ F a = none ∧ Hf a = none ∧ ¬ β.foot a ∧ ObjAt K β F H a d
  sep : ∀ (i j : Nat) di dj a, ρ[i]? = some (Slot.own di) → ρ[j]? = some (Slot.own dj) → σ[i]? = some (some (V.ref a)) → σ[j]? = some (some (V.ref a)) → i = j
/-- nobody's own: a is not the object of a slot -/
def NoOwn (ρ : WEnv) (σ : L2.St) (a : Addr) : Prop := ∀ (i : Nat) d, ρ[i]? = some (Slot.own d) → σ[i]? ≠ some (some (V.ref a))
def RepR (K : PySem.W.Frag) (β : Bx) (F Hf : Hp) (ρ : WEnv) (σ : L2.St) (H : Hp) : R → V → Prop
  | .val d, v => Rep K β F d v
  | .own d, v => ∃ a, v = .ref a ∧ F a = none ∧ Hf a = none ∧ ¬ β.foot a ∧ NoOwn ρ σ a ∧ ObjAt K β F H a d
  | .bor i d, v => ρ[i]? = some (Slot.own d) ∧ σ[i]? = some (some v)
/-- what stays while other things are asked -/
def RepA (K : PySem.W.Frag) (β : Bx) (F : Hp) (ρ : WEnv) (σ : L2.St) : R → V → Prop
  | .val d, v => Rep K β F d v
  | .own _, _ => False
  | .bor i d, v => ρ[i]? = some (Slot.own d) ∧ σ[i]? = some (some v)
/-- what can be read -/
def RepO (K : PySem.W.Frag) (β : Bx) (F H : Hp) (d : D) (v : V) : Prop := Rep K β F d v ∨ ∃ a, v = .ref a ∧ ObjAt K β F H a d

section
variable {K : PySem.W.Frag} {β : Bx} {F F' Hf H H' : Hp} {ρ : WEnv} {σ : L2.St}
theorem ObjAt.mono {a : Addr} {d : D} (e : Ex F F') (h : ObjAt K β F H a d) : ObjAt K β F' H a d := by
  cases d <;> first
    | exact h
    | (obtain ⟨vs, h1, h2, h3⟩ := h; exact ⟨vs, h1, h2, h3.mono e⟩)
theorem ObjAt.at {a : Addr} {d : D} (e : H' a = H a) (h : ObjAt K β F H a d) : ObjAt K β F H' a d := by
  cases d <;> first
    | exact h
    | (obtain ⟨vs, h1, h2, h3⟩ := h; exact ⟨vs, e.trans h1, h2, h3⟩)
theorem ObjAt.some {a : Addr} {d : D} (h : ObjAt K β F H a d) : ∃ o, H a = some o := by
  cases d <;> first
    | exact h.elim
    | (obtain ⟨vs, h1, _⟩ := h; exact ⟨_, h1⟩)
theorem RepA.mono {r : R} {v : V} (e : Ex F F') (h : RepA K β F ρ σ r v) : RepA K β F' ρ σ r v := by
  cases r with
  | val d => exact Rep.mono e h
  | own d => exact h
  | bor i d => exact h
theorem RepA.rd (I : Rel K β F Hf ρ σ H) {r : R} {v : V} (h : RepA K β F ρ σ r v) : RepO K β F H r.d v := by
  cases r with
  | val d => exact .inl h
  | own d => exact h.elim
  | bor i d =>
    obtain ⟨h1, h2⟩ := h
    obtain ⟨a, e, _, _, _, ob⟩ := I.own i d h1
    rw [e] at h2
    cases h2
    exact .inr ⟨a, rfl, ob⟩
theorem RepO.lst (I : Rel K β F Hf ρ σ H) {ds : List D} {v : V} (h : RepO K β F H (.lst ds) v) : ∃ a vs, v = .ref a ∧ H a = some (.lst vs) ∧ ds.length ≤ sizeLine ∧ RepL K β F ds vs := by
  rcases h with h | ⟨a, e, h⟩
  · rw [Rep] at h
    obtain ⟨a, vs, h1, h2, h3, h4⟩ := h
    exact ⟨a, vs, h1, I.fex _ _ h2, h3, h4⟩
  · obtain ⟨vs, h1, h2, h3⟩ := h
    exact ⟨a, vs, e, h1, h2, h3⟩
theorem RepO.tupD (I : Rel K β F Hf ρ σ H) {ds : List D} {v : V} (h : RepO K β F H (.tup ds) v) : ∃ a vs, v = .ref a ∧ SqD H a vs ∧ ds.length ≤ sizeLine ∧ RepL K β F ds vs := by
  rcases h with h | ⟨a, e, h⟩
  · rw [Rep] at h
    obtain ⟨a, vs, h1, h2, h3, h4⟩ := h
    exact ⟨a, vs, h1, h2.mono I.fex, h3, h4⟩
  · exact h.elim
theorem RepO.tup (I : Rel K β F Hf ρ σ H) {ds : List D} {v : V} (h : RepO K β F H (.tup ds) v) : ∃ a vs, v = .ref a ∧ SqT K H a vs ∧ ds.length ≤ sizeLine ∧ RepL K β F ds vs :=
  let ⟨a, vs, h1, h2, h3⟩ := h.tupD I; ⟨a, vs, h1, h2.sq, h3⟩
theorem RepO.int {i : Int} {v : V} (h : RepO K β F H (.int i) v) : v = .int i := by
  rcases h with h | ⟨a, e, h⟩
  · rwa [Rep] at h
  · exact h.elim
theorem RepO.bl {i : Bool} {v : V} (h : RepO K β F H (.bl i) v) : v = .bl i := by
  rcases h with h | ⟨a, e, h⟩
  · rwa [Rep] at h
  · exact h.elim
theorem RepO.non {v : V} (h : RepO K β F H .non v) : v = .non := by
  rcases h with h | ⟨a, e, h⟩
  · rwa [Rep] at h
  · exact h.elim
theorem RepO.str {x : List Nat} {v : V} (h : RepO K β F H (.str x) v) : v = .str (mkS x) ∧ okS x := by
  rcases h with h | ⟨a, e, h⟩
  · rwa [Rep] at h
  · exact h.elim
/-- a new object, given away -/
theorem Rel.freeze (I : Rel K β F Hf ρ σ H) {a : Addr} {d : D} (h1 : F a = none) (h2 : Hf a = none) (h3 : ¬ β.foot a) (h4 : NoOwn ρ σ a) (h5 : ObjAt K β F H a d) :
    ∃ F', Ex F F' ∧ Rel K β F' Hf ρ σ H ∧ Rep K β F' d (.ref a) := by
  obtain ⟨o, ho⟩ := h5.some
  have e : Ex F (upd F a o) := Ex.new h1
  refine ⟨upd F a o, e, ⟨fun b u hb => ?_, fun b u hb => ?_, I.bx, fun b hb => ?_, I.len, fun i d' h => ?_, fun i d' h => ?_, I.sep⟩, ?_⟩
  · by_cases hba : b = a
    · subst hba
      rw [upd_same] at hb
      rw [ho]; exact hb
    · rw [upd_ne hba] at hb
      exact I.fex b u hb
  · obtain ⟨q1, q2⟩ := I.hex b u hb
    have hba : b ≠ a := fun z => by subst z; rw [h2] at hb; cases hb
    exact ⟨q1, by rw [upd_ne hba]; exact q2⟩
  · obtain ⟨q1, q2⟩ := I.bxF b hb
    have hba : b ≠ a := fun z => h3 (z ▸ hb)
    exact ⟨by rw [upd_ne hba]; exact q1, q2⟩
  · obtain ⟨v, q1, q2⟩ := I.val i d' h
    exact ⟨v, q1, q2.mono e⟩
  · obtain ⟨b, q1, q2, q3, q4, q5⟩ := I.own i d' h
    have hba : b ≠ a := fun z => h4 i d' h (z ▸ q1)
    exact ⟨b, q1, by rw [upd_ne hba]; exact q2, q3, q4, q5.mono e⟩
  · cases d <;> first
      | exact h5.elim
      | (obtain ⟨vs, g1, g2, g3⟩ := h5
         rw [ho] at g1; cases g1
         rw [Rep]
         exact ⟨a, vs, rfl, upd_same, g2, g3.mono e⟩)
      | (obtain ⟨kvs, g1, g2, g3⟩ := h5
         rw [ho] at g1; cases g1
         rw [Rep]
         exact ⟨a, kvs, rfl, upd_same, g2, g3.mono e⟩)
/-- what an expression gave, kept -/
theorem RepR.keep (I : Rel K β F Hf ρ σ H) {r : R} {v : V} (h : RepR K β F Hf ρ σ H r v) : ∃ F', Ex F F' ∧ Rel K β F' Hf ρ σ H ∧ RepA K β F' ρ σ r.fz v := by
  cases r with
  | val d => exact ⟨F, Ex.refl F, I, h⟩
  | own d =>
    obtain ⟨a, rfl, h1, h2, h3, h4, h5⟩ := h
    obtain ⟨F', e, I', q⟩ := I.freeze h1 h2 h3 h4 h5
    exact ⟨F', e, I', q⟩
  | bor i d => exact ⟨F, Ex.refl F, I, h⟩
/-- the heap grows by an object that is nobody's -/
theorem Rel.grow (I : Rel K β F Hf ρ σ H) {p : Addr} {o : HO} (hp : H p = none) : Rel K β F Hf ρ σ (upd H p o) := by
  have e : Ex H (upd H p o) := Ex.new hp
  have ne : ∀ b u, H b = some u → b ≠ p := fun b u h z => by rw [z, hp] at h; cases h
  refine ⟨fun b u hb => e _ _ (I.fex b u hb), fun b u hb => ⟨e _ _ (I.hex b u hb).1, (I.hex b u hb).2⟩, ?_, I.bxF, I.len, I.val, fun i d h => ?_, I.sep⟩
  · refine β.loc H _ (fun a ha => ?_) I.bx
    have : a ≠ p := fun z => β.there H I.bx a ha (z ▸ hp)
    rw [upd_ne this]
  · obtain ⟨b, q1, q2, q3, q4, q5⟩ := I.own i d h
    obtain ⟨o', ho⟩ := q5.some
    exact ⟨b, q1, q2, q3, q4, q5.at (by rw [upd_ne (ne b o' ho)])⟩
theorem Rel.none_of (I : Rel K β F Hf ρ σ H) {p : Addr} (hp : H p = none) : F p = none ∧ Hf p = none ∧ ¬ β.foot p ∧ NoOwn ρ σ p := by
  refine ⟨?_, ?_, fun z => β.there H I.bx p z hp, fun i d h z => ?_⟩
  · cases h : F p with
    | none => rfl
    | some o => rw [I.fex p o h] at hp; cases hp
  · cases h : Hf p with
    | none => rfl
    | some o => rw [(I.hex p o h).1] at hp; cases hp
  · obtain ⟨b, q1, _, _, _, q5⟩ := I.own i d h
    rw [q1] at z; cases z
    obtain ⟨o, ho⟩ := q5.some
    rw [hp] at ho; cases ho
/-- .. a new list, tuple: nobody's yet -/
theorem Rel.newL (I : Rel K β F Hf ρ σ H) {p : Addr} {vs : List V} {ds : List D} (hp : H p = none) (hz : ds.length ≤ sizeLine) (h : RepL K β F ds vs) :
    Rel K β F Hf ρ σ (upd H p (.lst vs)) ∧ RepR K β F Hf ρ σ (upd H p (.lst vs)) (.own (.lst ds)) (.ref p) := by
  obtain ⟨q1, q2, q3, q4⟩ := I.none_of hp
  exact ⟨I.grow hp, p, rfl, q1, q2, q3, q4, vs, upd_same, hz, h⟩
theorem Rel.newT (I : Rel K β F Hf ρ σ H) {p : Addr} {its : List Value} {vs : List V} {ds : List D} (hp : H p = none) (hz : ds.length ≤ sizeLine) (h : RepL K β F ds vs) :
    ∃ F', Ex F F' ∧ Rel K β F' Hf ρ σ (upd H p (.frz (tupO its) (.tup vs))) ∧ Rep K β F' (.tup ds) (.ref p) := by
  obtain ⟨h1, h2, h3, h4⟩ := I.none_of hp
  have e : Ex F (upd F p (.frz (tupO its) (.tup vs))) := Ex.new h1
  have I1 := I.grow (o := .frz (tupO its) (.tup vs)) hp
  refine ⟨upd F p (.frz (tupO its) (.tup vs)), e, ⟨fun b u hb => ?_, fun b u hb => ?_, I1.bx, fun b hb => ?_, I.len, fun i d' h => ?_, fun i d' h => ?_, I.sep⟩, ?_⟩
  · by_cases hba : b = p
    · subst hba
      rw [upd_same] at hb ⊢
      exact hb
    · rw [upd_ne hba] at hb
      exact I1.fex b u hb
  · obtain ⟨q1, q2⟩ := I1.hex b u hb
    have hba : b ≠ p := fun z => by subst z; rw [h2] at hb; cases hb
    exact ⟨q1, by rw [upd_ne hba]; exact q2⟩
  · obtain ⟨q1, q2⟩ := I.bxF b hb
    have hba : b ≠ p := fun z => h3 (z ▸ hb)
    exact ⟨by rw [upd_ne hba]; exact q1, q2⟩
  · obtain ⟨v, q1, q2⟩ := I.val i d' h
    exact ⟨v, q1, q2.mono e⟩
  · obtain ⟨b, q1, q2, q3, q4, q5⟩ := I1.own i d' h
    have hba : b ≠ p := fun z => h4 i d' h (z ▸ q1)
    exact ⟨b, q1, by rw [upd_ne hba]; exact q2, q3, q4, q5.mono e⟩
  · rw [Rep]
    exact ⟨p, vs, rfl, ⟨its, upd_same⟩, hz, h.mono e⟩
end

/-! ### expressions -/
abbrev WE := WEnv → (R → Prop) → Prop
abbrev WT := WEnv → (Bool → Prop) → Prop
abbrev WAs := WEnv → (List R → Prop) → Prop
def tW (K : PySem.W.Frag) (β : Bx) (w : WE) : TE := fun σ H Q => ∃ F Hf ρ, Rel K β F Hf ρ σ H ∧ w ρ fun r => ∀ F' H' v, Ex F F' → Rel K β F' Hf ρ σ H' → RepR K β F' Hf ρ σ H' r v → Q v H'
/-- .. as an operand -/
def tO (K : PySem.W.Frag) (β : Bx) (w : WE) : TE := fun σ H Q => ∃ F Hf ρ, Rel K β F Hf ρ σ H ∧ w ρ fun r => ∀ F' H' v, Ex F F' → Rel K β F' Hf ρ σ H' → RepA K β F' ρ σ r.fz v → Q v H'
def tWT (K : PySem.W.Frag) (β : Bx) (w : WT) : TT := fun σ H Q => ∃ F Hf ρ, Rel K β F Hf ρ σ H ∧ w ρ fun b => ∀ F' H', Ex F F' → Rel K β F' Hf ρ σ H' → Q b H'
inductive RepAs (K : PySem.W.Frag) (β : Bx) (F : Hp) (ρ : WEnv) (σ : L2.St) : List R → List V → Prop
  | nil : RepAs K β F ρ σ [] []
  | cons {r : R} {v : V} {rs : List R} {vs : List V} : RepA K β F ρ σ r v → RepAs K β F ρ σ rs vs → RepAs K β F ρ σ (r :: rs) (v :: vs)
def tWA (K : PySem.W.Frag) (β : Bx) (w : WAs) : TA := fun σ H Q => ∃ F Hf ρ, Rel K β F Hf ρ σ H ∧ w ρ fun rs => ∀ F' H' vs, Ex F F' → Rel K β F' Hf ρ σ H' → RepAs K β F' ρ σ rs vs → Q vs H'
structure PW (X : Cx) (β : Bx) (e : Expr) (w : WE) : Prop where
  mono : ∀ ρ P P', (∀ r, P r → P' r) → w ρ P → w ρ P'
  run : PE X e (tW X.K β w)
structure PWT (X : Cx) (β : Bx) (e : Expr) (w : WT) : Prop where
  mono : ∀ ρ P P', (∀ r, P r → P' r) → w ρ P → w ρ P'
  run : PT X e (tWT X.K β w)
structure PWA (X : Cx) (β : Bx) (es : List Expr) (w : WAs) : Prop where
  mono : ∀ ρ P P', (∀ r, P r → P' r) → w ρ P → w ρ P'
  run : PA X es (tWA X.K β w)
theorem imp_E {X : Cx} {e : Expr} {t t' : TE} (h : PE X e t) (i : ∀ σ H Q, t' σ H Q → t σ H Q) : PE X e t' := ⟨fun pins s σ H Q I q => h.run pins s σ H Q I (i σ H Q q)⟩
theorem imp_T {X : Cx} {e : Expr} {t t' : TT} (h : PT X e t) (i : ∀ σ H Q, t' σ H Q → t σ H Q) : PT X e t' := ⟨fun pins s σ H Q I q => h.run pins s σ H Q I (i σ H Q q)⟩
theorem imp_A {X : Cx} {es : List Expr} {t t' : TA} (h : PA X es t) (i : ∀ σ H Q, t' σ H Q → t σ H Q) : PA X es t' := ⟨fun pos pins s σ H Q I q => h.run pos pins s σ H Q I (i σ H Q q)⟩
section
variable {X : Cx} {β : Bx} {a b c e : Expr} {w wa wb wc : WE} {pos : Pos}
theorem PW.opnd (h : PW X β e w) : PE X e (tO X.K β w) := imp_E h.run fun σ H Q q => by
  obtain ⟨F, Hf, ρ, I, q⟩ := q
  refine ⟨F, Hf, ρ, I, h.mono ρ _ _ (fun r k F' H' v e I' rr => ?_) q⟩
  obtain ⟨F2, e2, I2, r2⟩ := rr.keep I'
  exact k F2 H' v (e.trans e2) I2 r2

/-! names, constants -/
def wName (i : Nat) : WE := fun ρ P => match ρ[i]? with
  | some (.val d) => P (.val d)
  | some (.own d) => P (.bor i d)
  | _ => False
theorem pw_name (i : Nat) {x : Str} (h : PE X (.Name x pos) (tVar i)) : PW X β (.Name x pos) (wName i) := by
  refine ⟨fun ρ P P' k q => ?_, imp_E h fun σ H Q q => ?_⟩
  · unfold wName at q ⊢
    split at q
    · exact k _ q
    · exact k _ q
    · exact q.elim
  · obtain ⟨F, Hf, ρ, I, q⟩ := q
    unfold wName at q
    split at q
    · rename_i d hd
      obtain ⟨v, e, r⟩ := I.val i d hd
      exact ⟨v, e, q F H v (Ex.refl F) I r⟩
    · rename_i d hd
      obtain ⟨a, e, _⟩ := I.own i d hd
      exact ⟨.ref a, e, q F H _ (Ex.refl F) I ⟨hd, e⟩⟩
    · exact q.elim
def wC (d : D) : WE := fun _ P => P (.val d)
theorem pw_c {d : D} {v : V} (h : PE X e (tC v)) (r : ∀ F, Rep X.K β F d v) : PW X β e (wC d) :=
  ⟨fun ρ P P' k q => k _ q, imp_E h fun σ H Q ⟨F, Hf, ρ, I, q⟩ => q F H v (Ex.refl F) I (r F)⟩
theorem pw_int {i j} : PW X β (.Constant (.int i) j pos) (wC (.int i)) := pw_c pe_int fun F => by rw [Rep]
theorem pw_bl {i j} : PW X β (.Constant (.bool i) j pos) (wC (.bl i)) := pw_c pe_bl fun F => by rw [Rep]
theorem pw_non {j} : PW X β (.Constant .none j pos) (wC .non) := pw_c pe_non fun F => by rw [Rep]
theorem pw_str {x : Str} {l : List Nat} {j} (h : x.cps.toList = l) (hz : okS l) : PW X β (.Constant (.str x) j pos) (wC (.str l)) := pw_c pe_str fun F => by
  rw [Rep]
  refine ⟨?_, hz⟩
  rw [← h]

/-! operators -/
abbrev OD := D → D → (R → Prop) → Prop
abbrev UD := D → (R → Prop) → Prop
/-- what follows: for any growth -/
def Kt (K : PySem.W.Frag) (β : Bx) (F Hf : Hp) (ρ : WEnv) (σ : L2.St) (Q : VK) (r : R) : Prop := ∀ F' H' v, Ex F F' → Rel K β F' Hf ρ σ H' → RepR K β F' Hf ρ σ H' r v → Q v H'
structure OpD (X : Cx) (β : Bx) (f : Value → Value → Sem Value) (o : OD) : Prop where
  mono : ∀ d e P P', (∀ r, P r → P' r) → o d e P → o d e P'
  ex : ∃ rr : R2, OpR X f rr ∧ ∀ F Hf ρ σ H d e x y Q, Rel X.K β F Hf ρ σ H → RepO X.K β F H d x → RepO X.K β F H e y → o d e (Kt X.K β F Hf ρ σ Q) → rr x y H Q
structure UnD (X : Cx) (β : Bx) (f : Value → Sem Value) (o : UD) : Prop where
  mono : ∀ d P P', (∀ r, P r → P' r) → o d P → o d P'
  ex : ∃ rr : V → Hp → VK → Prop, UnR X f rr ∧ ∀ F Hf ρ σ H d x Q, Rel X.K β F Hf ρ σ H → RepO X.K β F H d x → o d (Kt X.K β F Hf ρ σ Q) → rr x H Q
def wOp (o : OD) (wa wb : WE) : WE := fun ρ P => wa ρ fun r => wb ρ fun s => o r.d s.d P
def wUn (o : UD) (wa : WE) : WE := fun ρ P => wa ρ fun r => o r.d P
theorem fz_d (r : R) : r.fz.d = r.d := by cases r <;> rfl
theorem op_go {o : OD} {rr : R2} (ha : PW X β a wa) (hb : PW X β b wb)
    (h : ∀ F Hf ρ σ H d e x y Q, Rel X.K β F Hf ρ σ H → RepO X.K β F H d x → RepO X.K β F H e y → o d e (Kt X.K β F Hf ρ σ Q) → rr x y H Q) (om : ∀ d e P P', (∀ r, P r → P' r) → o d e P → o d e P') (σ : L2.St) (H : Hp) (Q : VK) (q : tW X.K β (wOp o wa wb) σ H Q) :
    tOp rr (tO X.K β wa) (tO X.K β wb) σ H Q := by
  obtain ⟨F, Hf, ρ, I, q⟩ := q
  refine ⟨F, Hf, ρ, I, ha.mono ρ _ _ (fun r k F1 H1 x e1 I1 r1 => ?_) q⟩
  refine ⟨F1, Hf, ρ, I1, hb.mono ρ _ _ (fun s k F2 H2 y e2 I2 r2 => ?_) k⟩
  have g1 := (r1.mono e2).rd I2
  have g2 := r2.rd I2
  rw [fz_d] at g1 g2
  refine h F2 Hf ρ σ H2 _ _ x y Q I2 g1 g2 (om _ _ _ _ (fun t k F3 H3 v e3 I3 r3 => ?_) k)
  exact k F3 H3 v ((e1.trans e2).trans e3) I3 r3
theorem wOp_mono {o : OD} (ha : PW X β a wa) (hb : PW X β b wb) (om : ∀ d e P P', (∀ r, P r → P' r) → o d e P → o d e P') (ρ : WEnv) (P P' : R → Prop) (k : ∀ r, P r → P' r) (q : wOp o wa wb ρ P) : wOp o wa wb ρ P' :=
  ha.mono ρ _ _ (fun _ q => hb.mono ρ _ _ (fun _ q => om _ _ _ _ k q) q) q
theorem pw_bin {op : Operator} {o : OD} (ho : OpD X β (binaryOp op) o) (ha : PW X β a wa) (hb : PW X β b wb) : PW X β (.BinOp a op b pos) (wOp o wa wb) := by
  obtain ⟨rr, hr, hq⟩ := ho.ex
  exact ⟨wOp_mono ha hb ho.mono, imp_E (pe_op hr ha.opnd hb.opnd) (op_go ha hb hq ho.mono)⟩
theorem pw_un {op : UnaryOp} {o : UD} (ho : UnD X β (unaryOp op) o) (ha : PW X β a wa) : PW X β (.UnaryOp op a pos) (wUn o wa) := by
  obtain ⟨rr, hr, hq⟩ := ho.ex
  refine ⟨fun ρ P P' k q => ha.mono ρ _ _ (fun _ q => ho.mono _ _ _ k q) q, imp_E (pe_un hr ha.opnd) fun σ H Q q => ?_⟩
  obtain ⟨F, Hf, ρ, I, q⟩ := q
  refine ⟨F, Hf, ρ, I, ha.mono ρ _ _ (fun r k F1 H1 x e1 I1 r1 => ?_) q⟩
  have g1 := r1.rd I1
  rw [fz_d] at g1
  exact hq F1 Hf ρ σ H1 _ x Q I1 g1 (ho.mono _ _ _ (fun t k F3 H3 v e3 I3 r3 => k F3 H3 v (e1.trans e3) I3 r3) k)
theorem pw_cmp {op : CmpOp} {o : OD} (ho : OpD X β (compareOp op) o) (ha : PW X β a wa) (hb : PW X β b wb) (hm : behindInMarks op b = false := by first | exact nobehind _ (by decide) (by decide) | rfl) : PW X β (.Compare a [op] [b] pos) (wOp o wa wb) := by
  obtain ⟨rr, hr, hq⟩ := ho.ex
  exact ⟨wOp_mono ha hb ho.mono, imp_E (pe_cmpR hr ha.opnd hb.opnd hm) (op_go ha hb hq ho.mono)⟩
structure IxD (X : Cx) (β : Bx) (o : OD) : Prop where
  mono : ∀ d e P P', (∀ r, P r → P' r) → o d e P → o d e P'
  ex : ∃ rr : R2, IxR X rr ∧ ∀ F Hf ρ σ H d e x y Q, Rel X.K β F Hf ρ σ H → RepO X.K β F H d x → RepO X.K β F H e y → o d e (Kt X.K β F Hf ρ σ Q) → rr x y H Q
theorem pw_ix {o : OD} (ho : IxD X β o) (ha : PW X β a wa) (hb : PW X β b wb) (hs : PlainIx b := by exact fun _ _ => rfl) : PW X β (.Subscript a b pos) (wOp o wa wb) := by
  obtain ⟨rr, hr, hq⟩ := ho.ex
  exact ⟨wOp_mono ha hb ho.mono, imp_E (L2.pe_ix hr ha.opnd hb.opnd hs) (op_go ha hb hq ho.mono)⟩

/-! tests, and, or, not, if -/
def wTest (w : WE) : WT := fun ρ P => w ρ fun r => match r.d with
  | .bl b => P b
  | .non => P false
  | .int i => P (i != 0)
  | .str x => P (!x.isEmpty)
  | .tup xs => P (!xs.isEmpty)
  | .lst xs => P (!xs.isEmpty)
  | _ => False
theorem pwt_of (h : PW X β a wa) (he : ∀ whole, isTrue a X.env whole = (do let v ← whole; standAt a.pos; holding [v] (truthy v)) := by exact fun _ => rfl) : PWT X β a (wTest wa) := by
  refine ⟨fun ρ P P' k q => h.mono ρ _ _ (fun r q => ?_) q, imp_T (pt_truth h.opnd he) fun σ H Q q => ?_⟩
  · split at q <;> first | exact k _ q | exact q
  · obtain ⟨F, Hf, ρ, I, q⟩ := q
    refine ⟨F, Hf, ρ, I, h.mono ρ _ _ (fun r q F1 H1 x e1 I1 r1 => ?_) q⟩
    have g := r1.rd I1
    rw [fz_d] at g
    split at q
    · rename_i b hb
      rw [hb] at g
      rw [g.bl]
      exact ⟨b, rfl, q F1 H1 e1 I1⟩
    · rename_i hb
      rw [hb] at g
      rw [g.non]
      exact ⟨false, rfl, q F1 H1 e1 I1⟩
    · rename_i i hb
      rw [hb] at g
      rw [g.int]
      exact ⟨_, rfl, q F1 H1 e1 I1⟩
    · rename_i y hb
      rw [hb] at g
      obtain ⟨e, hz⟩ := g.str
      rw [e]
      refine ⟨_, ⟨by rw [mkS_len]; exact hz.1, rfl⟩, ?_⟩
      have : (((mkS y).length : Int) != 0) = !y.isEmpty := by
        rw [mkS_len]
        cases y <;> simp <;> omega
      rw [this]
      exact q F1 H1 e1 I1
    · rename_i ds hb
      rw [hb] at g
      obtain ⟨p, vs, e, sq, hz, rl⟩ := g.tup I1
      rw [e]
      refine ⟨!ds.isEmpty, .inr (.inl ⟨vs, sq, ?_⟩), q F1 H1 e1 I1⟩
      have := rl.length
      cases ds <;> cases vs <;> simp_all
    · rename_i ds hb
      rw [hb] at g
      obtain ⟨p, vs, e, sq, hz, rl⟩ := g.lst I1
      rw [e]
      refine ⟨!ds.isEmpty, .inl ⟨vs, .of sq, ?_⟩, q F1 H1 e1 I1⟩
      have := rl.length
      cases ds <;> cases vs <;> simp_all
    · exact q.elim
end
end WL
set_option Elab.async false
set_option linter.all false
set_option autoImplicit false
set_option maxRecDepth 100000
namespace WL
open PySem PySem.Spec L2

abbrev ifP (b : Bool) (A B : Prop) : Prop := (b = true → A) ∧ (b = false → B)
theorem ifP_mono {b : Bool} {A B A' B' : Prop} (h : ifP b A B) (h1 : A → A') (h2 : B → B') : ifP b A' B' := ⟨fun e => h1 (h.1 e), fun e => h2 (h.2 e)⟩
theorem ifP_ite {b : Bool} {A B : Prop} (h : ifP b A B) : if b = true then A else B := by
  cases b with
  | true => rw [if_pos rfl]; exact h.1 rfl
  | false => rw [if_neg Bool.false_ne_true]; exact h.2 rfl

section
variable {X : Cx} {β : Bx} {a b c e : Expr} {w wa wb wc : WE} {wt wu : WT} {pos : Pos} {rest : List Expr}

/-! comparisons as tests -/
def wTB (w : WE) : WT := fun ρ P => w ρ fun r => match r.d with
  | .bl b => P b
  | _ => False
theorem tTest_go {t : TE} {o : OD} {rr : R2} (ha : PW X β a wa) (hb : PW X β b wb) (hm : ∀ ρ P P', (∀ r, P r → P' r) → w ρ P → w ρ P')
    (h : ∀ σ H Q, tW X.K β w σ H Q → t σ H Q) (σ : L2.St) (H : Hp) (Q : Bool → Hp → Prop) (q : tWT X.K β (wTB w) σ H Q) : tTest t σ H Q := by
  obtain ⟨F, Hf, ρ, I, q⟩ := q
  refine h σ H _ ⟨F, Hf, ρ, I, hm ρ _ _ (fun r q F1 H1 x e1 I1 r1 => ?_) q⟩
  split at q
  · rename_i k hk
    have g : RepO X.K β F1 H1 (.bl k) x := by
      obtain ⟨F2, e2, I2, r2⟩ := r1.keep I1
      have := r2.rd I2
      rw [fz_d, hk] at this
      rcases this with h | ⟨_, _, h⟩
      · exact .inl (by rw [Rep] at h ⊢; exact h)
      · exact h.elim
    rw [g.bl]
    exact ⟨k, rfl, q F1 H1 e1 I1⟩
  · exact q.elim
theorem wTB_mono (hm : ∀ ρ P P', (∀ r, P r → P' r) → w ρ P → w ρ P') (ρ : WEnv) (P P' : Bool → Prop) (k : ∀ r, P r → P' r) (q : wTB w ρ P) : wTB w ρ P' :=
  hm ρ _ _ (fun r q => by
    split at q
    · exact k _ q
    · exact q) q
theorem pwt_cmp {op : CmpOp} {o : OD} (ho : OpD X β (compareOp op) o) (ha : PW X β a wa) (hb : PW X β b wb) (hm : behindInMarks op b = false := by first | exact nobehind _ (by decide) (by decide) | rfl) : PWT X β (.Compare a [op] [b] pos) (wTB (wOp o wa wb)) := by
  obtain ⟨rr, hr, hq⟩ := ho.ex
  refine ⟨wTB_mono (wOp_mono ha hb ho.mono), imp_T (pt_cmpR hr ha.opnd hb.opnd hm) fun σ H Q q => ?_⟩
  exact tTest_go (o := o) (rr := rr) ha hb (wOp_mono ha hb ho.mono) (fun σ H Q q => op_go ha hb hq ho.mono σ H Q q) σ H Q q
def wChain (o o' : OD) (wa wb wc : WE) : WE := fun ρ P => wa ρ fun r => wb ρ fun s => o r.d s.d fun t => match t.d with
  | .bl k => ifP k (wc ρ fun u => o' s.d u.d P) (P (.val (.bl false)))
  | _ => False
theorem wChain_mono {o o' : OD} (ha : PW X β a wa) (hb : PW X β b wb) (hc : PW X β c wc) (om : ∀ d e P P', (∀ r, P r → P' r) → o d e P → o d e P') (om' : ∀ d e P P', (∀ r, P r → P' r) → o' d e P → o' d e P')
    (ρ : WEnv) (P P' : R → Prop) (k : ∀ r, P r → P' r) (q : wChain o o' wa wb wc ρ P) : wChain o o' wa wb wc ρ P' :=
  ha.mono ρ _ _ (fun _ q => hb.mono ρ _ _ (fun _ q => om _ _ _ _ (fun t q => by
    split at q
    · exact ifP_mono q (fun q => hc.mono ρ _ _ (fun _ q => om' _ _ _ _ k q) q) (fun q => k _ q)
    · exact q) q) q) q
theorem bl_of {K : PySem.W.Frag} {F F1 Hf H : Hp} {ρ : WEnv} {σ : L2.St} {k : Bool} {r : R} {v : V} (I : Rel K β F Hf ρ σ H) (r1 : RepR K β F Hf ρ σ H r v) (hk : r.d = .bl k) : v = .bl k := by
  obtain ⟨F2, e2, I2, r2⟩ := r1.keep I
  have := r2.rd I2
  rw [fz_d, hk] at this
  exact this.bl
theorem chain_go {o o' : OD} {rr rr' : R2} (ha : PW X β a wa) (hb : PW X β b wb) (hc : PW X β c wc)
    (h : ∀ F Hf ρ σ H d e x y Q, Rel X.K β F Hf ρ σ H → RepO X.K β F H d x → RepO X.K β F H e y → o d e (Kt X.K β F Hf ρ σ Q) → rr x y H Q) (om : ∀ d e P P', (∀ r, P r → P' r) → o d e P → o d e P')
    (h' : ∀ F Hf ρ σ H d e x y Q, Rel X.K β F Hf ρ σ H → RepO X.K β F H d x → RepO X.K β F H e y → o' d e (Kt X.K β F Hf ρ σ Q) → rr' x y H Q) (om' : ∀ d e P P', (∀ r, P r → P' r) → o' d e P → o' d e P')
    (σ : L2.St) (H : Hp) (Q : VK) (q : tW X.K β (wChain o o' wa wb wc) σ H Q) : tChain rr rr' (tO X.K β wa) (tO X.K β wb) (tO X.K β wc) σ H Q := by
  obtain ⟨F, Hf, ρ, I, q⟩ := q
  refine ⟨F, Hf, ρ, I, ha.mono ρ _ _ (fun r k F1 H1 x e1 I1 r1 => ?_) q⟩
  refine ⟨F1, Hf, ρ, I1, hb.mono ρ _ _ (fun s k F2 H2 y e2 I2 r2 => ?_) k⟩
  have g1 := (r1.mono e2).rd I2
  have g2 := r2.rd I2
  rw [fz_d] at g1 g2
  refine h F2 Hf ρ σ H2 _ _ x y _ I2 g1 g2 (om _ _ _ _ (fun t k F3 H3 v e3 I3 r3 => ?_) k)
  split at k
  · rename_i kk hk
    have := bl_of (F1 := F3) I3 r3 hk
    subst this
    refine ⟨kk, rfl, ifP_ite (ifP_mono k (fun k => ?_) (fun k => ?_))⟩
    · refine ⟨F3, Hf, ρ, I3, hc.mono ρ _ _ (fun u k F4 H4 z e4 I4 r4 => ?_) k⟩
      have g3 := ((r2.mono e3).mono e4).rd I4
      have g4 := r4.rd I4
      rw [fz_d] at g3 g4
      exact h' F4 Hf ρ σ H4 _ _ y z Q I4 g3 g4 (om' _ _ _ _ (fun t k F5 H5 v e5 I5 r5 => k F5 H5 v ((((e1.trans e2).trans e3).trans e4).trans e5) I5 r5) k)
    · exact k F3 H3 _ ((e1.trans e2).trans e3) I3 (show Rep X.K β F3 (.bl false) (.bl false) by rw [Rep])
  · exact k.elim
theorem pw_chain {op op' : CmpOp} {o o' : OD} (ho : OpD X β (compareOp op) o) (ho' : OpD X β (compareOp op') o') (ha : PW X β a wa) (hb : PW X β b wb) (hc : PW X β c wc)
    (hm : lastMarks [op, op'] [b, c] = false := by with_unfolding_all rfl) : PW X β (.Compare a [op, op'] [b, c] pos) (wChain o o' wa wb wc) := by
  obtain ⟨rr, hr, hq⟩ := ho.ex
  obtain ⟨rr', hr', hq'⟩ := ho'.ex
  exact ⟨wChain_mono ha hb hc ho.mono ho'.mono, imp_E (pe_chain hr hr' ha.opnd hb.opnd hc.opnd hm) fun σ H Q q => chain_go ha hb hc hq ho.mono hq' ho'.mono σ H Q q⟩
theorem pwt_chain {op op' : CmpOp} {o o' : OD} (ho : OpD X β (compareOp op) o) (ho' : OpD X β (compareOp op') o') (ha : PW X β a wa) (hb : PW X β b wb) (hc : PW X β c wc)
    (hm : lastMarks [op, op'] [b, c] = false := by with_unfolding_all rfl) : PWT X β (.Compare a [op, op'] [b, c] pos) (wTB (wChain o o' wa wb wc)) := by
  obtain ⟨rr, hr, hq⟩ := ho.ex
  obtain ⟨rr', hr', hq'⟩ := ho'.ex
  refine ⟨wTB_mono (wChain_mono ha hb hc ho.mono ho'.mono), imp_T (pt_chain hr hr' ha.opnd hb.opnd hc.opnd hm) fun σ H Q q => ?_⟩
  exact tTest_go (o := o) (rr := rr) ha hb (wChain_mono ha hb hc ho.mono ho'.mono) (fun σ H Q q => chain_go ha hb hc hq ho.mono hq' ho'.mono σ H Q q) σ H Q q

/-! and, or, not as tests -/
structure PWW (X : Cx) (β : Bx) (e : Expr) (w : WT) : Prop where
  mono : ∀ ρ P P', (∀ r, P r → P' r) → w ρ P → w ρ P'
  run : L2.PW X e (tWT X.K β w)
theorem imp_W {X : Cx} {e : Expr} {t t' : TT} (h : L2.PW X e t) (i : ∀ σ H Q, t' σ H Q → t σ H Q) : L2.PW X e t' := ⟨fun wh pins s σ H Q I q => h.run wh pins s σ H Q I (i σ H Q q)⟩
def wAnd (wt wu : WT) : WT := fun ρ P => wt ρ fun k => ifP k (wu ρ P) (P false)
def wOr (wt wu : WT) : WT := fun ρ P => wt ρ fun k => ifP k (P true) (wu ρ P)
def wNotT (wt : WT) : WT := fun ρ P => wt ρ fun k => P (!k)
theorem pww_and1 (h : PWT X β a wt) : PWW X β (.BoolOp .And [a] pos) wt := ⟨h.mono, pw_and1 h.run⟩
theorem pww_or1 (h : PWT X β a wt) : PWW X β (.BoolOp .Or [a] pos) wt := ⟨h.mono, pw_or1 h.run⟩
theorem wAnd_mono (h : ∀ ρ P P', (∀ r, P r → P' r) → wt ρ P → wt ρ P') (g : ∀ ρ P P', (∀ r, P r → P' r) → wu ρ P → wu ρ P') (ρ : WEnv) (P P' : Bool → Prop) (k : ∀ r, P r → P' r) (q : wAnd wt wu ρ P) : wAnd wt wu ρ P' :=
  h ρ _ _ (fun _ q => ifP_mono q (fun q => g ρ _ _ k q) (fun q => k _ q)) q
theorem wOr_mono (h : ∀ ρ P P', (∀ r, P r → P' r) → wt ρ P → wt ρ P') (g : ∀ ρ P P', (∀ r, P r → P' r) → wu ρ P → wu ρ P') (ρ : WEnv) (P P' : Bool → Prop) (k : ∀ r, P r → P' r) (q : wOr wt wu ρ P) : wOr wt wu ρ P' :=
  h ρ _ _ (fun _ q => ifP_mono q (fun q => k _ q) (fun q => g ρ _ _ k q)) q
theorem pww_and (h : PWT X β a wt) (g : PWW X β (.BoolOp .And (b :: rest) pos) wu) : PWW X β (.BoolOp .And (a :: b :: rest) pos) (wAnd wt wu) := by
  refine ⟨wAnd_mono h.mono g.mono, imp_W (L2.pw_and h.run g.run) fun σ H Q q => ?_⟩
  obtain ⟨F, Hf, ρ, I, q⟩ := q
  refine ⟨F, Hf, ρ, I, h.mono ρ _ _ (fun k q F1 H1 e1 I1 => ?_) q⟩
  refine ifP_ite (ifP_mono q (fun q => ?_) (fun q => q F1 H1 e1 I1))
  exact ⟨F1, Hf, ρ, I1, g.mono ρ _ _ (fun k q F2 H2 e2 I2 => q F2 H2 (e1.trans e2) I2) q⟩
theorem pww_or (h : PWT X β a wt) (g : PWW X β (.BoolOp .Or (b :: rest) pos) wu) : PWW X β (.BoolOp .Or (a :: b :: rest) pos) (wOr wt wu) := by
  refine ⟨wOr_mono h.mono g.mono, imp_W (L2.pw_or h.run g.run) fun σ H Q q => ?_⟩
  obtain ⟨F, Hf, ρ, I, q⟩ := q
  refine ⟨F, Hf, ρ, I, h.mono ρ _ _ (fun k q F1 H1 e1 I1 => ?_) q⟩
  refine ifP_ite (ifP_mono q (fun q => q F1 H1 e1 I1) (fun q => ?_))
  exact ⟨F1, Hf, ρ, I1, g.mono ρ _ _ (fun k q F2 H2 e2 I2 => q F2 H2 (e1.trans e2) I2) q⟩
theorem PWW.pwt (h : PWW X β a wt) : PWT X β a wt := ⟨h.mono, h.run.pt⟩
theorem pwt_not (h : PWT X β a wt) : PWT X β (.UnaryOp .Not a pos) (wNotT wt) := by
  refine ⟨fun ρ P P' k q => h.mono ρ _ _ (fun _ q => k _ q) q, imp_T (L2.pt_not h.run) fun σ H Q q => ?_⟩
  obtain ⟨F, Hf, ρ, I, q⟩ := q
  exact ⟨F, Hf, ρ, I, q⟩

/-! .. as values -/
def wAndV (wa wb : WE) : WE := fun ρ P => wa ρ fun r => match r.d with
  | .bl k => ifP k (wb ρ P) (P (.val (.bl false)))
  | _ => False
def wOrV (wa wb : WE) : WE := fun ρ P => wa ρ fun r => match r.d with
  | .bl k => ifP k (P (.val (.bl true))) (wb ρ P)
  | _ => False
theorem pw_one {op} (h : PW X β a wa) : PW X β (.BoolOp op [a] pos) wa := ⟨h.mono, pe_one h.run⟩
theorem pw_andV (ha : PW X β a wa) (hb : PW X β (.BoolOp .And (b :: rest) pos) wb) : PW X β (.BoolOp .And (a :: b :: rest) pos) (wAndV wa wb) := by
  refine ⟨fun ρ P P' k q => ha.mono ρ _ _ (fun r q => ?_) q, imp_E (pe_and ha.run hb.run) fun σ H Q q => ?_⟩
  · split at q
    · exact ifP_mono q (fun q => hb.mono ρ _ _ k q) (fun q => k _ q)
    · exact q
  · obtain ⟨F, Hf, ρ, I, q⟩ := q
    refine ⟨F, Hf, ρ, I, ha.mono ρ _ _ (fun r q F1 H1 v e1 I1 r1 => ?_) q⟩
    split at q
    · rename_i k hk
      have := bl_of (F1 := F1) I1 r1 hk
      subst this
      refine ⟨k, rfl, ifP_ite (ifP_mono q (fun q => ?_) (fun q => q F1 H1 _ e1 I1 (show Rep X.K β F1 (.bl false) (.bl false) by rw [Rep])))⟩
      exact ⟨F1, Hf, ρ, I1, hb.mono ρ _ _ (fun s q F2 H2 v e2 I2 r2 => q F2 H2 v (e1.trans e2) I2 r2) q⟩
    · exact q.elim
theorem pw_orV (ha : PW X β a wa) (hb : PW X β (.BoolOp .Or (b :: rest) pos) wb) : PW X β (.BoolOp .Or (a :: b :: rest) pos) (wOrV wa wb) := by
  refine ⟨fun ρ P P' k q => ha.mono ρ _ _ (fun r q => ?_) q, imp_E (pe_or ha.run hb.run) fun σ H Q q => ?_⟩
  · split at q
    · exact ifP_mono q (fun q => k _ q) (fun q => hb.mono ρ _ _ k q)
    · exact q
  · obtain ⟨F, Hf, ρ, I, q⟩ := q
    refine ⟨F, Hf, ρ, I, ha.mono ρ _ _ (fun r q F1 H1 v e1 I1 r1 => ?_) q⟩
    split at q
    · rename_i k hk
      have := bl_of (F1 := F1) I1 r1 hk
      subst this
      refine ⟨k, rfl, ifP_ite (ifP_mono q (fun q => q F1 H1 _ e1 I1 (show Rep X.K β F1 (.bl true) (.bl true) by rw [Rep])) (fun q => ?_))⟩
      exact ⟨F1, Hf, ρ, I1, hb.mono ρ _ _ (fun s q F2 H2 v e2 I2 r2 => q F2 H2 v (e1.trans e2) I2 r2) q⟩
    · exact q.elim
/-- the truth of a value -/
def truD : D → Option Bool
  | .bl b => some b
  | .non => some false
  | .int i => some (i != 0)
  | .str x => some (!x.isEmpty)
  | .tup xs => some (!xs.isEmpty)
  | .lst xs => some (!xs.isEmpty)
  | _ => none
theorem tru_of {K : PySem.W.Frag} {F Hf H : Hp} {ρ : WEnv} {σ : L2.St} {k : Bool} {d : D} {v : V} (I : Rel K β F Hf ρ σ H) (g : RepO K β F H d v) (hk : truD d = some k) : TruV K v H k := by
  cases d with
  | bl b => cases hk; rw [g.bl]; exact rfl
  | non => cases hk; rw [g.non]; exact rfl
  | int i => cases hk; rw [g.int]; exact rfl
  | str y =>
    cases hk
    obtain ⟨e, hz⟩ := g.str
    rw [e]
    refine ⟨by rw [mkS_len]; exact hz.1, ?_⟩
    rw [mkS_len]
    cases y <;> simp <;> omega
  | tup ds =>
    cases hk
    obtain ⟨p, vs, e, sq, hz, rl⟩ := g.tup I
    rw [e]
    refine .inr (.inl ⟨vs, sq, ?_⟩)
    have := rl.length
    cases ds <;> cases vs <;> simp_all
  | lst ds =>
    cases hk
    obtain ⟨p, vs, e, sq, hz, rl⟩ := g.lst I
    rw [e]
    refine .inl ⟨vs, .of sq, ?_⟩
    have := rl.length
    cases ds <;> cases vs <;> simp_all
  | dct => cases hk
  | box => cases hk
def wNotV (wa : WE) : WE := fun ρ P => wa ρ fun r => match truD r.d with
  | some k => P (.val (.bl (!k)))
  | none => False
theorem pw_notV (ha : PW X β a wa) : PW X β (.UnaryOp .Not a pos) (wNotV wa) := by
  refine ⟨fun ρ P P' k q => ha.mono ρ _ _ (fun r q => ?_) q, imp_E (pe_notT ha.opnd) fun σ H Q q => ?_⟩
  · split at q
    · exact k _ q
    · exact q
  · obtain ⟨F, Hf, ρ, I, q⟩ := q
    refine ⟨F, Hf, ρ, I, ha.mono ρ _ _ (fun r q F1 H1 v e1 I1 r1 => ?_) q⟩
    split at q
    · rename_i k hk
      have g := r1.rd I1
      rw [fz_d] at g
      exact ⟨k, tru_of I1 g hk, q F1 H1 _ e1 I1 (show Rep X.K β F1 (.bl (!k)) (.bl (!k)) by rw [Rep])⟩
    · exact q.elim
def wIf (wt : WT) (wa wb : WE) : WE := fun ρ P => wt ρ fun k => ifP k (wa ρ P) (wb ρ P)
theorem pw_if (ht : PWT X β c wt) (ha : PW X β a wa) (hb : PW X β b wb) : PW X β (.IfExp c a b pos) (wIf wt wa wb) := by
  refine ⟨fun ρ P P' k q => ht.mono ρ _ _ (fun r q => ifP_mono q (fun q => ha.mono ρ _ _ k q) (fun q => hb.mono ρ _ _ k q)) q, imp_E (pe_ifExp ht.run ha.run hb.run) fun σ H Q q => ?_⟩
  obtain ⟨F, Hf, ρ, I, q⟩ := q
  refine ⟨F, Hf, ρ, I, ht.mono ρ _ _ (fun k q F1 H1 e1 I1 => ?_) q⟩
  refine ifP_ite (ifP_mono q (fun q => ?_) (fun q => ?_))
  · exact ⟨F1, Hf, ρ, I1, ha.mono ρ _ _ (fun s q F2 H2 v e2 I2 r2 => q F2 H2 v (e1.trans e2) I2 r2) q⟩
  · exact ⟨F1, Hf, ρ, I1, hb.mono ρ _ _ (fun s q F2 H2 v e2 I2 r2 => q F2 H2 v (e1.trans e2) I2 r2) q⟩

/-! ### arguments, displays -/
variable {es : List Expr} {ws : WAs}
structure PWL (X : Cx) (β : Bx) (es : List Expr) (w : WAs) : Prop where
  mono : ∀ ρ P P', (∀ r, P r → P' r) → w ρ P → w ρ P'
  len : ∀ ρ P, w ρ P → w ρ fun rs => P rs ∧ rs.length = es.length
  run : PA X es (tWA X.K β w)
def wNil : WAs := fun _ P => P []
def wCons (wa : WE) (ws : WAs) : WAs := fun ρ P => wa ρ fun r => ws ρ fun rs => P (r.fz :: rs)
theorem pwl_nil : PWL X β [] wNil := ⟨fun _ _ _ k q => k _ q, fun _ _ q => ⟨q, rfl⟩, imp_A pa_nil fun σ H Q q => by
  obtain ⟨F, Hf, ρ, I, q⟩ := q
  exact q F H [] (Ex.refl F) I .nil⟩
theorem RepAs.mono {K : PySem.W.Frag} {F F' : Hp} {ρ : WEnv} {σ : L2.St} (e : Ex F F') : ∀ {rs : List R} {vs : List V}, RepAs K β F ρ σ rs vs → RepAs K β F' ρ σ rs vs
  | _, _, .nil => .nil
  | _, _, .cons h t => .cons (h.mono e) (RepAs.mono e t)
theorem pwl_cons (ha : PW X β a wa) (hs : PWL X β es ws) (hst : starEach (a :: es) X.env = (false, eval a X.env) :: starEach es X.env := by rfl) : PWL X β (a :: es) (wCons wa ws) := by
  refine ⟨fun ρ P P' k q => ha.mono ρ _ _ (fun _ q => hs.mono ρ _ _ (fun _ q => k _ q) q) q, fun ρ P q => ha.mono ρ _ _ (fun _ q => hs.mono ρ _ _ (fun _ q => ⟨q.1, by rw [List.length_cons, q.2, List.length_cons]⟩) (hs.len ρ _ q)) q, imp_A (pa_cons ha.opnd hs.run hst) fun σ H Q q => ?_⟩
  obtain ⟨F, Hf, ρ, I, q⟩ := q
  refine ⟨F, Hf, ρ, I, ha.mono ρ _ _ (fun r q F1 H1 v e1 I1 r1 => ?_) q⟩
  exact ⟨F1, Hf, ρ, I1, hs.mono ρ _ _ (fun rs q F2 H2 vs e2 I2 r2 => q F2 H2 (v :: vs) (e1.trans e2) I2 (.cons (r1.mono e2) r2)) q⟩
def vals : List R → Option (List D)
  | [] => some []
  | .val d :: rs => match vals rs with
    | some ds => some (d :: ds)
    | none => none
  | _ :: _ => none
theorem vals_rep {K : PySem.W.Frag} {F : Hp} {ρ : WEnv} {σ : L2.St} : ∀ {rs : List R} {vs : List V} {ds : List D}, RepAs K β F ρ σ rs vs → vals rs = some ds → RepL K β F ds vs
  | _, _, _, .nil, h => by cases h; exact RepL.nil
  | .val d :: rs, _, _, .cons (vs := vs) h t, e => by
    rw [vals] at e
    split at e
    · rename_i ds' h'
      cases e
      exact RepL.cons h (vals_rep t h')
    · cases e
  | .own d :: rs, _, _, .cons h t, e => by cases e
  | .bor i d :: rs, _, _, .cons h t, e => by cases e
theorem vals_len : ∀ {rs : List R} {ds : List D}, vals rs = some ds → ds.length = rs.length
  | [], _, e => by cases e; rfl
  | .val d :: rs, _, e => by
    rw [vals] at e
    split at e
    · rename_i ds' h'
      cases e
      rw [List.length_cons, List.length_cons, vals_len h']
    · cases e
  | .own d :: rs, _, e => by cases e
  | .bor i d :: rs, _, e => by cases e
def wTup (ws : WAs) : WE := fun ρ P => ws ρ fun rs => match vals rs with
  | some ds => P (.val (.tup ds))
  | none => False
def wLst (ws : WAs) : WE := fun ρ P => ws ρ fun rs => match vals rs with
  | some ds => P (.own (.lst ds))
  | none => False
theorem mono_vals {f : D → R} {g : List D → D} {P P' : R → Prop} (k : ∀ r, P r → P' r) {rs : List R} (q : match vals rs with | some ds => P (f (g ds)) | none => False) : match vals rs with | some ds => P' (f (g ds)) | none => False := by
  split at q
  · exact k _ q
  · exact q
theorem pw_tup {k : Nat} (hs : PWL X β es ws) (hz : es.length ≤ 1000 := by decide) : PW X β (.Tuple es k pos) (wTup ws) := by
  refine ⟨fun ρ P P' k q => hs.mono ρ _ _ (fun rs q => mono_vals k q) q, imp_E (pe_tupD hs.run) fun σ H Q q => ?_⟩
  obtain ⟨F, Hf, ρ, I, q⟩ := q
  refine ⟨F, Hf, ρ, I, hs.mono ρ _ _ (fun rs q F1 H1 vs e1 I1 r1 => ?_) (hs.len ρ _ q)⟩
  obtain ⟨q, hl⟩ := q
  split at q
  · rename_i ds hd
    have rl := vals_rep r1 hd
    have hz' : ds.length ≤ sizeLine := by rw [vals_len hd, hl]; exact Nat.le_trans hz (by decide)
    refine ⟨by rw [rl.length]; exact hz', fun p its hp => ?_⟩
    obtain ⟨F2, e2, I2, r2⟩ := I1.newT (its := its) hp hz' rl
    exact q F2 _ _ (e1.trans e2) I2 r2
  · exact q.elim
theorem pw_lst (hs : PWL X β es ws) (hz : es.length ≤ 1000 := by decide) : PW X β (.List es pos) (wLst ws) := by
  refine ⟨fun ρ P P' k q => hs.mono ρ _ _ (fun rs q => mono_vals k q) q, imp_E (pe_lst hs.run) fun σ H Q q => ?_⟩
  obtain ⟨F, Hf, ρ, I, q⟩ := q
  refine ⟨F, Hf, ρ, I, hs.mono ρ _ _ (fun rs q F1 H1 vs e1 I1 r1 => ?_) (hs.len ρ _ q)⟩
  obtain ⟨q, hl⟩ := q
  split at q
  · rename_i ds hd
    have rl := vals_rep r1 hd
    have hz' : ds.length ≤ sizeLine := by rw [vals_len hd, hl]; exact Nat.le_trans hz (by decide)
    refine ⟨by rw [rl.length]; exact hz', fun p hp => ?_⟩
    obtain ⟨I2, r2⟩ := I1.newL hp hz' rl
    exact q F1 _ _ e1 I2 r2
  · exact q.elim
end

/-! ### what a def promises -/
structure Sx where
  f : List D → (D → Prop) → Prop
  mono : ∀ ds P P', (∀ d, P d → P' d) → f ds P → f ds P'
def Sx.det (g : List D → Option D) : Sx := ⟨fun ds P => match g ds with
  | some d => P d
  | none => False, fun ds P P' k q => by
    split at q
    · exact k _ q
    · exact q.elim⟩
/-- what is asked, and what may come -/
def Sx.rel (pre : List D → Prop) (post : List D → D → Prop) : Sx := ⟨fun ds P => pre ds ∧ ∀ d, post ds d → P d, fun ds P P' k q => ⟨q.1, fun d h => k d (q.2 d h)⟩⟩
/-- what is new was nobody's -/
def FNew (F F' H : Hp) : Prop := ∀ a o, F' a = some o → F a = some o ∨ H a = none
def ExB (β : Bx) (H H' : Hp) : Prop := ∀ a o, ¬ β.foot a → H a = some o → H' a = some o
def spW (K : PySem.W.Frag) (β : Bx) (n : Nat) (g : Sx) : Sp := fun vs H Q _ => ∃ F ds, Ex F H ∧ (∀ a, β.foot a → F a = none) ∧ β.inv H ∧ RepL K β F ds vs ∧ ds.length = n ∧
  g.f ds fun d => ∀ F' H' v, Ex F F' → Ex F' H' → FNew F F' H → ExB β H H' → β.inv H' → (∀ a, β.foot a → F' a = none) → Rep K β F' d v → Q v H'
def FnW (P : Program) (w : World) (K : PySem.W.Frag) (mg : Str → Option Value) (base : Heap) (β : Bx) (k : Nat) (f : Addr) (fd : FuncData) (ps : List Str) (g : Sx) : Prop :=
  FnOk P w K mg base CX0 k f fd ps (spW K β ps.length g)
section
variable {X : Cx} {β : Bx} {k : Nat} {f : Addr} {fd : FuncData} {ps : List Str} {g : Sx} {x : Str} {p pos : Pos} {e : Expr} {es : List Expr} {ws : WAs}
def flatD : D → Bool
  | .non => true
  | .bl _ => true
  | .int _ => true
  | .str _ => true
  | _ => false
def wCall (g : Sx) (n : Nat) (ws : WAs) : WE := fun ρ P => ws ρ fun rs => match vals rs with
  | some ds => ds.length = n ∧ g.f ds fun d => P (.val d)
  | none => rs.length = n ∧ g.f (rs.map R.d) fun d => flatD d = true ∧ P (.val d)
theorem wCall_mono {n : Nat} (hm : ∀ ρ P P', (∀ r, P r → P' r) → ws ρ P → ws ρ P') (ρ : WEnv) (P P' : R → Prop) (k : ∀ r, P r → P' r) (q : wCall g n ws ρ P) : wCall g n ws ρ P' :=
  hm ρ _ _ (fun rs q => by
    split at q
    · exact ⟨q.1, g.mono _ _ _ (fun d q => k _ q) q.2⟩
    · exact ⟨q.1, g.mono _ _ _ (fun d q => ⟨q.1, k _ q.2⟩) q.2⟩) q
/-- behind a call -/
theorem Rel.called {K : PySem.W.Frag} {F F1 Hf H H1 : Hp} {ρ : WEnv} {σ : L2.St} (I : Rel K β F Hf ρ σ H) (e1 : Ex F F1) (e2 : Ex F1 H1) (fn : FNew F F1 H) (eb : ExB β H H1) (bi : β.inv H1) (bf : ∀ a, β.foot a → F1 a = none) : Rel K β F1 Hf ρ σ H1 := by
  have nf : ∀ a, F a = none → H a ≠ none → F1 a = none := fun a h1 h2 => by
    cases h : F1 a with
    | none => rfl
    | some o =>
      rcases fn a o h with q | q
      · rw [h1] at q; cases q
      · exact absurd q h2
  refine ⟨e2, fun b u hb => ?_, bi, fun b hb => ⟨bf b hb, (I.bxF b hb).2⟩, I.len, fun i d h => ?_, fun i d h => ?_, I.sep⟩
  · obtain ⟨q1, q2⟩ := I.hex b u hb
    have nb : ¬ β.foot b := fun z => by rw [(I.bxF b z).2] at hb; cases hb
    exact ⟨eb b u nb q1, nf b q2 (by rw [q1]; exact fun z => nomatch z)⟩
  · obtain ⟨v, q1, q2⟩ := I.val i d h
    exact ⟨v, q1, q2.mono e1⟩
  · obtain ⟨b, q1, q2, q3, q4, q5⟩ := I.own i d h
    obtain ⟨o, ho⟩ := q5.some
    refine ⟨b, q1, nf b q2 (by rw [ho]; exact fun z => nomatch z), q3, q4, ?_⟩
    exact (q5.at (by rw [ho]; exact eb b o q4 ho)).mono e1
theorem Rep.flat {K : PySem.W.Frag} {F F' : Hp} {d : D} {v : V} (hf : flatD d = true) (h : Rep K β F d v) : Rep K β F' d v := by
  cases d <;> first
    | (rw [Rep] at h ⊢; exact h)
    | cases hf
open Classical in
/-- what is lent may be read as if it were given -/
theorem lend {K : PySem.W.Frag} {F Hf H : Hp} {ρ : WEnv} {σ : L2.St} (I : Rel K β F Hf ρ σ H) : ∃ F0, Ex F F0 ∧ Ex F0 H ∧ (∀ a, β.foot a → F0 a = none) ∧ ∀ {rs vs}, RepAs K β F ρ σ rs vs → RepL K β F0 (rs.map R.d) vs := by
  let F0 : Hp := fun a => if F a = none ∧ ¬ β.foot a then H a else F a
  have e0 : Ex F F0 := fun a o h => by
    show (if F a = none ∧ ¬ β.foot a then H a else F a) = some o
    rw [if_neg (fun z => by rw [h] at z; exact nomatch z.1)]
    exact h
  refine ⟨F0, e0, fun a o h => ?_, fun a ha => ?_, fun {rs vs} r => ?_⟩
  · have h : (if F a = none ∧ ¬ β.foot a then H a else F a) = some o := h
    split at h
    · exact h
    · exact I.fex a o h
  · show (if F a = none ∧ ¬ β.foot a then H a else F a) = none
    rw [if_neg (fun z => z.2 ha)]
    exact (I.bxF a ha).1
  · induction r with
    | nil => exact RepL.nil
    | @cons r v rs vs h t ih =>
      refine RepL.cons ?_ ih
      cases r with
      | val d => exact Rep.mono e0 h
      | own d => exact h.elim
      | bor i d =>
        obtain ⟨h1, h2⟩ := h
        obtain ⟨a, q1, q2, q3, q4, q5⟩ := I.own i d h1
        rw [q1] at h2; cases h2
        obtain ⟨o, ho⟩ := q5.some
        have hF : F0 a = some o := by
          show (if F a = none ∧ ¬ β.foot a then H a else F a) = some o
          rw [if_pos ⟨q2, q4⟩]; exact ho
        show Rep K β F0 d (.ref a)
        cases d <;> first
          | exact q5.elim
          | (obtain ⟨vs, g1, g2, g3⟩ := q5
             rw [g1] at ho; cases ho
             rw [Rep]
             exact ⟨a, vs, rfl, hF, g2, g3.mono e0⟩)
          | (obtain ⟨kvs, g1, g2, g3⟩ := q5
             rw [g1] at ho; cases ho
             rw [Rep]
             exact ⟨a, kvs, rfl, hF, g2, g3.mono e0⟩)
theorem wCall_go (hs : PWL X β es ws) (σ : L2.St) (H : Hp) (Q : VK) (q : tW X.K β (wCall g ps.length ws) σ H Q) : tCall (spW X.K β ps.length g) [] E0 (tWA X.K β ws) σ H Q := by
  obtain ⟨F, Hf, ρ, I, q⟩ := q
  refine ⟨F, Hf, ρ, I, hs.mono ρ _ _ (fun rs q F1 H1 vs e1 I1 r1 => ?_) q⟩
  show spW X.K β ps.length g (vs ++ []) H1 Q E0
  rw [List.append_nil]
  split at q
  · rename_i ds hd
    refine ⟨F1, ds, I1.fex, fun a ha => (I1.bxF a ha).1, I1.bx, vals_rep r1 hd, q.1, g.mono _ _ _ (fun d q F2 H2 v g1 g2 g3 g4 g5 g6 g7 => ?_) q.2⟩
    exact q F2 H2 v (e1.trans g1) (I1.called g1 g2 g3 g4 g5 g6) g7
  · obtain ⟨F0, l1, l2, l3, l4⟩ := lend I1
    refine ⟨F0, rs.map R.d, l2, l3, I1.bx, l4 r1, by rw [List.length_map]; exact q.1, g.mono _ _ _ (fun d q F2 H2 v g1 g2 g3 g4 g5 g6 g7 => ?_) q.2⟩
    refine q.2 F1 H2 v e1 ?_ (Rep.flat q.1 g7)
    have hx : Ex F1 H2 := fun a o h => g2 a o (g1 a o (l1 a o h))
    exact I1.called (Ex.refl F1) hx (fun a o h => .inl h) g4 g5 fun a ha => (I1.bxF a ha).1
theorem pw_call (F : FnW X.prog X.w X.K X.mg X.base β k f fd ps g) (hr : Room k X.A) (hg : Gl X x) (hm : X.mg x = some (.ref f)) (hk : PySem.W.keepIn X.K (.ref f) = true) (hb : Binds X.K fd ps [])
    (hs : PWL X β (e :: es) ws) (hdb : (x == ("__debug__" : Str)) = false := by decide) (he : starEach (e :: es) X.env = (false, eval e X.env) :: starEach es X.env := by rfl) (hpl : (backTo pos (starEach es X.env)).any (·.1) = false := by rfl) :
    PW X β (.Call (.Name x p) (e :: es) [] pos) (wCall g ps.length ws) :=
  ⟨wCall_mono hs.mono, imp_E (pe_call F hr hg hm hk hb .nil pass0 hs.run hdb he hpl) fun σ H Q q => wCall_go hs σ H Q q⟩
theorem pw_call0 (F : FnW X.prog X.w X.K X.mg X.base β k f fd ps g) (hr : Room k X.A) (hg : Gl X x) (hm : X.mg x = some (.ref f)) (hk : PySem.W.keepIn X.K (.ref f) = true) (hb : Binds X.K fd ps [])
    (hdb : (x == ("__debug__" : Str)) = false := by decide) : PW X β (.Call (.Name x p) [] [] pos) (wCall g ps.length wNil) :=
  ⟨wCall_mono fun _ _ _ k q => k _ q, imp_E (pe_call0 F hr hg hm hk hb .nil pass0 hdb) fun σ H Q q => by
    obtain ⟨F, Hf, ρ, I, q⟩ := q
    refine ⟨F, [], I.fex, fun a ha => (I.bxF a ha).1, I.bx, RepL.nil, q.1, g.mono _ _ _ (fun d q F2 H2 v g1 g2 g3 g4 g5 g6 g7 => ?_) q.2⟩
    exact q F2 H2 v g1 (I.called g1 g2 g3 g4 g5 g6) g7⟩
end
end WL
set_option Elab.async false
set_option linter.all false
set_option autoImplicit false
set_option maxRecDepth 100000
namespace WL
open PySem PySem.Spec L2

/-! ### statements -/
structure WEnds where
  nx : WEnv → Prop
  rt : D → Prop
  bk : WEnv → Prop := fun _ => False
  ct : WEnv → Prop := fun _ => False
abbrev SW := WEnds → WEnv → Prop
structure WLe (A B : WEnds) : Prop where
  nx : ∀ ρ, A.nx ρ → B.nx ρ
  rt : ∀ d, A.rt d → B.rt d
  bk : ∀ ρ, A.bk ρ → B.bk ρ
  ct : ∀ ρ, A.ct ρ → B.ct ρ
theorem WLe.refl (A : WEnds) : WLe A A := ⟨fun _ h => h, fun _ h => h, fun _ h => h, fun _ h => h⟩
theorem WLe.next {A B : WEnds} (h : WLe A B) {p q : WEnv → Prop} (k : ∀ ρ, p ρ → q ρ) : WLe { A with nx := p } { B with nx := q } := ⟨k, h.rt, h.bk, h.ct⟩
/-- the ends over values and those over the heap -/
structure EndsOk (K : PySem.W.Frag) (β : Bx) (F Hf : Hp) (WD : WEnds) (E : Ends) : Prop where
  nx : ∀ F' ρ σ H, Ex F F' → Rel K β F' Hf ρ σ H → WD.nx ρ → E.nx σ H
  rt : ∀ F' ρ σ H d v, Ex F F' → Rel K β F' Hf ρ σ H → Rep K β F' d v → WD.rt d → E.rt v H
  bk : ∀ F' ρ σ H, Ex F F' → Rel K β F' Hf ρ σ H → WD.bk ρ → E.bk σ H
  ct : ∀ F' ρ σ H, Ex F F' → Rel K β F' Hf ρ σ H → WD.ct ρ → E.ct σ H
theorem EndsOk.mono {K : PySem.W.Frag} {β : Bx} {F F1 Hf : Hp} {WD : WEnds} {E : Ends} (h : EndsOk K β F Hf WD E) (e : Ex F F1) : EndsOk K β F1 Hf WD E :=
  ⟨fun F' ρ σ H g => h.nx F' ρ σ H (e.trans g), fun F' ρ σ H d v g => h.rt F' ρ σ H d v (e.trans g), fun F' ρ σ H g => h.bk F' ρ σ H (e.trans g), fun F' ρ σ H g => h.ct F' ρ σ H (e.trans g)⟩
def tS (K : PySem.W.Frag) (β : Bx) (w : SW) : TS := fun E σ H => ∃ F Hf ρ WD, Rel K β F Hf ρ σ H ∧ w WD ρ ∧ EndsOk K β F Hf WD E
structure PSW (X : Cx) (β : Bx) (st : Stmt) (w : SW) : Prop where
  mono : ∀ A B ρ, WLe A B → w A ρ → w B ρ
  run : PS X st (tS X.K β w)
structure PBW (X : Cx) (β : Bx) (st : List Stmt) (w : SW) : Prop where
  mono : ∀ A B ρ, WLe A B → w A ρ → w B ρ
  run : PSs X st (tS X.K β w)
theorem imp_S {X : Cx} {st : Stmt} {t t' : TS} (h : PS X st t) (i : ∀ E σ H, t' E σ H → t E σ H) : PS X st t' := ⟨fun pins s σ H E I q => h.run pins s σ H E I (i E σ H q)⟩
theorem imp_B {X : Cx} {st : List Stmt} {t t' : TS} (h : PSs X st t) (i : ∀ E σ H, t' E σ H → t E σ H) : PSs X st t' := ⟨fun pins s σ H E I q => h.run pins s σ H E I (i E σ H q)⟩

section
variable {K : PySem.W.Frag} {β : Bx} {F F' Hf H H' : Hp} {ρ : WEnv} {σ : L2.St}
theorem set_get {α : Type} {l : List α} {i j : Nat} {x y : α} (h : (l.set i x)[j]? = some y) : (j = i ∧ x = y ∧ i < l.length) ∨ (j ≠ i ∧ l[j]? = some y) := by
  by_cases e : j = i
  · subst e
    by_cases hj : j < l.length
    · rw [List.getElem?_set_self hj] at h; cases h; exact .inl ⟨rfl, rfl, hj⟩
    · rw [List.getElem?_eq_none (by simpa using hj)] at h; cases h
  · rw [List.getElem?_set_ne (Ne.symm e)] at h; exact .inr ⟨e, h⟩
theorem get_set_ne {α : Type} {l : List α} {i j : Nat} {x : α} (h : j ≠ i) : (l.set i x)[j]? = l[j]? := List.getElem?_set_ne (Ne.symm h)
theorem Rel.setVal (I : Rel K β F Hf ρ σ H) (i : Nat) {d : D} {v : V} (r : Rep K β F d v) : Rel K β F Hf (ρ.set i (.val d)) (σ.set i (some v)) H := by
  refine ⟨I.fex, I.hex, I.bx, I.bxF, by rw [List.length_set, List.length_set, I.len], fun j d' h => ?_, fun j d' h => ?_, fun j k dj dk a h1 h2 h3 h4 => ?_⟩
  · rcases set_get h with ⟨rfl, e, hl⟩ | ⟨ne, h⟩
    · cases e
      exact ⟨v, List.getElem?_set_self (by rw [← I.len]; exact hl), r⟩
    · obtain ⟨v', q1, q2⟩ := I.val j d' h
      exact ⟨v', by rw [get_set_ne ne]; exact q1, q2⟩
  · rcases set_get h with ⟨rfl, e, hl⟩ | ⟨ne, h⟩
    · cases e
    · obtain ⟨a, q1, q⟩ := I.own j d' h
      exact ⟨a, by rw [get_set_ne ne]; exact q1, q⟩
  · rcases set_get h1 with ⟨_, e, _⟩ | ⟨n1, h1⟩
    · cases e
    · rcases set_get h2 with ⟨_, e, _⟩ | ⟨n2, h2⟩
      · cases e
      · rw [get_set_ne n1] at h3
        rw [get_set_ne n2] at h4
        exact I.sep j k dj dk a h1 h2 h3 h4
theorem Rel.setOwn (I : Rel K β F Hf ρ σ H) (i : Nat) {d : D} {a : Addr} (h1 : F a = none) (h2 : Hf a = none) (h3 : ¬ β.foot a) (h4 : NoOwn ρ σ a) (h5 : ObjAt K β F H a d) :
    Rel K β F Hf (ρ.set i (.own d)) (σ.set i (some (.ref a))) H := by
  refine ⟨I.fex, I.hex, I.bx, I.bxF, by rw [List.length_set, List.length_set, I.len], fun j d' h => ?_, fun j d' h => ?_, fun j k dj dk b g1 g2 g3 g4 => ?_⟩
  · rcases set_get h with ⟨rfl, e, hl⟩ | ⟨ne, h⟩
    · cases e
    · obtain ⟨v', q1, q2⟩ := I.val j d' h
      exact ⟨v', by rw [get_set_ne ne]; exact q1, q2⟩
  · rcases set_get h with ⟨rfl, e, hl⟩ | ⟨ne, h⟩
    · cases e
      exact ⟨a, List.getElem?_set_self (by rw [← I.len]; exact hl), h1, h2, h3, h5⟩
    · obtain ⟨b, q1, q⟩ := I.own j d' h
      exact ⟨b, by rw [get_set_ne ne]; exact q1, q⟩
  · rcases set_get g1 with ⟨e1, _, l1⟩ | ⟨n1, g1⟩
    · rcases set_get g2 with ⟨e2, _, _⟩ | ⟨n2, g2⟩
      · rw [e1, e2]
      · rw [get_set_ne n2] at g4
        rw [e1, List.getElem?_set_self (by rw [← I.len]; exact l1)] at g3
        cases g3
        exact absurd g4 (h4 k dk g2)
    · rcases set_get g2 with ⟨e2, _, l2⟩ | ⟨n2, g2⟩
      · rw [get_set_ne n1] at g3
        rw [e2, List.getElem?_set_self (by rw [← I.len]; exact l2)] at g4
        cases g4
        exact absurd g3 (h4 j dj g1)
      · rw [get_set_ne n1] at g3
        rw [get_set_ne n2] at g4
        exact I.sep j k dj dk b g1 g2 g3 g4
/-- a slot's object, given away -/
theorem Rel.freezeSlot (I : Rel K β F Hf ρ σ H) {i : Nat} {d : D} (h : ρ[i]? = some (Slot.own d)) : ∃ F' v, Ex F F' ∧ σ[i]? = some (some v) ∧ Rep K β F' d v ∧ Rel K β F' Hf (ρ.set i (.val d)) σ H := by
  obtain ⟨a, q1, q2, q3, q4, q5⟩ := I.own i d h
  have I1 : Rel K β F Hf (ρ.set i .un) σ H := by
    refine ⟨I.fex, I.hex, I.bx, I.bxF, by rw [List.length_set, I.len], fun j d' g => ?_, fun j d' g => ?_, fun j k dj dk b g1 g2 g3 g4 => ?_⟩
    · rcases set_get g with ⟨_, e, _⟩ | ⟨_, g⟩
      · cases e
      · exact I.val j d' g
    · rcases set_get g with ⟨_, e, _⟩ | ⟨_, g⟩
      · cases e
      · exact I.own j d' g
    · rcases set_get g1 with ⟨_, e, _⟩ | ⟨_, g1⟩
      · cases e
      · rcases set_get g2 with ⟨_, e, _⟩ | ⟨_, g2⟩
        · cases e
        · exact I.sep j k dj dk b g1 g2 g3 g4
  have no : NoOwn (ρ.set i .un) σ a := fun j d' g z => by
    rcases set_get g with ⟨_, e, _⟩ | ⟨ne, g⟩
    · cases e
    · exact ne (I.sep j i d' d a g h z q1)
  obtain ⟨F', e, I2, r⟩ := I1.freeze q2 q3 q4 no q5
  refine ⟨F', .ref a, e, q1, r, ?_⟩
  have I3 := I2.setVal i r
  rw [List.set_set] at I3
  have : σ.set i (some (V.ref a)) = σ := by
    apply List.ext_getElem?
    intro j
    by_cases hj : j = i
    · subst hj
      rw [List.getElem?_set_self (List.getElem?_eq_some_iff.mp q1).1, q1]
    · rw [get_set_ne hj]
  rwa [this] at I3
/-- a slot's own object is changed in place -/
theorem Rel.mutate (I : Rel K β F Hf ρ σ H) {i : Nat} {d d' : D} {a : Addr} {o : HO} (h : ρ[i]? = some (Slot.own d)) (ha : σ[i]? = some (some (V.ref a))) (hn : ObjAt K β F (upd H a o) a d') :
    Rel K β F Hf (ρ.set i (.own d')) σ (upd H a o) := by
  obtain ⟨b, q1, q2, q3, q4, q5⟩ := I.own i d h
  rw [ha] at q1; cases q1
  refine ⟨fun c u hc => ?_, fun c u hc => ?_, ?_, I.bxF, by rw [List.length_set, I.len], fun j d1 g => ?_, fun j d1 g => ?_, fun j k dj dk b g1 g2 g3 g4 => ?_⟩
  · have : c ≠ a := fun z => by rw [z, q2] at hc; cases hc
    rw [upd_ne this]; exact I.fex c u hc
  · have : c ≠ a := fun z => by rw [z, q3] at hc; cases hc
    rw [upd_ne this]; exact I.hex c u hc
  · refine β.loc H _ (fun c hc => ?_) I.bx
    have : c ≠ a := fun z => q4 (z ▸ hc)
    rw [upd_ne this]
  · rcases set_get g with ⟨_, e, _⟩ | ⟨_, g⟩
    · cases e
    · exact I.val j d1 g
  · rcases set_get g with ⟨e1, e, l⟩ | ⟨ne, g⟩
    · cases e
      rw [e1]
      exact ⟨a, ha, q2, q3, q4, hn⟩
    · obtain ⟨c, g1, g2, g3, g4, g5⟩ := I.own j d1 g
      have : c ≠ a := fun z => ne (I.sep j i d1 d a g h (z ▸ g1) ha)
      exact ⟨c, g1, g2, g3, g4, g5.at (by rw [upd_ne this])⟩
  · have w1 : ∃ d1, ρ[j]? = some (Slot.own d1) := by
      rcases set_get g1 with ⟨e1, _, _⟩ | ⟨_, g1⟩
      · exact ⟨d, by rw [e1]; exact h⟩
      · exact ⟨_, g1⟩
    have w2 : ∃ d1, ρ[k]? = some (Slot.own d1) := by
      rcases set_get g2 with ⟨e1, _, _⟩ | ⟨_, g2⟩
      · exact ⟨d, by rw [e1]; exact h⟩
      · exact ⟨_, g2⟩
    obtain ⟨d1, w1⟩ := w1
    obtain ⟨d2, w2⟩ := w2
    exact I.sep j k d1 d2 b w1 w2 g3 g4
end

section
variable {X : Cx} {β : Bx} {st : Stmt} {rest : List Stmt} {w u : SW} {a b c e : Expr} {wa wb : WE} {wt : WT} {pos : Pos}
def wSkip : SW := fun E ρ => E.nx ρ
def wSeq (w u : SW) : SW := fun E ρ => w { E with nx := u E } ρ
theorem EndsOk.with_nx {K : PySem.W.Frag} {F Hf : Hp} {WD : WEnds} {E : Ends} (h : EndsOk K β F Hf WD E) {p : WEnv → Prop} {q : L2.St → Hp → Prop} (k : ∀ F' ρ σ H, Ex F F' → Rel K β F' Hf ρ σ H → p ρ → q σ H) :
    EndsOk K β F Hf { WD with nx := p } { E with nx := q } := ⟨k, h.rt, h.bk, h.ct⟩
theorem pb_nil : PBW X β [] wSkip := ⟨fun _ _ ρ h q => h.nx ρ q, imp_B pss_nil fun E σ H q => by
  obtain ⟨F, Hf, ρ, WD, I, q, k⟩ := q
  exact k.nx F ρ σ H (Ex.refl F) I q⟩
theorem pb_cons (h : PSW X β st w) (g : PBW X β rest u) : PBW X β (st :: rest) (wSeq w u) := by
  refine ⟨fun A B ρ l q => h.mono _ _ ρ (l.next fun ρ q => g.mono _ _ ρ l q) q, imp_B (pss_cons h.run g.run) fun E σ H q => ?_⟩
  obtain ⟨F, Hf, ρ, WD, I, q, k⟩ := q
  refine ⟨F, Hf, ρ, _, I, q, k.with_nx fun F' ρ' σ' H' e' I' q' => ?_⟩
  exact ⟨F', Hf, ρ', WD, I', q', k.mono e'⟩
theorem pb_one (h : PSW X β st w) : PBW X β [st] w := ⟨h.mono, pss_one h.run⟩
/-- the object of a slot is given away from here on -/
def wFz (i : Nat) (w : SW) : SW := fun E ρ => match ρ[i]? with
  | some (.own d) => w E (ρ.set i (.val d))
  | _ => w E ρ
theorem fz_go {K : PySem.W.Frag} (i : Nat) {E : Ends} {σ : L2.St} {H : Hp} (q : tS K β (wFz i w) E σ H) : tS K β w E σ H := by
  obtain ⟨F, Hf, ρ, WD, I, q, k⟩ := q
  unfold wFz at q
  split at q
  · rename_i d hd
    obtain ⟨F', v, e', _, _, I'⟩ := I.freezeSlot hd
    exact ⟨F', Hf, _, WD, I', q, k.mono e'⟩
  · exact ⟨F, Hf, ρ, WD, I, q, k⟩
theorem wFz_mono {i : Nat} (hm : ∀ A B ρ, WLe A B → w A ρ → w B ρ) (A B : WEnds) (ρ : WEnv) (l : WLe A B) (q : wFz i w A ρ) : wFz i w B ρ := by
  unfold wFz at q ⊢
  split at q
  · exact hm _ _ _ l q
  · exact hm _ _ _ l q
theorem pb_fz (i : Nat) (h : PBW X β rest w) : PBW X β rest (wFz i w) := ⟨wFz_mono h.mono, imp_B h.run fun E σ H q => fz_go i q⟩
theorem ps_fz (i : Nat) (h : PSW X β st w) : PSW X β st (wFz i w) := ⟨wFz_mono h.mono, imp_S h.run fun E σ H q => fz_go i q⟩
def wBk : SW := fun E ρ => E.bk ρ
def wCt : SW := fun E ρ => E.ct ρ
theorem ps_pass : PSW X β (.Pass pos) wSkip := ⟨fun _ _ ρ h q => h.nx ρ q, imp_S L2.ps_pass fun E σ H ⟨F, Hf, ρ, WD, I, q, k⟩ => k.nx F ρ σ H (Ex.refl F) I q⟩
theorem ps_brk : PSW X β (.Break pos) wBk := ⟨fun _ _ ρ h q => h.bk ρ q, imp_S L2.ps_break fun E σ H ⟨F, Hf, ρ, WD, I, q, k⟩ => k.bk F ρ σ H (Ex.refl F) I q⟩
theorem ps_cont : PSW X β (.Continue pos) wCt := ⟨fun _ _ ρ h q => h.ct ρ q, imp_S L2.ps_continue fun E σ H ⟨F, Hf, ρ, WD, I, q, k⟩ => k.ct F ρ σ H (Ex.refl F) I q⟩
/-- e; .. its value dropped -/
def wDrop (wa : WE) : SW := fun E ρ => wa ρ fun _ => E.nx ρ
theorem ps_drop (h : PW X β a wa) (hs : swapsWith a none pos.line X.env = pure false := by rfl) : PSW X β (.Expr a pos) (wDrop wa) := by
  refine ⟨fun A B ρ l q => h.mono ρ _ _ (fun _ q => l.nx ρ q) q, imp_S (L2.ps_expr h.run hs) fun E σ H q => ?_⟩
  obtain ⟨F, Hf, ρ, WD, I, q, k⟩ := q
  exact ⟨F, Hf, ρ, I, h.mono ρ _ _ (fun r q F1 H1 v e1 I1 r1 => k.nx F1 ρ σ H1 e1 I1 q) q⟩
def wRet (wa : WE) : SW := fun E ρ => wa ρ fun r => E.rt r.d
theorem ps_ret (h : PW X β a wa) : PSW X β (.Return (some a) pos) (wRet wa) := by
  refine ⟨fun A B ρ l q => h.mono ρ _ _ (fun _ q => l.rt _ q) q, imp_S (L2.ps_ret h.run) fun E σ H q => ?_⟩
  obtain ⟨F, Hf, ρ, WD, I, q, k⟩ := q
  refine ⟨F, Hf, ρ, I, h.mono ρ _ _ (fun r q F1 H1 v e1 I1 r1 => ?_) q⟩
  cases r with
  | val d => exact k.rt F1 ρ σ H1 d v e1 I1 r1 q
  | own d =>
    obtain ⟨x, rfl, g1, g2, g3, g4, g5⟩ := r1
    obtain ⟨F2, e2, I2, r2⟩ := I1.freeze g1 g2 g3 g4 g5
    exact k.rt F2 ρ σ H1 d _ (e1.trans e2) I2 r2 q
  | bor i d =>
    obtain ⟨g1, g2⟩ := r1
    obtain ⟨F2, v2, e2, h2, r2, I2⟩ := I1.freezeSlot g1
    rw [g2] at h2; cases h2
    exact k.rt F2 _ σ H1 d _ (e1.trans e2) I2 r2 q
def wRetN : SW := fun E _ => E.rt .non
theorem ps_retN : PSW X β (.Return none pos) wRetN := ⟨fun A B ρ l q => l.rt _ q, imp_S L2.ps_retN fun E σ H ⟨F, Hf, ρ, WD, I, q, k⟩ => k.rt F ρ σ H _ _ (Ex.refl F) I (by rw [Rep]) q⟩
def wIfS (wt : WT) (w u : SW) : SW := fun E ρ => wt ρ fun k => ifP k (w E ρ) (u E ρ)
theorem ps_if {sa sb : List Stmt} (ht : PWT X β c wt) (ha : PBW X β sa w) (hb : PBW X β sb u) : PSW X β (.If c sa sb pos) (wIfS wt w u) := by
  refine ⟨fun A B ρ l q => ht.mono ρ _ _ (fun _ q => ifP_mono q (fun q => ha.mono _ _ ρ l q) (fun q => hb.mono _ _ ρ l q)) q, imp_S (L2.ps_if ht.run ha.run hb.run) fun E σ H q => ?_⟩
  obtain ⟨F, Hf, ρ, WD, I, q, k⟩ := q
  refine ⟨F, Hf, ρ, I, ht.mono ρ _ _ (fun kk q F1 H1 e1 I1 => ?_) q⟩
  refine ifP_ite (ifP_mono q (fun q => ?_) (fun q => ?_))
  · exact ⟨F1, Hf, ρ, WD, I1, q, k.mono e1⟩
  · exact ⟨F1, Hf, ρ, WD, I1, q, k.mono e1⟩

/-! assignments -/
def R.slot : R → Option Slot
  | .val d => some (.val d)
  | .own d => some (.own d)
  | .bor _ _ => none
theorem Rel.setR {K : PySem.W.Frag} {F Hf H : Hp} {ρ : WEnv} {σ : L2.St} {r : R} {v : V} {s : Slot} (I : Rel K β F Hf ρ σ H) (i : Nat) (h : RepR K β F Hf ρ σ H r v) (e : r.slot = some s) : Rel K β F Hf (ρ.set i s) (σ.set i (some v)) H := by
  cases r with
  | val d => cases e; exact I.setVal i h
  | own d =>
    cases e
    obtain ⟨a, rfl, g1, g2, g3, g4, g5⟩ := h
    exact I.setOwn i g1 g2 g3 g4 g5
  | bor j d => cases e
def wSet (i : Nat) (wa : WE) : SW := fun E ρ => wa ρ fun r => match r.slot with
  | some s => E.nx (ρ.set i s)
  | none => False
theorem wSet_mono {i : Nat} (hm : ∀ ρ P P', (∀ r, P r → P' r) → wa ρ P → wa ρ P') (A B : WEnds) (ρ : WEnv) (l : WLe A B) (q : wSet i wa A ρ) : wSet i wa B ρ := hm ρ _ _ (fun r q => by
  split at q
  · exact l.nx _ q
  · exact q) q
theorem set_go {i : Nat} {K : PySem.W.Frag} (hm : ∀ ρ P P', (∀ r, P r → P' r) → wa ρ P → wa ρ P') (E : Ends) (σ : L2.St) (H : Hp) (q : tS K β (wSet i wa) E σ H) : tAsg (tW K β wa) (gName i) E σ H := by
  obtain ⟨F, Hf, ρ, WD, I, q, k⟩ := q
  refine ⟨F, Hf, ρ, I, hm ρ _ _ (fun r q F1 H1 v e1 I1 r1 => ?_) q⟩
  split at q
  · rename_i s hs
    exact k.nx F1 _ _ H1 e1 (I1.setR i r1 hs) q
  · exact q.elim
theorem ps_set {i : Nat} {x : Str} {pos' : Pos} (hN : X.N.Nodup) (hi : X.N[i]? = some x) (hx : Loc X.env.scope x) (h : PW X β e wa) (hs : swapsWith e (some (.Name x pos')) pos.line X.env = pure false := by rfl) (hf : X.fn x = true ∨ X.env.scope.names.lookup x = some .local := by first | exact .inl rfl | exact .inr rfl | assumption) :
    PSW X β (.Assign [.Name x pos'] e pos) (wSet i wa) :=
  ⟨wSet_mono h.mono, imp_S (L2.ps_set hN hi hx h.run hs hf) fun E σ H q => set_go h.mono E σ H q⟩
/-- a, b = e1, e2 with plain names -/
def wPar (i j : Nat) (wa wb : WE) : SW := fun E ρ => wa ρ fun r => wb ρ fun s => match r.slot, s.slot with
  | some x, some y => E.nx ((ρ.set i x).set j y)
  | _, _ => False
theorem par_core {K : PySem.W.Frag} {i j : Nat} (ma : ∀ ρ P P', (∀ r, P r → P' r) → wa ρ P → wa ρ P') (mb : ∀ ρ P P', (∀ r, P r → P' r) → wb ρ P → wb ρ P') (E : Ends) (σ : L2.St) (H : Hp) (q : tS K β (wPar i j wa wb) E σ H) :
    tW K β wa σ H fun x H1 => tW K β wb σ H1 fun y H2 => ∀ H3, (H3 = H2 ∨ ∃ p o, H2 p = none ∧ H3 = upd H2 p o) → E.nx ((σ.set i (some x)).set j (some y)) H3 := by
  obtain ⟨F, Hf, ρ, WD, I, q, k⟩ := q
  have kk : ∀ F' ρ σ H, Ex F F' → Rel K β F' Hf ρ σ H → WD.nx ρ → ∀ H3, (H3 = H ∨ ∃ p o, H p = none ∧ H3 = upd H p o) → E.nx σ H3 := fun F' ρ σ H e I q H3 h => by
    rcases h with rfl | ⟨p, o, hp, rfl⟩
    · exact k.nx F' ρ σ _ e I q
    · exact k.nx F' ρ σ _ e (I.grow hp) q
  refine ⟨F, Hf, ρ, I, ma ρ _ _ (fun r q F1 H1 v e1 I1 r1 => ?_) q⟩
  cases r with
  | val d =>
    refine ⟨F1, Hf, ρ, I1, mb ρ _ _ (fun s q F2 H2 v2 e2 I2 r2 => ?_) q⟩
    cases hs : s.slot with
    | none => rw [hs] at q; exact q.elim
    | some y =>
      rw [hs] at q
      have J := (I2.setVal i (r1.mono e2))
      cases s with
      | val d2 => cases hs; exact kk F2 _ _ H2 (e1.trans e2) (J.setVal j r2) q
      | own d2 =>
        cases hs
        obtain ⟨b, rfl, g1, g2, g3, g4, g5⟩ := r2
        refine kk F2 _ _ H2 (e1.trans e2) (J.setOwn j g1 g2 g3 (fun m dm hm hz => ?_) g5) q
        rcases set_get hm with ⟨_, z, _⟩ | ⟨ne, hm⟩
        · cases z
        · rw [get_set_ne ne] at hz
          exact g4 m dm hm hz
      | bor m d2 => cases hs
  | own d =>
    obtain ⟨p, rfl, f1, f2, f3, f4, f5⟩ := r1
    obtain ⟨o, ho⟩ := f5.some
    have J : Rel K β F1 (upd Hf p o) ρ σ H1 := by
      refine ⟨I1.fex, fun b u hb => ?_, I1.bx, fun b hb => ?_, I1.len, I1.val, fun m dm hm => ?_, I1.sep⟩
      · by_cases hbp : b = p
        · rw [hbp, upd_same] at hb
          rw [hbp]
          exact ⟨ho.trans hb, f1⟩
        · rw [upd_ne hbp] at hb; exact I1.hex b u hb
      · have : b ≠ p := fun z => f3 (z ▸ hb)
        rw [upd_ne this]; exact I1.bxF b hb
      · obtain ⟨b, g1, g2, g3, g4, g5⟩ := I1.own m dm hm
        have : b ≠ p := fun z => f4 m dm hm (z ▸ g1)
        exact ⟨b, g1, g2, by rw [upd_ne this]; exact g3, g4, g5⟩
    refine ⟨F1, upd Hf p o, ρ, J, mb ρ _ _ (fun s q F2 H2 v2 e2 I2 r2 => ?_) q⟩
    have hp := I2.hex p o upd_same
    have I3 : Rel K β F2 Hf ρ σ H2 := by
      have sub : ∀ b u, Hf b = some u → (upd Hf p o) b = some u := fun b u hb => by
        have : b ≠ p := fun z => by rw [z, f2] at hb; cases hb
        rw [upd_ne this]; exact hb
      have non : ∀ b, (upd Hf p o) b = none → Hf b = none := fun b hb => by
        cases h : Hf b with
        | none => rfl
        | some u => rw [sub b u h] at hb; cases hb
      refine ⟨I2.fex, fun b u hb => I2.hex b u (sub b u hb), I2.bx, fun b hb => ⟨(I2.bxF b hb).1, non b (I2.bxF b hb).2⟩, I2.len, I2.val, fun m dm hm => ?_, I2.sep⟩
      obtain ⟨b, g1, g2, g3, g4, g5⟩ := I2.own m dm hm
      exact ⟨b, g1, g2, non b g3, g4, g5⟩
    have L := I3.setOwn i hp.2 f2 f3 f4 ((f5.at (by rw [ho]; exact hp.1)).mono e2)
    cases hs : s.slot with
    | none => rw [hs] at q; exact q.elim
    | some y =>
      rw [hs] at q
      cases s with
      | val d2 => cases hs; exact kk F2 _ _ H2 (e1.trans e2) (L.setVal j r2) q
      | own d2 =>
        cases hs
        obtain ⟨b, rfl, g1, g2, g3, g4, g5⟩ := r2
        have nb : b ≠ p := fun z => by rw [z, upd_same] at g2; cases g2
        have g2' : Hf b = none := by rwa [upd_ne nb] at g2
        refine kk F2 _ _ H2 (e1.trans e2) (L.setOwn j g1 g2' g3 (fun m dm hm hz => ?_) g5) q
        rcases set_get hm with ⟨e3, _, l3⟩ | ⟨ne, hm⟩
        · rw [e3, List.getElem?_set_self (by rw [← I3.len]; exact l3)] at hz
          cases hz
          exact nb rfl
        · rw [get_set_ne ne] at hz
          exact g4 m dm hm hz
      | bor m d2 => cases hs
  | bor m d => exact (mb ρ _ (fun _ => False) (fun s q => by exact q) q |> fun z => ⟨F1, Hf, ρ, I1, mb ρ _ _ (fun _ z => z.elim) z⟩)
theorem par_go {K : PySem.W.Frag} {i j : Nat} (ma : ∀ ρ P P', (∀ r, P r → P' r) → wa ρ P → wa ρ P') (mb : ∀ ρ P P', (∀ r, P r → P' r) → wb ρ P → wb ρ P') (E : Ends) (σ : L2.St) (H : Hp) (q : tS K β (wPar i j wa wb) E σ H) :
    tPar i j (tCons (tW K β wa) (tCons (tW K β wb) tNil)) E σ H := by
  obtain ⟨F, Hf, ρ, I, q⟩ := par_core ma mb E σ H q
  refine ⟨F, Hf, ρ, I, ma ρ _ _ (fun r k F1 H1 v e1 I1 r1 => ?_) q⟩
  obtain ⟨F2, Hf2, ρ2, I2, q2⟩ := k F1 H1 v e1 I1 r1
  exact ⟨F2, Hf2, ρ2, I2, mb ρ2 _ _ (fun s k F3 H3 u e3 I3 r3 => ⟨v, u, rfl, k F3 H3 u e3 I3 r3 H3 (.inl rfl)⟩) q2⟩
theorem ps_par {i j : Nat} {x y : Str} {px py pt : Pos} {kt k2 pt2} (hc : X.calm = true) (hN : X.N.Nodup) (hi : X.N[i]? = some x) (hj : X.N[j]? = some y) (hij : i ≠ j)
    (hx : X.env.scope.names.lookup x = some .local) (hy : X.env.scope.names.lookup y = some .local) (ha : PW X β a wa) (hb : PW X β b wb)
    (hw : swappedStores [.Tuple [.Name x px, .Name y py] kt pt] (.Tuple [a, b] k2 pt2) X.env = pure (some [x, y]))
    (hs : swapsWithSole [.Tuple [.Name x px, .Name y py] kt pt] (.Tuple [a, b] k2 pt2) pos.line X.env = pure false := by rfl)
    (h1 : starEach [a, b] X.env = (false, eval a X.env) :: starEach [b] X.env := by rfl) (h2 : starEach [b] X.env = (false, eval b X.env) :: starEach [] X.env := by rfl) :
    PSW X β (.Assign [.Tuple [.Name x px, .Name y py] kt pt] (.Tuple [a, b] k2 pt2) pos) (wPar i j wa wb) :=
  ⟨fun A B ρ l q => ha.mono ρ _ _ (fun r q => hb.mono ρ _ _ (fun s q => by
    split at q
    · exact l.nx _ q
    · exact q) q) q, imp_S (L2.ps_par hc hN hi hj hij hx hy (pa_cons ha.run (pa_cons hb.run pa_nil h2) h1) hw hs) fun E σ H q => par_go ha.mono hb.mono E σ H q⟩
/-- targets: a name, names in a row -/
inductive Tgt where
  | one (j : Nat) | tup (js : List Nat)
def gNames : List Nat → TGs
  | [] => gNil
  | j :: js => gCons (gName j) (gNames js)
def gTgt (K : PySem.W.Frag) : Tgt → TG
  | .one j => gName j
  | .tup js => gTup K js.length (gNames js)
def setAll : List Nat → List D → WEnv → Option WEnv
  | [], [], ρ => some ρ
  | j :: js, d :: ds, ρ => setAll js ds (ρ.set j (.val d))
  | _, _, _ => none
def bindT : Tgt → D → WEnv → Option WEnv
  | .one j, d, ρ => some (ρ.set j (.val d))
  | .tup js, .tup ds, ρ => setAll js ds ρ
  | .tup _, _, _ => none
theorem setAll_go {K : PySem.W.Frag} {F Hf H : Hp} : ∀ {js : List Nat} {ds : List D} {ρ ρ' : WEnv} {σ : L2.St} {vs : List V} {Q : L2.St → Hp → Prop}, Rel K β F Hf ρ σ H → RepL K β F ds vs → setAll js ds ρ = some ρ' → (∀ σ', Rel K β F Hf ρ' σ' H → Q σ' H) → gNames js vs σ H Q
  | [], [], ρ, ρ', σ, vs, Q, I, r, e, q => by
    rw [setAll] at e; cases e
    rw [RepL] at r; subst r
    exact ⟨rfl, q σ I⟩
  | [], _ :: _, _, _, _, _, _, _, _, e, _ => by simp [setAll] at e
  | _ :: _, [], _, _, _, _, _, _, _, e, _ => by simp [setAll] at e
  | j :: js, d :: ds, ρ, ρ', σ, vs, Q, I, r, e, q => by
    rw [setAll] at e
    rw [RepL] at r
    obtain ⟨v, ws, rfl, r1, r2⟩ := r
    exact ⟨v, ws, rfl, setAll_go (I.setVal j r1) r2 e q⟩
theorem setAll_len : ∀ {js : List Nat} {ds : List D} {ρ ρ' : WEnv}, setAll js ds ρ = some ρ' → ds.length = js.length
  | [], [], _, _, _ => rfl
  | [], _ :: _, _, _, e => by simp [setAll] at e
  | _ :: _, [], _, _, e => by simp [setAll] at e
  | _ :: js, _ :: ds, _, _, e => by
    rw [setAll] at e
    rw [List.length_cons, List.length_cons, setAll_len e]
theorem bindT_go {K : PySem.W.Frag} {F Hf H : Hp} {tg : Tgt} {d : D} {ρ ρ' : WEnv} {σ : L2.St} {v : V} {Q : L2.St → Hp → Prop} (I : Rel K β F Hf ρ σ H) (r : Rep K β F d v) (e : bindT tg d ρ = some ρ') (q : ∀ σ', Rel K β F Hf ρ' σ' H → Q σ' H) : gTgt K tg v σ H Q := by
  cases tg with
  | one j =>
    rw [bindT] at e; cases e
    exact q _ (I.setVal j r)
  | tup js =>
    cases d <;> try (rw [bindT] at e; cases e; done)
    all_goals first
      | (exfalso; simp [bindT] at e; done)
      | (rename_i ds
         rw [bindT] at e
         rw [Rep] at r
         obtain ⟨a, vs, rfl, sq, hz, rl⟩ := r
         exact ⟨a, vs, rfl, ex_t I.fex sq.sq, by rw [rl.length, setAll_len e], setAll_go I rl e q⟩)
/-- .. where a name is a comprehension's, too -/
theorem ps_parT {i j : Nat} {x y : Str} {px py pt : Pos} {kt k2 pt2} (hN : X.N.Nodup) (hi : X.N[i]? = some x) (hj : X.N[j]? = some y) (hij : i ≠ j) (hx : Loc X.env.scope x) (hy : Loc X.env.scope y) (ha : PW X β a wa) (hb : PW X β b wb) (hc : X.calm = true := by rfl)
    (hw : swappedStores [.Tuple [.Name x px, .Name y py] kt pt] (.Tuple [a, b] k2 pt2) X.env = pure none := by rfl)
    (hs : swapsWithSole [.Tuple [.Name x px, .Name y py] kt pt] (.Tuple [a, b] k2 pt2) pos.line X.env = pure false := by rfl)
    (h0 : (assignEach [.Tuple [.Name x px, .Name y py] kt pt] X.env).map (·.2) = [assign (.Tuple [.Name x px, .Name y py] kt pt) X.env] := by rfl)
    (h1 : starEach [a, b] X.env = (false, eval a X.env) :: starEach [b] X.env := by rfl) (h2 : starEach [b] X.env = (false, eval b X.env) :: starEach [] X.env := by rfl)
    (hn : (assignEach [.Name x px, .Name y py] X.env).length = 2 := by rfl) (hst : (assignEach [.Name x px, .Name y py] X.env).findIdx? (·.1) = none := by rfl)
    (g1 : (assignEach [.Name x px, .Name y py] X.env).map (·.2) = assign (.Name x px) X.env :: (assignEach [.Name y py] X.env).map (·.2) := by rfl)
    (g2 : (assignEach [.Name y py] X.env).map (·.2) = assign (.Name y py) X.env :: (assignEach [] X.env).map (·.2) := by rfl)
    (f1 : X.fn x = true ∨ X.env.scope.names.lookup x = some .local := by first | exact .inl rfl | exact .inr rfl) (f2 : X.fn y = true ∨ X.env.scope.names.lookup y = some .local := by first | exact .inl rfl | exact .inr rfl) :
    PSW X β (.Assign [.Tuple [.Name x px, .Name y py] kt pt] (.Tuple [a, b] k2 pt2) pos) (wPar i j wa wb) := by
  have tg : PG X (.Tuple [.Name x px, .Name y py] kt pt) (gTgt X.K (.tup [i, j])) := pg_tup hc (pgs_cons (pg_name hN hi hx f1) (pgs_cons (pg_name hN hj hy f2) pgs_nil g2) g1) hn hst
  refine ⟨fun A B ρ l q => ha.mono ρ _ _ (fun r q => hb.mono ρ _ _ (fun s q => by
    split at q
    · exact l.nx _ q
    · exact q) q) q, imp_S (L2.ps_asg (pe_tup (pa_cons ha.run (pa_cons hb.run pa_nil h2) h1)) tg hs hw h0) fun E σ H q => ?_⟩
  obtain ⟨F, Hf, ρ, I, q⟩ := par_core ha.mono hb.mono E σ H q
  refine ⟨F, Hf, ρ, I, ha.mono ρ _ _ (fun r k F1 H1 v e1 I1 r1 => ?_) q⟩
  obtain ⟨F2, Hf2, ρ2, I2, q2⟩ := k F1 H1 v e1 I1 r1
  refine ⟨F2, Hf2, ρ2, I2, hb.mono ρ2 _ _ (fun s k F3 H3 u e3 I3 r3 => ⟨by show 2 ≤ sizeLine; decide, fun p hp => ?_⟩) q2⟩
  refine ⟨p, [v, u], rfl, .inl (.inl upd_same), rfl, v, [u], rfl, u, [], rfl, rfl, ?_⟩
  exact k F3 H3 u e3 I3 r3 _ (.inr ⟨p, _, hp, rfl⟩)
def wUnp (js : List Nat) (wa : WE) : SW := fun E ρ => wa ρ fun r => match bindT (.tup js) r.d ρ with
  | some ρ' => E.nx ρ'
  | none => False
theorem ps_unp {tg : Expr} {js : List Nat} (hg : PG X tg (gTgt X.K (.tup js))) (h : PW X β e wa) (hs : swapsWithSole [tg] e pos.line X.env = pure false := by rfl) (hw : swappedStores [tg] e X.env = pure none := by rfl)
    (h1 : (assignEach [tg] X.env).map (·.2) = [assign tg X.env] := by rfl) : PSW X β (.Assign [tg] e pos) (wUnp js wa) := by
  refine ⟨fun A B ρ l q => h.mono ρ _ _ (fun r q => ?_) q, imp_S (L2.ps_asg h.opnd hg hs hw h1) fun E σ H q => ?_⟩
  · split at q
    · exact l.nx _ q
    · exact q
  · obtain ⟨F, Hf, ρ, WD, I, q, k⟩ := q
    refine ⟨F, Hf, ρ, I, h.mono ρ _ _ (fun r q F1 H1 v e1 I1 r1 => ?_) q⟩
    split at q
    · rename_i ρ' he
      have r2 : Rep X.K β F1 r.d v := by
        cases r with
        | val d => exact r1
        | own d => exact r1
        | bor m d =>
          obtain ⟨g1, g2⟩ := (show ρ[m]? = some (Slot.own d) ∧ σ[m]? = some (some v) from r1)
          obtain ⟨a, o1, o2, o3, o4, o5⟩ := I1.own m d g1
          cases d <;> first
            | exact o5.elim
            | (simp [bindT] at he; done)
      exact bindT_go I1 r2 he fun σ' I' => k.nx F1 _ σ' H1 e1 I' q
    · exact q.elim
end
end WL
set_option Elab.async false
set_option linter.all false
set_option autoImplicit false
set_option maxRecDepth 100000
namespace WL
open PySem PySem.Spec L2

/-! ### what is walked -/
abbrev WI := WEnv → (R → List D → Prop) → Prop
structure ItOk (K : PySem.W.Frag) (β : Bx) (r : R) (v : V) (ds : List D) (J : It) : Prop where
  size : ds.length ≤ sizeLine
  turn : ∀ F Hf ρ σ H i, Rel K β F Hf ρ σ H → RepA K β F ρ σ r v → (∀ d, ds[i]? = some d → J.go i H ∧ ∀ x H', J.yld i H x H' → ∃ F', Ex F F' ∧ Rel K β F' Hf ρ σ H' ∧ Rep K β F' d x) ∧ (ds.length ≤ i → J.stop i H)
def tI (K : PySem.W.Frag) (β : Bx) (w : WI) : TI := fun σ H Rr => ∃ F Hf ρ, Rel K β F Hf ρ σ H ∧ w ρ fun r ds => ∀ F' H' v J, Ex F F' → Rel K β F' Hf ρ σ H' → RepA K β F' ρ σ r v → ItOk K β r v ds J → Rr J H'
structure PIW (X : Cx) (β : Bx) (tg e : Expr) (w : WI) : Prop where
  mono : ∀ ρ P P', (∀ r ds, P r ds → P' r ds) → w ρ P → w ρ P'
  run : PI X tg e (tI X.K β w)
section
variable {X : Cx} {β : Bx} {tg e a b c : Expr} {wa wb we : WE} {wt : WT} {wi : WI} {pos : Pos} {st : List Stmt} {w u : SW}

/-! for -/
def wForL (t : Tgt) (body : SW) (E : WEnds) : List D → WEnv → Prop
  | [], ρ => E.nx ρ
  | d :: ds, ρ => match bindT t d ρ with
    | some ρ' => body { nx := wForL t body E ds, ct := wForL t body E ds, bk := E.nx, rt := E.rt } ρ'
    | none => False
def wFor (wi : WI) (t : Tgt) (body : SW) : SW := fun E ρ => wi ρ fun r ds => match r with
  | .val _ => wForL t body E ds ρ
  | _ => False
theorem wForL_mono {t : Tgt} (hb : ∀ A B ρ, WLe A B → w A ρ → w B ρ) {A B : WEnds} (l : WLe A B) : ∀ (ds : List D) (ρ : WEnv), wForL t w A ds ρ → wForL t w B ds ρ
  | [], ρ, q => l.nx ρ q
  | d :: ds, ρ, q => by
    unfold wForL at q ⊢
    split at q
    · exact hb { nx := wForL t w A ds, ct := wForL t w A ds, bk := A.nx, rt := A.rt } { nx := wForL t w B ds, ct := wForL t w B ds, bk := B.nx, rt := B.rt } _ (WLe.mk (fun ρ q => wForL_mono hb l ds ρ q) l.rt l.nx (fun ρ q => wForL_mono hb l ds ρ q)) q
    · exact q
theorem ps_for {t : Tgt} (hi : PIW X β tg e wi) (hg : PG X tg (gTgt X.K t)) (hb : PBW X β st w) (hp : PassesOwn (model X.prog X.w) X.A X.env X.xe := by exact PassesOwn.never) (hc : X.calm = true := by rfl)
    (hs : ∀ x, foldedSetIterable e X.env x = pure x := by intro _; rfl) : PSW X β (.For tg e st [] pos) (wFor wi t w) := by
  refine ⟨fun A B ρ l q => hi.mono ρ _ _ (fun r ds q => ?_) q, imp_S (L2.ps_for hp hc hi.run hg hb.run hs) fun E σ H q => ?_⟩
  · split at q
    · exact wForL_mono hb.mono l _ _ q
    · exact q
  · obtain ⟨F, Hf, ρ, WD, I, q, k⟩ := q
    refine ⟨F, Hf, ρ, I, hi.mono ρ _ _ (fun r ds q F1 H1 v J e1 I1 r1 ok => ?_) q⟩
    cases r with
    | own d => exact q.elim
    | bor i d => exact q.elim
    | val d =>
      refine ⟨fun i m σ' H' => m = ds.length - i ∧ i ≤ ds.length ∧ ∃ F' ρ', Ex F1 F' ∧ Rel X.K β F' Hf ρ' σ' H' ∧ wForL t w WD (ds.drop i) ρ', ⟨ds.length, rfl, Nat.zero_le _, F1, ρ, Ex.refl F1, I1, q⟩, fun i m σ' H' hW => ?_⟩
      obtain ⟨hm, hi', F', ρ', e', I', q'⟩ := hW
      have tn := ok.turn F' Hf ρ' σ' H' i I' (show Rep X.K β F' d v from Rep.mono e' r1)
      by_cases hlt : i < ds.length
      · rw [List.drop_eq_getElem_cons hlt, wForL] at q'
        split at q'
        · rename_i ρ2 hb2
          obtain ⟨t1, t2⟩ := tn.1 ds[i] (List.getElem?_eq_getElem hlt)
          refine .inr ⟨t1, fun σ'' H'' => ∃ F'' ρ'', Ex F1 F'' ∧ Rel X.K β F'' Hf ρ'' σ'' H'' ∧ wForL t w WD (ds.drop (i + 1)) ρ'', fun σ'' H'' hN => ?_, fun x H2 hy => ?_⟩
          · exact ⟨ds.length - (i + 1), by omega, rfl, hlt, hN⟩
          · obtain ⟨F2, e2, I2, r2⟩ := t2 x H2 hy
            refine bindT_go I2 r2 hb2 fun σ3 I3 => ?_
            refine ⟨F2, Hf, ρ2, _, I3, q', ⟨fun F4 ρ4 σ4 H4 e4 I4 q4 => ⟨F4, ρ4, (e'.trans e2).trans e4, I4, q4⟩, fun F4 ρ4 σ4 H4 d4 v4 e4 I4 r4 q4 => k.rt F4 ρ4 σ4 H4 d4 v4 (((e1.trans e').trans e2).trans e4) I4 r4 q4,
              fun F4 ρ4 σ4 H4 e4 I4 q4 => k.nx F4 ρ4 σ4 H4 (((e1.trans e').trans e2).trans e4) I4 q4, fun F4 ρ4 σ4 H4 e4 I4 q4 => ⟨F4, ρ4, (e'.trans e2).trans e4, I4, q4⟩⟩⟩
        · exact q'.elim
      · have hlen : ds.length ≤ i := by omega
        rw [List.drop_eq_nil_of_le hlen, wForL] at q'
        exact .inl ⟨tn.2 hlen, k.nx F' ρ' σ' H' (e1.trans e') I' q'⟩

/-! while -/
def wWhileN (wt : WT) (body : SW) (E : WEnds) : Nat → WEnv → Prop
  | 0, _ => False
  | n + 1, ρ => wt ρ fun b => ifP b (body { nx := wWhileN wt body E n, ct := wWhileN wt body E n, bk := E.nx, rt := E.rt } ρ) (E.nx ρ)
def wWhile (wt : WT) (body : SW) : SW := fun E ρ => ∃ n, wWhileN wt body E n ρ
theorem wWhileN_mono (ht : ∀ ρ P P', (∀ r, P r → P' r) → wt ρ P → wt ρ P') (hb : ∀ A B ρ, WLe A B → w A ρ → w B ρ) {A B : WEnds} (l : WLe A B) : ∀ (n : Nat) (ρ : WEnv), wWhileN wt w A n ρ → wWhileN wt w B n ρ
  | 0, ρ, q => q
  | n + 1, ρ, q => by
    unfold wWhileN at q ⊢
    exact ht ρ _ _ (fun b q => ifP_mono q (fun q => hb { nx := wWhileN wt w A n, ct := wWhileN wt w A n, bk := A.nx, rt := A.rt } { nx := wWhileN wt w B n, ct := wWhileN wt w B n, bk := B.nx, rt := B.rt } _ (WLe.mk (fun ρ q => wWhileN_mono ht hb l n ρ q) l.rt l.nx (fun ρ q => wWhileN_mono ht hb l n ρ q)) q) (fun q => l.nx _ q)) q
theorem ps_while (ht : PWT X β c wt) (hb : PBW X β st w) (hp : PassesOwn (model X.prog X.w) X.A X.env X.xe := by exact PassesOwn.never) : PSW X β (.While c st [] pos) (wWhile wt w) := by
  refine ⟨fun A B ρ l ⟨n, q⟩ => ⟨n, wWhileN_mono ht.mono hb.mono l n ρ q⟩, imp_S (L2.ps_while hp ht.run hb.run) fun E σ H q => ?_⟩
  obtain ⟨F, Hf, ρ, WD, I, ⟨n, q⟩, k⟩ := q
  refine ⟨fun m σ' H' => ∃ F' ρ', Ex F F' ∧ Rel X.K β F' Hf ρ' σ' H' ∧ wWhileN wt w WD m ρ', ⟨n, F, ρ, Ex.refl F, I, q⟩, fun m σ' H' hW => ?_⟩
  obtain ⟨F', ρ', e', I', q'⟩ := hW
  cases m with
  | zero => exact False.elim q'
  | succ m =>
    unfold wWhileN at q'
    refine ⟨F', Hf, ρ', I', ht.mono ρ' _ _ (fun b q2 F2 H2 e2 I2 => ?_) q'⟩
    refine ifP_ite (ifP_mono q2 (fun q2 => ?_) (fun q2 => k.nx F2 ρ' σ' H2 (e'.trans e2) I2 q2))
    refine ⟨fun σ'' H'' => ∃ F'' ρ'', Ex F F'' ∧ Rel X.K β F'' Hf ρ'' σ'' H'' ∧ wWhileN wt w WD m ρ'', fun σ'' H'' hN => ⟨m, Nat.lt_succ_self m, hN⟩, ?_⟩
    exact ⟨F2, Hf, ρ', _, I2, q2, ⟨fun F4 ρ4 σ4 H4 e4 I4 q4 => ⟨F4, ρ4, (e'.trans e2).trans e4, I4, q4⟩, fun F4 ρ4 σ4 H4 d4 v4 e4 I4 r4 q4 => k.rt F4 ρ4 σ4 H4 d4 v4 ((e'.trans e2).trans e4) I4 r4 q4,
      fun F4 ρ4 σ4 H4 e4 I4 q4 => k.nx F4 ρ4 σ4 H4 ((e'.trans e2).trans e4) I4 q4, fun F4 ρ4 σ4 H4 e4 I4 q4 => ⟨F4, ρ4, (e'.trans e2).trans e4, I4, q4⟩⟩⟩

/-! comprehensions -/
def wipeW (ρ : WEnv) : List Nat → WEnv
  | [] => ρ
  | v :: vs => (wipeW ρ vs).set v .un
def noOwnAt (ρ : WEnv) : List Nat → Bool
  | [] => true
  | v :: vs => match ρ[v]? with
    | some (.own _) => false
    | _ => noOwnAt ρ vs
end

theorem wipeW_get {ρ : WEnv} {i : Nat} : ∀ {vs : List Nat}, i ∉ vs → (wipeW ρ vs)[i]? = ρ[i]?
  | [], _ => rfl
  | v :: vs, h => by
    simp only [List.mem_cons, not_or] at h
    rw [wipeW, get_set_ne h.1]
    exact wipeW_get h.2
theorem wipeW_len (ρ : WEnv) : ∀ vs : List Nat, (wipeW ρ vs).length = ρ.length
  | [] => rfl
  | v :: vs => by rw [wipeW, List.length_set, wipeW_len ρ vs]
theorem wipeW_in {ρ : WEnv} {i : Nat} {s : Slot} : ∀ {vs : List Nat}, i ∈ vs → (wipeW ρ vs)[i]? = some s → s = .un
  | [], h, _ => by simp at h
  | v :: vs, h, e => by
    rw [wipeW] at e
    rcases set_get e with ⟨_, h2, _⟩ | ⟨ne, h2⟩
    · exact h2.symm
    · have : i ∈ vs := by
        rcases List.mem_cons.mp h with z | z
        · exact absurd z ne
        · exact z
      exact wipeW_in this h2
theorem wipe_set {σ : L2.St} {i : Nat} {x : Option V} : ∀ {vs : List Nat}, i ∈ vs → wipe (σ.set i x) vs = wipe σ vs
  | [], h => by simp at h
  | v :: vs, h => by
    rw [wipe, wipe]
    by_cases hi : i ∈ vs
    · rw [wipe_set hi]
    · have e : i = v := by
        rcases List.mem_cons.mp h with z | z
        · exact z
        · exact absurd z hi
      subst e
      apply List.ext_getElem?
      intro j
      by_cases hj : j = i
      · subst hj
        have l1 : (wipe (σ.set j x) vs).length = σ.length := by rw [wipe_length, List.length_set]
        have l2 : (wipe σ vs).length = σ.length := wipe_length σ vs
        by_cases hl : j < σ.length
        · rw [List.getElem?_set_self (by rw [l1]; exact hl), List.getElem?_set_self (by rw [l2]; exact hl)]
        · rw [List.getElem?_eq_none (by rw [List.length_set, l1]; omega), List.getElem?_eq_none (by rw [List.length_set, l2]; omega)]
      · rw [get_set_ne hj, get_set_ne hj]
        by_cases hv : j ∈ vs
        · have n1 : ∀ τ : L2.St, τ.length = σ.length → (wipe τ vs)[j]? = if j < σ.length then some none else none := fun τ hτ => by
            split
            · rename_i hl
              cases h1 : (wipe τ vs)[j]? with
              | none =>
                rw [List.getElem?_eq_none_iff, wipe_length] at h1
                omega
              | some y =>
                cases y with
                | none => rfl
                | some z => exact absurd hv (wipe_some h1).2
            · rename_i hl
              rw [List.getElem?_eq_none (by rw [wipe_length, hτ]; omega)]
          rw [n1 _ (by rw [List.length_set]), n1 _ rfl]
        · rw [wipe_out hv, wipe_out hv, get_set_ne hj]
theorem wipeW_set {σ : WEnv} {i : Nat} {x : Slot} : ∀ {vs : List Nat}, i ∈ vs → wipeW (σ.set i x) vs = wipeW σ vs
  | [], h => by simp at h
  | v :: vs, h => by
    rw [wipeW, wipeW]
    by_cases hi : i ∈ vs
    · rw [wipeW_set hi]
    · have e : i = v := by
        rcases List.mem_cons.mp h with z | z
        · exact z
        · exact absurd z hi
      subst e
      apply List.ext_getElem?
      intro j
      by_cases hj : j = i
      · subst hj
        have l1 : (wipeW (σ.set j x) vs).length = σ.length := by rw [wipeW_len, List.length_set]
        have l2 : (wipeW σ vs).length = σ.length := wipeW_len σ vs
        by_cases hl : j < σ.length
        · rw [List.getElem?_set_self (by rw [l1]; exact hl), List.getElem?_set_self (by rw [l2]; exact hl)]
        · rw [List.getElem?_eq_none (by rw [List.length_set, l1]; omega), List.getElem?_eq_none (by rw [List.length_set, l2]; omega)]
      · rw [get_set_ne hj, get_set_ne hj]
        by_cases hv : j ∈ vs
        · have n1 : ∀ τ : WEnv, τ.length = σ.length → (wipeW τ vs)[j]? = if j < σ.length then some .un else none := fun τ hτ => by
            split
            · rename_i hl
              have hl' : j < (wipeW τ vs).length := by rw [wipeW_len, hτ]; exact hl
              rw [List.getElem?_eq_getElem hl']
              rw [wipeW_in hv (List.getElem?_eq_getElem hl')]
            · rename_i hl
              rw [List.getElem?_eq_none (by rw [wipeW_len, hτ]; omega)]
          rw [n1 _ (by rw [List.length_set]), n1 _ rfl]
        · rw [wipeW_get hv, wipeW_get hv, get_set_ne hj]
theorem wipe_idem (σ : L2.St) : ∀ vs us : List Nat, (∀ v ∈ us, v ∈ vs) → wipe (wipe σ us) vs = wipe σ vs
  | vs, [], _ => rfl
  | vs, u :: us, h => by
    rw [wipe, wipe_set (h u List.mem_cons_self)]
    exact wipe_idem σ vs us fun v hv => h v (List.mem_cons_of_mem _ hv)
theorem wipeW_idem (σ : WEnv) : ∀ vs us : List Nat, (∀ v ∈ us, v ∈ vs) → wipeW (wipeW σ us) vs = wipeW σ vs
  | vs, [], _ => rfl
  | vs, u :: us, h => by
    rw [wipeW, wipeW_set (h u List.mem_cons_self)]
    exact wipeW_idem σ vs us fun v hv => h v (List.mem_cons_of_mem _ hv)
theorem noOwnAt_mem {ρ : WEnv} : ∀ {vs : List Nat}, noOwnAt ρ vs = true → ∀ v ∈ vs, ∀ d, ρ[v]? ≠ some (Slot.own d)
  | [], _, v, h, _ => by simp at h
  | u :: us, e, v, h, d => by
    rw [noOwnAt] at e
    split at e
    · cases e
    · rename_i hn
      rcases List.mem_cons.mp h with z | z
      · subst z; intro hz; exact hn d hz
      · exact noOwnAt_mem e v z d
section
variable {K : PySem.W.Frag} {β : Bx} {F F' F1 Hf H H' H1 : Hp} {ρ : WEnv} {σ : L2.St}
theorem Rel.wipe (I : Rel K β F Hf ρ σ H) (vs : List Nat) : Rel K β F Hf (wipeW ρ vs) (L2.wipe σ vs) H := by
  have out : ∀ (i : Nat) (s : Slot), (wipeW ρ vs)[i]? = some s → s ≠ .un → i ∉ vs ∧ ρ[i]? = some s := fun i s h n => by
    by_cases hi : i ∈ vs
    · exact absurd (wipeW_in hi h) n
    · rw [wipeW_get hi] at h
      exact ⟨hi, h⟩
  refine ⟨I.fex, I.hex, I.bx, I.bxF, by rw [wipeW_len, wipe_length, I.len], fun i d h => ?_, fun i d h => ?_, fun i j di dj a h1 h2 h3 h4 => ?_⟩
  · obtain ⟨n, h⟩ := out i _ h (fun z => nomatch z)
    obtain ⟨v, q1, q2⟩ := I.val i d h
    exact ⟨v, by rw [wipe_out n]; exact q1, q2⟩
  · obtain ⟨n, h⟩ := out i _ h (fun z => nomatch z)
    obtain ⟨a, q1, q⟩ := I.own i d h
    exact ⟨a, by rw [wipe_out n]; exact q1, q⟩
  · obtain ⟨n1, h1⟩ := out i _ h1 (fun z => nomatch z)
    obtain ⟨n2, h2⟩ := out j _ h2 (fun z => nomatch z)
    rw [wipe_out n1] at h3
    rw [wipe_out n2] at h4
    exact I.sep i j di dj a h1 h2 h3 h4
theorem Rel.unwipe (I : Rel K β F Hf ρ σ H) {vs : List Nat} (J : Rel K β F1 Hf (wipeW ρ vs) (L2.wipe σ vs) H1) (e : Ex F F1) (n : noOwnAt ρ vs = true) : Rel K β F1 Hf ρ σ H1 := by
  refine ⟨J.fex, J.hex, J.bx, J.bxF, I.len, fun i d h => ?_, fun i d h => ?_, I.sep⟩
  · obtain ⟨v, q1, q2⟩ := I.val i d h
    exact ⟨v, q1, q2.mono e⟩
  · have ni : i ∉ vs := fun z => noOwnAt_mem n i z d h
    obtain ⟨a, q1, q⟩ := J.own i d (by rw [wipeW_get ni]; exact h)
    exact ⟨a, by rw [wipe_out ni] at q1; exact q1, q⟩
/-- an object of ours is laid aside -/
theorem Rel.hide (I : Rel K β F Hf ρ σ H) {p : Addr} {o : HO} (h : H p = some o) (h1 : F p = none) (h2 : Hf p = none) (h3 : ¬ β.foot p) (h4 : NoOwn ρ σ p) : Rel K β F (upd Hf p o) ρ σ H := by
  refine ⟨I.fex, fun b u hb => ?_, I.bx, fun b hb => ?_, I.len, I.val, fun m dm hm => ?_, I.sep⟩
  · by_cases hbp : b = p
    · rw [hbp, upd_same] at hb
      rw [hbp]
      exact ⟨h.trans hb, h1⟩
    · rw [upd_ne hbp] at hb; exact I.hex b u hb
  · have : b ≠ p := fun z => h3 (z ▸ hb)
    rw [upd_ne this]; exact I.bxF b hb
  · obtain ⟨b, g1, g2, g3, g4, g5⟩ := I.own m dm hm
    have : b ≠ p := fun z => h4 m dm hm (z ▸ g1)
    exact ⟨b, g1, g2, by rw [upd_ne this]; exact g3, g4, g5⟩
/-- .. and taken up again, changed -/
theorem Rel.unhide {p : Addr} {o o' : HO} (I : Rel K β F (upd Hf p o) ρ σ H) (h2 : Hf p = none) : Rel K β F Hf ρ σ (upd H p o') ∧ F p = none ∧ ¬ β.foot p ∧ NoOwn ρ σ p := by
  have hp := I.hex p o upd_same
  have nf : ¬ β.foot p := fun z => by
    have := (I.bxF p z).2
    rw [upd_same] at this; cases this
  have sub : ∀ b u, Hf b = some u → b ≠ p ∧ (upd Hf p o) b = some u := fun b u hb => by
    have : b ≠ p := fun z => by rw [z, h2] at hb; cases hb
    exact ⟨this, by rw [upd_ne this]; exact hb⟩
  have non : ∀ b, (upd Hf p o) b = none → b ≠ p ∧ Hf b = none := fun b hb => by
    have nb : b ≠ p := fun z => by rw [z, upd_same] at hb; cases hb
    exact ⟨nb, by rwa [upd_ne nb] at hb⟩
  refine ⟨⟨fun b u hb => ?_, fun b u hb => ?_, ?_, fun b hb => ?_, I.len, I.val, fun m dm hm => ?_, I.sep⟩, hp.2, nf, fun i d h z => ?_⟩
  · have nb : b ≠ p := fun z => by rw [z, hp.2] at hb; cases hb
    rw [upd_ne nb]; exact I.fex b u hb
  · obtain ⟨nb, hb⟩ := sub b u hb
    rw [upd_ne nb]; exact I.hex b u hb
  · refine β.loc H _ (fun b hb => ?_) I.bx
    have : b ≠ p := fun z => nf (z ▸ hb)
    rw [upd_ne this]
  · exact ⟨(I.bxF b hb).1, (non b (I.bxF b hb).2).2⟩
  · obtain ⟨b, g1, g2, g3, g4, g5⟩ := I.own m dm hm
    obtain ⟨nb, g3⟩ := non b g3
    exact ⟨b, g1, g2, g3, g4, g5.at (by rw [upd_ne nb])⟩
  · obtain ⟨b, g1, g2, g3, g4, g5⟩ := I.own i d h
    rw [g1] at z; cases z
    exact (non _ g3).1 rfl
end
/-- the target's slots -/
def Tgt.slots : Tgt → List Nat
  | .one j => [j]
  | .tup js => js
theorem setAll_goW {K : PySem.W.Frag} {β : Bx} {F Hf H : Hp} {us : List Nat} : ∀ {js : List Nat} {ds : List D} {ρ ρ' : WEnv} {σ : L2.St} {vs : List V} {Q : L2.St → Hp → Prop}, (∀ j ∈ js, j ∈ us) → Rel K β F Hf ρ σ H → RepL K β F ds vs → setAll js ds ρ = some ρ' →
    (∀ σ', Rel K β F Hf ρ' σ' H → wipe σ' us = wipe σ us → wipeW ρ' us = wipeW ρ us → Q σ' H) → gNames js vs σ H Q
  | [], [], ρ, ρ', σ, vs, Q, _, I, r, e, q => by
    rw [setAll] at e; cases e
    rw [RepL] at r; subst r
    exact ⟨rfl, q σ I rfl rfl⟩
  | [], _ :: _, _, _, _, _, _, _, _, _, e, _ => by simp [setAll] at e
  | _ :: _, [], _, _, _, _, _, _, _, _, e, _ => by simp [setAll] at e
  | j :: js, d :: ds, ρ, ρ', σ, vs, Q, hu, I, r, e, q => by
    rw [setAll] at e
    rw [RepL] at r
    obtain ⟨v, ws, rfl, r1, r2⟩ := r
    have hj := hu j List.mem_cons_self
    exact ⟨v, ws, rfl, setAll_goW (fun k hk => hu k (List.mem_cons_of_mem _ hk)) (I.setVal j r1) r2 e fun σ' I' e1 e2 => q σ' I' (by rw [e1, wipe_set hj]) (by rw [e2, wipeW_set hj])⟩
theorem bindT_goW {K : PySem.W.Frag} {β : Bx} {F Hf H : Hp} {tg : Tgt} {d : D} {ρ ρ' : WEnv} {σ : L2.St} {v : V} {us : List Nat} {Q : L2.St → Hp → Prop} (hu : ∀ j ∈ tg.slots, j ∈ us) (I : Rel K β F Hf ρ σ H) (r : Rep K β F d v) (e : bindT tg d ρ = some ρ')
    (q : ∀ σ', Rel K β F Hf ρ' σ' H → wipe σ' us = wipe σ us → wipeW ρ' us = wipeW ρ us → Q σ' H) : gTgt K tg v σ H Q := by
  cases tg with
  | one j =>
    rw [bindT] at e; cases e
    have hj := hu j List.mem_cons_self
    exact q _ (I.setVal j r) (wipe_set hj) (wipeW_set hj)
  | tup js =>
    cases d <;> first
      | (exfalso; simp [bindT] at e; done)
      | (rename_i ds
         rw [bindT] at e
         rw [Rep] at r
         obtain ⟨a, vs, rfl, sq, hz, rl⟩ := r
         exact ⟨a, vs, rfl, ex_t I.fex sq.sq, by rw [rl.length, setAll_len e], setAll_goW hu I rl e q⟩)
def wLcL (t : Tgt) (wt : WT) (we : WE) (ρ : WEnv) : List D → List D → (List D → Prop) → Prop
  | [], acc, Q => Q acc
  | d :: ds, acc, Q => match bindT t d ρ with
    | some ρ' => wt ρ' fun b => ifP b (we ρ' fun r => match r.fz with
      | .val e => wLcL t wt we ρ ds (acc ++ [e]) Q
      | _ => False) (wLcL t wt we ρ ds acc Q)
    | none => False
def wLc (wi : WI) (t : Tgt) (wt : WT) (we : WE) (vs : List Nat) : WE := fun ρ P => wi ρ fun _ ds => match noOwnAt ρ vs with
  | true => wLcL t wt we (wipeW ρ vs) ds [] fun acc => P (.own (.lst acc))
  | false => False
def wYes : WT := fun _ P => P true
section
variable {X : Cx} {β : Bx} {tg e elt : Expr} {we : WE} {wt : WT} {wi : WI} {pos : Pos}
theorem wLcL_mono {t : Tgt} {ρ : WEnv} (mt : ∀ ρ P P', (∀ r, P r → P' r) → wt ρ P → wt ρ P') (me : ∀ ρ P P', (∀ r, P r → P' r) → we ρ P → we ρ P') {P P' : List D → Prop} (k : ∀ r, P r → P' r) : ∀ (ds acc : List D), wLcL t wt we ρ ds acc P → wLcL t wt we ρ ds acc P'
  | [], acc, q => k _ q
  | d :: ds, acc, q => by
    unfold wLcL at q ⊢
    split at q
    · refine mt _ _ _ (fun b q => ifP_mono q (fun q => me _ _ _ (fun r q => ?_) q) (fun q => wLcL_mono mt me k ds acc q)) q
      split at q
      · exact wLcL_mono mt me k ds _ q
      · exact q
    · exact q
structure PTW (X : Cx) (β : Bx) (ifs : List Expr) (w : WT) : Prop where
  mono : ∀ ρ P P', (∀ r, P r → P' r) → w ρ P → w ρ P'
  run : PTs X ifs (tWT X.K β w)
theorem ptw_nil : PTW X β [] wYes := ⟨fun _ _ _ k q => k _ q, ⟨fun pins s σ H Q I q => by
  obtain ⟨F, Hf, ρ, J, q⟩ := q
  exact pts_nil.run pins s σ H Q I (q F H (Ex.refl F) J)⟩⟩
theorem ptw_one {c : Expr} (h : PWT X β c wt) : PTW X β [c] wt := ⟨h.mono, pts_one h.run⟩
theorem lc_go {t : Tgt} {vs : List Nat} (mi : ∀ ρ P P', (∀ r ds, P r ds → P' r ds) → wi ρ P → wi ρ P') (mt : ∀ ρ P P', (∀ r, P r → P' r) → wt ρ P → wt ρ P') (me : ∀ ρ P P', (∀ r, P r → P' r) → we ρ P → we ρ P') (hv : ∀ j ∈ t.slots, j ∈ vs)
    (σ : L2.St) (H : Hp) (Q : VK) (q : tW X.K β (wLc wi t wt we vs) σ H Q) : tLc (tI X.K β wi) (gTgt X.K t) (tWT X.K β wt) (tW X.K β we) vs σ H Q := by
  obtain ⟨F, Hf, ρ, I, q⟩ := q
  refine ⟨F, Hf, ρ, I, mi ρ _ _ (fun r ds q F1 H1 v J e1 I1 r1 ok Dn hD => ?_) q⟩
  split at q
  rotate_left
  · exact q.elim
  rename_i hno
  obtain ⟨f1, f2, f3, f4⟩ := I1.none_of hD
  let ρw := wipeW ρ vs
  let σw := wipe σ vs
  have f4w : NoOwn ρw σw Dn := fun i d h z => by
    have hi : i ∉ vs := fun hi => nomatch (wipeW_in hi h)
    have h : (wipeW ρ vs)[i]? = some (Slot.own d) := h
    have z : (wipe σ vs)[i]? = some (some (V.ref Dn)) := z
    rw [wipeW_get hi] at h
    rw [wipe_out hi] at z
    exact f4 i d h z
  have src : ∀ F', Ex F1 F' → RepA X.K β F' ρw σw r v := fun F' e' => by
    cases r with
    | val d => exact Rep.mono e' r1
    | own d => exact r1
    | bor i d =>
      obtain ⟨g1, g2⟩ := (show ρ[i]? = some (Slot.own d) ∧ σ[i]? = some (some v) from r1)
      have hi : i ∉ vs := fun hi => noOwnAt_mem hno i hi d g1
      exact ⟨by show (wipeW ρ vs)[i]? = _; rw [wipeW_get hi]; exact g1, by show (wipe σ vs)[i]? = _; rw [wipe_out hi]; exact g2⟩
  let Fin : List D → Prop := fun acc => ∀ F' H' v, Ex F F' → Rel X.K β F' Hf ρ σ H' → RepR X.K β F' Hf ρ σ H' (.own (.lst acc)) v → Q v H'
  refine ⟨fun i m H' => m = ds.length - i ∧ i ≤ ds.length ∧ ∃ F' acc us, Ex F1 F' ∧ Rel X.K β F' Hf ρw σw H' ∧ H' Dn = some (.lst us) ∧ F' Dn = none ∧ RepL X.K β F' acc us ∧ acc.length ≤ i ∧ wLcL t wt we ρw (ds.drop i) acc Fin,
    ⟨ds.length, rfl, Nat.zero_le _, F1, [], [], Ex.refl F1, (I1.wipe vs).grow hD, upd_same, f1, RepL.nil, Nat.le_refl 0, q⟩, fun i m H' hW => ?_⟩
  obtain ⟨hm, hi', F', acc, us, e', I', hDl, hFD, rl, hac, q'⟩ := hW
  have tn := ok.turn F' Hf ρw σw H' i I' (src F' e')
  by_cases hlt : i < ds.length
  · rw [List.drop_eq_getElem_cons hlt, wLcL] at q'
    split at q'
    rotate_left
    · exact q'.elim
    rename_i ρ2 hb2
    obtain ⟨t1, _⟩ := tn.1 ds[i] (List.getElem?_eq_getElem hlt)
    have Ih := I'.hide hDl hFD f2 f3 f4w
    obtain ⟨_, t2⟩ := (ok.turn F' (upd Hf Dn (.lst us)) ρw σw H' i Ih (src F' e')).1 ds[i] (List.getElem?_eq_getElem hlt)
    let Nx : Hp → Prop := fun H'' => ∃ F'' acc us, Ex F1 F'' ∧ Rel X.K β F'' Hf ρw σw H'' ∧ H'' Dn = some (.lst us) ∧ F'' Dn = none ∧ RepL X.K β F'' acc us ∧ acc.length ≤ i + 1 ∧ wLcL t wt we ρw (ds.drop (i + 1)) acc Fin
    refine .inr ⟨t1, Nx, fun H'' hN => ⟨ds.length - (i + 1), by omega, rfl, hlt, hN⟩, fun x H2 hy => ?_⟩
    obtain ⟨F2, e2, I2, r2⟩ := t2 x H2 hy
    refine bindT_goW hv I2 r2 hb2 fun σ3 I3 w1 w2 => ⟨?_, F2, upd Hf Dn (.lst us), ρ2, I3, mt ρ2 _ _ (fun b q3 F3 H3 e3 I3 => ?_) q'⟩
    · rw [w1]
      exact wipe_idem σ vs vs fun _ h => h
    have wσ : wipe σ3 vs = σw := w1.trans (wipe_idem σ vs vs fun _ h => h)
    have wρ : wipeW ρ2 vs = ρw := w2.trans (wipeW_idem ρ vs vs fun _ h => h)
    refine ifP_ite (ifP_mono q3 (fun q3 => ?_) (fun q3 => ?_))
    · refine ⟨F3, upd Hf Dn (.lst us), ρ2, I3, me ρ2 _ _ (fun s q4 F4 H4 y e4 I4 r4 => ?_) q3⟩
      obtain ⟨F5, e5, I5, r5⟩ := r4.keep I4
      split at q4
      rotate_left
      · exact q4.elim
      rename_i z hz
      rw [hz] at r5
      have hD4 := (I5.hex Dn _ upd_same).1
      refine ⟨us, hD4, ?_, ?_⟩
      · rw [rl.length]
        have := ok.size
        omega
      · have J5 := I5.wipe vs
        rw [wσ, wρ] at J5
        obtain ⟨K5, g1, _, _⟩ := J5.unhide (o' := .lst (us ++ [y])) f2
        have e35 : Ex F1 F5 := (((e'.trans e2).trans e3).trans e4).trans e5
        refine ⟨F5, acc ++ [z], us ++ [y], e35, K5, upd_same, g1, ?_, by rw [List.length_append, List.length_singleton]; omega, q4⟩
        exact (rl.mono (((e2.trans e3).trans e4).trans e5)).append (RepL.cons r5 RepL.nil)
    · have J3 := I3.wipe vs
      rw [wσ, wρ] at J3
      obtain ⟨K3, g1, _, _⟩ := J3.unhide (o' := .lst us) f2
      have hD3 := (I3.hex Dn _ upd_same).1
      have : upd H3 Dn (.lst us) = H3 := by
        funext b
        by_cases hb : b = Dn
        · rw [hb, upd_same, hD3]
        · rw [upd_ne hb]
      rw [this] at K3
      exact ⟨F3, acc, us, (e'.trans e2).trans e3, K3, hD3, g1, rl.mono (e2.trans e3), by omega, q3⟩
  · have hlen : ds.length ≤ i := by omega
    rw [List.drop_eq_nil_of_le hlen, wLcL] at q'
    refine .inl ⟨tn.2 hlen, ?_⟩
    exact q' F' H' _ (e1.trans e') (I1.unwipe I' e' hno) ⟨Dn, rfl, hFD, f2, f3, f4, us, hDl, by have := ok.size; omega, rl⟩
theorem wLc_mono {t : Tgt} {vs : List Nat} (mi : ∀ ρ P P', (∀ r ds, P r ds → P' r ds) → wi ρ P → wi ρ P') (mt : ∀ ρ P P', (∀ r, P r → P' r) → wt ρ P → wt ρ P') (me : ∀ ρ P P', (∀ r, P r → P' r) → we ρ P → we ρ P')
    (ρ : WEnv) (P P' : R → Prop) (k : ∀ r, P r → P' r) (q : wLc wi t wt we vs ρ P) : wLc wi t wt we vs ρ P' := mi ρ _ _ (fun r ds q => by
  split at q
  · exact wLcL_mono mt me (fun _ q => k _ q) _ _ q
  · exact q) q
theorem pw_lc {t : Tgt} {ifs : List Expr} {scope : Scope} {own : List (Str × Nat)} (hN : X.N.Nodup) (hi : PIW X β tg e wi) (ok : BlkOk X.N X.env.scope scope own)
    (hg : ∀ (s : Shared) (H : Hp) (C : Addr) (cl : List (Str × Addr)) (fp : List Addr), PG (X.blk s H scope (compEnvC scope cl C X.env) fp) tg (gTgt X.K t)) (ht : ∀ (s : Shared) (H : Hp) (C : Addr) (cl : List (Str × Addr)) (fp : List Addr), PTW (X.blk s H scope (compEnvC scope cl C X.env) fp) β ifs wt)
    (he : ∀ (s : Shared) (H : Hp) (C : Addr) (cl : List (Str × Addr)) (fp : List Addr), PW (X.blk s H scope (compEnvC scope cl C X.env) fp) β elt we) (hc : X.calm = true := by rfl) (hs : ∀ x, foldedSetIterable e X.env x = pure x := by intro _; rfl)
    (hv : ∀ j ∈ t.slots, j ∈ own.map (·.2) := by decide) (z : Shared × Hp × Addr × List (Str × Addr) × List Addr := by exact ⟨default, fun _ => none, 0, [], []⟩) : PW X β (.ListComp elt [⟨tg, e, ifs, 0⟩] scope pos) (wLc wi t wt we (own.map (·.2))) := by
  have mt := (ht z.1 z.2.1 z.2.2.1 z.2.2.2.1 z.2.2.2.2).mono
  have me := (he z.1 z.2.1 z.2.2.1 z.2.2.2.1 z.2.2.2.2).mono
  exact ⟨wLc_mono hi.mono mt me, imp_E (pe_lc (te := tW X.K β we) (tt := tWT X.K β wt) hc hN hi.run ok hg (fun s H C cl fp => (ht s H C cl fp).run) (fun s H C cl fp => (he s H C cl fp).run) hs) fun σ H Q q => lc_go hi.mono mt me hv σ H Q q⟩
theorem ps_setLc {i : Nat} {y : Str} {py : Pos} {spos : Pos} {t : Tgt} {ifs : List Expr} {scope : Scope} {own : List (Str × Nat)} (hN : X.N.Nodup) (hy : X.N[i]? = some y) (hyl : X.env.scope.names.lookup y = some .local)
    (hsw : swapsWith (.ListComp elt [⟨tg, e, ifs, 0⟩] scope pos) (some (.Name y py)) spos.line X.env = pure true) (hi : PIW X β tg e wi) (ok : BlkOk X.N X.env.scope scope own)
    (hg : ∀ (s : Shared) (H : Hp) (C : Addr) (cl : List (Str × Addr)) (fp : List Addr), PG (X.blk s H scope (compEnvC scope cl C X.env) fp) tg (gTgt X.K t)) (ht : ∀ (s : Shared) (H : Hp) (C : Addr) (cl : List (Str × Addr)) (fp : List Addr), PTW (X.blk s H scope (compEnvC scope cl C X.env) fp) β ifs wt)
    (he : ∀ (s : Shared) (H : Hp) (C : Addr) (cl : List (Str × Addr)) (fp : List Addr), PW (X.blk s H scope (compEnvC scope cl C X.env) fp) β elt we) (hc : X.calm = true := by rfl) (hs : ∀ x, foldedSetIterable e X.env x = pure x := by intro _; rfl)
    (hv : ∀ j ∈ t.slots, j ∈ own.map (·.2) := by decide) (z : Shared × Hp × Addr × List (Str × Addr) × List Addr := by exact ⟨default, fun _ => none, 0, [], []⟩) : PSW X β (.Assign [.Name y py] (.ListComp elt [⟨tg, e, ifs, 0⟩] scope pos) spos) (wSet i (wLc wi t wt we (own.map (·.2)))) := by
  have mt := (ht z.1 z.2.1 z.2.2.1 z.2.2.2.1 z.2.2.2.2).mono
  have me := (he z.1 z.2.1 z.2.2.1 z.2.2.2.1 z.2.2.2.2).mono
  refine ⟨wSet_mono (wLc_mono hi.mono mt me), imp_S (L2.ps_setLc (te := tW X.K β we) (tt := tWT X.K β wt) hc hN hy hyl hsw hi.run ok hg (fun s H C cl fp => (ht s H C cl fp).run) (fun s H C cl fp => (he s H C cl fp).run) hs) fun E σ H q => ?_⟩
  exact lc_go hi.mono mt me hv σ H _ (by
    obtain ⟨F, Hf, ρ, WD, I, q, k⟩ := q
    refine ⟨F, Hf, ρ, I, wLc_mono hi.mono mt me ρ _ _ (fun r q F1 H1 v e1 I1 r1 => ?_) q⟩
    split at q
    · rename_i s hs
      exact k.nx F1 _ _ H1 e1 (I1.setR i r1 hs) q
    · exact q.elim)
end
end WL
set_option Elab.async false
set_option linter.all false
set_option autoImplicit false
set_option maxRecDepth 100000
namespace WL
open PySem PySem.Spec L2

/-! ### equality as Python has it -/
mutual
def peq : D → D → Bool
  | .non, .non => true
  | .bl a, .bl b => a == b
  | .bl a, .int j => (if a then 1 else 0) == j
  | .int i, .bl b => i == (if b then 1 else 0)
  | .int i, .int j => i == j
  | .str x, .str y => x == y
  | .lst xs, .lst ys => peqL xs ys
  | .tup xs, .tup ys => peqL xs ys
  | _, _ => false
def peqL : List D → List D → Bool
  | [], [] => true
  | x :: xs, y :: ys => peq x y && peqL xs ys
  | _, _ => false
end
mutual
def shpN : Nat → D → Bool
  | _, .non => true
  | _, .bl _ => true
  | _, .int _ => true
  | _, .str _ => true
  | 0, _ => false
  | n + 1, .tup xs => shpL n xs
  | n + 1, .lst xs => shpL n xs
  | _, _ => false
def shpL : Nat → List D → Bool
  | _, [] => true
  | n, d :: ds => shpN n d && shpL n ds
end
mutual
def toPy : D → PyData
  | .non => .none
  | .bl b => .bool b
  | .int i => .int i
  | .str x => .str (mkS x)
  | .tup xs => .tuple (toPyL xs)
  | .lst xs => .list (toPyL xs)
  | .dct _ _ => .none
  | .box => .none
def toPyL : List D → List PyData
  | [] => []
  | d :: ds => toPy d :: toPyL ds
end
section
variable {K : PySem.W.Frag} {β : Bx} {F Hf H : Hp} {ρ : WEnv} {σ : L2.St}
theorem strOk_of {x : List Nat} (h : okS x) : PyData.strOk (mkS x) = true := by
  unfold PyData.strOk
  rw [Array.all_eq_true]
  intro i hi
  have hi' : i < x.length := by simpa [mkS] using hi
  have : (mkS x).cps[i] ∈ x := by
    show x.toArray[i] ∈ x
    rw [List.getElem_toArray]
    exact List.getElem_mem hi'
  have := h.2 _ this
  exact decide_eq_true (by omega)
mutual
theorem rep_py (e : Ex F H) : ∀ (n : Nat) (d : D) (v : V), shpN n d = true → Rep K β F d v → Dp K H v (toPy d) ∧ (toPy d).canLay0 = true ∧ (toPy d).depth ≤ n
  | n, .non, v, h, r => by
    rw [Rep] at r; subst r; rw [toPy]
    exact ⟨.non, rfl, Nat.zero_le _⟩
  | n, .bl b, v, h, r => by
    rw [Rep] at r; subst r; rw [toPy]
    exact ⟨.bl b, rfl, Nat.zero_le _⟩
  | n, .int b, v, h, r => by
    rw [Rep] at r; subst r; rw [toPy]
    exact ⟨.int b, rfl, Nat.zero_le _⟩
  | n, .str x, v, h, r => by
    rw [Rep] at r; obtain ⟨rfl, r⟩ := r; rw [toPy]
    exact ⟨.str _, by simp only [PyData.canLay0]; exact strOk_of r, by simp only [PyData.depth]; exact Nat.zero_le _⟩
  | 0, .tup xs, v, h, r => by simp [shpN] at h
  | 0, .lst xs, v, h, r => by simp [shpN] at h
  | n + 1, .tup xs, v, h, r => by
    rw [Rep] at r; obtain ⟨a, vs, rfl, h2, h3, h4⟩ := r; rw [toPy]
    rw [shpN] at h
    obtain ⟨g1, g2, g3⟩ := rep_pyL e n xs vs h h4
    exact ⟨.tup (ex_t e h2.sq) g1, by simp only [PyData.canLay0]; exact g2, by simp only [PyData.depth]; omega⟩
  | n + 1, .lst xs, v, h, r => by
    rw [Rep] at r; obtain ⟨a, vs, rfl, h2, h3, h4⟩ := r; rw [toPy]
    rw [shpN] at h
    obtain ⟨g1, g2, g3⟩ := rep_pyL e n xs vs h h4
    exact ⟨.lst (.of (e _ _ h2)) g1, by simp only [PyData.canLay0]; exact g2, by simp only [PyData.depth]; omega⟩
  | n, .dct _ _, v, h, r => by cases n <;> simp [shpN] at h
  | n, .box, v, h, r => by cases n <;> simp [shpN] at h
theorem rep_pyL (e : Ex F H) : ∀ (n : Nat) (ds : List D) (vs : List V), shpL n ds = true → RepL K β F ds vs → DpAll K H vs (toPyL ds) ∧ PyData.canLayAll0 (toPyL ds) = true ∧ PyData.depthAll (toPyL ds) ≤ n
  | n, [], vs, h, r => by
    rw [RepL] at r; subst r; rw [toPyL]
    exact ⟨.nil, rfl, Nat.zero_le _⟩
  | n, d :: ds, vs, h, r => by
    rw [RepL] at r; obtain ⟨v, ws, rfl, h2, h3⟩ := r; rw [toPyL]
    rw [shpL, Bool.and_eq_true] at h
    obtain ⟨g1, g2, g3⟩ := rep_py e n d v h.1 h2
    obtain ⟨k1, k2, k3⟩ := rep_pyL e n ds ws h.2 h3
    exact ⟨.cons g1 k1, by simp only [PyData.canLayAll0, g2, k2]; rfl, by simp only [PyData.depthAll]; omega⟩
end
theorem mkS_beq (x y : List Nat) : (mkS x == mkS y) = (x == y) := by
  by_cases h : x = y
  · subst h; simp
  · have h' : mkS x ≠ mkS y := fun z => h (mkS_inj.mp z)
    rw [beq_eq_false_iff_ne.mpr h, beq_eq_false_iff_ne.mpr h']
mutual
theorem eqv_py : ∀ (n : Nat) (d e : D), shpN n d = true → shpN n e = true → PyData.eqv (toPy d) (toPy e) = peq d e
  | n, .non, e, _, h => by cases e <;> first | rfl | (cases n <;> simp [shpN] at h)
  | n, .bl b, e, _, h => by cases e <;> first | rfl | (cases n <;> simp [shpN] at h)
  | n, .int b, e, _, h => by cases e <;> first | rfl | (cases n <;> simp [shpN] at h)
  | n, .str x, e, _, h => by
    cases e <;> first
      | (simp only [toPy, PyData.eqv, peq]; exact mkS_beq _ _)
      | rfl
      | (cases n <;> simp [shpN] at h)
  | 0, .tup xs, e, h, _ => by simp [shpN] at h
  | 0, .lst xs, e, h, _ => by simp [shpN] at h
  | n + 1, .tup xs, e, h, g => by
    cases e <;> first
      | (simp only [toPy, PyData.eqv, peq]; rw [shpN] at h g; exact eqv_pyL n _ _ h g)
      | rfl
      | (simp [shpN] at g)
  | n + 1, .lst xs, e, h, g => by
    cases e <;> first
      | (simp only [toPy, PyData.eqv, peq]; rw [shpN] at h g; exact eqv_pyL n _ _ h g)
      | rfl
      | (simp [shpN] at g)
  | n, .dct _ _, e, h, _ => by cases n <;> simp [shpN] at h
  | n, .box, e, h, _ => by cases n <;> simp [shpN] at h
theorem eqv_pyL : ∀ (n : Nat) (ds es : List D), shpL n ds = true → shpL n es = true → PyData.eqvAll (toPyL ds) (toPyL es) = peqL ds es
  | n, [], [], _, _ => rfl
  | n, [], _ :: _, _, _ => rfl
  | n, _ :: _, [], _, _ => rfl
  | n, d :: ds, e :: es, h, g => by
    rw [shpL, Bool.and_eq_true] at h g
    simp only [toPyL, PyData.eqvAll, peqL]
    rw [eqv_py n d e h.1 g.1, eqv_pyL n ds es h.2 g.2]
end
/-- of what is lent, too -/
theorem RepO.py (I : Rel K β F Hf ρ σ H) {d : D} {v : V} (r : RepO K β F H d v) (h : shpN 64 d = true) : Dp K H v (toPy d) ∧ SeqAt.shaped (toPy d) = true := by
  rcases r with r | ⟨a, rfl, r⟩
  · obtain ⟨g1, g2, g3⟩ := rep_py I.fex 64 d v h r
    exact ⟨g1, Bool.and_eq_true_iff.mpr ⟨g2, decide_eq_true g3⟩⟩
  · cases d <;> first
      | exact r.elim
      | (simp [shpN] at h; done)
      | (obtain ⟨vs, h1, h2, h3⟩ := r
         rw [shpN] at h
         obtain ⟨g1, g2, g3⟩ := rep_pyL I.fex 63 _ vs h h3
         refine ⟨by rw [toPy]; exact .lst (.of h1) g1, Bool.and_eq_true_iff.mpr ⟨by rw [toPy]; simp only [PyData.canLay0]; exact g2, decide_eq_true (by rw [toPy]; simp only [PyData.depth]; omega)⟩⟩)
end

section
variable {X : Cx} {β : Bx}
theorem Kt.v {K : PySem.W.Frag} {F Hf H : Hp} {ρ : WEnv} {σ : L2.St} {Q : VK} {d : D} {v : V} (q : Kt K β F Hf ρ σ Q (.val d)) (I : Rel K β F Hf ρ σ H) (r : Rep K β F d v) : Q v H := q F H v (Ex.refl F) I r
theorem Kt.int {K : PySem.W.Frag} {F Hf H : Hp} {ρ : WEnv} {σ : L2.St} {Q : VK} {i : Int} (q : Kt K β F Hf ρ σ Q (.val (.int i))) (I : Rel K β F Hf ρ σ H) : Q (.int i) H := q.v I (by rw [Rep])
theorem Kt.bl {K : PySem.W.Frag} {F Hf H : Hp} {ρ : WEnv} {σ : L2.St} {Q : VK} {i : Bool} (q : Kt K β F Hf ρ σ Q (.val (.bl i))) (I : Rel K β F Hf ρ σ H) : Q (.bl i) H := q.v I (by rw [Rep])
theorem Kt.str {K : PySem.W.Frag} {F Hf H : Hp} {ρ : WEnv} {σ : L2.St} {Q : VK} {x : List Nat} (q : Kt K β F Hf ρ σ Q (.val (.str x))) (I : Rel K β F Hf ρ σ H) (h : okS x) : Q (.str (mkS x)) H := q.v I (by rw [Rep]; exact ⟨rfl, h⟩)
theorem Kt.newL {K : PySem.W.Frag} {F Hf H : Hp} {ρ : WEnv} {σ : L2.St} {Q : VK} {ds : List D} {vs : List V} {p : Addr} (q : Kt K β F Hf ρ σ Q (.own (.lst ds))) (I : Rel K β F Hf ρ σ H) (hp : H p = none) (hz : ds.length ≤ sizeLine) (h : RepL K β F ds vs) : Q (.ref p) (upd H p (.lst vs)) := by
  obtain ⟨I1, r1⟩ := I.newL hp hz h
  exact q F _ _ (Ex.refl F) I1 r1
theorem Kt.newT {K : PySem.W.Frag} {F Hf H : Hp} {ρ : WEnv} {σ : L2.St} {Q : VK} {ds : List D} {vs : List V} {p : Addr} {its : List Value} (q : Kt K β F Hf ρ σ Q (.val (.tup ds))) (I : Rel K β F Hf ρ σ H) (hp : H p = none) (hz : ds.length ≤ sizeLine) (h : RepL K β F ds vs) : Q (.ref p) (newTup H p its vs) := by
  obtain ⟨F1, e1, I1, r1⟩ := I.newT hp hz h
  exact q F1 _ _ e1 I1 r1
/-- what stands, as it is -/
theorem Kt.tup {K : PySem.W.Frag} {F Hf H : Hp} {ρ : WEnv} {σ : L2.St} {Q : VK} {ds : List D} {v : V} (q : Kt K β F Hf ρ σ Q (.val (.tup ds))) (I : Rel K β F Hf ρ σ H) (h : RepO K β F H (.tup ds) v) : Q v H := by
  rcases h with h | ⟨_, _, h⟩
  · exact q.v I h
  · exact h.elim

theorem okS.append {x y : List Nat} (hx : okS x) (hy : okS y) (h : x.length + y.length ≤ 16777216) : okS (x ++ y) :=
  ⟨by rw [List.length_append, sizeLine_eq]; exact h, fun c hc => (List.mem_append.mp hc).elim (hx.2 c) (hy.2 c)⟩
theorem okS.sub {x y : List Nat} (hx : okS x) (h1 : y.length ≤ x.length) (h2 : ∀ c ∈ y, c ∈ x) : okS y := ⟨Nat.le_trans h1 hx.1, fun c hc => hx.2 c (h2 c hc)⟩
theorem mkS_app (x y : List Nat) : mkS x ++ mkS y = mkS (x ++ y) := by
  apply Str.ext'
  show x.toArray ++ y.toArray = (x ++ y).toArray
  simp

/-! + - * // % & ** << >> -/
def oAdd : OD := fun d e P => match d, e with
  | .int i, .int j => P (.val (.int (i + j)))
  | .str x, .str y => x.length + y.length ≤ 16777216 ∧ P (.val (.str (x ++ y)))
  | .tup x, .tup y => x.length + y.length ≤ 16777216 ∧ P (.val (.tup (x ++ y)))
  | .lst x, .lst y => x.length + y.length ≤ 16777216 ∧ P (.own (.lst (x ++ y)))
  | _, _ => False
theorem d_add : OpD X β (binaryOp .Add) oAdd := by
  refine ⟨fun d e P P' k q => ?_, _, op_add.or (op_add_str.or (op_catD.or op_cat)), fun F Hf ρ σ H d e x y Q I r s q => ?_⟩
  · unfold oAdd at q ⊢
    split at q <;> first | exact k _ q | exact ⟨q.1, k _ q.2⟩ | exact q
  · unfold oAdd at q
    split at q
    · exact .inl ⟨_, _, r.int, s.int, q.int I⟩
    · obtain ⟨rfl, hx⟩ := r.str
      obtain ⟨rfl, hy⟩ := s.str
      refine .inr (.inl ⟨_, _, rfl, rfl, ?_, ?_⟩)
      · rw [mkS_len, mkS_len, sizeLine_eq]; exact q.1
      · rw [mkS_app]; exact q.2.str I (hx.append hy q.1)
    · obtain ⟨a, vs, ea, sa, za, la⟩ := r.tup I
      obtain ⟨b, ws, eb, sb, zb, lb⟩ := s.tup I
      refine .inr (.inr (.inl ⟨a, b, vs, ws, ea, eb, sa, sb, ?_, fun h => ?_, fun _ h => ?_, fun _ _ p its hp => ?_⟩))
      · rw [la.length, lb.length, sizeLine_eq]; exact q.1
      · have hn : vs.length = 0 := by rw [h]; rfl
        rw [la.length] at hn
        have hn' := List.eq_nil_of_length_eq_zero hn
        have q2 := q.2
        rw [hn'] at q2
        rw [← eb]
        exact q2.tup I s
      · have hn : ws.length = 0 := by rw [h]; rfl
        rw [lb.length] at hn
        have hn' := List.eq_nil_of_length_eq_zero hn
        have q2 := q.2
        rw [hn', List.append_nil] at q2
        rw [← ea]
        exact q2.tup I r
      · exact q.2.newT I hp (by rw [List.length_append, sizeLine_eq]; exact q.1) (la.append lb)
    · obtain ⟨a, vs, ea, sa, za, la⟩ := r.lst I
      obtain ⟨b, ws, eb, sb, zb, lb⟩ := s.lst I
      refine .inr (.inr (.inr ⟨a, b, vs, ws, ea, eb, sa, sb, ?_, fun p hp => ?_⟩))
      · rw [la.length, lb.length, sizeLine_eq]; exact q.1
      · exact q.2.newL I hp (by rw [List.length_append, sizeLine_eq]; exact q.1) (la.append lb)
    · exact q.elim
def oI (C : Int → Int → Prop) (g : Int → Int → Int) : OD := fun d e P => match d, e with
  | .int i, .int j => C i j ∧ P (.val (.int (g i j)))
  | _, _ => False
def oI0 (g : Int → Int → Int) : OD := fun d e P => match d, e with
  | .int i, .int j => P (.val (.int (g i j)))
  | _, _ => False
theorem oI_of {f : Value → Value → Sem Value} {C : Int → Int → Prop} {g : Int → Int → Int} (h : OpR X f (rI C fun i j => .int (g i j))) : OpD X β f (oI C g) := by
  refine ⟨fun d e P P' k q => ?_, _, h, fun F Hf ρ σ H d e x y Q I r s q => ?_⟩
  · unfold oI at q ⊢
    split at q
    · exact ⟨q.1, k _ q.2⟩
    · exact q
  · unfold oI at q
    split at q
    · exact ⟨_, _, r.int, s.int, q.1, q.2.int I⟩
    · exact q.elim
theorem oI0_of {f : Value → Value → Sem Value} {g : Int → Int → Int} (h : OpR X f (rI0 fun i j => .int (g i j))) : OpD X β f (oI0 g) := by
  refine ⟨fun d e P P' k q => ?_, _, h, fun F Hf ρ σ H d e x y Q I r s q => ?_⟩
  · unfold oI0 at q ⊢
    split at q
    · exact k _ q
    · exact q
  · unfold oI0 at q
    split at q
    · exact ⟨_, _, r.int, s.int, q.int I⟩
    · exact q.elim
abbrev oSub : OD := oI0 fun i j => i - j
theorem d_sub : OpD X β (binaryOp .Sub) oSub := oI0_of op_sub
abbrev oDiv : OD := oI CDiv fun i j => i / j
theorem d_div : OpD X β (binaryOp .FloorDiv) oDiv := oI_of op_fdiv
abbrev oMod : OD := oI (fun _ j => 0 < j) fun i j => i % j
theorem d_mod : OpD X β (binaryOp .Mod) oMod := oI_of op_mod
abbrev oAndB : OD := oI0 fun i j => Builtin.bitAnd i j
theorem d_andB : OpD X β (binaryOp .BitAnd) oAndB := oI0_of op_and
abbrev oPow : OD := oI CPow fun i j => i ^ j.toNat
theorem d_pow : OpD X β (binaryOp .Pow) oPow := oI_of op_pow
abbrev oShl : OD := oI CPow fun i j => i * 2 ^ j.toNat
theorem d_shl : OpD X β (binaryOp .LShift) oShl := oI_of op_shl
abbrev oShr : OD := oI (fun _ j => 0 ≤ j) fun i j => i / 2 ^ j.toNat
theorem d_shr : OpD X β (binaryOp .RShift) oShr := oI_of op_shr
theorem foldl_app (x : List Nat) : ∀ (n : Nat) (acc : Array Nat), (List.replicate n x.toArray).foldl (· ++ ·) acc = acc ++ (List.replicate n x).flatten.toArray
  | 0, acc => by simp
  | n + 1, acc => by
    rw [List.replicate_succ, List.replicate_succ, List.foldl_cons, foldl_app x n, List.flatten_cons]
    simp
theorem flat_len {α : Type} (x : List α) (n : Nat) : (List.replicate n x).flatten.length = x.length * n := by
  induction n with
  | zero => rfl
  | succ n ih => rw [List.replicate_succ, List.flatten_cons, List.length_append, ih, Nat.mul_succ, Nat.add_comm]
def rRepS : R2 := fun x y H Q => ∃ (z : List Nat) (k : Int), x = .str (mkS z) ∧ y = .int k ∧ -(2 ^ 63) ≤ k ∧ k < 2 ^ 63 ∧ z.length * k.toNat ≤ sizeLine ∧ Q (.str (mkS (List.replicate k.toNat z).flatten)) H
theorem op_repS : OpR X (binaryOp .Mult) rRepS := by
  intro pins s σ H x y v u Q I rx ry h
  obtain ⟨z, k, rfl, rfl, h1, h2, h3, q⟩ := h
  obtain ⟨t, rfl⟩ := rx
  obtain ⟨t', rfl⟩ := ry
  have e1 : (decide (k < -(2 ^ 63 : Int)) || decide (k ≥ 2 ^ 63)) = false := by
    rw [decide_eq_false (by omega), decide_eq_false (by omega)]; rfl
  have hsz : sizeLine = 16777216 := sizeLine_eq
  refine PySem.P.mul_str e1 (fun hk _ hg => ?_) (fun hk hn => ?_) ?_
  · rw [mkS_len] at hg
    have hk1 : 1 ≤ k := by omega
    have : (z.length : Int) * k ≤ 16777216 := by
      have : ((z.length * k.toNat : Nat) : Int) ≤ 16777216 := by omega
      rw [Int.natCast_mul, Int.toNat_of_nonneg (by omega)] at this
      exact this
    have h4 : (2 ^ 63 - 1) / k * k ≤ 2 ^ 63 - 1 := Int.ediv_mul_le _ (by omega)
    have h5 : (2 ^ 63 - 1) / k < z.length := hg
    have h6 : ((2 ^ 63 - 1) / k + 1) * k ≤ z.length * k := Int.mul_le_mul_of_nonneg_right (by omega) (by omega)
    have h7 : (2 ^ 63 - 1) < ((2 ^ 63 - 1) / k + 1) * k := Int.lt_ediv_add_one_mul_self _ (by omega)
    omega
  · rw [mkS_len]
    unfold Builtin.Str.tooLong
    exact decide_eq_false (by omega)
  · split
    · rename_i hk
      have : k.toNat = 0 := by omega
      rw [this] at q
      exact ⟨by decide, .str Str.empty, H, I.tok _, ⟨_, rfl⟩, q⟩
    · split
      · rename_i hk hn
        rw [Bool.or_eq_true] at hn
        refine ⟨.str (mkS z), H, I, ⟨t, rfl⟩, ?_⟩
        rcases hn with hn | hn
        · have : k = 1 := by simpa using hn
          subst this
          have : (List.replicate (1 : Int).toNat z).flatten = z := by simp
          rw [this] at q; exact q
        · have : z = [] := by
            have : z.length = 0 := by simpa [mkS_len] using hn
            exact List.eq_nil_of_length_eq_zero this
          subst this
          have : (List.replicate k.toNat ([] : List Nat)).flatten = [] := by simp
          rw [this] at q; exact q
      · have e : (⟨(List.replicate k.toNat (mkS z).cps).foldl (· ++ ·) #[]⟩ : Str) = mkS (List.replicate k.toNat z).flatten := by
          apply Str.ext'
          show (List.replicate k.toNat z.toArray).foldl (· ++ ·) #[] = _
          rw [foldl_app]; simp
        rw [e]
        refine ⟨?_, .str _, H, I.tok _, ⟨_, rfl⟩, q⟩
        rw [mkS_len, flat_len]; exact h3
theorem mem_rep {α : Type} {x : List α} {n : Nat} {c : α} (h : c ∈ (List.replicate n x).flatten) : c ∈ x := by
  rw [List.mem_flatten] at h
  obtain ⟨l, h1, h2⟩ := h
  rw [List.mem_replicate] at h1
  rw [h1.2] at h2
  exact h2
def oMul : OD := fun d e P => match d, e with
  | .int i, .int j => CMul i j ∧ P (.val (.int (i * j)))
  | .str x, .int k => (-(2 ^ 63) ≤ k ∧ k < 2 ^ 63 ∧ x.length * k.toNat ≤ 16777216) ∧ P (.val (.str (List.replicate k.toNat x).flatten))
  | .lst x, .int k => (-(2 ^ 63) ≤ k ∧ k < 2 ^ 63 ∧ x.length * k.toNat ≤ 16777216) ∧ P (.own (.lst (List.replicate k.toNat x).flatten))
  | _, _ => False
theorem d_mul : OpD X β (binaryOp .Mult) oMul := by
  refine ⟨fun d e P P' k q => ?_, _, op_mul.or (op_repS.or op_rep), fun F Hf ρ σ H d e x y Q I r s q => ?_⟩
  · unfold oMul at q ⊢
    split at q <;> first | exact ⟨q.1, k _ q.2⟩ | exact q
  · unfold oMul at q
    split at q
    · exact .inl ⟨_, _, r.int, s.int, q.1, q.2.int I⟩
    · obtain ⟨rfl, hx⟩ := r.str
      have := sizeLine_eq
      refine .inr (.inl ⟨_, _, rfl, s.int, q.1.1, q.1.2.1, by omega, q.2.str I ⟨by rw [flat_len]; omega, fun c hc => hx.2 c (mem_rep hc)⟩⟩)
    · obtain ⟨a, vs, ea, sa, za, la⟩ := r.lst I
      have := sizeLine_eq
      refine .inr (.inr ⟨a, _, vs, ea, s.int, sa, q.1.1, q.1.2.1, by rw [la.length]; omega, fun p hp => ?_⟩)
      exact q.2.newL I hp (by rw [flat_len]; omega) (la.rep _)
    · exact q.elim
def oNeg : UD := fun d P => match d with
  | .int i => P (.val (.int (-i)))
  | _ => False
theorem d_neg : UnD X β (unaryOp .USub) oNeg := by
  refine ⟨fun d P P' k q => ?_, _, un_neg, fun F Hf ρ σ H d x Q I r q => ?_⟩
  · unfold oNeg at q ⊢
    split at q
    · exact k _ q
    · exact q
  · unfold oNeg at q
    split at q
    · exact ⟨_, r.int, q.int I⟩
    · exact q.elim

/-! comparisons -/
def oEq : OD := fun d e P => match shpN 64 d && shpN 64 e with
  | true => P (.val (.bl (peq d e)))
  | false => False
def oNe : OD := fun d e P => match shpN 64 d && shpN 64 e with
  | true => P (.val (.bl (!peq d e)))
  | false => False
theorem d_eq (hu : X.A.units + 64 < cLine) : OpD X β (compareOp .Eq) oEq := by
  refine ⟨fun d e P P' k q => ?_, _, op_eqD hu, fun F Hf ρ σ H d e x y Q I r s q => ?_⟩
  · unfold oEq at q ⊢
    split at q
    · exact k _ q
    · exact q
  · unfold oEq at q
    split at q
    · rename_i h
      rw [Bool.and_eq_true] at h
      obtain ⟨g1, g2⟩ := r.py I h.1
      obtain ⟨k1, k2⟩ := s.py I h.2
      exact ⟨_, _, g1, k1, g2, k2, by rw [eqv_py 64 d e h.1 h.2]; exact q.bl I⟩
    · exact q.elim
theorem d_ne (hu : X.A.units + 64 < cLine) : OpD X β (compareOp .NotEq) oNe := by
  refine ⟨fun d e P P' k q => ?_, _, op_neD hu, fun F Hf ρ σ H d e x y Q I r s q => ?_⟩
  · unfold oNe at q ⊢
    split at q
    · exact k _ q
    · exact q
  · unfold oNe at q
    split at q
    · rename_i h
      rw [Bool.and_eq_true] at h
      obtain ⟨g1, g2⟩ := r.py I h.1
      obtain ⟨k1, k2⟩ := s.py I h.2
      exact ⟨_, _, g1, k1, g2, k2, by rw [eqv_py 64 d e h.1 h.2]; exact q.bl I⟩
    · exact q.elim
/-- an order of whole numbers, of texts -/
def oOrd (f : Int → Int → Bool) (g : List Nat → List Nat → Bool) : OD := fun d e P => match d, e with
  | .int i, .int j => P (.val (.bl (f i j)))
  | .str x, .str y => P (.val (.bl (g x y)))
  | _, _ => False
theorem oOrd_of {c : CmpOp} {f : Int → Int → Bool} {g : List Nat → List Nat → Bool} (h1 : OpR X (compareOp c) (rI0 fun i j => .bl (f i j)))
    (h2 : OpR X (compareOp c) fun x y H Q => ∃ i j, x = .str i ∧ y = .str j ∧ Q (.bl (g i.cps.toList j.cps.toList)) H) : OpD X β (compareOp c) (oOrd f g) := by
  refine ⟨fun d e P P' k q => ?_, _, h1.or h2, fun F Hf ρ σ H d e x y Q I r s q => ?_⟩
  · unfold oOrd at q ⊢
    split at q <;> first | exact k _ q | exact q
  · unfold oOrd at q
    split at q
    · exact .inl ⟨_, _, r.int, s.int, q.bl I⟩
    · exact .inr ⟨_, _, r.str.1, s.str.1, q.bl I⟩
    · exact q.elim
abbrev oLt : OD := oOrd (fun i j => decide (i < j)) fun x y => decide (x < y)
abbrev oLe : OD := oOrd (fun i j => decide (i ≤ j)) fun x y => !decide (y < x)
abbrev oGt : OD := oOrd (fun i j => decide (j < i)) fun x y => decide (y < x)
abbrev oGe : OD := oOrd (fun i j => decide (j ≤ i)) fun x y => !decide (x < y)
theorem d_lt : OpD X β (compareOp .Lt) oLt := oOrd_of op_lt op_lt_str
theorem d_le : OpD X β (compareOp .LtE) oLe := oOrd_of op_le op_le_str
theorem d_gt : OpD X β (compareOp .Gt) oGt := oOrd_of op_gt op_gt_str
theorem d_ge : OpD X β (compareOp .GtE) oGe := oOrd_of op_ge op_ge_str
def isNon : D → Bool
  | .non => true
  | _ => false
/-- x is None, x is True -/
def oIs : OD := fun d e P => match d, e with
  | .bl a, .bl b => P (.val (.bl (decide (a = b))))
  | _, .non => P (.val (.bl (isNon d)))
  | _, _ => False
def oIsNot : OD := fun d e P => match d, e with
  | .bl a, .bl b => P (.val (.bl (!decide (a = b))))
  | _, .non => P (.val (.bl (!isNon d)))
  | _, _ => False
theorem non_of {K : PySem.W.Frag} {F Hf H : Hp} {ρ : WEnv} {σ : L2.St} (I : Rel K β F Hf ρ σ H) {d : D} {x : V} (r : RepO K β F H d x) : decide (x = .non) = isNon d := by
  rcases r with r | ⟨a, e, r⟩
  · cases d <;> rw [Rep] at r <;> first
      | (rw [r]; rfl)
      | (rw [r.1]; rfl)
      | (obtain ⟨a, vs, rfl, _⟩ := r; rfl)
  · subst e
    cases d <;> first
      | exact r.elim
      | rfl
theorem d_is : OpD X β (compareOp .Is) oIs := by
  refine ⟨fun d e P P' k q => ?_, _, op_isBl.or op_isN, fun F Hf ρ σ H d e x y Q I r s q => ?_⟩
  · unfold oIs at q ⊢
    split at q <;> first | exact k _ q | exact q
  · unfold oIs at q
    split at q
    · exact .inl ⟨_, _, r.bl, s.bl, q.bl I⟩
    · exact .inr ⟨s.non, by rw [non_of I r]; exact q.bl I⟩
    · exact q.elim
theorem d_isNot : OpD X β (compareOp .IsNot) oIsNot := by
  refine ⟨fun d e P P' k q => ?_, _, op_notBl.or op_notN, fun F Hf ρ σ H d e x y Q I r s q => ?_⟩
  · unfold oIsNot at q ⊢
    split at q <;> first | exact k _ q | exact q
  · unfold oIsNot at q
    split at q
    · exact .inl ⟨_, _, r.bl, s.bl, q.bl I⟩
    · exact .inr ⟨s.non, by rw [non_of I r]; exact q.bl I⟩
    · exact q.elim

/-! items, slices -/
def oIx : OD := fun d e P => match d, e with
  | .lst ds, .int i => match atI ds i with
    | some v => P (.val v)
    | none => False
  | .tup ds, .int i => match atI ds i with
    | some v => P (.val v)
    | none => False
  | .str x, .int i => match atI x i with
    | some c => P (.val (.str [c]))
    | none => False
  | _, _ => False
theorem atI_rep {K : PySem.W.Frag} {F : Hp} {ds : List D} {vs : List V} {i : Int} {d : D} (r : RepL K β F ds vs) (h : atI ds i = some d) : ∃ v, atI vs i = some v ∧ Rep K β F d v := by
  unfold atI at h ⊢
  rw [r.length]
  cases e : ixN ds.length i with
  | none => rw [e] at h; cases h
  | some j =>
    rw [e] at h
    obtain ⟨v, e1, e2⟩ := r.get (i := j) h
    exact ⟨v, e1, e2⟩
theorem atI_mem {α : Type} {xs : List α} {i : Int} {v : α} (h : atI xs i = some v) : v ∈ xs := by
  obtain ⟨j, _, e, _⟩ := atI_get h
  exact List.mem_of_getElem? e
theorem d_ix : IxD X β oIx := by
  refine ⟨fun d e P P' k q => ?_, _, ix_seq, fun F Hf ρ σ H d e x y Q I r s q => ?_⟩
  · unfold oIx at q ⊢
    split at q
    · split at q
      · exact k _ q
      · exact q
    · split at q
      · exact k _ q
      · exact q
    · split at q
      · exact k _ q
      · exact q
    · exact q
  · unfold oIx at q
    split at q
    · obtain ⟨a, vs, ea, sa, za, la⟩ := r.lst I
      split at q
      · rename_i d' hd
        obtain ⟨v, h1, h2⟩ := atI_rep la hd
        exact .inl ⟨a, vs, _, v, ea, s.int, .of sa, h1, q.v I h2⟩
      · exact q.elim
    · obtain ⟨a, vs, ea, sa, za, la⟩ := r.tup I
      split at q
      · rename_i d' hd
        obtain ⟨v, h1, h2⟩ := atI_rep la hd
        exact .inr (.inl ⟨a, vs, _, v, ea, s.int, sa, h1, q.v I h2⟩)
      · exact q.elim
    · obtain ⟨rfl, hx⟩ := r.str
      split at q
      · rename_i c hc
        refine .inr (.inr ⟨_, _, c, rfl, s.int, by rw [mkS_len]; exact hx.1, hc, q.str I ⟨by show 1 ≤ sizeLine; decide, fun z hz => ?_⟩⟩)
        rw [List.mem_singleton] at hz
        rw [hz]
        exact hx.2 c (atI_mem hc)
      · exact q.elim
    · exact q.elim
end
/-- xs[lo:hi] -/
def cutL {α : Type} (xs : List α) (lo hi : Option Int) : List α := (xs.drop (HT.sIx xs.length 0 lo)).take (HT.sIx xs.length xs.length hi - HT.sIx xs.length 0 lo)
theorem cutL_len {α : Type} (xs : List α) (lo hi : Option Int) : (cutL xs lo hi).length ≤ xs.length := by
  unfold cutL
  rw [List.length_take, List.length_drop]
  omega
theorem cutL_mem {α : Type} {xs : List α} {lo hi : Option Int} {c : α} (h : c ∈ cutL xs lo hi) : c ∈ xs := List.mem_of_mem_drop (List.mem_of_mem_take h)
theorem cutS_eq (x : List Nat) (lo hi : Option Int) : cutS (mkS x) lo hi = mkS (cutL x lo hi) := by
  unfold cutS cutL
  rw [mkS_len]
abbrev WP := WEnv → (Option Int → Prop) → Prop
def tP (K : PySem.W.Frag) (β : Bx) (w : WP) : TO := fun σ H Q => ∃ F Hf ρ, Rel K β F Hf ρ σ H ∧ w ρ fun o => ∀ F' H', Ex F F' → Rel K β F' Hf ρ σ H' → Q o H'
structure PPW (X : Cx) (β : Bx) (e : Option Expr) (w : WP) : Prop where
  mono : ∀ ρ P P', (∀ r, P r → P' r) → w ρ P → w ρ P'
  run : PO X e (tP X.K β w)
section
variable {X : Cx} {β : Bx} {a e : Expr} {wa we : WE} {lo hi : Option Expr} {wl wh : WP} {pos p2 : Pos}
def wNo : WP := fun _ P => P none
def wPt (wa : WE) : WP := fun ρ P => wa ρ fun r => match r.d with
  | .int i => P (some i)
  | _ => False
theorem pp_none : PPW X β none wNo := ⟨fun _ _ _ k q => k _ q, ⟨fun pins s σ H Q I q => by
  obtain ⟨F, Hf, ρ, J, q⟩ := q
  exact po_none.run pins s σ H Q I (q F H (Ex.refl F) J)⟩⟩
theorem pp_some (h : PW X β a wa) : PPW X β (some a) (wPt wa) := by
  refine ⟨fun ρ P P' k q => h.mono ρ _ _ (fun r q => ?_) q, ⟨fun pins s σ H Q I q => (po_some h.opnd).run pins s σ H Q I ?_⟩⟩
  · split at q
    · exact k _ q
    · exact q
  · obtain ⟨F, Hf, ρ, J, q⟩ := q
    refine ⟨F, Hf, ρ, J, h.mono ρ _ _ (fun r q F1 H1 v e1 I1 r1 => ?_) q⟩
    have g := r1.rd I1
    rw [fz_d] at g
    split at q
    · rename_i i hi
      rw [hi] at g
      exact ⟨i, g.int, q F1 H1 e1 I1⟩
    · exact q.elim
def oSl (lo hi : Option Int) : UD := fun d P => match d with
  | .str x => P (.val (.str (cutL x lo hi)))
  | .tup x => P (.val (.tup (cutL x lo hi)))
  | .lst x => P (.own (.lst (cutL x lo hi)))
  | _ => False
def wSl (we : WE) (wl wh : WP) : WE := fun ρ P => we ρ fun r => wl ρ fun l => wh ρ fun h => oSl l h r.d P
theorem pw_slice (he : PW X β e we) (hl : PPW X β lo wl) (hh : PPW X β hi wh) : PW X β (.Subscript e (.Slice lo hi none p2) pos) (wSl we wl wh) := by
  refine ⟨fun ρ P P' k q => he.mono ρ _ _ (fun r q => hl.mono ρ _ _ (fun l q => hh.mono ρ _ _ (fun h q => ?_) q) q) q, imp_E (pe_slice (sl_str.or (sl_tupD.or sl_list)) he.opnd hl.run hh.run) fun σ H Q q => ?_⟩
  · unfold oSl at q ⊢
    split at q <;> first | exact k _ q | exact q
  · obtain ⟨F, Hf, ρ, I, q⟩ := q
    refine ⟨F, Hf, ρ, I, he.mono ρ _ _ (fun r q F1 H1 v e1 I1 r1 => ?_) q⟩
    refine ⟨F1, Hf, ρ, I1, hl.mono ρ _ _ (fun l q F2 H2 e2 I2 => ?_) q⟩
    refine ⟨F2, Hf, ρ, I2, hh.mono ρ _ _ (fun h q F3 H3 e3 I3 => ?_) q⟩
    have g := ((r1.mono e2).mono e3).rd I3
    rw [fz_d] at g
    have q : oSl l h r.d (Kt X.K β F3 Hf ρ σ Q) := by
      unfold oSl at q ⊢
      split at q <;> first
        | exact fun F4 H4 v4 e4 I4 r4 => q F4 H4 v4 (((e1.trans e2).trans e3).trans e4) I4 r4
        | exact q
    unfold oSl at q
    split at q
    · rename_i x hx
      rw [hx] at g
      obtain ⟨rfl, ok⟩ := g.str
      refine .inl ⟨_, rfl, by rw [mkS_len]; exact ok.1, ?_⟩
      rw [cutS_eq]
      exact q.str I3 (ok.sub (cutL_len x l h) fun c hc => cutL_mem hc)
    · rename_i ds hd
      rw [hd] at g
      obtain ⟨a, vs, ea, sa, za, la⟩ := g.tup I3
      have hl' := la.length
      refine .inr (.inl ⟨a, vs, ea, sa, fun hw => ?_, fun hw p its hp => ?_⟩)
      · have : cutL ds l h = ds := by
          unfold cutL
          rw [← hl', hw.1, hw.2, List.drop_zero, Nat.sub_zero, hl', List.take_length]
        rw [this] at q
        rw [← ea]
        exact q.tup I3 g
      · refine q.newT I3 hp (Nat.le_trans (cutL_len ds l h) za) ?_
        unfold cutL cutV
        rw [hl']
        exact (la.drop _).take _
    · rename_i ds hd
      rw [hd] at g
      obtain ⟨a, vs, ea, sa, za, la⟩ := g.lst I3
      refine .inr (.inr ⟨a, vs, ea, .of sa, fun p hp => ?_⟩)
      refine q.newL I3 hp (Nat.le_trans (cutL_len ds l h) za) ?_
      unfold cutL cutV
      rw [la.length]
      exact (la.drop _).take _
    · exact q.elim
end
end WL
set_option Elab.async false
set_option linter.all false
set_option autoImplicit false
set_option maxRecDepth 100000
namespace WL
open PySem PySem.Spec L2

/-! ### built-in functions -/
inductive RepOs (K : PySem.W.Frag) (β : Bx) (F H : Hp) : List D → List V → Prop
  | nil : RepOs K β F H [] []
  | cons {d : D} {v : V} {ds : List D} {vs : List V} : RepO K β F H d v → RepOs K β F H ds vs → RepOs K β F H (d :: ds) (v :: vs)
theorem RepAs.rd {K : PySem.W.Frag} {β : Bx} {F Hf H : Hp} {ρ : WEnv} {σ : L2.St} (I : Rel K β F Hf ρ σ H) : ∀ {rs : List R} {vs : List V}, RepAs K β F ρ σ rs vs → RepOs K β F H (rs.map R.d) vs
  | _, _, .nil => .nil
  | _, _, .cons h t => .cons (h.rd I) (RepAs.rd I t)
theorem RepOs.one {K : PySem.W.Frag} {β : Bx} {F H : Hp} {d : D} {vs : List V} (h : RepOs K β F H [d] vs) : ∃ v, vs = [v] ∧ RepO K β F H d v := by
  cases h with
  | cons h t => cases t; exact ⟨_, rfl, h⟩
theorem RepOs.two {K : PySem.W.Frag} {β : Bx} {F H : Hp} {d e : D} {vs : List V} (h : RepOs K β F H [d, e] vs) : ∃ v w, vs = [v, w] ∧ RepO K β F H d v ∧ RepO K β F H e w := by
  cases h with
  | cons h t => cases t with
    | cons h2 t => cases t; exact ⟨_, _, rfl, h, h2⟩
abbrev CD := List D → (R → Prop) → Prop
structure CaD (X : Cx) (β : Bx) (f : Value) (o : CD) : Prop where
  mono : ∀ ds P P', (∀ r, P r → P' r) → o ds P → o ds P'
  ex : ∃ rr : List V → Hp → VK → Prop, CallR X f rr ∧ ∀ F Hf ρ σ H ds xs Q, Rel X.K β F Hf ρ σ H → RepOs X.K β F H ds xs → o ds (Kt X.K β F Hf ρ σ Q) → rr xs H Q
def wB (o : CD) (ws : WAs) : WE := fun ρ P => ws ρ fun rs => o (rs.map R.d) P
section
variable {X : Cx} {β : Bx} {x : Str} {p pos : Pos} {e a : Expr} {es : List Expr} {ws : WAs} {id T : String} {o : CD} {we wa wb : WE}
theorem wB_go {rr : List V → Hp → VK → Prop} (hs : PWL X β es ws) (om : ∀ ds P P', (∀ r, P r → P' r) → o ds P → o ds P')
    (h : ∀ F Hf ρ σ H ds xs Q, Rel X.K β F Hf ρ σ H → RepOs X.K β F H ds xs → o ds (Kt X.K β F Hf ρ σ Q) → rr xs H Q) (σ : L2.St) (H : Hp) (Q : VK) (q : tW X.K β (wB o ws) σ H Q) : tCB rr (tWA X.K β ws) σ H Q := by
  obtain ⟨F, Hf, ρ, I, q⟩ := q
  refine ⟨F, Hf, ρ, I, hs.mono ρ _ _ (fun rs q F1 H1 vs e1 I1 r1 => ?_) q⟩
  exact h F1 Hf ρ σ H1 _ vs Q I1 (r1.rd I1) (om _ _ _ (fun r k F2 H2 v e2 I2 r2 => k F2 H2 v (e1.trans e2) I2 r2) q)
theorem wB_mono (hs : PWL X β es ws) (om : ∀ ds P P', (∀ r, P r → P' r) → o ds P → o ds P') (ρ : WEnv) (P P' : R → Prop) (k : ∀ r, P r → P' r) (q : wB o ws ρ P) : wB o ws ρ P' := hs.mono ρ _ _ (fun _ q => om _ _ _ k q) q
theorem pw_b (ho : CaD X β (.builtin id) o) (hm : X.mg x = none) (hv : bootBuiltins x = some (.builtin id)) (hs : PWL X β (e :: es) ws) (hg : Gl X x := by rfl) (hn : x ≠ "__name__" := by decide) (hdb : (x == ("__debug__" : Str)) = false := by decide)
    (he : starEach (e :: es) X.env = (false, eval e X.env) :: starEach es X.env := by rfl) (hpl : (backTo pos (starEach es X.env)).any (·.1) = false := by rfl) : PW X β (.Call (.Name x p) (e :: es) [] pos) (wB o ws) := by
  obtain ⟨rr, hr, hq⟩ := ho.ex
  exact ⟨wB_mono hs ho.mono, imp_E (pe_callB hr hg hm hv hs.run hn hdb he hpl) fun σ H Q q => wB_go hs ho.mono hq σ H Q q⟩
theorem pw_ty (ho : CaD X β (.type T) o) (hm : X.mg x = none) (hv : bootBuiltins x = some (.type T)) (hs : PWL X β (e :: es) ws) (hg : Gl X x := by rfl) (hn : x ≠ "__name__" := by decide) (hdb : (x == ("__debug__" : Str)) = false := by decide)
    (he : starEach (e :: es) X.env = (false, eval e X.env) :: starEach es X.env := by rfl) (hpl : (backTo pos (starEach es X.env)).any (·.1) = false := by rfl) : PW X β (.Call (.Name x p) (e :: es) [] pos) (wB o ws) := by
  obtain ⟨rr, hr, hq⟩ := ho.ex
  exact ⟨wB_mono hs ho.mono, imp_E (pe_callTy hr hg hm hv hs.run hn hdb he hpl) fun σ H Q q => wB_go hs ho.mono hq σ H Q q⟩

/-! isinstance -/
def tyD : D → Option String
  | .non => some "NoneType"
  | .bl _ => some "bool"
  | .int _ => some "int"
  | .str _ => some "str"
  | .tup _ => some "tuple"
  | .lst _ => some "list"
  | .dct _ _ => some "dict"
  | .box => none
inductive Ty where
  | int | str | bool | tuple | list
def Ty.name : Ty → String
  | .int => "int"
  | .str => "str"
  | .bool => "bool"
  | .tuple => "tuple"
  | .list => "list"
def isTy : Ty → D → Bool
  | .int, .int _ => true
  | .int, .bl _ => true
  | .str, .str _ => true
  | .bool, .bl _ => true
  | .tuple, .tup _ => true
  | .list, .lst _ => true
  | _, _ => false
theorem kit_is (T : Ty) {d : D} {t : String} (h : tyD d = some t) : kitB t T.name = some (isTy T d) := by
  cases T <;> cases d <;> cases h <;> first
    | exact (by decide +kernel : kitB "NoneType" "int" = some false)
    | exact (by decide +kernel : kitB "bool" "int" = some true)
    | exact (by decide +kernel : kitB "int" "int" = some true)
    | exact (by decide +kernel : kitB "str" "int" = some false)
    | exact (by decide +kernel : kitB "tuple" "int" = some false)
    | exact (by decide +kernel : kitB "list" "int" = some false)
    | exact (by decide +kernel : kitB "dict" "int" = some false)
    | exact (by decide +kernel : kitB "NoneType" "str" = some false)
    | exact (by decide +kernel : kitB "bool" "str" = some false)
    | exact (by decide +kernel : kitB "int" "str" = some false)
    | exact (by decide +kernel : kitB "str" "str" = some true)
    | exact (by decide +kernel : kitB "tuple" "str" = some false)
    | exact (by decide +kernel : kitB "list" "str" = some false)
    | exact (by decide +kernel : kitB "dict" "str" = some false)
    | exact (by decide +kernel : kitB "NoneType" "bool" = some false)
    | exact (by decide +kernel : kitB "bool" "bool" = some true)
    | exact (by decide +kernel : kitB "int" "bool" = some false)
    | exact (by decide +kernel : kitB "str" "bool" = some false)
    | exact (by decide +kernel : kitB "tuple" "bool" = some false)
    | exact (by decide +kernel : kitB "list" "bool" = some false)
    | exact (by decide +kernel : kitB "dict" "bool" = some false)
    | exact (by decide +kernel : kitB "NoneType" "tuple" = some false)
    | exact (by decide +kernel : kitB "bool" "tuple" = some false)
    | exact (by decide +kernel : kitB "int" "tuple" = some false)
    | exact (by decide +kernel : kitB "str" "tuple" = some false)
    | exact (by decide +kernel : kitB "tuple" "tuple" = some true)
    | exact (by decide +kernel : kitB "list" "tuple" = some false)
    | exact (by decide +kernel : kitB "dict" "tuple" = some false)
    | exact (by decide +kernel : kitB "NoneType" "list" = some false)
    | exact (by decide +kernel : kitB "bool" "list" = some false)
    | exact (by decide +kernel : kitB "int" "list" = some false)
    | exact (by decide +kernel : kitB "str" "list" = some false)
    | exact (by decide +kernel : kitB "tuple" "list" = some false)
    | exact (by decide +kernel : kitB "list" "list" = some true)
    | exact (by decide +kernel : kitB "dict" "list" = some false)
def noBox : D → Bool
  | .box => false
  | _ => true
theorem noBox_ty {d : D} (h : noBox d = true) : ∃ t, tyD d = some t := by
  cases d <;> first
    | exact ⟨_, rfl⟩
    | cases h
def wIsi (T : Ty) (we : WE) : WE := fun ρ P => we ρ fun r => match noBox r.d with
  | true => P (.val (.bl (isTy T r.d)))
  | false => False
theorem tyX_of {K : PySem.W.Frag} {F Hf H : Hp} {ρ : WEnv} {σ : L2.St} (I : Rel K β F Hf ρ σ H) {d : D} {v : V} {t : String} (r : RepO K β F H d v) (h : tyD d = some t) : TyX K H v (.type t) := by
  rcases r with r | ⟨a, rfl, r⟩
  · cases d <;> cases h <;> rw [Rep] at r
    · subst r; exact .base .non
    · subst r; exact .base (.bl _)
    · subst r; exact .base (.int _)
    · rw [r.1]; exact .base (.str _)
    · obtain ⟨a, vs, rfl, sq, _⟩ := r
      rcases ex_t I.fex sq.sq with (h | ⟨ob, h⟩) | ⟨ob, _, _, h1, h2, _⟩
      · exact .base (.tup h)
      · exact .fTuple h
      · exact .kTuple h1 h2
    · obtain ⟨a, vs, rfl, sq, _⟩ := r
      exact .base (.lst (I.fex _ _ sq))
    · obtain ⟨a, kvs, rfl, sq, _⟩ := r
      exact .base (.dK (I.fex _ _ sq))
  · cases d <;> cases h <;> first
      | exact r.elim
      | (obtain ⟨vs, h1, _⟩ := r; exact .base (.lst h1))
      | (obtain ⟨vs, h1, _⟩ := r; exact .base (.dK h1))
theorem pw_isi {k : Str} {p2 : Pos} (T : Ty) (he : PW X β e we) (hm : X.mg "isinstance" = none) (hm2 : X.mg k = none) (hv : bootBuiltins k = some (.type T.name)) (hg : Gl X "isinstance" := by rfl) (hg2 : Gl X k := by rfl) (hn : k ≠ "__name__" := by decide) (hdb : (k == ("__debug__" : Str)) = false := by decide)
    (h1 : starEach [e, .Name k p2] X.env = (false, eval e X.env) :: starEach [.Name k p2] X.env := by rfl) (h2 : starEach [.Name k p2] X.env = (false, eval (.Name k p2) X.env) :: starEach [] X.env := by rfl)
    (hpl : (backTo pos (starEach [.Name k p2] X.env)).any (·.1) = false := by rfl) : PW X β (.Call (.Name "isinstance" p) [e, .Name k p2] [] pos) (wIsi T we) := by
  refine ⟨fun ρ P P' k q => he.mono ρ _ _ (fun r q => ?_) q, imp_E (pe_callB call_isi hg hm (by decide +kernel) (pa_cons he.opnd (pa_cons (pe_bltn (v := .ty T.name) hg2 hm2 hv rfl hn hdb) pa_nil h2) h1) (by decide) (by decide) h1 hpl) fun σ H Q q => ?_⟩
  · split at q
    · exact k _ q
    · exact q
  · obtain ⟨F, Hf, ρ, I, q⟩ := q
    refine ⟨F, Hf, ρ, I, he.mono ρ _ _ (fun r q F1 H1 v e1 I1 r1 => ?_) q⟩
    have g := r1.rd I1
    rw [fz_d] at g
    split at q
    rotate_left
    · exact q.elim
    rename_i hnb
    obtain ⟨t, ht⟩ := noBox_ty hnb
    refine ⟨v, .ty T.name, .type t, .type T.name, isTy T r.d, rfl, .ty T.name, tyX_of I1 g ht, kit_ty (kit_is T ht), ?_⟩
    exact q F1 H1 _ e1 I1 (show Rep X.K β F1 (.bl (isTy T r.d)) (.bl (isTy T r.d)) by rw [Rep])

/-! len, sum, max, min, all, any, tuple, list, int -/
def oLen : CD := fun ds P => match ds with
  | [.str x] => P (.val (.int x.length))
  | [.lst x] => P (.val (.int x.length))
  | [.tup x] => P (.val (.int x.length))
  | _ => False
theorem c_len : CaD X β (.builtin "len") oLen := by
  refine ⟨fun ds P P' k q => ?_, _, call_len_seq.or call_len_str, fun F Hf ρ σ H ds xs Q I r q => ?_⟩
  · unfold oLen at q ⊢
    split at q <;> first | exact k _ q | exact q
  · unfold oLen at q
    split at q
    · obtain ⟨v, rfl, r1⟩ := r.one
      obtain ⟨rfl, hx⟩ := r1.str
      exact .inr ⟨_, rfl, by rw [mkS_len]; exact hx.1, by rw [mkS_len]; exact q.int I⟩
    · obtain ⟨v, rfl, r1⟩ := r.one
      obtain ⟨a, vs, rfl, sa, za, la⟩ := r1.lst I
      exact .inl ⟨a, vs, rfl, .inl (.of sa), by rw [la.length]; exact q.int I⟩
    · obtain ⟨v, rfl, r1⟩ := r.one
      obtain ⟨a, vs, rfl, sa, za, la⟩ := r1.tup I
      exact .inl ⟨a, vs, rfl, .inr sa, by rw [la.length]; exact q.int I⟩
    · exact q.elim
def intsOf : List D → Option (List Int)
  | [] => some []
  | .int i :: ds => match intsOf ds with
    | some ns => some (i :: ns)
    | none => none
  | _ :: _ => none
def boolsOf : List D → Option (List Bool)
  | [] => some []
  | .bl i :: ds => match boolsOf ds with
    | some ns => some (i :: ns)
    | none => none
  | _ :: _ => none
def strsOf : List D → Option (List (List Nat))
  | [] => some []
  | .str i :: ds => match strsOf ds with
    | some ns => some (i :: ns)
    | none => none
  | _ :: _ => none
theorem intsOf_eq : ∀ {ds : List D} {ns : List Int}, intsOf ds = some ns → ds = ns.map D.int
  | [], ns, h => by cases h; rfl
  | d :: ds, ns, h => by
    cases d <;> try (simp [intsOf] at h; done)
    rename_i i
    rw [intsOf] at h
    split at h
    · rename_i ns' h'
      cases h
      rw [intsOf_eq h', List.map_cons]
    · cases h
theorem boolsOf_eq : ∀ {ds : List D} {ns : List Bool}, boolsOf ds = some ns → ds = ns.map D.bl
  | [], ns, h => by cases h; rfl
  | d :: ds, ns, h => by
    cases d <;> try (simp [boolsOf] at h; done)
    rename_i i
    rw [boolsOf] at h
    split at h
    · rename_i ns' h'
      cases h
      rw [boolsOf_eq h', List.map_cons]
    · cases h
theorem strsOf_eq : ∀ {ds : List D} {ns : List (List Nat)}, strsOf ds = some ns → ds = ns.map D.str
  | [], ns, h => by cases h; rfl
  | d :: ds, ns, h => by
    cases d <;> try (simp [strsOf] at h; done)
    rename_i i
    rw [strsOf] at h
    split at h
    · rename_i ns' h'
      cases h
      rw [strsOf_eq h', List.map_cons]
    · cases h
theorem intsOf_map {α : Type} (f : α → Int) : ∀ l : List α, intsOf (l.map fun a => D.int (f a)) = some (l.map f)
  | [] => rfl
  | a :: l => by rw [List.map_cons, intsOf, intsOf_map f l, List.map_cons]
theorem boolsOf_map {α : Type} (f : α → Bool) : ∀ l : List α, boolsOf (l.map fun a => D.bl (f a)) = some (l.map f)
  | [] => rfl
  | a :: l => by rw [List.map_cons, boolsOf, boolsOf_map f l, List.map_cons]
theorem strsOf_map {α : Type} (f : α → List Nat) : ∀ l : List α, strsOf (l.map fun a => D.str (f a)) = some (l.map f)
  | [] => rfl
  | a :: l => by rw [List.map_cons, strsOf, strsOf_map f l, List.map_cons]
theorem rep_ints {K : PySem.W.Frag} {F : Hp} : ∀ {ns : List Int} {vs : List V}, RepL K β F (ns.map D.int) vs → vs = ns.map V.int
  | [], vs, h => by rw [List.map_nil, RepL] at h; rw [h]; rfl
  | n :: ns, vs, h => by
    rw [List.map_cons, RepL] at h
    obtain ⟨v, ws, rfl, h1, h2⟩ := h
    rw [Rep] at h1
    rw [h1, rep_ints h2, List.map_cons]
theorem rep_bools {K : PySem.W.Frag} {F : Hp} : ∀ {ns : List Bool} {vs : List V}, RepL K β F (ns.map D.bl) vs → vs = ns.map V.bl
  | [], vs, h => by rw [List.map_nil, RepL] at h; rw [h]; rfl
  | n :: ns, vs, h => by
    rw [List.map_cons, RepL] at h
    obtain ⟨v, ws, rfl, h1, h2⟩ := h
    rw [Rep] at h1
    rw [h1, rep_bools h2, List.map_cons]
theorem rep_strs {K : PySem.W.Frag} {F : Hp} : ∀ {ns : List (List Nat)} {vs : List V}, RepL K β F (ns.map D.str) vs → vs = (ns.map mkS).map V.str ∧ ∀ x ∈ ns, okS x
  | [], vs, h => by rw [List.map_nil, RepL] at h; rw [h]; exact ⟨rfl, fun _ h => nomatch h⟩
  | n :: ns, vs, h => by
    rw [List.map_cons, RepL] at h
    obtain ⟨v, ws, rfl, h1, h2⟩ := h
    rw [Rep] at h1
    obtain ⟨g1, g2⟩ := rep_strs h2
    refine ⟨by rw [h1.1, g1, List.map_cons, List.map_cons], fun x hx => ?_⟩
    rcases List.mem_cons.mp hx with rfl | hx
    · exact h1.2
    · exact g2 x hx
/-- of a list of whole numbers, of truth values -/
def oInts (f : List Int → Option D) : CD := fun ds P => match ds with
  | [.lst xs] => match intsOf xs with
    | some ns => match f ns with
      | some d => P (.val d)
      | none => False
    | none => False
  | _ => False
theorem oInts_mono {f : List Int → Option D} (ds : List D) (P P' : R → Prop) (k : ∀ r, P r → P' r) (q : oInts f ds P) : oInts f ds P' := by
  unfold oInts at q ⊢
  split at q
  · split at q
    · split at q
      · exact k _ q
      · exact q
    · exact q
  · exact q
def maxI : List Int → Option Int
  | [] => none
  | n :: ns => some (ns.foldl max n)
def minI : List Int → Option Int
  | [] => none
  | n :: ns => some (ns.foldl min n)
theorem foldl_max_ge : ∀ (ns : List Int) (n : Int), n ≤ ns.foldl max n ∧ ∀ y ∈ ns, y ≤ ns.foldl max n
  | [], n => ⟨Int.le_refl n, fun _ h => nomatch h⟩
  | m :: ns, n => by
    rw [List.foldl_cons]
    obtain ⟨h1, h2⟩ := foldl_max_ge ns (max n m)
    refine ⟨by omega, fun y hy => ?_⟩
    rcases List.mem_cons.mp hy with rfl | hy
    · omega
    · exact h2 y hy
theorem foldl_max_mem : ∀ (ns : List Int) (n : Int), ns.foldl max n = n ∨ ns.foldl max n ∈ ns
  | [], n => .inl rfl
  | m :: ns, n => by
    rw [List.foldl_cons]
    rcases foldl_max_mem ns (max n m) with h | h
    · rw [h]
      by_cases d : n ≤ m
      · right; rw [Int.max_eq_right d]; exact List.mem_cons_self
      · left; omega
    · right; exact List.mem_cons_of_mem _ h
theorem foldl_min_le : ∀ (ns : List Int) (n : Int), ns.foldl min n ≤ n ∧ ∀ y ∈ ns, ns.foldl min n ≤ y
  | [], n => ⟨Int.le_refl n, fun _ h => nomatch h⟩
  | m :: ns, n => by
    rw [List.foldl_cons]
    obtain ⟨h1, h2⟩ := foldl_min_le ns (min n m)
    refine ⟨by omega, fun y hy => ?_⟩
    rcases List.mem_cons.mp hy with rfl | hy
    · omega
    · exact h2 y hy
theorem foldl_min_mem : ∀ (ns : List Int) (n : Int), ns.foldl min n = n ∨ ns.foldl min n ∈ ns
  | [], n => .inl rfl
  | m :: ns, n => by
    rw [List.foldl_cons]
    rcases foldl_min_mem ns (min n m) with h | h
    · rw [h]
      by_cases d : m ≤ n
      · right; rw [Int.min_eq_right d]; exact List.mem_cons_self
      · left; omega
    · right; exact List.mem_cons_of_mem _ h
theorem maxI_of {ns : List Int} {m : Int} (h1 : m ∈ ns) (h2 : ∀ y ∈ ns, y ≤ m) : maxI ns = some m := by
  cases ns with
  | nil => cases h1
  | cons n ns =>
    obtain ⟨g1, g2⟩ := foldl_max_ge ns n
    have g3 := foldl_max_mem ns n
    have e1 : ns.foldl max n ≤ m := by
      rcases g3 with g | g
      · rw [g]; exact h2 n List.mem_cons_self
      · exact h2 _ (List.mem_cons_of_mem _ g)
    have e2 : m ≤ ns.foldl max n := by
      rcases List.mem_cons.mp h1 with g | g
      · rw [g]; exact g1
      · exact g2 m g
    rw [maxI, Int.le_antisymm e1 e2]
theorem minI_of {ns : List Int} {m : Int} (h1 : m ∈ ns) (h2 : ∀ y ∈ ns, m ≤ y) : minI ns = some m := by
  cases ns with
  | nil => cases h1
  | cons n ns =>
    obtain ⟨g1, g2⟩ := foldl_min_le ns n
    have g3 := foldl_min_mem ns n
    have e1 : m ≤ ns.foldl min n := by
      rcases g3 with g | g
      · rw [g]; exact h2 n List.mem_cons_self
      · exact h2 _ (List.mem_cons_of_mem _ g)
    have e2 : ns.foldl min n ≤ m := by
      rcases List.mem_cons.mp h1 with g | g
      · rw [g]; exact g1
      · exact g2 m g
    rw [minI, Int.le_antisymm e2 e1]
def optInt : Option Int → Option D
  | some i => some (.int i)
  | none => none
abbrev oSum : CD := oInts fun ns => some (.int ns.sum)
abbrev oMax : CD := oInts fun ns => optInt (maxI ns)
abbrev oMin : CD := oInts fun ns => optInt (minI ns)
theorem oInts_go {f : List Int → Option D} {K : PySem.W.Frag} {F Hf H : Hp} {ρ : WEnv} {σ : L2.St} {Q : VK} {ds : List D} {xs : List V} (I : Rel K β F Hf ρ σ H) (r : RepOs K β F H ds xs) (q : oInts f ds (Kt K β F Hf ρ σ Q)) :
    ∃ a ns d, xs = [.ref a] ∧ SqL K H a (ns.map V.int) ∧ f ns = some d ∧ Kt K β F Hf ρ σ Q (.val d) := by
  unfold oInts at q
  split at q
  · obtain ⟨v, rfl, r1⟩ := r.one
    obtain ⟨a, vs, rfl, sa, za, la⟩ := r1.lst I
    split at q
    · rename_i ns hn
      split at q
      · rename_i d hd
        rw [intsOf_eq hn] at la
        have := rep_ints la
        subst this
        exact ⟨a, ns, d, rfl, .of sa, hd, q⟩
      · exact q.elim
    · exact q.elim
  · exact q.elim
theorem c_sum (hc : X.calm = true) : CaD X β (.builtin "sum") oSum := by
  refine ⟨oInts_mono, _, cr_sum hc, fun F Hf ρ σ H ds xs Q I r q => ?_⟩
  obtain ⟨a, ns, d, rfl, h1, h2, h3⟩ := oInts_go I r q
  cases h2
  exact ⟨a, ns, rfl, h1, h3.int I⟩
theorem c_max (hc : X.calm = true) : CaD X β (.builtin "max") oMax := by
  refine ⟨oInts_mono, _, cr_max hc, fun F Hf ρ σ H ds xs Q I r q => ?_⟩
  obtain ⟨a, ns, d, rfl, h1, h2, h3⟩ := oInts_go I r q
  refine ⟨a, ns, rfl, h1, ?_, fun m hm hl => ?_⟩
  · cases ns with
    | nil => cases h2
    | cons n ns => exact Nat.succ_pos _
  · rw [maxI_of hm hl] at h2
    cases h2
    exact h3.int I
theorem c_min (hc : X.calm = true) : CaD X β (.builtin "min") oMin := by
  refine ⟨oInts_mono, _, cr_min hc, fun F Hf ρ σ H ds xs Q I r q => ?_⟩
  obtain ⟨a, ns, d, rfl, h1, h2, h3⟩ := oInts_go I r q
  refine ⟨a, ns, rfl, h1, ?_, fun m hm hl => ?_⟩
  · cases ns with
    | nil => cases h2
    | cons n ns => exact Nat.succ_pos _
  · rw [minI_of hm hl] at h2
    cases h2
    exact h3.int I
def oInt2 (g : Int → Int → Int) : CD := fun ds P => match ds with
  | [.int i, .int j] => P (.val (.int (g i j)))
  | _ => False
theorem oInt2_mono {g : Int → Int → Int} (ds : List D) (P P' : R → Prop) (k : ∀ r, P r → P' r) (q : oInt2 g ds P) : oInt2 g ds P' := by
  unfold oInt2 at q ⊢
  split at q
  · exact k _ q
  · exact q
theorem c_max2 (hc : X.calm = true) : CaD X β (.builtin "max") (oInt2 fun i j => max i j) := by
  refine ⟨oInt2_mono, _, call_max2 hc, fun F Hf ρ σ H ds xs Q I r q => ?_⟩
  unfold oInt2 at q
  split at q
  · rename_i i j
    obtain ⟨v, w, rfl, r1, r2⟩ := r.two
    refine ⟨_, _, by rw [r1.int, r2.int], ?_⟩
    have : (if j > i then j else i) = max i j := by
      split <;> omega
    rw [this]
    exact q.int I
  · exact q.elim
theorem c_min2 (hc : X.calm = true) : CaD X β (.builtin "min") (oInt2 fun i j => min i j) := by
  refine ⟨oInt2_mono, _, call_min2 hc, fun F Hf ρ σ H ds xs Q I r q => ?_⟩
  unfold oInt2 at q
  split at q
  · rename_i i j
    obtain ⟨v, w, rfl, r1, r2⟩ := r.two
    refine ⟨_, _, by rw [r1.int, r2.int], ?_⟩
    have : (if j < i then j else i) = min i j := by
      split <;> omega
    rw [this]
    exact q.int I
  · exact q.elim
def oBools (f : List Bool → Bool) : CD := fun ds P => match ds with
  | [.lst xs] => match boolsOf xs with
    | some ns => P (.val (.bl (f ns)))
    | none => False
  | _ => False
theorem oBools_mono {f : List Bool → Bool} (ds : List D) (P P' : R → Prop) (k : ∀ r, P r → P' r) (q : oBools f ds P) : oBools f ds P' := by
  unfold oBools at q ⊢
  split at q
  · split at q
    · exact k _ q
    · exact q
  · exact q
theorem oBools_go {f : List Bool → Bool} {K : PySem.W.Frag} {F Hf H : Hp} {ρ : WEnv} {σ : L2.St} {Q : VK} {ds : List D} {xs : List V} (I : Rel K β F Hf ρ σ H) (r : RepOs K β F H ds xs) (q : oBools f ds (Kt K β F Hf ρ σ Q)) :
    ∃ a ns, xs = [.ref a] ∧ SqL K H a (ns.map V.bl) ∧ Kt K β F Hf ρ σ Q (.val (.bl (f ns))) := by
  unfold oBools at q
  split at q
  · obtain ⟨v, rfl, r1⟩ := r.one
    obtain ⟨a, vs, rfl, sa, za, la⟩ := r1.lst I
    split at q
    · rename_i ns hn
      rw [boolsOf_eq hn] at la
      have := rep_bools la
      subst this
      exact ⟨a, ns, rfl, .of sa, q⟩
    · exact q.elim
  · exact q.elim
abbrev oAll : CD := oBools fun bs => bs.all (fun b => b)
abbrev oAny : CD := oBools fun bs => bs.any (fun b => b)
theorem c_all (hc : X.calm = true) : CaD X β (.builtin "all") oAll := by
  refine ⟨oBools_mono, _, cr_all hc, fun F Hf ρ σ H ds xs Q I r q => ?_⟩
  obtain ⟨a, ns, rfl, h1, h3⟩ := oBools_go I r q
  exact ⟨a, ns, rfl, h1, h3.bl I⟩
theorem c_any (hc : X.calm = true) : CaD X β (.builtin "any") oAny := by
  refine ⟨oBools_mono, _, cr_any hc, fun F Hf ρ σ H ds xs Q I r q => ?_⟩
  obtain ⟨a, ns, rfl, h1, h3⟩ := oBools_go I r q
  exact ⟨a, ns, rfl, h1, h3.bl I⟩
def oTuple : CD := fun ds P => match ds with
  | [.lst xs] => P (.val (.tup xs))
  | [.tup xs] => P (.val (.tup xs))
  | _ => False
theorem c_tuple : CaD X β (.type "tuple") oTuple := by
  refine ⟨fun ds P P' k q => ?_, _, call_tupleD, fun F Hf ρ σ H ds xs Q I r q => ?_⟩
  · unfold oTuple at q ⊢
    split at q <;> first | exact k _ q | exact q
  · unfold oTuple at q
    split at q
    · obtain ⟨v, rfl, r1⟩ := r.one
      obtain ⟨a, vs, rfl, sa, za, la⟩ := r1.lst I
      exact ⟨a, vs, rfl, .inl ⟨.of sa, fun l its hl => q.newT I hl za la⟩⟩
    · obtain ⟨v, rfl, r1⟩ := r.one
      obtain ⟨a, vs, rfl, sa, za, la⟩ := r1.tup I
      exact ⟨a, vs, rfl, .inr ⟨sa, q.tup I r1⟩⟩
    · exact q.elim
def oList : CD := fun ds P => match ds with
  | [.lst xs] => P (.own (.lst xs))
  | [.tup xs] => P (.own (.lst xs))
  | _ => False
theorem c_list : CaD X β (.type "list") oList := by
  refine ⟨fun ds P P' k q => ?_, _, call_list_of, fun F Hf ρ σ H ds xs Q I r q => ?_⟩
  · unfold oList at q ⊢
    split at q <;> first | exact k _ q | exact q
  · unfold oList at q
    split at q
    · obtain ⟨v, rfl, r1⟩ := r.one
      obtain ⟨a, vs, rfl, sa, za, la⟩ := r1.lst I
      exact ⟨a, vs, rfl, .inl (.of sa), fun l hl => q.newL I hl za la⟩
    · obtain ⟨v, rfl, r1⟩ := r.one
      obtain ⟨a, vs, rfl, sa, za, la⟩ := r1.tup I
      exact ⟨a, vs, rfl, .inr sa, fun l hl => q.newL I hl za la⟩
    · exact q.elim
def oInt : CD := fun ds P => match ds with
  | [.int i] => P (.val (.int i))
  | [.bl b] => P (.val (.int (if b then 1 else 0)))
  | _ => False
theorem c_int : CaD X β (.type "int") oInt := by
  refine ⟨fun ds P P' k q => ?_, _, call_int1, fun F Hf ρ σ H ds xs Q I r q => ?_⟩
  · unfold oInt at q ⊢
    split at q <;> first | exact k _ q | exact q
  · unfold oInt at q
    split at q
    · obtain ⟨v, rfl, r1⟩ := r.one
      exact .inl ⟨_, by rw [r1.int], q.int I⟩
    · obtain ⟨v, rfl, r1⟩ := r.one
      exact .inr ⟨_, by rw [r1.bl], q.int I⟩
    · exact q.elim

/-! ### methods -/
abbrev MD := D → List D → (R → Prop) → Prop
structure MtD (X : Cx) (β : Bx) (T id : String) (o : MD) : Prop where
  mono : ∀ d ds P P', (∀ r, P r → P' r) → o d ds P → o d ds P'
  ty : ∀ F Hf ρ σ H d ds v P, Rel X.K β F Hf ρ σ H → RepO X.K β F H d v → o d ds P → tyV X.K T v H
  ex : ∃ rr : V → List V → Hp → VK → Prop, MtR X id rr ∧ ∀ F Hf ρ σ H d ds x xs Q, Rel X.K β F Hf ρ σ H → RepO X.K β F H d x → RepOs X.K β F H ds xs → o d ds (Kt X.K β F Hf ρ σ Q) → rr x xs H Q
def tyOk (T : String) : D → Bool
  | .str _ => T == "str"
  | .lst _ => T == "list"
  | .tup _ => T == "tuple"
  | .dct _ _ => T == "dict"
  | _ => false
def wM (T : String) (o : MD) (wa : WE) (ws : WAs) : WE := fun ρ P => wa ρ fun r => tyOk T r.d = true ∧ ws ρ fun rs => o r.d (rs.map R.d) P
/-- the kind of what a method is called on -/
def tyW (K : PySem.W.Frag) (T : String) (x : V) (H : Hp) : Prop := tyV K T x H ∨ (T = "tuple" ∧ ∃ p vs, x = .ref p ∧ SqD H p vs)
theorem tyW_is {pins : List (Addr × Obj)} {σ : L2.St} {H : Hp} {s : Shared} {x : V} {v : Value} (I : Inv X pins σ H s) (r : RelV x v) (ty : tyW X.K T x H) : s.TypeIs v T ∧ ∀ a, v = .ref a → ∃ ob, s.heap.get? a = some ob ∧ ob.dict = none := by
  rcases ty with ty | ⟨rfl, p, vs, rfl, its, hp⟩
  · exact tyV_is I r ty
  · cases r
    have ho : s.heap.get? p = some (tupO its) := (I.hok p _ hp).1
    exact ⟨⟨_, ho, rfl⟩, fun a e => by cases e; exact ⟨_, ho, rfl⟩⟩
def tMW (K : PySem.W.Frag) (T : String) (rr : V → List V → Hp → VK → Prop) (to : TE) (ta : TA) : TE := fun σ H Q => to σ H fun x H1 => tyW K T x H1 ∧ ta σ H1 fun xs H2 => rr x xs H2 Q
def tMW0 (K : PySem.W.Frag) (T : String) (rr : V → List V → Hp → VK → Prop) (to : TE) : TE := fun σ H Q => to σ H fun x H1 => tyW K T x H1 ∧ rr x [] H1 Q
theorem pe_mw0 {name : Str} {apos cpos : Pos} {rr : V → List V → Hp → VK → Prop} {o : Expr} {to : TE} (pa : PlainAttrs T) (slot : PySem.Slot T name id) (hty : typeOf (.builtin id) = pure (.type "method_descriptor")) (hm : MtR X id rr) (ho : PE X o to)
    (hb : attributeBase o name X.env (eval o X.env) = eval o X.env) (hl : (apos.endLine == cpos.line) = true) : PE X (.Call (.Attribute o name apos) [] [] cpos) (tMW0 X.K T rr to) := by
  refine ⟨fun pins s σ H Q I h => wpAny_Call_method0_late hb hl (thn (ho.run pins s σ H _ I h) ?_)⟩
  rintro v s1 ⟨x, H1, I1, r1, ty, q1⟩
  have g := tyW_is I1 r1 ty
  exact ⟨T, id, pa, slot, hty, g.1, g.2, Calls.callWith_builtin rfl (PySem.evalArgs_none (hm pins s1 σ H1 x [] v [] Q I1 r1 .nil q1))⟩
theorem pe_mw {name : Str} {apos cpos : Pos} {rr : V → List V → Hp → VK → Prop} {o e : Expr} {es : List Expr} {to : TE} {ta : TA} (pa : PlainAttrs T) (slot : PySem.Slot T name id) (hty : typeOf (.builtin id) = pure (.type "method_descriptor")) (hm : MtR X id rr) (ho : PE X o to) (ha : PA X (e :: es) ta)
    (hb : attributeBase o name X.env (eval o X.env) = eval o X.env)
    (hfew : ((backTo cpos (starEach (e :: es) X.env)).all (fun x => !x.1) && (backToKw cpos (keywordEach [] X.env)).all (fun x => x.1.isSome)
      && decide ((e :: es).length + ([] : List Keyword).length + (if ([] : List Keyword).isEmpty then 0 else 1) < 30)) = true)
    (hl : (apos.endLine == cpos.line) = true) (hst : starEach (e :: es) X.env = (false, eval e X.env) :: starEach es X.env) (hplain : (backTo cpos (starEach es X.env)).any (·.1) = false) :
    PE X (.Call (.Attribute o name apos) (e :: es) [] cpos) (tMW X.K T rr to ta) := by
  refine ⟨fun pins s σ H Q I h => wpAny_Call_method_late hb hfew hl rfl (thn (ho.run pins s σ H _ I h) ?_)⟩
  rintro v s1 ⟨x, H1, I1, r1, ty, q1⟩
  have g := tyW_is I1 r1 ty
  refine ⟨T, id, pa, slot, hty, g.1, g.2, ?_⟩
  have hA := ha.run cpos pins s1 σ H1 _ I1 q1
  rw [hst] at hA ⊢
  refine Calls.callWith_builtin (by show (false || (backTo cpos (starEach es X.env)).any (·.1)) = false; rw [Bool.false_or, hplain]) (Calls.evalArgs_plain (thn hA ?_))
  rintro us s2 ⟨vs, H2, I2, r2, q2⟩
  exact hm pins s2 σ H2 x vs v us Q I2 r1 r2 q2
theorem tyOk_v {K : PySem.W.Frag} {F Hf H : Hp} {ρ : WEnv} {σ : L2.St} (I : Rel K β F Hf ρ σ H) {d : D} {v : V} (r : RepO K β F H d v) (h : tyOk T d = true) : tyW K T v H := by
  cases d <;> try (cases h; done)
  · rw [r.str.1]
    exact .inl (show T = "str" by simpa [tyOk] using h)
  · obtain ⟨a, vs, rfl, sa, _⟩ := r.tupD I
    exact .inr ⟨by simpa [tyOk] using h, a, vs, rfl, sa⟩
  · obtain ⟨a, vs, rfl, sa, _⟩ := r.lst I
    exact .inl (.inl ⟨by simpa [tyOk] using h, vs, .of sa⟩)
  · have hT : T = "dict" := by simpa [tyOk] using h
    rcases r with r | ⟨a, rfl, r⟩
    · rw [Rep] at r
      obtain ⟨a, kvs, rfl, h1, _⟩ := r
      exact .inl (.inr (.inr (.inl ⟨hT, .inl ⟨kvs, I.fex _ _ h1⟩⟩)))
    · obtain ⟨kvs, h1, _⟩ := r
      exact .inl (.inr (.inr (.inl ⟨hT, .inl ⟨kvs, h1⟩⟩)))
theorem wM_mono {o : MD} {ws : WAs} (ha : PW X β a wa) (hs : PWL X β es ws) (om : ∀ d ds P P', (∀ r, P r → P' r) → o d ds P → o d ds P') (ρ : WEnv) (P P' : R → Prop) (k : ∀ r, P r → P' r) (q : wM T o wa ws ρ P) : wM T o wa ws ρ P' :=
  ha.mono ρ _ _ (fun _ q => ⟨q.1, hs.mono ρ _ _ (fun _ q => om _ _ _ _ k q) q.2⟩) q
structure MeD (X : Cx) (β : Bx) (id : String) (o : MD) : Prop where
  mono : ∀ d ds P P', (∀ r, P r → P' r) → o d ds P → o d ds P'
  ex : ∃ rr : V → List V → Hp → VK → Prop, MtR X id rr ∧ ∀ F Hf ρ σ H d ds x xs Q, Rel X.K β F Hf ρ σ H → RepO X.K β F H d x → RepOs X.K β F H ds xs → o d ds (Kt X.K β F Hf ρ σ Q) → rr x xs H Q
theorem pw_m {name : Str} {apos cpos : Pos} {o : MD} (pa : PlainAttrs T) (slot : PySem.Slot T name id) (hty : typeOf (.builtin id) = pure (.type "method_descriptor")) (hm : MeD X β id o) (ho : PW X β a wa) (hs : PWL X β (e :: es) ws)
    (hbase : attributeBase a name X.env (eval a X.env) = eval a X.env := by rfl)
    (hfew : ((backTo cpos (starEach (e :: es) X.env)).all (fun x => !x.1) && (backToKw cpos (keywordEach [] X.env)).all (fun x => x.1.isSome)
      && decide ((e :: es).length + ([] : List Keyword).length + (if ([] : List Keyword).isEmpty then 0 else 1) < 30)) = true := by rfl)
    (hline : (apos.endLine == cpos.line) = true := by rfl) (hst : starEach (e :: es) X.env = (false, eval e X.env) :: starEach es X.env := by rfl) (hplain : (backTo cpos (starEach es X.env)).any (·.1) = false := by rfl) :
    PW X β (.Call (.Attribute a name apos) (e :: es) [] cpos) (wM T o wa ws) := by
  obtain ⟨rr, hr, hq⟩ := hm.ex
  refine ⟨wM_mono ho hs hm.mono, imp_E (pe_mw pa slot hty hr ho.opnd hs.run hbase hfew hline hst hplain) fun σ H Q q => ?_⟩
  obtain ⟨F, Hf, ρ, I, q⟩ := q
  refine ⟨F, Hf, ρ, I, ho.mono ρ _ _ (fun r q F1 H1 v e1 I1 r1 => ?_) q⟩
  have g := r1.rd I1
  rw [fz_d] at g
  refine ⟨tyOk_v I1 g q.1, F1, Hf, ρ, I1, hs.mono ρ _ _ (fun rs q F2 H2 vs e2 I2 r2 => ?_) q.2⟩
  have g2 := (r1.mono e2).rd I2
  rw [fz_d] at g2
  exact hq F2 Hf ρ σ H2 _ _ v vs Q I2 g2 (r2.rd I2) (hm.mono _ _ _ _ (fun t k F3 H3 z e3 I3 r3 => k F3 H3 z ((e1.trans e2).trans e3) I3 r3) q)
theorem pw_m0 {name : Str} {apos cpos : Pos} {o : MD} (pa : PlainAttrs T) (slot : PySem.Slot T name id) (hty : typeOf (.builtin id) = pure (.type "method_descriptor")) (hm : MeD X β id o) (ho : PW X β a wa)
    (hbase : attributeBase a name X.env (eval a X.env) = eval a X.env := by rfl) (hline : (apos.endLine == cpos.line) = true := by rfl) : PW X β (.Call (.Attribute a name apos) [] [] cpos) (wM T o wa wNil) := by
  obtain ⟨rr, hr, hq⟩ := hm.ex
  refine ⟨wM_mono ho (pwl_nil (X := X)) hm.mono, imp_E (pe_mw0 pa slot hty hr ho.opnd hbase hline) fun σ H Q q => ?_⟩
  obtain ⟨F, Hf, ρ, I, q⟩ := q
  refine ⟨F, Hf, ρ, I, ho.mono ρ _ _ (fun r q F1 H1 v e1 I1 r1 => ?_) q⟩
  have g := r1.rd I1
  rw [fz_d] at g
  refine ⟨tyOk_v I1 g q.1, ?_⟩
  exact hq F1 Hf ρ σ H1 _ _ v [] Q I1 g .nil (hm.mono _ _ _ _ (fun t k F3 H3 z e3 I3 r3 => k F3 H3 z (e1.trans e3) I3 r3) q.2)
/-- sep.join(texts) -/
def oJoin : MD := fun d ds P => match d, ds with
  | .str x, [.lst l] => match strsOf l with
    | some ys => (ys.map List.length).sum + ys.length * x.length ≤ 16777216 ∧ P (.val (.str (TL.joinL x ys)))
    | none => False
  | .str x, [.tup l] => match strsOf l with
    | some ys => (ys.map List.length).sum + ys.length * x.length ≤ 16777216 ∧ P (.val (.str (TL.joinL x ys)))
    | none => False
  | _, _ => False
theorem joinL_len (S : List Nat) : ∀ ys : List (List Nat), (TL.joinL S ys).length ≤ (ys.map List.length).sum + ys.length * S.length
  | [] => by simp [TL.joinL]
  | [x] => by simp [TL.joinL]
  | x :: y :: r => by
    have := joinL_len S (y :: r)
    simp only [TL.joinL, List.length_append, List.map_cons, List.sum_cons, List.length_cons, Nat.add_mul, Nat.one_mul] at this ⊢
    omega
theorem joinL_mem {S : List Nat} {c : Nat} : ∀ {ys : List (List Nat)}, c ∈ TL.joinL S ys → c ∈ S ∨ ∃ y ∈ ys, c ∈ y
  | [], h => by simp [TL.joinL] at h
  | [x], h => .inr ⟨x, List.mem_cons_self, by simpa [TL.joinL] using h⟩
  | x :: y :: r, h => by
    simp only [TL.joinL, List.mem_append] at h
    rcases h with h | h | h
    · exact .inr ⟨x, List.mem_cons_self, h⟩
    · exact .inl h
    · rcases joinL_mem (ys := y :: r) h with h | ⟨z, h1, h2⟩
      · exact .inl h
      · exact .inr ⟨z, List.mem_cons_of_mem _ h1, h2⟩
theorem join_mkS (x : List Nat) (ys : List (List Nat)) : Txt.join (mkS x) (ys.map mkS) = mkS (TL.joinL x ys) := by
  rw [TL.join_eq]
  apply TL.ext_tl
  rw [TL.tl_join]
  show TL.joinL (TL.tl (mkS x)) ((ys.map mkS).map TL.tl) = TL.tl (mkS (TL.joinL x ys))
  have e1 : TL.tl (mkS x) = x := rfl
  have e2 : (ys.map mkS).map TL.tl = ys := by
    rw [List.map_map]
    exact List.map_id' ys
  rw [e1, e2]
theorem m_join : MeD X β "str.join" oJoin := by
  refine ⟨fun d ds P P' k q => ?_, _, mt_join, fun F Hf ρ σ H d ds x xs Q I r rs q => ?_⟩
  · unfold oJoin at q ⊢
    split at q
    · split at q
      · exact ⟨q.1, k _ q.2⟩
      · exact q
    · split at q
      · exact ⟨q.1, k _ q.2⟩
      · exact q
    · exact q
  · have fin : ∀ {z : List Nat} {ys : List (List Nat)}, okS z → (∀ y ∈ ys, okS y) → (ys.map List.length).sum + ys.length * z.length ≤ 16777216 → okS (TL.joinL z ys) := fun hz hy hs =>
      ⟨Nat.le_trans (joinL_len _ _) (by rw [sizeLine_eq]; exact hs), fun c hc => (joinL_mem hc).elim (hz.2 c) fun ⟨y, h1, h2⟩ => (hy y h1).2 c h2⟩
    have sums : ∀ ys : List (List Nat), ((ys.map mkS).map (·.length)).sum = (ys.map List.length).sum := fun ys => by
      rw [List.map_map]
      congr 1
    unfold oJoin at q
    split at q
    · obtain ⟨rfl, hx⟩ := r.str
      obtain ⟨v, rfl, r2⟩ := rs.one
      obtain ⟨a, vs, rfl, sa, za, la⟩ := r2.lst I
      split at q
      · rename_i ys hy
        rw [strsOf_eq hy] at la
        obtain ⟨rfl, ok⟩ := rep_strs la
        refine ⟨_, a, ys.map mkS, rfl, rfl, .inl (.of sa), ?_, ?_⟩
        · rw [sums, List.length_map, mkS_len]; exact q.1
        · rw [join_mkS]
          exact q.2.str I (fin hx ok q.1)
      · exact q.elim
    · obtain ⟨rfl, hx⟩ := r.str
      obtain ⟨v, rfl, r2⟩ := rs.one
      obtain ⟨a, vs, rfl, sa, za, la⟩ := r2.tup I
      split at q
      · rename_i ys hy
        rw [strsOf_eq hy] at la
        obtain ⟨rfl, ok⟩ := rep_strs la
        refine ⟨_, a, ys.map mkS, rfl, rfl, .inr sa, ?_, ?_⟩
        · rw [sums, List.length_map, mkS_len]; exact q.1
        · rw [join_mkS]
          exact q.2.str I (fin hx ok q.1)
      · exact q.elim
    · exact q.elim
end
end WL
set_option Elab.async false
set_option linter.all false
set_option autoImplicit false
set_option maxRecDepth 100000
namespace WL
open PySem PySem.Spec L2

section
variable {X : Cx} {β : Bx} {a e : Expr} {es : List Expr} {wa we wk : WE} {pos : Pos} {tg : Expr} {ws : WAs}

/-! ### what is walked -/
def wIt (we : WE) : WI := fun ρ P => we ρ fun r => match r.d with
  | .lst ds => P r.fz ds
  | .tup ds => P r.fz ds
  | .str x => P r.fz (x.map fun c => .str [c])
  | _ => False
theorem itOk_list {K : PySem.W.Frag} {F Hf H : Hp} {ρ : WEnv} {σ : L2.St} {r : R} {ds : List D} {p : Addr} (I : Rel K β F Hf ρ σ H) (h : RepA K β F ρ σ r (.ref p)) (hd : r.d = .lst ds) : ItOk K β r (.ref p) ds (Itl K p) := by
  refine ⟨?_, fun F' Hf' ρ' σ' H' i I' h' => ?_⟩
  · have g := h.rd I
    rw [hd] at g
    obtain ⟨_, _, _, _, z, _⟩ := g.lst I
    exact z
  · have g := h'.rd I'
    rw [hd] at g
    obtain ⟨q, vs, e, sq, z, rl⟩ := g.lst I'
    cases e
    refine ⟨fun d hi => ?_, fun hi => ⟨vs, .of sq, by rw [rl.length]; exact hi⟩⟩
    obtain ⟨v, e1, e2⟩ := rl.get hi
    refine ⟨⟨vs, v, .of sq, e1⟩, fun x H2 hy => ?_⟩
    obtain ⟨rfl, hy⟩ := hy
    have := hy vs (.of sq)
    rw [e1] at this; cases this
    exact ⟨F', Ex.refl F', I', e2⟩
theorem itOk_tup {K : PySem.W.Frag} {F Hf H : Hp} {ρ : WEnv} {σ : L2.St} {r : R} {ds : List D} {p : Addr} (I : Rel K β F Hf ρ σ H) (h : RepA K β F ρ σ r (.ref p)) (hd : r.d = .tup ds) (inj : ∀ F' Hf' ρ' σ' H' us vs, Rel K β F' Hf' ρ' σ' H' → SqT K H' p us → SqT K H' p vs → us = vs) : ItOk K β r (.ref p) ds (Itt K p) := by
  refine ⟨?_, fun F' Hf' ρ' σ' H' i I' h' => ?_⟩
  · have g := h.rd I
    rw [hd] at g
    obtain ⟨_, _, _, _, z, _⟩ := g.tup I
    exact z
  · have g := h'.rd I'
    rw [hd] at g
    obtain ⟨q, vs, e, sq, z, rl⟩ := g.tup I'
    cases e
    refine ⟨fun d hi => ?_, fun hi => ⟨vs, sq, by rw [rl.length]; exact hi⟩⟩
    obtain ⟨v, e1, e2⟩ := rl.get hi
    refine ⟨⟨vs, v, sq, e1⟩, fun x H2 hy => ?_⟩
    obtain ⟨rfl, hy⟩ := hy
    have := hy vs sq
    rw [e1] at this; cases this
    exact ⟨F', Ex.refl F', I', e2⟩
theorem itOk_tup' {K : PySem.W.Frag} {F Hf H : Hp} {ρ : WEnv} {σ : L2.St} {r : R} {ds : List D} {p : Addr} (I : Rel K β F Hf ρ σ H) (h : RepA K β F ρ σ r (.ref p)) (hd : r.d = .tup ds) : ItOk K β r (.ref p) ds (Itt K p) := by
  refine ⟨?_, fun F' Hf' ρ' σ' H' i I' h' => ?_⟩
  · have g := h.rd I
    rw [hd] at g
    obtain ⟨_, _, _, _, z, _⟩ := g.tup I
    exact z
  · have g := h'.rd I'
    rw [hd] at g
    obtain ⟨q, vs, e, sq, z, rl⟩ := g.tup I'
    cases e
    refine ⟨fun d hi => ?_, fun hi => ⟨vs, sq, by rw [rl.length]; exact hi⟩⟩
    obtain ⟨v, e1, e2⟩ := rl.get hi
    refine ⟨⟨vs, v, sq, e1⟩, fun x H2 hy => ?_⟩
    obtain ⟨rfl, hy⟩ := hy
    have := hy vs sq
    rw [e1] at this; cases this
    exact ⟨F', Ex.refl F', I', e2⟩
theorem itOk_str {K : PySem.W.Frag} {F Hf H : Hp} {ρ : WEnv} {σ : L2.St} {r : R} {x : List Nat} {v : V} (I : Rel K β F Hf ρ σ H) (h : RepA K β F ρ σ r v) (hd : r.d = .str x) : ItOk K β r v (x.map fun c => .str [c]) (Its (mkS x)) := by
  have g := h.rd I
  rw [hd] at g
  obtain ⟨_, ok⟩ := g.str
  have hz : (mkS x).cps.size = x.length := by simp [mkS]
  refine ⟨by rw [List.length_map]; exact ok.1, fun F' Hf' ρ' σ' H' i I' h' => ⟨fun d hi => ?_, fun hi => ?_⟩⟩
  · rw [List.getElem?_map] at hi
    cases hx : x[i]? with
    | none => rw [hx] at hi; cases hi
    | some c =>
      rw [hx] at hi; cases hi
      have hl := (List.getElem?_eq_some_iff.mp hx).1
      refine ⟨by show i < (mkS x).cps.size; rw [hz]; exact hl, fun y H2 hy => ?_⟩
      obtain ⟨rfl, c', h1, rfl⟩ := hy
      have : (mkS x).cps[i]? = some c := by
        show x.toArray[i]? = some c
        rw [List.getElem?_toArray]; exact hx
      rw [this] at h1; cases h1
      refine ⟨F', Ex.refl F', I', ?_⟩
      rw [Rep]
      refine ⟨rfl, by show 1 ≤ sizeLine; decide, fun z hz => ?_⟩
      rw [List.mem_singleton] at hz
      rw [hz]
      exact ok.2 c (List.mem_of_getElem? hx)
  · show (mkS x).cps.size ≤ i
    rw [hz]
    simpa using hi
theorem pi_val (h : PW X β e we) : PIW X β tg e (wIt we) := by
  refine ⟨fun ρ P P' k q => h.mono ρ _ _ (fun r q => ?_) q, ⟨fun pins s σ H Rr J q => ?_⟩⟩
  · split at q <;> first | exact k _ _ q | exact q
  · obtain ⟨F, Hf, ρ, I, q⟩ := q
    let Q : VK := fun v H1 => (∃ p, v = .ref p ∧ (∃ xs, SqL X.K H1 p xs) ∧ Rr (Itl X.K p) H1) ∨ (∃ p, v = .ref p ∧ (∃ xs, SqT X.K H1 p xs) ∧ Rr (Itt X.K p) H1) ∨ ∃ y, v = .str y ∧ Rr (Its y) H1
    have hw : tO X.K β we σ H Q := by
      refine ⟨F, Hf, ρ, I, h.mono ρ _ _ (fun r q F1 H1 v e1 I1 r1 => ?_) q⟩
      have g := r1.rd I1
      rw [fz_d] at g
      split at q
      · rename_i ds hd
        rw [hd] at g
        obtain ⟨p, vs, rfl, sq, z, rl⟩ := g.lst I1
        exact .inl ⟨p, rfl, ⟨vs, .of sq⟩, q F1 H1 _ _ e1 I1 r1 (itOk_list I1 r1 (by rw [fz_d]; exact hd))⟩
      · rename_i ds hd
        rw [hd] at g
        obtain ⟨p, vs, rfl, sq, z, rl⟩ := g.tup I1
        exact .inr (.inl ⟨p, rfl, ⟨vs, sq⟩, q F1 H1 _ _ e1 I1 r1 (itOk_tup' I1 r1 (by rw [fz_d]; exact hd))⟩)
      · rename_i x hx
        rw [hx] at g
        obtain ⟨rfl, ok⟩ := g.str
        exact .inr (.inr ⟨_, rfl, q F1 H1 _ _ e1 I1 r1 (itOk_str I1 r1 (by rw [fz_d]; exact hx))⟩)
      · exact q.elim
    refine thn (h.opnd.run pins s σ H Q J hw) fun v s1 ⟨x, H1, J1, rx, q1⟩ => ?_
    rcases q1 with ⟨p, rfl, ⟨xs, hq⟩, q1⟩ | ⟨p, rfl, ⟨xs, hq⟩, q1⟩ | ⟨y, rfl, q1⟩
    · cases rx
      obtain ⟨its, rv, pl, hz⟩ := J1.list hq
      exact wpAny_pyIter_list pl.isList (pi_one (tk := s1.toks) J1 _ (turn_list p _) ⟨_, Heap.get?_push_size _ rfl, rfl, rfl⟩ q1)
    · cases rx
      obtain ⟨its, rv, pl, hz⟩ := J1.tuple hq
      exact wpAny_pyIter_tuple (show s1.heap.IsTuple p its.toArray from pl) (pi_one (tk := s1.toks) J1 _ (turn_tuple p _) ⟨_, Heap.get?_push_size _ rfl, rfl, rfl⟩ q1)
    · obtain ⟨t, rfl⟩ := rx
      cases ha : y.cps.all (· < 128)
      · exact wpAny_pyIter_wide ha (pi_one (tk := s1.toks) J1 _ (turn_str _ y t _ (.inr rfl)) ⟨_, Heap.get?_push_size _ rfl, rfl, rfl⟩ q1)
      · exact wpAny_pyIter_ascii ha (pi_one (tk := s1.toks) J1 _ (turn_str _ y t _ (.inl rfl)) ⟨_, Heap.get?_push_size _ rfl, rfl, rfl⟩ q1)
/-- lo, lo + 1, .. -/
def rngL (lo : Int) (n : Nat) : List D := (List.range n).map fun (k : Nat) => D.int (lo + (k : Int))
theorem rep_non {K : PySem.W.Frag} {F : Hp} : Rep K β F .non .non := by rw [Rep]
theorem itOk_rng {K : PySem.W.Frag} (lo : Int) (n : Nat) (h : n ≤ 16777216) : ItOk K β (.val .non) .non (rngL lo n) (Itr lo n) := by
  refine ⟨by rw [rngL, List.length_map, List.length_range, sizeLine_eq]; exact h, fun F' Hf' ρ' σ' H' i I' h' => ⟨fun d hi => ?_, fun hi => ?_⟩⟩
  · rw [rngL, List.getElem?_map] at hi
    by_cases hn : i < n
    · rw [List.getElem?_range hn] at hi
      cases hi
      refine ⟨hn, fun x H2 hy => ?_⟩
      obtain ⟨rfl, rfl⟩ := hy
      exact ⟨F', Ex.refl F', I', by rw [Rep]⟩
    · rw [List.getElem?_eq_none (by rw [List.length_range]; omega)] at hi
      cases hi
  · show n ≤ i
    rw [rngL, List.length_map, List.length_range] at hi
    exact hi
/-- n is a number of turns -/
def rOk (n : Int) : Prop := -4611686018427387904 ≤ n ∧ n ≤ 16777216
def wRng1 (wa : WE) : WI := fun ρ P => wa ρ fun r => match r.d with
  | .int n => rOk n ∧ P (.val .non) (rngL 0 n.toNat)
  | _ => False
theorem pi_rng1 {p : Pos} (h : PW X β a wa) (hm : X.mg "range" = none) (hg : Gl X "range" := by rfl) (hs : starEach [a] X.env = (false, eval a X.env) :: starEach [] X.env := by rfl) : PIW X β tg (.Call (.Name "range" p) [a] [] pos) (wRng1 wa) := by
  refine ⟨fun ρ P P' k q => h.mono ρ _ _ (fun r q => ?_) q, ⟨fun pins s σ H Rr J q => (pi_range1 hg hm (pa_cons h.opnd pa_nil hs) hs).run pins s σ H Rr J ?_⟩⟩
  · split at q
    · exact ⟨q.1, k _ _ q.2⟩
    · exact q
  · obtain ⟨F, Hf, ρ, I, q⟩ := q
    refine ⟨F, Hf, ρ, I, h.mono ρ _ _ (fun r q F1 H1 v e1 I1 r1 => ?_) q⟩
    have g := r1.rd I1
    rw [fz_d] at g
    split at q
    · rename_i n hn
      rw [hn] at g
      obtain ⟨h1, h2⟩ := q.1
      refine ⟨n, by rw [g.int], by omega, by omega, ?_⟩
      exact q.2 F1 H1 .non _ e1 I1 (show Rep X.K β F1 .non .non by rw [Rep]) (itOk_rng 0 n.toNat (by omega))
    · exact q.elim
def wRng2 (wa wb : WE) : WI := fun ρ P => wa ρ fun r => wb ρ fun s => match r.d, s.d with
  | .int m, .int n => (rOk m ∧ rOk n ∧ n - m ≤ 16777216) ∧ P (.val .non) (rngL m (n - m).toNat)
  | _, _ => False
theorem pi_rng2 {p : Pos} {b : Expr} {wb : WE} (h : PW X β a wa) (h' : PW X β b wb) (hm : X.mg "range" = none) (hg : Gl X "range" := by rfl) (hs : starEach [a, b] X.env = (false, eval a X.env) :: starEach [b] X.env := by rfl) (hs2 : starEach [b] X.env = (false, eval b X.env) :: starEach [] X.env := by rfl) :
    PIW X β tg (.Call (.Name "range" p) [a, b] [] pos) (wRng2 wa wb) := by
  refine ⟨fun ρ P P' k q => h.mono ρ _ _ (fun r q => h'.mono ρ _ _ (fun s q => ?_) q) q, ⟨fun pins s σ H Rr J q => (pi_range2 hg hm (pa_cons h.opnd (pa_cons h'.opnd pa_nil hs2) hs) (by rw [hs, hs2]; rfl) (by rw [hs2]; rfl)).run pins s σ H Rr J ?_⟩⟩
  · split at q
    · exact ⟨q.1, k _ _ q.2⟩
    · exact q
  · obtain ⟨F, Hf, ρ, I, q⟩ := q
    refine ⟨F, Hf, ρ, I, h.mono ρ _ _ (fun r q F1 H1 v e1 I1 r1 => ?_) q⟩
    refine ⟨F1, Hf, ρ, I1, h'.mono ρ _ _ (fun t q F2 H2 v2 e2 I2 r2 => ?_) q⟩
    have g := (r1.mono e2).rd I2
    have g2 := r2.rd I2
    rw [fz_d] at g g2
    split at q
    · rename_i m n hm hn
      rw [hm] at g
      rw [hn] at g2
      obtain ⟨⟨h1, h2⟩, ⟨h3, h4⟩, h5⟩ := q.1
      refine ⟨m, n, by rw [g.int, g2.int], ⟨by omega, by omega, by omega, by omega⟩, ?_⟩
      exact q.2 F2 H2 .non _ (e1.trans e2) I2 (show Rep X.K β F2 .non .non by rw [Rep]) (itOk_rng m (n - m).toNat (by omega))
    · exact q.elim
/-- hi, hi - 1, .. -/
def rngD (hi : Int) (n : Nat) : List D := (List.range n).map fun (k : Nat) => D.int (hi - (k : Int))
def wRng3 (wa wb : WE) : WI := fun ρ P => wa ρ fun r => wb ρ fun s => match r.d, s.d with
  | .int m, .int n => (rOk m ∧ rOk n ∧ m - n ≤ 16777216) ∧ P (.val .non) (rngD m (m - n).toNat)
  | _, _ => False
theorem itOk_rngD {K : PySem.W.Frag} (hi : Int) (n : Nat) (h : n ≤ 16777216) : ItOk K β (.val .non) .non (rngD hi n) (Itc hi (-1) n) := by
  refine ⟨by rw [rngD, List.length_map, List.length_range, sizeLine_eq]; exact h, fun F' Hf' ρ' σ' H' i I' h' => ⟨fun d hd => ?_, fun hd => ?_⟩⟩
  · rw [rngD, List.getElem?_map] at hd
    by_cases hn : i < n
    · rw [List.getElem?_range hn] at hd
      cases hd
      refine ⟨hn, fun x H2 hy => ?_⟩
      obtain ⟨rfl, rfl⟩ := hy
      refine ⟨F', Ex.refl F', I', ?_⟩
      rw [Rep]
      congr 1
      omega
    · rw [List.getElem?_eq_none (by rw [List.length_range]; omega)] at hd
      cases hd
  · show n ≤ i
    rw [rngD, List.length_map, List.length_range] at hd
    exact hd
theorem pi_rng3 {p p1 p2 : Pos} {k : Nat} {b : Expr} {wb : WE} (h : PW X β a wa) (h' : PW X β b wb) (hm : X.mg "range" = none) (hg : Gl X "range" := by rfl) (hs : starEach [a, b, .UnaryOp .USub (.Constant (.int 1) k p1) p2] X.env = (false, eval a X.env) :: starEach [b, .UnaryOp .USub (.Constant (.int 1) k p1) p2] X.env := by rfl)
    (hs2 : starEach [b, .UnaryOp .USub (.Constant (.int 1) k p1) p2] X.env = (false, eval b X.env) :: starEach [.UnaryOp .USub (.Constant (.int 1) k p1) p2] X.env := by rfl) : PIW X β tg (.Call (.Name "range" p) [a, b, .UnaryOp .USub (.Constant (.int 1) k p1) p2] [] pos) (wRng3 wa wb) := by
  refine ⟨fun ρ P P' k q => h.mono ρ _ _ (fun r q => h'.mono ρ _ _ (fun s q => ?_) q) q, ⟨fun pins s σ H Rr J q => (pi_range3 hg hm (pa_cons h.opnd (pa_cons h'.opnd (pa_cons (pe_un un_neg pe_int) pa_nil) hs2) hs) hs (by rw [hs2]; rfl)).run pins s σ H Rr J ?_⟩⟩
  · split at q
    · exact ⟨q.1, k _ _ q.2⟩
    · exact q
  · obtain ⟨F, Hf, ρ, I, q⟩ := q
    refine ⟨F, Hf, ρ, I, h.mono ρ _ _ (fun r q F1 H1 v e1 I1 r1 => ?_) q⟩
    refine ⟨F1, Hf, ρ, I1, h'.mono ρ _ _ (fun t q F2 H2 v2 e2 I2 r2 => ?_) q⟩
    have g := (r1.mono e2).rd I2
    have g2 := r2.rd I2
    rw [fz_d] at g g2
    split at q
    · rename_i m n hm hn
      rw [hm] at g
      rw [hn] at g2
      obtain ⟨⟨h1, h2⟩, ⟨h3, h4⟩, h5⟩ := q.1
      refine ⟨1, rfl, m, n, -1, (m - n).toNat, by rw [g.int, g2.int], RgC.neg (by omega) (by omega) (by omega) (by omega), ?_⟩
      exact q.2 F2 H2 .non _ (e1.trans e2) I2 (show Rep X.K β F2 .non .non by rw [Rep]) (itOk_rngD m (m - n).toNat (by omega))
    · exact q.elim

/-! ### stores into a slot's own list -/
variable {i : Nat} {x : Str} {p1 apos cpos : Pos}
def wApp (i : Nat) (we : WE) : SW := fun E ρ => match ρ[i]? with
  | some (.own (.lst ds)) => we ρ fun r => match r.fz with
    | .val d => ds.length < 16777216 ∧ E.nx (ρ.set i (.own (.lst (ds ++ [d]))))
    | _ => False
  | _ => False
theorem ps_app (hx : PE X (.Name x p1) (tVar i)) (he : PW X β e we) (hbase : attributeBase (.Name x p1) "append" X.env (eval (.Name x p1) X.env) = eval (.Name x p1) X.env := by rfl)
    (hfew : ((backTo cpos (starEach [e] X.env)).all (fun x => !x.1) && (backToKw cpos (keywordEach [] X.env)).all (fun x => x.1.isSome)
      && decide (([e] : List Expr).length + ([] : List Keyword).length + (if ([] : List Keyword).isEmpty then 0 else 1) < 30)) = true := by rfl)
    (hline : (apos.endLine == cpos.line) = true := by rfl) (hst : starEach [e] X.env = (false, eval e X.env) :: starEach [] X.env := by rfl) (hplain : (backTo cpos (starEach [] X.env)).any (·.1) = false := by rfl)
    (hs : swapsWith (.Call (.Attribute (.Name x p1) "append" apos) [e] [] cpos) none pos.line X.env = pure false := by rfl) :
    PSW X β (.Expr (.Call (.Attribute (.Name x p1) "append" apos) [e] [] cpos) pos) (wApp i we) := by
  refine ⟨fun A B ρ l q => ?_, imp_S (L2.ps_expr (pe_bm PySem.F.plainAttrs_list PySem.F.slot_list_append PySem.F.type_list_append mt_append hx (pa_cons he.opnd pa_nil hst) hbase hfew hline hst hplain) hs) fun E σ H q => ?_⟩
  · unfold wApp at q ⊢
    split at q
    · refine he.mono ρ _ _ (fun r q => ?_) q
      split at q
      · exact ⟨q.1, l.nx _ q.2⟩
      · exact q
    · exact q
  · obtain ⟨F, Hf, ρ, WD, I, q, k⟩ := q
    unfold wApp at q
    split at q
    · rename_i ds hd
      obtain ⟨b, q1, q2, q3, q4, q5⟩ := I.own i _ hd
      obtain ⟨vs0, g0, _, _⟩ := q5
      refine ⟨.ref b, q1, .inl ⟨rfl, vs0, .of g0⟩, F, Hf, ρ, I, he.mono ρ _ _ (fun r q F1 H1 v e1 I1 r1 => ?_) q⟩
      split at q
      · rename_i d hr
        rw [hr] at r1
        obtain ⟨b', o1, o2, o3, o4, vs, g1, g2, g3⟩ := I1.own i _ hd
        rw [q1] at o1; cases o1
        refine ⟨b, vs, v, rfl, rfl, g1, by rw [g3.length, sizeLine_eq]; exact q.1, ?_⟩
        refine k.nx F1 _ σ _ e1 (I1.mutate (d' := .lst (ds ++ [d])) hd q1 ⟨_, upd_same, ?_, g3.append (RepL.cons r1 RepL.nil)⟩) q.2
        rw [List.length_append, sizeLine_eq, List.length_singleton]
        exact q.1
      · exact q.elim
    · exact q.elim
def wExt (i : Nat) (we : WE) : SW := fun E ρ => match ρ[i]? with
  | some (.own (.lst ds)) => we ρ fun r => match r.fz with
    | .val (.lst es) => ds.length + es.length ≤ 16777216 ∧ E.nx (ρ.set i (.own (.lst (ds ++ es))))
    | _ => False
  | _ => False
theorem ps_ext (hx : PE X (.Name x p1) (tVar i)) (he : PW X β e we) (hbase : attributeBase (.Name x p1) "extend" X.env (eval (.Name x p1) X.env) = eval (.Name x p1) X.env := by rfl)
    (hfew : ((backTo cpos (starEach [e] X.env)).all (fun x => !x.1) && (backToKw cpos (keywordEach [] X.env)).all (fun x => x.1.isSome)
      && decide (([e] : List Expr).length + ([] : List Keyword).length + (if ([] : List Keyword).isEmpty then 0 else 1) < 30)) = true := by rfl)
    (hline : (apos.endLine == cpos.line) = true := by rfl) (hst : starEach [e] X.env = (false, eval e X.env) :: starEach [] X.env := by rfl) (hplain : (backTo cpos (starEach [] X.env)).any (·.1) = false := by rfl)
    (hs : swapsWith (.Call (.Attribute (.Name x p1) "extend" apos) [e] [] cpos) none pos.line X.env = pure false := by rfl) :
    PSW X β (.Expr (.Call (.Attribute (.Name x p1) "extend" apos) [e] [] cpos) pos) (wExt i we) := by
  refine ⟨fun A B ρ l q => ?_, imp_S (L2.ps_expr (pe_bm PySem.F.plainAttrs_list PySem.F.slot_list_extend PySem.F.type_list_extend mt_extend hx (pa_cons he.opnd pa_nil hst) hbase hfew hline hst hplain) hs) fun E σ H q => ?_⟩
  · unfold wExt at q ⊢
    split at q
    · refine he.mono ρ _ _ (fun r q => ?_) q
      split at q
      · exact ⟨q.1, l.nx _ q.2⟩
      · exact q
    · exact q
  · obtain ⟨F, Hf, ρ, WD, I, q, k⟩ := q
    unfold wExt at q
    split at q
    · rename_i ds hd
      obtain ⟨b, q1, q2, q3, q4, q5⟩ := I.own i _ hd
      obtain ⟨vs0, g0, _, _⟩ := q5
      refine ⟨.ref b, q1, .inl ⟨rfl, vs0, .of g0⟩, F, Hf, ρ, I, he.mono ρ _ _ (fun r q F1 H1 v e1 I1 r1 => ?_) q⟩
      split at q
      · rename_i es hr
        rw [hr] at r1
        obtain ⟨b', o1, o2, o3, o4, vs, g1, g2, g3⟩ := I1.own i _ hd
        rw [q1] at o1; cases o1
        have r1 : Rep X.K β F1 (.lst es) v := r1
        rw [Rep] at r1
        obtain ⟨c, us, rfl, h1, h2, h3⟩ := r1
        refine ⟨b, c, vs, us, rfl, rfl, g1, I1.fex _ _ h1, by rw [g3.length, h3.length, sizeLine_eq]; exact q.1, ?_⟩
        refine k.nx F1 _ σ _ e1 (I1.mutate (d' := .lst (ds ++ es)) hd q1 ⟨_, upd_same, ?_, g3.append h3⟩) q.2
        rw [List.length_append, sizeLine_eq]
        exact q.1
      · exact q.elim
    · exact q.elim
def wSetI (i : Nat) (we wk : WE) : SW := fun E ρ => match ρ[i]? with
  | some (.own (.lst ds)) => we ρ fun r => wk ρ fun s => match r.fz, s.d with
    | .val d, .int j => match ixN ds.length j with
      | some n => E.nx (ρ.set i (.own (.lst (ds.set n d))))
      | none => False
    | _, _ => False
  | _ => False
theorem ps_setI {k : Expr} {tpos : Pos} (hx : PE X (.Name x p1) (tVar i)) (he : PW X β e we) (hk : PW X β k wk)
    (ha : ∀ v, assign (.Subscript (.Name x p1) k tpos) X.env v = (do
      let ov ← holding [v] (eval (.Name x p1) X.env)
      let iv ← holding [v, ov] (eval k X.env)
      standAt tpos
      holding [v, ov, iv] (setItem ov iv v)
      release [v, ov, iv] []) := by intro _; rfl)
    (hs : swapsWithSole [.Subscript (.Name x p1) k tpos] e pos.line X.env = pure false := by rfl) (hw : swappedStores [.Subscript (.Name x p1) k tpos] e X.env = pure none := by rfl)
    (h1 : (assignEach [.Subscript (.Name x p1) k tpos] X.env).map (·.2) = [assign (.Subscript (.Name x p1) k tpos) X.env] := by rfl) :
    PSW X β (.Assign [.Subscript (.Name x p1) k tpos] e pos) (wSetI i we wk) := by
  refine ⟨fun A B ρ l q => ?_, imp_S (L2.ps_asg he.opnd (pg_sub hx hk.opnd set_list ha) hs hw h1) fun E σ H q => ?_⟩
  · unfold wSetI at q ⊢
    split at q
    · refine he.mono ρ _ _ (fun r q => hk.mono ρ _ _ (fun s q => ?_) q) q
      split at q
      · split at q
        · exact l.nx _ q
        · exact q
      · exact q
    · exact q
  · obtain ⟨F, Hf, ρ, WD, I, q, kk⟩ := q
    unfold wSetI at q
    split at q
    · rename_i ds hd
      refine ⟨F, Hf, ρ, I, he.mono ρ _ _ (fun r q F1 H1 v e1 I1 r1 => ?_) q⟩
      obtain ⟨b, q1, q2, q3, q4, q5⟩ := I1.own i _ hd
      refine ⟨.ref b, q1, F1, Hf, ρ, I1, hk.mono ρ _ _ (fun s q F2 H2 w e2 I2 r2 => ?_) q⟩
      have g2 := r2.rd I2
      rw [fz_d] at g2
      split at q
      · rename_i d j hr hj
        rw [hr] at r1
        rw [hj] at g2
        split at q
        · rename_i n hn
          obtain ⟨b', o1, o2, o3, o4, vs, g1, gz, g3⟩ := I2.own i _ hd
          rw [q1] at o1; cases o1
          refine ⟨b, vs, j, n, rfl, g2.int, g1, by rw [g3.length]; exact hn, ?_⟩
          refine kk.nx F2 _ σ _ (e1.trans e2) (I2.mutate (d' := .lst (ds.set n d)) hd q1 ⟨_, upd_same, ?_, g3.set n (Rep.mono e2 r1)⟩) q
          rw [List.length_set]; exact gz
        · exact q.elim
      · exact q.elim
    · exact q.elim
/-- name op= e -/
def wAug (i : Nat) (o : OD) (we : WE) : SW := fun E ρ => match ρ[i]? with
  | some (.val d) => we ρ fun r => o d r.d fun t => match t.slot with
    | some s => E.nx (ρ.set i s)
    | none => False
  | _ => False
theorem ps_aug {op : Operator} {o : OD} {pos' : Pos} (hN : X.N.Nodup) (hi : X.N[i]? = some x) (hx : Loc X.env.scope x) (ho : OpD X β (inplaceOp op) o) (he : PW X β e we) (hf : X.fn x = true ∨ X.env.scope.names.lookup x = some .local := by first | exact .inl rfl | exact .inr rfl | assumption) :
    PSW X β (.AugAssign (.Name x pos') op e pos) (wAug i o we) := by
  obtain ⟨rr, hr, hq⟩ := ho.ex
  refine ⟨fun A B ρ l q => ?_, imp_S (L2.ps_aug hN hi hx he.opnd hr hf) fun E σ H q => ?_⟩
  · unfold wAug at q ⊢
    split at q
    · refine he.mono ρ _ _ (fun r q => ho.mono _ _ _ _ (fun t q => ?_) q) q
      split at q
      · exact l.nx _ q
      · exact q
    · exact q
  · obtain ⟨F, Hf, ρ, WD, I, q, k⟩ := q
    unfold wAug at q
    split at q
    · rename_i d hd
      obtain ⟨v, e1, r⟩ := I.val i d hd
      refine ⟨v, e1, F, Hf, ρ, I, he.mono ρ _ _ (fun s q F1 H1 y e2 I1 r1 => ?_) q⟩
      have g := r1.rd I1
      rw [fz_d] at g
      refine hq F1 Hf ρ σ H1 _ _ v y _ I1 (.inl (r.mono e2)) g (ho.mono _ _ _ _ (fun t q F2 H2 z e3 I2 r2 => ?_) q)
      split at q
      · rename_i sl hs
        exact k.nx F2 _ _ H2 (e2.trans e3) (I2.setR i r2 hs) q
      · exact q.elim
    · exact q.elim
end
end WL
set_option Elab.async false
set_option linter.all false
set_option autoImplicit false
set_option maxRecDepth 100000
namespace WL
open PySem PySem.Spec L2

/-! ### a def by its body -/
def startW (n : Nat) (ds : List D) : WEnv := ds.map Slot.val ++ List.replicate (n - ds.length) Slot.un
section
variable {P : Program} {w : World} {K : PySem.W.Frag} {mg : Str → Option Value} {base : Heap} {β : Bx}
open Classical in
theorem rel_start {F H : Hp} {ds : List D} {vs : List V} {N : List Str} (e1 : Ex F H) (bf : ∀ a, β.foot a → F a = none) (bi : β.inv H) (rl : RepL K β F ds vs) :
    Rel K β F (fun a => if F a = none ∧ ¬ β.foot a then H a else none) (startW N.length ds) (L2.start N vs) H := by
  have hl := rl.length
  have nov : ∀ (i : Nat) d, (startW N.length ds)[i]? ≠ some (Slot.own d) := fun i d h => by
    unfold startW at h
    rw [List.getElem?_append] at h
    split at h
    · rw [List.getElem?_map] at h
      cases hx : ds[i]? with
      | none => rw [hx] at h; cases h
      | some y => rw [hx] at h; cases h
    · rw [List.getElem?_replicate] at h
      split at h <;> cases h
  refine ⟨e1, fun a o h => ?_, bi, fun a ha => ⟨bf a ha, ?_⟩, ?_, fun i d h => ?_, fun i d h => absurd h (nov i d), fun i j di dj a h => absurd h (nov i di)⟩
  · split at h
    · rename_i hc; exact ⟨h, hc.1⟩
    · cases h
  · rw [if_neg fun z => z.2 ha]
  · unfold startW L2.start
    simp [hl]
  · unfold startW at h
    unfold L2.start
    rw [List.getElem?_append] at h ⊢
    rw [List.length_map] at h ⊢
    rw [hl]
    split at h
    · rename_i hi
      rw [if_pos hi]
      rw [List.getElem?_map] at h ⊢
      cases hx : ds[i]? with
      | none => rw [hx] at h; cases h
      | some y =>
        rw [hx] at h; cases h
        obtain ⟨v, q1, q2⟩ := rl.get hx
        exact ⟨v, by rw [q1]; rfl, q2⟩
    · rw [List.getElem?_replicate] at h
      split at h <;> cases h
open Classical in
theorem fnW_of {x qual : Str} {st : Stmt} {f : Addr} {fd : FuncData} {N ps : List Str} {k : Nat} {g : Sx} {wb : SW} (Fu : Fun K x qual st f fd) (S : FnScope N ps (defScope st))
    (hb : ∀ (cdv : Value) (A : Around) (outer : List PySem.Env) (s : Shared) (H : Hp) (E : XK), Room k (A.deeper (PyProof.Rows.envOfC qual (defScope st) s.heap.objs.size f cdv)) → PBW (cxOf CX0 P w K mg base N qual (defScope st) f cdv A outer s H E).nox β (defBody st) wb)
    (hs : ∀ ds R, ds.length = ps.length → g.f ds R → wb { nx := fun _ => R .non, rt := R } (startW N.length ds)) : FnW P w K mg base β (k + 1) f fd ps g := by
  refine Fu.ok S (fun vs H Q E h => ?_) (fun cdv A outer s H vs Q E hr h => ⟨_, (hb cdv A outer s H E hr).run, ?_⟩)
  · obtain ⟨F, ds, _, _, _, rl, hl, _⟩ := h
    rw [rl.length, hl]
  · obtain ⟨F, ds, e1, bf, bi, rl, hl, q⟩ := h
    have I := rel_start (N := N) e1 bf bi rl
    refine ⟨F, _, _, _, I, hs ds _ hl q, ?_⟩
    have fin : ∀ F' ρ σ H' d v, Ex F F' → Rel K β F' (fun a => if F a = none ∧ ¬ β.foot a then H a else none) ρ σ H' → Rep K β F' d v →
        (∀ F' H' v, Ex F F' → Ex F' H' → FNew F F' H → ExB β H H' → β.inv H' → (∀ a, β.foot a → F' a = none) → Rep K β F' d v → Q v H') → Q v H' := fun F' ρ σ H' d v e I' r q => by
      refine q F' H' v e I'.fex (fun a o h => ?_) (fun a o nf h => ?_) I'.bx (fun a ha => (I'.bxF a ha).1) r
      · cases hF : F a with
        | some o' => rw [e a o' hF] at h; cases h; exact .inl rfl
        | none =>
          right
          cases hH : H a with
          | none => rfl
          | some o' =>
            exfalso
            by_cases nf : β.foot a
            · rw [(I'.bxF a nf).1] at h; cases h
            · have := (I'.hex a o' (by show (if F a = none ∧ ¬ β.foot a then H a else none) = some o'; rw [if_pos ⟨hF, nf⟩]; exact hH)).2
              rw [h] at this; cases this
      · cases hF : F a with
        | some o' =>
          have := e1 a o' hF
          rw [h] at this; cases this
          exact I'.fex a _ (e a _ hF)
        | none => exact (I'.hex a o (by show (if F a = none ∧ ¬ β.foot a then H a else none) = some o; rw [if_pos ⟨hF, nf⟩]; exact h)).1
    refine ⟨fun F' ρ σ H' e I' h => ?_, fun F' ρ σ H' d v e I' r h => fin F' ρ σ H' d v e I' r h, fun _ _ _ _ _ _ h => h.elim, fun _ _ _ _ _ _ h => h.elim⟩
    exact fin F' ρ σ H' .non .non e I' (by rw [Rep]) h
end

section
variable {X : Cx} {β : Bx} {a e : Expr} {wa we : WE} {pos : Pos}
/-- a text of the module -/
theorem pw_gstr {x : Str} {z : Str} {t : Tok} {l : List Nat} (hm : X.mg x = some (.str z t)) (h : z.cps.toList = l) (ok : okS l) (hg : Gl X x := by rfl) (hd : (x == ("__debug__" : Str)) = false := by decide) : PW X β (.Name x pos) (wC (.str l)) :=
  pw_c (pe_glob (v := .str z) hg hm ⟨t, rfl⟩ hd) fun F => by
    rw [Rep]
    exact ⟨by rw [← h], ok⟩
theorem pw_gint {x : Str} {i : Int} {t : Tok} (hm : X.mg x = some (.int i t)) (hg : Gl X x := by rfl) (hd : (x == ("__debug__" : Str)) = false := by decide) : PW X β (.Name x pos) (wC (.int i)) :=
  pw_c (pe_glob (v := .int i) hg hm ⟨t, rfl⟩ hd) fun F => by rw [Rep]

/-! xs.index(y), whole numbers -/
def fstIx (n : Int) : List Int → Nat → Option Nat
  | [], _ => none
  | m :: ms, i => if m = n then some i else fstIx n ms (i + 1)
theorem fstIx_some : ∀ {ms : List Int} {n : Int} {i j : Nat}, fstIx n ms i = some j → i ≤ j ∧ ms[j - i]? = some n ∧ ∀ k, k < j - i → ms[k]? ≠ some n
  | [], _, _, _, h => by cases h
  | m :: ms, n, i, j, h => by
    rw [fstIx] at h
    split at h
    · rename_i e
      cases h
      exact ⟨Nat.le_refl _, by rw [Nat.sub_self, e]; rfl, fun k hk => by omega⟩
    · rename_i e
      obtain ⟨h1, h2, h3⟩ := fstIx_some h
      have e2 : j - i = (j - (i + 1)) + 1 := by omega
      refine ⟨by omega, by rw [e2]; exact h2, fun k hk => ?_⟩
      cases k with
      | zero => intro z; exact e (Option.some.inj z)
      | succ k => exact h3 k (by omega)
def oIndex : MD := fun d ds P => match d, ds with
  | .lst xs, [.int n] => match intsOf xs with
    | some ns => match fstIx n ns 0 with
      | some j => P (.val (.int j))
      | none => False
    | none => False
  | _, _ => False
theorem m_index : MeD X β "list.index" oIndex := by
  refine ⟨fun d ds P P' k q => ?_, _, mt_index, fun F Hf ρ σ H d ds x xs Q I r rs q => ?_⟩
  · unfold oIndex at q ⊢
    split at q
    · split at q
      · split at q
        · exact k _ q
        · exact q
      · exact q
    · exact q
  · unfold oIndex at q
    split at q
    · obtain ⟨a, vs, rfl, sa, za, la⟩ := r.lst I
      obtain ⟨v, rfl, r2⟩ := rs.one
      split at q
      · rename_i n _ ns hn
        rw [intsOf_eq hn] at la
        have := rep_ints la
        subst this
        split at q
        · rename_i j hj
          obtain ⟨h1, h2, h3⟩ := fstIx_some hj
          rw [Nat.sub_zero] at h2 h3
          refine ⟨a, _, .int n, j, .int n, rfl, by rw [r2.int], .of sa, rfl, ?_, ?_, ?_, fun m z hm hz => ?_, q.int I⟩
          · rw [List.all_eq_true]
            intro y hy
            obtain ⟨i, _, rfl⟩ := List.mem_map.mp hy
            rfl
          · rw [List.getElem?_map, h2]; rfl
          · show (n == n) = true
            simp
          · rw [List.getElem?_map] at hz
            cases hx : ns[m]? with
            | none => rw [hx] at hz; cases hz
            | some i =>
              rw [hx] at hz; cases hz
              show (i == n) = false
              rw [beq_eq_false_iff_ne]
              intro e
              exact h3 m hm (by rw [hx, e])
        · exact q.elim
      · exact q.elim
    · exact q.elim

/-! s[::-1] -/
def wRev (we : WE) : WE := fun ρ P => we ρ fun r => match r.d with
  | .str x => P (.val (.str x.reverse))
  | .lst x => P (.own (.lst x.reverse))
  | _ => False
theorem rev_str (x : List Nat) (u : Tok) : Txt.sliceBy (mkS x) none none (-1, u) = mkS x.reverse := by
  apply TL.ext_tl
  show (Txt.sliceBy (mkS x) none none (-1, u)).cps.toList = x.reverse
  rw [PyProof.Rows.step_rev_list, mkS_len]
  apply List.ext_getElem?
  intro i
  rw [List.getElem?_map]
  by_cases hi : i < x.length
  · rw [List.getElem?_range hi, List.getElem?_reverse hi]
    show some ((mkS x).cps.getD (x.length - 1 - i) 0) = x[x.length - 1 - i]?
    have h2 : x.length - 1 - i < x.length := by omega
    rw [List.getElem?_eq_getElem h2]
    show some (x.toArray.getD (x.length - 1 - i) 0) = _
    rw [Array.getD_eq_getD_getElem?, List.getElem?_toArray, List.getElem?_eq_getElem h2]
    rfl
  · rw [List.getElem?_eq_none (by rw [List.length_range]; omega), List.getElem?_eq_none (by rw [List.length_reverse]; omega)]
    rfl
theorem pw_rev {k : Nat} {p1 p2 p3 : Pos} (he : PW X β e we) : PW X β (.Subscript e (.Slice none none (some (.UnaryOp .USub (.Constant (.int 1) k p1) p2)) p3) pos) (wRev we) := by
  refine ⟨fun ρ P P' k q => he.mono ρ _ _ (fun r q => ?_) q, ⟨fun pins s σ H Q J h => ?_⟩⟩
  · split at q <;> first | exact k _ q | exact q
  · obtain ⟨F, Hf, ρ, I, q⟩ := h
    let Q1 : VK := fun v H1 => (∃ x, v = .str (mkS x) ∧ okS x ∧ Q (.str (mkS x.reverse)) H1) ∨ ∃ p xs, v = .ref p ∧ H1 p = some (.lst xs) ∧ ∀ l, H1 l = none → Q (.ref l) (upd H1 l (.lst xs.reverse))
    have hw : tO X.K β we σ H Q1 := by
      refine ⟨F, Hf, ρ, I, he.mono ρ _ _ (fun r q F1 H1 v e1 I1 r1 => ?_) q⟩
      have g := r1.rd I1
      rw [fz_d] at g
      split at q
      · rename_i x hx
        rw [hx] at g
        obtain ⟨rfl, ok⟩ := g.str
        refine .inl ⟨x, rfl, ok, q F1 H1 _ e1 I1 (show Rep X.K β F1 (.str x.reverse) _ from ?_)⟩
        rw [Rep]
        exact ⟨rfl, by rw [List.length_reverse]; exact ok.1, fun c hc => ok.2 c (List.mem_reverse.mp hc)⟩
      · rename_i ds hd
        rw [hd] at g
        obtain ⟨p, vs, rfl, sq, z, rl⟩ := g.lst I1
        refine .inr ⟨p, vs, rfl, sq, fun l hl => ?_⟩
        have rr : ∀ {ds : List D} {vs : List V}, RepL X.K β F1 ds vs → RepL X.K β F1 ds.reverse vs.reverse := by
          intro ds
          induction ds with
          | nil => intro vs h; rw [RepL] at h; subst h; exact RepL.nil
          | cons d ds ih =>
            intro vs h
            rw [RepL] at h
            obtain ⟨v, ws, rfl, h1, h2⟩ := h
            rw [List.reverse_cons, List.reverse_cons]
            exact (ih h2).append (RepL.cons h1 RepL.nil)
        obtain ⟨I2, r2⟩ := I1.newL hl (by rw [List.length_reverse]; exact z) (rr rl)
        exact q F1 _ _ e1 I2 r2
      · exact q.elim
    refine PyProof.Rows.Subscript_ (thn (he.opnd.run pins s σ H _ J hw) fun v s1 ⟨x, H1, J1, rx, q1⟩ => ?_)
    have hst : PO X (some (.UnaryOp .USub (.Constant (.int 1) k p1) p2)) (tPart (tUn (rU fun i => .int (-i)) (tC (.int 1)))) := po_some (pe_un un_neg pe_int)
    refine wpAny_Slice (thn (po_none.run pins s1 σ H1 (fun o H2 => o = none ∧ H2 = H1) J1 ⟨rfl, rfl⟩) fun vl s2 ⟨l, H2, J2, pl, el, e2⟩ => ?_)
    subst el e2
    refine thn (po_none.run pins s2 σ H2 (fun o H3 => o = none ∧ H3 = H2) J2 ⟨rfl, rfl⟩) fun vu s3 ⟨u, H3, J3, pu, eu, e3⟩ => ?_
    subst eu e3
    refine thn (hst.run pins s3 σ H3 (fun o H4 => o = some (-1) ∧ H4 = H3) J3 ⟨1, rfl, -1, rfl, rfl, rfl⟩) fun vs s4 ⟨o, H4, J4, ps, eo, e4⟩ => ?_
    subst eo e4
    have J5 : Inv X pins σ H4 { s4 with heap := s4.heap.push { cls := .type "slice", data := .fields #[vl, vu, vs] } } := J4.kept (t' := s4.toks) fun b ob q => Heap.get?_push_of_some _ q
    rcases q1 with ⟨y, rfl, ok, q1⟩ | ⟨p, xs, rfl, hp, q1⟩
    · obtain ⟨t, rfl⟩ := rx
      cases pl
      cases pu
      cases ps with
      | int _ tk =>
        refine PyProof.Rows.tail_any (ops := [.str (mkS y) t, .ref s4.heap.objs.size]) (typeIs_str _ _ _) PySem.F.slot_str_getitem.lookup ?_ (by with_unfolding_all rfl)
        refine wpAny_getItem_str_slice (l := none) (u := none) (st := some (-1, tk)) ⟨_, Heap.get?_push_size _ rfl, rfl, rfl⟩ rfl ?_
        have e5 := rev_str y tk
        have hm : (sliceMade (mkS y) t none none (some (-1, tk))) = .str (mkS y.reverse) := by
          rw [← e5]
          rfl
        rw [hm]
        exact ⟨by rw [mkS_len, List.length_reverse]; exact ok.1, .str _, H4, J5.tok _, ⟨_, rfl⟩, q1⟩
    · cases rx
      obtain ⟨its, r, ht, hz⟩ := J5.list (SqL.of hp)
      refine PyProof.Rows.tail_any (ops := [.ref p, .ref s4.heap.objs.size]) ht.isList.typeIs (PySem.slot_list_getitem.lookup) ?_ (by with_unfolding_all rfl)
      refine wpAny_getItem_list_slice ht.isList (Heap.IsSliceOf.new _ vl vu vs) pl pu ps (by decide) ?_ (by rw [List.size_toArray, ← r.length]; exact hz)
      rw [PySem.W.krv_pick]
      refine ⟨.ref _, _, J5.laid (t' := s4.toks) (o := .lst xs.reverse) (fun b ob q => Heap.get?_push_of_some _ q) (Nat.le_refl _) ?_, rfl, q1 _ (J5.hok.fresh (Nat.le_refl _))⟩
      exact ⟨by rw [List.length_reverse]; exact hz, _, 0, r.reverse, Heap.get?_push_size _ rfl⟩
end
end WL
set_option Elab.async false
set_option linter.all false
set_option autoImplicit false
set_option maxRecDepth 100000
namespace WL
open PySem PySem.Spec L2

theorem okS_dec {l : List Nat} (h : (l.all (fun c => decide (c < 128)) && decide (l.length ≤ 1000)) = true) : okS l := by
  rw [Bool.and_eq_true, List.all_eq_true] at h
  refine ⟨Nat.le_trans (of_decide_eq_true h.2) (by decide), fun c hc => of_decide_eq_true (h.1 c hc)⟩
/-- a def of the text that keeps its promise -/
def Cal (P : Program) (w : World) (K : PySem.W.Frag) (mg : Str → Option Value) (base : Heap) (C : Bx → Prop) (x : Str) (k : Nat) (ps : List Str) (s : Sx) : Prop :=
  ∃ f fd, mg x = some (.ref f) ∧ PySem.W.keepIn K (.ref f) = true ∧ Binds K fd ps [] ∧ ∀ β, C β → FnW P w K mg base β k f fd ps s
abbrev AnyB : Bx → Prop := fun _ => True
section
variable {X : Cx} {β : Bx} {C : Bx → Prop} {k : Nat} {ps : List Str} {g : Sx} {x : Str} {p pos : Pos} {e : Expr} {es : List Expr} {ws : WAs}
theorem pw_callC (c : Cal X.prog X.w X.K X.mg X.base C x k ps g) (hβ : C β) (hr : Room k X.A) (hs : PWL X β (e :: es) ws) (hg : Gl X x := by rfl) (hdb : (x == ("__debug__" : Str)) = false := by decide)
    (he : starEach (e :: es) X.env = (false, eval e X.env) :: starEach es X.env := by rfl) (hpl : (backTo pos (starEach es X.env)).any (·.1) = false := by rfl) : PW X β (.Call (.Name x p) (e :: es) [] pos) (wCall g ps.length ws) := by
  obtain ⟨f, fd, hm, hk, hb, F⟩ := c
  exact pw_call (F β hβ) hr hg hm hk hb hs hdb he hpl
theorem pw_callC0 (c : Cal X.prog X.w X.K X.mg X.base C x k ps g) (hβ : C β) (hr : Room k X.A) (hg : Gl X x := by rfl) (hdb : (x == ("__debug__" : Str)) = false := by decide) : PW X β (.Call (.Name x p) [] [] pos) (wCall g ps.length wNil) := by
  obtain ⟨f, fd, hm, hk, hb, F⟩ := c
  exact pw_call0 (F β hβ) hr hg hm hk hb hdb
end
section
variable {P : Program} {w : World} {K : PySem.W.Frag} {mg : Str → Option Value} {base : Heap}
theorem cal_of {x qual : Str} {st : Stmt} {f : Addr} {fd : FuncData} {N ps : List Str} {k : Nat} {g : Sx} {wb : SW} {C : Bx → Prop} (Fu : Fun K x qual st f fd) (hm : mg x = some (.ref f)) (S : FnScope N ps (defScope st))
    (hbi : ∀ (kV doc pm : Value) (an : Option Addr) (cdv ct : Value) (us : List Value), us.length = ps.length → bindArgs (PySem.W.fnOf x qual (defArgs st) (defBody st) (defScope st) .none kV doc pm an cdv ct) ⟨us, []⟩ = pure (ps.zip us))
    (hb : ∀ β, C β → ∀ (cdv : Value) (A : Around) (outer : List PySem.Env) (s : Shared) (H : Hp) (E : XK), Room k (A.deeper (PyProof.Rows.envOfC qual (defScope st) s.heap.objs.size f cdv)) → PBW (cxOf CX0 P w K mg base N qual (defScope st) f cdv A outer s H E).nox β (defBody st) wb)
    (hs : ∀ ds R, ds.length = ps.length → g.f ds R → wb { nx := fun _ => R .non, rt := R } (startW N.length ds)) : Cal P w K mg base C x (k + 1) ps g :=
  ⟨f, fd, hm, Fu.kp, Fu.binds hbi, fun β hβ => fnW_of Fu S (hb β hβ) hs⟩
theorem Cal.mono {C C' : Bx → Prop} {x : Str} {k k' : Nat} {ps : List Str} {g : Sx} (c : Cal P w K mg base C x k ps g) (h : k ≤ k') (hC : ∀ β, C' β → C β) : Cal P w K mg base C' x k' ps g := by
  obtain ⟨f, fd, h1, h2, h3, h4⟩ := c
  exact ⟨f, fd, h1, h2, h3, fun β hβ => (h4 β (hC β hβ)).mono h⟩
end

/-! ### the box of the laws that draw: cells, what is left of a number, the last number -/
def boxB (b c : Addr) : Bx where
  at_ := b
  foot := fun a => a = b ∨ a = c
  inv := fun H => ∃ (ns : List Int) (x y : Int), H b = some (.lst [.ref c, .int x, .int y]) ∧ H c = some (.lst (ns.map V.int)) ∧ 0 ≤ x ∧ 0 ≤ y ∧ b ≠ c
  loc := fun H H' h ⟨ns, x, y, h1, h2, h3⟩ => ⟨ns, x, y, by rw [h b (.inl rfl)]; exact h1, by rw [h c (.inr rfl)]; exact h2, h3⟩
  there := fun H ⟨ns, x, y, h1, h2, h3⟩ a ha z => by
    rcases ha with rfl | rfl
    · rw [h1] at z; cases z
    · rw [h2] at z; cases z
def IsBox (β : Bx) : Prop := ∃ b c, β = boxB b c
/-- what the raw promises of the box's own defs say -/
def keepB (b c : Addr) (H H' : Hp) : Prop := ∀ a o, a ≠ b → a ≠ c → H a = some o → H' a = some o
def spBox (K : PySem.W.Frag) : Sp := fun vs H Q _ => ∃ (a : Addr) (ns : List Int), vs = [.ref a] ∧ SqL K H a (ns.map V.int) ∧
  ∀ H' b c, Same H H' → H b = none → H c = none → (boxB b c).inv H' → Q (.ref b) H'
def spLoad : Sp := fun vs H Q _ => ∃ b c, vs = [.ref b] ∧ (boxB b c).inv H ∧ ∀ H' i, keepB b c H H' → (boxB b c).inv H' → 0 ≤ i → Q (.int i) H'
def spDraw : Sp := fun vs H Q _ => ∃ b c n, vs = [.ref b, .int n] ∧ 0 < n ∧ n < 1073741824 ∧ (boxB b c).inv H ∧ ∀ H' i, keepB b c H H' → (boxB b c).inv H' → 0 ≤ i → i < n → Q (.int i) H'
/-- a draw, over values -/
def sDraw : Sx := .rel (fun ds => ∃ n : Int, ds = [.box, .int n] ∧ 0 < n ∧ n < 1073741824) (fun ds d => ∃ n i : Int, ds = [.box, .int n] ∧ 0 ≤ i ∧ i < n ∧ d = .int i)
section
variable {P : Program} {w : World} {K : PySem.W.Frag} {mg : Str → Option Value} {base : Heap}
theorem cal_draw {k : Nat} {f : Addr} {fd : FuncData} {x : Str} (hm : mg x = some (.ref f)) (hk : PySem.W.keepIn K (.ref f) = true) (hb : Binds K fd ["box", "many"] []) (G : FnOk P w K mg base CX0 k f fd ["box", "many"] spDraw) : Cal P w K mg base IsBox x k ["box", "many"] sDraw := by
  refine ⟨f, fd, hm, hk, hb, fun β hβ => ?_⟩
  obtain ⟨b, c, rfl⟩ := hβ
  refine G.imp fun vs H Q E h => ?_
  obtain ⟨F, ds, e1, bf, bi, rl, hl, ⟨n, rfl, h0, h1⟩, q⟩ := h
  rw [RepL] at rl
  obtain ⟨v, ws, rfl, r1, rl⟩ := rl
  rw [RepL] at rl
  obtain ⟨u, ws, rfl, r2, rl⟩ := rl
  rw [RepL] at rl
  subst rl
  rw [Rep] at r1
  rw [Rep] at r2
  subst r1 r2
  refine ⟨b, c, n, rfl, h0, h1, bi, fun H' i kb bi' i0 i1 => ?_⟩
  refine q (.int i) ⟨n, i, rfl, i0, i1, rfl⟩ F H' _ (Ex.refl F) (fun a o h => ?_) (fun a o h => .inl h) (fun a o nf h => kb a o (fun z => nf (.inl z)) (fun z => nf (.inr z)) h) bi' bf (by rw [Rep])
  refine kb a o (fun z => ?_) (fun z => ?_) (e1 a o h)
  · rw [bf a (.inl z)] at h; cases h
  · rw [bf a (.inr z)] at h; cases h
end

theorem pb_as {X : Cx} {β : Bx} {st : List Stmt} {w w' : SW} (h : PBW X β st w) (e : w = w') : PBW X β st w' := e ▸ h
/-! ### the law's own body: the box is made, the rest draws from it -/
def spLaw (K : PySem.W.Frag) : Sp := fun vs H Q _ => ∃ (a : Addr) (ns : List Int), vs = [.ref a] ∧ SqL K H a (ns.map V.int) ∧ ns.length ≤ 63 ∧ ∀ H', Q (.bl true) H'
def tSx (K : PySem.W.Frag) (C : Bx → Prop) (w : SW) : TS := fun E σ H => ∃ β, C β ∧ tS K β w E σ H
theorem pss_x {X : Cx} {C : Bx → Prop} {st : List Stmt} {w : SW} (h : ∀ β, C β → PBW X β st w) : PSs X st (tSx X.K C w) := ⟨fun pins s σ H E I ⟨β, hβ, q⟩ => (h β hβ).run.run pins s σ H E I q⟩
open Classical in
theorem box_go {K : PySem.W.Frag} {σ : L2.St} {H : Hp} {Q : VK} {E0 : XK} {w : SW} {a : Addr} {ns : List Int} {n : Nat} (hσ : σ.length = n) (h1 : 1 < n) (ha : SqL K H a (ns.map V.int)) (hq : ∀ H', Q (.bl true) H')
    (hw : w { nx := fun _ => False, rt := fun d => d = .bl true } ((List.replicate n Slot.un).set 1 (.val .box))) :
    spBox K [.ref a] H (fun v H1 => tSx K IsBox w { nx := fun _ H' => Q .non H', rt := Q } (σ.set 1 (some v)) H1) E0 := by
  refine ⟨a, ns, rfl, ha, fun H' b c sm hb hc inv => ?_⟩
  refine ⟨boxB b c, ⟨b, c, rfl⟩, (fun _ => none : Hp), (fun _ => none : Hp), _, _, ?_, hw, EndsOk.mk (fun _ _ _ _ _ _ h => h.elim) (fun F' ρ σ' H'' d v _ _ r h => ?_) (fun _ _ _ _ _ _ h => h.elim) (fun _ _ _ _ _ _ h => h.elim)⟩
  · refine ⟨fun _ _ h => (nomatch h), fun _ _ h => (nomatch h), inv, fun _ _ => ⟨rfl, rfl⟩, ?_, fun i d h => ?_, fun i d h => ?_, fun i j di dj _ h => ?_⟩
    · rw [List.length_set, List.length_set, List.length_replicate, hσ]
    · rcases set_get h with ⟨rfl, e, hl⟩ | ⟨ne, h⟩
      · cases e
        exact ⟨.ref b, List.getElem?_set_self (by rw [hσ]; exact h1), by rw [Rep]; rfl⟩
      · rw [List.getElem?_replicate] at h
        split at h <;> cases h
    · rcases set_get h with ⟨rfl, e, hl⟩ | ⟨ne, h⟩
      · cases e
      · rw [List.getElem?_replicate] at h
        split at h <;> cases h
    · rcases set_get h with ⟨rfl, e, hl⟩ | ⟨ne, h⟩
      · cases e
      · rw [List.getElem?_replicate] at h
        split at h <;> cases h
  · cases h
    rw [Rep] at r
    subst r
    exact hq H''
end WL
set_option Elab.async false
set_option linter.all false
set_option autoImplicit false
set_option maxRecDepth 100000
namespace WL
open PySem PySem.Spec L2
section
variable {X : Cx} {β : Bx}
/-! ### max, min of a tuple of whole numbers -/
theorem dpAll_ints {K : PySem.W.Frag} {H : Hp} : ∀ ns : List Int, DpAll K H (ns.map V.int) (ns.map PyData.int)
  | [] => .nil
  | n :: ns => .cons (.int n) (dpAll_ints ns)
theorem depth_ints : ∀ ns : List Int, PyData.depthAll (ns.map PyData.int) = 0
  | [] => rfl
  | n :: ns => by rw [List.map_cons, PyData.depthAll, depth_ints ns]; rfl
theorem alike_ints (ns : List Int) : PySem.W.AlikeAll (ns.map PyData.int) := by
  refine ⟨fun x hx y hy => ?_, fun x hx e => ?_⟩
  · obtain ⟨i, _, rfl⟩ := List.mem_map.mp hx
    obtain ⟨j, _, rfl⟩ := List.mem_map.mp hy
    rfl
  · obtain ⟨i, _, rfl⟩ := List.mem_map.mp hx
    cases e
theorem cr_maxT (hc : X.calm = true) (hu : X.A.units + 64 < cLine) : CallR X (.builtin "max") (fun vs H Q => ∃ (a : Addr) (n : Int) (ns : List Int), vs = [V.ref a] ∧ SqT X.K H a ((n :: ns).map V.int) ∧ Q (.int (ns.foldl max n)) H) := by
  intro pins s σ H vs us Q I r h
  obtain ⟨a, n, ns, rfl, hs, q⟩ := h
  obtain ⟨its, rv, pl, hz⟩ := I.tuple hs
  rw [Vals.ref1 r]
  obtain ⟨as, hr⟩ := Dp.readsAll I ((n :: ns).map PyData.int) ((n :: ns).map V.int) its (dpAll_ints (n :: ns)) rv
  refine PySem.W.max_tuple_data (vs := its.toArray) (x := .int n) (xs := ns.map PyData.int) (I.ok.hd hc) pl hr (alike_ints (n :: ns)) (by have := depth_ints (n :: ns); rw [List.map_cons] at this; rw [this]; omega) fun i v h' tk bs _ hv k => ?_
  rw [PySem.W.maxD_ints] at hv
  cases hv
  exact ⟨.int _, H, I.kept k, ⟨_, rfl⟩, q⟩
theorem cr_minT (hc : X.calm = true) (hu : X.A.units + 64 < cLine) : CallR X (.builtin "min") (fun vs H Q => ∃ (a : Addr) (n : Int) (ns : List Int), vs = [V.ref a] ∧ SqT X.K H a ((n :: ns).map V.int) ∧ Q (.int (ns.foldl min n)) H) := by
  intro pins s σ H vs us Q I r h
  obtain ⟨a, n, ns, rfl, hs, q⟩ := h
  obtain ⟨its, rv, pl, hz⟩ := I.tuple hs
  rw [Vals.ref1 r]
  obtain ⟨as, hr⟩ := Dp.readsAll I ((n :: ns).map PyData.int) ((n :: ns).map V.int) its (dpAll_ints (n :: ns)) rv
  refine PySem.W.min_tuple_data (vs := its.toArray) (x := .int n) (xs := ns.map PyData.int) (I.ok.hd hc) pl hr (alike_ints (n :: ns)) (by have := depth_ints (n :: ns); rw [List.map_cons] at this; rw [this]; omega) fun i v h' tk bs _ hv k => ?_
  rw [PySem.W.minD_ints] at hv
  cases hv
  exact ⟨.int _, H, I.kept k, ⟨_, rfl⟩, q⟩
/-- of a list or a tuple of whole numbers -/
def oIntsA (f : List Int → Option D) : CD := fun ds P => match ds with
  | [.tup xs] => match intsOf xs with
    | some ns => match f ns with
      | some d => P (.val d)
      | none => False
    | none => False
  | _ => oInts f ds P
theorem oIntsA_mono {f : List Int → Option D} (ds : List D) (P P' : R → Prop) (k : ∀ r, P r → P' r) (q : oIntsA f ds P) : oIntsA f ds P' := by
  unfold oIntsA at q ⊢
  split at q
  · split at q
    · split at q
      · exact k _ q
      · exact q
    · exact q
  · exact oInts_mono _ _ _ k q
theorem oIntsA_go {f : List Int → Option D} {K : PySem.W.Frag} {F Hf H : Hp} {ρ : WEnv} {σ : L2.St} {Q : VK} {ds : List D} {xs : List V} (I : Rel K β F Hf ρ σ H) (r : RepOs K β F H ds xs) (q : oIntsA f ds (Kt K β F Hf ρ σ Q)) :
    ∃ a ns d, xs = [.ref a] ∧ (SqL K H a (ns.map V.int) ∨ SqT K H a (ns.map V.int)) ∧ f ns = some d ∧ Kt K β F Hf ρ σ Q (.val d) := by
  unfold oIntsA at q
  split at q
  · obtain ⟨v, rfl, r1⟩ := r.one
    obtain ⟨a, vs, rfl, sa, za, la⟩ := r1.tup I
    split at q
    · rename_i ns hn
      split at q
      · rename_i d hd
        rw [intsOf_eq hn] at la
        have := rep_ints la
        subst this
        exact ⟨a, ns, d, rfl, .inr sa, hd, q⟩
      · exact q.elim
    · exact q.elim
  · obtain ⟨a, ns, d, h1, h2, h3, h4⟩ := oInts_go I r q
    exact ⟨a, ns, d, h1, .inl h2, h3, h4⟩
abbrev oMaxA : CD := oIntsA fun ns => optInt (maxI ns)
abbrev oMinA : CD := oIntsA fun ns => optInt (minI ns)
theorem c_maxA (hc : X.calm = true) (hu : X.A.units + 64 < cLine) : CaD X β (.builtin "max") oMaxA := by
  refine ⟨oIntsA_mono, _, (cr_max hc).or (cr_maxT hc hu), fun F Hf ρ σ H ds xs Q I r q => ?_⟩
  obtain ⟨a, ns, d, rfl, h1, h2, h3⟩ := oIntsA_go I r q
  cases ns with
  | nil => cases h2
  | cons n ns =>
    rcases h1 with h1 | h1
    · refine .inl ⟨a, n :: ns, rfl, h1, Nat.succ_pos _, fun m hm hl => ?_⟩
      rw [maxI_of hm hl] at h2
      cases h2
      exact h3.int I
    · refine .inr ⟨a, n, ns, rfl, h1, ?_⟩
      cases h2
      exact h3.int I
theorem c_minA (hc : X.calm = true) (hu : X.A.units + 64 < cLine) : CaD X β (.builtin "min") oMinA := by
  refine ⟨oIntsA_mono, _, (cr_min hc).or (cr_minT hc hu), fun F Hf ρ σ H ds xs Q I r q => ?_⟩
  obtain ⟨a, ns, d, rfl, h1, h2, h3⟩ := oIntsA_go I r q
  cases ns with
  | nil => cases h2
  | cons n ns =>
    rcases h1 with h1 | h1
    · refine .inl ⟨a, n :: ns, rfl, h1, Nat.succ_pos _, fun m hm hl => ?_⟩
      rw [minI_of hm hl] at h2
      cases h2
      exact h3.int I
    · refine .inr ⟨a, n, ns, rfl, h1, ?_⟩
      cases h2
      exact h3.int I

/-! ### t.index(y), whole numbers -/
theorem mt_tupIndexI : MtR X "tuple.index" (fun x xs H Q => ∃ p, ∃ ns : List Int, ∃ n j, x = .ref p ∧ xs = [.int n] ∧ SqT X.K H p (ns.map V.int) ∧ ns[j]? = some n ∧ (∀ m, m < j → ns[m]? ≠ some n) ∧ Q (.int (j : Nat)) H) := by
  intro pins s σ H x xs v us Q I rx rs h
  obtain ⟨p, ns, n, j, rfl, rfl, hq, hy, hno, q⟩ := h
  cases rx
  obtain ⟨u, rfl, t, rfl⟩ := vals1 rs
  obtain ⟨its, r, ⟨⟨cls, dd, dt, sl⟩, ho, hc, z, hd⟩, _⟩ := I.tuple hq
  have hc : cls = .type "tuple" := hc
  have hd : dt = .seq its.toArray z := hd
  subst hc hd
  have hlen := r.length
  rw [List.length_map] at hlen
  have at1 : ∀ (m : Nat) (hm : m < its.toArray.size), ∃ i t', ns[m]? = some i ∧ its.toArray[m] = Value.int i t' := fun m hm => by
    rw [List.size_toArray] at hm
    obtain ⟨w, hw, t', hw'⟩ := r.get (i := m) (x := .int (ns[m]'(by omega))) (by rw [List.getElem?_map, List.getElem?_eq_getElem (by omega)]; rfl)
    refine ⟨_, t', List.getElem?_eq_getElem (by omega), ?_⟩
    rw [List.getElem?_eq_getElem hm] at hw
    rw [List.getElem_toArray, Option.some.inj hw, hw']
  have hj : j < its.toArray.size := by rw [List.size_toArray, ← hlen]; exact (List.getElem?_eq_some_iff.mp hy).1
  refine call_meets PySem.F.slot_tuple_index ⟨_, ho, rfl⟩ PySem.F.entry_tuple_index (PySem.F.args_tuple_index_2 _ _)
    (TI.tuple_indexAt p its.toArray z dd sl (.int n t) (eqU (.int n)) j hj ?_ fun m hm hmj => ?_) ⟨ho, fun w hw => mem_eqAt (x := .int n) ⟨t, rfl⟩ rfl r ?_ w (by simpa using hw), ⟨.int (j : Nat), H, I.tok _, ⟨_, rfl⟩, q⟩⟩
  · obtain ⟨i, t', h1, h2⟩ := at1 j hj
    rw [hy] at h1
    rw [h2, ← Option.some.inj h1]
    exact beq_self_eq_true n
  · obtain ⟨i, t', h1, h2⟩ := at1 m hm
    rw [h2]
    exact beq_eq_false_iff_ne.mpr fun e => hno m hmj (by rw [h1, e])
  · rw [List.all_eq_true]
    intro y hy
    obtain ⟨i, _, rfl⟩ := List.mem_map.mp hy
    rfl
def oIndexT : MD := fun d ds P => match d, ds with
  | .tup xs, [.int n] => match intsOf xs with
    | some ns => match fstIx n ns 0 with
      | some j => P (.val (.int j))
      | none => False
    | none => False
  | _, _ => False
theorem m_indexT : MeD X β "tuple.index" oIndexT := by
  refine ⟨fun d ds P P' k q => ?_, _, mt_tupIndexI, fun F Hf ρ σ H d ds x xs Q I r rs q => ?_⟩
  · unfold oIndexT at q ⊢
    split at q
    · split at q
      · split at q
        · exact k _ q
        · exact q
      · exact q
    · exact q
  · unfold oIndexT at q
    split at q
    · obtain ⟨a, vs, rfl, sa, za, la⟩ := r.tup I
      obtain ⟨v, rfl, r2⟩ := rs.one
      split at q
      · rename_i n _ ns hn
        rw [intsOf_eq hn] at la
        have := rep_ints la
        subst this
        split at q
        · rename_i j hj
          obtain ⟨h1, h2, h3⟩ := fstIx_some hj
          exact ⟨a, ns, n, j, rfl, by rw [r2.int], sa, h2, h3, q.int I⟩
        · exact q.elim
      · exact q.elim
    · exact q.elim
end
end WL
set_option Elab.async false
set_option linter.all false
set_option autoImplicit false
set_option maxRecDepth 100000
namespace WL
open PySem PySem.Spec L2

/-! ### meaning: what a def over values says, from outside -/
/-- arguments of a kind, under a condition, one answer -/
def Sx.of {α : Type} (args : α → List D) (pre : α → Prop) (g : α → D) : Sx := ⟨fun ds P => ∃ a, ds = args a ∧ pre a ∧ P (g a), fun ds P P' k ⟨a, h1, h2, h3⟩ => ⟨a, h1, h2, k _ h3⟩⟩
/-- .. some answer of a kind -/
def Sx.some {α : Type} (args : α → List D) (pre : α → Prop) (post : α → D → Prop) : Sx := ⟨fun ds P => ∃ a, ds = args a ∧ pre a ∧ ∀ d, post a d → P d, fun ds P P' k ⟨a, h1, h2, h3⟩ => ⟨a, h1, h2, fun d h => k d (h3 d h)⟩⟩

section
variable {t : Tgt} {body : SW} {E : WEnds} {ρ : WEnv} {wt : WT} {we : WE}
theorem forL_ind {ds : List D} (Inv : Nat → WEnv → Prop) (h0 : Inv 0 ρ)
    (hs : ∀ i d ρ (K : WEnv → Prop), ds[i]? = some d → Inv i ρ → (∀ ρ', Inv (i + 1) ρ' → K ρ') → ∃ ρ', bindT t d ρ = some ρ' ∧ body { nx := K, ct := K, bk := E.nx, rt := E.rt } ρ') (hd : ∀ ρ, Inv ds.length ρ → E.nx ρ) : wForL t body E ds ρ := by
  have key : ∀ (k i : Nat) (ρ : WEnv), i + k = ds.length → Inv i ρ → wForL t body E (ds.drop i) ρ := by
    intro k
    induction k with
    | zero =>
      intro i ρ h1 h2
      have : i = ds.length := by omega
      subst this
      rw [List.drop_length, wForL]
      exact hd ρ h2
    | succ k ih =>
      intro i ρ h1 h2
      have hi : i < ds.length := by omega
      rw [List.drop_eq_getElem_cons hi, wForL]
      obtain ⟨ρ', e, q⟩ := hs i ds[i] ρ _ (List.getElem?_eq_getElem hi) h2 (fun ρ' h => ih (i + 1) ρ' (by omega) h)
      rw [e]
      exact q
  have := key ds.length 0 ρ (by omega) h0
  rwa [List.drop_zero] at this
theorem rngL_get (lo : Int) (n i : Nat) : (rngL lo n)[i]? = if i < n then some (.int (lo + (i : Int))) else none := by
  rw [rngL, List.getElem?_map]
  split
  · rename_i h
    rw [List.getElem?_range h]; rfl
  · rename_i h
    rw [List.getElem?_eq_none (by rw [List.length_range]; omega)]; rfl
theorem rngL_len (lo : Int) (n : Nat) : (rngL lo n).length = n := by rw [rngL, List.length_map, List.length_range]
theorem rngD_get (lo : Int) (n i : Nat) : (rngD lo n)[i]? = if i < n then some (.int (lo - (i : Int))) else none := by
  rw [rngD, List.getElem?_map]
  split
  · rename_i h
    rw [List.getElem?_range h]; rfl
  · rename_i h
    rw [List.getElem?_eq_none (by rw [List.length_range]; omega)]; rfl
theorem rngD_len (lo : Int) (n : Nat) : (rngD lo n).length = n := by rw [rngD, List.length_map, List.length_range]
theorem forR {j : Nat} {lo : Int} {n : Nat} (Inv : Nat → WEnv → Prop) (h0 : Inv 0 ρ)
    (hs : ∀ (i : Nat) ρ (K : WEnv → Prop), i < n → Inv i ρ → (∀ ρ', Inv (i + 1) ρ' → K ρ') → body { nx := K, ct := K, bk := E.nx, rt := E.rt } (ρ.set j (.val (.int (lo + (i : Int)))))) (hd : ∀ ρ, Inv n ρ → E.nx ρ) : wForL (.one j) body E (rngL lo n) ρ := by
  refine forL_ind Inv h0 (fun i d ρ K hi hI hK => ?_) (fun ρ h => hd ρ (by rwa [rngL_len] at h))
  rw [rngL_get] at hi
  split at hi
  · rename_i h
    cases hi
    exact ⟨_, rfl, hs i ρ K h hI hK⟩
  · cases hi
theorem forD {j : Nat} {lo : Int} {n : Nat} (Inv : Nat → WEnv → Prop) (h0 : Inv 0 ρ)
    (hs : ∀ (i : Nat) ρ (K : WEnv → Prop), i < n → Inv i ρ → (∀ ρ', Inv (i + 1) ρ' → K ρ') → body { nx := K, ct := K, bk := E.nx, rt := E.rt } (ρ.set j (.val (.int (lo - (i : Int)))))) (hd : ∀ ρ, Inv n ρ → E.nx ρ) : wForL (.one j) body E (rngD lo n) ρ := by
  refine forL_ind Inv h0 (fun i d ρ K hi hI hK => ?_) (fun ρ h => hd ρ (by rwa [rngD_len] at h))
  rw [rngD_get] at hi
  split at hi
  · rename_i h
    cases hi
    exact ⟨_, rfl, hs i ρ K h hI hK⟩
  · cases hi
/-- over the images of a list -/
theorem forM {α : Type} {f : α → D} {l : List α} (Inv : Nat → WEnv → Prop) (h0 : Inv 0 ρ)
    (hs : ∀ (i : Nat) a ρ (K : WEnv → Prop), l[i]? = some a → Inv i ρ → (∀ ρ', Inv (i + 1) ρ' → K ρ') → ∃ ρ', bindT t (f a) ρ = some ρ' ∧ body { nx := K, ct := K, bk := E.nx, rt := E.rt } ρ') (hd : ∀ ρ, Inv l.length ρ → E.nx ρ) : wForL t body E (l.map f) ρ := by
  refine forL_ind Inv h0 (fun i d ρ K hi hI hK => ?_) (fun ρ h => hd ρ (by rwa [List.length_map] at h))
  rw [List.getElem?_map] at hi
  cases h : l[i]? with
  | none => rw [h] at hi; cases hi
  | some a =>
    rw [h] at hi; cases hi
    exact hs i a ρ K h hI hK
theorem while_ind (Inv : WEnv → Prop) (μ : WEnv → Nat) (h0 : Inv ρ)
    (hs : ∀ ρ (K : WEnv → Prop), Inv ρ → (∀ ρ', Inv ρ' → μ ρ' < μ ρ → K ρ') → wt ρ fun b => ifP b (body { nx := K, ct := K, bk := E.nx, rt := E.rt } ρ) (E.nx ρ)) : wWhile wt body E ρ := by
  have key : ∀ (n : Nat) (ρ : WEnv), Inv ρ → μ ρ < n → wWhileN wt body E n ρ := by
    intro n
    induction n with
    | zero => intro ρ _ h; omega
    | succ n ih =>
      intro ρ h1 h2
      rw [wWhileN]
      exact hs ρ _ h1 fun ρ' h3 h4 => ih ρ' h3 (by omega)
  exact ⟨μ ρ + 1, key _ ρ h0 (Nat.lt_succ_self _)⟩

/-! comprehensions -/
theorem lc_gen {ds : List D} {f : Nat → D} {p : Nat → Bool} : ∀ (k i : Nat) (acc : List D) {Q : List D → Prop}, i + k = ds.length →
    (∀ i d, ds[i]? = some d → ∃ ρ', bindT t d ρ = some ρ' ∧ (∀ Q : Bool → Prop, Q (p i) → wt ρ' Q) ∧ (p i = true → ∀ Q : R → Prop, (∀ r, r.fz = .val (f i) → Q r) → we ρ' Q)) →
    Q (acc ++ (((List.range k).map (i + ·)).filter p).map f) → wLcL t wt we ρ (ds.drop i) acc Q := by
  intro k
  induction k with
  | zero =>
    intro i acc Q h1 hs q
    rw [List.drop_eq_nil_of_le (by omega), wLcL]
    simpa using q
  | succ k ih =>
    intro i acc Q h1 hs q
    have hi : i < ds.length := by omega
    rw [List.drop_eq_getElem_cons hi, wLcL]
    obtain ⟨ρ', e, ht, he⟩ := hs i ds[i] (List.getElem?_eq_getElem hi)
    rw [e]
    have er : (List.range (k + 1)).map (i + ·) = i :: (List.range k).map (i + 1 + ·) := by
      rw [List.range_succ_eq_map, List.map_cons, List.map_map]
      congr 1
      apply List.map_congr_left
      intro a _
      show i + (a + 1) = i + 1 + a
      omega
    rw [er] at q
    refine ht _ ⟨fun hp => he hp _ fun r hr => ?_, fun hp => ?_⟩
    · rw [hr]
      refine ih (i + 1) _ (by omega) hs ?_
      rw [List.filter_cons, if_pos hp, List.map_cons] at q
      rw [List.append_assoc, List.singleton_append]
      exact q
    · refine ih (i + 1) _ (by omega) hs ?_
      rw [List.filter_cons, if_neg (by rw [hp]; exact Bool.false_ne_true)] at q
      exact q
/-- over a range, with a test -/
theorem lc_rngF {j : Nat} {lo : Int} {n : Nat} {Q : List D → Prop} (f : Nat → D) (p : Nat → Bool)
    (hs : ∀ i : Nat, i < n → (∀ Q : Bool → Prop, Q (p i) → wt (ρ.set j (.val (.int (lo + (i : Int))))) Q) ∧ (p i = true → ∀ Q : R → Prop, (∀ r, r.fz = .val (f i) → Q r) → we (ρ.set j (.val (.int (lo + (i : Int))))) Q))
    (q : Q (((List.range n).filter p).map f)) : wLcL (.one j) wt we ρ (rngL lo n) [] Q := by
  have := lc_gen (t := .one j) (ds := rngL lo n) (ρ := ρ) (wt := wt) (we := we) (f := f) (p := p) n 0 [] (Q := Q) (by rw [rngL_len]; omega) (fun i d hi => ?_) (by simpa using q)
  · rwa [List.drop_zero] at this
  · rw [rngL_get] at hi
    split at hi
    · rename_i h
      cases hi
      exact ⟨_, rfl, hs i h⟩
    · cases hi
theorem lc_rng {j : Nat} {lo : Int} {n : Nat} {Q : List D → Prop} (f : Nat → D)
    (hs : ∀ i : Nat, i < n → ∀ Q : R → Prop, (∀ r, r.fz = .val (f i) → Q r) → we (ρ.set j (.val (.int (lo + (i : Int))))) Q)
    (q : Q ((List.range n).map f)) : wLcL (.one j) wYes we ρ (rngL lo n) [] Q :=
  lc_rngF f (fun _ => true) (fun i hi => ⟨fun Q q => q, fun _ => hs i hi⟩) (by rw [List.filter_eq_self.mpr fun _ _ => rfl]; exact q)
/-- over the images of a list -/
theorem lc_mapF {α : Type} {g : α → D} {l : List α} {Q : List D → Prop} (f : α → D) (p : α → Bool)
    (hs : ∀ a ∈ l, ∃ ρ', bindT t (g a) ρ = some ρ' ∧ (∀ Q : Bool → Prop, Q (p a) → wt ρ' Q) ∧ (p a = true → ∀ Q : R → Prop, (∀ r, r.fz = .val (f a) → Q r) → we ρ' Q))
    (q : Q ((l.filter p).map f)) : wLcL t wt we ρ (l.map g) [] Q := by
  have key : ∀ (m : List α) (acc : List D), (∀ a ∈ m, a ∈ l) → Q (acc ++ (m.filter p).map f) → wLcL t wt we ρ (m.map g) acc Q := by
    intro m
    induction m with
    | nil => intro acc _ q; rw [List.map_nil, wLcL]; simpa using q
    | cons a m ih =>
      intro acc hm q
      rw [List.map_cons, wLcL]
      obtain ⟨ρ', e, ht, he⟩ := hs a (hm a List.mem_cons_self)
      rw [e]
      refine ht _ ⟨fun hp => he hp _ fun r hr => ?_, fun hp => ?_⟩
      · rw [hr]
        refine ih _ (fun b hb => hm b (List.mem_cons_of_mem _ hb)) ?_
        rw [List.filter_cons, if_pos hp, List.map_cons] at q
        rw [List.append_assoc, List.singleton_append]
        exact q
      · refine ih _ (fun b hb => hm b (List.mem_cons_of_mem _ hb)) ?_
        rw [List.filter_cons, if_neg (by rw [hp]; exact Bool.false_ne_true)] at q
        exact q
  exact key l [] (fun _ h => h) (by simpa using q)
theorem lc_map {α : Type} {g : α → D} {l : List α} {Q : List D → Prop} (f : α → D)
    (hs : ∀ a ∈ l, ∃ ρ', bindT t (g a) ρ = some ρ' ∧ ∀ Q : R → Prop, (∀ r, r.fz = .val (f a) → Q r) → we ρ' Q)
    (q : Q (l.map f)) : wLcL t wYes we ρ (l.map g) [] Q :=
  lc_mapF f (fun _ => true) (fun a ha => let ⟨ρ', e, h⟩ := hs a ha; ⟨ρ', e, fun Q q => q, fun _ => h⟩) (by rw [List.filter_eq_self.mpr fun _ _ => rfl]; exact q)
/-- draws: over a range, each item of a kind -/
theorem lc_some {j : Nat} {lo : Int} {n : Nat} {Q : List D → Prop} {α : Type} (g : α → D) (ok : α → Prop)
    (hs : ∀ i : Nat, i < n → ∀ Q : R → Prop, (∀ a r, ok a → r.fz = .val (g a) → Q r) → we (ρ.set j (.val (.int (lo + (i : Int))))) Q)
    (q : ∀ l : List α, l.length = n → (∀ a ∈ l, ok a) → Q (l.map g)) : wLcL (.one j) wYes we ρ (rngL lo n) [] Q := by
  have key : ∀ (k i : Nat) (acc : List α), i + k = n → acc.length = i → (∀ a ∈ acc, ok a) → wLcL (.one j) wYes we ρ ((rngL lo n).drop i) (acc.map g) Q := by
    intro k
    induction k with
    | zero =>
      intro i acc h1 h2 h3
      rw [List.drop_eq_nil_of_le (by rw [rngL_len]; omega), wLcL]
      exact q acc (by omega) h3
    | succ k ih =>
      intro i acc h1 h2 h3
      have hi : i < (rngL lo n).length := by rw [rngL_len]; omega
      rw [List.drop_eq_getElem_cons hi, wLcL]
      have hg : (rngL lo n)[i] = .int (lo + (i : Int)) := by
        have := rngL_get lo n i
        rw [List.getElem?_eq_getElem hi, if_pos (by omega)] at this
        exact Option.some.inj this
      rw [hg]
      show wYes _ _
      refine ⟨fun _ => hs i (by omega) _ fun a r ha hr => ?_, fun h => nomatch h⟩
      rw [hr]
      have := ih (i + 1) (acc ++ [a]) (by omega) (by rw [List.length_append, h2]; rfl) (fun b hb => by
        rcases List.mem_append.mp hb with hb | hb
        · exact h3 b hb
        · rw [List.mem_singleton] at hb; rw [hb]; exact ha)
      rwa [List.map_append] at this
  have := key n 0 [] (by omega) rfl (fun _ h => nomatch h)
  rwa [List.drop_zero] at this
end

/-! items and slices by whole numbers -/
theorem atI_i {α : Type} {xs : List α} {i : Int} {v : α} (h0 : 0 ≤ i) (h : xs[i.toNat]? = some v) : atI xs i = some v := by
  have := atI_nat h
  rwa [Int.toNat_of_nonneg h0] at this
theorem cut_lo {α : Type} (xs : List α) {i : Int} (h : 0 ≤ i) : cutL xs (some i) none = xs.drop i.toNat := by
  unfold cutL
  have : i = ((i.toNat : Nat) : Int) := (Int.toNat_of_nonneg h).symm
  rw [this, HT.sIx_nat, HT.sIx_none, Int.toNat_natCast]
  by_cases hi : i.toNat ≤ xs.length
  · rw [Nat.min_eq_left hi, List.take_of_length_le (by rw [List.length_drop]; omega)]
  · rw [List.drop_eq_nil_of_le (show xs.length ≤ i.toNat by omega), List.drop_eq_nil_of_le (by omega)]; simp
theorem cut_hi {α : Type} (xs : List α) {j : Int} (h : 0 ≤ j) : cutL xs none (some j) = xs.take j.toNat := by
  unfold cutL
  have : j = ((j.toNat : Nat) : Int) := (Int.toNat_of_nonneg h).symm
  rw [this, HT.sIx_nat, HT.sIx_none, List.drop_zero, Nat.sub_zero, Int.toNat_natCast]
  by_cases hi : j.toNat ≤ xs.length
  · rw [Nat.min_eq_left hi]
  · rw [Nat.min_eq_right (by omega), List.take_of_length_le (Nat.le_refl _), List.take_of_length_le (by omega)]
theorem cut_lh {α : Type} (xs : List α) {i j : Int} (h : 0 ≤ i) (h' : 0 ≤ j) : cutL xs (some i) (some j) = (xs.drop i.toNat).take (j.toNat - i.toNat) := by
  unfold cutL
  have e1 : i = ((i.toNat : Nat) : Int) := (Int.toNat_of_nonneg h).symm
  have e2 : j = ((j.toNat : Nat) : Int) := (Int.toNat_of_nonneg h').symm
  rw [e1, e2, HT.sIx_nat, HT.sIx_nat, Int.toNat_natCast, Int.toNat_natCast]
  by_cases hi : i.toNat ≤ xs.length
  · rw [Nat.min_eq_left hi]
    by_cases hj : j.toNat ≤ xs.length
    · rw [Nat.min_eq_left hj]
    · rw [Nat.min_eq_right (by omega), List.take_of_length_le (by rw [List.length_drop]; omega), List.take_of_length_le (by rw [List.length_drop]; omega)]
  · rw [List.drop_eq_nil_of_le (show xs.length ≤ min i.toNat xs.length by omega), List.drop_eq_nil_of_le (show xs.length ≤ i.toNat by omega)]; simp
end WL
set_option Elab.async false
set_option linter.all false
set_option autoImplicit false
set_option maxRecDepth 100000
namespace WL
open PySem PySem.Spec L2

/-! ### the law's sameness -/
mutual
def sameD : D → D → Bool
  | .non, .non => true
  | .bl a, .bl b => a == b
  | .int a, .int b => a == b
  | .str a, .str b => a == b
  | .tup a, .tup b => sameL a b
  | .lst a, .lst b => sameL a b
  | _, _ => false
def sameL : List D → List D → Bool
  | [], [] => true
  | a :: as, b :: bs => sameD a b && sameL as bs
  | _, _ => false
end
theorem sameL_all : ∀ (as bs : List D), as.length = bs.length → sameL as bs = ((List.range as.length).map fun k => sameD (as.getD k .non) (bs.getD k .non)).all fun b => b
  | [], [], _ => rfl
  | [], _ :: _, h => by simp at h
  | _ :: _, [], h => by simp at h
  | a :: as, b :: bs, h => by
    rw [sameL, sameL_all as bs (by simpa using h), List.length_cons, List.range_succ_eq_map, List.map_cons, List.all_cons, List.map_map]
    rfl
theorem sameL_len : ∀ (as bs : List D), sameL as bs = true → as.length = bs.length
  | [], [], _ => rfl
  | [], _ :: _, h => by simp [sameL] at h
  | _ :: _, [], h => by simp [sameL] at h
  | a :: as, b :: bs, h => by
    rw [sameL, Bool.and_eq_true] at h
    rw [List.length_cons, List.length_cons, sameL_len as bs h.2]
theorem shpL_get {n : Nat} : ∀ {ds : List D} {k : Nat} {d : D}, shpL n ds = true → ds[k]? = some d → shpN n d = true
  | [], _, _, _, h => by simp at h
  | e :: ds, 0, d, h, g => by
    rw [shpL, Bool.and_eq_true] at h
    simp at g; rw [← g]; exact h.1
  | e :: ds, k + 1, d, h, g => by
    rw [shpL, Bool.and_eq_true] at h
    exact shpL_get h.2 (by simpa using g)
theorem shpL_of {n : Nat} : ∀ {ds : List D}, (∀ d ∈ ds, shpN n d = true) → shpL n ds = true
  | [], _ => rfl
  | d :: ds, h => by
    rw [shpL, h d List.mem_cons_self, shpL_of fun e he => h e (List.mem_cons_of_mem _ he)]; rfl
theorem shpL_map {n : Nat} {α : Type} {f : α → D} {l : List α} (h : ∀ a ∈ l, shpN n (f a) = true) : shpL n (l.map f) = true := shpL_of fun d hd => by
  obtain ⟨a, ha, rfl⟩ := List.mem_map.mp hd
  exact h a ha
mutual
/-- plain, at most n deep, no longer than may be walked -/
def fitN : Nat → D → Bool
  | _, .non => true
  | _, .bl _ => true
  | _, .int _ => true
  | _, .str _ => true
  | 0, _ => false
  | n + 1, .tup xs => decide (xs.length ≤ 16777216) && fitL n xs
  | n + 1, .lst xs => decide (xs.length ≤ 16777216) && fitL n xs
  | _, _ => false
def fitL : Nat → List D → Bool
  | _, [] => true
  | n, d :: ds => fitN n d && fitL n ds
end
theorem fitL_get {n : Nat} : ∀ {ds : List D} {k : Nat} {d : D}, fitL n ds = true → ds[k]? = some d → fitN n d = true
  | [], _, _, _, h => by simp at h
  | e :: ds, 0, d, h, g => by
    rw [fitL, Bool.and_eq_true] at h
    simp at g; rw [← g]; exact h.1
  | e :: ds, k + 1, d, h, g => by
    rw [fitL, Bool.and_eq_true] at h
    exact fitL_get h.2 (by simpa using g)
theorem fitL_of {n : Nat} : ∀ {ds : List D}, (∀ d ∈ ds, fitN n d = true) → fitL n ds = true
  | [], _ => rfl
  | d :: ds, h => by
    rw [fitL, h d List.mem_cons_self, fitL_of fun e he => h e (List.mem_cons_of_mem _ he)]; rfl
theorem fitL_map {n : Nat} {α : Type} {f : α → D} {l : List α} (h : ∀ a ∈ l, fitN n (f a) = true) : fitL n (l.map f) = true := fitL_of fun d hd => by
  obtain ⟨a, ha, rfl⟩ := List.mem_map.mp hd
  exact h a ha
theorem fit_tup {n : Nat} {xs : List D} (h : xs.length ≤ 16777216) (g : ∀ d ∈ xs, fitN n d = true) : fitN (n + 1) (.tup xs) = true := by
  rw [fitN, decide_eq_true h, fitL_of g]; rfl
mutual
theorem fit_refl : ∀ (n : Nat) (d : D), fitN n d = true → sameD d d = true
  | _, .non, _ => rfl
  | _, .bl a, _ => by simp [sameD]
  | _, .int a, _ => by simp [sameD]
  | _, .str a, _ => by simp [sameD]
  | 0, .tup a, h => by simp [fitN] at h
  | 0, .lst a, h => by simp [fitN] at h
  | n + 1, .tup a, h => by
    rw [fitN, Bool.and_eq_true] at h
    rw [sameD]; exact fit_reflL n a h.2
  | n + 1, .lst a, h => by
    rw [fitN, Bool.and_eq_true] at h
    rw [sameD]; exact fit_reflL n a h.2
  | n, .dct _ _, h => by cases n <;> simp [fitN] at h
  | n, .box, h => by cases n <;> simp [fitN] at h
theorem fit_reflL : ∀ (n : Nat) (ds : List D), fitL n ds = true → sameL ds ds = true
  | _, [], _ => rfl
  | n, d :: ds, h => by
    rw [fitL, Bool.and_eq_true] at h
    rw [sameL, fit_refl n d h.1, fit_reflL n ds h.2]; rfl
end
def pairD (p : D × D) : List D := [p.1, p.2]
def sSame (n : Nat) : Sx := .of pairD (fun p => ∃ m, n = m + 1 ∧ fitN m p.1 = true ∧ fitN m p.2 = true) (fun p => .bl (sameD p.1 p.2))
/-- what promises nothing is kept by any def -/
theorem cal_bot {P : Program} {w : World} {K : PySem.W.Frag} {mg : Str → Option Value} {base : Heap} {C : Bx → Prop} {x : Str} {f : Addr} {fd : FuncData} {k : Nat} {ps : List Str} {g : Sx} (hm : mg x = some (.ref f)) (hk : PySem.W.keepIn K (.ref f) = true) (hb : Binds K fd ps []) (h : ∀ ds P, ¬ g.f ds P) : Cal P w K mg base C x k ps g := by
  refine ⟨f, fd, hm, hk, hb, fun β _ => ⟨fun vs H Q E q => ?_, fun A outer s H args us vs Q E _ _ _ _ q => ?_⟩⟩
  · obtain ⟨_, ds, _, _, _, _, _, q⟩ := q
    exact (h _ _ q).elim
  · obtain ⟨_, ds, _, _, _, _, _, q⟩ := q
    exact (h _ _ q).elim
theorem same_bot : ∀ ds P, ¬ (sSame 0).f ds P := fun ds P ⟨_, _, ⟨m, h, _⟩, _⟩ => by omega
def w_same (s_law_same : Sx) : SW := (wSeq (wIfS (wOr (wAnd (wTest (wIsi .tuple (wName 0))) (wTest (wIsi .tuple (wName 1)))) (wAnd (wTest (wIsi .list (wName 0))) (wTest (wIsi .list (wName 1))))) (wRet (wAndV (wOp oEq (wB oLen (wCons (wName 0) wNil)) (wB oLen (wCons (wName 1) wNil))) (wB oAll (wCons (wLc (wRng1 (wB oLen (wCons (wName 0) wNil))) (.one 2) wYes (wCall s_law_same 2 (wCons (wOp oIx (wName 0) (wName 2)) (wCons (wOp oIx (wName 1) (wName 2)) wNil))) [2]) wNil)))) wSkip)
      (wSeq (wIfS (wOr (wTest (wIsi .bool (wName 0))) (wTest (wIsi .bool (wName 1)))) (wRet (wAndV (wIsi .bool (wName 0)) (wAndV (wIsi .bool (wName 1)) (wOp oEq (wName 0) (wName 1))))) wSkip)
      (wSeq (wIfS (wOr (wAnd (wTest (wIsi .int (wName 0))) (wTest (wIsi .int (wName 1)))) (wAnd (wTest (wIsi .str (wName 0))) (wTest (wIsi .str (wName 1))))) (wRet (wOp oEq (wName 0) (wName 1))) wSkip)
      (wRet (wAndV (wOp oIs (wName 0) (wC .non)) (wOp oIs (wName 1) (wC .non)))))))
theorem ifP_t {A B : Prop} (h : A) : ifP true A B := ⟨fun _ => h, fun e => nomatch e⟩
theorem ifP_f {A B : Prop} (h : B) : ifP false A B := ⟨fun e => (nomatch e), fun _ => h⟩
theorem ifP_b {b : Bool} {A B : Prop} (h1 : b = true → A) (h2 : b = false → B) : ifP b A B := ⟨h1, h2⟩
theorem sem_same_seq (n : Nat) (xs ys : List D) (R : D → Prop) (ρ : WEnv) (a b : D) (hab : (a = .tup xs ∧ b = .tup ys) ∨ (a = .lst xs ∧ b = .lst ys)) (h1 : fitL n xs = true) (h2 : fitL n ys = true) (hz : xs.length ≤ 16777216)
    (h : R (.bl (sameL xs ys))) (k : WEnds) :
    wRet (wAndV (wOp oEq (wB oLen (wCons (wName 0) wNil)) (wB oLen (wCons (wName 1) wNil))) (wB oAll (wCons (wLc (wRng1 (wB oLen (wCons (wName 0) wNil))) (.one 2) wYes (wCall (sSame (n + 1)) 2 (wCons (wOp oIx (wName 0) (wName 2)) (wCons (wOp oIx (wName 1) (wName 2)) wNil))) [2]) wNil))) { k with rt := R } [.val a, .val b, .un] := by
  have go : ∀ Q : List D → Prop, Q ((List.range xs.length).map fun i => .bl (sameD (xs.getD i .non) (ys.getD i .non))) → xs.length = ys.length → wLcL (.one 2) wYes (wCall (sSame (n + 1)) 2 (wCons (wOp oIx (wName 0) (wName 2)) (wCons (wOp oIx (wName 1) (wName 2)) wNil))) [.val a, .val b, .un] (rngL 0 ((xs.length : Int)).toNat) [] Q := by
    intro Q q hl
    rw [Int.toNat_natCast]
    refine lc_rng _ (fun i hi Q hQ => ?_) q
    have e1 : atI xs (0 + (i : Int)) = some xs[i] := by rw [Int.zero_add]; exact atI_nat (List.getElem?_eq_getElem hi)
    have e2 : atI ys (0 + (i : Int)) = some (ys[i]'(by omega)) := by rw [Int.zero_add]; exact atI_nat (List.getElem?_eq_getElem (by omega))
    have g1 : xs.getD i .non = xs[i] := by rw [List.getD_eq_getElem?_getD, List.getElem?_eq_getElem hi]; rfl
    have g2 : ys.getD i .non = ys[i]'(by omega) := by rw [List.getD_eq_getElem?_getD, List.getElem?_eq_getElem (by omega)]; rfl
    have fin : (2 : Nat) = 2 ∧ (sSame (n + 1)).f [xs[i], ys[i]'(by omega)] fun d => Q (.val d) := by
      refine ⟨rfl, (xs[i], ys[i]'(by omega)), rfl, ⟨n, rfl, fitL_get h1 (List.getElem?_eq_getElem hi), fitL_get h2 (List.getElem?_eq_getElem (by omega))⟩, ?_⟩
      have := hQ (.val (.bl (sameD xs[i] (ys[i]'(by omega))))) (by rw [g1, g2])
      exact this
    rcases hab with ⟨rfl, rfl⟩ | ⟨rfl, rfl⟩
    · show (match atI xs (0 + (i : Int)) with | some v => _ | none => False)
      rw [e1]
      show (match atI ys (0 + (i : Int)) with | some v => _ | none => False)
      rw [e2]
      exact fin
    · show (match atI xs (0 + (i : Int)) with | some v => _ | none => False)
      rw [e1]
      show (match atI ys (0 + (i : Int)) with | some v => _ | none => False)
      rw [e2]
      exact fin
  have go2 : ifP ((xs.length : Int) == (ys.length : Int)) (rOk (xs.length : Int) ∧ wLcL (.one 2) wYes (wCall (sSame (n + 1)) 2 (wCons (wOp oIx (wName 0) (wName 2)) (wCons (wOp oIx (wName 1) (wName 2)) wNil))) [.val a, .val b, .un] (rngL 0 ((xs.length : Int)).toNat) [] fun acc => match boolsOf acc with | some ns => R (.bl (ns.all fun b => b)) | none => False) (R (.bl false)) := by
    refine ifP_b (fun e => ?_) (fun e => ?_)
    · have e : xs.length = ys.length := by have := eq_of_beq e; omega
      refine ⟨⟨by omega, by omega⟩, go _ ?_ e⟩
      rw [boolsOf_map]
      show R (.bl (List.all _ _))
      rw [← sameL_all xs ys e]
      exact h
    · have e : xs.length ≠ ys.length := fun z => by rw [z] at e; simp at e
      have : sameL xs ys = false := by
        cases hs : sameL xs ys with
        | false => rfl
        | true => exact absurd (sameL_len xs ys hs) e
      rw [this] at h
      exact h
  rcases hab with ⟨rfl, rfl⟩ | ⟨rfl, rfl⟩
  · exact go2
  · exact go2
theorem sem_same (n : Nat) : ∀ ds R, ds.length = 2 → (sSame (n + 1)).f ds R → w_same (sSame n) { nx := fun _ => R .non, rt := R } (startW 3 ds) := by
  intro ds R _ h
  obtain ⟨⟨a, b⟩, rfl, ⟨m, hm, ha, hb⟩, h⟩ := h
  obtain rfl : n = m := by omega
  have sc : ∀ s : Sx, (∀ xs ys, a = .tup xs → b = .tup ys → False) → (∀ xs ys, a = .lst xs → b = .lst ys → False) → noBox a = true → noBox b = true → (∀ k v, a ≠ .dct k v) → (∀ k v, b ≠ .dct k v) → shpN 64 a = true ∨ True → R (.bl (sameD a b)) → w_same s { nx := fun _ => R .non, rt := R } (startW 3 (pairD (a, b))) := by
    intro s t l na nb da db _ h
    cases a <;> cases b <;> first
      | (exact absurd rfl (da _ _))
      | (exact absurd rfl (db _ _))
      | (cases na; done)
      | (cases nb; done)
      | (exact (t _ _ rfl rfl).elim)
      | (exact (l _ _ rfl rfl).elim)
      | (simp [w_same, wSeq, wIfS, wOr, wAnd, wTest, wIsi, wName, startW, pairD, isTy, noBox, ifP, wSkip, wRet, wAndV, wOp, oEq, oIs, isNon, wC, shpN, peq] ; exact h)
  have nb : ∀ (n : Nat) (d : D), fitN n d = true → noBox d = true ∧ ∀ k v, d ≠ .dct k v := fun n d h => by
    cases d <;> first
      | (cases n <;> simp [fitN] at h; done)
      | (refine ⟨rfl, fun _ _ e => ?_⟩; cases e)
  by_cases h1 : ∃ xs ys, a = .tup xs ∧ b = .tup ys
  · obtain ⟨xs, ys, rfl, rfl⟩ := h1
    cases n with
    | zero => simp [fitN] at ha
    | succ n =>
      have ha : (decide (xs.length ≤ 16777216) && fitL n xs) = true := ha
      have hb : (decide (ys.length ≤ 16777216) && fitL n ys) = true := hb
      rw [Bool.and_eq_true] at ha hb
      exact ifP_t (ifP_t (ifP_t (sem_same_seq n xs ys R [] _ _ (.inl ⟨rfl, rfl⟩) ha.2 hb.2 (of_decide_eq_true ha.1) h ⟨_, fun _ => True, _, _⟩)))
  · by_cases h2 : ∃ xs ys, a = .lst xs ∧ b = .lst ys
    · obtain ⟨xs, ys, rfl, rfl⟩ := h2
      cases n with
      | zero => simp [fitN] at ha
      | succ n =>
        have ha : (decide (xs.length ≤ 16777216) && fitL n xs) = true := ha
        have hb : (decide (ys.length ≤ 16777216) && fitL n ys) = true := hb
        rw [Bool.and_eq_true] at ha hb
        exact ifP_f (ifP_f (ifP_t (ifP_t (sem_same_seq n xs ys R [] _ _ (.inr ⟨rfl, rfl⟩) ha.2 hb.2 (of_decide_eq_true ha.1) h ⟨_, fun _ => True, _, _⟩))))
    · exact sc (sSame n) (fun xs ys e1 e2 => h1 ⟨xs, ys, e1, e2⟩) (fun xs ys e1 e2 => h2 ⟨xs, ys, e1, e2⟩) (nb _ _ ha).1 (nb _ _ hb).1 (nb _ _ ha).2 (nb _ _ hb).2 (.inr trivial) h
end WL
set_option Elab.async false
set_option linter.all false
set_option autoImplicit false
set_option maxRecDepth 100000
namespace WL
open PySem PySem.Spec L2

/-! ### more meaning tools -/
theorem lc_wp {wi : WI} {t : Tgt} {wt : WT} {we : WE} {vs : List Nat} {ρ : WEnv} {P : R → Prop} (h : noOwnAt ρ vs = true) (q : wi ρ fun _ ds => wLcL t wt we (wipeW ρ vs) ds [] fun acc => P (.own (.lst acc))) : wLc wi t wt we vs ρ P := by
  simp only [wLc, h]
  exact q
theorem no_wp {b : Bool} {A : Prop} (h : b = true) (q : A) : match (generalizing := false) b with
  | true => A
  | false => False := by subst h; exact q
theorem opt_wp {α : Type} {o : Option α} {v : α} {f : α → Prop} (h : o = some v) (q : f v) : match (generalizing := false) o with
  | some v => f v
  | none => False := by subst h; exact q
theorem max_wp {ns : List Int} {m : Int} {f : D → Prop} (h : maxI ns = some m) (q : f (.int m)) : match (generalizing := false) optInt (maxI ns) with
  | some d => f d
  | none => False := by rw [h]; exact q
/-- no list of one's own there -/
def freeS : Slot → Bool
  | .own _ => false
  | _ => true
theorem x_max {xs : List D} {ns : List Int} {m : Int} {P : R → Prop} (h1 : intsOf xs = some ns) (h2 : maxI ns = some m) (q : P (.val (.int m))) : oMaxA [.lst xs] P := by
  simp only [oMaxA, oIntsA, oInts, h1, h2, optInt]; exact q
theorem x_maxT {xs : List D} {ns : List Int} {m : Int} {P : R → Prop} (h1 : intsOf xs = some ns) (h2 : maxI ns = some m) (q : P (.val (.int m))) : oMaxA [.tup xs] P := by
  simp only [oMaxA, oIntsA, h1, h2, optInt]; exact q
theorem x_ix {xs : List D} {i : Int} {d : D} {P : R → Prop} (h : atI xs i = some d) (q : P (.val d)) : oIx (.lst xs) (.int i) P := by
  simp only [oIx, h]; exact q
theorem x_ixT {xs : List D} {i : Int} {d : D} {P : R → Prop} (h : atI xs i = some d) (q : P (.val d)) : oIx (.tup xs) (.int i) P := by
  simp only [oIx, h]; exact q
theorem x_ixS {x : List Nat} {i : Int} {c : Nat} {P : R → Prop} (h : atI x i = some c) (q : P (.val (.str [c]))) : oIx (.str x) (.int i) P := by
  simp only [oIx, h]; exact q
theorem x_eq {d e : D} {P : R → Prop} (h : shpN 64 d = true) (h' : shpN 64 e = true) (q : P (.val (.bl (peq d e)))) : oEq d e P := by
  simp only [oEq, h, h', Bool.and_true]; exact q
theorem x_ne {d e : D} {P : R → Prop} (h : shpN 64 d = true) (h' : shpN 64 e = true) (q : P (.val (.bl (!peq d e)))) : oNe d e P := by
  simp only [oNe, h, h', Bool.and_true]; exact q
theorem ixN_i {n : Nat} {i : Int} (h : 0 ≤ i) (h' : i.toNat < n) : ixN n i = some i.toNat := by
  unfold ixN
  rw [if_pos h, if_pos (by omega)]
theorem same_eq {n : Nat} {a b : D} {P : D → Prop} (e : a = b) (h : fitN n a = true) (q : P (.bl true)) : (sSame (n + 1)).f [a, b] P := by
  subst e
  refine ⟨(a, a), rfl, ⟨n, rfl, h, h⟩, ?_⟩
  show P (.bl (sameD a a))
  rw [fit_refl n a h]
  exact q
theorem fit_ints {n : Nat} {α : Type} {f : α → Int} (l : List α) : fitL n (l.map fun a => .int (f a)) = true := fitL_map fun a _ => by cases n <;> rfl

/-! join of single letters -/
theorem join_ones : ∀ l : List Nat, TL.joinL [] (l.map fun c => [c]) = l
  | [] => rfl
  | [_] => rfl
  | a :: b :: l => by
    show [a] ++ ([] ++ TL.joinL [] ((b :: l).map fun c => [c])) = _
    rw [join_ones (b :: l)]; rfl
theorem len_ones : ∀ l : List Nat, ((l.map fun c => [c]).map List.length).sum = l.length
  | [] => rfl
  | a :: l => by
    show 1 + ((l.map fun c => [c]).map List.length).sum = l.length + 1
    rw [len_ones l]; omega
theorem x_join1 {l : List Nat} {P : R → Prop} (hl : l.length ≤ 16777216) (q : P (.val (.str l))) : oJoin (.str []) [.lst (l.map fun c => .str [c])] P := by
  simp only [oJoin, strsOf_map (fun c : Nat => [c]) l]
  refine ⟨?_, ?_⟩
  · rw [len_ones]; show l.length + _ * 0 ≤ _; omega
  · rw [join_ones]; exact q

/-! maxima of Nats -/
def maxN (l : List Nat) : Nat := l.foldl max 0
theorem foldl_maxN : ∀ (l : List Nat) (a : Nat), (l.foldl max a = a ∨ l.foldl max a ∈ l) ∧ a ≤ l.foldl max a ∧ ∀ b ∈ l, b ≤ l.foldl max a
  | [], a => ⟨.inl rfl, Nat.le_refl _, fun _ h => nomatch h⟩
  | b :: l, a => by
    rw [List.foldl_cons]
    obtain ⟨h1, h2, h3⟩ := foldl_maxN l (max a b)
    refine ⟨?_, by omega, fun c hc => ?_⟩
    · rcases h1 with h1 | h1
      · rw [h1]
        by_cases hh : b ≤ a
        · left; omega
        · right; rw [Nat.max_eq_right (by omega)]; exact List.mem_cons_self
      · right; exact List.mem_cons_of_mem _ h1
    · rcases List.mem_cons.mp hc with rfl | hc
      · omega
      · exact h3 c hc
theorem maxN_mem (l : List Nat) : maxN l = 0 ∨ maxN l ∈ l := (foldl_maxN l 0).1
theorem maxN_ge {l : List Nat} {b : Nat} (h : b ∈ l) : b ≤ maxN l := (foldl_maxN l 0).2.2 b h
theorem maxN_eq {l : List Nat} {m : Nat} (h1 : m = 0 ∨ m ∈ l) (h2 : ∀ b ∈ l, b ≤ m) : maxN l = m := by
  apply Nat.le_antisymm
  · rcases maxN_mem l with h | h
    · omega
    · exact h2 _ h
  · rcases h1 with h | h
    · omega
    · exact maxN_ge h
theorem maxN_app (l : List Nat) (b : Nat) : maxN (l ++ [b]) = max (maxN l) b := by
  unfold maxN; rw [List.foldl_append]; rfl
theorem foldl_maxI : ∀ (l : List Nat) (a : Nat), (l.map fun n : Nat => (n : Int)).foldl max (a : Int) = ((l.foldl max a : Nat) : Int)
  | [], _ => rfl
  | b :: l, a => by
    rw [List.map_cons, List.foldl_cons, List.foldl_cons, ← foldl_maxI l (max a b)]
    congr 1; omega
theorem maxI_nat {l : List Nat} (h : l ≠ []) : maxI (l.map fun n : Nat => (n : Int)) = some ((maxN l : Nat) : Int) := by
  cases l with
  | nil => exact absurd rfl h
  | cons b l =>
    show some _ = some _
    rw [foldl_maxI]
    unfold maxN
    rw [List.foldl_cons]
    congr 3
theorem maxI_nat0 (l : List Nat) : maxI (l.map (fun n : Nat => (n : Int)) ++ [0]) = some ((maxN l : Nat) : Int) := by
  have : l.map (fun n : Nat => (n : Int)) ++ [0] = (l ++ [0]).map fun n : Nat => (n : Int) := by rw [List.map_append]; rfl
  rw [this, maxI_nat (by simp), maxN_app]
  congr 2
  omega
theorem intsOf_nat {α : Type} (l : List α) (f : α → Nat) : intsOf (l.map fun a => .int (f a)) = some ((l.map f).map fun n : Nat => (n : Int)) := by
  rw [List.map_map]; exact intsOf_map _ l
theorem intsOf_app : ∀ {xs ys : List D} {ns ms : List Int}, intsOf xs = some ns → intsOf ys = some ms → intsOf (xs ++ ys) = some (ns ++ ms)
  | [], _, _, _, h, h' => by cases h; exact h'
  | d :: xs, ys, ns, ms, h, h' => by
    cases d <;> try (cases h; done)
    rename_i i
    rw [intsOf] at h
    cases e : intsOf xs with
    | none => rw [e] at h; cases h
    | some l =>
      rw [e] at h
      cases h
      rw [List.cons_append, intsOf, intsOf_app e h']; rfl
theorem fstIx_of {n : Int} : ∀ {l : List Int} {i j : Nat}, l[j]? = some n → (∀ k, k < j → l[k]? ≠ some n) → fstIx n l i = some (i + j)
  | [], _, _, h, _ => by simp at h
  | m :: l, i, 0, h, _ => by
    have : m = n := by simpa using h
    rw [fstIx, if_pos this]; rfl
  | m :: l, i, j + 1, h, g => by
    have : m ≠ n := fun e => g 0 (by omega) (by simp [e])
    rw [fstIx, if_neg this, fstIx_of (l := l) (i := i + 1) (j := j) (by simpa using h) (fun k hk => by have := g (k + 1) (by omega); simpa using this)]
    congr 1; omega
end WL
set_option Elab.async false
set_option linter.all false
set_option autoImplicit false
set_option maxRecDepth 100000
set_option maxHeartbeats 4000000
namespace K63
open PySem PySem.Spec L2 WL
def topS (i : Nat) : Stmt := PySem.Challenge.pw_tworeadings_k63_palindromes_in_a_word.main.body.getD i (.Pass ⟨0, 0, 0, 0⟩)
def w_backwards : SW := (wRet (wRev (wName 0)))
def w_is_palindrome (sbackwards : Sx) : SW := (wRet (wOp oEq (wName 0) (wCall sbackwards 1 (wCons (wName 0) wNil))))
def w_reaches : SW := (wSeq (wSet 1 (wLst wNil))
      (wSeq (wFor (wRng1 (wOp oAdd (wOp oMul (wC (.int 2)) (wB oLen (wCons (wName 0) wNil))) (wC (.int 1)))) (.one 2) (wSeq (wPar 3 4 (wOp oDiv (wOp oSub (wName 2) (wC (.int 1))) (wC (.int 2))) (wOp oDiv (wName 2) (wC (.int 2))))
      (wSeq (wIfS (wTB (wOp oEq (wOp oAndB (wName 2) (wC (.int 1))) (wC (.int 0)))) (wPar 3 4 (wOp oSub (wOp oDiv (wName 2) (wC (.int 2))) (wC (.int 1))) (wOp oDiv (wName 2) (wC (.int 2)))) wSkip)
      (wSeq (wWhile (wAnd (wTB (wOp oGe (wName 3) (wC (.int 0)))) (wAnd (wTB (wOp oLt (wName 4) (wB oLen (wCons (wName 0) wNil)))) (wTB (wOp oEq (wOp oIx (wName 0) (wName 3)) (wOp oIx (wName 0) (wName 4)))))) (wPar 3 4 (wOp oSub (wName 3) (wC (.int 1))) (wOp oAdd (wName 4) (wC (.int 1)))))
      (wApp 1 (wOp oSub (wOp oSub (wName 4) (wName 3)) (wC (.int 1))))))))
      (wRet (wB oTuple (wCons (wName 1) wNil)))))
def w_longest_palindrome (sreaches : Sx) : SW := (wSeq (wSet 1 (wCall sreaches 1 (wCons (wName 0) wNil)))
      (wSeq (wSet 2 (wB oMaxA (wCons (wName 1) wNil)))
      (wSeq (wSet 3 (wM "tuple" oIndexT (wName 1) (wCons (wName 2) wNil)))
      (wSeq (wSet 4 (wOp oDiv (wOp oAdd (wOp oSub (wName 3) (wName 2)) (wC (.int 1))) (wC (.int 2))))
      (wFz 4 (wRet (wTup (wCons (wName 4) (wCons (wSl (wName 0) (wPt (wName 4)) (wPt (wOp oAdd (wName 4) (wName 2)))) wNil)))))))))
def w_palindrome_count (sreaches : Sx) : SW := (wRet (wB oSum (wCons (wLc (wIt (wCall sreaches 1 (wCons (wName 0) wNil))) (.one 1) wYes (wOp oDiv (wOp oAdd (wName 1) (wC (.int 1))) (wC (.int 2))) [1]) wNil)))
def w_longest_end (sis_palindrome : Sx) : SW := (wSeq (wFor (wRng1 (wOp oAdd (wB oLen (wCons (wName 0) wNil)) (wC (.int 1)))) (.one 1) (wIfS (wTest (wCall sis_palindrome 1 (wCons (wSl (wName 0) (wPt (wName 1)) wNo) wNil))) (wRet (wSl (wName 0) (wPt (wName 1)) wNo)) wSkip))
      (wRet (wC (.str []))))
def w_closed (sbackwards : Sx) (slongest_end : Sx) : SW := (wRet (wOp oAdd (wName 0) (wCall sbackwards 1 (wCons (wSl (wName 0) wNo (wPt (wOp oSub (wB oLen (wCons (wName 0) wNil)) (wB oLen (wCons (wCall slongest_end 1 (wCons (wName 0) wNil)) wNil))))) wNil))))
def w__law_same (s_law_same : Sx) : SW := (wSeq (wIfS (wOr (wAnd (wTest (wIsi .tuple (wName 0))) (wTest (wIsi .tuple (wName 1)))) (wAnd (wTest (wIsi .list (wName 0))) (wTest (wIsi .list (wName 1))))) (wRet (wAndV (wOp oEq (wB oLen (wCons (wName 0) wNil)) (wB oLen (wCons (wName 1) wNil))) (wB oAll (wCons (wLc (wRng1 (wB oLen (wCons (wName 0) wNil))) (.one 2) wYes (wCall s_law_same 2 (wCons (wOp oIx (wName 0) (wName 2)) (wCons (wOp oIx (wName 1) (wName 2)) wNil))) [2]) wNil)))) wSkip)
      (wSeq (wIfS (wOr (wTest (wIsi .bool (wName 0))) (wTest (wIsi .bool (wName 1)))) (wRet (wAndV (wIsi .bool (wName 0)) (wAndV (wIsi .bool (wName 1)) (wOp oEq (wName 0) (wName 1))))) wSkip)
      (wSeq (wIfS (wOr (wAnd (wTest (wIsi .int (wName 0))) (wTest (wIsi .int (wName 1)))) (wAnd (wTest (wIsi .str (wName 0))) (wTest (wIsi .str (wName 1))))) (wRet (wOp oEq (wName 0) (wName 1))) wSkip)
      (wRet (wAndV (wOp oIs (wName 0) (wC .non)) (wOp oIs (wName 1) (wC .non)))))))
def w__law_word (s_law_draw : Sx) : SW := (wSeq (wSet 3 (wM "str" oJoin (wC (.str [])) (wCons (wLc (wRng1 (wCall s_law_draw 2 (wCons (wName 0) (wCons (wOp oAdd (wName 1) (wC (.int 1))) wNil)))) (.one 4) wYes (wOp oIx (wC (.str [97, 98, 99, 100, 101, 102, 103, 104, 105, 106, 107, 108, 109, 110, 111, 112, 113, 114, 115, 116, 117, 118, 119, 120, 121, 122])) (wCall s_law_draw 2 (wCons (wName 0) (wCons (wName 2) wNil)))) [4]) wNil)))
      (wSeq (wIfS (wAnd (wTB (wOp oNe (wName 3) (wC (.str [])))) (wTB (wOp oEq (wCall s_law_draw 2 (wCons (wName 0) (wCons (wC (.int 3)) wNil))) (wC (.int 0))))) (wSet 3 (wSl (wOp oMul (wSl (wName 3) wNo (wPt (wOp oAdd (wC (.int 1)) (wCall s_law_draw 2 (wCons (wName 0) (wCons (wC (.int 5)) wNil)))))) (wName 1)) wNo (wPt (wB oLen (wCons (wName 3) wNil))))) wSkip)
      (wRet (wName 3))))
def w__law_turned : SW := (wRet (wM "str" oJoin (wC (.str [])) (wCons (wLc (wRng1 (wB oLen (wCons (wName 0) wNil))) (.one 1) wYes (wOp oIx (wName 0) (wOp oSub (wOp oSub (wB oLen (wCons (wName 0) wNil)) (wC (.int 1))) (wName 1))) [1]) wNil)))
def w__law_all (s_law_turned : Sx) : SW := (wSeq (wSet 1 (wLst wNil))
      (wSeq (wFor (wRng1 (wB oLen (wCons (wName 0) wNil))) (.one 2) (wSet 1 (wOp oAdd (wName 1) (wLc (wRng2 (wC (.int 1)) (wOp oAdd (wOp oSub (wB oLen (wCons (wName 0) wNil)) (wName 2)) (wC (.int 1)))) (.one 3) (wTB (wOp oEq (wSl (wName 0) (wPt (wName 2)) (wPt (wOp oAdd (wName 2) (wName 3)))) (wCall s_law_turned 1 (wCons (wSl (wName 0) (wPt (wName 2)) (wPt (wOp oAdd (wName 2) (wName 3)))) wNil)))) (wTup (wCons (wName 2) (wCons (wName 3) wNil))) [3]))))
      (wRet (wName 1))))
def w__law_closed (s_law_turned : Sx) : SW := (wSeq (wFor (wRng2 (wB oLen (wCons (wName 0) wNil)) (wOp oAdd (wOp oMul (wC (.int 2)) (wB oLen (wCons (wName 0) wNil))) (wC (.int 1)))) (.one 1) (wSeq (wSet 2 (wCall s_law_turned 1 (wCons (wSl (wName 0) wNo (wPt (wOp oSub (wName 1) (wB oLen (wCons (wName 0) wNil))))) wNil)))
      (wIfS (wTB (wOp oEq (wOp oAdd (wName 0) (wName 2)) (wCall s_law_turned 1 (wCons (wOp oAdd (wName 0) (wName 2)) wNil)))) (wRet (wOp oAdd (wName 0) (wName 2))) wSkip)))
      (wRet (wName 0)))
def w__law_fine (s_law_all : Sx) (s_law_same : Sx) (sreaches : Sx) (spalindrome_count : Sx) (slongest_palindrome : Sx) (slongest_end : Sx) (s_law_closed : Sx) (sclosed : Sx) (s_law_turned : Sx) (sis_palindrome : Sx) : SW := (wSeq (wPar 1 2 (wCall s_law_all 1 (wCons (wName 0) wNil)) (wB oLen (wCons (wName 0) wNil)))
      (wSeq (wSet 3 (wOp oMul (wLst (wCons (wC (.int 0)) wNil)) (wOp oAdd (wOp oMul (wC (.int 2)) (wName 2)) (wC (.int 1)))))
      (wSeq (wFor (wIt (wName 1)) (.tup [4, 5]) (wSetI 3 (wB (oInt2 fun i j => max i j) (wCons (wOp oIx (wName 3) (wOp oAdd (wOp oMul (wC (.int 2)) (wName 4)) (wName 5))) (wCons (wName 5) wNil))) (wOp oAdd (wOp oMul (wC (.int 2)) (wName 4)) (wName 5))))
      (wSeq (wIfS (wOr (wNotT (wTest (wCall s_law_same 2 (wCons (wCall sreaches 1 (wCons (wName 0) wNil)) (wCons (wB oTuple (wCons (wName 3) wNil)) wNil))))) (wNotT (wTest (wCall s_law_same 2 (wCons (wCall spalindrome_count 1 (wCons (wName 0) wNil)) (wCons (wB oLen (wCons (wName 1) wNil)) wNil)))))) (wRet (wC (.bl false))) wSkip)
      (wSeq (wSet 6 (wB oMaxA (wCons (wOp oAdd (wLc (wIt (wName 1)) (.tup [4, 5]) wYes (wName 5) [4, 5]) (wLst (wCons (wC (.int 0)) wNil))) wNil)))
      (wSeq (wSet 7 (wLc (wIt (wName 1)) (.tup [4, 5]) (wTB (wOp oEq (wName 5) (wName 6))) (wTup (wCons (wName 4) (wCons (wSl (wName 0) (wPt (wName 4)) (wPt (wOp oAdd (wName 4) (wName 5)))) wNil))) [4, 5]))
      (wSeq (wIfS (wNotT (wTest (wCall s_law_same 2 (wCons (wCall slongest_palindrome 1 (wCons (wName 0) wNil)) (wCons (wIf (wTB (wOp oNe (wName 7) (wLst wNil))) (wOp oIx (wName 7) (wC (.int 0))) (wTup (wCons (wC (.int 0)) (wCons (wC (.str [])) wNil)))) wNil))))) (wRet (wC (.bl false))) wSkip)
      (wSeq (wSet 8 (wB oMaxA (wCons (wOp oAdd (wLc (wIt (wName 1)) (.tup [4, 5]) (wTB (wOp oEq (wOp oAdd (wName 4) (wName 5)) (wName 2))) (wName 5) [4, 5]) (wLst (wCons (wC (.int 0)) wNil))) wNil)))
      (wSeq (wIfS (wOr (wNotT (wTest (wCall s_law_same 2 (wCons (wCall slongest_end 1 (wCons (wName 0) wNil)) (wCons (wSl (wName 0) (wPt (wOp oSub (wName 2) (wName 8))) wNo) wNil))))) (wNotT (wTest (wCall s_law_same 2 (wCons (wCall sclosed 1 (wCons (wName 0) wNil)) (wCons (wCall s_law_closed 1 (wCons (wName 0) wNil)) wNil)))))) (wRet (wC (.bl false))) wSkip)
      (wRet (wAndV (wCall s_law_same 2 (wCons (wCall sis_palindrome 1 (wCons (wName 0) wNil)) (wCons (wOp oEq (wName 0) (wCall s_law_turned 1 (wCons (wName 0) wNil))) wNil))) (wOp oIs (wCall sis_palindrome 1 (wCons (wCall sclosed 1 (wCons (wName 0) wNil)) wNil)) (wC (.bl true))))))))))))))
def w_law (s_law_word : Sx) (s_law_draw : Sx) (s_law_fine : Sx) (s_law_turned : Sx) (s_law_same : Sx) (sreaches : Sx) (sclosed : Sx) (spalindrome_count : Sx) (slongest_palindrome : Sx) : SW := (wSeq (wFor (wRng1 (wC (.int 3))) (.one 2) (wSeq (wSet 3 (wCall s_law_word 3 (wCons (wName 1) (wCons (wOp oIx (wLst (wCons (wC (.int 10)) (wCons (wC (.int 22)) (wCons (wC (.int 30)) wNil)))) (wName 2)) (wCons (wOp oAdd (wC (.int 1)) (wCall s_law_draw 2 (wCons (wName 1) (wCons (wC (.int 3)) wNil)))) wNil)))))
      (wIfS (wOr (wNotT (wTest (wCall s_law_fine 1 (wCons (wName 3) wNil)))) (wOr (wNotT (wTest (wCall s_law_fine 1 (wCons (wSl (wOp oAdd (wName 3) (wCall s_law_turned 1 (wCons (wName 3) wNil))) wNo (wPt (wC (.int 60)))) wNil)))) (wNotT (wTest (wCall s_law_fine 1 (wCons (wOp oAdd (wName 3) (wSl (wCall s_law_turned 1 (wCons (wName 3) wNil)) (wPt (wC (.int 1))) wNo)) wNil)))))) (wRet (wC (.bl false))) wSkip)))
      (wSeq (wSet 4 (wCall s_law_draw 2 (wCons (wName 1) (wCons (wC (.int 61)) wNil))))
      (wSeq (wSet 5 (wOp oMul (wC (.str [97])) (wName 4)))
      (wSeq (wFz 5 (wIfS (wOr (wNotT (wTest (wCall s_law_same 2 (wCons (wCall sreaches 1 (wCons (wName 5) wNil)) (wCons (wB oTuple (wCons (wLc (wRng1 (wOp oAdd (wOp oMul (wC (.int 2)) (wName 4)) (wC (.int 1)))) (.one 7) wYes (wB (oInt2 fun i j => min i j) (wCons (wName 7) (wCons (wOp oSub (wOp oMul (wC (.int 2)) (wName 4)) (wName 7)) wNil))) [7]) wNil)) wNil))))) (wNotT (wTest (wCall s_law_same 2 (wCons (wCall sclosed 1 (wCons (wName 5) wNil)) (wCons (wName 5) wNil)))))) (wRet (wC (.bl false))) wSkip))
      (wSeq (wFz 5 (wIfS (wOr (wNotT (wTest (wCall s_law_same 2 (wCons (wCall spalindrome_count 1 (wCons (wName 5) wNil)) (wCons (wOp oDiv (wOp oMul (wName 4) (wOp oAdd (wName 4) (wC (.int 1)))) (wC (.int 2))) wNil))))) (wNotT (wTest (wCall s_law_same 2 (wCons (wCall slongest_palindrome 1 (wCons (wName 5) wNil)) (wCons (wTup (wCons (wC (.int 0)) (wCons (wName 5) wNil))) wNil)))))) (wRet (wC (.bl false))) wSkip))
      (wSeq (wSet 6 (wSl (wC (.str [97, 98, 99, 100, 101, 102, 103, 104, 105, 106, 107, 108, 109, 110, 111, 112, 113, 114, 115, 116, 117, 118, 119, 120, 121, 122])) wNo (wPt (wOp oAdd (wC (.int 1)) (wCall s_law_draw 2 (wCons (wName 1) (wCons (wC (.int 26)) wNil)))))))
      (wFz 6 (wRet (wAndV (wCall s_law_same 2 (wCons (wB oLen (wCons (wCall sclosed 1 (wCons (wName 6) wNil)) wNil)) (wCons (wOp oSub (wOp oMul (wC (.int 2)) (wB oLen (wCons (wName 6) wNil))) (wC (.int 1))) wNil))) (wAndV (wCall s_law_same 2 (wCons (wCall spalindrome_count 1 (wCons (wName 6) wNil)) (wCons (wB oLen (wCons (wName 6) wNil)) wNil))) (wCall s_law_same 2 (wCons (wCall sclosed 1 (wCons (wC (.str [97, 98, 99, 97])) wNil)) (wCons (wC (.str [97, 98, 99, 97, 99, 98, 97])) wNil)))))))))))))
abbrev st_backwards : Stmt := topS 1
theorem sc_backwards : FnScope ["word"] ["word"] (defScope st_backwards) := ⟨rfl, rfl, rfl, by decide +kernel, rfl, by decide +kernel, by decide +kernel⟩
theorem ok_backwards {P : Program} {w : World} {K : PySem.W.Frag} {mg : Str → Option Value} {base : Heap} {f : Addr} {fd : FuncData} {g : Sx} (F : Fun K "backwards" "backwards" st_backwards f fd) (hm : mg "backwards" = some (.ref f))
    (hs : ∀ ds R, ds.length = 1 → g.f ds R → w_backwards { nx := fun _ => R .non, rt := R } (startW 1 ds)) : Cal P w K mg base AnyB "backwards" 1 ["word"] g :=
  cal_of F hm sc_backwards (fun _ _ _ _ _ _ us hl => match us, hl with | [_], _ => rfl) (fun β hβ cdv A outer s H E hr => have nd := sc_backwards.nd; (pb_one (ps_ret (pw_rev (pw_name 0 (pv 0)))))) hs
abbrev st_is_palindrome : Stmt := topS 3
theorem sc_is_palindrome : FnScope ["word"] ["word"] (defScope st_is_palindrome) := ⟨rfl, rfl, rfl, by decide +kernel, rfl, by decide +kernel, by decide +kernel⟩
theorem ok_is_palindrome {P : Program} {w : World} {K : PySem.W.Frag} {mg : Str → Option Value} {base : Heap} {f : Addr} {fd : FuncData} {g sbackwards : Sx} (F : Fun K "is_palindrome" "is_palindrome" st_is_palindrome f fd) (hm : mg "is_palindrome" = some (.ref f)) (cbackwards : Cal P w K mg base AnyB "backwards" 1 ["word"] sbackwards)
    (hs : ∀ ds R, ds.length = 1 → g.f ds R → w_is_palindrome sbackwards { nx := fun _ => R .non, rt := R } (startW 1 ds)) : Cal P w K mg base AnyB "is_palindrome" 2 ["word"] g :=
  cal_of F hm sc_is_palindrome (fun _ _ _ _ _ _ us hl => match us, hl with | [_], _ => rfl) (fun β hβ cdv A outer s H E hr => have nd := sc_is_palindrome.nd; (pb_one (ps_ret (pw_cmp (d_eq hr.units) (pw_name 0 (pv 0)) (pw_callC cbackwards trivial (hr.mono (by omega)) (pwl_cons (pw_name 0 (pv 0)) pwl_nil)))))) hs
abbrev st_reaches : Stmt := topS 4
theorem sc_reaches : FnScope ["word", "found", "middle", "low", "high"] ["word"] (defScope st_reaches) := ⟨rfl, rfl, rfl, by decide +kernel, rfl, by decide +kernel, by decide +kernel⟩
theorem ok_reaches {P : Program} {w : World} {K : PySem.W.Frag} {mg : Str → Option Value} {base : Heap} {f : Addr} {fd : FuncData} {g : Sx} (F : Fun K "reaches" "reaches" st_reaches f fd) (hm : mg "reaches" = some (.ref f)) (zrange : mg "range" = none) (zlen : mg "len" = none) (ztuple : mg "tuple" = none)
    (hs : ∀ ds R, ds.length = 1 → g.f ds R → w_reaches { nx := fun _ => R .non, rt := R } (startW 5 ds)) : Cal P w K mg base AnyB "reaches" 1 ["word"] g :=
  cal_of F hm sc_reaches (fun _ _ _ _ _ _ us hl => match us, hl with | [_], _ => rfl) (fun β hβ cdv A outer s H E hr => have nd := sc_reaches.nd; (pb_cons (ps_set (i := 1) nd rfl (by first | exact Or.inl rfl | exact Or.inr rfl) (pw_lst pwl_nil))
      (pb_cons (ps_for (t := (.one 2)) (pi_rng1 (pw_bin d_add (pw_bin d_mul pw_int (pw_b c_len zlen (by decide +kernel) (pwl_cons (pw_name 0 (pv 0)) pwl_nil))) pw_int) zrange) (pg_name (i := 2) nd rfl (by first | exact Or.inl rfl | exact Or.inr rfl)) (pb_cons (ps_par (i := 3) (j := 4) rfl nd rfl rfl (by decide) rfl rfl (pw_bin d_div (pw_bin d_sub (pw_name 2 (pv 2)) pw_int) pw_int) (pw_bin d_div (pw_name 2 (pv 2)) pw_int) (by rfl))
      (pb_cons (ps_if (pwt_cmp (d_eq hr.units) (pw_bin d_andB (pw_name 2 (pv 2)) pw_int) pw_int) (pb_one (ps_par (i := 3) (j := 4) rfl nd rfl rfl (by decide) rfl rfl (pw_bin d_sub (pw_bin d_div (pw_name 2 (pv 2)) pw_int) pw_int) (pw_bin d_div (pw_name 2 (pv 2)) pw_int) (by rfl))) pb_nil)
      (pb_cons (ps_while (PWW.pwt (pww_and (pwt_cmp d_ge (pw_name 3 (pv 3)) pw_int) (pww_and (pwt_cmp d_lt (pw_name 4 (pv 4)) (pw_b c_len zlen (by decide +kernel) (pwl_cons (pw_name 0 (pv 0)) pwl_nil))) (pww_and1 (pwt_cmp (d_eq hr.units) (pw_ix d_ix (pw_name 0 (pv 0)) (pw_name 3 (pv 3))) (pw_ix d_ix (pw_name 0 (pv 0)) (pw_name 4 (pv 4)))))))) (pb_one (ps_par (i := 3) (j := 4) rfl nd rfl rfl (by decide) rfl rfl (pw_bin d_sub (pw_name 3 (pv 3)) pw_int) (pw_bin d_add (pw_name 4 (pv 4)) pw_int) (by rfl))))
      (pb_one (ps_app (pv 1) (pw_bin d_sub (pw_bin d_sub (pw_name 4 (pv 4)) (pw_name 3 (pv 3))) pw_int)))))))
      (pb_one (ps_ret (pw_ty c_tuple ztuple (by decide +kernel) (pwl_cons (pw_name 1 (pv 1)) pwl_nil))))))) hs
abbrev st_longest_palindrome : Stmt := topS 5
theorem sc_longest_palindrome : FnScope ["word", "rows", "best", "middle", "place"] ["word"] (defScope st_longest_palindrome) := ⟨rfl, rfl, rfl, by decide +kernel, rfl, by decide +kernel, by decide +kernel⟩
theorem ok_longest_palindrome {P : Program} {w : World} {K : PySem.W.Frag} {mg : Str → Option Value} {base : Heap} {f : Addr} {fd : FuncData} {g sreaches : Sx} (F : Fun K "longest_palindrome" "longest_palindrome" st_longest_palindrome f fd) (hm : mg "longest_palindrome" = some (.ref f)) (creaches : Cal P w K mg base AnyB "reaches" 1 ["word"] sreaches) (zmax : mg "max" = none)
    (hs : ∀ ds R, ds.length = 1 → g.f ds R → w_longest_palindrome sreaches { nx := fun _ => R .non, rt := R } (startW 5 ds)) : Cal P w K mg base AnyB "longest_palindrome" 2 ["word"] g :=
  cal_of F hm sc_longest_palindrome (fun _ _ _ _ _ _ us hl => match us, hl with | [_], _ => rfl) (fun β hβ cdv A outer s H E hr => have nd := sc_longest_palindrome.nd; (pb_cons (ps_set (i := 1) nd rfl (by first | exact Or.inl rfl | exact Or.inr rfl) (pw_callC creaches trivial (hr.mono (by omega)) (pwl_cons (pw_name 0 (pv 0)) pwl_nil)))
      (pb_cons (ps_set (i := 2) nd rfl (by first | exact Or.inl rfl | exact Or.inr rfl) (pw_b (c_maxA rfl hr.units) zmax (by decide +kernel) (pwl_cons (pw_name 1 (pv 1)) pwl_nil)))
      (pb_cons (ps_set (i := 3) nd rfl (by first | exact Or.inl rfl | exact Or.inr rfl) (pw_m PySem.F.plainAttrs_tuple PySem.F.slot_tuple_index PySem.F.type_tuple_index m_indexT (pw_name 1 (pv 1)) (pwl_cons (pw_name 2 (pv 2)) pwl_nil)))
      (pb_cons (ps_set (i := 4) nd rfl (by first | exact Or.inl rfl | exact Or.inr rfl) (pw_bin d_div (pw_bin d_add (pw_bin d_sub (pw_name 3 (pv 3)) (pw_name 2 (pv 2))) pw_int) pw_int))
      (pb_one (ps_fz 4 (ps_ret (pw_tup (pwl_cons (pw_name 4 (pv 4)) (pwl_cons (pw_slice (pw_name 0 (pv 0)) (pp_some (pw_name 4 (pv 4))) (pp_some (pw_bin d_add (pw_name 4 (pv 4)) (pw_name 2 (pv 2))))) pwl_nil))))))))))) hs
abbrev st_palindrome_count : Stmt := topS 6
theorem sc_palindrome_count : FnScope ["word", "size"] ["word"] (defScope st_palindrome_count) := ⟨rfl, rfl, rfl, by decide +kernel, rfl, by decide +kernel, by decide +kernel⟩
theorem ok_palindrome_count {P : Program} {w : World} {K : PySem.W.Frag} {mg : Str → Option Value} {base : Heap} {f : Addr} {fd : FuncData} {g sreaches : Sx} (F : Fun K "palindrome_count" "palindrome_count" st_palindrome_count f fd) (hm : mg "palindrome_count" = some (.ref f)) (creaches : Cal P w K mg base AnyB "reaches" 1 ["word"] sreaches) (zsum : mg "sum" = none)
    (hs : ∀ ds R, ds.length = 1 → g.f ds R → w_palindrome_count sreaches { nx := fun _ => R .non, rt := R } (startW 2 ds)) : Cal P w K mg base AnyB "palindrome_count" 2 ["word"] g :=
  cal_of F hm sc_palindrome_count (fun _ _ _ _ _ _ us hl => match us, hl with | [_], _ => rfl) (fun β hβ cdv A outer s H E hr => have nd := sc_palindrome_count.nd; (pb_one (ps_ret (pw_b (c_sum rfl) zsum (by decide +kernel) (pwl_cons (pw_lc (z := (s, H, 0, [], [])) (own := [("size", 1)]) nd (pi_val (pw_callC creaches trivial (hr.mono (by omega)) (pwl_cons (pw_name 0 (pv 0)) pwl_nil))) (blkOk_by (N := ["word", "size"]) (sc := defScope st_palindrome_count) (by decide +kernel)) (fun _ _ _ _ _ => (pg_name (i := 1) nd rfl (by first | exact Or.inl rfl | exact Or.inr rfl))) (fun _ _ _ _ _ => ptw_nil) (fun _ _ _ _ _ => (pw_bin d_div (pw_bin d_add (pw_name 1 (pv 1)) pw_int) pw_int))) pwl_nil))))) hs
abbrev st_longest_end : Stmt := topS 7
theorem sc_longest_end : FnScope ["word", "k"] ["word"] (defScope st_longest_end) := ⟨rfl, rfl, rfl, by decide +kernel, rfl, by decide +kernel, by decide +kernel⟩
theorem ok_longest_end {P : Program} {w : World} {K : PySem.W.Frag} {mg : Str → Option Value} {base : Heap} {f : Addr} {fd : FuncData} {g sis_palindrome : Sx} (F : Fun K "longest_end" "longest_end" st_longest_end f fd) (hm : mg "longest_end" = some (.ref f)) (cis_palindrome : Cal P w K mg base AnyB "is_palindrome" 2 ["word"] sis_palindrome) (zrange : mg "range" = none) (zlen : mg "len" = none)
    (hs : ∀ ds R, ds.length = 1 → g.f ds R → w_longest_end sis_palindrome { nx := fun _ => R .non, rt := R } (startW 2 ds)) : Cal P w K mg base AnyB "longest_end" 3 ["word"] g :=
  cal_of F hm sc_longest_end (fun _ _ _ _ _ _ us hl => match us, hl with | [_], _ => rfl) (fun β hβ cdv A outer s H E hr => have nd := sc_longest_end.nd; (pb_cons (ps_for (t := (.one 1)) (pi_rng1 (pw_bin d_add (pw_b c_len zlen (by decide +kernel) (pwl_cons (pw_name 0 (pv 0)) pwl_nil)) pw_int) zrange) (pg_name (i := 1) nd rfl (by first | exact Or.inl rfl | exact Or.inr rfl)) (pb_one (ps_if (pwt_of (pw_callC cis_palindrome trivial (hr.mono (by omega)) (pwl_cons (pw_slice (pw_name 0 (pv 0)) (pp_some (pw_name 1 (pv 1))) pp_none) pwl_nil))) (pb_one (ps_ret (pw_slice (pw_name 0 (pv 0)) (pp_some (pw_name 1 (pv 1))) pp_none))) pb_nil)))
      (pb_one (ps_ret (pw_str (l := []) rfl (okS_dec (by decide))))))) hs
abbrev st_closed : Stmt := topS 8
theorem sc_closed : FnScope ["word"] ["word"] (defScope st_closed) := ⟨rfl, rfl, rfl, by decide +kernel, rfl, by decide +kernel, by decide +kernel⟩
theorem ok_closed {P : Program} {w : World} {K : PySem.W.Frag} {mg : Str → Option Value} {base : Heap} {f : Addr} {fd : FuncData} {g sbackwards slongest_end : Sx} (F : Fun K "closed" "closed" st_closed f fd) (hm : mg "closed" = some (.ref f)) (cbackwards : Cal P w K mg base AnyB "backwards" 1 ["word"] sbackwards) (clongest_end : Cal P w K mg base AnyB "longest_end" 3 ["word"] slongest_end) (zlen : mg "len" = none)
    (hs : ∀ ds R, ds.length = 1 → g.f ds R → w_closed sbackwards slongest_end { nx := fun _ => R .non, rt := R } (startW 1 ds)) : Cal P w K mg base AnyB "closed" 4 ["word"] g :=
  cal_of F hm sc_closed (fun _ _ _ _ _ _ us hl => match us, hl with | [_], _ => rfl) (fun β hβ cdv A outer s H E hr => have nd := sc_closed.nd; (pb_one (ps_ret (pw_bin d_add (pw_name 0 (pv 0)) (pw_callC cbackwards trivial (hr.mono (by omega)) (pwl_cons (pw_slice (pw_name 0 (pv 0)) pp_none (pp_some (pw_bin d_sub (pw_b c_len zlen (by decide +kernel) (pwl_cons (pw_name 0 (pv 0)) pwl_nil)) (pw_b c_len zlen (by decide +kernel) (pwl_cons (pw_callC clongest_end trivial (hr.mono (by omega)) (pwl_cons (pw_name 0 (pv 0)) pwl_nil)) pwl_nil))))) pwl_nil)))))) hs
abbrev st__law_same : Stmt := topS 13
theorem sc__law_same : FnScope ["a", "b", "k"] ["a", "b"] (defScope st__law_same) := ⟨rfl, rfl, rfl, by decide +kernel, rfl, by decide +kernel, by decide +kernel⟩
theorem ok__law_same {P : Program} {w : World} {K : PySem.W.Frag} {mg : Str → Option Value} {base : Heap} {f : Addr} {fd : FuncData} {g s_law_same : Sx} (F : Fun K "_law_same" "_law_same" st__law_same f fd) (hm : mg "_law_same" = some (.ref f)) {k : Nat} (hk : 0 ≤ k) (c_law_same : Cal P w K mg base AnyB "_law_same" k ["a", "b"] s_law_same) (zisinstance : mg "isinstance" = none) (ztuple : mg "tuple" = none) (zlist : mg "list" = none) (zlen : mg "len" = none) (zall : mg "all" = none) (zrange : mg "range" = none) (zbool : mg "bool" = none) (zint : mg "int" = none) (zstr : mg "str" = none)
    (hs : ∀ ds R, ds.length = 2 → g.f ds R → w__law_same s_law_same { nx := fun _ => R .non, rt := R } (startW 3 ds)) : Cal P w K mg base AnyB "_law_same" (k + 1) ["a", "b"] g :=
  cal_of F hm sc__law_same (fun _ _ _ _ _ _ us hl => match us, hl with | [_, _], _ => rfl) (fun β hβ cdv A outer s H E hr => have nd := sc__law_same.nd; (pb_cons (ps_if (PWW.pwt (pww_or (PWW.pwt (pww_and (pwt_of (pw_isi .tuple (pw_name 0 (pv 0)) zisinstance ztuple (by decide +kernel))) (pww_and1 (pwt_of (pw_isi .tuple (pw_name 1 (pv 1)) zisinstance ztuple (by decide +kernel)))))) (pww_or1 (PWW.pwt (pww_and (pwt_of (pw_isi .list (pw_name 0 (pv 0)) zisinstance zlist (by decide +kernel))) (pww_and1 (pwt_of (pw_isi .list (pw_name 1 (pv 1)) zisinstance zlist (by decide +kernel))))))))) (pb_one (ps_ret (pw_andV (pw_cmp (d_eq hr.units) (pw_b c_len zlen (by decide +kernel) (pwl_cons (pw_name 0 (pv 0)) pwl_nil)) (pw_b c_len zlen (by decide +kernel) (pwl_cons (pw_name 1 (pv 1)) pwl_nil))) (pw_one (pw_b (c_all rfl) zall (by decide +kernel) (pwl_cons (pw_lc (z := (s, H, 0, [], [])) (own := [("k", 2)]) nd (pi_rng1 (pw_b c_len zlen (by decide +kernel) (pwl_cons (pw_name 0 (pv 0)) pwl_nil)) zrange) (blkOk_by (N := ["a", "b", "k"]) (sc := defScope st__law_same) (by decide +kernel)) (fun _ _ _ _ _ => (pg_name (i := 2) nd rfl (by first | exact Or.inl rfl | exact Or.inr rfl))) (fun _ _ _ _ _ => ptw_nil) (fun _ _ _ _ _ => (pw_callC c_law_same trivial (hr.mono (by omega)) (pwl_cons (pw_ix d_ix (pw_name 0 (pv 0)) (pw_name 2 (pv 2))) (pwl_cons (pw_ix d_ix (pw_name 1 (pv 1)) (pw_name 2 (pv 2))) pwl_nil))))) pwl_nil)))))) pb_nil)
      (pb_cons (ps_if (PWW.pwt (pww_or (pwt_of (pw_isi .bool (pw_name 0 (pv 0)) zisinstance zbool (by decide +kernel))) (pww_or1 (pwt_of (pw_isi .bool (pw_name 1 (pv 1)) zisinstance zbool (by decide +kernel)))))) (pb_one (ps_ret (pw_andV (pw_isi .bool (pw_name 0 (pv 0)) zisinstance zbool (by decide +kernel)) (pw_andV (pw_isi .bool (pw_name 1 (pv 1)) zisinstance zbool (by decide +kernel)) (pw_one (pw_cmp (d_eq hr.units) (pw_name 0 (pv 0)) (pw_name 1 (pv 1)))))))) pb_nil)
      (pb_cons (ps_if (PWW.pwt (pww_or (PWW.pwt (pww_and (pwt_of (pw_isi .int (pw_name 0 (pv 0)) zisinstance zint (by decide +kernel))) (pww_and1 (pwt_of (pw_isi .int (pw_name 1 (pv 1)) zisinstance zint (by decide +kernel)))))) (pww_or1 (PWW.pwt (pww_and (pwt_of (pw_isi .str (pw_name 0 (pv 0)) zisinstance zstr (by decide +kernel))) (pww_and1 (pwt_of (pw_isi .str (pw_name 1 (pv 1)) zisinstance zstr (by decide +kernel))))))))) (pb_one (ps_ret (pw_cmp (d_eq hr.units) (pw_name 0 (pv 0)) (pw_name 1 (pv 1))))) pb_nil)
      (pb_one (ps_ret (pw_andV (pw_cmp d_is (pw_name 0 (pv 0)) pw_non) (pw_one (pw_cmp d_is (pw_name 1 (pv 1)) pw_non))))))))) hs
abbrev st__law_word : Stmt := topS 14
theorem sc__law_word : FnScope ["box", "most", "many", "word", "k"] ["box", "most", "many"] (defScope st__law_word) := ⟨rfl, rfl, rfl, by decide +kernel, rfl, by decide +kernel, by decide +kernel⟩
theorem ok__law_word {P : Program} {w : World} {K : PySem.W.Frag} {mg : Str → Option Value} {base : Heap} {f : Addr} {fd : FuncData} {g s_law_draw : Sx} (F : Fun K "_law_word" "_law_word" st__law_word f fd) (hm : mg "_law_word" = some (.ref f)) (c_law_draw : Cal P w K mg base IsBox "_law_draw" 2 ["box", "many"] s_law_draw) (zrange : mg "range" = none) (zlen : mg "len" = none)
    (hs : ∀ ds R, ds.length = 3 → g.f ds R → w__law_word s_law_draw { nx := fun _ => R .non, rt := R } (startW 5 ds)) : Cal P w K mg base IsBox "_law_word" 3 ["box", "most", "many"] g :=
  cal_of F hm sc__law_word (fun _ _ _ _ _ _ us hl => match us, hl with | [_, _, _], _ => rfl) (fun β hβ cdv A outer s H E hr => have nd := sc__law_word.nd; (pb_cons (ps_set (i := 3) nd rfl (by first | exact Or.inl rfl | exact Or.inr rfl) (pw_m PySem.F.plainAttrs_str PySem.F.slot_str_join PySem.F.type_str_join m_join (pw_str (l := []) rfl (okS_dec (by decide))) (pwl_cons (pw_lc (z := (s, H, 0, [], [])) (own := [("k", 4)]) nd (pi_rng1 (pw_callC c_law_draw hβ (hr.mono (by omega)) (pwl_cons (pw_name 0 (pv 0)) (pwl_cons (pw_bin d_add (pw_name 1 (pv 1)) pw_int) pwl_nil))) zrange) (blkOk_by (N := ["box", "most", "many", "word", "k"]) (sc := defScope st__law_word) (by decide +kernel)) (fun _ _ _ _ _ => (pg_name (i := 4) nd rfl (by first | exact Or.inl rfl | exact Or.inr rfl))) (fun _ _ _ _ _ => ptw_nil) (fun _ _ _ _ _ => (pw_ix d_ix (pw_str (l := [97, 98, 99, 100, 101, 102, 103, 104, 105, 106, 107, 108, 109, 110, 111, 112, 113, 114, 115, 116, 117, 118, 119, 120, 121, 122]) rfl (okS_dec (by decide))) (pw_callC c_law_draw hβ (hr.mono (by omega)) (pwl_cons (pw_name 0 (pv 0)) (pwl_cons (pw_name 2 (pv 2)) pwl_nil)))))) pwl_nil)))
      (pb_cons (ps_if (PWW.pwt (pww_and (pwt_cmp (d_ne hr.units) (pw_name 3 (pv 3)) (pw_str (l := []) rfl (okS_dec (by decide)))) (pww_and1 (pwt_cmp (d_eq hr.units) (pw_callC c_law_draw hβ (hr.mono (by omega)) (pwl_cons (pw_name 0 (pv 0)) (pwl_cons pw_int pwl_nil))) pw_int)))) (pb_one (ps_set (i := 3) nd rfl (by first | exact Or.inl rfl | exact Or.inr rfl) (pw_slice (pw_bin d_mul (pw_slice (pw_name 3 (pv 3)) pp_none (pp_some (pw_bin d_add pw_int (pw_callC c_law_draw hβ (hr.mono (by omega)) (pwl_cons (pw_name 0 (pv 0)) (pwl_cons pw_int pwl_nil)))))) (pw_name 1 (pv 1))) pp_none (pp_some (pw_b c_len zlen (by decide +kernel) (pwl_cons (pw_name 3 (pv 3)) pwl_nil)))))) pb_nil)
      (pb_one (ps_ret (pw_name 3 (pv 3))))))) hs
abbrev st__law_turned : Stmt := topS 15
theorem sc__law_turned : FnScope ["word", "k"] ["word"] (defScope st__law_turned) := ⟨rfl, rfl, rfl, by decide +kernel, rfl, by decide +kernel, by decide +kernel⟩
theorem ok__law_turned {P : Program} {w : World} {K : PySem.W.Frag} {mg : Str → Option Value} {base : Heap} {f : Addr} {fd : FuncData} {g : Sx} (F : Fun K "_law_turned" "_law_turned" st__law_turned f fd) (hm : mg "_law_turned" = some (.ref f)) (zrange : mg "range" = none) (zlen : mg "len" = none)
    (hs : ∀ ds R, ds.length = 1 → g.f ds R → w__law_turned { nx := fun _ => R .non, rt := R } (startW 2 ds)) : Cal P w K mg base AnyB "_law_turned" 1 ["word"] g :=
  cal_of F hm sc__law_turned (fun _ _ _ _ _ _ us hl => match us, hl with | [_], _ => rfl) (fun β hβ cdv A outer s H E hr => have nd := sc__law_turned.nd; (pb_one (ps_ret (pw_m PySem.F.plainAttrs_str PySem.F.slot_str_join PySem.F.type_str_join m_join (pw_str (l := []) rfl (okS_dec (by decide))) (pwl_cons (pw_lc (z := (s, H, 0, [], [])) (own := [("k", 1)]) nd (pi_rng1 (pw_b c_len zlen (by decide +kernel) (pwl_cons (pw_name 0 (pv 0)) pwl_nil)) zrange) (blkOk_by (N := ["word", "k"]) (sc := defScope st__law_turned) (by decide +kernel)) (fun _ _ _ _ _ => (pg_name (i := 1) nd rfl (by first | exact Or.inl rfl | exact Or.inr rfl))) (fun _ _ _ _ _ => ptw_nil) (fun _ _ _ _ _ => (pw_ix d_ix (pw_name 0 (pv 0)) (pw_bin d_sub (pw_bin d_sub (pw_b c_len zlen (by decide +kernel) (pwl_cons (pw_name 0 (pv 0)) pwl_nil)) pw_int) (pw_name 1 (pv 1)))))) pwl_nil))))) hs
abbrev st__law_all : Stmt := topS 16
theorem sc__law_all : FnScope ["word", "found", "place", "size"] ["word"] (defScope st__law_all) := ⟨rfl, rfl, rfl, by decide +kernel, rfl, by decide +kernel, by decide +kernel⟩
theorem ok__law_all {P : Program} {w : World} {K : PySem.W.Frag} {mg : Str → Option Value} {base : Heap} {f : Addr} {fd : FuncData} {g s_law_turned : Sx} (F : Fun K "_law_all" "_law_all" st__law_all f fd) (hm : mg "_law_all" = some (.ref f)) (c_law_turned : Cal P w K mg base AnyB "_law_turned" 1 ["word"] s_law_turned) (zrange : mg "range" = none) (zlen : mg "len" = none)
    (hs : ∀ ds R, ds.length = 1 → g.f ds R → w__law_all s_law_turned { nx := fun _ => R .non, rt := R } (startW 4 ds)) : Cal P w K mg base AnyB "_law_all" 2 ["word"] g :=
  cal_of F hm sc__law_all (fun _ _ _ _ _ _ us hl => match us, hl with | [_], _ => rfl) (fun β hβ cdv A outer s H E hr => have nd := sc__law_all.nd; (pb_cons (ps_set (i := 1) nd rfl (by first | exact Or.inl rfl | exact Or.inr rfl) (pw_lst pwl_nil))
      (pb_cons (ps_for (t := (.one 2)) (pi_rng1 (pw_b c_len zlen (by decide +kernel) (pwl_cons (pw_name 0 (pv 0)) pwl_nil)) zrange) (pg_name (i := 2) nd rfl (by first | exact Or.inl rfl | exact Or.inr rfl)) (pb_one (ps_set (i := 1) nd rfl (by first | exact Or.inl rfl | exact Or.inr rfl) (pw_bin d_add (pw_name 1 (pv 1)) (pw_lc (z := (s, H, 0, [], [])) (own := [("size", 3)]) nd (pi_rng2 pw_int (pw_bin d_add (pw_bin d_sub (pw_b c_len zlen (by decide +kernel) (pwl_cons (pw_name 0 (pv 0)) pwl_nil)) (pw_name 2 (pv 2))) pw_int) zrange) (blkOk_by (N := ["word", "found", "place", "size"]) (sc := defScope st__law_all) (by decide +kernel)) (fun _ _ _ _ _ => (pg_name (i := 3) nd rfl (by first | exact Or.inl rfl | exact Or.inr rfl))) (fun _ _ _ _ _ => (ptw_one (pwt_cmp (d_eq hr.units) (pw_slice (pw_name 0 (pv 0)) (pp_some (pw_name 2 (pv 2))) (pp_some (pw_bin d_add (pw_name 2 (pv 2)) (pw_name 3 (pv 3))))) (pw_callC c_law_turned trivial (hr.mono (by omega)) (pwl_cons (pw_slice (pw_name 0 (pv 0)) (pp_some (pw_name 2 (pv 2))) (pp_some (pw_bin d_add (pw_name 2 (pv 2)) (pw_name 3 (pv 3))))) pwl_nil))))) (fun _ _ _ _ _ => (pw_tup (pwl_cons (pw_name 2 (pv 2)) (pwl_cons (pw_name 3 (pv 3)) pwl_nil)))))))))
      (pb_one (ps_ret (pw_name 1 (pv 1))))))) hs
abbrev st__law_closed : Stmt := topS 17
theorem sc__law_closed : FnScope ["word", "size", "rest"] ["word"] (defScope st__law_closed) := ⟨rfl, rfl, rfl, by decide +kernel, rfl, by decide +kernel, by decide +kernel⟩
theorem ok__law_closed {P : Program} {w : World} {K : PySem.W.Frag} {mg : Str → Option Value} {base : Heap} {f : Addr} {fd : FuncData} {g s_law_turned : Sx} (F : Fun K "_law_closed" "_law_closed" st__law_closed f fd) (hm : mg "_law_closed" = some (.ref f)) (c_law_turned : Cal P w K mg base AnyB "_law_turned" 1 ["word"] s_law_turned) (zrange : mg "range" = none) (zlen : mg "len" = none)
    (hs : ∀ ds R, ds.length = 1 → g.f ds R → w__law_closed s_law_turned { nx := fun _ => R .non, rt := R } (startW 3 ds)) : Cal P w K mg base AnyB "_law_closed" 2 ["word"] g :=
  cal_of F hm sc__law_closed (fun _ _ _ _ _ _ us hl => match us, hl with | [_], _ => rfl) (fun β hβ cdv A outer s H E hr => have nd := sc__law_closed.nd; (pb_cons (ps_for (t := (.one 1)) (pi_rng2 (pw_b c_len zlen (by decide +kernel) (pwl_cons (pw_name 0 (pv 0)) pwl_nil)) (pw_bin d_add (pw_bin d_mul pw_int (pw_b c_len zlen (by decide +kernel) (pwl_cons (pw_name 0 (pv 0)) pwl_nil))) pw_int) zrange) (pg_name (i := 1) nd rfl (by first | exact Or.inl rfl | exact Or.inr rfl)) (pb_cons (ps_set (i := 2) nd rfl (by first | exact Or.inl rfl | exact Or.inr rfl) (pw_callC c_law_turned trivial (hr.mono (by omega)) (pwl_cons (pw_slice (pw_name 0 (pv 0)) pp_none (pp_some (pw_bin d_sub (pw_name 1 (pv 1)) (pw_b c_len zlen (by decide +kernel) (pwl_cons (pw_name 0 (pv 0)) pwl_nil))))) pwl_nil)))
      (pb_one (ps_if (pwt_cmp (d_eq hr.units) (pw_bin d_add (pw_name 0 (pv 0)) (pw_name 2 (pv 2))) (pw_callC c_law_turned trivial (hr.mono (by omega)) (pwl_cons (pw_bin d_add (pw_name 0 (pv 0)) (pw_name 2 (pv 2))) pwl_nil))) (pb_one (ps_ret (pw_bin d_add (pw_name 0 (pv 0)) (pw_name 2 (pv 2))))) pb_nil))))
      (pb_one (ps_ret (pw_name 0 (pv 0)))))) hs
abbrev st__law_fine : Stmt := topS 18
theorem sc__law_fine : FnScope ["word", "rows", "n", "due", "place", "size", "most", "best", "last"] ["word"] (defScope st__law_fine) := ⟨rfl, rfl, rfl, by decide +kernel, rfl, by decide +kernel, by decide +kernel⟩
theorem ok__law_fine {P : Program} {w : World} {K : PySem.W.Frag} {mg : Str → Option Value} {base : Heap} {f : Addr} {fd : FuncData} {g s_law_all s_law_same sreaches spalindrome_count slongest_palindrome slongest_end s_law_closed sclosed s_law_turned sis_palindrome : Sx} (F : Fun K "_law_fine" "_law_fine" st__law_fine f fd) (hm : mg "_law_fine" = some (.ref f)) (c_law_all : Cal P w K mg base AnyB "_law_all" 2 ["word"] s_law_all) (c_law_same : Cal P w K mg base AnyB "_law_same" 5 ["a", "b"] s_law_same) (creaches : Cal P w K mg base AnyB "reaches" 1 ["word"] sreaches) (cpalindrome_count : Cal P w K mg base AnyB "palindrome_count" 2 ["word"] spalindrome_count) (clongest_palindrome : Cal P w K mg base AnyB "longest_palindrome" 2 ["word"] slongest_palindrome) (clongest_end : Cal P w K mg base AnyB "longest_end" 3 ["word"] slongest_end) (c_law_closed : Cal P w K mg base AnyB "_law_closed" 2 ["word"] s_law_closed) (cclosed : Cal P w K mg base AnyB "closed" 4 ["word"] sclosed) (c_law_turned : Cal P w K mg base AnyB "_law_turned" 1 ["word"] s_law_turned) (cis_palindrome : Cal P w K mg base AnyB "is_palindrome" 2 ["word"] sis_palindrome) (zlen : mg "len" = none) (zmax : mg "max" = none) (ztuple : mg "tuple" = none)
    (hs : ∀ ds R, ds.length = 1 → g.f ds R → w__law_fine s_law_all s_law_same sreaches spalindrome_count slongest_palindrome slongest_end s_law_closed sclosed s_law_turned sis_palindrome { nx := fun _ => R .non, rt := R } (startW 9 ds)) : Cal P w K mg base AnyB "_law_fine" 6 ["word"] g :=
  cal_of F hm sc__law_fine (fun _ _ _ _ _ _ us hl => match us, hl with | [_], _ => rfl) (fun β hβ cdv A outer s H E hr => have nd := sc__law_fine.nd; (pb_cons (ps_parT (i := 1) (j := 2) nd rfl rfl (by decide) (by first | exact Or.inl rfl | exact Or.inr rfl) (by first | exact Or.inl rfl | exact Or.inr rfl) (pw_callC c_law_all trivial (hr.mono (by omega)) (pwl_cons (pw_name 0 (pv 0)) pwl_nil)) (pw_b c_len zlen (by decide +kernel) (pwl_cons (pw_name 0 (pv 0)) pwl_nil)))
      (pb_cons (ps_set (i := 3) nd rfl (by first | exact Or.inl rfl | exact Or.inr rfl) (pw_bin d_mul (pw_lst (pwl_cons pw_int pwl_nil)) (pw_bin d_add (pw_bin d_mul pw_int (pw_name 2 (pv 2))) pw_int)))
      (pb_cons (ps_for (t := (.tup [4, 5])) (pi_val (pw_name 1 (pv 1))) (pg_tup rfl (pgs_cons (pg_name (i := 4) nd rfl (by first | exact Or.inl rfl | exact Or.inr rfl)) (pgs_cons (pg_name (i := 5) nd rfl (by first | exact Or.inl rfl | exact Or.inr rfl)) pgs_nil))) (pb_one (ps_setI (i := 3) (pv 3) (pw_b (c_max2 rfl) zmax (by decide +kernel) (pwl_cons (pw_ix d_ix (pw_name 3 (pv 3)) (pw_bin d_add (pw_bin d_mul pw_int (pw_name 4 (pv 4))) (pw_name 5 (pv 5)))) (pwl_cons (pw_name 5 (pv 5)) pwl_nil))) (pw_bin d_add (pw_bin d_mul pw_int (pw_name 4 (pv 4))) (pw_name 5 (pv 5))))))
      (pb_cons (ps_if (PWW.pwt (pww_or (pwt_not (pwt_of (pw_callC c_law_same trivial (hr.mono (by omega)) (pwl_cons (pw_callC creaches trivial (hr.mono (by omega)) (pwl_cons (pw_name 0 (pv 0)) pwl_nil)) (pwl_cons (pw_ty c_tuple ztuple (by decide +kernel) (pwl_cons (pw_name 3 (pv 3)) pwl_nil)) pwl_nil))))) (pww_or1 (pwt_not (pwt_of (pw_callC c_law_same trivial (hr.mono (by omega)) (pwl_cons (pw_callC cpalindrome_count trivial (hr.mono (by omega)) (pwl_cons (pw_name 0 (pv 0)) pwl_nil)) (pwl_cons (pw_b c_len zlen (by decide +kernel) (pwl_cons (pw_name 1 (pv 1)) pwl_nil)) pwl_nil)))))))) (pb_one (ps_ret pw_bl)) pb_nil)
      (pb_cons (ps_set (i := 6) nd rfl (by first | exact Or.inl rfl | exact Or.inr rfl) (pw_b (c_maxA rfl hr.units) zmax (by decide +kernel) (pwl_cons (pw_bin d_add (pw_lc (z := (s, H, 0, [], [])) (own := [("place", 4), ("size", 5)]) nd (pi_val (pw_name 1 (pv 1))) (blkOk_by (N := ["word", "rows", "n", "due", "place", "size", "most", "best", "last"]) (sc := defScope st__law_fine) (by decide +kernel)) (fun _ _ _ _ _ => (pg_tup rfl (pgs_cons (pg_name (i := 4) nd rfl (by first | exact Or.inl rfl | exact Or.inr rfl)) (pgs_cons (pg_name (i := 5) nd rfl (by first | exact Or.inl rfl | exact Or.inr rfl)) pgs_nil)))) (fun _ _ _ _ _ => ptw_nil) (fun _ _ _ _ _ => (pw_name 5 (pv 5)))) (pw_lst (pwl_cons pw_int pwl_nil))) pwl_nil)))
      (pb_cons (ps_setLc (z := (s, H, 0, [], [])) (i := 7) (own := [("place", 4), ("size", 5)]) nd rfl rfl (sw_true rfl rfl rfl (by decide +kernel)) (pi_val (pw_name 1 (pv 1))) (blkOk_by (N := ["word", "rows", "n", "due", "place", "size", "most", "best", "last"]) (sc := defScope st__law_fine) (by decide +kernel)) (fun _ _ _ _ _ => (pg_tup rfl (pgs_cons (pg_name (i := 4) nd rfl (by first | exact Or.inl rfl | exact Or.inr rfl)) (pgs_cons (pg_name (i := 5) nd rfl (by first | exact Or.inl rfl | exact Or.inr rfl)) pgs_nil)))) (fun _ _ _ _ _ => (ptw_one (pwt_cmp (d_eq hr.units) (pw_name 5 (pv 5)) (pw_name 6 (pv 6))))) (fun _ _ _ _ _ => (pw_tup (pwl_cons (pw_name 4 (pv 4)) (pwl_cons (pw_slice (pw_name 0 (pv 0)) (pp_some (pw_name 4 (pv 4))) (pp_some (pw_bin d_add (pw_name 4 (pv 4)) (pw_name 5 (pv 5))))) pwl_nil)))))
      (pb_cons (ps_if (pwt_not (pwt_of (pw_callC c_law_same trivial (hr.mono (by omega)) (pwl_cons (pw_callC clongest_palindrome trivial (hr.mono (by omega)) (pwl_cons (pw_name 0 (pv 0)) pwl_nil)) (pwl_cons (pw_if (pwt_cmp (d_ne hr.units) (pw_name 7 (pv 7)) (pw_lst pwl_nil)) (pw_ix d_ix (pw_name 7 (pv 7)) pw_int) (pw_tup (pwl_cons pw_int (pwl_cons (pw_str (l := []) rfl (okS_dec (by decide))) pwl_nil)))) pwl_nil))))) (pb_one (ps_ret pw_bl)) pb_nil)
      (pb_cons (ps_set (i := 8) nd rfl (by first | exact Or.inl rfl | exact Or.inr rfl) (pw_b (c_maxA rfl hr.units) zmax (by decide +kernel) (pwl_cons (pw_bin d_add (pw_lc (z := (s, H, 0, [], [])) (own := [("place", 4), ("size", 5)]) nd (pi_val (pw_name 1 (pv 1))) (blkOk_by (N := ["word", "rows", "n", "due", "place", "size", "most", "best", "last"]) (sc := defScope st__law_fine) (by decide +kernel)) (fun _ _ _ _ _ => (pg_tup rfl (pgs_cons (pg_name (i := 4) nd rfl (by first | exact Or.inl rfl | exact Or.inr rfl)) (pgs_cons (pg_name (i := 5) nd rfl (by first | exact Or.inl rfl | exact Or.inr rfl)) pgs_nil)))) (fun _ _ _ _ _ => (ptw_one (pwt_cmp (d_eq hr.units) (pw_bin d_add (pw_name 4 (pv 4)) (pw_name 5 (pv 5))) (pw_name 2 (pv 2))))) (fun _ _ _ _ _ => (pw_name 5 (pv 5)))) (pw_lst (pwl_cons pw_int pwl_nil))) pwl_nil)))
      (pb_cons (ps_if (PWW.pwt (pww_or (pwt_not (pwt_of (pw_callC c_law_same trivial (hr.mono (by omega)) (pwl_cons (pw_callC clongest_end trivial (hr.mono (by omega)) (pwl_cons (pw_name 0 (pv 0)) pwl_nil)) (pwl_cons (pw_slice (pw_name 0 (pv 0)) (pp_some (pw_bin d_sub (pw_name 2 (pv 2)) (pw_name 8 (pv 8)))) pp_none) pwl_nil))))) (pww_or1 (pwt_not (pwt_of (pw_callC c_law_same trivial (hr.mono (by omega)) (pwl_cons (pw_callC cclosed trivial (hr.mono (by omega)) (pwl_cons (pw_name 0 (pv 0)) pwl_nil)) (pwl_cons (pw_callC c_law_closed trivial (hr.mono (by omega)) (pwl_cons (pw_name 0 (pv 0)) pwl_nil)) pwl_nil)))))))) (pb_one (ps_ret pw_bl)) pb_nil)
      (pb_one (ps_ret (pw_andV (pw_callC c_law_same trivial (hr.mono (by omega)) (pwl_cons (pw_callC cis_palindrome trivial (hr.mono (by omega)) (pwl_cons (pw_name 0 (pv 0)) pwl_nil)) (pwl_cons (pw_cmp (d_eq hr.units) (pw_name 0 (pv 0)) (pw_callC c_law_turned trivial (hr.mono (by omega)) (pwl_cons (pw_name 0 (pv 0)) pwl_nil))) pwl_nil))) (pw_one (pw_cmp d_is (pw_callC cis_palindrome trivial (hr.mono (by omega)) (pwl_cons (pw_callC cclosed trivial (hr.mono (by omega)) (pwl_cons (pw_name 0 (pv 0)) pwl_nil)) pwl_nil)) pw_bl))))))))))))))) hs
abbrev st__law_box : Stmt := topS 10
abbrev st__law_load : Stmt := topS 11
abbrev st__law_draw : Stmt := topS 12
theorem sc__law_box : FnScope ["script"] ["script"] (defScope st__law_box) := ⟨rfl, rfl, rfl, by decide +kernel, rfl, by decide +kernel, by decide +kernel⟩
theorem sc__law_load : FnScope ["box", "cells", "cell", "size", "first", "second"] ["box"] (defScope st__law_load) := ⟨rfl, rfl, rfl, by decide +kernel, rfl, by decide +kernel, by decide +kernel⟩
theorem sc__law_draw : FnScope ["box", "many", "digit"] ["box", "many"] (defScope st__law_draw) := ⟨rfl, rfl, rfl, by decide +kernel, rfl, by decide +kernel, by decide +kernel⟩
section
variable {P : Program} {w : World} {K : PySem.W.Frag} {mg : Str → Option Value} {base : Heap}
theorem raw_box {f : Addr} {fd : FuncData} (F : Fun K "_law_box" "_law_box" st__law_box f fd) (zlist : mg "list" = none) (zlen : mg "len" = none) : FnOk P w K mg base CX0 1 f fd ["script"] (spBox K) := by
  refine F.ok sc__law_box (fun vs H Q E h => by obtain ⟨a, ns, rfl, _⟩ := h; rfl) (fun cdv A outer s H vs Q E hr h => ?_)
  obtain ⟨a, ns, rfl, hS, q⟩ := h
  refine ⟨_, pss_one (L2.ps_ret (L2.pe_lst (pa_cons (pe_callTy call_list_of (by rfl) zlist (by decide +kernel) (pa_cons (L2.pe_slice sl_list (pv 0) po_none (po_some pe_int)) pa_nil)) (pa_cons pe_int (pa_cons (pe_op op_add pe_int (pe_callB call_len_seq (by rfl) zlen PySem.boot_len (pa_cons (pv 0) pa_nil))) pa_nil))))), ?_⟩
  refine ⟨.ref a, rfl, 63, rfl, a, _, rfl, hS, fun p hp => ?_⟩
  have s1 : Same H (upd H p (.lst (cutV (ns.map V.int) none (some 63)))) := fun b o e => by rw [upd_ne (ne_of_none e hp)]; exact e
  refine ⟨p, _, rfl, .inl (SqL.of upd_same), fun c hc => ?_⟩
  have s2 : Same H (upd (upd H p (.lst (cutV (ns.map V.int) none (some 63)))) c (.lst (cutV (ns.map V.int) none (some 63)))) := fun b o e => by rw [upd_ne (ne_of_none (s1 b o e) hc)]; exact s1 b o e
  refine ⟨.ref a, rfl, a, _, rfl, .inl (s2.seq hS), 4711, _, rfl, rfl, by show 3 ≤ sizeLine; decide, fun b hb => ?_⟩
  have nbc : b ≠ c := fun z => by rw [z, upd_same] at hb; cases hb
  have cut : ∃ ms : List Int, cutV (ns.map V.int) none (some 63) = ms.map V.int := by
    unfold cutV
    exact ⟨_, by rw [← List.map_drop, ← List.map_take]⟩
  obtain ⟨ms, em⟩ := cut
  rw [em] at hb hc s2 ⊢
  refine q _ b c (fun z o e => by rw [upd_ne (ne_of_none (s2 z o e) hb)]; exact s2 z o e) (s2.free hb) ((em ▸ s1).free hc) ⟨ms, 0, 4711 + ((ns.map V.int).length : Nat), ?_, ?_, by decide, by omega, nbc⟩
  · rw [upd_same]
  · rw [upd_ne (Ne.symm nbc), upd_same]
theorem raw_load {f : Addr} {fd : FuncData} (F : Fun K "_law_load" "_law_load" st__law_load f fd) (zlen : mg "len" = none) (zint : mg "int" = none) : FnOk P w K mg base CX0 1 f fd ["box"] spLoad := by
  refine F.ok sc__law_load (fun vs H Q E h => by obtain ⟨b, c, rfl, _⟩ := h; rfl) (fun cdv A outer s H vs Q E hr h => ?_)
  obtain ⟨b, c, rfl, ⟨ns, x, y, hb, hc, hx, hy, nbc⟩, q⟩ := h
  have nd := sc__law_load.nd
  refine ⟨_, pss_cons (L2.ps_set (i := 1) nd rfl (.inl rfl) (L2.pe_ix ix_list (pv 0) pe_int (fun _ _ => rfl)))
    (Evl.pss_cut (L2.ps_if (pt_cmpR op_gt (pe_callB call_len_seq (by rfl) zlen PySem.boot_len (pa_cons (pv 1) pa_nil)) pe_int (nomark _))
      (pss_cons (L2.ps_set (i := 2) nd rfl (.inl rfl) (pe_callTy call_int1 (by rfl) zint (by decide +kernel) (pa_cons (pe_bm PySem.F.plainAttrs_list PySem.F.slot_list_pop PySem.F.type_list_pop mt_popAt (pv 1) (pa_cons pe_int pa_nil)) pa_nil)))
      (Evl.pss_cut (L2.ps_set (i := 3) nd rfl (.inl rfl) (pe_ifExp (pt_cmpR op_ge (pv 2) pe_int (nomark _)) (pe_op op_mul pe_int (pv 2)) (pe_op op_sub (pe_op op_mul (pe_un un_neg pe_int) (pv 2)) pe_int)))
      (pss_cons (L2.ps_if (pt_cmpR op_ge (pv 3) pe_int (nomark _)) (pss_one (L2.ps_ret (pv 3))) pss_nil)
      (pss_one (L2.ps_asg (pe_op op_mod (pe_callTy call_int1 (by rfl) zint (by decide +kernel) (pa_cons (pe_op op_add (pe_op op_add (pe_op op_mul (L2.pe_ix ix_list (pv 0) pe_int (fun _ _ => rfl)) pe_int) (pe_op op_mul (pv 3) pe_int)) pe_int) pa_nil)) pe_int) (pg_sub (pv 0) pe_int set_list)))))) pss_nil)
    (pss_cons (L2.ps_set (i := 4) nd rfl (.inl rfl) (pe_op op_mod (pe_callTy call_int1 (by rfl) zint (by decide +kernel) (pa_cons (pe_op op_add (pe_op op_mul (L2.pe_ix ix_list (pv 0) pe_int (fun _ _ => rfl)) pe_int) pe_int) pa_nil)) pe_int))
    (pss_cons (L2.ps_set (i := 5) nd rfl (.inl rfl) (pe_op op_mod (pe_callTy call_int1 (by rfl) zint (by decide +kernel) (pa_cons (pe_op op_add (pe_op op_mul (pv 4) pe_int) pe_int) pa_nil)) pe_int))
    (pss_cons (L2.ps_asg (pe_op op_mod (pe_callTy call_int1 (by rfl) zint (by decide +kernel) (pa_cons (pe_op op_add (pe_op op_mul (pv 5) pe_int) pe_int) pa_nil)) pe_int) (pg_sub (pv 0) pe_int set_list))
    (pss_one (L2.ps_ret (pe_op op_add (pe_op op_add (pe_op op_mul (pv 4) pe_int) (pe_op op_mul (pv 5) pe_int)) (L2.pe_ix ix_list (pv 0) pe_int (fun _ _ => rfl))))))))), ?_⟩
  -- cells = box[0]
  refine ⟨.ref b, rfl, b, _, 0, .ref c, rfl, rfl, .of hb, rfl, ?_⟩
  -- the if
  refine ⟨fun σ' H' => ∃ y2 y3, σ' = [some (.ref b), some (.ref c), y2, y3, none, none] ∧ keepB b c H H' ∧ ∃ (ms : List Int) (y' : Int), H' b = some (.lst [.ref c, .int x, .int y']) ∧ H' c = some (.lst (ms.map V.int)) ∧ 0 ≤ y', ?_, fun σ' H' hM => ?_⟩
  · refine ⟨.ref c, rfl, c, _, rfl, .inl (.of hc), _, _, rfl, rfl, _, rfl, ite2 (fun h => ?_) (fun h => ?_)⟩
    · -- cell = int(cells.pop(0))
      have hlen : 0 < ns.length := by
        have := of_decide_eq_true h
        rw [List.length_map] at this
        omega
      obtain ⟨n, ms, rfl⟩ : ∃ n ms, ns = n :: ms := by
        cases ns with
        | nil => simp at hlen
        | cons n ms => exact ⟨n, ms, rfl⟩
      refine ⟨.ref c, rfl, .inl ⟨rfl, _, .of hc⟩, c, _, 0, 0, .int n, rfl, rfl, hc, by decide, by decide, ?_, rfl, .inl ⟨n, rfl, ?_⟩⟩
      · rw [List.length_map]
        unfold seqIndex?
        simp
      have k1 : keepB b c H (upd H c (.lst (ms.map V.int))) := fun a o n1 n2 e => by rw [upd_ne n2]; exact e
      have e1 : (upd H c (.lst (ms.map V.int))) b = some (.lst [.ref c, .int x, .int y]) := by rw [upd_ne nbc]; exact hb
      refine ⟨fun σ' H' => ∃ z : Int, 0 ≤ z ∧ σ' = [some (.ref b), some (.ref c), some (.int n), some (.int z), none, none] ∧ H' = upd H c (.lst (ms.map V.int)), ?_, fun σ' H' hM => ?_⟩
      · refine ⟨.int n, rfl, _, _, rfl, rfl, _, rfl, ite2 (fun hn => ?_) (fun hn => ?_)⟩
        · have hn := of_decide_eq_true hn
          exact ⟨.int n, rfl, _, _, rfl, rfl, .inl ⟨by decide, by decide⟩, 2 * n, by omega, rfl, rfl⟩
        · have hn : ¬ (0 ≤ n) := fun z => hn (decide_eq_true z)
          exact ⟨2, rfl, .int n, rfl, _, _, rfl, rfl, .inl ⟨by decide, by decide⟩, _, _, rfl, rfl, -2 * n - 1, by omega, rfl, rfl⟩
      · obtain ⟨z, hz, rfl, rfl⟩ := hM
        refine ⟨.int z, rfl, _, _, rfl, rfl, _, rfl, ite2 (fun hn => ?_) (fun hn => ?_)⟩
        · exact ⟨.int z, rfl, q _ z k1 ⟨ms, x, y, e1, upd_same, hx, hy, nbc⟩ hz⟩
        · refine ⟨.ref b, rfl, b, _, 2, .int y, rfl, rfl, .of e1, rfl, y, _, rfl, rfl, .inr ⟨by decide, by decide⟩, .int z, rfl, z, _, rfl, rfl, .inr ⟨by decide, by decide⟩, _, _, rfl, rfl, _, _, rfl, rfl, .inl ⟨_, rfl, _, _, rfl, rfl, (show (0 : Int) < 2147483647 by decide), ?_⟩⟩
          refine ⟨.ref b, rfl, b, _, 2, 2, rfl, rfl, e1, rfl, ?_⟩
          refine ⟨_, _, rfl, fun a o n1 n2 e => by rw [upd_ne n1]; exact k1 a o n1 n2 e, ms, _, upd_same, by rw [upd_ne (Ne.symm nbc)]; exact upd_same, Int.emod_nonneg _ (by decide)⟩
    · exact ⟨none, none, rfl, fun a o _ _ e => e, ns, y, hb, hc, hy⟩
  · obtain ⟨y2, y3, rfl, k1, ms, y', e1, e2, hy'⟩ := hM
    refine ⟨.ref b, rfl, b, _, 2, .int y', rfl, rfl, .of e1, rfl, y', _, rfl, rfl, .inr ⟨by decide, by decide⟩, _, _, rfl, rfl, .inl ⟨_, rfl, _, _, rfl, rfl, (show (0 : Int) < 2147483629 by decide), ?_⟩⟩
    have f0 := Int.emod_nonneg (y' * 48271 + 17) (show (2147483629 : Int) ≠ 0 by decide)
    refine ⟨_, rfl, _, _, rfl, rfl, .inr ⟨by decide, by decide⟩, _, _, rfl, rfl, .inl ⟨_, rfl, _, _, rfl, rfl, (show (0 : Int) < 2147483587 by decide), ?_⟩⟩
    have g0 := Int.emod_nonneg ((y' * 48271 + 17) % 2147483629 * 69621 + 5) (show (2147483587 : Int) ≠ 0 by decide)
    refine ⟨_, rfl, _, _, rfl, rfl, .inr ⟨by decide, by decide⟩, _, _, rfl, rfl, .inl ⟨_, rfl, _, _, rfl, rfl, (show (0 : Int) < 2147483563 by decide), ?_⟩⟩
    have h0 := Int.emod_nonneg (((y' * 48271 + 17) % 2147483629 * 69621 + 5) % 2147483587 * 40692 + 3) (show (2147483563 : Int) ≠ 0 by decide)
    refine ⟨.ref b, rfl, b, _, 2, 2, rfl, rfl, e1, rfl, ?_⟩
    refine ⟨_, rfl, _, _, rfl, rfl, .inr ⟨by decide, by decide⟩, _, rfl, _, _, rfl, rfl, .inr ⟨by decide, by decide⟩, _, _, rfl, rfl, .ref b, rfl, b, _, 2, _, rfl, rfl, .of upd_same, rfl, _, _, rfl, rfl, ?_⟩
    refine q _ _ (fun a o n1 n2 e => by rw [upd_ne n1]; exact k1 a o n1 n2 e) ⟨ms, x, _, upd_same, by rw [upd_ne (Ne.symm nbc)]; exact e2, hx, h0, nbc⟩ ?_
    exact Int.add_nonneg (Int.add_nonneg (Int.mul_nonneg f0 (by decide)) (Int.mul_nonneg g0 (by decide))) h0
theorem raw_draw {f fl : Addr} {fd fdl : FuncData} (F : Fun K "_law_draw" "_law_draw" st__law_draw f fd) (FL : Fun K "_law_load" "_law_load" st__law_load fl fdl) (hl : mg "_law_load" = some (.ref fl)) (zlen : mg "len" = none) (zint : mg "int" = none) : FnOk P w K mg base CX0 2 f fd ["box", "many"] spDraw := by
  have G : FnOk P w K mg base CX0 1 fl fdl ["box"] spLoad := raw_load FL zlen zint
  have bL : Binds K fdl ["box"] [] := FL.binds fun _ _ _ _ _ _ us hl => match us, hl with | [_], _ => rfl
  refine F.ok sc__law_draw (fun vs H Q E h => by obtain ⟨b, c, n, rfl, _⟩ := h; rfl) (fun cdv A outer s H vs Q E hr h => ?_)
  obtain ⟨b, c, n, rfl, n0, n1, inv, q⟩ := h
  have inv0 := inv
  obtain ⟨ns, x, y, hb, hc, hx, hy, nbc⟩ := inv
  have nd := sc__law_draw.nd
  refine ⟨_, Evl.pss_cut (L2.ps_if (pt_cmpR op_lt (L2.pe_ix ix_list (pv 0) pe_int (fun _ _ => rfl)) (pv 1) (nomark _)) (pss_one (L2.ps_asg (L2.pe_call G hr (by rfl) hl FL.kp bL .nil pass0 (pa_cons (pv 0) pa_nil)) (pg_sub (pv 0) pe_int set_list))) pss_nil)
    (pss_cons (L2.ps_set (i := 2) nd rfl (.inl rfl) (pe_op op_mod (pe_callTy call_int1 (by rfl) zint (by decide +kernel) (pa_cons (L2.pe_ix ix_list (pv 0) pe_int (fun _ _ => rfl)) pa_nil)) (pv 1)))
    (pss_cons (L2.ps_asg (pe_op op_fdiv (L2.pe_ix ix_list (pv 0) pe_int (fun _ _ => rfl)) (pv 1)) (pg_sub (pv 0) pe_int set_list))
    (pss_one (L2.ps_ret (pv 2))))), ?_⟩
  refine ⟨fun σ' H' => σ' = [some (.ref b), some (.int n), none] ∧ keepB b c H H' ∧ (boxB b c).inv H', ?_, fun σ' H' hM => ?_⟩
  · refine ⟨.ref b, rfl, b, _, 1, .int x, rfl, rfl, .of hb, rfl, .int n, rfl, x, n, rfl, rfl, _, rfl, ite2 (fun h => ?_) (fun h => ?_)⟩
    · refine ⟨.ref b, rfl, b, c, rfl, inv0, fun H1 i k1 inv1 hi => ?_⟩
      obtain ⟨ms, x1, y1, e1, e2, _, hy1, _⟩ := inv1
      refine ⟨.ref b, rfl, b, _, 1, 1, rfl, rfl, e1, rfl, rfl, fun a o m1 m2 e => by rw [upd_ne m1]; exact k1 a o m1 m2 e, ms, i, y1, upd_same, by rw [upd_ne (Ne.symm nbc)]; exact e2, hi, hy1, nbc⟩
    · exact ⟨rfl, fun a o _ _ e => e, inv0⟩
  · obtain ⟨rfl, k1, ms, x1, y1, e1, e2, hx1, hy1, _⟩ := hM
    refine ⟨.ref b, rfl, b, _, 1, .int x1, rfl, rfl, .of e1, rfl, .inl ⟨x1, rfl, .int n, rfl, x1, n, rfl, rfl, n0, ?_⟩⟩
    refine ⟨.ref b, rfl, b, _, 1, .int x1, rfl, rfl, .of e1, rfl, .int n, rfl, x1, n, rfl, rfl, ⟨n0, n1⟩, .ref b, rfl, b, _, 1, 1, rfl, rfl, e1, rfl, ?_⟩
    refine ⟨_, rfl, q _ _ (fun a o m1 m2 e => by rw [upd_ne m1]; exact k1 a o m1 m2 e) ⟨ms, x1 / n, y1, upd_same, by rw [upd_ne (Ne.symm nbc)]; exact e2, Int.ediv_nonneg hx1 (by omega), hy1, nbc⟩ (Int.emod_nonneg _ (by omega)) (Int.emod_lt_of_pos _ n0)⟩
end

abbrev st_law : Stmt := topS 19
theorem sc_law : FnScope ["script", "box", "turn", "word", "size", "ones", "row", "k"] ["script"] (defScope st_law) := ⟨rfl, rfl, rfl, by decide +kernel, rfl, by decide +kernel, by decide +kernel⟩
theorem ok_law {P : Program} {w : World} {K : PySem.W.Frag} {mg : Str → Option Value} {base : Heap} {f fB : Addr} {fd fdB : FuncData} { s_law_word s_law_draw s_law_fine s_law_turned s_law_same sreaches sclosed spalindrome_count slongest_palindrome : Sx} (F : Fun K "law" "law" st_law f fd) (FB : Fun K "_law_box" "_law_box" st__law_box fB fdB) (hB : mg "_law_box" = some (.ref fB)) (c_law_word : Cal P w K mg base IsBox "_law_word" 3 ["box", "most", "many"] s_law_word) (c_law_draw : Cal P w K mg base IsBox "_law_draw" 2 ["box", "many"] s_law_draw) (c_law_fine : Cal P w K mg base AnyB "_law_fine" 6 ["word"] s_law_fine) (c_law_turned : Cal P w K mg base AnyB "_law_turned" 1 ["word"] s_law_turned) (c_law_same : Cal P w K mg base AnyB "_law_same" 5 ["a", "b"] s_law_same) (creaches : Cal P w K mg base AnyB "reaches" 1 ["word"] sreaches) (cclosed : Cal P w K mg base AnyB "closed" 4 ["word"] sclosed) (cpalindrome_count : Cal P w K mg base AnyB "palindrome_count" 2 ["word"] spalindrome_count) (clongest_palindrome : Cal P w K mg base AnyB "longest_palindrome" 2 ["word"] slongest_palindrome) (zrange : mg "range" = none) (ztuple : mg "tuple" = none) (zmin : mg "min" = none) (zlen : mg "len" = none) (zlist : mg "list" = none)
    (hs : w_law s_law_word s_law_draw s_law_fine s_law_turned s_law_same sreaches sclosed spalindrome_count slongest_palindrome { nx := fun _ => False, rt := fun d => d = .bl true } ((List.replicate 8 Slot.un).set 1 (.val .box))) : FnOk P w K mg base CX0 7 f fd ["script"] (spLaw K) := by
  have G : FnOk P w K mg base CX0 1 fB fdB ["script"] (spBox K) := raw_box FB zlist zlen
  have bB : Binds K fdB ["script"] [] := FB.binds fun _ _ _ _ _ _ us hl => match us, hl with | [_], _ => rfl
  have nd := sc_law.nd
  refine F.ok sc_law (fun vs H Q E h => by obtain ⟨a, ns, rfl, _⟩ := h; rfl) (fun cdv A outer s H vs Q E hr h => ?_)
  obtain ⟨a, ns, rfl, hS, hl, q⟩ := h
  have hR : ∀ β, IsBox β → PBW (cxOf CX0 P w K mg base ["script", "box", "turn", "word", "size", "ones", "row", "k"] "law" (defScope st_law) f cdv A outer s H E).nox β (defBody st_law).tail (w_law s_law_word s_law_draw s_law_fine s_law_turned s_law_same sreaches sclosed spalindrome_count slongest_palindrome) := fun β hβ => pb_as ((pb_cons (ps_for (t := (.one 2)) (pi_rng1 pw_int zrange) (pg_name (i := 2) nd rfl (by first | exact Or.inl rfl | exact Or.inr rfl)) (pb_cons (ps_set (i := 3) nd rfl (by first | exact Or.inl rfl | exact Or.inr rfl) (pw_callC c_law_word hβ (hr.mono (by omega)) (pwl_cons (pw_name 1 (pv 1)) (pwl_cons (pw_ix d_ix (pw_lst (pwl_cons pw_int (pwl_cons pw_int (pwl_cons pw_int pwl_nil)))) (pw_name 2 (pv 2))) (pwl_cons (pw_bin d_add pw_int (pw_callC c_law_draw hβ (hr.mono (by omega)) (pwl_cons (pw_name 1 (pv 1)) (pwl_cons pw_int pwl_nil)))) pwl_nil)))))
      (pb_one (ps_if (PWW.pwt (pww_or (pwt_not (pwt_of (pw_callC c_law_fine trivial (hr.mono (by omega)) (pwl_cons (pw_name 3 (pv 3)) pwl_nil)))) (pww_or (pwt_not (pwt_of (pw_callC c_law_fine trivial (hr.mono (by omega)) (pwl_cons (pw_slice (pw_bin d_add (pw_name 3 (pv 3)) (pw_callC c_law_turned trivial (hr.mono (by omega)) (pwl_cons (pw_name 3 (pv 3)) pwl_nil))) pp_none (pp_some pw_int)) pwl_nil)))) (pww_or1 (pwt_not (pwt_of (pw_callC c_law_fine trivial (hr.mono (by omega)) (pwl_cons (pw_bin d_add (pw_name 3 (pv 3)) (pw_slice (pw_callC c_law_turned trivial (hr.mono (by omega)) (pwl_cons (pw_name 3 (pv 3)) pwl_nil)) (pp_some pw_int) pp_none)) pwl_nil)))))))) (pb_one (ps_ret pw_bl)) pb_nil))))
      (pb_cons (ps_set (i := 4) nd rfl (by first | exact Or.inl rfl | exact Or.inr rfl) (pw_callC c_law_draw hβ (hr.mono (by omega)) (pwl_cons (pw_name 1 (pv 1)) (pwl_cons pw_int pwl_nil))))
      (pb_cons (ps_set (i := 5) nd rfl (by first | exact Or.inl rfl | exact Or.inr rfl) (pw_bin d_mul (pw_str (l := [97]) rfl (okS_dec (by decide))) (pw_name 4 (pv 4))))
      (pb_cons (ps_fz 5 (ps_if (PWW.pwt (pww_or (pwt_not (pwt_of (pw_callC c_law_same trivial (hr.mono (by omega)) (pwl_cons (pw_callC creaches trivial (hr.mono (by omega)) (pwl_cons (pw_name 5 (pv 5)) pwl_nil)) (pwl_cons (pw_ty c_tuple ztuple (by decide +kernel) (pwl_cons (pw_lc (z := (s, H, 0, [], [])) (own := [("k", 7)]) nd (pi_rng1 (pw_bin d_add (pw_bin d_mul pw_int (pw_name 4 (pv 4))) pw_int) zrange) (blkOk_by (N := ["script", "box", "turn", "word", "size", "ones", "row", "k"]) (sc := defScope st_law) (by decide +kernel)) (fun _ _ _ _ _ => (pg_name (i := 7) nd rfl (by first | exact Or.inl rfl | exact Or.inr rfl))) (fun _ _ _ _ _ => ptw_nil) (fun _ _ _ _ _ => (pw_b (c_min2 rfl) zmin (by decide +kernel) (pwl_cons (pw_name 7 (pv 7)) (pwl_cons (pw_bin d_sub (pw_bin d_mul pw_int (pw_name 4 (pv 4))) (pw_name 7 (pv 7))) pwl_nil))))) pwl_nil)) pwl_nil))))) (pww_or1 (pwt_not (pwt_of (pw_callC c_law_same trivial (hr.mono (by omega)) (pwl_cons (pw_callC cclosed trivial (hr.mono (by omega)) (pwl_cons (pw_name 5 (pv 5)) pwl_nil)) (pwl_cons (pw_name 5 (pv 5)) pwl_nil)))))))) (pb_one (ps_ret pw_bl)) pb_nil))
      (pb_cons (ps_fz 5 (ps_if (PWW.pwt (pww_or (pwt_not (pwt_of (pw_callC c_law_same trivial (hr.mono (by omega)) (pwl_cons (pw_callC cpalindrome_count trivial (hr.mono (by omega)) (pwl_cons (pw_name 5 (pv 5)) pwl_nil)) (pwl_cons (pw_bin d_div (pw_bin d_mul (pw_name 4 (pv 4)) (pw_bin d_add (pw_name 4 (pv 4)) pw_int)) pw_int) pwl_nil))))) (pww_or1 (pwt_not (pwt_of (pw_callC c_law_same trivial (hr.mono (by omega)) (pwl_cons (pw_callC clongest_palindrome trivial (hr.mono (by omega)) (pwl_cons (pw_name 5 (pv 5)) pwl_nil)) (pwl_cons (pw_tup (pwl_cons pw_int (pwl_cons (pw_name 5 (pv 5)) pwl_nil))) pwl_nil)))))))) (pb_one (ps_ret pw_bl)) pb_nil))
      (pb_cons (ps_set (i := 6) nd rfl (by first | exact Or.inl rfl | exact Or.inr rfl) (pw_slice (pw_str (l := [97, 98, 99, 100, 101, 102, 103, 104, 105, 106, 107, 108, 109, 110, 111, 112, 113, 114, 115, 116, 117, 118, 119, 120, 121, 122]) rfl (okS_dec (by decide))) pp_none (pp_some (pw_bin d_add pw_int (pw_callC c_law_draw hβ (hr.mono (by omega)) (pwl_cons (pw_name 1 (pv 1)) (pwl_cons pw_int pwl_nil)))))))
      (pb_one (ps_fz 6 (ps_ret (pw_andV (pw_callC c_law_same trivial (hr.mono (by omega)) (pwl_cons (pw_b c_len zlen (by decide +kernel) (pwl_cons (pw_callC cclosed trivial (hr.mono (by omega)) (pwl_cons (pw_name 6 (pv 6)) pwl_nil)) pwl_nil)) (pwl_cons (pw_bin d_sub (pw_bin d_mul pw_int (pw_b c_len zlen (by decide +kernel) (pwl_cons (pw_name 6 (pv 6)) pwl_nil))) pw_int) pwl_nil))) (pw_andV (pw_callC c_law_same trivial (hr.mono (by omega)) (pwl_cons (pw_callC cpalindrome_count trivial (hr.mono (by omega)) (pwl_cons (pw_name 6 (pv 6)) pwl_nil)) (pwl_cons (pw_b c_len zlen (by decide +kernel) (pwl_cons (pw_name 6 (pv 6)) pwl_nil)) pwl_nil))) (pw_one (pw_callC c_law_same trivial (hr.mono (by omega)) (pwl_cons (pw_callC cclosed trivial (hr.mono (by omega)) (pwl_cons (pw_str (l := [97, 98, 99, 97]) rfl (okS_dec (by decide))) pwl_nil)) (pwl_cons (pw_str (l := [97, 98, 99, 97, 99, 98, 97]) rfl (okS_dec (by decide))) pwl_nil)))))))))))))))) rfl
  refine ⟨_, pss_cons (L2.ps_set (i := 1) nd rfl (by first | exact Or.inl rfl | exact Or.inr rfl) (L2.pe_call G (hr.mono (by omega)) (by rfl) hB FB.kp bB .nil pass0 (pa_cons (pv 0) pa_nil))) (pss_x hR), ?_⟩
  exact ⟨.ref a, rfl, box_go (E0 := L2.E0) (n := 8) rfl (by decide) hS q hs⟩
end K63
set_option Elab.async false
set_option linter.all false
set_option autoImplicit false
set_option maxRecDepth 100000
namespace K63
open PySem PySem.Spec L2 WL

abbrev Wd := List Nat
def sub (x : Wd) (p s : Nat) : Wd := (x.drop p).take s
def pal (x : Wd) : Bool := x == x.reverse
def pb (x : Wd) (p s : Nat) : Bool := pal (sub x p s)
theorem sub_len {x : Wd} {p s : Nat} (h : p + s ≤ x.length) : (sub x p s).length = s := by
  unfold sub; rw [List.length_take, List.length_drop]; omega
theorem sub_get {x : Wd} {p s k : Nat} (h : k < s) : (sub x p s)[k]? = x[p + k]? := by
  unfold sub
  rw [List.getElem?_take, if_pos h, List.getElem?_drop]
theorem rev_get {x : Wd} {k : Nat} (h : k < x.length) : x.reverse[k]? = x[x.length - 1 - k]? := List.getElem?_reverse h
/-- by places -/
theorem pb_iff {x : Wd} {p s : Nat} (h : p + s ≤ x.length) : pb x p s = true ↔ ∀ a b, p ≤ a → p ≤ b → a + b + 1 = 2 * p + s → x[a]? = x[b]? := by
  unfold pb pal
  rw [beq_iff_eq]
  constructor
  · intro e a b ha hb hab
    have h1 : (sub x p s)[a - p]? = (sub x p s).reverse[a - p]? := by rw [← e]
    rw [rev_get (by rw [sub_len h]; omega), sub_len h, sub_get (by omega), sub_get (by omega)] at h1
    have e1 : p + (a - p) = a := by omega
    have e2 : p + (s - 1 - (a - p)) = b := by omega
    rwa [e1, e2] at h1
  · intro g
    apply List.ext_getElem?
    intro k
    by_cases hk : k < s
    · rw [rev_get (by rw [sub_len h]; omega), sub_len h, sub_get hk, sub_get (by omega)]
      exact g _ _ (by omega) (by omega) (by omega)
    · rw [List.getElem?_eq_none (by rw [sub_len h]; omega), List.getElem?_eq_none (by rw [List.length_reverse, sub_len h]; omega)]
theorem pb_one {x : Wd} {p : Nat} (h : p + 1 ≤ x.length) : pb x p 1 = true := (pb_iff h).mpr fun a b _ _ _ => by
  have : a = b := by omega
  rw [this]
theorem pb_in {x : Wd} {p s i : Nat} (h : p + s ≤ x.length) (hi : 2 * i ≤ s) (g : pb x p s = true) : pb x (p + i) (s - 2 * i) = true :=
  (pb_iff (by omega)).mpr fun a b ha hb hab => (pb_iff h).mp g a b (by omega) (by omega) (by omega)
/-- rows as the law finds them -/
def rows (x : Wd) : List (Nat × Nat) := (List.range x.length).flatMap fun p => ((List.range (x.length - p)).filter fun i => pb x p (i + 1)).map fun i => (p, i + 1)
theorem mem_rows {x : Wd} {p s : Nat} : (p, s) ∈ rows x ↔ 1 ≤ s ∧ p + s ≤ x.length ∧ pb x p s = true := by
  unfold rows
  rw [List.mem_flatMap]
  constructor
  · rintro ⟨q, hq, h⟩
    obtain ⟨i, hi, e⟩ := List.mem_map.mp h
    obtain ⟨h1, h2⟩ := List.mem_filter.mp hi
    rw [List.mem_range] at h1 hq
    cases e
    exact ⟨by omega, by omega, h2⟩
  · rintro ⟨h1, h2, h3⟩
    refine ⟨p, List.mem_range.mpr (by omega), List.mem_map.mpr ⟨s - 1, List.mem_filter.mpr ⟨List.mem_range.mpr (by omega), ?_⟩, ?_⟩⟩
    · rwa [Nat.sub_add_cancel h1]
    · rw [Nat.sub_add_cancel h1]
/-- how far it reaches about a middle -/
def rch (x : Wd) (m : Nat) : Nat := maxN (((rows x).filter fun r => 2 * r.1 + r.2 == m).map Prod.snd)
theorem rch_eq {x : Wd} {m s : Nat} (h1 : s = 0 ∨ ∃ p, 2 * p + s = m ∧ (p, s) ∈ rows x) (h2 : ∀ p s', 2 * p + s' = m → (p, s') ∈ rows x → s' ≤ s) : rch x m = s := by
  apply maxN_eq
  · rcases h1 with h | ⟨p, h, hm⟩
    · exact .inl h
    · right
      exact List.mem_map.mpr ⟨(p, s), List.mem_filter.mpr ⟨hm, beq_iff_eq.mpr h⟩, rfl⟩
  · intro b hb
    obtain ⟨⟨p, s'⟩, hr, rfl⟩ := List.mem_map.mp hb
    obtain ⟨h3, h4⟩ := List.mem_filter.mp hr
    exact h2 p s' (beq_iff_eq.mp h4) h3
theorem rch_row {x : Wd} {m : Nat} (h : rch x m ≠ 0) : ∃ p, 2 * p + rch x m = m ∧ (p, rch x m) ∈ rows x := by
  rcases maxN_mem (((rows x).filter fun r => 2 * r.1 + r.2 == m).map Prod.snd) with e | e
  · exact absurd e h
  · obtain ⟨⟨p, s'⟩, hr, e2⟩ := List.mem_map.mp e
    obtain ⟨h3, h4⟩ := List.mem_filter.mp hr
    have : s' = rch x m := e2
    subst this
    exact ⟨p, beq_iff_eq.mp h4, h3⟩
theorem rch_ge {x : Wd} {p s : Nat} (h : (p, s) ∈ rows x) : s ≤ rch x (2 * p + s) :=
  maxN_ge (List.mem_map.mpr ⟨(p, s), List.mem_filter.mpr ⟨h, beq_iff_eq.mpr rfl⟩, rfl⟩)
theorem rch_le {x : Wd} {m : Nat} : rch x m ≤ m ∧ (rch x m ≤ x.length) := by
  by_cases h : rch x m = 0
  · omega
  · obtain ⟨p, h1, h2⟩ := rch_row h
    have := mem_rows.mp h2
    omega
/-- first end that reads alike -/
def lastP (x : Wd) : Nat := ((List.range (x.length + 1)).find? fun k => pal (x.drop k)).getD x.length
theorem lastP_at {x : Wd} {k : Nat} (h1 : k ≤ x.length) (h2 : pal (x.drop k) = true) (h3 : ∀ j, j < k → pal (x.drop j) = false) : lastP x = k := by
  unfold lastP
  have : (List.range (x.length + 1)).find? (fun k => pal (x.drop k)) = some k := by
    rw [List.find?_range_eq_some]
    exact ⟨h2, List.mem_range.mpr (by omega), fun j hj => by rw [h3 j hj]; rfl⟩
  rw [this]; rfl
theorem pal_nil : pal [] = true := rfl
theorem lastP_spec (x : Wd) : lastP x ≤ x.length ∧ pal (x.drop (lastP x)) = true ∧ ∀ j, j < lastP x → pal (x.drop j) = false := by
  unfold lastP
  cases h : (List.range (x.length + 1)).find? fun k => pal (x.drop k) with
  | none =>
    have := List.find?_eq_none.mp h x.length (List.mem_range.mpr (by omega))
    rw [List.drop_length] at this
    exact absurd pal_nil this
  | some k =>
    rw [List.find?_range_eq_some] at h
    obtain ⟨h1, h2, h3⟩ := h
    rw [List.mem_range] at h2
    exact ⟨by show k ≤ _; omega, h1, fun j hj => by simpa using h3 j hj⟩
/-- the closing of a word -/
def clo (x : Wd) : Wd := x ++ (x.take (lastP x)).reverse
theorem clo_at {x : Wd} {i : Nat} (h : i ≤ x.length) : (x ++ (x.take i).reverse == (x ++ (x.take i).reverse).reverse) = pal (x.drop i) := by
  rw [Bool.eq_iff_iff, beq_iff_eq, pal, beq_iff_eq]
  rw [List.reverse_append, List.reverse_reverse]
  have ex : x = x.take i ++ x.drop i := (List.take_append_drop i x).symm
  constructor
  · intro e
    have e : (x.take i ++ x.drop i) ++ (x.take i).reverse = x.take i ++ (x.take i ++ x.drop i).reverse := by
      rw [← ex]; exact e
    rw [List.reverse_append, ← List.append_assoc, List.append_cancel_right_eq, List.append_cancel_left_eq] at e
    exact e
  · intro e
    have : (x.take i ++ x.drop i) ++ (x.take i).reverse = x.take i ++ (x.take i ++ x.drop i).reverse := by
      rw [List.reverse_append, ← e, List.append_assoc]
    rwa [← ex] at this
theorem clo_pal (x : Wd) : pal (clo x) = true := by
  have := clo_at (x := x) (lastP_spec x).1
  rw [(lastP_spec x).2.1] at this
  exact this
end K63
set_option Elab.async false
set_option linter.all false
set_option autoImplicit false
set_option maxRecDepth 100000
namespace K63
open PySem PySem.Spec L2 WL

theorem sum_add {α : Type} (l : List α) (f g : α → Nat) : (l.map fun a => f a + g a).sum = (l.map f).sum + (l.map g).sum := by
  induction l with
  | nil => rfl
  | cons a l ih => simp only [List.map_cons, List.sum_cons, ih]; omega
theorem sum_zero {α : Type} (l : List α) (f : α → Nat) (h : ∀ a ∈ l, f a = 0) : (l.map f).sum = 0 := by
  induction l with
  | nil => rfl
  | cons a l ih => rw [List.map_cons, List.sum_cons, h a List.mem_cons_self, ih fun b hb => h b (List.mem_cons_of_mem _ hb)]
theorem sum_one (M k : Nat) (h : k < M) : ((List.range M).map fun m => if k == m then 1 else 0).sum = 1 := by
  induction M with
  | zero => omega
  | succ M ih =>
    rw [List.range_succ, List.map_append, List.sum_append]
    by_cases hk : k = M
    · subst hk
      rw [sum_zero _ _ fun a ha => by rw [List.mem_range] at ha; rw [if_neg]; simp; omega]
      simp
    · rw [ih (by omega)]
      simp [hk]
theorem part_sum {α : Type} (f : α → Nat) (M : Nat) : ∀ l : List α, (∀ a ∈ l, f a < M) → l.length = ((List.range M).map fun m => (l.filter fun a => f a == m).length).sum
  | [], _ => by rw [sum_zero]; rfl; intro _ _; rfl
  | a :: l, h => by
    have ih := part_sum f M l fun b hb => h b (List.mem_cons_of_mem _ hb)
    have e : (fun m => ((a :: l).filter fun a => f a == m).length) = fun m => (if f a == m then 1 else 0) + (l.filter fun a => f a == m).length := by
      funext m
      rw [List.filter_cons]
      split <;> simp; omega
    rw [e, sum_add, sum_one M _ (h a List.mem_cons_self), ← ih, List.length_cons]; omega
theorem rows_sorted (x : Wd) : (rows x).Pairwise fun r s => r.1 < s.1 ∨ (r.1 = s.1 ∧ r.2 < s.2) := by
  unfold rows
  rw [List.pairwise_flatMap]
  constructor
  · intro p hp
    apply List.Pairwise.map (R := fun i j => i < j)
    · intro i j h; right; exact ⟨rfl, by show i + 1 < j + 1; omega⟩
    · exact List.pairwise_lt_range.filter _
  · refine List.pairwise_lt_range.imp ?_
    intro p q h r hr s hs
    obtain ⟨i, _, rfl⟩ := List.mem_map.mp hr
    obtain ⟨j, _, rfl⟩ := List.mem_map.mp hs
    exact .inl h
theorem rows_nodup (x : Wd) : (rows x).Nodup := (rows_sorted x).imp fun {r s} h e => by subst e; omega
theorem mid_count (x : Wd) (m : Nat) : ((rows x).filter fun r => 2 * r.1 + r.2 == m).length = (rch x m + 1) / 2 := by
  have hp : ((rows x).filter fun r => 2 * r.1 + r.2 == m).Perm ((List.range ((rch x m + 1) / 2)).map fun i => ((m - rch x m) / 2 + i, rch x m - 2 * i)) := by
    refine (List.perm_ext_iff_of_nodup ((rows_nodup x).filter _) ?_).mpr ?_
    · apply List.Pairwise.map (R := fun i j => i < j)
      · intro i j h e
        have := congrArg Prod.fst e
        simp at this; omega
      · exact List.pairwise_lt_range
    · rintro ⟨p, s⟩
      rw [List.mem_filter, beq_iff_eq, List.mem_map]
      constructor
      · rintro ⟨h1, h2⟩
        have h2 : 2 * p + s = m := h2
        have g := rch_ge h1
        rw [h2] at g
        have h3 := mem_rows.mp h1
        obtain ⟨p', e1, e2⟩ := rch_row (x := x) (m := m) (by omega)
        refine ⟨(rch x m - s) / 2, List.mem_range.mpr (by omega), ?_⟩
        apply Prod.ext
        · show (m - rch x m) / 2 + (rch x m - s) / 2 = p; omega
        · show rch x m - 2 * ((rch x m - s) / 2) = s; omega
      · rintro ⟨i, hi, e⟩
        rw [List.mem_range] at hi
        cases e
        obtain ⟨p', e1, e2⟩ := rch_row (x := x) (m := m) (by omega)
        have h3 := mem_rows.mp e2
        refine ⟨mem_rows.mpr ⟨by omega, by omega, ?_⟩, by show 2 * ((m - rch x m) / 2 + i) + (rch x m - 2 * i) = m; omega⟩
        have e3 : (m - rch x m) / 2 = p' := by omega
        rw [e3]
        exact pb_in h3.2.1 (by omega) h3.2.2
  rw [hp.length_eq, List.length_map, List.length_range]
theorem count_rows (x : Wd) : ((List.range (2 * x.length + 1)).map fun m => (rch x m + 1) / 2).sum = (rows x).length := by
  rw [part_sum (fun r : Nat × Nat => 2 * r.1 + r.2) (2 * x.length + 1) (rows x) fun ⟨p, s⟩ h => by have := mem_rows.mp h; show 2 * p + s < _; omega]
  congr 1
  apply List.map_congr_left
  intro m _
  exact (mid_count x m).symm

/-- first of the longest -/
def big (x : Wd) : Nat := maxN ((rows x).map Prod.snd)
def top (x : Wd) : Nat × Nat := (((rows x).filter fun r => r.2 == big x).head?).getD (0, 0)
theorem top_nil {x : Wd} (h : (rows x).filter (fun r => r.2 == big x) = []) : top x = (0, 0) ∧ big x = 0 := by
  refine ⟨by unfold top; rw [h]; rfl, ?_⟩
  rcases maxN_mem ((rows x).map Prod.snd) with e | e
  · exact e
  · obtain ⟨r, h1, h2⟩ := List.mem_map.mp e
    have : r ∈ (rows x).filter fun r => r.2 == big x := List.mem_filter.mpr ⟨h1, beq_iff_eq.mpr h2⟩
    rw [h] at this; cases this
theorem top_cons {x : Wd} {r : Nat × Nat} {l : List (Nat × Nat)} (h : (rows x).filter (fun r => r.2 == big x) = r :: l) : top x = r ∧ r ∈ rows x ∧ r.2 = big x ∧ ∀ p, (p, big x) ∈ rows x → r.1 ≤ p := by
  have hr : r ∈ (rows x).filter fun r => r.2 == big x := by rw [h]; exact List.mem_cons_self
  obtain ⟨h1, h2⟩ := List.mem_filter.mp hr
  refine ⟨by unfold top; rw [h]; rfl, h1, beq_iff_eq.mp h2, fun p hp => ?_⟩
  have hs := (rows_sorted x).filter fun r => r.2 == big x
  rw [h] at hs
  have hm : (p, big x) ∈ r :: l := by rw [← h]; exact List.mem_filter.mpr ⟨hp, beq_iff_eq.mpr rfl⟩
  rcases List.mem_cons.mp hm with e | e
  · rw [← e]; exact Nat.le_refl _
  · have := (List.pairwise_cons.mp hs).1 _ e
    have : r.1 < p ∨ (r.1 = p ∧ r.2 < big x) := this
    omega
theorem big_ge {x : Wd} {p s : Nat} (h : (p, s) ∈ rows x) : s ≤ big x := maxN_ge (List.mem_map.mpr ⟨_, h, rfl⟩)
theorem rch_big (x : Wd) (m : Nat) : rch x m ≤ big x := by
  by_cases h : rch x m = 0
  · omega
  · obtain ⟨p, _, h2⟩ := rch_row h
    exact big_ge h2
theorem top2 (x : Wd) : (top x).2 = big x := by
  cases h : (rows x).filter fun r => r.2 == big x with
  | nil => rw [(top_nil h).1, (top_nil h).2]
  | cons r l => rw [(top_cons h).1, (top_cons h).2.2.1]
/-- the first middle of the longest -/
theorem first_mid {x : Wd} {j : Nat} (h1 : rch x j = big x) (h2 : ∀ k, k < j → rch x k ≠ big x) : j = 2 * (top x).1 + big x := by
  cases h : (rows x).filter fun r => r.2 == big x with
  | nil =>
    rw [(top_nil h).1, (top_nil h).2]
    rw [(top_nil h).2] at h2
    have : rch x 0 = 0 := by have := (rch_le (x := x) (m := 0)).1; omega
    have : ¬ 0 < j := fun z => h2 0 z this
    show j = 0
    omega
  | cons r l =>
    obtain ⟨e1, e2, e3, e4⟩ := top_cons h
    rw [e1]
    have hb : r = (r.1, big x) := by rw [← e3]
    rw [hb] at e2
    have g1 := mem_rows.mp e2
    obtain ⟨p, g2, g3⟩ := rch_row (x := x) (m := j) (by omega)
    rw [h1] at g2 g3
    have g4 := e4 p g3
    have g5 : rch x (2 * r.1 + big x) = big x := Nat.le_antisymm (rch_big _ _) (rch_ge e2)
    have : ¬ 2 * r.1 + big x < j := fun z => h2 _ z g5
    omega
theorem big_le (x : Wd) : (top x).1 + big x ≤ x.length := by
  cases h : (rows x).filter fun r => r.2 == big x with
  | nil => rw [(top_nil h).1, (top_nil h).2]; exact Nat.zero_le _
  | cons r l =>
    obtain ⟨e1, e2, e3, e4⟩ := top_cons h
    rw [e1]
    have hb : r = (r.1, big x) := by rw [← e3]
    rw [hb] at e2
    exact (mem_rows.mp e2).2.1
theorem big_rch (x : Wd) : maxN ((List.range (2 * x.length + 1)).map (rch x)) = big x := by
  apply maxN_eq
  · by_cases h : big x = 0
    · exact .inl h
    · right
      cases hh : (rows x).filter fun r => r.2 == big x with
      | nil => exact absurd (top_nil hh).2 h
      | cons r l =>
        obtain ⟨e1, e2, e3, e4⟩ := top_cons hh
        have hb : r = (r.1, big x) := by rw [← e3]
        rw [hb] at e2
        have g1 := mem_rows.mp e2
        exact List.mem_map.mpr ⟨2 * r.1 + big x, List.mem_range.mpr (by omega), Nat.le_antisymm (rch_big _ _) (rch_ge e2)⟩
  · intro b hb
    obtain ⟨m, _, rfl⟩ := List.mem_map.mp hb
    exact rch_big x m
/-- the last ones -/
theorem sub_end {x : Wd} {p s : Nat} (h : p + s = x.length) : sub x p s = x.drop p := by
  unfold sub; rw [List.take_of_length_le (by rw [List.length_drop]; omega)]
theorem last_eq (x : Wd) : maxN (((rows x).filter fun r => r.1 + r.2 == x.length).map Prod.snd) = x.length - lastP x := by
  obtain ⟨h1, h2, h3⟩ := lastP_spec x
  apply maxN_eq
  · by_cases h : lastP x = x.length
    · left; omega
    · right
      refine List.mem_map.mpr ⟨(lastP x, x.length - lastP x), List.mem_filter.mpr ⟨mem_rows.mpr ⟨by omega, by omega, ?_⟩, ?_⟩, rfl⟩
      · unfold pb; rw [sub_end (by omega)]; exact h2
      · rw [beq_iff_eq]; show lastP x + (x.length - lastP x) = _; omega
  · intro b hb
    obtain ⟨⟨p, s⟩, hr, rfl⟩ := List.mem_map.mp hb
    obtain ⟨g1, g2⟩ := List.mem_filter.mp hr
    have g2 : p + s = x.length := beq_iff_eq.mp g2
    obtain ⟨g3, g4, g5⟩ := mem_rows.mp g1
    unfold pb at g5
    rw [sub_end g2] at g5
    show s ≤ _
    have : ¬ p < lastP x := fun z => by rw [h3 p z] at g5; cases g5
    omega

/-! one letter -/
theorem ones_pb {n a p s : Nat} (h : p + s ≤ n) : pb (List.replicate n a) p s = true := (pb_iff (by rw [List.length_replicate]; exact h)).mpr fun i j hi hj hij => by
  rw [List.getElem?_replicate, List.getElem?_replicate, if_pos (by omega), if_pos (by omega)]
theorem ones_rch {n a m : Nat} (h : m ≤ 2 * n) : rch (List.replicate n a) m = min m (2 * n - m) := by
  apply rch_eq
  · by_cases hz : min m (2 * n - m) = 0
    · exact .inl hz
    · right
      refine ⟨(m - min m (2 * n - m)) / 2, by omega, mem_rows.mpr ⟨by omega, by rw [List.length_replicate]; omega, ones_pb (by omega)⟩⟩
  · intro p s' e hr
    have := mem_rows.mp hr
    rw [List.length_replicate] at this
    omega
theorem ones_last {n a : Nat} : lastP (List.replicate n a) = 0 := lastP_at (Nat.zero_le _) (by unfold pal; rw [List.drop_zero, List.reverse_replicate, beq_self_eq_true]) (fun _ h => by omega)
theorem ones_clo {n a : Nat} : clo (List.replicate n a) = List.replicate n a := by unfold clo; rw [ones_last]; simp
theorem tri (n : Nat) : ∀ k, k ≤ n → 2 * ((List.range k).map fun p => n - p).sum = k * (2 * n + 1 - k)
  | 0, _ => by simp
  | k + 1, h => by
    rw [List.range_succ, List.map_append, List.sum_append, Nat.mul_add, tri n k (by omega)]
    simp only [List.map_cons, List.map_nil, List.sum_cons, List.sum_nil, Nat.add_zero]
    obtain ⟨d, rfl⟩ := Nat.exists_eq_add_of_le h
    have e1 : 2 * (k + 1 + d) + 1 - k = k + 2 * d + 3 := by omega
    have e2 : k + 1 + d - k = d + 1 := by omega
    have e3 : 2 * (k + 1 + d) + 1 - (k + 1) = k + 2 * d + 2 := by omega
    rw [e1, e2, e3, Nat.add_mul]
    have : k * (k + 2 * d + 3) = k * (k + 2 * d + 2) + k := by rw [← Nat.mul_succ]
    omega
theorem ones_rows {n a : Nat} : (rows (List.replicate n a)).length = n * (n + 1) / 2 := by
  have : (rows (List.replicate n a)).length = ((List.range n).map fun p => n - p).sum := by
    unfold rows
    rw [List.length_flatMap, List.length_replicate]
    congr 1
    apply List.map_congr_left
    intro p hp
    rw [List.mem_range] at hp
    rw [List.length_map, List.filter_eq_self.mpr, List.length_range]
    intro i hi
    rw [List.mem_range] at hi
    exact ones_pb (by omega)
  have t := tri n n (Nat.le_refl _)
  have e : 2 * n + 1 - n = n + 1 := by omega
  rw [e] at t
  omega
theorem ones_big {n a : Nat} : big (List.replicate n a) = n := by
  apply maxN_eq
  · by_cases h : n = 0
    · exact .inl h
    · exact .inr (List.mem_map.mpr ⟨(0, n), mem_rows.mpr ⟨by omega, by rw [List.length_replicate]; omega, ones_pb (by omega)⟩, rfl⟩)
  · intro b hb
    obtain ⟨⟨p, s⟩, hr, rfl⟩ := List.mem_map.mp hb
    have := mem_rows.mp hr
    rw [List.length_replicate] at this
    show s ≤ n
    omega
theorem ones_top {n a : Nat} : top (List.replicate n a) = (0, n) := by
  have h1 := big_le (List.replicate n a)
  have h2 := top2 (List.replicate n a)
  rw [ones_big] at h1 h2
  rw [List.length_replicate] at h1
  exact Prod.ext (by show (top _).1 = 0; omega) h2

/-! letters all different -/
theorem diff_pb {x : Wd} {p s : Nat} (hn : x.Nodup) (h : p + s ≤ x.length) (hs : 1 ≤ s) : pb x p s = (s == 1) := by
  by_cases h1 : s = 1
  · subst h1; exact pb_one h
  · rw [show (s == 1) = false by simpa using h1]
    cases hb : pb x p s with
    | false => rfl
    | true =>
      have := (pb_iff h).mp hb p (p + s - 1) (by omega) (by omega) (by omega)
      rw [List.getElem?_eq_getElem (by omega), List.getElem?_eq_getElem (by omega)] at this
      have e := Option.some.inj this
      have hl : p < p + s - 1 := by omega
      exact absurd e (List.pairwise_iff_getElem.mp hn p (p + s - 1) (by omega) (by omega) hl)
theorem diff_last {x : Wd} (hn : x.Nodup) (h : 1 ≤ x.length) : lastP x = x.length - 1 := by
  refine lastP_at (by omega) ?_ fun j hj => ?_
  · have := diff_pb (p := x.length - 1) (s := 1) hn (by omega) (Nat.le_refl _)
    unfold pb at this
    rw [sub_end (by omega)] at this
    exact this
  · have := diff_pb (p := j) (s := x.length - j) hn (by omega) (by omega)
    unfold pb at this
    rw [sub_end (by omega)] at this
    rw [this]
    simp; omega
theorem diff_clo {x : Wd} (hn : x.Nodup) (h : 1 ≤ x.length) : (clo x).length = 2 * x.length - 1 := by
  unfold clo
  rw [diff_last hn h, List.length_append, List.length_reverse, List.length_take]
  omega
theorem sum_const {l : List Nat} {f : Nat → Nat} (h : ∀ a ∈ l, f a = 1) : (l.map f).sum = l.length := by
  induction l with
  | nil => rfl
  | cons a l ih => rw [List.map_cons, List.sum_cons, h a List.mem_cons_self, ih fun b hb => h b (List.mem_cons_of_mem _ hb), List.length_cons]; omega
theorem diff_rows {x : Wd} (hn : x.Nodup) : (rows x).length = x.length := by
  unfold rows
  rw [List.length_flatMap, sum_const, List.length_range]
  intro p hp
  rw [List.mem_range] at hp
  rw [List.length_map]
  obtain ⟨d, hd⟩ : ∃ d, x.length - p = d + 1 := ⟨x.length - p - 1, by omega⟩
  rw [hd, List.range_succ_eq_map, List.filter_cons, if_pos (by rw [diff_pb hn (by omega) (by omega)]; rfl), List.length_cons, List.filter_eq_nil_iff.mpr]
  · rfl
  · intro i hi
    obtain ⟨k, hk, rfl⟩ := List.mem_map.mp hi
    rw [List.mem_range] at hk
    rw [diff_pb hn (by omega) (by omega)]
    simp
theorem clo_abca : clo [97, 98, 99, 97] = [97, 98, 99, 97, 99, 98, 97] := by decide
end K63
set_option Elab.async false
set_option linter.all false
set_option autoImplicit false
set_option maxRecDepth 100000
namespace K63
open PySem PySem.Spec L2 WL

abbrev sx (pre : Wd → Prop) (g : Wd → D) : Sx := .of (fun x => [.str x]) pre g
def s_backwards : Sx := sx (fun _ => True) fun x => .str x.reverse
def s_is_palindrome : Sx := sx (fun _ => True) fun x => .bl (pal x)
def s_reaches : Sx := sx (fun x => x.length ≤ 1000) fun x => .tup ((List.range (2 * x.length + 1)).map fun m => .int (rch x m))
def s_longest_palindrome : Sx := sx (fun x => x.length ≤ 1000) fun x => .tup [.int (top x).1, .str (sub x (top x).1 (big x))]
def s_palindrome_count : Sx := sx (fun x => x.length ≤ 1000) fun x => .int (rows x).length
def s_longest_end : Sx := sx (fun x => x.length ≤ 1000) fun x => .str (x.drop (lastP x))
def s_closed : Sx := sx (fun x => x.length ≤ 1000) fun x => .str (clo x)
def s__law_turned : Sx := sx (fun x => x.length ≤ 1000) fun x => .str x.reverse
def s__law_all : Sx := sx (fun x => x.length ≤ 400) fun x => .lst ((rows x).map fun r => .tup [.int r.1, .int r.2])
def s__law_closed : Sx := sx (fun x => x.length ≤ 400) fun x => .str (clo x)
def s__law_fine : Sx := sx (fun x => x.length ≤ 60) fun _ => .bl true

theorem sem_backwards : ∀ ds R, ds.length = 1 → s_backwards.f ds R → w_backwards { nx := fun _ => R .non, rt := R } (startW 1 ds) := by
  intro ds R _ ⟨x, hx, _, h⟩
  subst hx
  exact h
theorem sem_is_palindrome : ∀ ds R, ds.length = 1 → s_is_palindrome.f ds R → w_is_palindrome s_backwards { nx := fun _ => R .non, rt := R } (startW 1 ds) := by
  intro ds R _ ⟨x, hx, _, h⟩
  subst hx
  exact ⟨rfl, x, rfl, trivial, h⟩
theorem sem_longest_end : ∀ ds R, ds.length = 1 → s_longest_end.f ds R → w_longest_end s_is_palindrome { nx := fun _ => R .non, rt := R } (startW 2 ds) := by
  intro ds R _ ⟨x, hx, hp, h⟩
  subst hx
  obtain ⟨l1, l2, l3⟩ := lastP_spec x
  show rOk _ ∧ wForL _ _ _ (rngL 0 ((x.length : Int) + 1).toNat) _
  refine ⟨⟨by omega, by omega⟩, ?_⟩
  refine forR (fun i ρ => (∃ s, ρ = [.val (.str x), s]) ∧ i ≤ lastP x) ⟨⟨_, rfl⟩, Nat.zero_le _⟩ ?_ ?_
  · rintro i ρ K hi ⟨⟨s, rfl⟩, hl⟩ hK
    have e : cutL x (some (0 + (i : Int))) none = x.drop i := by rw [cut_lo _ (by omega)]; congr 1; omega
    show _ = _ ∧ s_is_palindrome.f [D.str (cutL x (some (0 + (i : Int))) none)] _
    refine ⟨rfl, _, rfl, trivial, ifP_b (fun b => ?_) (fun b => ?_)⟩
    · rw [e] at b
      have : i = lastP x := by
        have : ¬ i < lastP x := fun z => by rw [l3 i z] at b; cases b
        omega
      show R (.str (cutL x (some (0 + (i : Int))) none))
      rw [e, this]; exact h
    · rw [e] at b
      refine hK _ ⟨⟨_, rfl⟩, ?_⟩
      have : i ≠ lastP x := fun z => by rw [z, l2] at b; cases b
      omega
  · rintro ρ ⟨_, hl⟩
    omega
theorem sem_closed : ∀ ds R, ds.length = 1 → s_closed.f ds R → w_closed s_backwards s_longest_end { nx := fun _ => R .non, rt := R } (startW 1 ds) := by
  intro ds R _ ⟨x, hx, hp, h⟩
  subst hx
  obtain ⟨l1, l2, l3⟩ := lastP_spec x
  refine ⟨rfl, x, rfl, hp, ?_⟩
  refine ⟨rfl, _, rfl, trivial, ?_⟩
  have e : cutL x none (some ((x.length : Int) - ((x.drop (lastP x)).length : Int))) = x.take (lastP x) := by
    rw [List.length_drop, cut_hi _ (by omega)]; congr 1; omega
  show _ ∧ R (.str (x ++ (cutL x none (some ((x.length : Int) - ((x.drop (lastP x)).length : Int)))).reverse))
  refine ⟨?_, ?_⟩
  · show x.length + (cutL x none (some ((x.length : Int) - ((x.drop (lastP x)).length : Int)))).reverse.length ≤ _
    rw [e, List.length_reverse, List.length_take]; omega
  · rw [e]; exact h
theorem sem__law_turned : ∀ ds R, ds.length = 1 → s__law_turned.f ds R → w__law_turned { nx := fun _ => R .non, rt := R } (startW 2 ds) := by
  intro ds R _ ⟨x, hx, hp, h⟩
  subst hx
  show tyOk "str" (.str []) = true ∧ rOk _ ∧ wLcL (.one 1) wYes _ [.val (.str x), .un] (rngL 0 ((x.length : Int)).toNat) [] _
  refine ⟨rfl, ⟨by omega, by omega⟩, ?_⟩
  rw [Int.toNat_natCast]
  refine lc_rng (fun i => .str [(x.reverse)[i]?.getD 0]) (fun i hi Q hQ => ?_) ?_
  · have hx : x[x.length - 1 - i]? = some (x[x.length - 1 - i]'(by omega)) := List.getElem?_eq_getElem (by omega)
    have e : atI x ((x.length : Int) - 1 - (0 + (i : Int))) = some (x[x.length - 1 - i]'(by omega)) := atI_i (by omega) (by
      rw [← hx]; congr 1; omega)
    show (match atI x ((x.length : Int) - 1 - (0 + (i : Int))) with | some c => Q (.val (.str [c])) | none => False)
    rw [e]
    refine hQ _ ?_
    rw [List.getElem?_reverse hi, hx]; rfl
  · show (match strsOf ((List.range x.length).map fun i => D.str [(x.reverse)[i]?.getD 0]) with | some ys => _ | none => False)
    have e2 : (List.range x.length).map (fun i => D.str [(x.reverse)[i]?.getD 0]) = (x.reverse.map fun c => [c]).map D.str := by
      rw [List.map_map]
      apply List.ext_getElem?
      intro i
      rw [List.getElem?_map, List.getElem?_map]
      by_cases hi : i < x.length
      · rw [List.getElem?_range hi, List.getElem?_eq_getElem (by rw [List.length_reverse]; exact hi), Option.map_some, Option.map_some, List.getElem?_eq_getElem (by rw [List.length_reverse]; exact hi)]; rfl
      · rw [List.getElem?_eq_none (by rw [List.length_range]; omega), List.getElem?_eq_none (by rw [List.length_reverse]; omega)]; rfl
    rw [e2, strsOf_map, List.map_id']
    have e3 : ∀ l : Wd, TL.joinL [] (l.map fun c => [c]) = l := by
      intro l
      induction l with
      | nil => rfl
      | cons a l ih => cases l with
        | nil => rfl
        | cons b l => 
          show [a] ++ ([] ++ TL.joinL [] ((b :: l).map fun c => [c])) = _
          rw [ih]; rfl
    have e4 : ∀ l : Wd, ((l.map fun c => [c]).map List.length).sum = l.length := by
      intro l
      induction l with
      | nil => rfl
      | cons a l ih => 
        show 1 + ((l.map fun c => [c]).map List.length).sum = l.length + 1
        rw [ih]; omega
    refine ⟨?_, ?_⟩
    · rw [e4]; show x.reverse.length + _ * 0 ≤ _; rw [List.length_reverse]; omega
    · show R (.str (TL.joinL [] (x.reverse.map fun c => [c])))
      rw [e3]; exact h
theorem sem_reaches : ∀ ds R, ds.length = 1 → s_reaches.f ds R → w_reaches { nx := fun _ => R .non, rt := R } (startW 5 ds) := by
  intro ds R _ ⟨x, hx, hp, h⟩
  subst hx
  have hp : x.length ≤ 1000 := hp
  show (CMul 2 (x.length : Int)) ∧ rOk _ ∧ wForL _ _ _ (rngL 0 (2 * (x.length : Int) + 1).toNat) _
  have en : (2 * (x.length : Int) + 1).toNat = 2 * x.length + 1 := by omega
  refine ⟨.inl ⟨by omega, by omega⟩, ⟨by omega, by omega⟩, ?_⟩
  rw [en]
  refine forR (fun i ρ => ∃ a b c, ρ = [.val (.str x), .own (.lst ((List.range i).map fun m => .int (rch x m))), a, b, c]) ⟨_, _, _, rfl⟩ ?_ ?_
  · rintro i ρ K hi ⟨a, b, c, rfl⟩ hK
    -- the loop from here
    have go : ∀ (E : WEnds) (lo hi0 : Int), (∀ l h : Int, l + 1 ≤ h → rch x i = (h - l - 1).toNat → E.nx [.val (.str x), .own (.lst ((List.range i).map fun m => .int (rch x m))), .val (.int (0 + (i : Int))), .val (.int l), .val (.int h)]) → lo + hi0 = (i : Int) - 1 → (lo = hi0 ∨ lo + 1 = hi0) → wWhile (wAnd (wTB (wOp oGe (wName 3) (wC (.int 0)))) (wAnd (wTB (wOp oLt (wName 4) (wB oLen (wCons (wName 0) wNil)))) (wTB (wOp oEq (wOp oIx (wName 0) (wName 3)) (wOp oIx (wName 0) (wName 4)))))) (wPar 3 4 (wOp oSub (wName 3) (wC (.int 1))) (wOp oAdd (wName 4) (wC (.int 1)))) E [.val (.str x), .own (.lst ((List.range i).map fun m => .int (rch x m))), .val (.int (0 + (i : Int))), .val (.int lo), .val (.int hi0)] := by
      intro E lo hi0 hE h1 h2
      refine while_ind (fun ρ => ∃ l h : Int, ρ = [.val (.str x), .own (.lst ((List.range i).map fun m => .int (rch x m))), .val (.int (0 + (i : Int))), .val (.int l), .val (.int h)] ∧ l + h = (i : Int) - 1 ∧ -1 ≤ l ∧ l ≤ h ∧ h ≤ x.length ∧ ∀ a b : Nat, l < a → l < b → a + b + 1 = i → x[a]? = x[b]?) (fun ρ => match ρ with | [_, _, _, .val (.int l), _] => (l + 1).toNat | _ => 0) ⟨lo, hi0, rfl, h1, by omega, by omega, by omega, fun a b ha hb hab => ?_⟩ ?_
      · have : a = b := by omega
        rw [this]
      · rintro ρ K' ⟨l, h, rfl, g1, g2, g3, g4, g5⟩ hK'
        have fin : (l < 0 ∨ (x.length : Int) ≤ h ∨ (0 ≤ l ∧ h < x.length ∧ x[l.toNat]? ≠ x[h.toNat]?)) → E.nx [.val (.str x), .own (.lst ((List.range i).map fun m => .int (rch x m))), .val (.int (0 + (i : Int))), .val (.int l), .val (.int h)] := by
          intro hc
          have hlt : l + 1 ≤ h := by
            rcases hc with hc | hc | ⟨hc, _, hd⟩
            · omega
            · omega
            · have : l ≠ h := fun e => hd (by rw [e])
              omega
          refine hE _ _ hlt ?_
          apply rch_eq
          · by_cases hz : (h - l - 1).toNat = 0
            · exact .inl hz
            · right
              refine ⟨(l + 1).toNat, by omega, mem_rows.mpr ⟨by omega, by omega, (pb_iff (by omega)).mpr fun a b ha hb hab => g5 a b (by omega) (by omega) (by omega)⟩⟩
          · intro p s' e hr
            obtain ⟨r1, r2, r3⟩ := mem_rows.mp hr
            have hn : ¬ (h - l - 1).toNat < s' := by
              intro hz
              rcases hc with hc | hc | ⟨hc, hd, he⟩
              · omega
              · omega
              · exact he ((pb_iff r2).mp r3 l.toNat h.toNat (by omega) (by omega) (by omega))
            omega
        refine ifP_b (fun b1 => ifP_b (fun b2 => ?_) (fun b2 => ifP_f ?_)) (fun b1 => ifP_f ?_)
        · have b1 : 0 ≤ l := of_decide_eq_true b1
          have b2 : h < (x.length : Int) := of_decide_eq_true b2
          have e1 : atI x l = some (x[l.toNat]'(by omega)) := atI_i b1 (List.getElem?_eq_getElem (by omega))
          have e2 : atI x h = some (x[h.toNat]'(by omega)) := atI_i (by omega) (List.getElem?_eq_getElem (by omega))
          show (match atI x l with | some c => _ | none => False)
          rw [e1]
          show (match atI x h with | some c => _ | none => False)
          rw [e2]
          refine ifP_b (fun b3 => ?_) (fun b3 => ?_)
          · have b3 : x[l.toNat]'(by omega) = x[h.toNat]'(by omega) := by
              have b3 : ([x[l.toNat]'(by omega)] == [x[h.toNat]'(by omega)]) = true := b3
              simpa using b3
            refine hK' _ ⟨l - 1, h + 1, rfl, by omega, by omega, by omega, by omega, fun a b ha hb hab => ?_⟩ (by show (l - 1 + 1).toNat < (l + 1).toNat; omega)
            by_cases hq : (a : Int) = l
            · have hb' : b = h.toNat := by omega
              have ha' : a = l.toNat := by omega
              rw [ha', hb', List.getElem?_eq_getElem (by omega), List.getElem?_eq_getElem (by omega), b3]
            · by_cases hq2 : (b : Int) = l
              · have hb' : a = h.toNat := by omega
                have ha' : b = l.toNat := by omega
                rw [ha', hb', List.getElem?_eq_getElem (by omega), List.getElem?_eq_getElem (by omega), b3]
              · exact g5 a b (by omega) (by omega) hab
          · refine fin (.inr (.inr ⟨b1, b2, fun z => ?_⟩))
            rw [List.getElem?_eq_getElem (by omega), List.getElem?_eq_getElem (by omega)] at z
            have z := Option.some.inj z
            have b3 : ([x[l.toNat]'(by omega)] == [x[h.toNat]'(by omega)]) = false := b3
            rw [z] at b3
            simp at b3
        · have b2 : ¬ h < (x.length : Int) := of_decide_eq_false b2
          exact fin (.inr (.inl (by omega)))
        · have b1 : ¬ 0 ≤ l := of_decide_eq_false b1
          exact fin (.inl (by omega))
    have hE : ∀ (E : WEnds) (l h : Int), E.nx = K → l + 1 ≤ h → rch x i = (h - l - 1).toNat → wApp 1 (wOp oSub (wOp oSub (wName 4) (wName 3)) (wC (.int 1))) E [.val (.str x), .own (.lst ((List.range i).map fun m => .int (rch x m))), .val (.int (0 + (i : Int))), .val (.int l), .val (.int h)] := by
      intro E l h e1 hl er
      show ((List.range i).map fun m => D.int (rch x m)).length < 16777216 ∧ E.nx [.val (.str x), .own (.lst (((List.range i).map fun m => D.int (rch x m)) ++ [.int (h - l - 1)])), .val (.int (0 + (i : Int))), .val (.int l), .val (.int h)]
      rw [e1]
      refine ⟨by rw [List.length_map, List.length_range]; omega, hK _ ⟨.val (.int (0 + (i : Int))), .val (.int l), .val (.int h), ?_⟩⟩
      rw [List.range_succ, List.map_append, List.map_singleton, er]
      have : (h - l - 1) = (((h - l - 1).toNat : Nat) : Int) := by omega
      rw [← this]
    have b0 : Builtin.bitAnd (0 + (i : Int)) 1 = (0 + (i : Int)) % 2 := PyProof.Rows.bitAnd_m1 _
    refine ⟨⟨by omega, by omega⟩, ⟨by omega, by omega⟩, ifP_b (fun b1 => ⟨⟨by omega, by omega⟩, ⟨by omega, by omega⟩, go _ _ _ (fun l h => hE _ l h rfl) ?_ ?_⟩) (fun b1 => go _ _ _ (fun l h => hE _ l h rfl) ?_ ?_)⟩
    all_goals
      have b1 : (Builtin.bitAnd (0 + (i : Int)) 1 == 0) = _ := b1
      rw [b0] at b1
      simp at b1
      dsimp only
      omega
  · rintro ρ ⟨a, b, c, rfl⟩
    exact h
theorem sem_longest_palindrome : ∀ ds R, ds.length = 1 → s_longest_palindrome.f ds R → w_longest_palindrome s_reaches { nx := fun _ => R .non, rt := R } (startW 5 ds) := by
  intro ds R _ ⟨x, hx, hp, h⟩
  subst hx
  have hp : x.length ≤ 1000 := hp
  have hb := big_le x
  refine ⟨rfl, x, rfl, hp, ?_⟩
  have e1 := intsOf_nat (List.range (2 * x.length + 1)) (rch x)
  have e2 : maxI (((List.range (2 * x.length + 1)).map (rch x)).map fun n : Nat => (n : Int)) = some ((big x : Nat) : Int) := by
    rw [maxI_nat (by simp), big_rch]
  have e3 : fstIx (big x : Int) (((List.range (2 * x.length + 1)).map (rch x)).map fun n : Nat => (n : Int)) 0 = some (2 * (top x).1 + big x) := by
    have hm : maxN ((List.range (2 * x.length + 1)).map (rch x)) = big x := big_rch x
    obtain ⟨j, hj, hj2, hj3⟩ : ∃ j, j < 2 * x.length + 1 ∧ rch x j = big x ∧ ∀ k, k < j → rch x k ≠ big x := by
      have ex : ∃ j, j < 2 * x.length + 1 ∧ rch x j = big x := by
        rcases maxN_mem ((List.range (2 * x.length + 1)).map (rch x)) with h0 | h0
        · exact ⟨0, by omega, by have := (rch_le (x := x) (m := 0)).1; omega⟩
        · rw [hm] at h0
          obtain ⟨j, g1, g2⟩ := List.mem_map.mp h0
          exact ⟨j, List.mem_range.mp g1, g2⟩
      obtain ⟨j, g1, g2⟩ := ex
      induction j using Nat.strongRecOn with
      | _ j ih =>
        by_cases hq : ∃ k, k < j ∧ rch x k = big x
        · obtain ⟨k, g3, g4⟩ := hq
          exact ih k g3 (by omega) g4
        · exact ⟨j, g1, g2, fun k hk e => hq ⟨k, hk, e⟩⟩
    have := first_mid hj2 hj3
    rw [← this]
    rw [fstIx_of (j := j), Nat.zero_add]
    · rw [List.getElem?_map, List.getElem?_map, List.getElem?_range hj, Option.map_some, Option.map_some, hj2]
    · intro k hk
      rw [List.getElem?_map, List.getElem?_map, List.getElem?_range (by omega), Option.map_some, Option.map_some]
      intro e
      exact hj3 k hk (by have := Option.some.inj e; omega)
  have e4 : (((2 * (top x).1 + big x : Nat) : Int) - (big x : Int) + 1) / 2 = ((top x).1 : Int) := by omega
  have e5 : cutL x (some ((top x).1 : Int)) (some ((top x).1 + (big x : Int))) = sub x (top x).1 (big x) := by
    rw [cut_lh _ (by omega) (by omega)]
    unfold sub
    congr 1
    omega
  simp only [wSet, wB, wCons, wNil, wName, wSeq, wM, wOp, wC, oMaxA, oIntsA, startW, WL.R.slot, List.set, List.map, List.cons_append, List.replicate, List.length, List.nil_append, List.getElem?_cons_succ, List.getElem?_cons_zero, WL.R.d, WL.R.fz, e1, e2, optInt]
  refine ⟨rfl, ?_⟩
  simp only [oIndexT, e1, e3, WL.R.slot, oAdd, oI0, oI, List.set, e4, wFz, wRet, wTup, wCons, wNil, wName, wSl, wPt, oSl, vals, WL.R.d, WL.R.fz, List.getElem?_cons_succ, List.getElem?_cons_zero, wOp]
  refine ⟨⟨by omega, by omega⟩, ?_⟩
  rw [e5]
  exact h
theorem sem_palindrome_count : ∀ ds R, ds.length = 1 → s_palindrome_count.f ds R → w_palindrome_count s_reaches { nx := fun _ => R .non, rt := R } (startW 2 ds) := by
  intro ds R _ ⟨x, hx, hp, h⟩
  subst hx
  have hp : x.length ≤ 1000 := hp
  refine ⟨rfl, x, rfl, hp, ?_⟩
  show wLcL (.one 1) wYes _ [.val (.str x), .un] ((List.range (2 * x.length + 1)).map fun m => .int (rch x m)) [] _
  refine lc_map (fun m => .int (((rch x m + 1) / 2 : Nat) : Int)) (fun m _ => ⟨_, rfl, fun Q hQ => ⟨⟨by omega, by omega⟩, hQ _ rfl⟩⟩) ?_
  show (match intsOf ((List.range (2 * x.length + 1)).map fun m => .int (((rch x m + 1) / 2 : Nat) : Int)) with | some ns => _ | none => False)
  rw [intsOf_nat]
  have : (((List.range (2 * x.length + 1)).map fun m => (rch x m + 1) / 2).map fun n : Nat => (n : Int)).sum = ((rows x).length : Int) := by
    rw [← count_rows]
    generalize (List.range (2 * x.length + 1)).map (fun m => (rch x m + 1) / 2) = l
    induction l with
    | nil => rfl
    | cons a l ih => rw [List.map_cons, List.sum_cons, ih, List.sum_cons]; omega
  show R (.int (((List.range (2 * x.length + 1)).map fun m => (rch x m + 1) / 2).map fun n : Nat => (n : Int)).sum)
  rw [this]
  exact h
theorem sem__law_all : ∀ ds R, ds.length = 1 → s__law_all.f ds R → w__law_all s__law_turned { nx := fun _ => R .non, rt := R } (startW 4 ds) := by
  intro ds R _ ⟨x, hx, hp, h⟩
  subst hx
  have hp : x.length ≤ 400 := hp
  show rOk _ ∧ wForL _ _ _ (rngL 0 ((x.length : Int)).toNat) _
  rw [Int.toNat_natCast]
  refine ⟨⟨by omega, by omega⟩, ?_⟩
  let rw' := fun i => (List.range i).flatMap fun p => ((List.range (x.length - p)).filter fun i => pb x p (i + 1)).map fun i => (p, i + 1)
  have hlen : ∀ i, i ≤ x.length → (rw' i).length ≤ i * 400 := by
    intro i hi
    induction i with
    | zero => simp [rw']
    | succ i ih =>
      have e : rw' (i + 1) = rw' i ++ ((List.range (x.length - i)).filter fun j => pb x i (j + 1)).map fun j => (i, j + 1) := by
        show (List.range (i + 1)).flatMap _ = _
        rw [List.range_succ, List.flatMap_append]
        simp [rw']
      rw [e, List.length_append, List.length_map]
      have := List.length_filter_le (fun j => pb x i (j + 1)) (List.range (x.length - i))
      rw [List.length_range] at this
      have := ih (by omega)
      omega
  refine forR (fun i ρ => ∃ a, ρ = [.val (.str x), .own (.lst ((rw' i).map fun r => .tup [.int r.1, .int r.2])), a, .un]) ⟨_, rfl⟩ ?_ ?_
  · rintro i ρ K hi ⟨a, rfl⟩ hK
    have e : rw' (i + 1) = rw' i ++ ((List.range (x.length - i)).filter fun j => pb x i (j + 1)).map fun j => (i, j + 1) := by
      show (List.range (i + 1)).flatMap _ = _
      rw [List.range_succ, List.flatMap_append]
      simp [rw']
    have hl := hlen i (by omega)
    have en : ((x.length : Int) - (0 + (i : Int)) + 1 - 1).toNat = x.length - i := by omega
    show (rOk _ ∧ rOk _ ∧ _) ∧ wLcL (.one 3) _ _ _ (rngL 1 ((x.length : Int) - (0 + (i : Int)) + 1 - 1).toNat) [] _
    rw [en]
    refine ⟨⟨⟨by omega, by omega⟩, (by dsimp only; exact ⟨by omega, by omega⟩), (by dsimp only; omega)⟩, ?_⟩
    refine lc_rngF (fun j => .tup [.int (0 + (i : Int)), .int (1 + (j : Int))]) (fun j => pb x i (j + 1)) (fun j hj => ⟨fun Q q => ?_, fun _ Q q => q _ rfl⟩) ?_
    · have ec : cutL x (some (0 + (i : Int))) (some (0 + (i : Int) + (1 + (j : Int)))) = sub x i (j + 1) := by
        rw [cut_lh _ (by omega) (by omega)]
        unfold sub
        congr 1
        · omega
        · congr 1; omega
      show _ = _ ∧ s__law_turned.f [.str (cutL x (some (0 + (i : Int))) (some (0 + (i : Int) + (1 + (j : Int)))))] _
      refine ⟨rfl, _, rfl, ?_, ?_⟩
      · show (cutL x _ _).length ≤ 1000
        rw [ec, sub_len (by omega)]; omega
      · show Q (cutL x (some (0 + (i : Int))) (some (0 + (i : Int) + (1 + (j : Int)))) == (cutL x (some (0 + (i : Int))) (some (0 + (i : Int) + (1 + (j : Int))))).reverse)
        rw [ec]; exact q
    · refine ⟨?_, ?_⟩
      · rw [List.length_map, List.length_map]
        have := List.length_filter_le (fun j => pb x i (j + 1)) (List.range (x.length - i))
        rw [List.length_range] at this
        have : i * 400 ≤ 400 * 400 := Nat.mul_le_mul_right _ (by omega)
        omega
      · refine hK _ ⟨.val (.int (0 + (i : Int))), ?_⟩
        have em : ((List.range (x.length - i)).filter fun j => pb x i (j + 1)).map (fun j : Nat => D.tup [.int (0 + (i : Int)), .int (1 + (j : Int))]) = ((List.range (x.length - i)).filter fun j => pb x i (j + 1)).map ((fun r : Nat × Nat => D.tup [.int r.1, .int r.2]) ∘ fun j => (i, j + 1)) := by
          apply List.map_congr_left
          intro j _
          have e1 : (0 : Int) + (i : Int) = (i : Int) := by omega
          have e2 : (1 : Int) + (j : Int) = ((j + 1 : Nat) : Int) := by omega
          show D.tup [.int (0 + (i : Int)), .int (1 + (j : Int))] = .tup [.int (i : Int), .int ((j + 1 : Nat) : Int)]
          rw [e1, e2]
        rw [e, List.map_append, List.map_map, ← em]
        rfl
  · rintro ρ ⟨a, rfl⟩
    exact h
theorem sem__law_closed : ∀ ds R, ds.length = 1 → s__law_closed.f ds R → w__law_closed s__law_turned { nx := fun _ => R .non, rt := R } (startW 3 ds) := by
  intro ds R _ ⟨x, hx, hp, h⟩
  subst hx
  have hp : x.length ≤ 400 := hp
  obtain ⟨l1, l2, l3⟩ := lastP_spec x
  show CMul 2 (x.length : Int) ∧ (rOk _ ∧ rOk _ ∧ _) ∧ wForL _ _ _ (rngL (x.length : Int) (2 * (x.length : Int) + 1 - (x.length : Int)).toNat) _
  have en : (2 * (x.length : Int) + 1 - (x.length : Int)).toNat = x.length + 1 := by omega
  rw [en]
  refine ⟨.inl ⟨by omega, by omega⟩, ⟨⟨by omega, by omega⟩, ⟨by omega, by omega⟩, by omega⟩, ?_⟩
  refine forR (fun i ρ => (∃ a b, ρ = [.val (.str x), a, b]) ∧ i ≤ lastP x) ⟨⟨_, _, rfl⟩, Nat.zero_le _⟩ ?_ ?_
  · rintro i ρ K hi ⟨⟨a, b, rfl⟩, hl⟩ hK
    have e : cutL x none (some ((x.length : Int) + (i : Int) - (x.length : Int))) = x.take i := by rw [cut_hi _ (by omega)]; congr 1; omega
    refine ⟨rfl, cutL x none (some ((x.length : Int) + (i : Int) - (x.length : Int))), rfl, ?_, ?_⟩
    · show (cutL x none _).length ≤ 1000
      rw [e, List.length_take]; omega
    have hlen : (cutL x none (some ((x.length : Int) + (i : Int) - (x.length : Int)))).reverse.length ≤ 400 := by rw [e, List.length_reverse, List.length_take]; omega
    refine ⟨by omega, by omega, rfl, _, rfl, ?_, ifP_b (fun b => ⟨by omega, ?_⟩) (fun b => ?_)⟩
    · show (x ++ (cutL x none (some ((x.length : Int) + (i : Int) - (x.length : Int)))).reverse).length ≤ 1000
      rw [List.length_append]; omega
    · have b : (x ++ (cutL x none (some ((x.length : Int) + (i : Int) - (x.length : Int)))).reverse == (x ++ (cutL x none (some ((x.length : Int) + (i : Int) - (x.length : Int)))).reverse).reverse) = true := b
      rw [e, clo_at (by omega)] at b
      have : i = lastP x := by
        have : ¬ i < lastP x := fun z => by rw [l3 i z] at b; cases b
        omega
      show R (.str (x ++ (cutL x none (some ((x.length : Int) + (i : Int) - (x.length : Int)))).reverse))
      rw [e, this]; exact h
    · have b : (x ++ (cutL x none (some ((x.length : Int) + (i : Int) - (x.length : Int)))).reverse == (x ++ (cutL x none (some ((x.length : Int) + (i : Int) - (x.length : Int)))).reverse).reverse) = false := b
      rw [e, clo_at (by omega)] at b
      refine hK _ ⟨⟨_, _, rfl⟩, ?_⟩
      have : i ≠ lastP x := fun z => by rw [z, l2] at b; cases b
      omega
  · rintro ρ ⟨_, hl⟩
    omega
end K63
set_option Elab.async false
set_option linter.all false
set_option autoImplicit false
set_option maxRecDepth 100000
namespace K63
open PySem PySem.Spec L2 WL

def rowD (r : Nat × Nat) : D := .tup [.int r.1, .int r.2]
/-- what stands at a middle when some rows are done -/
def dueN (l : List (Nat × Nat)) (m : Nat) : Nat := maxN ((l.filter fun r => 2 * r.1 + r.2 == m).map Prod.snd)
theorem dueN_app (l : List (Nat × Nat)) (r : Nat × Nat) (m : Nat) : dueN (l ++ [r]) m = if m = 2 * r.1 + r.2 then max (dueN l m) r.2 else dueN l m := by
  unfold dueN
  rw [List.filter_append, List.map_append]
  by_cases h : m = 2 * r.1 + r.2
  · rw [if_pos h, List.filter_cons, if_pos (beq_iff_eq.mpr h.symm)]
    exact maxN_app _ _
  · rw [if_neg h, List.filter_cons, if_neg (by rw [beq_iff_eq]; exact fun e => h e.symm)]
    simp
def due (x : Wd) (i : Nat) : List D := (List.range (2 * x.length + 1)).map fun m => .int (dueN ((rows x).take i) m)
theorem due_step {x : Wd} {i : Nat} {r : Nat × Nat} (h : (rows x)[i]? = some r) : due x (i + 1) = (due x i).set (2 * r.1 + r.2) (.int (max (dueN ((rows x).take i) (2 * r.1 + r.2)) r.2 : Nat)) := by
  have e : (rows x).take (i + 1) = (rows x).take i ++ [r] := by rw [List.take_add_one, h]; rfl
  unfold due
  rw [e]
  apply List.ext_getElem?
  intro k
  rw [List.getElem?_set, List.getElem?_map, List.getElem?_map, List.length_map, List.length_range]
  by_cases hk : k < 2 * x.length + 1
  · rw [List.getElem?_range hk]
    by_cases hr : 2 * r.1 + r.2 = k
    · subst hr
      rw [if_pos rfl, if_pos hk]
      have e2 := dueN_app ((rows x).take i) r (2 * r.1 + r.2)
      rw [if_pos rfl] at e2
      show some (D.int (dueN ((rows x).take i ++ [r]) (2 * r.1 + r.2))) = _
      rw [e2]
    · rw [if_neg hr]
      have e2 := dueN_app ((rows x).take i) r k
      rw [if_neg fun z => hr z.symm] at e2
      show some (D.int (dueN ((rows x).take i ++ [r]) k)) = some (D.int (dueN ((rows x).take i) k))
      rw [e2]
  · rw [List.getElem?_eq_none (by rw [List.length_range]; omega)]
    by_cases hr : 2 * r.1 + r.2 = k
    · rw [if_pos hr, if_neg (by omega)]; rfl
    · rw [if_neg hr]; rfl
theorem due_get {x : Wd} {i m : Nat} (h : m < 2 * x.length + 1) : (due x i)[m]? = some (.int (dueN ((rows x).take i) m)) := by
  unfold due; rw [List.getElem?_map, List.getElem?_range h]; rfl
theorem due_0 (x : Wd) : (List.replicate (2 * x.length + 1) [D.int 0]).flatten = due x 0 := by
  unfold due
  rw [List.take_zero]
  generalize 2 * x.length + 1 = n
  have e : ∀ n : Nat, (List.replicate n [D.int 0]).flatten = List.replicate n (D.int 0) := by
    intro n
    induction n with
    | zero => rfl
    | succ n ih => rw [List.replicate_succ, List.flatten_cons, ih]; rfl
  rw [e]
  apply List.ext_getElem?
  intro k
  rw [List.getElem?_replicate, List.getElem?_map]
  by_cases hk : k < n
  · rw [if_pos hk, List.getElem?_range hk]; rfl
  · rw [if_neg hk, List.getElem?_eq_none (by rw [List.length_range]; omega)]; rfl
theorem due_end (x : Wd) : due x (rows x).length = (List.range (2 * x.length + 1)).map fun m => .int (rch x m) := by
  unfold due
  rw [List.take_length]; rfl

theorem rows_len (x : Wd) : (rows x).length ≤ (2 * x.length + 1) * x.length := by
  rw [← count_rows]
  have : ∀ (l : List Nat), ((l.map fun m => (rch x m + 1) / 2)).sum ≤ l.length * x.length := by
    intro l
    induction l with
    | nil => exact Nat.zero_le _
    | cons a l ih =>
      rw [List.map_cons, List.sum_cons, List.length_cons, Nat.succ_mul]
      have := (rch_le (x := x) (m := a)).2
      omega
  have := this (List.range (2 * x.length + 1))
  rwa [List.length_range] at this
theorem sem__law_fine : ∀ ds R, ds.length = 1 → s__law_fine.f ds R → w__law_fine s__law_all (sSame 4) s_reaches s_palindrome_count s_longest_palindrome s_longest_end s__law_closed s_closed s__law_turned s_is_palindrome { nx := fun _ => R .non, rt := R } (startW 9 ds) := by
  intro ds R _ ⟨x, hx, hp, h⟩
  subst hx
  have hp : x.length ≤ 60 := hp
  have hp4 : x.length ≤ 400 := by omega
  have hp1 : x.length ≤ 1000 := by omega
  have hrl : (rows x).length ≤ 10000 := by
    have h1 := rows_len x
    have h2 : (2 * x.length + 1) * x.length ≤ 121 * 60 := Nat.mul_le_mul (by omega) hp
    omega
  refine ⟨rfl, x, rfl, hp4, ?_⟩
  have en : (2 * (x.length : Int) + 1).toNat = 2 * x.length + 1 := by omega
  refine ⟨.inl ⟨by omega, by omega⟩, ⟨by omega, by omega, ?_⟩, ?_⟩
  · show 1 * (2 * (x.length : Int) + 1).toNat ≤ 16777216
    omega
  show wForL (.tup [4, 5]) _ _ ((rows x).map rowD) [.val (.str x), .val (.lst ((rows x).map rowD)), .val (.int x.length), .own (.lst (List.replicate (2 * (x.length : Int) + 1).toNat [D.int 0]).flatten), .un, .un, .un, .un, .un]
  rw [en, due_0]
  refine forM (fun i ρ => ∃ a b, ρ = [.val (.str x), .val (.lst ((rows x).map rowD)), .val (.int x.length), .own (.lst (due x i)), a, b, .un, .un, .un] ∧ freeS a = true ∧ freeS b = true) ⟨_, _, rfl, rfl, rfl⟩ ?_ ?_
  · rintro i ⟨p, s⟩ ρ K hi ⟨a, b, rfl, _, _⟩ hK
    refine ⟨_, rfl, ?_⟩
    have hm := mem_rows.mp (List.mem_of_getElem? hi)
    have ei : 2 * (p : Int) + (s : Int) = ((2 * p + s : Nat) : Int) := by omega
    refine ⟨.inl ⟨by omega, by omega⟩, ?_⟩
    have g : atI (due x i) (2 * (p : Int) + (s : Int)) = some (.int (dueN ((rows x).take i) (2 * p + s))) := by
      rw [ei]; exact atI_nat (due_get (by omega))
    show match atI (due x i) (2 * (p : Int) + (s : Int)) with | some v => _ | none => False
    rw [g]
    refine ⟨.inl ⟨by omega, by omega⟩, ?_⟩
    have g2 : ixN (due x i).length (2 * (p : Int) + (s : Int)) = some (2 * p + s) := by
      rw [ixN_i (by omega) (by unfold due; rw [List.length_map, List.length_range]; omega)]
      congr 1
    show match ixN (due x i).length (2 * (p : Int) + (s : Int)) with | some n => _ | none => False
    rw [g2]
    refine hK _ ⟨.val (.int p), .val (.int s), ?_, rfl, rfl⟩
    have e := due_step hi
    have ec : (max ((dueN ((rows x).take i) (2 * p + s) : Nat) : Int) (s : Int)) = ((max (dueN ((rows x).take i) (2 * p + s)) s : Nat) : Int) := by omega
    rw [e]
    show [Slot.val (D.str x), _, _, Slot.own (.lst ((due x i).set (2 * p + s) (.int (max ((dueN ((rows x).take i) (2 * p + s) : Nat) : Int) (s : Int))))), _, _, _, _, _] = _
    rw [ec]
  · rintro ρ ⟨a, b, rfl, ha, hb⟩
    have hno : noOwnAt [.val (.str x), .val (.lst ((rows x).map rowD)), .val (.int x.length), .own (.lst (due x (rows x).length)), a, b, .un, .un, .un] [4, 5] = true := by
      cases a <;> cases b <;> first | rfl | exact absurd ha Bool.false_ne_true | exact absurd hb Bool.false_ne_true
    have hno2 : ∀ c : Slot, noOwnAt [.val (.str x), .val (.lst ((rows x).map rowD)), .val (.int x.length), .own (.lst (due x (rows x).length)), a, b, c, .un, .un] [4, 5] = true := fun c => by
      cases a <;> cases b <;> first | rfl | exact absurd ha Bool.false_ne_true | exact absurd hb Bool.false_ne_true
    have hno3 : ∀ c d : Slot, noOwnAt [.val (.str x), .val (.lst ((rows x).map rowD)), .val (.int x.length), .own (.lst (due x (rows x).length)), a, b, c, d, .un] [4, 5] = true := fun c d => by
      cases a <;> cases b <;> first | rfl | exact absurd ha Bool.false_ne_true | exact absurd hb Bool.false_ne_true
    -- reaches, the count
    refine ⟨rfl, x, rfl, hp1, rfl, same_eq ?_ ?_ (ifP_f ⟨rfl, x, rfl, hp1, rfl, same_eq ?_ ?_ (ifP_f ?_)⟩)⟩
    · show D.tup _ = D.tup (due x (rows x).length)
      rw [due_end]
    · show (decide (((List.range (2 * x.length + 1)).map fun m => D.int (rch x m)).length ≤ 16777216) && fitL 2 ((List.range (2 * x.length + 1)).map fun m => D.int (rch x m))) = true
      rw [fit_ints, decide_eq_true (by rw [List.length_map, List.length_range]; omega)]; rfl
    · show D.int _ = D.int (((rows x).map rowD).length : Nat)
      rw [List.length_map]
    · rfl
    -- the most
    refine no_wp hno ?_
    refine lc_map (g := rowD) (fun r => .int r.2) (fun r _ => ⟨_, rfl, fun Q hQ => hQ _ rfl⟩) ?_
    have e1 : intsOf ((rows x).map (fun r => D.int r.2) ++ [.int 0]) = some (((rows x).map Prod.snd).map (fun n : Nat => (n : Int)) ++ [0]) := intsOf_app (intsOf_nat _ _) rfl
    have e2 : maxI (((rows x).map Prod.snd).map (fun n : Nat => (n : Int)) ++ [0]) = some ((big x : Nat) : Int) := maxI_nat0 _
    refine ⟨by rw [List.length_map]; show _ + 1 ≤ _; omega, ?_⟩
    show match intsOf ((rows x).map (fun r => D.int r.2) ++ [.int 0]) with | some ns => _ | none => False
    rw [e1]
    refine max_wp e2 ?_
    -- the best
    refine no_wp (hno2 _) ?_
    have ec : ∀ r ∈ rows x, cutL x (some (r.1 : Int)) (some ((r.1 : Int) + (r.2 : Int))) = sub x r.1 r.2 := by
      rintro ⟨p, s⟩ _
      rw [cut_lh _ (by omega) (by omega)]
      unfold sub
      congr 1
      omega
    refine lc_mapF (g := rowD) (fun r => .tup [.int r.1, .str (sub x r.1 r.2)]) (fun r => r.2 == big x) (fun r hr => ⟨_, rfl, fun Q q => ?_, fun _ Q hQ => hQ _ ?_⟩) ?_
    · show Q ((r.2 : Int) == ((big x : Nat) : Int))
      have : ((r.2 : Int) == ((big x : Nat) : Int)) = (r.2 == big x) := by
        rw [Bool.eq_iff_iff, beq_iff_eq, beq_iff_eq]; omega
      rw [this]; exact q
    · show WL.R.fz (.val (.tup [.int r.1, .str (cutL x (some (r.1 : Int)) (some ((r.1 : Int) + (r.2 : Int))))])) = _
      rw [ec r hr]
    have hsh : shpN 64 (.lst (((rows x).filter fun r => r.2 == big x).map fun r => D.tup [.int r.1, .str (sub x r.1 r.2)])) = true := shpL_map fun r _ => rfl
    refine ⟨rfl, x, rfl, hp1, ?_⟩
    have hlist : ∀ l : List (Nat × Nat), (rows x).filter (fun r => r.2 == big x) = l → ∀ K : WL.R → Prop, K (.val (.tup [.int (top x).1, .str (sub x (top x).1 (big x))])) → wIf (wTB (wOp oNe (wName 7) (wLst wNil))) (wOp oIx (wName 7) (wC (.int 0))) (wTup (wCons (wC (.int 0)) (wCons (wC (.str [])) wNil))) [.val (.str x), .val (.lst ((rows x).map rowD)), .val (.int x.length), .own (.lst (due x (rows x).length)), a, b, .val (.int (big x)), .own (.lst (((rows x).filter fun r => r.2 == big x).map fun r => D.tup [.int r.1, .str (sub x r.1 r.2)])), .un] K := by
      intro l hl K hK
      show match shpN 64 (.lst (((rows x).filter fun r => r.2 == big x).map fun r => D.tup [.int r.1, .str (sub x r.1 r.2)])) && shpN 64 (.lst []) with | true => _ | false => False
      rw [hsh, hl]
      cases l with
      | nil =>
        refine ifP_f ?_
        rw [(top_nil hl).1, (top_nil hl).2] at hK
        exact hK
      | cons r l =>
        obtain ⟨t1, t2, t3, t4⟩ := top_cons hl
        refine ifP_t ?_
        show match atI ((r :: l).map fun r => D.tup [.int r.1, .str (sub x r.1 r.2)]) ((0 : Nat) : Int) with | some v => _ | none => False
        rw [atI_nat (v := D.tup [.int r.1, .str (sub x r.1 r.2)]) rfl, ← t1, top2]
        exact hK
    refine hlist _ rfl _ ?_
    refine ⟨rfl, same_eq rfl rfl (ifP_f ?_)⟩
    -- the last
    refine no_wp (hno3 _ _) ?_
    refine lc_mapF (g := rowD) (fun r => .int r.2) (fun r => r.1 + r.2 == x.length) (fun r hr => ⟨_, rfl, fun Q q => ?_, fun _ Q hQ => hQ _ rfl⟩) ?_
    · show Q ((r.1 : Int) + (r.2 : Int) == (x.length : Int))
      have : ((r.1 : Int) + (r.2 : Int) == (x.length : Int)) = (r.1 + r.2 == x.length) := by
        rw [Bool.eq_iff_iff, beq_iff_eq, beq_iff_eq]; omega
      rw [this]; exact q
    have e3 : intsOf ((((rows x).filter fun r => r.1 + r.2 == x.length).map fun r => D.int r.2) ++ [.int 0]) = some ((((rows x).filter fun r => r.1 + r.2 == x.length).map Prod.snd).map (fun n : Nat => (n : Int)) ++ [0]) := intsOf_app (intsOf_nat _ _) rfl
    have e4 : maxI ((((rows x).filter fun r => r.1 + r.2 == x.length).map Prod.snd).map (fun n : Nat => (n : Int)) ++ [0]) = some ((x.length - lastP x : Nat) : Int) := by rw [maxI_nat0, last_eq]
    refine ⟨?_, ?_⟩
    · rw [List.length_map]
      have := List.length_filter_le (fun r : Nat × Nat => r.1 + r.2 == x.length) (rows x)
      show _ + 1 ≤ _
      omega
    show match intsOf ((((rows x).filter fun r => r.1 + r.2 == x.length).map fun r => D.int r.2) ++ [.int 0]) with | some ns => _ | none => False
    rw [e3]
    refine max_wp e4 ?_
    have hlp := (lastP_spec x).1
    have ee : cutL x (some ((x.length : Int) - ((x.length - lastP x : Nat) : Int))) none = x.drop (lastP x) := by
      rw [cut_lo _ (by omega)]; congr 1; omega
    refine ⟨rfl, x, rfl, hp1, rfl, same_eq ?_ rfl (ifP_f ⟨rfl, x, rfl, hp1, rfl, x, rfl, hp4, rfl, same_eq rfl rfl (ifP_f ?_)⟩)⟩
    · show D.str (x.drop (lastP x)) = D.str (cutL x (some ((x.length : Int) - ((x.length - lastP x : Nat) : Int))) none)
      rw [ee]
    refine ⟨rfl, x, rfl, trivial, rfl, x, rfl, hp1, rfl, same_eq rfl rfl ?_⟩
    refine ifP_t ⟨rfl, x, rfl, hp1, rfl, _, rfl, trivial, ?_⟩
    show R (.bl (pal (clo x) == true))
    rw [clo_pal]
    exact h
end K63
set_option Elab.async false
set_option linter.all false
set_option autoImplicit false
set_option maxRecDepth 100000
namespace K63
open PySem PySem.Spec L2 WL

def wordA (p : Int × Int) : List D := [.box, .int p.1, .int p.2]
def s__law_word : Sx := .some wordA (fun p => 0 ≤ p.1 ∧ p.1 ≤ 60 ∧ 1 ≤ p.2 ∧ p.2 ≤ 26) fun p d => ∃ w : Wd, d = .str w ∧ (w.length : Int) ≤ p.1
theorem draw_go {n : Int} {P : D → Prop} (h : 0 < n) (h' : n < 1073741824) (q : ∀ i : Int, 0 ≤ i → i < n → P (.int i)) : sDraw.f [.box, .int n] P := by
  refine ⟨⟨n, rfl, h, h'⟩, ?_⟩
  rintro d ⟨m, i, e, h0, h1, rfl⟩
  injection e with _ e
  injection e with e _
  injection e with e
  subst e
  exact q i h0 h1
abbrev LET : Wd := [97, 98, 99, 100, 101, 102, 103, 104, 105, 106, 107, 108, 109, 110, 111, 112, 113, 114, 115, 116, 117, 118, 119, 120, 121, 122]
theorem sem__law_word : ∀ ds R, ds.length = 3 → s__law_word.f ds R → w__law_word sDraw { nx := fun _ => R .non, rt := R } (startW 5 ds) := by
  intro ds R _ ⟨⟨most, many⟩, hx, ⟨h1, h2, h3, h4⟩, h⟩
  subst hx
  have h1 : 0 ≤ most := h1
  have h2 : most ≤ 60 := h2
  have h3 : 1 ≤ many := h3
  have h4 : many ≤ 26 := h4
  refine ⟨rfl, rfl, draw_go (by omega) (by omega) fun n hn0 hn1 => ?_⟩
  refine ⟨⟨by omega, by omega⟩, ?_⟩
  refine lc_some (fun c : Nat => .str [c]) (fun _ => True) (fun i hi Q hQ => ?_) ?_
  · refine ⟨rfl, draw_go (by omega) (by omega) fun j hj0 hj1 => ?_⟩
    have hl : j.toNat < LET.length := by show j.toNat < 26; omega
    show match atI LET j with | some c => _ | none => False
    rw [atI_i hj0 (List.getElem?_eq_getElem hl)]
    exact hQ _ _ trivial rfl
  · intro l hl _
    show match strsOf (l.map fun c => .str [c]) with | some ys => _ | none => False
    rw [strsOf_map (fun c : Nat => [c]) l]
    have hl : l.length ≤ most := by omega
    refine ⟨?_, ?_⟩
    · rw [len_ones]; show l.length + _ * 0 ≤ _; omega
    rw [join_ones]
    have fin : ∀ w : Wd, (w.length : Int) ≤ most → R (.str w) := fun w hw => h _ ⟨w, rfl, hw⟩
    refine ifP_b (fun _ => ⟨rfl, draw_go (by omega) (by omega) fun d _ _ => ifP_b (fun _ => ?_) (fun _ => fin l hl)⟩) (fun _ => ifP_f (fin l hl))
    refine ⟨rfl, draw_go (by omega) (by omega) fun e he0 he1 => ?_⟩
    have hc : (cutL l none (some (1 + e))).length ≤ l.length := cutL_len l none (some (1 + e))
    refine ⟨⟨by omega, by omega, ?_⟩, ?_⟩
    · have : (cutL l none (some (1 + e))).length * most.toNat ≤ 60 * 60 := Nat.mul_le_mul (by omega) (by omega)
      show (cutL l none (some (1 + e))).length * most.toNat ≤ _
      omega
    · refine fin (cutL (List.replicate most.toNat (cutL l none (some (1 + e)))).flatten none (some (l.length : Int))) ?_
      rw [cut_hi _ (by omega), List.length_take]
      omega
theorem ones_flat : ∀ n : Nat, (List.replicate n [97]).flatten = List.replicate n 97
  | 0 => rfl
  | n + 1 => by rw [List.replicate_succ, List.flatten_cons, ones_flat n]; rfl
theorem let_nodup : LET.Nodup := by decide
theorem sem_law : w_law s__law_word sDraw s__law_fine s__law_turned (sSame 4) s_reaches s_closed s_palindrome_count s_longest_palindrome { nx := fun _ => False, rt := fun d => d = .bl true } ((List.replicate 8 Slot.un).set 1 (.val .box)) := by
  refine ⟨⟨by omega, by omega⟩, ?_⟩
  refine forR (fun i ρ => ∃ a b, ρ = [.un, .val .box, a, b, .un, .un, .un, .un]) ⟨_, _, rfl⟩ ?_ ?_
  · rintro i ρ K hi ⟨a, b, rfl⟩ hK
    have hi : i < 3 := hi
    obtain ⟨m, em, hm0, hm1⟩ : ∃ m : Int, atI [D.int 10, .int 22, .int 30] (0 + (i : Int)) = some (.int m) ∧ 0 ≤ m ∧ m ≤ 30 := by
      have : i = 0 ∨ i = 1 ∨ i = 2 := by omega
      rcases this with rfl | rfl | rfl
      · exact ⟨10, rfl, by omega, by omega⟩
      · exact ⟨22, rfl, by omega, by omega⟩
      · exact ⟨30, rfl, by omega, by omega⟩
    show match atI [D.int 10, .int 22, .int 30] (0 + (i : Int)) with | some v => _ | none => False
    rw [em]
    refine ⟨rfl, draw_go (by omega) (by omega) fun d hd0 hd1 => ?_⟩
    refine ⟨rfl, (m, 1 + d), rfl, ⟨hm0, by show m ≤ 60; omega, by show 1 ≤ 1 + d; omega, by show 1 + d ≤ 26; omega⟩, ?_⟩
    rintro _ ⟨x, rfl, hx⟩
    have hx : (x.length : Int) ≤ m := hx
    refine ⟨rfl, x, rfl, by show x.length ≤ 60; omega, ifP_f ⟨rfl, x, rfl, by show x.length ≤ 1000; omega, ?_⟩⟩
    refine ⟨by rw [List.length_reverse]; omega, rfl, _, rfl, ?_, ifP_f ⟨rfl, x, rfl, by show x.length ≤ 1000; omega, ?_, rfl, _, rfl, ?_, ifP_f (hK _ ⟨_, _, rfl⟩)⟩⟩
    · show (cutL (x ++ x.reverse) none (some 60)).length ≤ 60
      rw [cut_hi _ (by omega), List.length_take]; show min 60 _ ≤ 60; omega
    · have := cutL_len x.reverse (some 1) none
      rw [List.length_reverse] at this
      show x.length + (cutL x.reverse (some 1) none).length ≤ _
      omega
    · have := cutL_len x.reverse (some 1) none
      rw [List.length_reverse] at this
      show (x ++ cutL x.reverse (some 1) none).length ≤ 60
      rw [List.length_append]
      omega
  · rintro ρ ⟨a, b, rfl⟩
    refine ⟨rfl, draw_go (by omega) (by omega) fun d hd0 hd1 => ?_⟩
    obtain ⟨n, rfl⟩ := Int.eq_ofNat_of_zero_le hd0
    refine ⟨⟨by omega, by omega, ?_⟩, ?_⟩
    · show 1 * (n : Int).toNat ≤ _; omega
    rw [Int.toNat_natCast, ones_flat]
    have hl : (List.replicate n 97).length ≤ 1000 := by rw [List.length_replicate]; omega
    refine ⟨rfl, _, rfl, hl, .inl ⟨by omega, by omega⟩, ⟨by omega, by omega⟩, ?_⟩
    have en : (2 * (n : Int) + 1).toNat = 2 * n + 1 := by omega
    show wLcL (.one 7) wYes _ _ (rngL 0 (2 * (n : Int) + 1).toNat) [] _
    rw [en]
    refine lc_rng (fun k => .int (min (k : Int) (2 * (n : Int) - (k : Int)))) (fun k hk Q hQ => ⟨.inl ⟨by omega, by omega⟩, hQ _ ?_⟩) ?_
    · show WL.R.val (.int (min (0 + (k : Int)) (2 * (n : Int) - (0 + (k : Int))))) = _
      have : (0 : Int) + (k : Int) = k := by omega
      rw [this]
    refine ⟨rfl, same_eq ?_ ?_ (ifP_f ⟨rfl, _, rfl, hl, rfl, same_eq ?_ rfl (ifP_f ?_)⟩)⟩
    · show D.tup ((List.range (2 * (List.replicate n 97).length + 1)).map fun m => .int (rch (List.replicate n 97) m)) = D.tup _
      rw [List.length_replicate]
      congr 1
      apply List.map_congr_left
      intro k hk
      rw [List.mem_range] at hk
      rw [ones_rch (by omega)]
      congr 1
      omega
    · show (decide (((List.range (2 * (List.replicate n 97).length + 1)).map fun m => D.int (rch (List.replicate n 97) m)).length ≤ 16777216) && fitL 2 ((List.range (2 * (List.replicate n 97).length + 1)).map fun m => D.int (rch (List.replicate n 97) m))) = true
      rw [fit_ints, decide_eq_true (by rw [List.length_map, List.length_range]; omega)]; rfl
    · show D.str (clo _) = D.str _
      rw [ones_clo]
    refine ⟨rfl, _, rfl, hl, .inl ⟨by omega, by omega⟩, ⟨by omega, by omega⟩, rfl, same_eq ?_ rfl (ifP_f ⟨rfl, _, rfl, hl, rfl, same_eq ?_ rfl (ifP_f ?_)⟩)⟩
    · show D.int ((rows (List.replicate n 97)).length : Nat) = D.int ((n : Int) * ((n : Int) + 1) / 2)
      rw [ones_rows]
      congr 1
    · show D.tup [.int (top (List.replicate n 97)).1, .str (sub (List.replicate n 97) (top (List.replicate n 97)).1 (big (List.replicate n 97)))] = D.tup [.int 0, .str (List.replicate n 97)]
      rw [ones_top, ones_big]
      unfold sub
      rw [List.drop_zero, List.take_of_length_le (by rw [List.length_replicate]; exact Nat.le_refl _)]
      rfl
    refine ⟨rfl, draw_go (by omega) (by omega) fun d hd0 hd1 => ?_⟩
    have er : cutL LET none (some (1 + d)) = LET.take (1 + d).toNat := cut_hi _ (by omega)
    have hn : (cutL LET none (some (1 + d))).Nodup := by rw [er]; exact let_nodup.sublist (List.take_sublist _ _)
    have hlen : (cutL LET none (some (1 + d))).length = (1 + d).toNat := by
      rw [er, List.length_take]; show min _ 26 = _; omega
    have hl2 : (cutL LET none (some (1 + d))).length ≤ 1000 := by omega
    refine ⟨rfl, _, rfl, hl2, .inl ⟨by omega, by omega⟩, rfl, same_eq ?_ rfl (ifP_t ⟨rfl, _, rfl, hl2, rfl, same_eq ?_ rfl (ifP_t ⟨rfl, _, rfl, by show 4 ≤ 1000; omega, rfl, same_eq ?_ rfl rfl⟩)⟩)⟩
    · show D.int ((clo (cutL LET none (some (1 + d)))).length : Nat) = D.int (2 * ((cutL LET none (some (1 + d))).length : Int) - 1)
      rw [diff_clo hn (by omega)]
      congr 1
      omega
    · show D.int ((rows (cutL LET none (some (1 + d)))).length : Nat) = D.int ((cutL LET none (some (1 + d))).length : Int)
      rw [diff_rows hn]
    · show D.str (clo [97, 98, 99, 97]) = _
      rw [clo_abca]
end K63
set_option Elab.async false
set_option linter.all false
set_option autoImplicit false
set_option maxRecDepth 100000
namespace K63
open PySem PySem.Spec L2 WL
theorem all_mk {l : PySem.W.OpenLaw} {w : World} {K : PySem.W.Frag} {h : Heap} {mg : Str → Option Value} {fa f0 f1 f2 f3 f4 f5 f6 f7 f8 f9 f10 f11 f12 f13 f14 f15 f16 : Addr} (X : K.In h) (G : h.Ns mainGlobals mg) (hfa : mg "law" = some (.ref fa))
    {od0 an0 od1 an1 od2 an2 od3 an3 od4 an4 od5 an5 od6 an6 od7 an7 od8 an8 od9 an9 od10 an10 od11 an11 od12 an12 od13 an13 od14 an14 od15 an15 od16 an16 : Option Addr} {sl0 sl1 sl2 sl3 sl4 sl5 sl6 sl7 sl8 sl9 sl10 sl11 sl12 sl13 sl14 sl15 sl16 : Array (Option Value)} {oc0 kV0 dc0 pm0 cd0 ct0 oc1 kV1 dc1 pm1 cd1 ct1 oc2 kV2 dc2 pm2 cd2 ct2 oc3 kV3 dc3 pm3 cd3 ct3 oc4 kV4 dc4 pm4 cd4 ct4 oc5 kV5 dc5 pm5 cd5 ct5 oc6 kV6 dc6 pm6 cd6 ct6 oc7 kV7 dc7 pm7 cd7 ct7 oc8 kV8 dc8 pm8 cd8 ct8 oc9 kV9 dc9 pm9 cd9 ct9 oc10 kV10 dc10 pm10 cd10 ct10 oc11 kV11 dc11 pm11 cd11 ct11 oc12 kV12 dc12 pm12 cd12 ct12 oc13 kV13 dc13 pm13 cd13 ct13 oc14 kV14 dc14 pm14 cd14 ct14 oc15 kV15 dc15 pm15 cd15 ct15 oc16 kV16 dc16 pm16 cd16 ct16 : Value}
    (a0 : PySem.W.nsIn K mainGlobals "backwards" = some (some (.ref f0))) (l0 : K.lookup f0 = some ⟨oc0, od0, .func (PySem.W.fnOf "backwards" "backwards" (defArgs st_backwards) (defBody st_backwards) (defScope st_backwards) .none kV0 dc0 pm0 an0 cd0 ct0), sl0⟩) (c0 : PySem.W.codeIn K cd0 "backwards" = true) (k0 : PySem.W.keepIn K (.ref f0) = true)
    (a1 : PySem.W.nsIn K mainGlobals "is_palindrome" = some (some (.ref f1))) (l1 : K.lookup f1 = some ⟨oc1, od1, .func (PySem.W.fnOf "is_palindrome" "is_palindrome" (defArgs st_is_palindrome) (defBody st_is_palindrome) (defScope st_is_palindrome) .none kV1 dc1 pm1 an1 cd1 ct1), sl1⟩) (c1 : PySem.W.codeIn K cd1 "is_palindrome" = true) (k1 : PySem.W.keepIn K (.ref f1) = true)
    (a2 : PySem.W.nsIn K mainGlobals "reaches" = some (some (.ref f2))) (l2 : K.lookup f2 = some ⟨oc2, od2, .func (PySem.W.fnOf "reaches" "reaches" (defArgs st_reaches) (defBody st_reaches) (defScope st_reaches) .none kV2 dc2 pm2 an2 cd2 ct2), sl2⟩) (c2 : PySem.W.codeIn K cd2 "reaches" = true) (k2 : PySem.W.keepIn K (.ref f2) = true)
    (a3 : PySem.W.nsIn K mainGlobals "longest_palindrome" = some (some (.ref f3))) (l3 : K.lookup f3 = some ⟨oc3, od3, .func (PySem.W.fnOf "longest_palindrome" "longest_palindrome" (defArgs st_longest_palindrome) (defBody st_longest_palindrome) (defScope st_longest_palindrome) .none kV3 dc3 pm3 an3 cd3 ct3), sl3⟩) (c3 : PySem.W.codeIn K cd3 "longest_palindrome" = true) (k3 : PySem.W.keepIn K (.ref f3) = true)
    (a4 : PySem.W.nsIn K mainGlobals "palindrome_count" = some (some (.ref f4))) (l4 : K.lookup f4 = some ⟨oc4, od4, .func (PySem.W.fnOf "palindrome_count" "palindrome_count" (defArgs st_palindrome_count) (defBody st_palindrome_count) (defScope st_palindrome_count) .none kV4 dc4 pm4 an4 cd4 ct4), sl4⟩) (c4 : PySem.W.codeIn K cd4 "palindrome_count" = true) (k4 : PySem.W.keepIn K (.ref f4) = true)
    (a5 : PySem.W.nsIn K mainGlobals "longest_end" = some (some (.ref f5))) (l5 : K.lookup f5 = some ⟨oc5, od5, .func (PySem.W.fnOf "longest_end" "longest_end" (defArgs st_longest_end) (defBody st_longest_end) (defScope st_longest_end) .none kV5 dc5 pm5 an5 cd5 ct5), sl5⟩) (c5 : PySem.W.codeIn K cd5 "longest_end" = true) (k5 : PySem.W.keepIn K (.ref f5) = true)
    (a6 : PySem.W.nsIn K mainGlobals "closed" = some (some (.ref f6))) (l6 : K.lookup f6 = some ⟨oc6, od6, .func (PySem.W.fnOf "closed" "closed" (defArgs st_closed) (defBody st_closed) (defScope st_closed) .none kV6 dc6 pm6 an6 cd6 ct6), sl6⟩) (c6 : PySem.W.codeIn K cd6 "closed" = true) (k6 : PySem.W.keepIn K (.ref f6) = true)
    (a7 : PySem.W.nsIn K mainGlobals "_law_box" = some (some (.ref f7))) (l7 : K.lookup f7 = some ⟨oc7, od7, .func (PySem.W.fnOf "_law_box" "_law_box" (defArgs st__law_box) (defBody st__law_box) (defScope st__law_box) .none kV7 dc7 pm7 an7 cd7 ct7), sl7⟩) (c7 : PySem.W.codeIn K cd7 "_law_box" = true) (k7 : PySem.W.keepIn K (.ref f7) = true)
    (a8 : PySem.W.nsIn K mainGlobals "_law_load" = some (some (.ref f8))) (l8 : K.lookup f8 = some ⟨oc8, od8, .func (PySem.W.fnOf "_law_load" "_law_load" (defArgs st__law_load) (defBody st__law_load) (defScope st__law_load) .none kV8 dc8 pm8 an8 cd8 ct8), sl8⟩) (c8 : PySem.W.codeIn K cd8 "_law_load" = true) (k8 : PySem.W.keepIn K (.ref f8) = true)
    (a9 : PySem.W.nsIn K mainGlobals "_law_draw" = some (some (.ref f9))) (l9 : K.lookup f9 = some ⟨oc9, od9, .func (PySem.W.fnOf "_law_draw" "_law_draw" (defArgs st__law_draw) (defBody st__law_draw) (defScope st__law_draw) .none kV9 dc9 pm9 an9 cd9 ct9), sl9⟩) (c9 : PySem.W.codeIn K cd9 "_law_draw" = true) (k9 : PySem.W.keepIn K (.ref f9) = true)
    (a10 : PySem.W.nsIn K mainGlobals "_law_same" = some (some (.ref f10))) (l10 : K.lookup f10 = some ⟨oc10, od10, .func (PySem.W.fnOf "_law_same" "_law_same" (defArgs st__law_same) (defBody st__law_same) (defScope st__law_same) .none kV10 dc10 pm10 an10 cd10 ct10), sl10⟩) (c10 : PySem.W.codeIn K cd10 "_law_same" = true) (k10 : PySem.W.keepIn K (.ref f10) = true)
    (a11 : PySem.W.nsIn K mainGlobals "_law_word" = some (some (.ref f11))) (l11 : K.lookup f11 = some ⟨oc11, od11, .func (PySem.W.fnOf "_law_word" "_law_word" (defArgs st__law_word) (defBody st__law_word) (defScope st__law_word) .none kV11 dc11 pm11 an11 cd11 ct11), sl11⟩) (c11 : PySem.W.codeIn K cd11 "_law_word" = true) (k11 : PySem.W.keepIn K (.ref f11) = true)
    (a12 : PySem.W.nsIn K mainGlobals "_law_turned" = some (some (.ref f12))) (l12 : K.lookup f12 = some ⟨oc12, od12, .func (PySem.W.fnOf "_law_turned" "_law_turned" (defArgs st__law_turned) (defBody st__law_turned) (defScope st__law_turned) .none kV12 dc12 pm12 an12 cd12 ct12), sl12⟩) (c12 : PySem.W.codeIn K cd12 "_law_turned" = true) (k12 : PySem.W.keepIn K (.ref f12) = true)
    (a13 : PySem.W.nsIn K mainGlobals "_law_all" = some (some (.ref f13))) (l13 : K.lookup f13 = some ⟨oc13, od13, .func (PySem.W.fnOf "_law_all" "_law_all" (defArgs st__law_all) (defBody st__law_all) (defScope st__law_all) .none kV13 dc13 pm13 an13 cd13 ct13), sl13⟩) (c13 : PySem.W.codeIn K cd13 "_law_all" = true) (k13 : PySem.W.keepIn K (.ref f13) = true)
    (a14 : PySem.W.nsIn K mainGlobals "_law_closed" = some (some (.ref f14))) (l14 : K.lookup f14 = some ⟨oc14, od14, .func (PySem.W.fnOf "_law_closed" "_law_closed" (defArgs st__law_closed) (defBody st__law_closed) (defScope st__law_closed) .none kV14 dc14 pm14 an14 cd14 ct14), sl14⟩) (c14 : PySem.W.codeIn K cd14 "_law_closed" = true) (k14 : PySem.W.keepIn K (.ref f14) = true)
    (a15 : PySem.W.nsIn K mainGlobals "_law_fine" = some (some (.ref f15))) (l15 : K.lookup f15 = some ⟨oc15, od15, .func (PySem.W.fnOf "_law_fine" "_law_fine" (defArgs st__law_fine) (defBody st__law_fine) (defScope st__law_fine) .none kV15 dc15 pm15 an15 cd15 ct15), sl15⟩) (c15 : PySem.W.codeIn K cd15 "_law_fine" = true) (k15 : PySem.W.keepIn K (.ref f15) = true)
    (a16 : PySem.W.nsIn K mainGlobals "law" = some (some (.ref f16))) (l16 : K.lookup f16 = some ⟨oc16, od16, .func (PySem.W.fnOf "law" "law" (defArgs st_law) (defBody st_law) (defScope st_law) .none kV16 dc16 pm16 an16 cd16 ct16), sl16⟩) (c16 : PySem.W.codeIn K cd16 "law" = true) (k16 : PySem.W.keepIn K (.ref f16) = true)
    (zzrange : PySem.W.nsIn K mainGlobals "range" = some none)
    (zzlen : PySem.W.nsIn K mainGlobals "len" = some none)
    (zztuple : PySem.W.nsIn K mainGlobals "tuple" = some none)
    (zzmax : PySem.W.nsIn K mainGlobals "max" = some none)
    (zzsum : PySem.W.nsIn K mainGlobals "sum" = some none)
    (zzisinstance : PySem.W.nsIn K mainGlobals "isinstance" = some none)
    (zzlist : PySem.W.nsIn K mainGlobals "list" = some none)
    (zzall : PySem.W.nsIn K mainGlobals "all" = some none)
    (zzbool : PySem.W.nsIn K mainGlobals "bool" = some none)
    (zzint : PySem.W.nsIn K mainGlobals "int" = some none)
    (zzstr : PySem.W.nsIn K mainGlobals "str" = some none)
    (zzmin : PySem.W.nsIn K mainGlobals "min" = some none) :
    ∃ fd : FuncData, (∀ (s : Shared) (v : Value), BindsTo s fd ⟨[v], []⟩ [("script", v)]) ∧ ∀ base : Heap, K.In base → base.Ns mainGlobals mg → FnOk l.prog w K mg base CX0 7 fa fd ["script"] (spLaw K) := by
  have e := hfa.symm.trans (PySem.W.mg_of X G a16)
  cases e
  have F0 := fun_mk (st := st_backwards) l0 c0 k0
  have m0 := PySem.W.mg_of X G a0
  have F1 := fun_mk (st := st_is_palindrome) l1 c1 k1
  have m1 := PySem.W.mg_of X G a1
  have F2 := fun_mk (st := st_reaches) l2 c2 k2
  have m2 := PySem.W.mg_of X G a2
  have F3 := fun_mk (st := st_longest_palindrome) l3 c3 k3
  have m3 := PySem.W.mg_of X G a3
  have F4 := fun_mk (st := st_palindrome_count) l4 c4 k4
  have m4 := PySem.W.mg_of X G a4
  have F5 := fun_mk (st := st_longest_end) l5 c5 k5
  have m5 := PySem.W.mg_of X G a5
  have F6 := fun_mk (st := st_closed) l6 c6 k6
  have m6 := PySem.W.mg_of X G a6
  have F7 := fun_mk (st := st__law_box) l7 c7 k7
  have m7 := PySem.W.mg_of X G a7
  have F8 := fun_mk (st := st__law_load) l8 c8 k8
  have m8 := PySem.W.mg_of X G a8
  have F9 := fun_mk (st := st__law_draw) l9 c9 k9
  have m9 := PySem.W.mg_of X G a9
  have F10 := fun_mk (st := st__law_same) l10 c10 k10
  have m10 := PySem.W.mg_of X G a10
  have F11 := fun_mk (st := st__law_word) l11 c11 k11
  have m11 := PySem.W.mg_of X G a11
  have F12 := fun_mk (st := st__law_turned) l12 c12 k12
  have m12 := PySem.W.mg_of X G a12
  have F13 := fun_mk (st := st__law_all) l13 c13 k13
  have m13 := PySem.W.mg_of X G a13
  have F14 := fun_mk (st := st__law_closed) l14 c14 k14
  have m14 := PySem.W.mg_of X G a14
  have F15 := fun_mk (st := st__law_fine) l15 c15 k15
  have m15 := PySem.W.mg_of X G a15
  have F16 := fun_mk (st := st_law) l16 c16 k16
  have m16 := PySem.W.mg_of X G a16
  have zrange := PySem.W.mg_none_of X G zzrange
  have zlen := PySem.W.mg_none_of X G zzlen
  have ztuple := PySem.W.mg_none_of X G zztuple
  have zmax := PySem.W.mg_none_of X G zzmax
  have zsum := PySem.W.mg_none_of X G zzsum
  have zisinstance := PySem.W.mg_none_of X G zzisinstance
  have zlist := PySem.W.mg_none_of X G zzlist
  have zall := PySem.W.mg_none_of X G zzall
  have zbool := PySem.W.mg_none_of X G zzbool
  have zint := PySem.W.mg_none_of X G zzint
  have zstr := PySem.W.mg_none_of X G zzstr
  have zmin := PySem.W.mg_none_of X G zzmin
  refine ⟨PySem.W.fnOf "law" "law" (defArgs st_law) (defBody st_law) (defScope st_law) .none kV16 dc16 pm16 an16 cd16 ct16, fun s v => .of_eq rfl, fun base _ _ => ?_⟩
  have C0 : Cal l.prog w K mg base AnyB "backwards" 1 ["word"] (s_backwards) := ok_backwards F0 m0    sem_backwards
  have C1 : Cal l.prog w K mg base AnyB "is_palindrome" 2 ["word"] (s_is_palindrome) := ok_is_palindrome F1 m1 C0   sem_is_palindrome
  have C2 : Cal l.prog w K mg base AnyB "reaches" 1 ["word"] (s_reaches) := ok_reaches F2 m2  zrange zlen ztuple  sem_reaches
  have C3 : Cal l.prog w K mg base AnyB "longest_palindrome" 2 ["word"] (s_longest_palindrome) := ok_longest_palindrome F3 m3 C2 zmax  sem_longest_palindrome
  have C4 : Cal l.prog w K mg base AnyB "palindrome_count" 2 ["word"] (s_palindrome_count) := ok_palindrome_count F4 m4 C2 zsum  sem_palindrome_count
  have C5 : Cal l.prog w K mg base AnyB "longest_end" 3 ["word"] (s_longest_end) := ok_longest_end F5 m5 C1 zrange zlen  sem_longest_end
  have C6 : Cal l.prog w K mg base AnyB "closed" 4 ["word"] (s_closed) := ok_closed F6 m6 C0 C5 zlen  sem_closed
  have C9 : Cal l.prog w K mg base IsBox "_law_draw" 2 ["box", "many"] sDraw := cal_draw m9 F9.kp (F9.binds fun _ _ _ _ _ _ us hl => match us, hl with | [_, _], _ => rfl) (raw_draw F9 F8 m8 zlen zint)
  have C10 : Cal l.prog w K mg base AnyB "_law_same" 5 ["a", "b"] (sSame 4) := by
    have step : ∀ n : Nat, Cal l.prog w K mg base AnyB "_law_same" (1 + n) ["a", "b"] (sSame n) := by
      intro n
      induction n with
      | zero => exact cal_bot m10 F10.kp (F10.binds fun _ _ _ _ _ _ us hl => match us, hl with | [_, _], _ => rfl) same_bot
      | succ n ih => exact ok__law_same F10 m10 (by omega) ih zisinstance ztuple zlist zlen zall zrange zbool zint zstr  (sem_same n)
    exact step 4
  have C11 : Cal l.prog w K mg base IsBox "_law_word" 3 ["box", "most", "many"] (s__law_word) := ok__law_word F11 m11 C9 zrange zlen  sem__law_word
  have C12 : Cal l.prog w K mg base AnyB "_law_turned" 1 ["word"] (s__law_turned) := ok__law_turned F12 m12  zrange zlen  sem__law_turned
  have C13 : Cal l.prog w K mg base AnyB "_law_all" 2 ["word"] (s__law_all) := ok__law_all F13 m13 C12 zrange zlen  sem__law_all
  have C14 : Cal l.prog w K mg base AnyB "_law_closed" 2 ["word"] (s__law_closed) := ok__law_closed F14 m14 C12 zrange zlen  sem__law_closed
  have C15 : Cal l.prog w K mg base AnyB "_law_fine" 6 ["word"] (s__law_fine) := ok__law_fine F15 m15 C13 C10 C2 C4 C3 C5 C14 C6 C12 C1 zlen zmax ztuple  sem__law_fine
  exact ok_law F16 F7 m7 C11 C9 C15 C12 C10 C2 C6 C4 C3 zrange ztuple zmin zlen zlist  sem_law
end K63
open PySem PySem.W PyProof.Rows
set_option maxHeartbeats 0 in
theorem PySem.Challenge.cw_tworeadings_k63_palindromes_in_a_word_holds : PySem.Challenge.rw_tworeadings_k63_palindromes_in_a_word.Holds := by
  w_on; o_law; k_head; (case hw => w_witness2)
  k_fill
  refine L2.walk_of (l := PySem.Challenge.rw_tworeadings_k63_palindromes_in_a_word) (n := 63) (k := 7) (x := "script") (CX := fun _ => L2.CX0) (sp := fun w => WL.spLaw _) rfl (by decide) rfl ⟨rfl, by decide, by decide⟩ (fun w h Y => PySem.W.kIn_of Y) ?F (fun _ _ a ns hl _ hS => ⟨a, ns, rfl, hS, hl, fun _ => rfl⟩) (fun _ _ _ _ _ h => h)
  case F =>
    intro w mg fa h KX G hmg
    refine' K63.all_mk KX G hmg ?a0 ?l0 ?c0 ?k0 ?a1 ?l1 ?c1 ?k1 ?a2 ?l2 ?c2 ?k2 ?a3 ?l3 ?c3 ?k3 ?a4 ?l4 ?c4 ?k4 ?a5 ?l5 ?c5 ?k5 ?a6 ?l6 ?c6 ?k6 ?a7 ?l7 ?c7 ?k7 ?a8 ?l8 ?c8 ?k8 ?a9 ?l9 ?c9 ?k9 ?a10 ?l10 ?c10 ?k10 ?a11 ?l11 ?c11 ?k11 ?a12 ?l12 ?c12 ?k12 ?a13 ?l13 ?c13 ?k13 ?a14 ?l14 ?c14 ?k14 ?a15 ?l15 ?c15 ?k15 ?a16 ?l16 ?c16 ?k16 ?zzrange ?zzlen ?zztuple ?zzmax ?zzsum ?zzisinstance ?zzlist ?zzall ?zzbool ?zzint ?zzstr ?zzmin
    (case a0 => k_is); (case l0 => k_is); (case c0 => k_is); (case k0 => k_is); (case a1 => k_is); (case l1 => k_is); (case c1 => k_is); (case k1 => k_is); (case a2 => k_is); (case l2 => k_is); (case c2 => k_is); (case k2 => k_is); (case a3 => k_is); (case l3 => k_is); (case c3 => k_is); (case k3 => k_is); (case a4 => k_is); (case l4 => k_is); (case c4 => k_is); (case k4 => k_is); (case a5 => k_is); (case l5 => k_is); (case c5 => k_is); (case k5 => k_is); (case a6 => k_is); (case l6 => k_is); (case c6 => k_is); (case k6 => k_is); (case a7 => k_is); (case l7 => k_is); (case c7 => k_is); (case k7 => k_is); (case a8 => k_is); (case l8 => k_is); (case c8 => k_is); (case k8 => k_is); (case a9 => k_is); (case l9 => k_is); (case c9 => k_is); (case k9 => k_is); (case a10 => k_is); (case l10 => k_is); (case c10 => k_is); (case k10 => k_is); (case a11 => k_is); (case l11 => k_is); (case c11 => k_is); (case k11 => k_is); (case a12 => k_is); (case l12 => k_is); (case c12 => k_is); (case k12 => k_is); (case a13 => k_is); (case l13 => k_is); (case c13 => k_is); (case k13 => k_is); (case a14 => k_is); (case l14 => k_is); (case c14 => k_is); (case k14 => k_is); (case a15 => k_is); (case l15 => k_is); (case c15 => k_is); (case k15 => k_is); (case a16 => k_is); (case l16 => k_is); (case c16 => k_is); (case k16 => k_is); (case zzrange => k_is); (case zzlen => k_is); (case zztuple => k_is); (case zzmax => k_is); (case zzsum => k_is); (case zzisinstance => k_is); (case zzlist => k_is); (case zzall => k_is); (case zzbool => k_is); (case zzint => k_is); (case zzstr => k_is); (case zzmin => k_is)
