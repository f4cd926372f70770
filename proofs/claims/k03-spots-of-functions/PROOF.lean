import PyProof.Rows.All
import Wide.All
import OpenK.AllK
import Wide.FinOn
import HandS.ForMost
import HandS.Flow
import HandS.TupMul
import HandS.List
import HandS.Exc
import HandS.ExcOwn
import HandS.TryOnly
import HandS.WordsExc
import HandS.CallSlots
import HandS.Wide
import KE.DataEq
import KE.DataCmp
import KE.SortData
import HandS.Text
import HandS.Style
import HandS.TupAny
import HandS.IsInst
import HandS.Walk
import HandS.Zip
import HandS.Small
import KE.KItemsList
import KE.KDictZip
import KE.GoesEnum
import KE.GoesMore
import PySem.Challenge.RW_trialmill_k03_spots_of_functions
import HandS.Ends
import HandS.EndBits
set_option Elab.async false
set_option linter.all false
set_option maxRecDepth 100000
set_option maxHeartbeats 4000000
/-! Den, part A: tuples so often, tuples backwards. -/
namespace Den
open PySem PySem.Spec PyProof.Rows L2
/-- one of it, or of nothing: the tuple itself -/
theorem rep_same {l : Addr} {its : Array Value} {n : Nat} {dd : Option Addr} {sl : Array (Option Value)} {x : Int} {u : Tok} (c0 : (decide (x < -(2 ^ 63)) || decide (x ≥ 2 ^ 63)) = false) (c1 : (its.isEmpty || x == 1) = true) :
    Meets (Builtin.«tuple.__mul__» ⟨[.ref l, .int x u], []⟩) (fun _ R s => s.heap.get? l = some ⟨.type "tuple", dd, .seq its n, sl⟩ ∧ R (.ok (.ret (.ref l))) s) :=
  .of_wp fun prog w A R s h => by
    obtain ⟨hp, g, d, tk, os⟩ := s
    obtain ⟨hl, h⟩ := h
    have f1 := AutoSeq1.idx_int
    wp_walk using wpAny_loadPart' hl
    refine wpAny_ite_false (decide_eq_false (by rw [c0]; decide)) ?_
    wp_walk using wpAny_loadPart' hl
    exact ⟨_, rfl, h⟩
/-- no time: a new one of nothing -/
theorem rep_none {l : Addr} {its : Array Value} {n : Nat} {dd : Option Addr} {sl : Array (Option Value)} {x : Int} {u : Tok} (c0 : (decide (x < -(2 ^ 63)) || decide (x ≥ 2 ^ 63)) = false) (c1 : (its.isEmpty || x == 1) = false) (c2 : (decide (x ≤ 0) || its.isEmpty) = true) :
    Meets (Builtin.«tuple.__mul__» ⟨[.ref l, .int x u], []⟩) (fun _ R s => s.heap.get? l = some ⟨.type "tuple", dd, .seq its n, sl⟩ ∧
      R (.ok (.ret (.ref s.heap.objs.size))) { s with heap := s.heap.push ⟨.type "tuple", none, .seq #[] 0, #[]⟩, toks := s.toks }) :=
  .of_wp fun prog w A R s h => by
    obtain ⟨hp, g, d, tk, os⟩ := s
    obtain ⟨hl, h⟩ := h
    have f1 := AutoSeq1.idx_int
    wp_walk using wpAny_loadPart' hl
    refine wpAny_ite_false (decide_eq_false (by rw [c0]; decide)) ?_
    wp_walk using wpAny_loadPart' hl
    exact ⟨_, rfl, h⟩
/-- a tuple so often, of any number -/
theorem op_repAny {X : Cx} : OpR X (binaryOp .Mult) (fun x y H Q => ∃ l k xs, x = .ref l ∧ y = .int k ∧ SqT X.K H l xs ∧ -1000 ≤ k ∧ k ≤ 1000 ∧ xs.length ≤ 1000 ∧ ((xs = [] ∨ k = 1) → Q (.ref l) H) ∧
    (¬ (xs = [] ∨ k = 1) → ∀ p, H p = none → Q (.ref p) (upd H p (.tup (List.replicate k.toNat xs).flatten)))) := by
  intro pins s σ H x y v u Q I rx ry h
  obtain ⟨l, k, xs, rfl, rfl, hT, h0, h2, hz, q1, q2⟩ := h
  by_cases hbig : xs ≠ [] ∧ 2 ≤ k
  · exact op_repT pins s σ H _ _ v u Q I rx ry ⟨l, k, xs, rfl, rfl, hT, hbig.1, hbig.2, h2, hz, q2 (by rintro (z | z); exact hbig.1 z; omega)⟩
  · cases rx
    obtain ⟨t, rfl⟩ := ry
    obtain ⟨its, r, ⟨⟨cl, dd, dat, sl⟩, ho, e1, n, e2⟩, _⟩ := I.tuple hT
    simp only at e1 e2
    subst e1 e2
    have hle : its.length = xs.length := r.length.symm
    have c0 : (decide (k < -(2 ^ 63)) || decide (k ≥ 2 ^ 63)) = false := Bool.or_eq_false_iff.mpr ⟨decide_eq_false (by omega), decide_eq_false (by omega)⟩
    have hie : its.toArray.isEmpty = xs.isEmpty := by
      cases its <;> cases xs <;> first | rfl | cases hle
    have go : ∀ {Q' : Value → Shared → Prop} {S : PySem.Spec}, Meets (Builtin.«tuple.__mul__» ⟨[.ref l, .int k t], []⟩) S → S X.A (wants Q' X.xe) s → wpAny (model X.prog X.w) X.A (binaryOp .Mult (.ref l) (.int k t)) Q' X.xe s := fun g hS =>
      wpAny_binaryOp_repeat_ref (T := "tuple") (U := "int") (by decide) ⟨_, ho, rfl⟩ (fun s' => typeIs_int s' k t) noFill_tuple_mul F.fills_int_mul F.slot_int_rmul repeat_tuple F.slot_int_index.lookup
        (call_meets F.slot_int_rmul (typeIs_int s k t) F.entry_int_rmul (F.args_int_rmul_2 _ _) (int_rmul_tuple k t l its.toArray n dd sl)
          ⟨ho, rfl, ⟨_, ho, rfl⟩, call_meets F.slot_tuple_mul ⟨_, ho, rfl⟩ F.entry_tuple_mul (F.args_tuple_mul_2 _ _) g hS⟩)
    by_cases hsame : xs = [] ∨ k = 1
    · refine go (rep_same c0 ?_) ⟨ho, V.ref l, H, I, rfl, q1 hsame⟩
      rw [hie]
      rcases hsame with rfl | rfl
      · rfl
      · simp
    · have e1 : xs ≠ [] := fun z => hsame (.inl z)
      have e2 : k ≤ 0 := by
        have : ¬ 2 ≤ k := fun z => hbig ⟨e1, z⟩
        have : k ≠ 1 := fun z => hsame (.inr z)
        omega
      have hie' : xs.isEmpty = false := by cases xs with | nil => exact absurd rfl e1 | cons _ _ => rfl
      refine go (rep_none c0 (by rw [hie, hie', Bool.false_or]; exact beq_eq_false_iff_ne.mpr (by omega)) (by rw [decide_eq_true e2]; rfl)) ⟨ho, ?_⟩
      have ez : (List.replicate k.toNat xs).flatten = [] := by
        have : k.toNat = 0 := by omega
        rw [this]
        rfl
      have q2 := q2 hsame
      rw [ez] at q2
      refine ⟨.ref s.heap.objs.size, _, I.laid (t' := s.toks) (o := .tup []) (fun _ _ z => Heap.get?_push_of_some _ z) (Nat.le_refl _) ?_, rfl, q2 _ (I.hok.fresh (Nat.le_refl _))⟩
      exact ⟨by simp, [], .nil, IsTup.new _ _⟩
theorem pick_back {α : Type} (xs : List α) : ((List.range xs.length).filterMap fun (k : Nat) => xs[((xs.length : Int) - 1 + (k : Int) * (-1)).toNat]?) = xs.reverse := by
  have e : ∀ n, n ≤ xs.length → ((List.range n).filterMap fun (k : Nat) => xs[((xs.length : Int) - 1 + (k : Int) * (-1)).toNat]?) = xs.reverse.take n := by
    intro n
    induction n with
    | zero => intro _; rfl
    | succ n ih =>
      intro hn
      rw [List.range_succ, List.filterMap_append, ih (by omega)]
      have hi : ((xs.length : Int) - 1 + (n : Int) * (-1)).toNat = xs.length - 1 - n := by omega
      have hr : xs.reverse[n]? = some (xs[xs.length - 1 - n]'(by omega)) := by
        rw [List.getElem?_reverse (by omega), List.getElem?_eq_getElem (by omega)]
      simp only [List.filterMap_cons, hi, List.filterMap_nil]
      rw [List.getElem?_eq_getElem (show xs.length - 1 - n < xs.length by omega)]
      rw [List.take_add_one, hr]
      rfl
  rw [e _ (Nat.le_refl _), List.take_of_length_le (by simp)]
section
variable {prog : Program} {w : World} {A : Around} {E : Value → Shared → Prop} {s : Shared}
theorem back_applied {sl : Addr} {vk : Value} {n : Nat} {Q : Int × Int × Nat → Shared → Prop} (hs : s.heap.IsSliceOf sl .none .none vk) (pk : IsPart vk (some (-1)))
    (h : Q ((n : Int) - 1, -1, n) s) : wpAny (model prog w) A (Builtin.Slice.sliceApplied (.ref sl) (pure (n : Int))) Q E s := by
  obtain ⟨os, o1, o2, o3⟩ := id hs
  unfold Builtin.Slice.sliceApplied; unfold Builtin.Slice.sliceFields
  refine wpAny_bind (wpAny_bind (wpAny_field o1 o3 (x := .none) rfl (wpAny_bind (wpAny_field o1 o3 (x := .none) rfl (wpAny_bind (wpAny_field o1 o3 (x := vk) rfl (wpAny_pure ?_)))))))
  refine wpAny_bind (HT.slicePart_ pk ?_)
  show wpAny _ _ (if ((-1 : Int) == 0) = true then _ else _) _ _ s
  rw [if_neg (by decide)]
  refine wpAny_bind (slicePart_none (wpAny_bind (slicePart_none (wpAny_bind (wpAny_pure ?_)))))
  have e : Builtin.Slice.slicePlaces ((n : Int) - 1) (-1) (-1) = n := by
    unfold Builtin.Slice.slicePlaces
    rw [if_neg (by decide)]
    by_cases hz : (n : Int) - 1 > -1
    · rw [if_pos hz, show (- -1 : Int) = 1 by decide, Int.ediv_one]
      omega
    · rw [if_neg hz]
      omega
  refine wpAny_pure ?_
  show Q ((n : Int) - 1, -1, Builtin.Slice.slicePlaces ((n : Int) - 1) (-1) (-1)) s
  rw [e]
  exact h
theorem tup_back {t sl : Addr} {items : Array Value} {vk : Value} {Q : Value → Shared → Prop} (hT : IsTup s.heap t items) (hs : s.heap.IsSliceOf sl .none .none vk) (pk : IsPart vk (some (-1)))
    (h : Q (.ref s.heap.objs.size) { s with heap := s.heap.push { cls := .type "tuple", data := .seq items.toList.reverse.toArray } })
    (hsz : items.size ≤ sizeLine) : wpAny (model prog w) A (getItem (.ref t) (.ref sl)) Q E s := by
  have hsz' : sizeOk (.seq items.toList.reverse.toArray) := by
    show items.toList.reverse.toArray.size ≤ sizeLine
    simpa using hsz
  obtain ⟨os, o1, o2, o3⟩ := id hs
  have hTs : s.TypeIs (.ref sl) "slice" := ⟨os, o1, o2⟩
  unfold getItem
  refine wpAny_holding ?_
  refine wpAny_bind (wpAny_sequenceKey hT.typeIs (by decide) ?_)
  refine wpAny_bind (wpAny_callSpecial?_slot (name := Str.ofString "__getitem__") hT.typeIs PyProof.Rows.slot_tuple_getitem (wpAny_call_entry PyProof.Rows.slot_tuple_getitem hT.typeIs entry_tuple_getitem ?_ (args_tuple_getitem _ _)))
  show wpAny _ A.in1 (Builtin.Tuple.tupleItemsOf (.ref t) >>= _) _ _ s
  refine wpAny_bind (tupleItemsOf_ hT (wpAny_bind (wpAny_typeOf hTs ?_)))
  rw [if_pos (by decide)]
  refine wpAny_bind (back_applied hs pk ?_)
  have hno : ¬ (((items.size : Int) - 1 == 0 && (-1 : Int) == 1 && items.size == items.size) = true) := by
    rw [show ((-1 : Int) == 1) = false from rfl, Bool.and_false, Bool.false_and]
    decide
  show wpAny _ _ (if ((items.size : Int) - 1 == 0 && (-1 : Int) == 1 && items.size == items.size) = true then _ else _) _ _ s
  rw [if_neg hno]
  have ep : ((List.range items.size).filterMap fun (k : Nat) => items[((items.size : Int) - 1 + (k : Int) * (-1)).toNat]?) = items.toList.reverse := by
    have := pick_back items.toList
    simpa using this
  rw [ep]
  first
    | exact wpAny_bind (m := Builtin.Tuple.tupleExact _) (wpAny_newObj_type (wpAny_pure ⟨_, rfl, wpAny_pure h⟩) hsz')
    | exact wpAny_bind (m := Builtin.Tuple.tupleExact _) (wpAny_newObj_type (wpAny_bind (wpAny_pure (wpAny_pure ⟨_, rfl, wpAny_pure h⟩))) hsz')
    | exact wpAny_bind (wpAny_bind (m := Builtin.Tuple.tupleExact _) (wpAny_newObj_type (wpAny_pure (wpAny_pure ⟨_, rfl, wpAny_pure h⟩)) hsz'))
    | exact wpAny_bind (wpAny_bind (m := Builtin.Tuple.tupleExact _) (wpAny_newObj_type (wpAny_pure ⟨_, rfl, wpAny_pure h⟩) hsz'))
end
/-- a[::-1] -/
def Back (e : Expr) : Prop := ∃ k p p', e = .UnaryOp .USub (.Constant (.int 1) k p) p'
theorem pe_back {X : Cx} {e st : Expr} {te : TE} {p2 pos : Pos} (he : PE X e te) (hst : Back st) :
    PE X (.Subscript e (.Slice none none (some st) p2) pos) (fun σ H Q => te σ H fun x H1 => ∃ a xs, x = .ref a ∧ SqT X.K H1 a xs ∧ ∀ p, H1 p = none → Q (.ref p) (upd H1 p (.tup xs.reverse))) := by
  refine ⟨fun pins s σ H Q I h => ?_⟩
  obtain ⟨k, p, p', rfl⟩ := hst
  have hn : PE X (.UnaryOp .USub (.Constant (.int 1) k p) p') (tUn (rU fun i => .int (-i)) (tC (.int 1))) := pe_un un_neg pe_int
  refine Subscript_ (thn (he.run pins s σ H _ I h) fun v s1 ⟨x, H1, I1, r1, a, xs, e1, hx, q1⟩ => ?_)
  subst e1
  cases r1
  refine wpAny_Slice ?_
  rw [evalPart_none]
  refine wpAny_pure (wpAny_pure ?_)
  show wpAny _ _ (eval (.UnaryOp .USub (.Constant (.int 1) k p) p') X.env) _ _ s1
  refine thn (hn.run pins s1 σ H1 (fun y H2 => y = .int (-1) ∧ H2 = H1) I1 ⟨1, rfl, rfl, rfl⟩) fun vk s2 ⟨y, H2, I2, r2, e2, e3⟩ => ?_
  subst e2 e3
  obtain ⟨tk, rfl⟩ := r2
  have I4 : Inv X pins σ H2 { s2 with heap := s2.heap.push { cls := .type "slice", data := .fields #[.none, .none, .int (-1) tk] } } := I2.kept (t' := s2.toks) fun _ _ z => Heap.get?_push_of_some _ z
  obtain ⟨its, r, ht, hz⟩ := I4.tuple hx
  have hlen : its.toArray.size = xs.length := by
    rw [List.size_toArray]
    exact r.length.symm
  refine tail_any (ops := [.ref a, .ref s2.heap.objs.size]) ht.typeIs PyProof.Rows.slot_tuple_getitem.lookup (tup_back ht (Heap.IsSliceOf.new ..) (.int (-1) tk) ?_ (by rw [hlen]; exact hz)) rfl
  refine ⟨.ref (s2.heap.push { cls := .type "slice", data := .fields #[.none, .none, .int (-1) tk] }).objs.size, _, I4.laid (t' := s2.toks) (o := .tup xs.reverse) (fun _ _ z => Heap.get?_push_of_some _ z) (Nat.le_refl _) ?_, rfl, q1 _ (I4.hok.fresh (Nat.le_refl _))⟩
  exact ⟨by rw [List.length_reverse]; exact hz, its.reverse, Vals.reverse r, IsTup.new _ _⟩
end Den

/-! Den, part 1: values as trees, the store of mutable cells, results; what a state of the machine has to do with them. -/
namespace Den
open PySem PySem.Spec PyProof.Rows L2

abbrev T := PyData
/-- a value: a tree, a reference to a cell, a tuple that holds references -/
inductive D where
  | t (x : T)
  /-- a tree that the module's top has written -/
  | k (x : T)
  | ref (n : Nat)
  | mix (xs : List D)
instance : Inhabited D := ⟨.t .none⟩

/-- a mutable thing -/
inductive Cell where
  | lst (xs : List D)
  | dK (kvs : List (Key × D))
  | dT (kvs : List (List Key × D))
  | ins (c : Nat) (fs : List (Str × D))
  | dead
abbrev Store := List Cell

/-- how an evaluation ends -/
inductive Res (α : Type) where
  | ok (a : α) (S : Store)
  | exc (c : Nat) (fs : List (Str × D)) (S : Store)
  | bad
def Res.bind {α β : Type} (r : Res α) (f : α → Store → Res β) : Res β :=
  match r with
  | .ok a S => f a S
  | .exc c fs S => .exc c fs S
  | .bad => .bad
@[simp] theorem Res.bind_ok {α β : Type} (a : α) (S : Store) (f : α → Store → Res β) : (Res.ok a S).bind f = f a S := rfl
@[simp] theorem Res.bind_exc {α β : Type} (c : Nat) (fs : List (Str × D)) (S : Store) (f : α → Store → Res β) : (Res.exc c fs S : Res α).bind f = .exc c fs S := rfl
@[simp] theorem Res.bind_bad {α β : Type} (f : α → Store → Res β) : (Res.bad : Res α).bind f = .bad := rfl

/-! ### references below a bound -/
mutual
def D.low (b : Nat) : D → Bool
  | .t _ => true
  | .k _ => true
  | .ref n => decide (n < b)
  | .mix xs => lows b xs
def lows (b : Nat) : List D → Bool
  | [] => true
  | x :: xs => D.low b x && lows b xs
end
theorem lows_all (b : Nat) : ∀ xs : List D, lows b xs = xs.all (D.low b)
  | [] => rfl
  | x :: xs => by rw [lows, lows_all b xs, List.all_cons]
def Cell.ds : Cell → List D
  | .lst xs => xs
  | .dK kvs => kvs.map (·.2)
  | .dT kvs => kvs.map (·.2)
  | .ins _ fs => fs.map (·.2)
  | .dead => []
def Cell.low (b : Nat) (c : Cell) : Bool := lows b c.ds

/-! ### the machine's side -/
/-- F: what never changes any more; L: what stays while something within is reckoned; ρ: where the cells stand -/
structure G where
  F : Hp
  L : Hp
  ρ : List Addr
structure G.le (g g' : G) : Prop where
  F : ∀ a o, g.F a = some o → g'.F a = some o
  L : g'.L = g.L
  ρ : g.ρ <+: g'.ρ
theorem G.le.refl (g : G) : g.le g := ⟨fun _ _ h => h, rfl, List.prefix_refl _⟩
theorem G.le.trans {a b c : G} (h : a.le b) (k : b.le c) : a.le c := ⟨fun x o e => k.F x o (h.F x o e), k.L.trans h.L, h.ρ.trans k.ρ⟩

/-- .. whatever is locked -/
structure G.sub (g g' : G) : Prop where
  F : ∀ a o, g.F a = some o → g'.F a = some o
  ρ : g.ρ <+: g'.ρ
theorem G.le.sub {g g' : G} (h : g.le g') : g.sub g' := ⟨h.F, h.ρ⟩
theorem G.sub.refl (g : G) : g.sub g := ⟨fun _ _ h => h, List.prefix_refl _⟩
theorem G.sub.trans {a b c : G} (h : a.sub b) (k : b.sub c) : a.sub c := ⟨fun x o e => k.F x o (h.F x o e), h.ρ.trans k.ρ⟩

def keyD : Key → T
  | .inl i => .int i
  | .inr x => .str x

mutual
/-- a value stands for a tree; s: its tuples are tracked ones -/
inductive RepT (K : PySem.W.Frag) (F : Hp) (s : Bool) : V → T → Prop
  | non : RepT K F s .non .none
  | bl (b : Bool) : RepT K F s (.bl b) (.bool b)
  | int (i : Int) : RepT K F s (.int i) (.int i)
  | str (x : Str) : RepT K F s (.str x) (.str x)
  | tup {a : Addr} {vs : List V} {xs : List T} : SqT K F a vs → (s = true → F a = some (.tup vs)) → RepTs K F s vs xs → RepT K F s (.ref a) (.tuple xs)
  | lst {a : Addr} {vs : List V} {xs : List T} : SqL K F a vs → (s = true → F a = some (.lst vs)) → RepTs K F s vs xs → RepT K F s (.ref a) (.list xs)
  | dK {a : Addr} {kvs : List (Key × V)} {xs : List (T × T)} : Rd F a (.dK kvs) → xs.map (·.1) = kvs.map (fun p => keyD p.1) → RepTs K F s (kvs.map (·.2)) (xs.map (·.2)) → RepT K F s (.ref a) (.dict xs)
inductive RepTs (K : PySem.W.Frag) (F : Hp) (s : Bool) : List V → List T → Prop
  | nil : RepTs K F s [] []
  | cons {v : V} {vs : List V} {x : T} {xs : List T} : RepT K F s v x → RepTs K F s vs xs → RepTs K F s (v :: vs) (x :: xs)
end
mutual
inductive Rep (K : PySem.W.Frag) (g : G) : V → D → Prop
  | t {v : V} {x : T} : RepT K g.F true v x → Rep K g v (.t x)
  | k {v : V} {x : T} : RepT K g.F false v x → Rep K g v (.k x)
  | ref {n : Nat} {a : Addr} : g.ρ[n]? = some a → Rep K g (.ref a) (.ref n)
  | mix {a : Addr} {vs : List V} {ds : List D} : SqT K g.F a vs → Reps K g vs ds → Rep K g (.ref a) (.mix ds)
inductive Reps (K : PySem.W.Frag) (g : G) : List V → List D → Prop
  | nil : Reps K g [] []
  | cons {v : V} {vs : List V} {x : D} {xs : List D} : Rep K g v x → Reps K g vs xs → Reps K g (v :: vs) (x :: xs)
end

section mono
variable {K : PySem.W.Frag} {F F' : Hp} {st : Bool}
theorem Rd.mono (h : ∀ a o, F a = some o → F' a = some o) {a : Addr} {u : HO} (r : Rd F a u) : Rd F' a u := by
  rcases r with r | ⟨o, r⟩
  · exact .inl (h _ _ r)
  · exact .inr ⟨o, h _ _ r⟩
theorem SqT.mono (h : ∀ a o, F a = some o → F' a = some o) {a : Addr} {xs : List V} (r : SqT K F a xs) : SqT K F' a xs := by
  rcases r with r | r
  · exact .inl (Rd.mono h r)
  · exact .inr r
theorem SqL.mono (h : ∀ a o, F a = some o → F' a = some o) {a : Addr} {xs : List V} (r : SqL K F a xs) : SqL K F' a xs := by
  rcases r with r | r
  · exact .inl (Rd.mono h r)
  · exact .inr r
mutual
theorem RepT.mono (h : ∀ a o, F a = some o → F' a = some o) : ∀ {v : V} {x : T}, RepT K F st v x → RepT K F' st v x
  | _, _, .non => .non
  | _, _, .bl b => .bl b
  | _, _, .int i => .int i
  | _, _, .str x => .str x
  | _, _, .tup s e r => .tup (SqT.mono h s) (fun z => h _ _ (e z)) (RepTs.mono h r)
  | _, _, .lst s e r => .lst (SqL.mono h s) (fun z => h _ _ (e z)) (RepTs.mono h r)
  | _, _, .dK s e r => .dK (Rd.mono h s) e (RepTs.mono h r)
theorem RepTs.mono (h : ∀ a o, F a = some o → F' a = some o) : ∀ {vs : List V} {xs : List T}, RepTs K F st vs xs → RepTs K F' st vs xs
  | _, _, .nil => .nil
  | _, _, .cons r t => .cons (RepT.mono h r) (RepTs.mono h t)
end
mutual
theorem RepT.weak : ∀ {v : V} {x : T}, RepT K F st v x → RepT K F false v x
  | _, _, .non => .non
  | _, _, .bl b => .bl b
  | _, _, .int i => .int i
  | _, _, .str x => .str x
  | _, _, .tup s e r => .tup s (fun z => nomatch z) (RepTs.weak r)
  | _, _, .lst s e r => .lst s (fun z => nomatch z) (RepTs.weak r)
  | _, _, .dK s e r => .dK s e (RepTs.weak r)
theorem RepTs.weak : ∀ {vs : List V} {xs : List T}, RepTs K F st vs xs → RepTs K F false vs xs
  | _, _, .nil => .nil
  | _, _, .cons r t => .cons (RepT.weak r) (RepTs.weak t)
end
end mono
theorem get_pre {α : Type} {l l' : List α} (h : l <+: l') {n : Nat} {a : α} (e : l[n]? = some a) : l'[n]? = some a := by
  obtain ⟨r, rfl⟩ := h
  rw [List.getElem?_append_left (List.getElem?_eq_some_iff.mp e).1]
  exact e
section mono
variable {K : PySem.W.Frag} {g g' : G}
mutual
theorem Rep.monoF (h : ∀ a o, g.F a = some o → g'.F a = some o) (hr : g.ρ <+: g'.ρ) : ∀ {v : V} {x : D}, Rep K g v x → Rep K g' v x
  | _, _, .t r => .t (RepT.mono h r)
  | _, _, .k r => .k (RepT.mono h r)
  | _, _, .ref e => .ref (get_pre hr e)
  | _, _, .mix s r => .mix (SqT.mono h s) (Reps.monoF h hr r)
theorem Reps.monoF (h : ∀ a o, g.F a = some o → g'.F a = some o) (hr : g.ρ <+: g'.ρ) : ∀ {vs : List V} {xs : List D}, Reps K g vs xs → Reps K g' vs xs
  | _, _, .nil => .nil
  | _, _, .cons r t => .cons (Rep.monoF h hr r) (Reps.monoF h hr t)
end
theorem Rep.mono (h : g.le g') {v : V} {x : D} (r : Rep K g v x) : Rep K g' v x := r.monoF h.F h.ρ
theorem Reps.mono (h : g.le g') {vs : List V} {xs : List D} (r : Reps K g vs xs) : Reps K g' vs xs := r.monoF h.F h.ρ
theorem Reps.length : ∀ {vs : List V} {xs : List D}, Reps K g vs xs → vs.length = xs.length
  | _, _, .nil => rfl
  | _, _, .cons _ t => by simp [Reps.length t]
theorem RepTs.length {F : Hp} {st : Bool} : ∀ {vs : List V} {xs : List T}, RepTs K F st vs xs → vs.length = xs.length
  | _, _, .nil => rfl
  | _, _, .cons _ t => by simp [RepTs.length t]
theorem Reps.get : ∀ {vs : List V} {xs : List D} {i : Nat} {x : D}, Reps K g vs xs → xs[i]? = some x → ∃ v, vs[i]? = some v ∧ Rep K g v x
  | _, _, _, _, .nil, e => by simp at e
  | _, _, 0, _, .cons r _, e => by simp at e; subst e; exact ⟨_, rfl, r⟩
  | _, _, i + 1, x, .cons _ t, e => by
    obtain ⟨v, h1, h2⟩ := Reps.get (i := i) (x := x) t (by simpa using e)
    exact ⟨v, by simpa using h1, h2⟩
theorem RepTs.get {F : Hp} {st : Bool} : ∀ {vs : List V} {xs : List T} {i : Nat} {x : T}, RepTs K F st vs xs → xs[i]? = some x → ∃ v, vs[i]? = some v ∧ RepT K F st v x
  | _, _, _, _, .nil, e => by simp at e
  | _, _, 0, _, .cons r _, e => by simp at e; subst e; exact ⟨_, rfl, r⟩
  | _, _, i + 1, x, .cons _ t, e => by
    obtain ⟨v, h1, h2⟩ := RepTs.get (i := i) (x := x) t (by simpa using e)
    exact ⟨v, by simpa using h1, h2⟩
theorem Reps.set {v : V} {x : D} (r : Rep K g v x) : ∀ {vs : List V} {xs : List D} (i : Nat), Reps K g vs xs → Reps K g (vs.set i v) (xs.set i x)
  | _, _, _, .nil => .nil
  | _, _, 0, .cons _ t => .cons r t
  | _, _, i + 1, .cons q t => .cons q (Reps.set r i t)
theorem Reps.append : ∀ {vs ws : List V} {xs ys : List D}, Reps K g vs xs → Reps K g ws ys → Reps K g (vs ++ ws) (xs ++ ys)
  | _, _, _, _, .nil, s => s
  | _, _, _, _, .cons r t, s => .cons r (Reps.append t s)
theorem RepTs.append {F : Hp} {st : Bool} : ∀ {vs ws : List V} {xs ys : List T}, RepTs K F st vs xs → RepTs K F st ws ys → RepTs K F st (vs ++ ws) (xs ++ ys)
  | _, _, _, _, .nil, s => s
  | _, _, _, _, .cons r t, s => .cons r (RepTs.append t s)
theorem Reps.dropLast : ∀ {vs : List V} {xs : List D}, Reps K g vs xs → Reps K g vs.dropLast xs.dropLast
  | _, _, .nil => .nil
  | _, _, .cons _ .nil => .nil
  | _, _, .cons r (.cons q t) => .cons r (Reps.dropLast (.cons q t))
theorem RepTs.drop {F : Hp} {st : Bool} : ∀ {vs : List V} {xs : List T} (n : Nat), RepTs K F st vs xs → RepTs K F st (vs.drop n) (xs.drop n)
  | _, _, 0, r => r
  | _, _, _ + 1, .nil => .nil
  | _, _, n + 1, .cons _ t => RepTs.drop n t
theorem RepTs.take {F : Hp} {st : Bool} : ∀ {vs : List V} {xs : List T} (n : Nat), RepTs K F st vs xs → RepTs K F st (vs.take n) (xs.take n)
  | _, _, 0, _ => .nil
  | _, _, _ + 1, .nil => .nil
  | _, _, n + 1, .cons r t => .cons r (RepTs.take n t)
theorem RepTs.reps : ∀ {vs : List V} {xs : List T}, RepTs K g.F true vs xs → Reps K g vs (xs.map .t)
  | _, _, .nil => .nil
  | _, _, .cons r t => .cons (.t r) (RepTs.reps t)
end mono

/-- all are trees -/
def allT : List D → Option (List T)
  | [] => some []
  | .t x :: r => (allT r).map (x :: ·)
  | _ :: _ => none
@[simp] theorem allT_nil : allT [] = some [] := rfl
@[simp] theorem allT_cons (x : T) (r : List D) : allT (.t x :: r) = (allT r).map (x :: ·) := rfl
@[simp] theorem allT_map : ∀ xs : List T, allT (xs.map .t) = some xs
  | [] => rfl
  | x :: xs => by rw [List.map_cons, allT_cons, allT_map xs]; rfl
theorem allT_eq : ∀ {ds : List D} {xs : List T}, allT ds = some xs → ds = xs.map .t
  | [], xs, h => by cases h; rfl
  | .t x :: r, xs, h => by
    rw [allT_cons] at h
    cases e : allT r with
    | none => rw [e] at h; cases h
    | some ys =>
      rw [e] at h
      cases h
      rw [List.map_cons, allT_eq e]
  | .k _ :: _, _, h => nomatch h
  | .ref _ :: _, _, h => nomatch h
  | .mix _ :: _, _, h => nomatch h
theorem Reps.trees {K : PySem.W.Frag} {g : G} : ∀ {vs : List V} {xs : List T}, Reps K g vs (xs.map .t) → RepTs K g.F true vs xs
  | [], [], .nil => .nil
  | _ :: _, _ :: _, .cons (.t r) t => .cons r (Reps.trees t)

/-- a cell as it stands -/
def CellAt (cl : List Addr) (K : PySem.W.Frag) (g : G) : Cell → Option HO → Prop
  | .lst ds, o => ∃ vs, o = some (.lst vs) ∧ Reps K g vs ds
  | .dK kvs, o => ∃ kvs' : List (Key × V), o = some (.dK kvs') ∧ kvs'.map (·.1) = kvs.map (·.1) ∧ Reps K g (kvs'.map (·.2)) (kvs.map (·.2))
  | .dT kvs, o => ∃ kvs' : List (List Key × V), o = some (.dT kvs') ∧ kvs'.map (·.1) = kvs.map (·.1) ∧ Reps K g (kvs'.map (·.2)) (kvs.map (·.2))
  | .ins c fs, o => ∃ C dx, ∃ fs' : List (Str × V), cl[c]? = some C ∧ o = some (.ins C dx fs') ∧ fs'.map (·.1) = fs.map (·.1) ∧ Reps K g (fs'.map (·.2)) (fs.map (·.2))
  | .dead, _ => True
theorem CellAt.monoF {cl : List Addr} {K : PySem.W.Frag} {g g' : G} (h : ∀ a o, g.F a = some o → g'.F a = some o) (hr : g.ρ <+: g'.ρ) {c : Cell} {o : Option HO} (x : CellAt cl K g c o) : CellAt cl K g' c o := by
  cases c with
  | lst ds => obtain ⟨vs, e, r⟩ := x; exact ⟨vs, e, r.monoF h hr⟩
  | dK kvs => obtain ⟨k, e, m, r⟩ := x; exact ⟨k, e, m, r.monoF h hr⟩
  | dT kvs => obtain ⟨k, e, m, r⟩ := x; exact ⟨k, e, m, r.monoF h hr⟩
  | ins c fs => obtain ⟨C, dx, fs', z, e, m, r⟩ := x; exact ⟨C, dx, fs', z, e, m, r.monoF h hr⟩
  | dead => trivial
theorem CellAt.mono {cl : List Addr} {K : PySem.W.Frag} {g g' : G} (h : g.le g') {c : Cell} {o : Option HO} (x : CellAt cl K g c o) : CellAt cl K g' c o := x.monoF h.F h.ρ
def Cell.live : Cell → Bool
  | .dead => false
  | _ => true
theorem CellAt.some {cl : List Addr} {K : PySem.W.Frag} {g : G} {c : Cell} {o : Option HO} (x : CellAt cl K g c o) (l : c.live = true) : ∃ u, o = some u := by
  cases c with
  | lst ds => obtain ⟨vs, e, _⟩ := x; exact ⟨_, e⟩
  | dK kvs => obtain ⟨k, e, _⟩ := x; exact ⟨_, e⟩
  | dT kvs => obtain ⟨k, e, _⟩ := x; exact ⟨_, e⟩
  | ins c fs => obtain ⟨C, dx, fs', _, e, _⟩ := x; exact ⟨_, e⟩
  | dead => cases l

/-- the store S, as the abstract heap H holds it; bs: where the frames that run begin -/
structure SimH (cl : List Addr) (K : PySem.W.Frag) (bs : List Nat) (g : G) (S : Store) (H : Hp) : Prop where
  le : ∀ a o, g.F a = some o → H a = some o
  len : g.ρ.length = S.length
  cel : ∀ (n : Nat) c a, S[n]? = some c → g.ρ[n]? = some a → c.live = true → g.F a = none ∧ CellAt cl K g c (H a)
  lk : ∀ a o, g.L a = some o → H a = some o ∧ g.F a = none
  dis : ∀ (n : Nat) c a, S[n]? = some c → g.ρ[n]? = some a → c.live = true → g.L a = none
  inj : ∀ (n m : Nat) c c' a, S[n]? = some c → c.live = true → S[m]? = some c' → c'.live = true → g.ρ[n]? = some a → g.ρ[m]? = some a → n = m
  ws : ∀ b ∈ bs, ∀ (n : Nat) c, n < b → S[n]? = some c → c.low b = true
  hi : ∀ b ∈ bs, b ≤ S.length
/-- the slots -/
def SimS (K : PySem.W.Frag) (g : G) (ds : List (Option D)) (σ : L2.St) : Prop :=
  ds.length = σ.length ∧ ∀ (i : Nat) d, ds[i]? = some (some d) → ∃ v, σ[i]? = some (some v) ∧ Rep K g v d
theorem SimS.monoF {K : PySem.W.Frag} {g g' : G} (h : ∀ a o, g.F a = some o → g'.F a = some o) (hr : g.ρ <+: g'.ρ) {ds : List (Option D)} {σ : L2.St} (s : SimS K g ds σ) : SimS K g' ds σ :=
  ⟨s.1, fun i d e => let ⟨v, a, r⟩ := s.2 i d e; ⟨v, a, r.monoF h hr⟩⟩
theorem SimS.mono {K : PySem.W.Frag} {g g' : G} (h : g.le g') {ds : List (Option D)} {σ : L2.St} (s : SimS K g ds σ) : SimS K g' ds σ := s.monoF h.F h.ρ
theorem SimS.set {K : PySem.W.Frag} {g : G} {ds : List (Option D)} {σ : L2.St} (s : SimS K g ds σ) (i : Nat) {v : V} {d : D} (r : Rep K g v d) : SimS K g (ds.set i (some d)) (σ.set i (some v)) := by
  refine ⟨by simp [s.1], fun j e h => ?_⟩
  by_cases hj : i = j
  · subst hj
    by_cases hi : i < ds.length
    · rw [List.getElem?_set_self hi] at h
      cases h
      exact ⟨v, List.getElem?_set_self (by rw [← s.1]; exact hi), r⟩
    · rw [List.getElem?_eq_none (by simpa using hi)] at h; cases h
  · rw [List.getElem?_set_ne hj] at h ⊢
    exact s.2 j e h
end Den

/-! Den, part 2: the small language and what it computes. -/
namespace Den
open PySem PySem.Spec PyProof.Rows L2

/-! ### operations on values -/
/-- the tree that a value is (a cell that is a list of trees is read as it stands) -/
def flat : D → Option T
  | .t x => some x
  | .k x => some x
  | _ => none
def flats : List D → Option (List T)
  | [] => some []
  | x :: r => match flat x, flats r with
    | some a, some b => some (a :: b)
    | _, _ => none
@[simp] theorem flats_map : ∀ xs : List T, flats (xs.map .t) = some xs
  | [] => rfl
  | x :: xs => by rw [List.map_cons, flats, flats_map xs]; rfl
def tree (S : Store) : D → Option T
  | .t x => some x
  | .k x => some x
  | .ref n => match S[n]? with
    | some (.lst ds) => (flats ds).map .list
    | _ => none
  | .mix ds => (flats ds).map .tuple
@[simp] theorem tree_t (S : Store) (x : T) : tree S (.t x) = some x := rfl
@[simp] theorem tree_k (S : Store) (x : T) : tree S (.k x) = some x := rfl
theorem tree_ref (S : Store) (n : Nat) : tree S (.ref n) = match S[n]? with
    | some (.lst ds) => (flats ds).map .list
    | _ => none := rfl
theorem tree_mix (S : Store) (ds : List D) : tree S (.mix ds) = (flats ds).map .tuple := rfl
/-- a written tree; numbers and the like stand by themselves -/
def kD : T → D
  | .tuple xs => .k (.tuple xs)
  | .list xs => .k (.list xs)
  | .dict xs => .k (.dict xs)
  | x => .t x
def scal : T → Bool
  | .tuple _ => false
  | .list _ => false
  | .dict _ => false
  | _ => true
/-- a new list of what a written tree holds -/
def newL (xs : List T) : D := if xs.all scal = true then .t (.list xs) else .k (.list xs)
def truthT : T → Option Bool
  | .none => some false
  | .bool b => some b
  | .int i => some (i != 0)
  | .str s => if s.length ≤ sizeLine then some ((s.length : Int) != 0) else none
  | .list xs => some (!xs.isEmpty)
  | .tuple xs => some (!xs.isEmpty)
  | .dict _ => none
def truthD (S : Store) : D → Option Bool
  | .t x => truthT x
  | .k x => truthT x
  | .ref n => match S[n]? with
    | some (.lst ds) => some (!ds.isEmpty)
    | _ => none
  | .mix ds => some (!ds.isEmpty)
/-- both are data, not nested too deep -/
def cmpOk (x y : T) : Bool := x.plain && y.plain && decide (min x.depth y.depth ≤ 100)
def ordOk (x y : T) : Bool := PySem.W.alike x y && x.plain && y.plain && (match x with | .none => false | _ => true) && decide (min x.depth y.depth ≤ 100)
def guardB {α : Type} (b : Bool) (a : α) : Option α := if b = true then some a else none
def isIn (x y : T) : Option Bool :=
  match y with
  | .list ys => guardB (x.plain && PyData.plainAll ys && decide (min (PyData.depthAll ys) x.depth ≤ 100)) (ys.any fun z => PyData.eqv z x)
  | .tuple ys => guardB (x.plain && PyData.plainAll ys && decide (min (PyData.depthAll ys) x.depth ≤ 100)) (ys.any fun z => PyData.eqv z x)
  | .str z => (match x with
    | .str y => some (!(Builtin.Str.occurrences z y 0 z.length 1).isEmpty)
    | _ => none)
  | _ => none
def isT (x y : T) : Option Bool :=
  match x, y with
  | .none, .none => some true
  | .bool a, .bool b => some (decide (a = b))
  | _, .none => some false
  | _, _ => none
def cmpT (op : CmpOp) (x y : T) : Option Bool :=
  match op with
  | .Eq => guardB (cmpOk x y) (PyData.eqv x y)
  | .NotEq => guardB (cmpOk x y) (!PyData.eqv x y)
  | .Lt => guardB (ordOk x y) (PySem.W.dataLt x y)
  | .Gt => guardB (ordOk x y) (PySem.W.dataLt y x)
  | .LtE => guardB (ordOk x y) (!PySem.W.dataLt y x)
  | .GtE => guardB (ordOk x y) (!PySem.W.dataLt x y)
  | .In => isIn x y
  | .NotIn => (isIn x y).map (!·)
  | .Is => isT x y
  | .IsNot => (isT x y).map (!·)
def keyK : T → Option Key
  | .int i => some (.inl i)
  | .str s => some (.inr s)
  | _ => none
def keyAll : List T → Option (List Key)
  | [] => some []
  | x :: xs => match keyK x, keyAll xs with
    | some k, some ks => some (k :: ks)
    | _, _ => none
def keyT : T → Option (List Key)
  | .tuple xs => keyAll xs
  | _ => none
def look {κ α : Type} [DecidableEq κ] (kvs : List (κ × α)) (k : κ) : Option α := (kvs.find? fun p => decide (p.1 = k)).map (·.2)
def putD {κ α : Type} [DecidableEq κ] (kvs : List (κ × α)) (k : κ) (v : α) : List (κ × α) :=
  if (kvs.any fun p => decide (p.1 = k)) = true then kvs.map (fun p => if p.1 = k then (p.1, v) else p) else kvs ++ [(k, v)]
/-- a tree that is a dict, at a key -/
def lookK (kvs : List (T × T)) (k : Key) : Option T := (kvs.find? fun p => decide (keyK p.1 = some k)).map (·.2)
/-- what a dict holds at a key: none where the key is of no kind that it takes -/
def getC (S : Store) (d : D) (x : T) : Option (Option D) :=
  match d with
  | .t (.dict kvs) => (keyK x).map fun k => (lookK kvs k).map .t
  | .ref n => match S[n]? with
    | some (.dK kvs) => (keyK x).map fun k => look kvs k
    | some (.dT kvs) => (keyT x).map fun k => look kvs k
    | _ => none
  | _ => none
def isDict (S : Store) : D → Bool
  | .t (.dict _) => true
  | .ref n => match S[n]? with
    | some (.dK _) => true
    | some (.dT _) => true
    | _ => false
  | _ => false
def isRef : D → Bool
  | .ref _ => true
  | .mix _ => true
  | _ => false
def cmpD (op : CmpOp) (S : Store) (x y : D) : Option Bool :=
  if isDict S y = true then
    match x, op with
    | .t a, .In => (getC S y a).map (·.isSome)
    | .t a, .NotIn => (getC S y a).map (!·.isSome)
    | _, _ => none
  else
    match tree S x, tree S y with
    | some a, some b => cmpT op a b
    | none, some .none => match op with
      | .Is => guardB (isRef x) false
      | .IsNot => guardB (isRef x) true
      | _ => none
    | _, _ => none
def binT (op : Operator) (x y : T) : Option T :=
  match op, x, y with
  | .Add, .int i, .int j => some (.int (i + j))
  | .Add, .str s, .str t => guardB (decide (s.length + t.length ≤ sizeLine)) (.str (s ++ t))
  | .Add, .tuple xs, .tuple ys => guardB (decide (xs.length + ys.length ≤ sizeLine)) (.tuple (xs ++ ys))
  | .Add, .list xs, .list ys => guardB (decide (xs.length + ys.length ≤ sizeLine)) (.list (xs ++ ys))
  | .Sub, .int i, .int j => some (.int (i - j))
  | .Mult, .int i, .int j => guardB (decide (i.natAbs.log2 + j.natAbs.log2 < 1000000)) (.int (i * j))
  | .FloorDiv, .int i, .int j => guardB (decide (j ≠ 0) && decide (j.natAbs.log2 < 9000)) (.int (i.fdiv j))
  | .Mod, .int i, .int j => guardB (decide (j ≠ 0)) (.int (i.fmod j))
  | .Pow, .int i, .int j => guardB (decide (0 ≤ j) && decide (j ≤ 1000000) && decide (i.natAbs < 2 ^ 64)) (.int (i ^ j.toNat))
  | .LShift, .int i, .int j => guardB (decide (0 ≤ j) && decide (j ≤ 1000000) && decide (i.natAbs < 2 ^ 64)) (.int (i * 2 ^ j.toNat))
  | .RShift, .int i, .int j => guardB (decide (0 ≤ j)) (.int (i / 2 ^ j.toNat))
  | .Mult, .tuple xs, .int k => guardB (decide (-1000 ≤ k) && decide (k ≤ 1000) && decide (xs.length ≤ 1000)) (.tuple (List.replicate k.toNat xs).flatten)
  | _, _, _ => none
/-- a list of trees that may be written -/
def lstOf (S : Store) : D → Option (List T)
  | .t (.list xs) => some xs
  | .ref n => match S[n]? with
    | some (.lst ds) => allT ds
    | _ => none
  | _ => none
def isL : T → Bool
  | .list _ => true
  | _ => false
def binD (op : Operator) (S : Store) (x y : D) : Option D :=
  match x, y with
  | .t a, .t b => (binT op a b).map .t
  | .k a, .t b => if (isL a || isL b) = true then none else (binT op a b).map kD
  | .t a, .k b => if (isL a || isL b) = true then none else (binT op a b).map kD
  | .k a, .k b => if (isL a || isL b) = true then none else (binT op a b).map kD
  | _, _ => match lstOf S x, lstOf S y with
    | some a, some b => (binT op (.list a) (.list b)).map .t
    | _, _ => none
/-- an item by its place, of any sign -/
def atD {α : Type} (xs : List α) (i : Int) : Option α := atI xs i
def idxT (x : T) (i : T) : Option T :=
  match x, i with
  | .list xs, .int i => atI xs i
  | .tuple xs, .int i => atI xs i
  | .str s, .int i => if s.length ≤ sizeLine then (atI s.cps.toList i).map fun c => .str ⟨#[c]⟩ else none
  | _, _ => none
def idxD (S : Store) (x i : D) : Option D :=
  match x, i with
  | .t (.dict kvs), .t k => (keyK k).bind fun k => (lookK kvs k).map .t
  | .t a, .t k => (idxT a k).map .t
  | .k a, .t k => (idxT a k).map kD
  | .mix ds, .t (.int k) => atI ds k
  | .ref n, .t k => match S[n]? with
    | some (.lst ds) => (match k with
      | .int k => atI ds k
      | _ => none)
    | some (.dK kvs) => (keyK k).bind fun k => look kvs k
    | some (.dT kvs) => (keyT k).bind fun k => look kvs k
    | _ => none
  | _, _ => none
def cutT {α : Type} (xs : List α) (lo hi : Option Int) : List α := (xs.drop (HT.sIx xs.length 0 lo)).take (HT.sIx xs.length xs.length hi - HT.sIx xs.length 0 lo)
def slcT (x : T) (lo hi : Option Int) : Option T :=
  match x with
  | .list xs => some (.list (cutT xs lo hi))
  | .tuple xs => some (.tuple (cutT xs lo hi))
  | .str s => guardB (decide (s.length ≤ sizeLine)) (.str (cutS s lo hi))
  | _ => none
def slcD (S : Store) (u : D) (l h : Option Int) : Option D :=
  match u with
  | .t x => (slcT x l h).map .t
  | .k (.list xs) => some (newL (cutT xs l h))
  | .k x => (slcT x l h).map kD
  | .ref n => (lstOf S (.ref n)).map fun xs => .t (.list (cutT xs l h))
  | .mix _ => none
def lenD (S : Store) : D → Option Nat
  | .t (.str s) => if s.length ≤ sizeLine then some s.length else none
  | .t (.list xs) => some xs.length
  | .t (.tuple xs) => some xs.length
  | .t (.dict xs) => some xs.length
  | .k (.tuple xs) => some xs.length
  | .k (.list xs) => some xs.length
  | .ref n => match S[n]? with
    | some (.lst ds) => some ds.length
    | some (.dK kvs) => some kvs.length
    | _ => none
  | .mix ds => some ds.length
  | _ => none
/-- the items of a sequence -/
def seqD (S : Store) : D → Option (List D)
  | .t (.list xs) => some (xs.map .t)
  | .t (.tuple xs) => some (xs.map .t)
  | .k (.tuple xs) => some (xs.map kD)
  | .k (.list xs) => some (xs.map kD)
  | .mix ds => some ds
  | .ref n => match S[n]? with
    | some (.lst ds) => some ds
    | _ => none
  | _ => none
/-- the items of a list that stays, of a tuple -/
def lstI : D → Option (List D)
  | .t (.list xs) => some (xs.map .t)
  | .k (.list xs) => some (xs.map kD)
  | _ => none
def tupI : D → Option (List D)
  | .t (.tuple xs) => some (xs.map .t)
  | .k (.tuple xs) => some (xs.map kD)
  | .mix ds => some ds
  | _ => none
/-- a tuple, a list that stays -/
def mkTup (ds : List D) : D := match allT ds with
  | some xs => .t (.tuple xs)
  | none => .mix ds
def mkLst (ds : List D) : Option D := (allT ds).map fun xs => .t (.list xs)
/-- a list's cell is given up: it stays as it is from now on -/
def frzD (S : Store) : D → Option (D × Store)
  | .t x => some (.t x, S)
  | .k x => some (.k x, S)
  | .ref n => match S[n]? with
    | some (.lst ds) => (allT ds).map fun xs => (.t (.list xs), S.set n .dead)
    | _ => none
  | .mix _ => none
def isiT (x : T) : String → Bool
  | "int" => match x with | .int _ => true | .bool _ => true | _ => false
  | "bool" => match x with | .bool _ => true | _ => false
  | "str" => match x with | .str _ => true | _ => false
  | "tuple" => match x with | .tuple _ => true | _ => false
  | "list" => match x with | .list _ => true | _ => false
  | _ => false
def isiD (S : Store) (d : D) (ty : String) : Option Bool :=
  match d with
  | .t x => if ty ∈ ["int", "bool", "str", "tuple", "list"] then some (isiT x ty) else none
  | .k x => if ty ∈ ["int", "bool", "str", "tuple", "list"] then some (isiT x ty) else none
  | .ref n => match S[n]? with
    | some (.lst _) => if ty ∈ ["int", "bool", "str", "tuple", "list"] then some (ty == "list") else none
    | _ => none
  | .mix _ => if ty ∈ ["int", "bool", "str", "tuple", "list"] then some (ty == "tuple") else none
/-- a tuple backwards -/
def backD : D → Option D
  | .t (.tuple xs) => some (.t (.tuple xs.reverse))
  | .k (.tuple xs) => some (.k (.tuple xs.reverse))
  | .mix xs => some (.mix xs.reverse)
  | _ => none
/-- what enumerate numbers -/
def enumI : D → Option (List D)
  | .t (.str s) => some (s.cps.toList.map fun c => .t (.str ⟨#[c]⟩))
  | .t (.list xs) => some (xs.map .t)
  | .k (.list xs) => some (xs.map kD)
  | d => tupI d
def enumD (us : List D) : List D := us.zipIdx.map fun p => mkTup [.t (.int p.2), p.1]
/-- list(zip(u, v)) -/
def lzipD : D → D → Option D
  | .t (.list xs), .t (.list ys) => some (.t (.list ((xs.zip ys).map fun p => .tuple [p.1, p.2])))
  | _, _ => none
/-- a display's pairs, keys and values in turn -/
def pairsD : List D → Option (List (Key × D))
  | [] => some []
  | .t x :: d :: r => match keyK x, pairsD r with
    | some k, some l => some ((k, d) :: l)
    | _, _ => none
  | _ => none
def mergeD (kvs : List (Key × D)) : List (Key × D) := kvs.foldl (fun acc p => putD acc p.1 p.2) []
/-- a dict that stays -/
def mkDct (kvs : List (Key × D)) : Option D := (allT (kvs.map (·.2))).map fun ts => .t (.dict ((kvs.map fun p => keyD p.1).zip ts))
/-- d.get(k, w) -/
def getO (S : Store) (u v w : D) : Option D := match v with
  | .t x => match getC S u x with
    | some (some r) => some r
    | some none => some w
    | none => none
  | _ => none
/-- sorted(u), of a list of alike trees -/
def sortOk (xs : List T) : Bool := (xs.all fun x => xs.all fun y => PySem.W.alike x y) && ((xs.all fun x => match x with | .tuple (_ :: _) => true | _ => false) || (xs.all fun x => match x with | .none => false | .tuple _ => false | _ => true)) && xs.all fun x => x.plain && decide (x.depth ≤ 100)
def sortT (xs : List T) : List T := xs.mergeSort (PySem.W.dataLe false id)
def srtD (S : Store) (d : D) : Option D := (lstOf S d).bind fun xs => guardB (sortOk xs) (.t (.list (sortT xs)))
/-- u.pop() of a list's cell -/
def popD (S : Store) : D → Option (D × Store)
  | .ref n => match S[n]? with
    | some (.lst ds) => ds.getLast?.map fun d => (d, S.set n (.lst ds.dropLast))
    | _ => none
  | _ => none
/-- methods of texts -/
inductive Mth where
  | join | split | partition | strip | lower | isdigit
  deriving DecidableEq
def strsT : List T → Option (List Str)
  | [] => some []
  | .str b :: r => (strsT r).map (b :: ·)
  | _ :: _ => none
def isStrD : D → Bool
  | .t (.str _) => true
  | _ => false
def seqsT (S : Store) (d : D) : Option (List T) := match tree S d with
  | some (.list xs) => some xs
  | some (.tuple xs) => some xs
  | _ => none
def mthD (m : Mth) (S : Store) (u : D) (as : List D) : Option D :=
  match u with
  | .t (.str a) => (match m, as with
    | .join, [d] => (seqsT S d).bind fun xs => (strsT xs).bind fun ys => guardB (decide ((ys.map (·.length)).sum + ys.length * a.length ≤ 16777216)) (.t (.str (Txt.join a ys)))
    | .split, [.t (.str b)] => guardB (!(b.length == 0) && decide (a.length + 2 ≤ sizeLine)) (.t (.list ((Txt.split a b).map .str)))
    | .partition, [.t (.str b)] => guardB (!(b.length == 0) && decide (a.length ≤ sizeLine)) (.t (.tuple [.str (Txt.partition a b).1, .str (Txt.partition a b).2.1, .str (Txt.partition a b).2.2]))
    | .strip, [] => guardB (decide (a.length ≤ sizeLine)) (.t (.str (Txt.strip a)))
    | .lower, [] => guardB (decide (a.length ≤ 5592405)) (.t (.str (Txt.lower a)))
    | .isdigit, [] => some (.t (.bool (Txt.isdigit a)))
    | _, _ => none)
  | _ => none
inductive Blt where
  | len | abs | min2 | max2 | int1 | all1 | any1 | sum1 | str1 | tup1 | lst1
  deriving DecidableEq
def boolsT : List T → Option (List Bool)
  | [] => some []
  | .bool b :: r => (boolsT r).map (b :: ·)
  | _ :: _ => none
def intsT : List T → Option (List Int)
  | [] => some []
  | .int b :: r => (intsT r).map (b :: ·)
  | _ :: _ => none
def bltD (b : Blt) (S : Store) (args : List D) : Option D :=
  match b, args with
  | .len, [d] => (lenD S d).map fun n => .t (.int n)
  | .abs, [.t (.int i)] => some (.t (.int (if i < 0 then -i else i)))
  | .min2, [.t (.int i), .t (.int j)] => some (.t (.int (if j < i then j else i)))
  | .max2, [.t (.int i), .t (.int j)] => some (.t (.int (if j > i then j else i)))
  | .int1, [.t (.int i)] => some (.t (.int i))
  | .int1, [.t (.bool b)] => some (.t (.int (if b then 1 else 0)))
  | .all1, [d] => match tree S d with
    | some (.list xs) => (boolsT xs).map fun bs => .t (.bool (bs.all id))
    | _ => none
  | .any1, [d] => match tree S d with
    | some (.list xs) => (boolsT xs).map fun bs => .t (.bool (bs.any id))
    | _ => none
  | .sum1, [d] => match tree S d with
    | some (.list xs) => (intsT xs).map fun ns => .t (.int ns.sum)
    | _ => none
  | .str1, [.t (.int i)] => guardB (decide (i.natAbs.log2 < 1920)) (.t (.str (toString i)))
  | .tup1, [.t (.tuple xs)] => some (.t (.tuple xs))
  | .tup1, [.mix ds] => some (.mix ds)
  | .tup1, [.k (.tuple xs)] => some (.k (.tuple xs))
  | .tup1, [d] => (lstOf S d).map fun xs => .t (.tuple xs)
  | .lst1, [.k (.tuple xs)] => some (newL xs)
  | .lst1, [.k (.list xs)] => some (newL xs)
  | .lst1, [.t (.tuple xs)] => some (.t (.list xs))
  | .lst1, [d] => (lstOf S d).map fun xs => .t (.list xs)
  | _, _ => none

/-! ### the language -/
mutual
inductive E where
  | v (i : Nat)
  | c (x : T)
  | g (j : Nat)
  | tup (xs : Es)
  | lst (m : Bool) (xs : Es)
  | bin (op : Operator) (a b : E)
  | neg (a : E)
  | cmp (op : CmpOp) (a b : E)
  | chain (p q : CmpOp) (a b c : E)
  | and (xs : Es)
  | or (xs : Es)
  | not (a : E)
  | ite (c a b : E)
  | idx (a i : E)
  | slc (a : E) (lo hi : OE)
  | call (f : Nat) (xs : Es) (ks : Es) (pm : List (Nat ⊕ T))
  | blt (b : Blt) (xs : Es)
  | isi (a : E) (ty : String)
  | comp (m : Bool) (t : Tg) (i : Wk) (cs : Es) (e : E)
  | frz (a : E)
  | back (a : E)
  | dead
  | lzip (a b : E)
  | srt (a : E)
  | pop (o : E)
  | dct (m : Bool) (xs : Es)
  | get1 (o k : E)
  | get2 (o k d : E)
  | comp2 (m : Bool) (t : Tg) (i : Wk) (cs : Es) (t' : Tg) (i' : Wk) (cs' : Es) (e : E)
  | mth (m : Mth) (o : E) (xs : Es)
inductive Es where
  | nil
  | cons (a : E) (r : Es)
inductive OE where
  | no
  | yes (a : E)
/-- a target -/
inductive Tg where
  | v (i : Nat)
  | tup (ts : Tgs)
  | idx (o i : E)
inductive Tgs where
  | nil
  | cons (a : Tg) (r : Tgs)
/-- what is walked -/
inductive Wk where
  | seq (a : E)
  | rng1 (a : E)
  | rng2 (a b : E)
  | zip (a b : E)
  | enum (a : E)
end
mutual
inductive S where
  | asg (t : Tg) (e : E)
  | par (i j : Nat) (a b : E)
  | aug (i : Nat) (op : Operator) (e : E)
  | expr (e : E)
  | app (o e : E)
  | ext (o e : E)
  | dead
  | ret (e : E)
  | retN
  | ife (c : E) (a b : Ss)
  | whl (n : Nat) (c : E) (b : Ss)
  | fr (t : Tg) (i : Wk) (b : Ss)
  | brk
  | cont
  | pass
  | frz (i : Nat)
  | sc (b : Ss)
inductive Ss where
  | nil
  | cons (a : S) (r : Ss)
end

/-! ### what it computes -/
abbrev Sl := List (Option D)
abbrev CF := Nat → Nat → List D → Store → Res D
def lift {α : Type} (o : Option α) (S : Store) : Res α :=
  match o with
  | some a => .ok a S
  | none => .bad
@[simp] theorem lift_some {α : Type} (a : α) (S : Store) : lift (some a) S = .ok a S := rfl
@[simp] theorem lift_none {α : Type} (S : Store) : lift (none : Option α) S = .bad := rfl
/-- nothing may be raised -/
def Res.noexc {α : Type} (r : Res α) : Res α :=
  match r with
  | .exc _ _ _ => .bad
  | r => r
@[simp] theorem Res.noexc_ok {α : Type} (a : α) (S : Store) : (Res.ok a S).noexc = .ok a S := rfl
@[simp] theorem Res.noexc_exc {α : Type} (c : Nat) (fs : List (Str × D)) (S : Store) : (Res.exc c fs S : Res α).noexc = .bad := rfl
@[simp] theorem Res.noexc_bad {α : Type} : (Res.bad : Res α).noexc = .bad := rfl
/-- a loop that collects -/
def collectD (f : D → Store → Res (List D)) : List D → Store → Res (List D)
  | [], S => .ok [] S
  | x :: xs, S => (f x S).bind fun ys S => (collectD f xs S).bind fun zs S => .ok (ys ++ zs) S
def rangeD (a b : Int) : List D := (List.range (b - a).toNat).map fun i => .t (.int (a + (i : Nat)))
def wipeD (ds : Sl) : List Nat → Sl
  | [] => ds
  | v :: vs => (wipeD ds vs).set v none
mutual
def Tg.slots : Tg → List Nat
  | .v i => [i]
  | .tup ts => Tgs.slots ts
  | .idx _ _ => []
def Tgs.slots : Tgs → List Nat
  | .nil => []
  | .cons a r => Tg.slots a ++ Tgs.slots r
end
def permL (ks : List D) : List (Nat ⊕ T) → Option (List D)
  | [] => some []
  | .inl i :: r => match ks[i]?, permL ks r with
    | some d, some l => some (d :: l)
    | _, _ => none
  | .inr x :: r => match permL ks r with
    | some l => some (kD x :: l)
    | none => none
/-- how a statement ends -/
inductive SRes where
  | nx (ds : Sl) (S : Store)
  | ret (d : D) (S : Store)
  | brk (ds : Sl) (S : Store)
  | cont (ds : Sl) (S : Store)
  | exc (c : Nat) (fs : List (Str × D)) (ds : Sl) (S : Store)
  | bad
/-- an expression in a statement -/
def thenS {α : Type} (r : Res α) (ds : Sl) (f : α → Store → SRes) : SRes :=
  match r with
  | .ok a S => f a S
  | .exc c fs S => .exc c fs ds S
  | .bad => .bad
@[simp] theorem thenS_ok {α : Type} (a : α) (S : Store) (ds : Sl) (f : α → Store → SRes) : thenS (.ok a S) ds f = f a S := rfl
@[simp] theorem thenS_exc {α : Type} (c : Nat) (fs : List (Str × D)) (S : Store) (ds : Sl) (f : α → Store → SRes) : thenS (.exc c fs S : Res α) ds f = .exc c fs ds S := rfl
@[simp] theorem thenS_bad {α : Type} (ds : Sl) (f : α → Store → SRes) : thenS (.bad : Res α) ds f = .bad := rfl
def forD (f : D → Sl → Store → SRes) : List D → Sl → Store → SRes
  | [], ds, S => .nx ds S
  | x :: xs, ds, S => match f x ds S with
    | .nx ds S => forD f xs ds S
    | .cont ds S => forD f xs ds S
    | .brk ds S => .nx ds S
    | .ret d S => .ret d S
    | .exc c fs ds S => .exc c fs ds S
    | .bad => .bad
def whileD (c : Sl → Store → Res Bool) (f : Sl → Store → SRes) : Nat → Sl → Store → SRes
  | 0, _, _ => .bad
  | n + 1, ds, S => thenS (c ds S) ds fun k S => if k = true then
      match f ds S with
      | .nx ds S => whileD c f n ds S
      | .cont ds S => whileD c f n ds S
      | .brk ds S => .nx ds S
      | .ret d S => .ret d S
      | .exc c fs ds S => .exc c fs ds S
      | .bad => .bad
    else .nx ds S
/-- what may be written into the n-th cell by a frame that begins at b -/
def mayW (b n : Nat) (d : D) : Bool := decide (b ≤ n) || d.low (n + 1)
def setD (b : Nat) (S : Store) (o i v : D) : Option Store :=
  match o, i with
  | .ref n, .t x => match S[n]? with
    | some (.lst ds) => match x with
      | .int k => match ixN ds.length k with
        | some j => guardB (mayW b n v) (S.set n (.lst (ds.set j v)))
        | none => none
      | _ => none
    | some (.dK kvs) => match keyK x with
      | some k => guardB (mayW b n v && decide (kvs.length < sizeLine)) (S.set n (.dK (putD kvs k v)))
      | none => none
    | some (.dT kvs) => match keyT x with
      | some k => guardB (mayW b n v && decide (kvs.length < sizeLine)) (S.set n (.dT (putD kvs k v)))
      | none => none
    | _ => none
  | _, _ => none
def appD (b : Nat) (S : Store) (o v : D) : Option Store :=
  match o with
  | .ref n => match S[n]? with
    | some (.lst ds) => guardB (mayW b n v && decide (ds.length < sizeLine)) (S.set n (.lst (ds ++ [v])))
    | _ => none
  | _ => none
def extD (S : Store) (o v : D) : Option Store :=
  match o with
  | .ref n => match S[n]? with
    | some (.lst ds) => (lstOf S v).bind fun xs => guardB (decide (ds.length + xs.length ≤ sizeLine)) (S.set n (.lst (ds ++ xs.map .t)))
    | _ => none
  | _ => none
def isLst (S : Store) : D → Bool
  | .ref n => match S[n]? with
    | some (.lst _) => true
    | _ => false
  | _ => false
/-- op= -/
def augT (op : Operator) (x y : T) : Option T :=
  match op, x, y with
  | .Add, .int i, .int j => some (.int (i + j))
  | .Add, .str s, .str t => guardB (decide (s.length + t.length ≤ sizeLine)) (.str (s ++ t))
  | .Sub, .int i, .int j => some (.int (i - j))
  | .Mult, .int i, .int j => guardB (decide (i.natAbs.log2 + j.natAbs.log2 < 1000000)) (.int (i * j))
  | .FloorDiv, .int i, .int j => guardB (decide (j ≠ 0) && decide (j.natAbs.log2 < 9000)) (.int (i.fdiv j))
  | .Mod, .int i, .int j => guardB (decide (j ≠ 0)) (.int (i.fmod j))
  | _, _, _ => none
def augD (op : Operator) : D → D → Option T
  | .t x, .t y => augT op x y
  | _, _ => none
/-- frozen at a slot -/
def frzS (ds : Sl) (i : Nat) (S : Store) : Option (Sl × Store) :=
  match ds[i]? with
  | some (some d) => (frzD S d).map fun p => (ds.set i (some p.1), p.2)
  | _ => none
/-- what a def is -/
structure Fn where
  np : Nat
  ns : Nat
  keep : Bool
  body : Ss

section
variable (cf : CF) (gs : List T) (b : Nat)
mutual
def evE : E → Sl → Store → Res D
  | .v i, ds, S => match ds[i]? with
    | some (some d) => .ok d S
    | _ => .bad
  | .c x, _, S => .ok (.t x) S
  | .g j, _, S => match gs[j]? with
    | some x => .ok (kD x) S
    | none => .bad
  | .tup xs, ds, S => (evEs xs ds S).bind fun as S => if as.length ≤ sizeLine then .ok (mkTup as) S else .bad
  | .lst m xs, ds, S => (evEs xs ds S).bind fun as S => if as.length ≤ sizeLine then (if m = true then .ok (.ref S.length) (S ++ [.lst as]) else lift (mkLst as) S) else .bad
  | .bin op x y, ds, S => (evE x ds S).bind fun u S => (evE y ds S).bind fun v S => lift (binD op S u v) S
  | .neg x, ds, S => (evE x ds S).bind fun u S => match u with
    | .t (.int i) => .ok (.t (.int (-i))) S
    | _ => .bad
  | .cmp op x y, ds, S => (evE x ds S).bind fun u S => (evE y ds S).bind fun v S => lift ((cmpD op S u v).map fun k => .t (.bool k)) S
  | .chain p q x y z, ds, S => (evE x ds S).bind fun u S => (evE y ds S).bind fun v S => (lift (cmpD p S u v) S).bind fun k S =>
      if k = true then (evE z ds S).bind fun w S => lift ((cmpD q S v w).map fun k => .t (.bool k)) S else .ok (.t (.bool false)) S
  | .and xs, ds, S => evAnd xs ds S
  | .or xs, ds, S => evOr xs ds S
  | .not x, ds, S => (evE x ds S).bind fun u S => lift ((truthD S u).map fun k => .t (.bool (!k))) S
  | .ite c x y, ds, S => (evE c ds S).bind fun u S => (lift (truthD S u) S).bind fun k S => if k = true then evE x ds S else evE y ds S
  | .idx x i, ds, S => (evE x ds S).bind fun u S => (evE i ds S).bind fun v S => lift (idxD S u v) S
  | .slc x lo hi, ds, S => (evE x ds S).bind fun u S => (evOE lo ds S).bind fun l S => (evOE hi ds S).bind fun h S => lift (slcD S u l h) S
  | .call f xs ks pm, ds, S => (evEs xs ds S).bind fun as S => (evEs ks ds S).bind fun bs S => match permL bs pm with
    | some cs => cf f b (as ++ cs) S
    | none => .bad
  | .blt o xs, ds, S => (evEs xs ds S).bind fun as S => lift (bltD o S as) S
  | .isi x ty, ds, S => (evE x ds S).bind fun u S => lift ((isiD S u ty).map fun k => .t (.bool k)) S
  | .comp m t i cs e, ds, S => (evIt i ds S).bind fun xs S =>
      (collectD (fun x S => ((evTg t x (wipeD ds t.slots) S).noexc).bind fun ds' S => ((evTs cs ds' S).noexc).bind fun k S => if k = true then ((evE e ds' S).noexc).bind fun y S => .ok [y] S else .ok [] S) xs S).bind fun ys S =>
        if ys.length ≤ sizeLine then (if m = true then .ok (.ref S.length) (S ++ [.lst ys]) else lift (mkLst ys) S) else .bad
  | .frz x, ds, S => (evE x ds S).bind fun u S => match frzD S u with
    | some p => .ok p.1 p.2
    | none => .bad
  | .back x, ds, S => (evE x ds S).bind fun u S => lift (backD u) S
  | .dead, _, _ => .bad
  | .lzip x y, ds, S => (evE x ds S).bind fun u S => (evE y ds S).bind fun v S => lift (lzipD u v) S
  | .srt x, ds, S => (evE x ds S).bind fun u S => lift (srtD S u) S
  | .pop x, ds, S => (evE x ds S).bind fun u S => match popD S u with
    | some p => .ok p.1 p.2
    | none => .bad
  | .dct m xs, ds, S => (evEs xs ds S).bind fun us S => (lift (pairsD us) S).bind fun kvs S => if kvs.length ≤ 15 then (if m = true then .ok (.ref S.length) (S ++ [.dK (mergeD kvs)]) else lift (mkDct (mergeD kvs)) S) else .bad
  | .get1 o x, ds, S => (evE o ds S).bind fun u S => if isDict S u = true then (evE x ds S).bind fun v S => lift (getO S u v (.t .none)) S else .bad
  | .get2 o x y, ds, S => (evE o ds S).bind fun u S => if isDict S u = true then (evE x ds S).bind fun v S => (evE y ds S).bind fun w S => lift (getO S u v w) S else .bad
  | .comp2 m t i cs t' i' cs' e, ds, S => (evIt i ds S).bind fun xs S =>
      (collectD (fun x S => ((evTg t x (wipeD ds (t.slots ++ t'.slots)) S).noexc).bind fun ds' S => ((evTs cs ds' S).noexc).bind fun k S => if k = true then
        ((evIt i' ds' S).noexc).bind fun xs' S => collectD (fun x S => ((evTg t' x (wipeD ds' t'.slots) S).noexc).bind fun ds'' S => ((evTs cs' ds'' S).noexc).bind fun k S => if k = true then ((evE e ds'' S).noexc).bind fun y S => .ok [y] S else .ok [] S) xs' S
        else .ok [] S) xs S).bind fun ys S =>
        if ys.length ≤ sizeLine then (if m = true then .ok (.ref S.length) (S ++ [.lst ys]) else lift (mkLst ys) S) else .bad
  | .mth m o xs, ds, S => (evE o ds S).bind fun u S => if isStrD u = true then (evEs xs ds S).bind fun as S => lift (mthD m S u as) S else .bad
def evEs : Es → Sl → Store → Res (List D)
  | .nil, _, S => .ok [] S
  | .cons x r, ds, S => (evE x ds S).bind fun u S => (evEs r ds S).bind fun us S => .ok (u :: us) S
def evAnd : Es → Sl → Store → Res D
  | .nil, _, _ => .bad
  | .cons x r, ds, S => match r with
    | .nil => evE x ds S
    | .cons _ _ => (evE x ds S).bind fun u S => (lift (truthD S u) S).bind fun k S => if k = true then evAnd r ds S else .ok u S
def evOr : Es → Sl → Store → Res D
  | .nil, _, _ => .bad
  | .cons x r, ds, S => match r with
    | .nil => evE x ds S
    | .cons _ _ => (evE x ds S).bind fun u S => (lift (truthD S u) S).bind fun k S => if k = true then .ok u S else evOr r ds S
/-- the tests of a comprehension -/
def evTs : Es → Sl → Store → Res Bool
  | .nil, _, S => .ok true S
  | .cons x r, ds, S => match r with
    | .nil => (evE x ds S).bind fun u S => lift (truthD S u) S
    | .cons _ _ => .bad
def evOE : OE → Sl → Store → Res (Option Int)
  | .no, _, S => .ok none S
  | .yes x, ds, S => (evE x ds S).bind fun u S => match u with
    | .t (.int i) => .ok (some i) S
    | _ => .bad
def evIt : Wk → Sl → Store → Res (List D)
  | .seq x, ds, S => (evE x ds S).bind fun u S => match u with
    | .ref _ => .bad
    | .t (.str s) => .ok (s.cps.toList.map fun c => .t (.str ⟨#[c]⟩)) S
    | u => lift (seqD S u) S
  | .rng1 x, ds, S => (evE x ds S).bind fun u S => match u with
    | .t (.int j) => if -(2 ^ 62) ≤ j ∧ j < 2 ^ 62 then .ok (rangeD 0 j) S else .bad
    | _ => .bad
  | .rng2 x y, ds, S => (evE x ds S).bind fun u S => (evE y ds S).bind fun v S => match u, v with
    | .t (.int i), .t (.int j) => if -(2 ^ 62) ≤ i ∧ i < 2 ^ 62 ∧ -(2 ^ 62) ≤ j ∧ j < 2 ^ 62 then .ok (rangeD i j) S else .bad
    | _, _ => .bad
  | .zip x y, ds, S => (evE x ds S).bind fun u S => (evE y ds S).bind fun v S => match lstI u, lstI v with
    | some us, some vs => .ok ((us.zip vs).map fun p => mkTup [p.1, p.2]) S
    | _, _ => match tupI u, tupI v with
      | some us, some vs => .ok ((us.zip vs).map fun p => mkTup [p.1, p.2]) S
      | _, _ => .bad
  | .enum x, ds, S => (evE x ds S).bind fun u S => (lift (enumI u) S).bind fun us S => .ok (enumD us) S
def evTg : Tg → D → Sl → Store → Res Sl
  | .v i, d, ds, S => .ok (ds.set i (some d)) S
  | .tup ts, d, ds, S => match tupI d with
      | some us => evTgs ts us ds S
      | none => .bad
  | .idx o i, d, ds, S => ((evE o ds S).noexc).bind fun u S => ((evE i ds S).noexc).bind fun v S => match setD b S u v d with
    | some S => .ok ds S
    | none => .bad
def evTgs : Tgs → List D → Sl → Store → Res Sl
  | .nil, [], ds, S => .ok ds S
  | .cons t r, d :: us, ds, S => (evTg t d ds S).bind fun ds S => evTgs r us ds S
  | _, _, _, _ => .bad
end
def evT (e : E) (ds : Sl) (S : Store) : Res Bool := (evE cf gs b e ds S).bind fun u S => lift (truthD S u) S
mutual
def evS : Den.S → Sl → Store → SRes
  | .asg t e, ds, S => thenS (evE cf gs b e ds S) ds fun d S => thenS (evTg cf gs b t d ds S).noexc ds fun ds S => .nx ds S
  | .par i j x y, ds, S => thenS (evE cf gs b x ds S) ds fun u S => thenS (evE cf gs b y ds S) ds fun v S => .nx ((ds.set i (some u)).set j (some v)) S
  | .aug i op e, ds, S => match ds[i]? with
    | some (some u) => thenS (evE cf gs b e ds S) ds fun v S => match augD op u v with
      | some z => .nx (ds.set i (some (.t z))) S
      | none => .bad
    | _ => .bad
  | .expr e, ds, S => thenS (evE cf gs b e ds S) ds fun _ S => .nx ds S
  | .app o e, ds, S => thenS (evE cf gs b o ds S) ds fun u S => if isLst S u = true then thenS (evE cf gs b e ds S) ds fun v S => match appD b S u v with
    | some S => .nx ds S
    | none => .bad
    else .bad
  | .ext o e, ds, S => thenS (evE cf gs b o ds S) ds fun u S => if isLst S u = true then thenS (evE cf gs b e ds S) ds fun v S => match extD S u v with
    | some S => .nx ds S
    | none => .bad
    else .bad
  | .dead, _, _ => .bad
  | .ret e, ds, S => thenS (evE cf gs b e ds S) ds fun d S => .ret d S
  | .retN, _, S => .ret (.t .none) S
  | .ife c x y, ds, S => thenS (evT cf gs b c ds S) ds fun k S => if k = true then evSs x ds S else evSs y ds S
  | .whl n c x, ds, S => whileD (evT cf gs b c) (evSs x) n ds S
  | .fr t i x, ds, S => thenS (evIt cf gs b i ds S) ds fun xs S => forD (fun d ds S => thenS (evTg cf gs b t d ds S).noexc ds fun ds S => evSs x ds S) xs ds S
  | .brk, ds, S => .brk ds S
  | .cont, ds, S => .cont ds S
  | .pass, ds, S => .nx ds S
  | .frz i, ds, S => match frzS ds i S with
    | some p => .nx p.1 p.2
    | none => .bad
  | .sc x, ds, S => evSs x ds S
def evSs : Ss → Sl → Store → SRes
  | .nil, ds, S => .nx ds S
  | .cons x r, ds, S => match evS x ds S with
    | .nx ds S => evSs r ds S
    | q => q
end
end
/-- the frame is left -/
def close (keep : Bool) (b : Nat) (d : D) (S : Store) : Res D := if keep = true then .ok d S else if d.low b = true then .ok d (S.take b) else .bad
def runF (cf : CF) (gs : List T) (fn : Fn) (b : Nat) (args : List D) (S : Store) : Res D :=
  if args.length = fn.np then
    let b' := if fn.keep = true then b else S.length
    match evSs cf gs b' fn.body (args.map some ++ List.replicate (fn.ns - fn.np) none) S with
    | .ret d S => close fn.keep b' d S
    | .nx _ S => close fn.keep b' (.t .none) S
    | .exc c fs _ S => if fn.keep = true then .exc c fs S else if fs.all (fun p => p.2.low b') = true then .exc c fs (S.take b') else .bad
    | _ => .bad
  else .bad
def callF (P : List Fn) (gs : List T) : Nat → CF
  | 0, _, _, _, _ => .bad
  | k + 1, f, b, args, S => match P[f]? with
    | some fn => runF (callF P gs k) gs fn b args S
    | none => .bad
end Den

set_option maxHeartbeats 1000000
/-! Den, part 3: how an evaluation is read by the machine's rules; the operations on values. -/
namespace Den
open PySem PySem.Spec PyProof.Rows L2

/-! ### the heap's moves on our side -/
section moves
variable {cl : List Addr} {K : PySem.W.Frag} {bs : List Nat} {g : G} {St : Store} {H : Hp}
theorem SimH.fresh (m : SimH cl K bs g St H) {p : Addr} (hp : H p = none) : g.F p = none := by
  cases e : g.F p with
  | none => rfl
  | some o => rw [m.le _ _ e] at hp; cases hp
theorem SimH.freshL (m : SimH cl K bs g St H) {p : Addr} (hp : H p = none) : g.L p = none := by
  cases e : g.L p with
  | none => rfl
  | some o => rw [(m.lk _ _ e).1] at hp; cases hp
/-- something that stays is laid at a new place -/
theorem SimH.fro (m : SimH cl K bs g St H) {p : Addr} (hp : H p = none) (o : HO) : g.le ⟨upd g.F p o, g.L, g.ρ⟩ ∧ SimH cl K bs ⟨upd g.F p o, g.L, g.ρ⟩ St (upd H p o) := by
  have hF := m.fresh hp
  have le : g.le ⟨upd g.F p o, g.L, g.ρ⟩ := ⟨fun a u e => by
    show upd g.F p o a = _
    rw [upd_ne (ne_of_none e hF)]
    exact e, rfl, List.prefix_refl _⟩
  refine ⟨le, fun a u e => ?_, m.len, fun n c a h1 h2 h3 => ?_, fun a u e => ?_, m.dis, m.inj, m.ws, m.hi⟩
  · by_cases ha : a = p
    · subst ha
      have e' : upd g.F a o a = some u := e
      rw [upd_same] at e' ⊢
      exact e'
    · have e' : upd g.F p o a = some u := e
      rw [upd_ne ha] at e' ⊢
      exact m.le _ _ e'
  · obtain ⟨q1, q2⟩ := m.cel n c a h1 h2 h3
    obtain ⟨u, hu⟩ := q2.some h3
    have ha : a ≠ p := ne_of_none hu hp
    refine ⟨?_, ?_⟩
    · show upd g.F p o a = none
      rw [upd_ne ha]
      exact q1
    · rw [upd_ne ha]
      exact q2.mono le
  · obtain ⟨q1, q2⟩ := m.lk a u e
    have ha : a ≠ p := ne_of_none q1 hp
    refine ⟨by rw [upd_ne ha]; exact q1, ?_⟩
    show upd g.F p o a = none
    rw [upd_ne ha]
    exact q2
theorem getElem?_snoc_lt {α : Type} {l : List α} {x y : α} {n : Nat} (h : (l ++ [x])[n]? = some y) : (n < l.length ∧ l[n]? = some y) ∨ (n = l.length ∧ x = y) := by
  rcases Nat.lt_trichotomy n l.length with c | c | c
  · rw [List.getElem?_append_left c] at h
    exact .inl ⟨c, h⟩
  · subst c
    simp at h
    exact .inr ⟨rfl, h⟩
  · rw [List.getElem?_eq_none (by simp; omega)] at h
    cases h
/-- a new cell -/
theorem SimH.cell (m : SimH cl K bs g St H) {p : Addr} (hp : H p = none) {o : HO} {c : Cell} (hc : ∀ g', g.le g' → CellAt cl K g' c (some o)) :
    g.le ⟨g.F, g.L, g.ρ ++ [p]⟩ ∧ SimH cl K bs ⟨g.F, g.L, g.ρ ++ [p]⟩ (St ++ [c]) (upd H p o) ∧ Rep K ⟨g.F, g.L, g.ρ ++ [p]⟩ (.ref p) (.ref St.length) := by
  have le : g.le ⟨g.F, g.L, g.ρ ++ [p]⟩ := ⟨fun _ _ e => e, rfl, List.prefix_append _ _⟩
  have old : ∀ (n : Nat) c' a, St[n]? = some c' → g.ρ[n]? = some a → c'.live = true → a ≠ p := fun n c' a h1 h2 h3 => by
    obtain ⟨_, q2⟩ := m.cel n c' a h1 h2 h3
    obtain ⟨u, hu⟩ := q2.some h3
    exact ne_of_none hu hp
  refine ⟨le, ⟨fun a u e => ?_, by simp [m.len], fun n c' a h1 h2 h3 => ?_, fun a u e => ?_, fun n c' a h1 h2 h3 => ?_, fun n n' c' c'' a h1 l1 h2 l2 r1 r2 => ?_, fun b hb' n c' hn h1 => ?_, fun b hb => by have := m.hi b hb; simp; omega⟩, .ref ?_⟩
  · have e' : g.F a = some u := e
    rw [upd_ne (ne_of_none (m.le _ _ e') hp)]
    exact m.le _ _ e'
  · rcases getElem?_snoc_lt h1 with ⟨hl, h1⟩ | ⟨hl, rfl⟩
    · have h2' : g.ρ[n]? = some a := by
        have h2 : (g.ρ ++ [p])[n]? = some a := h2
        rw [List.getElem?_append_left (by rw [m.len]; exact hl)] at h2
        exact h2
      obtain ⟨q1, q2⟩ := m.cel n c' a h1 h2' h3
      refine ⟨q1, ?_⟩
      rw [upd_ne (old n c' a h1 h2' h3)]
      exact q2.mono le
    · have h2 : (g.ρ ++ [p])[n]? = some a := h2
      rw [hl, ← m.len] at h2
      simp at h2
      subst h2
      refine ⟨m.fresh hp, ?_⟩
      rw [upd_same]
      exact hc _ le
  · obtain ⟨q1, q2⟩ := m.lk a u e
    exact ⟨by rw [upd_ne (ne_of_none q1 hp)]; exact q1, q2⟩
  · have h2 : (g.ρ ++ [p])[n]? = some a := h2
    rcases getElem?_snoc_lt h1 with ⟨hl, h1⟩ | ⟨hl, rfl⟩
    · rw [List.getElem?_append_left (by rw [m.len]; exact hl)] at h2
      exact m.dis n c' a h1 h2 h3
    · rw [hl, ← m.len] at h2
      simp at h2
      subst h2
      exact m.freshL hp
  · have r1 : (g.ρ ++ [p])[n]? = some a := r1
    have r2 : (g.ρ ++ [p])[n']? = some a := r2
    rcases getElem?_snoc_lt h1 with ⟨hl, h1⟩ | ⟨hl, rfl⟩ <;> rcases getElem?_snoc_lt h2 with ⟨hl', h2⟩ | ⟨hl', rfl⟩
    · rw [List.getElem?_append_left (by rw [m.len]; assumption)] at r1 r2
      exact m.inj n n' c' c'' a h1 l1 h2 l2 r1 r2
    · rw [List.getElem?_append_left (by rw [m.len]; assumption)] at r1
      rw [hl', ← m.len] at r2
      simp at r2
      exact absurd r2.symm (old n c' a h1 r1 l1)
    · rw [List.getElem?_append_left (by rw [m.len]; assumption)] at r2
      rw [hl, ← m.len] at r1
      simp at r1
      exact absurd r1.symm (old n' c'' a h2 r2 l2)
    · omega
  · rcases getElem?_snoc_lt h1 with ⟨hl, h1⟩ | ⟨hl, rfl⟩
    · exact m.ws b hb' n c' hn h1
    · have := m.hi b hb'
      omega
  · show (g.ρ ++ [p])[St.length]? = some p
    rw [← m.len]
    simp
mutual
theorem low_mono {n m : Nat} (h : n ≤ m) : ∀ d : D, d.low n = true → d.low m = true
  | .t _, _ => rfl
  | .k _, _ => rfl
  | .ref k, e => by
    have : k < n := by simpa [D.low] using e
    simp [D.low]
    omega
  | .mix xs, e => lows_mono h xs e
theorem lows_mono {n m : Nat} (h : n ≤ m) : ∀ xs : List D, lows n xs = true → lows m xs = true
  | [], _ => rfl
  | x :: xs, e => by
    simp only [lows, Bool.and_eq_true] at e ⊢
    exact ⟨low_mono h x e.1, lows_mono h xs e.2⟩
end
/-- a cell is changed -/
theorem SimH.put {b : Nat} (m : SimH cl K bs g St H) (hb : ∀ c ∈ bs, c ≤ b) {n : Nat} {c c' : Cell} {a : Addr} {o : HO} (h1 : St[n]? = some c) (h2 : g.ρ[n]? = some a) (h3 : c.live = true) (hc : CellAt cl K g c' (some o))
    (hw : n < b → ∀ d ∈ c'.ds, d ∈ c.ds ∨ d.low (n + 1) = true) : SimH cl K bs g (St.set n c') (upd H a o) := by
  obtain ⟨q1, q2⟩ := m.cel n c a h1 h2 h3
  have hn : n < St.length := (List.getElem?_eq_some_iff.mp h1).1
  refine ⟨fun x u e => ?_, by simp [m.len], fun k d x e1 e2 e3 => ?_, fun x u e => ?_, fun k d x e1 e2 e3 => ?_, fun k k' d d' x e1 l1 e2 l2 r1 r2 => ?_, fun b' hb' k d hk e1 => ?_, fun b hb => by have := m.hi b hb; simpa using this⟩
  · have hx : x ≠ a := fun z => by rw [z, q1] at e; cases e
    rw [upd_ne hx]
    exact m.le _ _ e
  · by_cases hk : n = k
    · subst hk
      rw [List.getElem?_set_self hn] at e1
      cases e1
      rw [h2] at e2
      cases e2
      exact ⟨q1, by rw [upd_same]; exact hc⟩
    · rw [List.getElem?_set_ne hk] at e1
      obtain ⟨p1, p2⟩ := m.cel k d x e1 e2 e3
      refine ⟨p1, ?_⟩
      have hx : x ≠ a := fun z => hk (m.inj n k c d a h1 h3 e1 e3 h2 (by rw [← z]; exact e2))
      rw [upd_ne hx]
      exact p2
  · obtain ⟨p1, p2⟩ := m.lk x u e
    have hx : x ≠ a := fun z => by rw [z, m.dis n c a h1 h2 h3] at e; cases e
    exact ⟨by rw [upd_ne hx]; exact p1, p2⟩
  · by_cases hk : n = k
    · subst hk
      rw [h2] at e2
      cases e2
      exact m.dis n c a h1 h2 h3
    · rw [List.getElem?_set_ne hk] at e1
      exact m.dis k d x e1 e2 e3
  · have key : ∀ {j : Nat} {d : Cell} {x : Addr}, (St.set n c')[j]? = some d → d.live = true → ∃ d', St[j]? = some d' ∧ d'.live = true := fun {j d x} e l => by
      by_cases hj : n = j
      · subst hj; exact ⟨c, h1, h3⟩
      · rw [List.getElem?_set_ne hj] at e; exact ⟨d, e, l⟩
    obtain ⟨f, f1, f2⟩ := key (x := x) e1 l1
    obtain ⟨f', f1', f2'⟩ := key (x := x) e2 l2
    exact m.inj k k' f f' x f1 f2 f1' f2' r1 r2
  · by_cases hk' : n = k
    · subst hk'
      rw [List.getElem?_set_self hn] at e1
      cases e1
      have lb : n < b := Nat.lt_of_lt_of_le hk (hb b' hb')
      have old := m.ws b' hb' n c hk h1
      unfold Cell.low at old ⊢
      rw [lows_all, List.all_eq_true] at old ⊢
      intro z hz
      rcases hw lb z hz with q | q
      · exact old z q
      · exact low_mono (by omega) z q
    · rw [List.getElem?_set_ne hk'] at e1
      exact m.ws b' hb' k d hk e1
/-- a cell is given up; what stands there stays -/
theorem SimH.give {n : Nat} {c : Cell} {a : Addr} {o : HO} (m : SimH cl K bs g St H) (h1 : St[n]? = some c) (h2 : g.ρ[n]? = some a) (h3 : c.live = true) (ho : H a = some o) :
    g.le ⟨upd g.F a o, g.L, g.ρ⟩ ∧ SimH cl K bs ⟨upd g.F a o, g.L, g.ρ⟩ (St.set n .dead) H := by
  obtain ⟨q1, q2⟩ := m.cel n c a h1 h2 h3
  have hn : n < St.length := (List.getElem?_eq_some_iff.mp h1).1
  have le : g.le ⟨upd g.F a o, g.L, g.ρ⟩ := ⟨fun x u e => by
    show upd g.F a o x = _
    rw [upd_ne (ne_of_none e q1)]
    exact e, rfl, List.prefix_refl _⟩
  have back : ∀ {j : Nat} {d : Cell}, (St.set n .dead)[j]? = some d → d.live = true → n ≠ j ∧ St[j]? = some d := fun {j d} e l => by
    by_cases hj : n = j
    · subst hj
      rw [List.getElem?_set_self hn] at e
      cases e
      cases l
    · rw [List.getElem?_set_ne hj] at e
      exact ⟨hj, e⟩
  refine ⟨le, fun x u e => ?_, by simp [m.len], fun k d x e1 e2 e3 => ?_, fun x u e => ?_, fun k d x e1 e2 e3 => m.dis k d x (back e1 e3).2 e2 e3, fun k k' d d' x e1 l1 e2 l2 r1 r2 => m.inj k k' d d' x (back e1 l1).2 l1 (back e2 l2).2 l2 r1 r2, fun b' hb' k d hk e1 => ?_, fun b hb => by have := m.hi b hb; simpa using this⟩
  · have e : upd g.F a o x = some u := e
    by_cases hx : x = a
    · subst hx
      rw [upd_same] at e
      rw [ho]
      exact e
    · rw [upd_ne hx] at e
      exact m.le _ _ e
  · obtain ⟨hk, e1'⟩ := back e1 e3
    have e2 : g.ρ[k]? = some x := e2
    obtain ⟨p1, p2⟩ := m.cel k d x e1' e2 e3
    refine ⟨?_, p2.mono le⟩
    show upd g.F a o x = none
    rw [upd_ne fun z => hk (m.inj n k c d a h1 h3 e1' e3 h2 (by rw [← z]; exact e2))]
    exact p1
  · obtain ⟨p1, p2⟩ := m.lk x u e
    refine ⟨p1, ?_⟩
    show upd g.F a o x = none
    rw [upd_ne fun z => by have e : g.L x = some u := e; rw [z, m.dis n c a h1 h2 h3] at e; cases e]
    exact p2
  · by_cases hk' : n = k
    · subst hk'
      rw [List.getElem?_set_self hn] at e1
      cases e1
      rfl
    · rw [List.getElem?_set_ne hk'] at e1
      exact m.ws b' hb' k d hk e1
end moves

/-! ### what is wanted of an evaluation's end -/
/-- an exception as it lies -/
def ExcAt (cl : List Addr) (K : PySem.W.Frag) (g : G) (c : Nat) (fs : List (Str × D)) (cls : Value) (dx : Option Addr) (H : Hp) : Prop :=
  ∃ C, cl[c]? = some C ∧ cls = .ref C ∧ ((fs = [] ∧ dx = none) ∨ ∃ a, ∃ fs' : List (Str × V), dx = some a ∧ H a = some (.xd fs') ∧ fs'.map (·.1) = fs.map (·.1) ∧ Reps K g (fs'.map (·.2)) (fs.map (·.2)))
def Post {α β : Type} (cl : List Addr) (K : PySem.W.Frag) (bs : List Nat) (g : G) (W : XK) (rel : G → β → α → Prop) (r : Res α) (Q : β → Hp → Prop) : Prop :=
  match r with
  | .ok a S => ∀ g' H y, g.le g' → SimH cl K bs g' S H → rel g' y a → Q y H
  | .exc c fs S => ∀ g' H cls dx, g.le g' → SimH cl K bs g' S H → ExcAt cl K g' c fs cls dx H → W cls dx H
  | .bad => False
section post
variable {α β γ δ : Type} {cl : List Addr} {K : PySem.W.Frag} {bs : List Nat} {g g' : G} {W : XK} {rel : G → β → α → Prop} {rel2 : G → δ → γ → Prop} {r : Res α} {Q Q' : β → Hp → Prop}
theorem Post.imp (h : Post cl K bs g W rel r Q) (k : ∀ y H, Q y H → Q' y H) : Post cl K bs g W rel r Q' := by
  cases r with
  | ok a S => exact fun g' H y l m q => k y H (h g' H y l m q)
  | exc c fs S => exact h
  | bad => exact h
theorem Post.up (h : Post cl K bs g W rel r Q) (l : g.le g') : Post cl K bs g' W rel r Q := by
  cases r with
  | ok a S => exact fun g' H y l' m q => h g' H y (l.trans l') m q
  | exc c fs S => exact fun g' H cls dx l' m q => h g' H cls dx (l.trans l') m q
  | bad => exact h
/-- a step, then the rest -/
theorem Post.step {f : α → Store → Res γ} {Q : δ → Hp → Prop} (h : Post cl K bs g W rel2 (r.bind f) Q) :
    Post cl K bs g W rel r fun y H => ∃ g' a S, g.le g' ∧ SimH cl K bs g' S H ∧ rel g' y a ∧ Post cl K bs g' W rel2 (f a S) Q := by
  cases r with
  | ok a S => exact fun g' H y l m q => ⟨g', a, S, l, m, q, Post.up h l⟩
  | exc c fs S => exact h
  | bad => exact h
theorem Post.get {o : Option α} {S : Store} (h : Post cl K bs g W rel (lift o S) Q) : ∃ a, o = some a ∧ ∀ g' H y, g.le g' → SimH cl K bs g' S H → rel g' y a → Q y H := by
  cases o with
  | none => exact h.elim
  | some a => exact ⟨a, rfl, h⟩
end post
/-- the readings -/
def RdE (cl : List Addr) (K : PySem.W.Frag) (bs : List Nat) (W : WX) (ev : Sl → Store → Res D) : TE := fun σ H Q =>
  ∃ g ds S, SimH cl K bs g S H ∧ SimS K g ds σ ∧ Post cl K bs g (fun c d H => W c d σ H) (Rep K) (ev ds S) Q
def RdA (cl : List Addr) (K : PySem.W.Frag) (bs : List Nat) (W : WX) (ev : Sl → Store → Res (List D)) : TA := fun σ H Q =>
  ∃ g ds S, SimH cl K bs g S H ∧ SimS K g ds σ ∧ Post cl K bs g (fun c d H => W c d σ H) (Reps K) (ev ds S) Q
def RdT (cl : List Addr) (K : PySem.W.Frag) (bs : List Nat) (W : WX) (ev : Sl → Store → Res Bool) : TT := fun σ H Q =>
  ∃ g ds S, SimH cl K bs g S H ∧ SimS K g ds σ ∧ Post cl K bs g (fun c d H => W c d σ H) (fun _ y b => y = b) (ev ds S) Q
def RdO (cl : List Addr) (K : PySem.W.Frag) (bs : List Nat) (W : WX) (ev : Sl → Store → Res (Option Int)) : L2.TO := fun σ H Q =>
  ∃ g ds S, SimH cl K bs g S H ∧ SimS K g ds σ ∧ Post cl K bs g (fun c d H => W c d σ H) (fun _ y b => y = b) (ev ds S) Q

/-! ### trees on the machine's side -/
section trees
variable {cl : List Addr} {K : PySem.W.Frag} {bs : List Nat} {g : G} {S : Store} {H F : Hp} {st : Bool}
mutual
theorem RepT.dp : ∀ {v : V} {x : T}, RepT K F st v x → x.plain = true → Dp K F v x
  | _, _, .non, _ => .non
  | _, _, .bl b, _ => .bl b
  | _, _, .int i, _ => .int i
  | _, _, .str x, _ => .str x
  | _, _, .tup s _ r, h => .tup s (RepTs.dp r (by simpa [PyData.plain] using h))
  | _, _, .lst s _ r, h => .lst s (RepTs.dp r (by simpa [PyData.plain] using h))
  | _, _, .dK _ _ _, h => by simp [PyData.plain] at h
theorem RepTs.dp : ∀ {vs : List V} {xs : List T}, RepTs K F st vs xs → PyData.plainAll xs = true → DpAll K F vs xs
  | _, _, .nil, _ => .nil
  | _, _, .cons r t, h => by
    simp only [PyData.plainAll, Bool.and_eq_true] at h
    exact .cons (RepT.dp r h.1) (RepTs.dp t h.2)
end
/-- read over the whole heap -/
theorem RepT.wide (m : SimH cl K bs g S H) {v : V} {x : T} (r : RepT K g.F st v x) : RepT K H st v x := r.mono m.le
theorem Rep.flatW {v : V} {d : D} (r : Rep K g v d) {x : T} (e : flat d = some x) : RepT K g.F false v x := by
  cases r with
  | t r => cases e; exact r.weak
  | k r => cases e; exact r
  | ref _ => cases e
  | mix _ _ => cases e
theorem Reps.flatsW : ∀ {vs : List V} {ds : List D}, Reps K g vs ds → ∀ {xs : List T}, flats ds = some xs → RepTs K g.F false vs xs
  | _, _, .nil, xs, e => by
    cases e
    exact .nil
  | _, _, .cons (x := d) (xs := ds) r t, xs, e => by
    unfold Den.flats at e
    cases e1 : Den.flat d with
    | none => rw [e1] at e; cases e
    | some a =>
      cases e2 : Den.flats ds with
      | none => rw [e1, e2] at e; cases e
      | some b =>
        rw [e1, e2] at e
        cases e
        exact .cons (r.flatW e1) (Reps.flatsW t e2)
theorem Rep.treeW (m : SimH cl K bs g S H) {v : V} {d : D} (r : Rep K g v d) {x : T} (e : tree S d = some x) : RepT K H false v x := by
  cases r with
  | t r => cases e; exact (r.wide m).weak
  | k r => cases e; exact r.wide m
  | @ref n a h =>
    rw [tree_ref] at e
    split at e
    · rename_i ds hs
      cases hx : Den.flats ds with
      | none => rw [hx] at e; cases e
      | some xs =>
        rw [hx] at e
        cases e
        obtain ⟨_, vs, ho, rs⟩ := m.cel n _ a hs h rfl
        exact .lst (SqL.of ho) (fun z => nomatch z) ((rs.flatsW hx).mono m.le)
    · cases e
  | @mix a vs ds s rs =>
    rw [tree_mix] at e
    cases hx : Den.flats ds with
    | none => rw [hx] at e; cases e
    | some xs =>
      rw [hx] at e
      cases e
      exact .tup (SqT.mono m.le s) (fun z => nomatch z) ((rs.flatsW hx).mono m.le)
variable {X : Cx} {pins : List (Addr × Obj)} {σ : L2.St} {s : Shared}
theorem RepT.reads (I : Inv X pins σ H s) {v : V} {u : Value} {x : T} (r : RepT X.K H st v x) (h : x.plain = true) (ru : RelV v u) : ∃ as, Reads s.heap u x as := Dp.reads I x v u (r.dp h) ru
/-- scalars -/
theorem RepT.int_inv {v : V} {i : Int} (r : RepT K F st v (.int i)) : v = .int i := by cases r; rfl
theorem RepT.bool_inv {v : V} {i : Bool} (r : RepT K F st v (.bool i)) : v = .bl i := by cases r; rfl
theorem RepT.str_inv {v : V} {i : Str} (r : RepT K F st v (.str i)) : v = .str i := by cases r; rfl
theorem RepT.none_inv {v : V} (r : RepT K F st v .none) : v = .non := by cases r; rfl
theorem RepT.tuple_inv {v : V} {xs : List T} (r : RepT K F st v (.tuple xs)) : ∃ a vs, v = .ref a ∧ SqT K F a vs ∧ (st = true → F a = some (.tup vs)) ∧ RepTs K F st vs xs := by
  cases r with
  | tup s e r => exact ⟨_, _, rfl, s, e, r⟩
theorem RepT.list_inv {v : V} {xs : List T} (r : RepT K F st v (.list xs)) : ∃ a vs, v = .ref a ∧ SqL K F a vs ∧ (st = true → F a = some (.lst vs)) ∧ RepTs K F st vs xs := by
  cases r with
  | lst s e r => exact ⟨_, _, rfl, s, e, r⟩
theorem RepT.up {v : V} {x : T} (r : RepT K g.F false v x) : Rep K g v (kD x) := by
  cases x with
  | none => cases r; exact .t .non
  | bool b => cases r; exact .t (.bl b)
  | int i => cases r; exact .t (.int i)
  | str x => cases r; exact .t (.str x)
  | list xs => exact .k r
  | tuple xs => exact .k r
  | dict xs => exact .k r
/-- a new tuple of trees that stays -/
theorem SimH.tupT (m : SimH cl K bs g S H) {vs : List V} {xs : List T} (r : RepTs K g.F true vs xs) {p : Addr} (hp : H p = none) :
    g.le ⟨upd g.F p (.tup vs), g.L, g.ρ⟩ ∧ SimH cl K bs ⟨upd g.F p (.tup vs), g.L, g.ρ⟩ S (upd H p (.tup vs)) ∧ Rep K ⟨upd g.F p (.tup vs), g.L, g.ρ⟩ (.ref p) (.t (.tuple xs)) := by
  obtain ⟨l, m'⟩ := m.fro hp (.tup vs)
  exact ⟨l, m', .t (.tup (SqT.of upd_same) (fun _ => upd_same) (r.mono l.F))⟩
theorem SimH.lstT (m : SimH cl K bs g S H) {vs : List V} {xs : List T} (r : RepTs K g.F true vs xs) {p : Addr} (hp : H p = none) :
    g.le ⟨upd g.F p (.lst vs), g.L, g.ρ⟩ ∧ SimH cl K bs ⟨upd g.F p (.lst vs), g.L, g.ρ⟩ S (upd H p (.lst vs)) ∧ Rep K ⟨upd g.F p (.lst vs), g.L, g.ρ⟩ (.ref p) (.t (.list xs)) := by
  obtain ⟨l, m'⟩ := m.fro hp (.lst vs)
  exact ⟨l, m', .t (.lst (SqL.of upd_same) (fun _ => upd_same) (r.mono l.F))⟩
/-- .. of anything -/
theorem SimH.tupD (m : SimH cl K bs g S H) {vs : List V} {ds : List D} (r : Reps K g vs ds) {p : Addr} (hp : H p = none) :
    g.le ⟨upd g.F p (.tup vs), g.L, g.ρ⟩ ∧ SimH cl K bs ⟨upd g.F p (.tup vs), g.L, g.ρ⟩ S (upd H p (.tup vs)) ∧ Rep K ⟨upd g.F p (.tup vs), g.L, g.ρ⟩ (.ref p) (mkTup ds) := by
  unfold mkTup
  cases e : allT ds with
  | some xs =>
    have := allT_eq e
    subst this
    exact m.tupT r.trees hp
  | none =>
    obtain ⟨l, m'⟩ := m.fro hp (.tup vs)
    exact ⟨l, m', .mix (SqT.of upd_same) (r.mono l)⟩
end trees

/-! ### the operations -/
section ops
variable {X : Cx} {cl : List Addr} {bs : List Nat}
/-- two values in, one out -/
def rB (cl : List Addr) (K : PySem.W.Frag) (bs : List Nat) (f : Store → D → D → Option D) : R2 := fun x y H Q => ∃ g S u v d, SimH cl K bs g S H ∧ Rep K g x u ∧ Rep K g y v ∧ f S u v = some d ∧
  ∀ g' H' z, g.le g' → SimH cl K bs g' S H' → Rep K g' z d → Q z H'
theorem guardB_some {α : Type} {b : Bool} {a c : α} (h : guardB b a = some c) : b = true ∧ a = c := by
  unfold guardB at h
  split at h
  · rename_i hb; exact ⟨hb, Option.some.inj h⟩
  · cases h
theorem op_cmpT (hr : X.A.units + 200 < cLine) (op : CmpOp) (hop : op = .Eq ∨ op = .NotEq ∨ op = .Lt ∨ op = .Gt ∨ op = .LtE ∨ op = .GtE) :
    OpR X (compareOp op) (fun x y H Q => ∃ a b k, RepT X.K H false x a ∧ RepT X.K H false y b ∧ cmpT op a b = some k ∧ Q (.bl k) H) := by
  intro pins s σ H x y v u Q I rx ry ⟨a, b, k, ra, rb, e, q⟩
  have fin : EP X pins σ Q (.bool k) s := ⟨.bl k, H, I, rfl, q⟩
  have eqs : cmpOk a b = true → (∃ as bs', Reads s.heap v a as ∧ Reads s.heap u b bs' ∧ a.plain = true ∧ b.plain = true ∧ X.A.units + min a.depth b.depth < cLine) := fun h => by
    unfold cmpOk at h
    simp only [Bool.and_eq_true, decide_eq_true_eq] at h
    obtain ⟨as, r1⟩ := ra.reads I h.1.1 rx
    obtain ⟨bs', r2⟩ := rb.reads I h.1.2 ry
    exact ⟨as, bs', r1, r2, h.1.1, h.1.2, by omega⟩
  have ords : ordOk a b = true → (∃ as bs', Reads s.heap v a as ∧ Reads s.heap u b bs' ∧ PySem.W.alike a b = true ∧ a ≠ .none ∧ X.A.units + min a.depth b.depth < cLine) := fun h => by
    unfold ordOk at h
    simp only [Bool.and_eq_true, decide_eq_true_eq] at h
    obtain ⟨as, r1⟩ := ra.reads I h.1.1.1.2 rx
    obtain ⟨bs', r2⟩ := rb.reads I h.1.1.2 ry
    exact ⟨as, bs', r1, r2, h.1.1.1.1, (fun z => by subst z; simp at h), by omega⟩
  rcases hop with rfl | rfl | rfl | rfl | rfl | rfl <;> obtain ⟨h, rfl⟩ := guardB_some e
  · obtain ⟨as, bs', r1, r2, p1, p2, hu⟩ := eqs h
    exact PySem.SeqAt.eq_plain r1 r2 p1 p2 hu fin
  · obtain ⟨as, bs', r1, r2, p1, p2, hu⟩ := eqs h
    exact PySem.SeqAt.ne_plain r1 r2 p1 p2 hu fin
  · obtain ⟨as, bs', r1, r2, p1, p2, hu⟩ := ords h
    exact PySem.W.lt_data r1 r2 p1 p2 hu fin
  · obtain ⟨as, bs', r1, r2, p1, p2, hu⟩ := ords h
    exact PySem.W.gt_data r1 r2 p1 p2 hu fin
  · obtain ⟨as, bs', r1, r2, p1, p2, hu⟩ := ords h
    exact PySem.W.le_data r1 r2 p1 p2 hu fin
  · obtain ⟨as, bs', r1, r2, p1, p2, hu⟩ := ords h
    exact PySem.W.ge_data r1 r2 p1 p2 hu fin
theorem op_inT (hr : X.A.units + 200 < cLine) :
    OpR X (compareOp .In) (fun x y H Q => ∃ a b k, RepT X.K H false x a ∧ RepT X.K H false y b ∧ isIn a b = some k ∧ Q (.bl k) H) ∧
    OpR X (compareOp .NotIn) (fun x y H Q => ∃ a b k, RepT X.K H false x a ∧ RepT X.K H false y b ∧ isIn a b = some k ∧ Q (.bl (!k)) H) := by
  have key : ∀ (pins : List (Addr × Obj)) (s : Shared) (σ : L2.St) (H : Hp) (x y : V) (v u : Value) (a b : T) (k : Bool), Inv X pins σ H s → RelV x v → RelV y u → RepT X.K H false x a → RepT X.K H false y b → isIn a b = some k → (∀ z, b ≠ .str z) →
      ∃ xs as bs', (Reads s.heap u (.list xs) bs' ∨ Reads s.heap u (.tuple xs) bs') ∧ Reads s.heap v a as ∧ PyData.plainAll xs = true ∧ a.plain = true ∧ X.A.units + 1 + min (PyData.depthAll xs) a.depth < cLine ∧ k = xs.any fun z => PyData.eqv z a := by
    intro pins s σ H x y v u a b k I rx ry ra rb e hs
    cases b with
    | str z => exact absurd rfl (hs z)
    | list ys =>
      obtain ⟨h, rfl⟩ := guardB_some e
      simp only [Bool.and_eq_true, decide_eq_true_eq] at h
      obtain ⟨as, r1⟩ := ra.reads I h.1.1 rx
      obtain ⟨bs', r2⟩ := rb.reads I (by simpa [PyData.plain] using h.1.2) ry
      exact ⟨ys, as, bs', .inl r2, r1, h.1.2, h.1.1, by omega, rfl⟩
    | tuple ys =>
      obtain ⟨h, rfl⟩ := guardB_some e
      simp only [Bool.and_eq_true, decide_eq_true_eq] at h
      obtain ⟨as, r1⟩ := ra.reads I h.1.1 rx
      obtain ⟨bs', r2⟩ := rb.reads I (by simpa [PyData.plain] using h.1.2) ry
      exact ⟨ys, as, bs', .inr r2, r1, h.1.2, h.1.1, by omega, rfl⟩
    | _ => cases e
  have texts : ∀ (a b : T) (k : Bool), isIn a b = some k → (∀ z, b ≠ .str z) ∨ ∃ z y, b = .str z ∧ a = .str y ∧ k = !(Builtin.Str.occurrences z y 0 z.length 1).isEmpty := by
    intro a b k e
    cases b with
    | str z =>
      cases a with
      | str y => cases e; exact .inr ⟨z, y, rfl, rfl, rfl⟩
      | _ => cases e
    | _ => exact .inl fun z h => by cases h
  constructor
  · intro pins s σ H x y v u Q I rx ry ⟨a, b, k, ra, rb, e, q⟩
    rcases texts a b k e with ht | ⟨z, y', rfl, rfl, rfl⟩
    · obtain ⟨xs, as, bs', rc, rv, p1, p2, hu, rfl⟩ := key pins s σ H x y v u a b k I rx ry ra rb e ht
      rcases rc with rc | rc
      · exact PySem.SeqAt.in_list_data rc rv p1 p2 hu ⟨.bl _, H, I, rfl, q⟩
      · exact PySem.SeqAt.in_tuple_data rc rv p1 p2 hu ⟨.bl _, H, I, rfl, q⟩
    · exact op_in_str pins s σ H x y v u Q I rx ry ⟨_, _, ra.str_inv, rb.str_inv, q⟩
  · intro pins s σ H x y v u Q I rx ry ⟨a, b, k, ra, rb, e, q⟩
    rcases texts a b k e with ht | ⟨z, y', rfl, rfl, rfl⟩
    · obtain ⟨xs, as, bs', rc, rv, p1, p2, hu, rfl⟩ := key pins s σ H x y v u a b k I rx ry ra rb e ht
      rcases rc with rc | rc
      · exact PySem.SeqAt.notIn_list_data rc rv p1 p2 hu ⟨.bl _, H, I, rfl, q⟩
      · exact PySem.SeqAt.notIn_tuple_data rc rv p1 p2 hu ⟨.bl _, H, I, rfl, q⟩
    · exact op_notin_str pins s σ H x y v u Q I rx ry ⟨_, _, ra.str_inv, rb.str_inv, q⟩
theorem rep_ne_non {F : Hp} {st : Bool} {v : V} {x : T} (r : RepT X.K F st v x) (h : v = .non) : x = .none := by
  subst h
  cases r
  rfl
theorem op_isT : OpR X (compareOp .Is) (fun x y H Q => ∃ a b k, RepT X.K H false x a ∧ RepT X.K H false y b ∧ isT a b = some k ∧ Q (.bl k) H) ∧
    OpR X (compareOp .IsNot) (fun x y H Q => ∃ a b k, RepT X.K H false x a ∧ RepT X.K H false y b ∧ isT a b = some k ∧ Q (.bl (!k)) H) := by
  have key : ∀ (H : Hp) (x y : V) (a b : T) (k : Bool), RepT X.K H false x a → RepT X.K H false y b → isT a b = some k → (y = .non ∧ k = decide (x = .non)) ∨ ∃ p q, x = .bl p ∧ y = .bl q ∧ k = decide (p = q) := by
    intro H x y a b k ra rb e
    cases b with
    | none =>
      have hy := rb.none_inv
      cases a <;> first | (cases e; obtain rfl := ra.none_inv; exact .inl ⟨hy, rfl⟩) | (cases e; exact .inl ⟨hy, (decide_eq_false fun z => by have := rep_ne_non ra z; cases this).symm⟩)
    | bool q =>
      cases a <;> try cases e
      exact .inr ⟨_, _, ra.bool_inv, rb.bool_inv, rfl⟩
    | int _ => cases a <;> cases e
    | str _ => cases a <;> cases e
    | list _ => cases a <;> cases e
    | tuple _ => cases a <;> cases e
    | dict _ => cases a <;> cases e
  constructor
  · intro pins s σ H x y v u Q I rx ry ⟨a, b, k, ra, rb, e, q⟩
    rcases key H x y a b k ra rb e with ⟨h1, rfl⟩ | ⟨p, r, h1, h2, rfl⟩
    · exact op_isN pins s σ H x y v u Q I rx ry ⟨h1, q⟩
    · exact op_isBl pins s σ H x y v u Q I rx ry ⟨p, r, h1, h2, q⟩
  · intro pins s σ H x y v u Q I rx ry ⟨a, b, k, ra, rb, e, q⟩
    rcases key H x y a b k ra rb e with ⟨h1, rfl⟩ | ⟨p, r, h1, h2, rfl⟩
    · exact op_notN pins s σ H x y v u Q I rx ry ⟨h1, q⟩
    · exact op_notBl pins s σ H x y v u Q I rx ry ⟨p, r, h1, h2, q⟩
/-- keys -/
theorem keyK_rep {F : Hp} {st : Bool} {v : V} {x : T} {k : Key} (r : RepT X.K F st v x) (e : keyK x = some k) : v = kV k := by
  cases x <;> cases e
  · exact r.int_inv
  · exact r.str_inv
theorem keyAll_rep {K : PySem.W.Frag} {F : Hp} {st : Bool} : ∀ {vs : List V} {xs : List T} {ks : List Key}, RepTs K F st vs xs → keyAll xs = some ks → vs = ks.map kV
  | _, _, ks, .nil, e => by cases e; rfl
  | _, _, ks, .cons (x := x) (xs := xs) r t, e => by
    unfold keyAll at e
    cases e1 : keyK x with
    | none => rw [e1] at e; cases e
    | some k =>
      cases e2 : keyAll xs with
      | none => rw [e1, e2] at e; cases e
      | some l =>
        rw [e1, e2] at e
        cases e
        rw [List.map_cons, keyAll_rep t e2]
        congr 1
        cases x <;> cases e1
        · exact r.int_inv
        · exact r.str_inv
theorem keyT_rep {K : PySem.W.Frag} {F : Hp} {v : V} {x : T} {ks : List Key} (r : RepT K F true v x) (e : keyT x = some ks) : ∃ a, v = .ref a ∧ F a = some (.tup (ks.map kV)) := by
  cases x <;> try cases e
  obtain ⟨a, vs, rfl, _, h, rs⟩ := r.tuple_inv
  have e : keyAll _ = some ks := e
  exact ⟨a, rfl, by rw [h rfl, keyAll_rep rs e]⟩
theorem look_valV {κ : Type} [DecidableEq κ] {K : PySem.W.Frag} {g : G} : ∀ {kvs' : List (κ × V)} {kvs : List (κ × D)} (k : κ), kvs'.map (·.1) = kvs.map (·.1) → Reps K g (kvs'.map (·.2)) (kvs.map (·.2)) →
    (look kvs k = none ∧ valV kvs' k = none) ∨ ∃ d v, look kvs k = some d ∧ valV kvs' k = some v ∧ Rep K g v d
  | [], [], k, _, _ => .inl ⟨rfl, rfl⟩
  | [], _ :: _, k, e, _ => by simp at e
  | _ :: _, [], k, e, _ => by simp at e
  | (a, v) :: r, (c, d) :: t, k, e, h => by
    simp only [List.map_cons, List.cons.injEq] at e h
    obtain ⟨e1, e2⟩ := e
    have e1 : a = c := e1
    subst e1
    cases h with
    | cons h1 h2 =>
      unfold look valV
      by_cases hk : a = k
      · refine .inr ⟨d, v, ?_, ?_, h1⟩
        · rw [List.find?_cons_of_pos (by simp [hk])]
          rfl
        · rw [List.find?_cons_of_pos (by simp [hk])]
          rfl
      · rw [List.find?_cons_of_neg (by simp [hk]), List.find?_cons_of_neg (by simp [hk])]
        exact look_valV k e2 h2
theorem keyK_D (k : Key) : keyK (keyD k) = some k := by cases k <;> rfl
theorem lookK_valV {K : PySem.W.Frag} {F : Hp} {st : Bool} : ∀ {kvs : List (Key × V)} {xs : List (T × T)} (k : Key), xs.map (·.1) = kvs.map (fun p => keyD p.1) → RepTs K F st (kvs.map (·.2)) (xs.map (·.2)) →
    (lookK xs k = none ∧ valV kvs k = none) ∨ ∃ d v, lookK xs k = some d ∧ valV kvs k = some v ∧ RepT K F st v d
  | [], [], k, _, _ => .inl ⟨rfl, rfl⟩
  | [], _ :: _, k, e, _ => by simp at e
  | _ :: _, [], k, e, _ => by simp at e
  | (a, v) :: r, (c, d) :: t, k, e, h => by
    simp only [List.map_cons, List.cons.injEq] at e h
    obtain ⟨e1, e2⟩ := e
    have e1 : c = keyD a := e1
    subst e1
    cases h with
    | cons h1 h2 =>
      unfold lookK valV
      by_cases hk : a = k
      · refine .inr ⟨d, v, ?_, ?_, h1⟩
        · rw [List.find?_cons_of_pos (by simp [keyK_D, hk])]
          rfl
        · rw [List.find?_cons_of_pos (by simp [hk])]
          rfl
      · rw [List.find?_cons_of_neg (by simp [keyK_D, hk]), List.find?_cons_of_neg (by simp [hk])]
        exact lookK_valV k e2 h2
/-- what a dict answers -/
theorem getC_ok {g : G} {S : Store} {H : Hp} (m : SimH cl X.K bs g S H) {y z : V} {d : D} {x : T} {o : Option D} (ry : Rep X.K g y d) (rz : RepT X.K g.F true z x) (e : getC S d x = some o) :
    ∃ a r, y = .ref a ∧ DGet H a z r ∧ ((o = none ∧ r = none) ∨ ∃ d v, o = some d ∧ r = some v ∧ Rep X.K g v d) := by
  unfold getC at e
  cases ry with
  | @t _ q r0 =>
    cases r0 with
    | dK s e1 e2 =>
      rename_i a kvs xs
      cases hk : keyK x with
      | none => rw [hk] at e; cases e
      | some k =>
        rw [hk] at e
        cases e
        have hz := keyK_rep rz hk
        subst hz
        refine ⟨a, valV kvs k, rfl, .inl ⟨kvs, k, Rd.mono m.le s, rfl, rfl⟩, ?_⟩
        rcases lookK_valV k e1 e2 with ⟨q1, q2⟩ | ⟨d, v, q1, q2, q3⟩
        · exact .inl ⟨by show (lookK xs k).map D.t = none; rw [q1]; rfl, q2⟩
        · exact .inr ⟨.t d, v, by show (lookK xs k).map D.t = _; rw [q1]; rfl, q2, .t q3⟩
    | _ => cases e
  | k _ => cases e
  | mix _ _ => cases e
  | @ref n a h =>
    simp only at e
    split at e
    · rename_i kvs hs
      obtain ⟨_, kvs', ho, e1, e2⟩ := m.cel n _ a hs h rfl
      cases hk : keyK x with
      | none => rw [hk] at e; cases e
      | some k =>
        rw [hk] at e
        cases e
        have hz := keyK_rep rz hk
        subst hz
        refine ⟨a, _, rfl, DGet.k ho, ?_⟩
        rcases look_valV k e1 e2 with ⟨q1, q2⟩ | ⟨d, v, q1, q2, q3⟩
        · exact .inl ⟨q1, q2⟩
        · exact .inr ⟨d, v, q1, q2, q3⟩
    · rename_i kvs hs
      obtain ⟨_, kvs', ho, e1, e2⟩ := m.cel n _ a hs h rfl
      cases hk : keyT x with
      | none => rw [hk] at e; cases e
      | some k =>
        rw [hk] at e
        cases e
        obtain ⟨b, rfl, hb⟩ := keyT_rep rz hk
        refine ⟨a, _, rfl, DGet.t ho (m.le _ _ hb), ?_⟩
        rcases look_valV k e1 e2 with ⟨q1, q2⟩ | ⟨d, v, q1, q2, q3⟩
        · exact .inl ⟨q1, q2⟩
        · exact .inr ⟨d, v, q1, q2, q3⟩
    · cases e
theorem op_cmpD (hr : X.A.units + 200 < cLine) (op : CmpOp) : OpR X (compareOp op) (rB cl X.K bs fun S u v => (cmpD op S u v).map fun k => .t (.bool k)) := by
  intro pins s σ H x y v u Q I rx ry ⟨g, S, p, q, d, m, rp, rq, e, w⟩
  have e : (cmpD op S p q).map (fun k => D.t (.bool k)) = some d := e
  cases ek : cmpD op S p q with
  | none => rw [ek] at e; cases e
  | some k =>
    rw [ek] at e
    cases e
    have fin : Q (.bl k) H := w g H (.bl k) (.refl g) m (.t (.bl k))
    unfold cmpD at ek
    split at ek
    · split at ek
      · rename_i a
        cases eg : getC S q a with
        | none => rw [eg] at ek; cases ek
        | some o =>
          rw [eg] at ek
          cases ek
          cases rp with
          | t rz =>
            obtain ⟨b, r, rfl, hg, ho⟩ := getC_ok m rq rz eg
            have er : o.isSome = r.isSome := by
              rcases ho with ⟨h1, h2⟩ | ⟨_, _, h1, h2, _⟩ <;> rw [h1, h2] <;> rfl
            cases ry
            exact d_in (by omega) I hg rx fun s' I' => ⟨.bl r.isSome, H, I', rfl, by rw [← er]; exact fin⟩
      · rename_i a
        cases eg : getC S q a with
        | none => rw [eg] at ek; cases ek
        | some o =>
          rw [eg] at ek
          cases ek
          cases rp with
          | t rz =>
            obtain ⟨b, r, rfl, hg, ho⟩ := getC_ok m rq rz eg
            have er : o.isSome = r.isSome := by
              rcases ho with ⟨h1, h2⟩ | ⟨_, _, h1, h2, _⟩ <;> rw [h1, h2] <;> rfl
            cases ry
            exact d_notIn (by omega) I hg rx fun s' I' => ⟨.bl (!r.isSome), H, I', rfl, by rw [← er]; exact fin⟩
      · cases ek
    · split at ek
      · rename_i a b ha hb
        have ra := rp.treeW m ha
        have rb := rq.treeW m hb
        cases op with
        | In => exact (op_inT hr).1 pins s σ H x y v u Q I rx ry ⟨a, b, k, ra, rb, ek, fin⟩
        | NotIn =>
          have ek : (isIn a b).map (!·) = some k := ek
          cases e2 : isIn a b with
          | none => rw [e2] at ek; cases ek
          | some k2 =>
            rw [e2] at ek
            cases ek
            exact (op_inT hr).2 pins s σ H x y v u Q I rx ry ⟨a, b, k2, ra, rb, e2, fin⟩
        | Is => exact op_isT.1 pins s σ H x y v u Q I rx ry ⟨a, b, k, ra, rb, ek, fin⟩
        | IsNot =>
          have ek : (isT a b).map (!·) = some k := ek
          cases e2 : isT a b with
          | none => rw [e2] at ek; cases ek
          | some k2 =>
            rw [e2] at ek
            cases ek
            exact op_isT.2 pins s σ H x y v u Q I rx ry ⟨a, b, k2, ra, rb, e2, fin⟩
        | _ => exact op_cmpT hr _ (by simp) pins s σ H x y v u Q I rx ry ⟨a, b, k, ra, rb, ek, fin⟩
      · rename_i hb
        have hy := (rq.treeW m hb).none_inv
        have hx : isRef p = true → x ≠ .non := fun z => by
          cases rp with
          | t _ => cases z
          | k _ => cases z
          | ref _ => exact fun z => nomatch z
          | mix _ _ => exact fun z => nomatch z
        split at ek
        · obtain ⟨z, rfl⟩ := guardB_some ek
          exact op_isN pins s σ H x y v u Q I rx ry ⟨hy, by rw [decide_eq_false (hx z)]; exact fin⟩
        · obtain ⟨z, rfl⟩ := guardB_some ek
          exact op_notN pins s σ H x y v u Q I rx ry ⟨hy, by rw [decide_eq_false (hx z)]; exact fin⟩
        · cases ek
      · cases ek
theorem op_fdivD : OpR X (binaryOp .FloorDiv) (rI (fun _ j => j ≠ 0 ∧ j.natAbs.log2 < 9000) fun i j => .int (i.fdiv j)) := opI fun _ _ _ _ _ _ _ hc q => floordiv_int hc.1 q (.inl (PyProof.noPylong_of_log2 hc.2))
theorem rep_scal {F : Hp} {K : PySem.W.Frag} {st : Bool} {v : V} {x : T} (r : RepT K F st v x) (h : scal x = true) : RepT K F true v x := by
  cases r with
  | non => exact .non
  | bl b => exact .bl b
  | int i => exact .int i
  | str x => exact .str x
  | _ => cases h
theorem reps_scal {F : Hp} {K : PySem.W.Frag} {st : Bool} : ∀ {vs : List V} {xs : List T}, RepTs K F st vs xs → xs.all scal = true → RepTs K F true vs xs
  | _, _, .nil, _ => .nil
  | _, _, .cons r t, h => by
    rw [List.all_cons, Bool.and_eq_true] at h
    exact .cons (rep_scal r h.1) (reps_scal t h.2)
/-- two trees in, one out (the flags of the two, of the one) -/
theorem op_binT (op : Operator) : OpR X (binaryOp op) (fun x y H Q => ∃ (g : G) (S : Store) (s1 s2 : Bool) (a b c : T), SimH cl X.K bs g S H ∧ RepT X.K g.F s1 x a ∧ RepT X.K g.F s2 y b ∧ binT op a b = some c ∧ (∀ xs, a = .list xs → s1 = true) ∧ (∀ xs, b = .list xs → s2 = true) ∧
    ∀ g' H' z, g.le g' → SimH cl X.K bs g' S H' → RepT X.K g'.F (s1 && s2) z c → Q z H') := by
  intro pins s σ H x y v u Q I rx ry ⟨g, S, s1, s2, a, b, c, m, ra, rb, e, l1, l2, w⟩
  have fin : ∀ z, RepT X.K g.F (s1 && s2) z c → Q z H := fun z => w g H z (.refl g) m
  unfold binT at e
  split at e
  · cases e
    exact op_add pins s σ H x y v u Q I rx ry ⟨_, _, ra.int_inv, rb.int_inv, fin _ (.int _)⟩
  · obtain ⟨h, rfl⟩ := guardB_some e
    exact op_add_str pins s σ H x y v u Q I rx ry ⟨_, _, ra.str_inv, rb.str_inv, of_decide_eq_true h, fin _ (.str _)⟩
  · rename_i xs ys
    obtain ⟨h, rfl⟩ := guardB_some e
    obtain ⟨p, vs, rfl, hs, he, hr⟩ := ra.tuple_inv
    obtain ⟨q, ws, rfl, ks, ke, kr⟩ := rb.tuple_inv
    have both : RepTs X.K g.F (s1 && s2) (vs ++ ws) (xs ++ ys) := by
      cases s1 <;> cases s2
      · exact hr.append kr
      · exact hr.append kr.weak
      · exact hr.weak.append kr
      · exact hr.append kr
    have h1 := hr.length
    have h2 := kr.length
    refine op_catA pins s σ H _ _ v u Q I rx ry ⟨p, q, vs, ws, rfl, rfl, SqT.mono m.le hs, SqT.mono m.le ks, by rw [h1, h2]; exact of_decide_eq_true h, fun z => ?_, fun _ z => ?_, fun _ _ d hd => ?_⟩
    · subst z
      refine fin _ (.tup ks (fun z => ke (by cases s1 <;> cases s2 <;> first | rfl | cases z)) ?_)
      exact both
    · subst z
      refine fin _ (.tup hs (fun z => he (by cases s1 <;> cases s2 <;> first | rfl | cases z)) ?_)
      rw [List.append_nil] at both
      exact both
    · obtain ⟨l, m'⟩ := m.fro hd (.tup (vs ++ ws))
      exact w _ _ _ l m' (.tup (SqT.of upd_same) (fun _ => upd_same) (both.mono l.F))
  · rename_i xs ys
    obtain ⟨h, rfl⟩ := guardB_some e
    have e1 := l1 _ rfl
    have e2 := l2 _ rfl
    subst e1 e2
    obtain ⟨p, vs, rfl, hs, he, hr⟩ := ra.list_inv
    obtain ⟨q, ws, rfl, ks, ke, kr⟩ := rb.list_inv
    have h1 := hr.length
    have h2 := kr.length
    refine op_cat pins s σ H _ _ v u Q I rx ry ⟨p, q, vs, ws, rfl, rfl, m.le _ _ (he rfl), m.le _ _ (ke rfl), by rw [h1, h2]; exact of_decide_eq_true h, fun d hd => ?_⟩
    obtain ⟨l, m'⟩ := m.fro hd (.lst (vs ++ ws))
    exact w _ _ _ l m' (.lst (SqL.of upd_same) (fun _ => upd_same) ((hr.append kr).mono l.F))
  · cases e
    exact op_sub pins s σ H x y v u Q I rx ry ⟨_, _, ra.int_inv, rb.int_inv, fin _ (.int _)⟩
  · obtain ⟨h, rfl⟩ := guardB_some e
    exact op_mulW pins s σ H x y v u Q I rx ry ⟨_, _, ra.int_inv, rb.int_inv, (show _ + _ < _ from of_decide_eq_true h), fin _ (.int _)⟩
  · obtain ⟨h, rfl⟩ := guardB_some e
    simp only [Bool.and_eq_true, decide_eq_true_eq] at h
    exact op_fdivD pins s σ H x y v u Q I rx ry ⟨_, _, ra.int_inv, rb.int_inv, h, fin _ (.int _)⟩
  · obtain ⟨h, rfl⟩ := guardB_some e
    exact op_modN pins s σ H x y v u Q I rx ry ⟨_, _, ra.int_inv, rb.int_inv, of_decide_eq_true h, fin _ (.int _)⟩
  · obtain ⟨h, rfl⟩ := guardB_some e
    simp only [Bool.and_eq_true, decide_eq_true_eq] at h
    exact op_pow pins s σ H x y v u Q I rx ry ⟨_, _, ra.int_inv, rb.int_inv, ⟨h.1.1, h.1.2, h.2⟩, fin _ (.int _)⟩
  · obtain ⟨h, rfl⟩ := guardB_some e
    simp only [Bool.and_eq_true, decide_eq_true_eq] at h
    exact op_shl pins s σ H x y v u Q I rx ry ⟨_, _, ra.int_inv, rb.int_inv, ⟨h.1.1, h.1.2, h.2⟩, fin _ (.int _)⟩
  · obtain ⟨h, rfl⟩ := guardB_some e
    exact op_shr pins s σ H x y v u Q I rx ry ⟨_, _, ra.int_inv, rb.int_inv, of_decide_eq_true h, fin _ (.int _)⟩
  · rename_i xs k
    obtain ⟨h, rfl⟩ := guardB_some e
    simp only [Bool.and_eq_true, decide_eq_true_eq] at h
    obtain ⟨p, vs, rfl, hs, he, hr⟩ := ra.tuple_inv
    have hl := hr.length
    have rr : ∀ {F : Hp} {st : Bool} {vs : List V} {xs : List T}, RepTs X.K F st vs xs → ∀ m, RepTs X.K F st (List.replicate m vs).flatten (List.replicate m xs).flatten := by
      intro F st vs xs r m
      induction m with
      | zero => exact .nil
      | succ m ih => exact r.append ih
    have wk : RepTs X.K g.F (s1 && s2) vs xs := by
      cases s1 <;> cases s2 <;> first | exact hr | exact hr.weak
    refine op_repAny pins s σ H _ _ v u Q I rx ry ⟨p, k, vs, rfl, rb.int_inv, SqT.mono m.le hs, h.1.1, h.1.2, by rw [hl]; exact h.2, fun z => ?_, fun z d hd => ?_⟩
    · have e1 : (List.replicate k.toNat xs).flatten = xs := by
        rcases z with rfl | rfl
        · have : xs = [] := List.eq_nil_of_length_eq_zero hl.symm
          subst this
          simp
        · simp
      rw [e1] at fin
      exact fin _ (.tup hs (fun z => he (by cases s1 <;> cases s2 <;> first | rfl | cases z)) wk)
    · obtain ⟨l, m'⟩ := m.fro hd (.tup (List.replicate k.toNat vs).flatten)
      exact w _ _ _ l m' (.tup (SqT.of upd_same) (fun _ => upd_same) ((rr wk k.toNat).mono l.F))
  · cases e
theorem RepT.d {K : PySem.W.Frag} {g : G} {st : Bool} {v : V} {x : T} (r : RepT K g.F st v x) : Rep K g v (if st = true then .t x else kD x) := by
  cases st with
  | true => exact .t r
  | false => exact r.up
/-- a list of trees, tracked -/
theorem Rep.lstT {K : PySem.W.Frag} {g : G} {S : Store} {H : Hp} (m : SimH cl K bs g S H) {v : V} {d : D} (r : Rep K g v d) {xs : List T} (e : lstOf S d = some xs) : ∃ a vs, v = .ref a ∧ H a = some (.lst vs) ∧ RepTs K g.F true vs xs := by
  unfold lstOf at e
  cases r with
  | @t _ q r0 =>
    cases r0 with
    | lst s h r =>
      cases e
      exact ⟨_, _, rfl, m.le _ _ (h rfl), r⟩
    | _ => cases e
  | k _ => cases e
  | mix _ _ => cases e
  | @ref n a h =>
    simp only at e
    split at e
    · rename_i ds hs
      obtain ⟨_, vs, ho, rs⟩ := m.cel n _ a hs h rfl
      have := allT_eq e
      subst this
      exact ⟨a, vs, rfl, ho, rs.trees⟩
    · cases e
theorem op_binD (op : Operator) : OpR X (binaryOp op) (rB cl X.K bs (binD op)) := by
  intro pins s σ H x y v u Q I rx ry ⟨g, S, p, q, d, m, rp, rq, e, w⟩
  have notL : ∀ {a b : T} {z : Option D}, (if (isL a || isL b) = true then none else z) = some d → (∀ xs, a ≠ .list xs) ∧ (∀ xs, b ≠ .list xs) ∧ z = some d := fun {a b z} h => by
    split at h
    · cases h
    · rename_i hn
      refine ⟨fun xs z => hn (by subst z; rfl), fun xs z => hn (by subst z; simp [isL]), h⟩
  have go : ∀ (s1 s2 : Bool) (a b : T), RepT X.K g.F s1 x a → RepT X.K g.F s2 y b → (∀ xs, a = .list xs → s1 = true) → (∀ xs, b = .list xs → s2 = true) → (binT op a b).map (fun c => if (s1 && s2) = true then .t c else kD c) = some d →
      wpAny (model X.prog X.w) X.A (binaryOp op v u) (EP X pins σ Q) X.xe s := fun s1 s2 a b ra rb l1 l2 h => by
    cases ec : binT op a b with
    | none => rw [ec] at h; cases h
    | some c =>
      rw [ec] at h
      cases h
      exact op_binT op pins s σ H x y v u Q I rx ry ⟨g, S, s1, s2, a, b, c, m, ra, rb, ec, l1, l2, fun g' H' z l m' r => w g' H' z l m' r.d⟩
  have ls : ∀ a b : List T, lstOf S p = some a → lstOf S q = some b → (binT op (.list a) (.list b)).map D.t = some d → wpAny (model X.prog X.w) X.A (binaryOp op v u) (EP X pins σ Q) X.xe s := fun a b ha hb h => by
    obtain ⟨pa, vs, rfl, h1, h2⟩ := rp.lstT m ha
    obtain ⟨pb, ws, rfl, k1, k2⟩ := rq.lstT m hb
    cases op with
    | Add =>
      have h : (guardB (decide (a.length + b.length ≤ sizeLine)) (PyData.list (a ++ b))).map D.t = some d := h
      unfold guardB at h
      split at h
      · rename_i hl
        cases h
        have g1 := h2.length
        have g2 := k2.length
        refine op_cat pins s σ H _ _ v u Q I rx ry ⟨pa, pb, vs, ws, rfl, rfl, h1, k1, by rw [g1, g2]; exact of_decide_eq_true hl, fun z hz => ?_⟩
        obtain ⟨l, m', r'⟩ := m.lstT (h2.append k2) hz
        exact w _ _ _ l m' r'
      · cases h
    | _ => cases h
  unfold binD at e
  split at e
  · cases rp with
    | t ra =>
      cases rq with
      | t rb => exact go true true _ _ ra rb (fun _ _ => rfl) (fun _ _ => rfl) e
  · obtain ⟨n1, n2, e⟩ := notL e
    cases rp with
    | k ra =>
      cases rq with
      | t rb => exact go false true _ _ ra rb (fun xs z => (n1 xs z).elim) (fun _ _ => rfl) e
  · obtain ⟨n1, n2, e⟩ := notL e
    cases rp with
    | t ra =>
      cases rq with
      | k rb => exact go true false _ _ ra rb (fun _ _ => rfl) (fun xs z => (n2 xs z).elim) e
  · obtain ⟨n1, n2, e⟩ := notL e
    cases rp with
    | k ra =>
      cases rq with
      | k rb => exact go false false _ _ ra rb (fun xs z => (n1 xs z).elim) (fun xs z => (n2 xs z).elim) e
  · split at e
    · rename_i a b ha hb
      exact ls a b ha hb e
    · cases e
/-! ### truth, items, lengths -/
theorem truth_ok {g : G} {S : Store} {H : Hp} (m : SimH cl X.K bs g S H) {v : V} {d : D} (r : Rep X.K g v d) {k : Bool} (e : truthD S d = some k) : TruV X.K v H k := by
  have tt : ∀ {st : Bool} {x : T}, RepT X.K g.F st v x → truthT x = some k → TruV X.K v H k := fun {st x} r e => by
    cases r with
    | non => cases e; rfl
    | bl b => cases e; rfl
    | int i => cases e; rfl
    | str z =>
      have e : (if z.length ≤ sizeLine then some ((z.length : Int) != 0) else none) = some k := e
      split at e
      · rename_i h
        cases e
        exact ⟨h, rfl⟩
      · cases e
    | @tup a vs xs s h hr =>
      cases e
      have := hr.length
      exact .inr (.inl ⟨vs, SqT.mono m.le s, by cases vs <;> cases xs <;> first | rfl | cases this⟩)
    | @lst a vs xs s h hr =>
      cases e
      have := hr.length
      exact .inl ⟨vs, SqL.mono m.le s, by cases vs <;> cases xs <;> first | rfl | cases this⟩
    | dK _ _ _ => cases e
  cases r with
  | t r => exact tt r e
  | k r => exact tt r e
  | @ref n a h =>
    have e : (match S[n]? with | some (.lst ds) => some (!ds.isEmpty) | _ => none) = some k := e
    split at e
    · rename_i ds hs
      cases e
      obtain ⟨_, vs, ho, rs⟩ := m.cel n _ a hs h rfl
      have := rs.length
      exact .inl ⟨vs, SqL.of ho, by cases vs <;> cases ds <;> first | rfl | cases this⟩
    · cases e
  | @mix a vs ds s rs =>
    cases e
    have := rs.length
    exact .inr (.inl ⟨vs, SqT.mono m.le s, by cases vs <;> cases ds <;> first | rfl | cases this⟩)
theorem ixN_len {n : Nat} {i : Int} {j : Nat} (h : ixN n i = some j) : j < n := (ixN_seq h).2.1
theorem atI_rep {g : G} {α : Type} {R : V → α → Prop} {vs : List V} {xs : List α} (hl : vs.length = xs.length) (hg : ∀ (i : Nat) x, xs[i]? = some x → ∃ v, vs[i]? = some v ∧ R v x) {i : Int} {x : α} (e : atI xs i = some x) : ∃ v, atI vs i = some v ∧ R v x := by
  unfold atI at e ⊢
  rw [hl]
  cases h : ixN xs.length i with
  | none => rw [h] at e; cases e
  | some j =>
    rw [h] at e
    exact hg j x e
def rIxD (K : PySem.W.Frag) : R2 := fun x y H Q => ∃ a v, x = .ref a ∧ DGet H a y (some v) ∧ Q v H
theorem ix_dict (hu : X.A.units + 1 < cLine) : IxR X (rIxD X.K) := by
  intro value slice pins s σ H x y v u Q I rx ry ⟨a, z, e, hg, q⟩ hs
  subst e
  cases rx
  have ty := dict_typeIs I hg
  have run : wpAny (model X.prog X.w) X.A (getItem (.ref a) u) (EP X pins σ Q) X.xe s := d_getItem hu I hg ry fun w' s3 I3 rw' => ⟨z, H, I3, rw', q⟩
  have fin : wpAny (model X.prog X.w) X.A (subscripted slice false (.ref a) u) (fun r s₃ => wpAny (model X.prog X.w) X.A (letTemporaryGo value (.ref a) r >>= fun _ => pure r) (EP X pins σ Q) X.xe s₃) X.xe s := by
    rw [hs]
    exact wpAny_operating (thn run fun r s3 h3 => wpAny_bind (wpAny_letTemporaryGo (wpAny_pure h3)))
  unfold subscriptTail
  refine wpAny_bind ?_
  rw [getitemInPython_of_ne ty.not_modules]
  refine wpAny_bind (wpAny_specialOf ty PySem.F.slot_dict_getitem.lookup ?_)
  exact wpAny_pure (wpAny_bind fin)
theorem rep_cut {K : PySem.W.Frag} {F : Hp} {st : Bool} {vs : List V} {xs : List T} (r : RepTs K F st vs xs) (lo hi : Option Int) : RepTs K F st (cutV vs lo hi) (cutT xs lo hi) := by
  unfold cutV cutT
  rw [r.length]
  exact (r.drop _).take _
theorem ix_D (hu : X.A.units + 1 < cLine) : IxR X (rB cl X.K bs idxD) := by
  intro value slice pins s σ H x y v u Q I rx ry ⟨g, S, p, q, d, m, rp, rq, e, w⟩ hs
  have tt : ∀ {st : Bool} {a i : T} {c : T}, RepT X.K g.F st x a → RepT X.K g.F true y i → idxT a i = some c → (∀ z, RepT X.K g.F st z c → Q z H) → wpAny (model X.prog X.w) X.A (subscriptTail value slice v u) (EP X pins σ Q) X.xe s := fun {st a i c} ra ri h w => by
    unfold idxT at h
    split at h
    · obtain ⟨b, vs, rfl, hb, _, hr⟩ := ra.list_inv
      obtain ⟨z, h1, h2⟩ := atI_rep (g := g) hr.length (fun i x e => hr.get e) h
      exact ix_list value slice pins s σ H _ _ v u Q I rx ry ⟨b, vs, _, z, rfl, ri.int_inv, SqL.mono m.le hb, h1, w z h2⟩ hs
    · obtain ⟨b, vs, rfl, hb, _, hr⟩ := ra.tuple_inv
      obtain ⟨z, h1, h2⟩ := atI_rep (g := g) hr.length (fun i x e => hr.get e) h
      exact ix_tup value slice pins s σ H _ _ v u Q I rx ry ⟨b, vs, _, z, rfl, ri.int_inv, SqT.mono m.le hb, h1, w z h2⟩ hs
    · split at h
      · rename_i z i hz
        cases hc : atI z.cps.toList i with
        | none => rw [hc] at h; cases h
        | some c =>
          rw [hc] at h
          cases h
          exact ix_str value slice pins s σ H _ _ v u Q I rx ry ⟨_, _, c, ra.str_inv, ri.int_inv, hz, hc, w _ (.str _)⟩ hs
      · cases h
    · cases h
  have dd : ∀ {i : T} {o : Option D} {z : D}, RepT X.K g.F true y i → getC S p i = some o → o = some z → (∀ v, Rep X.K g v z → Q v H) → wpAny (model X.prog X.w) X.A (subscriptTail value slice v u) (EP X pins σ Q) X.xe s := fun {i o z} ri h e w => by
    obtain ⟨a, r, rfl, hg, ho⟩ := getC_ok m rp ri h
    subst e
    rcases ho with ⟨h1, _⟩ | ⟨d', v', h1, h2, h3⟩
    · cases h1
    · cases h1
      subst h2
      exact ix_dict hu value slice pins s σ H _ _ v u Q I rx ry ⟨a, v', rfl, hg, w v' h3⟩ hs
  have fin : ∀ v, Rep X.K g v d → Q v H := fun v r => w g H v (.refl g) m r
  unfold idxD at e
  split at e
  · rename_i kvs k
    cases rq with
    | t ri =>
      cases hk : keyK k with
      | none => rw [hk] at e; cases e
      | some kk =>
        rw [hk] at e
        exact dd (o := (lookK kvs kk).map .t) ri (by simp [getC, hk]) e fin
  · rename_i a k _
    cases rp with
    | t ra =>
      cases rq with
      | t ri =>
        cases hc : idxT a k with
        | none => rw [hc] at e; cases e
        | some c =>
          rw [hc] at e
          cases e
          exact tt ra ri hc fun z r => fin z (.t r)
  · rename_i a k
    cases rp with
    | k ra =>
      cases rq with
      | t ri =>
        cases hc : idxT a k with
        | none => rw [hc] at e; cases e
        | some c =>
          rw [hc] at e
          cases e
          exact tt ra ri hc fun z r => fin z r.up
  · cases rp with
    | mix hs' rs =>
      cases rq with
      | t ri =>
        obtain ⟨z, h1, h2⟩ := atI_rep (g := g) rs.length (fun i x e => rs.get e) e
        exact ix_tup value slice pins s σ H _ _ v u Q I rx ry ⟨_, _, _, z, rfl, ri.int_inv, SqT.mono m.le hs', h1, fin z h2⟩ hs
  · rename_i n k
    cases rq with
    | t ri =>
      split at e
      · rename_i ds hds
        cases rp with
        | ref h =>
          obtain ⟨_, vs, ho, rs⟩ := m.cel n _ _ hds h rfl
          split at e
          · obtain ⟨z, h1, h2⟩ := atI_rep (g := g) rs.length (fun i x e => rs.get e) e
            exact ix_list value slice pins s σ H _ _ v u Q I rx ry ⟨_, _, _, z, rfl, ri.int_inv, SqL.of ho, h1, fin z h2⟩ hs
          · cases e
      · rename_i kvs hds
        cases hk : keyK k with
        | none => rw [hk] at e; cases e
        | some kk =>
          rw [hk] at e
          exact dd (o := look kvs kk) ri (by simp [getC, hds, hk]) e fin
      · rename_i kvs hds
        cases hk : keyT k with
        | none => rw [hk] at e; cases e
        | some kk =>
          rw [hk] at e
          exact dd (o := look kvs kk) ri (by simp [getC, hds, hk]) e fin
      · cases e
  · cases e
def rSlD (cl : List Addr) (K : PySem.W.Frag) (bs : List Nat) : V → Option Int → Option Int → Hp → VK → Prop := fun x lo hi H Q => ∃ g S u d, SimH cl K bs g S H ∧ Rep K g x u ∧ slcD S u lo hi = some d ∧
  ∀ g' H' z, g.le g' → SimH cl K bs g' S H' → Rep K g' z d → Q z H'
theorem cut_whole {α : Type} {xs : List α} {lo hi : Option Int} (h : HT.sIx xs.length 0 lo = 0 ∧ HT.sIx xs.length xs.length hi = xs.length) : cutT xs lo hi = xs := by
  unfold cutT
  rw [h.1, h.2, List.drop_zero, Nat.sub_zero, List.take_length]
theorem sl_D : SlR X (rSlD cl X.K bs) := by
  intro pins s σ H x v vl vu lo hi sl Q I rx hs pl pu ⟨g, S, p, d, m, rp, e, w⟩
  have lst : ∀ {st : Bool} {a : Addr} {vs : List V} {xs : List T}, x = .ref a → SqL X.K H a vs → RepTs X.K g.F st vs xs → (∀ g' H' b vs', g.le g' → SimH cl X.K bs g' S H' → g'.F b = some (.lst vs') → RepTs X.K g'.F st vs' (cutT xs lo hi) → Q (.ref b) H') →
      ∃ T id, typeLookup (.type T) "__getitem__" = pure (some (.builtin id)) ∧ s.TypeIs v T ∧ wpAny (model X.prog X.w) X.A (getItem v (.ref sl)) (EP X pins σ Q) X.xe s := fun {st a vs xs} ea hl hr w => by
    refine sl_list pins s σ H x v vl vu lo hi sl Q I rx hs pl pu ⟨a, vs, ea, hl, fun z hz => ?_⟩
    obtain ⟨l, m'⟩ := m.fro hz (.lst (cutV vs lo hi))
    exact w _ _ _ _ l m' upd_same ((rep_cut hr lo hi).mono l.F)
  have tup : ∀ {st : Bool} {a : Addr} {vs : List V} {xs : List T}, x = .ref a → SqT X.K g.F a vs → (st = true → g.F a = some (.tup vs)) → RepTs X.K g.F st vs xs → (∀ g' H' z, g.le g' → SimH cl X.K bs g' S H' → RepT X.K g'.F st z (.tuple (cutT xs lo hi)) → Q z H') →
      ∃ T id, typeLookup (.type T) "__getitem__" = pure (some (.builtin id)) ∧ s.TypeIs v T ∧ wpAny (model X.prog X.w) X.A (getItem v (.ref sl)) (EP X pins σ Q) X.xe s := fun {st a vs xs} ea hl he hr w => by
    refine sl_tupA pins s σ H x v vl vu lo hi sl Q I rx hs pl pu ⟨a, vs, ea, SqT.mono m.le hl, fun z => ?_, fun _ z hz => ?_⟩
    · rw [hr.length] at z
      have hw := w g H (.ref a) (.refl g) m
      rw [cut_whole z, ← ea] at hw
      subst ea
      exact hw (.tup hl he hr)
    · obtain ⟨l, m'⟩ := m.fro hz (.tup (cutV vs lo hi))
      exact w _ _ _ l m' (.tup (SqT.of upd_same) (fun _ => upd_same) ((rep_cut hr lo hi).mono l.F))
  have str : ∀ {z : Str} {d' : T}, x = .str z → slcT (.str z) lo hi = some d' → d = .t d' → ∃ T id, typeLookup (.type T) "__getitem__" = pure (some (.builtin id)) ∧ s.TypeIs v T ∧ wpAny (model X.prog X.w) X.A (getItem v (.ref sl)) (EP X pins σ Q) X.xe s := fun {z d'} ex h hd => by
    have h : guardB (decide (z.length ≤ sizeLine)) (PyData.str (cutS z lo hi)) = some d' := h
    obtain ⟨h1, rfl⟩ := guardB_some h
    subst hd
    exact sl_str pins s σ H x v vl vu lo hi sl Q I rx hs pl pu ⟨z, ex, of_decide_eq_true h1, w g H _ (.refl g) m (.t (.str _))⟩
  unfold slcD at e
  split at e
  · cases rp with
    | t r =>
      cases r with
      | @lst a vs xs h _ hr =>
        cases e
        exact lst rfl (SqL.mono m.le h) hr fun g' H' b vs' l m' hb r => w g' H' _ l m' (.t (.lst (SqL.of hb) (fun _ => hb) r))
      | @tup a vs xs h he hr =>
        cases e
        exact tup rfl h he hr fun g' H' z l m' r => w g' H' z l m' (.t r)
      | str z =>
        cases hd : slcT (.str z) lo hi with
        | none => rw [hd] at e; cases e
        | some d' =>
          rw [hd] at e
          cases e
          exact str rfl hd rfl
      | _ => cases e
  · cases rp with
    | k r =>
      cases e
      obtain ⟨a, vs, rfl, h, _, hr⟩ := r.list_inv
      refine lst rfl (SqL.mono m.le h) hr fun g' H' b vs' l m' hb r => w g' H' _ l m' ?_
      unfold newL
      split
      · rename_i hsc
        exact .t (.lst (SqL.of hb) (fun _ => hb) (reps_scal r hsc))
      · exact .k (.lst (SqL.of hb) (fun _ => hb) r)
  · rename_i x' hn
    cases rp with
    | k r =>
      cases r with
      | lst _ _ _ => exact (hn _ rfl).elim
      | @tup a vs xs h he hr =>
        cases e
        exact tup rfl h he hr fun g' H' z l m' r => w g' H' z l m' (.k r)
      | str z =>
        cases hd : slcT (.str z) lo hi with
        | none => rw [hd] at e; cases e
        | some d' =>
          rw [hd] at e
          have h : guardB (decide (z.length ≤ sizeLine)) (PyData.str (cutS z lo hi)) = some d' := hd
          obtain ⟨h1, rfl⟩ := guardB_some h
          cases e
          exact str rfl hd rfl
      | _ => cases e
  · rename_i n
    cases hd : lstOf S (.ref n) with
    | none => rw [hd] at e; cases e
    | some xs =>
      rw [hd] at e
      cases e
      obtain ⟨a, vs, rfl, ho, hr⟩ := rp.lstT m hd
      exact lst rfl (SqL.of ho) hr fun g' H' b vs' l m' hb r => w g' H' _ l m' (.t (.lst (SqL.of hb) (fun _ => hb) r))
  · cases e
/-! ### calls of what is built in -/
def rC (cl : List Addr) (K : PySem.W.Frag) (bs : List Nat) (f : Store → List D → Option D) : List V → Hp → VK → Prop := fun xs H Q => ∃ g S ds d, SimH cl K bs g S H ∧ Reps K g xs ds ∧ f S ds = some d ∧
  ∀ g' H' z, g.le g' → SimH cl K bs g' S H' → Rep K g' z d → Q z H'
def Blt.val : Blt → Value
  | .len => .builtin "len"
  | .abs => .builtin "abs"
  | .min2 => .builtin "min"
  | .max2 => .builtin "max"
  | .int1 => .type "int"
  | .all1 => .builtin "all"
  | .any1 => .builtin "any"
  | .sum1 => .builtin "sum"
  | .str1 => .type "str"
  | .tup1 => .type "tuple"
  | .lst1 => .type "list"
theorem one_of {K : PySem.W.Frag} {g : G} {xs : List V} {d : D} (r : Reps K g xs [d]) : ∃ v, xs = [v] ∧ Rep K g v d := by
  cases r with
  | cons r t => cases t; exact ⟨_, rfl, r⟩
theorem two_of {K : PySem.W.Frag} {g : G} {xs : List V} {d e : D} (r : Reps K g xs [d, e]) : ∃ v u, xs = [v, u] ∧ Rep K g v d ∧ Rep K g u e := by
  cases r with
  | cons r t =>
    obtain ⟨u, rfl, q⟩ := one_of t
    exact ⟨_, _, rfl, r, q⟩
theorem Rep.intT {K : PySem.W.Frag} {g : G} {v : V} {i : Int} (r : Rep K g v (.t (.int i))) : v = .int i := by cases r with | t r => exact r.int_inv
theorem Rep.boolT {K : PySem.W.Frag} {g : G} {v : V} {i : Bool} (r : Rep K g v (.t (.bool i))) : v = .bl i := by cases r with | t r => exact r.bool_inv
theorem RepTs.bools {K : PySem.W.Frag} {F : Hp} {st : Bool} : ∀ {vs : List V} {xs : List T} {ks : List Bool}, RepTs K F st vs xs → boolsT xs = some ks → vs = ks.map V.bl
  | _, _, _, .nil, e => by cases e; rfl
  | _, _, _, .cons (x := x) (xs := xs) r t, e => by
    cases x <;> try cases e
    unfold boolsT at e
    cases h : boolsT xs with
    | none => rw [h] at e; cases e
    | some l =>
      rw [h] at e
      cases e
      rw [RepTs.bools t h, r.bool_inv]
      rfl
theorem RepTs.ints {K : PySem.W.Frag} {F : Hp} {st : Bool} : ∀ {vs : List V} {xs : List T} {ks : List Int}, RepTs K F st vs xs → intsT xs = some ks → vs = ks.map V.int
  | _, _, _, .nil, e => by cases e; rfl
  | _, _, _, .cons (x := x) (xs := xs) r t, e => by
    cases x <;> try cases e
    unfold intsT at e
    cases h : intsT xs with
    | none => rw [h] at e; cases e
    | some l =>
      rw [h] at e
      cases e
      rw [RepTs.ints t h, r.int_inv]
      rfl
theorem lenD_ok {g : G} {S : Store} {H : Hp} (m : SimH cl X.K bs g S H) {v : V} {d : D} (r : Rep X.K g v d) {n : Nat} (e : lenD S d = some n) : LenV X.K v H n ∨ ∃ a kvs, v = .ref a ∧ Rd H a (.dK kvs) ∧ n = kvs.length := by
  cases r with
  | @t _ x r =>
    cases r with
    | str z =>
      have e : (if z.length ≤ sizeLine then some z.length else none) = some n := e
      split at e
      · rename_i h
        cases e
        exact .inl ⟨h, rfl⟩
      · cases e
    | lst h _ hr => cases e; exact .inl (.inl ⟨_, SqL.mono m.le h, hr.length.symm⟩)
    | tup h _ hr => cases e; exact .inl (.inr ⟨_, SqT.mono m.le h, hr.length.symm⟩)
    | dK h e1 hr =>
      cases e
      refine .inr ⟨_, _, rfl, Rd.mono m.le h, ?_⟩
      have := congrArg List.length e1
      simpa using this
    | _ => cases e
  | @k _ x r =>
    cases r with
    | lst h _ hr => cases e; exact .inl (.inl ⟨_, SqL.mono m.le h, hr.length.symm⟩)
    | tup h _ hr => cases e; exact .inl (.inr ⟨_, SqT.mono m.le h, hr.length.symm⟩)
    | _ => cases e
  | @ref k a h =>
    have e : (match S[k]? with | some (.lst ds) => some ds.length | some (.dK kvs) => some kvs.length | _ => none) = some n := e
    split at e
    · rename_i ds hs
      cases e
      obtain ⟨_, vs, ho, rs⟩ := m.cel k _ a hs h rfl
      exact .inl (.inl ⟨vs, SqL.of ho, rs.length.symm⟩)
    · rename_i kvs hs
      cases e
      obtain ⟨_, kvs', ho, e1, _⟩ := m.cel k _ a hs h rfl
      refine .inr ⟨a, kvs', rfl, .inl ho, ?_⟩
      have := congrArg List.length e1
      simpa using this.symm
    · cases e
  | mix h hr => cases e; exact .inl (.inr ⟨_, SqT.mono m.le h, hr.length.symm⟩)
theorem call_blt (hc : X.calm = true) (b : Blt) : CallR X b.val (rC cl X.K bs (bltD b)) := by
  intro pins s σ H xs us Q I r ⟨g, S, ds, d, m, rs, e, w⟩
  have fin : ∀ v, Rep X.K g v d → Q v H := fun v r => w g H v (.refl g) m r
  unfold bltD at e
  split at e
  · obtain ⟨v, rfl, rv⟩ := one_of rs
    cases hn : lenD S _ with
    | none => rw [hn] at e; cases e
    | some n =>
      rw [hn] at e
      cases e
      rcases lenD_ok m rv hn with h | ⟨a, kvs, rfl, h, rfl⟩
      · exact call_len pins s σ H _ us Q I r ⟨v, n, rfl, h, fin _ (.t (.int _))⟩
      · obtain ⟨u, rfl, ru⟩ := vals1 r
        cases ru
        exact d_len I h fun t s' I' => ⟨.int kvs.length, H, I', ⟨_, rfl⟩, fin _ (.t (.int _))⟩
  · obtain ⟨v, rfl, rv⟩ := one_of rs
    cases e
    obtain rfl := rv.intT
    exact call_abs pins s σ H _ us Q I r ⟨_, rfl, fin _ (.t (.int _))⟩
  · obtain ⟨v, u, rfl, rv, ru⟩ := two_of rs
    cases e
    obtain rfl := rv.intT
    obtain rfl := ru.intT
    exact call_min2 hc pins s σ H _ us Q I r ⟨_, _, rfl, fin _ (.t (.int _))⟩
  · obtain ⟨v, u, rfl, rv, ru⟩ := two_of rs
    cases e
    obtain rfl := rv.intT
    obtain rfl := ru.intT
    exact call_max2 hc pins s σ H _ us Q I r ⟨_, _, rfl, fin _ (.t (.int _))⟩
  · obtain ⟨v, rfl, rv⟩ := one_of rs
    cases e
    obtain rfl := rv.intT
    exact call_int1 pins s σ H _ us Q I r (.inl ⟨_, rfl, fin _ (.t (.int _))⟩)
  · obtain ⟨v, rfl, rv⟩ := one_of rs
    cases e
    obtain rfl := rv.boolT
    exact call_int1 pins s σ H _ us Q I r (.inr ⟨_, rfl, fin _ (.t (.int _))⟩)
  · obtain ⟨v, rfl, rv⟩ := one_of rs
    split at e
    · rename_i xs' hx
      obtain ⟨a, vs, rfl, hl, _, hr⟩ := (rv.treeW m hx).list_inv
      cases hb : boolsT xs' with
      | none => rw [hb] at e; cases e
      | some ks =>
        rw [hb] at e
        cases e
        have := hr.bools hb
        subst this
        exact cr_all hc pins s σ H _ us Q I r ⟨a, ks, rfl, hl, fin _ (.t (.bl _))⟩
    · cases e
  · obtain ⟨v, rfl, rv⟩ := one_of rs
    split at e
    · rename_i xs' hx
      obtain ⟨a, vs, rfl, hl, _, hr⟩ := (rv.treeW m hx).list_inv
      cases hb : boolsT xs' with
      | none => rw [hb] at e; cases e
      | some ks =>
        rw [hb] at e
        cases e
        have := hr.bools hb
        subst this
        exact cr_any hc pins s σ H _ us Q I r ⟨a, ks, rfl, hl, fin _ (.t (.bl _))⟩
    · cases e
  · obtain ⟨v, rfl, rv⟩ := one_of rs
    split at e
    · rename_i xs' hx
      obtain ⟨a, vs, rfl, hl, _, hr⟩ := (rv.treeW m hx).list_inv
      cases hb : intsT xs' with
      | none => rw [hb] at e; cases e
      | some ks =>
        rw [hb] at e
        cases e
        have := hr.ints hb
        subst this
        exact cr_sum hc pins s σ H _ us Q I r ⟨a, ks, rfl, hl, fin _ (.t (.int _))⟩
    · cases e
  · obtain ⟨v, rfl, rv⟩ := one_of rs
    obtain ⟨h, rfl⟩ := guardB_some e
    obtain rfl := rv.intT
    exact call_str_int pins s σ H _ us Q I r ⟨_, rfl, of_decide_eq_true h, fin _ (.t (.str _))⟩
  · obtain ⟨v, rfl, rv⟩ := one_of rs
    cases e
    cases id rv with
    | t rt =>
      obtain ⟨a, vs, rfl, hl, _, hr⟩ := rt.tuple_inv
      exact call_tuple_of pins s σ H _ us Q I r ⟨a, vs, rfl, .inr ⟨SqT.mono m.le hl, fin _ rv⟩⟩
  · obtain ⟨v, rfl, rv⟩ := one_of rs
    cases e
    cases id rv with
    | mix hl hr => exact call_tuple_of pins s σ H _ us Q I r ⟨_, _, rfl, .inr ⟨SqT.mono m.le hl, fin _ rv⟩⟩
  · obtain ⟨v, rfl, rv⟩ := one_of rs
    cases e
    cases id rv with
    | k rt =>
      obtain ⟨a, vs, rfl, hl, _, hr⟩ := rt.tuple_inv
      exact call_tuple_of pins s σ H _ us Q I r ⟨a, vs, rfl, .inr ⟨SqT.mono m.le hl, fin _ rv⟩⟩
  · obtain ⟨v, rfl, rv⟩ := one_of rs
    cases hx : lstOf S _ with
    | none => rw [hx] at e; cases e
    | some xs' =>
      rw [hx] at e
      cases e
      obtain ⟨a, vs, rfl, ho, hr⟩ := rv.lstT m hx
      refine call_tuple_of pins s σ H _ us Q I r ⟨a, vs, rfl, .inl ⟨SqL.of ho, fun z hz => ?_⟩⟩
      obtain ⟨l, m', r'⟩ := m.tupT hr hz
      exact w _ _ _ l m' r'
  all_goals try cases e
  · obtain ⟨v, rfl, rv⟩ := one_of rs
    cases rv with
    | k rt =>
      obtain ⟨a, vs, rfl, hl, _, hr⟩ := rt.tuple_inv
      refine call_list_of pins s σ H _ us Q I r ⟨a, vs, rfl, .inr (SqT.mono m.le hl), fun z hz => ?_⟩
      obtain ⟨l, m'⟩ := m.fro hz (.lst vs)
      refine w _ _ _ l m' ?_
      unfold newL
      split
      · rename_i hsc
        exact .t (.lst (SqL.of upd_same) (fun _ => upd_same) (reps_scal (hr.mono l.F) hsc))
      · exact .k (.lst (SqL.of upd_same) (fun _ => upd_same) (hr.mono l.F))
  · obtain ⟨v, rfl, rv⟩ := one_of rs
    cases rv with
    | k rt =>
      obtain ⟨a, vs, rfl, hl, _, hr⟩ := rt.list_inv
      refine call_list_of pins s σ H _ us Q I r ⟨a, vs, rfl, .inl (SqL.mono m.le hl), fun z hz => ?_⟩
      obtain ⟨l, m'⟩ := m.fro hz (.lst vs)
      refine w _ _ _ l m' ?_
      unfold newL
      split
      · rename_i hsc
        exact .t (.lst (SqL.of upd_same) (fun _ => upd_same) (reps_scal (hr.mono l.F) hsc))
      · exact .k (.lst (SqL.of upd_same) (fun _ => upd_same) (hr.mono l.F))
  · obtain ⟨v, rfl, rv⟩ := one_of rs
    cases rv with
    | t rt =>
      obtain ⟨a, vs, rfl, hl, _, hr⟩ := rt.tuple_inv
      refine call_list_of pins s σ H _ us Q I r ⟨a, vs, rfl, .inr (SqT.mono m.le hl), fun z hz => ?_⟩
      obtain ⟨l, m', r'⟩ := m.lstT hr hz
      exact w _ _ _ l m' r'
  · obtain ⟨v, rfl, rv⟩ := one_of rs
    cases hx : lstOf S _ with
    | none => rw [hx] at e; cases e
    | some xs' =>
      rw [hx] at e
      cases e
      obtain ⟨a, vs, rfl, ho, hr⟩ := rv.lstT m hx
      refine call_list_of pins s σ H _ us Q I r ⟨a, vs, rfl, .inl (SqL.of ho), fun z hz => ?_⟩
      obtain ⟨l, m', r'⟩ := m.lstT hr hz
      exact w _ _ _ l m' r'
end ops
end Den

set_option maxHeartbeats 1000000
/-! Den, part 4: expressions. -/
namespace Den
open PySem PySem.Spec PyProof.Rows L2

section
variable {X : Cx} {e : Expr} {es : List Expr}
theorem pe_mono {t t' : TE} (h : PE X e t) (k : ∀ σ H Q, t' σ H Q → t σ H Q) : PE X e t' := ⟨fun pins s σ H Q I q => h.run pins s σ H Q I (k σ H Q q)⟩
theorem pt_mono {t t' : TT} (h : PT X e t) (k : ∀ σ H Q, t' σ H Q → t σ H Q) : PT X e t' := ⟨fun pins s σ H Q I q => h.run pins s σ H Q I (k σ H Q q)⟩
theorem pw_mono {t t' : TT} (h : PW X e t) (k : ∀ σ H Q, t' σ H Q → t σ H Q) : PW X e t' := ⟨fun whole pins s σ H Q I q => h.run whole pins s σ H Q I (k σ H Q q)⟩
theorem pa_mono {t t' : TA} (h : PA X es t) (k : ∀ σ H Q, t' σ H Q → t σ H Q) : PA X es t' := ⟨fun pos pins s σ H Q I q => h.run pos pins s σ H Q I (k σ H Q q)⟩
variable {cl : List Addr} {bs : List Nat} {W : WX}
theorem pe_den {t : TE} {ev : Sl → Store → Res D} (h : PE X e t) (k : ∀ σ H Q g ds S, SimH cl X.K bs g S H → SimS X.K g ds σ → Post cl X.K bs g (fun c d H => W c d σ H) (Rep X.K) (ev ds S) Q → t σ H Q) : PE X e (RdE cl X.K bs W ev) :=
  pe_mono h fun σ H Q ⟨g, ds, S, m, ss, p⟩ => k σ H Q g ds S m ss p
theorem pt_den {t : TT} {ev : Sl → Store → Res Bool} (h : PT X e t) (k : ∀ σ H Q g ds S, SimH cl X.K bs g S H → SimS X.K g ds σ → Post cl X.K bs g (fun c d H => W c d σ H) (fun _ y b => y = b) (ev ds S) Q → t σ H Q) : PT X e (RdT cl X.K bs W ev) :=
  pt_mono h fun σ H Q ⟨g, ds, S, m, ss, p⟩ => k σ H Q g ds S m ss p
theorem pw_den {t : TT} {ev : Sl → Store → Res Bool} (h : PW X e t) (k : ∀ σ H Q g ds S, SimH cl X.K bs g S H → SimS X.K g ds σ → Post cl X.K bs g (fun c d H => W c d σ H) (fun _ y b => y = b) (ev ds S) Q → t σ H Q) : PW X e (RdT cl X.K bs W ev) :=
  pw_mono h fun σ H Q ⟨g, ds, S, m, ss, p⟩ => k σ H Q g ds S m ss p
theorem pa_den {t : TA} {ev : Sl → Store → Res (List D)} (h : PA X es t) (k : ∀ σ H Q g ds S, SimH cl X.K bs g S H → SimS X.K g ds σ → Post cl X.K bs g (fun c d H => W c d σ H) (Reps X.K) (ev ds S) Q → t σ H Q) : PA X es (RdA cl X.K bs W ev) :=
  pa_mono h fun σ H Q ⟨g, ds, S, m, ss, p⟩ => k σ H Q g ds S m ss p
theorem po_den {oe : Option Expr} {t : L2.TO} {ev : Sl → Store → Res (Option Int)} (h : PO X oe t) (k : ∀ σ H Q g ds S, SimH cl X.K bs g S H → SimS X.K g ds σ → Post cl X.K bs g (fun c d H => W c d σ H) (fun _ y b => y = b) (ev ds S) Q → t σ H Q) : PO X oe (RdO cl X.K bs W ev) :=
  ⟨fun pins s σ H Q I ⟨g, ds, S, m, ss, p⟩ => h.run pins s σ H Q I (k σ H Q g ds S m ss p)⟩
end

section
variable {X : Cx} {cl : List Addr} {bs : List Nat} {W : WX} {a b c : Expr} {es : List Expr} {pos : Pos} {eva evb evc : Sl → Store → Res D}
theorem de_var {i : Nat} {x : Str} (hN : X.N[i]? = some x) (hv : Vis X.env.scope x) (hd : (x == ("__debug__" : Str)) = false) (hcd : (x == ("__classdict__" : Str)) = false) :
    PE X (.Name x pos) (RdE cl X.K bs W fun ds S => match ds[i]? with | some (some d) => .ok d S | _ => .bad) :=
  pe_den (pe_var hN hv hd hcd) fun σ H Q g ds S m ss p => by
    split at p
    · rename_i d e
      obtain ⟨v, e1, r⟩ := ss.2 i d e
      exact ⟨v, e1, p g H v (.refl g) m r⟩
    · exact p.elim
theorem de_int {i : Int} {j : Nat} : PE X (.Constant (.int i) j pos) (RdE cl X.K bs W fun _ S => .ok (.t (.int i)) S) :=
  pe_den pe_int fun σ H Q g ds S m ss p => p g H _ (.refl g) m (.t (.int i))
theorem de_bl {i : Bool} {j : Nat} : PE X (.Constant (.bool i) j pos) (RdE cl X.K bs W fun _ S => .ok (.t (.bool i)) S) :=
  pe_den pe_bl fun σ H Q g ds S m ss p => p g H _ (.refl g) m (.t (.bl i))
theorem de_non {j : Nat} : PE X (.Constant .none j pos) (RdE cl X.K bs W fun _ S => .ok (.t .none) S) :=
  pe_den pe_non fun σ H Q g ds S m ss p => p g H _ (.refl g) m (.t .non)
theorem de_str {i : Str} {j : Nat} : PE X (.Constant (.str i) j pos) (RdE cl X.K bs W fun _ S => .ok (.t (.str i)) S) :=
  pe_den pe_str fun σ H Q g ds S m ss p => p g H _ (.refl g) m (.t (.str i))
theorem de_glob {x : Str} {v : V} {u : Value} {y : T} (hg : Gl X x) (hm : X.mg x = some u) (r : RelV v u) (hr : RepT X.K (fun _ => none) false v y) (hd : (x == ("__debug__" : Str)) = false) :
    PE X (.Name x pos) (RdE cl X.K bs W fun _ S => .ok (kD y) S) :=
  pe_den (pe_glob hg hm r hd) fun σ H Q g ds S m ss p => p g H v (.refl g) m (RepT.up (hr.mono fun _ _ z => by cases z))
/-- lists of expressions -/
theorem da_nil : PA X [] (RdA cl X.K bs W fun _ S => .ok [] S) := pa_den pa_nil fun σ H Q g ds S m ss p => p g H [] (.refl g) m .nil
theorem da_cons {evs : Sl → Store → Res (List D)} (ha : PE X a (RdE cl X.K bs W eva)) (hr : PA X es (RdA cl X.K bs W evs)) (hs : starEach (a :: es) X.env = (false, eval a X.env) :: starEach es X.env) :
    PA X (a :: es) (RdA cl X.K bs W fun ds S => (eva ds S).bind fun u S => (evs ds S).bind fun us S => .ok (u :: us) S) :=
  pa_den (pa_cons ha hr hs) fun σ H Q g ds S m ss p => ⟨g, ds, S, m, ss, (Post.step p).imp fun y H1 ⟨g1, u, S1, l1, m1, r1, p1⟩ =>
    ⟨g1, ds, S1, m1, ss.mono l1, (Post.step p1).imp fun ys H2 ⟨g2, us, S2, l2, m2, r2, p2⟩ => p2 g2 H2 (y :: ys) (.refl g2) m2 (.cons (r1.mono l2) r2)⟩⟩
theorem de_tup {evs : Sl → Store → Res (List D)} {k : Nat} (ha : PA X es (RdA cl X.K bs W evs)) :
    PE X (.Tuple es k pos) (RdE cl X.K bs W fun ds S => (evs ds S).bind fun as S => if as.length ≤ sizeLine then .ok (mkTup as) S else .bad) :=
  pe_den (pe_tup ha) fun σ H Q g ds S m ss p => ⟨g, ds, S, m, ss, (Post.step p).imp fun vs H1 ⟨g1, as, S1, l1, m1, r1, p1⟩ => by
    split at p1
    · rename_i hl
      refine ⟨by rw [r1.length]; exact hl, fun z hz => ?_⟩
      obtain ⟨l2, m2, r2⟩ := m1.tupD r1 hz
      exact p1 _ _ _ l2 m2 r2
    · exact p1.elim⟩
theorem de_lst {evs : Sl → Store → Res (List D)} {mu : Bool} (ha : PA X es (RdA cl X.K bs W evs)) :
    PE X (.List es pos) (RdE cl X.K bs W fun ds S => (evs ds S).bind fun as S => if as.length ≤ sizeLine then (if mu = true then .ok (.ref S.length) (S ++ [.lst as]) else lift (mkLst as) S) else .bad) :=
  pe_den (pe_lst ha) fun σ H Q g ds S m ss p => ⟨g, ds, S, m, ss, (Post.step p).imp fun vs H1 ⟨g1, as, S1, l1, m1, r1, p1⟩ => by
    split at p1
    · rename_i hl
      refine ⟨by rw [r1.length]; exact hl, fun z hz => ?_⟩
      split at p1
      · obtain ⟨l2, m2, r2⟩ := m1.cell hz (c := .lst as) (o := .lst vs) fun g' l => ⟨vs, rfl, r1.mono l⟩
        exact p1 _ _ _ l2 m2 r2
      · obtain ⟨d, hd, p2⟩ := Post.get p1
        unfold mkLst at hd
        cases ht : allT as with
        | none => rw [ht] at hd; cases hd
        | some xs =>
          rw [ht] at hd
          cases hd
          have := allT_eq ht
          subst this
          obtain ⟨l2, m2, r2⟩ := m1.lstT r1.trees hz
          exact p2 _ _ _ l2 m2 r2
    · exact p1.elim⟩
theorem de_op {f : Value → Value → Sem Value} {h : Store → D → D → Option D} {t : TE} (hop : PE X c (tOp (rB cl X.K bs h) (RdE cl X.K bs W eva) (RdE cl X.K bs W evb))) :
    PE X c (RdE cl X.K bs W fun ds S => (eva ds S).bind fun u S => (evb ds S).bind fun v S => lift (h S u v) S) :=
  pe_den hop fun σ H Q g ds S m ss p => ⟨g, ds, S, m, ss, (Post.step p).imp fun x H1 ⟨g1, u, S1, l1, m1, r1, p1⟩ =>
    ⟨g1, ds, S1, m1, ss.mono l1, (Post.step p1).imp fun y H2 ⟨g2, v, S2, l2, m2, r2, p2⟩ => by
      obtain ⟨d, hd, p3⟩ := Post.get p2
      exact ⟨g2, S2, u, v, d, m2, r1.mono l2, r2, hd, p3⟩⟩⟩
theorem de_bin {op : Operator} (ha : PE X a (RdE cl X.K bs W eva)) (hb : PE X b (RdE cl X.K bs W evb)) :
    PE X (.BinOp a op b pos) (RdE cl X.K bs W fun ds S => (eva ds S).bind fun u S => (evb ds S).bind fun v S => lift (binD op S u v) S) := de_op (f := binaryOp op) (t := fun _ _ _ => True) (pe_op (op_binD op) ha hb)
theorem de_cmp {op : CmpOp} (hr : X.A.units + 200 < cLine) (ha : PE X a (RdE cl X.K bs W eva)) (hb : PE X b (RdE cl X.K bs W evb)) (hm : behindInMarks op b = false) :
    PE X (.Compare a [op] [b] pos) (RdE cl X.K bs W fun ds S => (eva ds S).bind fun u S => (evb ds S).bind fun v S => lift ((cmpD op S u v).map fun k => .t (.bool k)) S) :=
  de_op (f := compareOp op) (t := fun _ _ _ => True) (pe_cmpR (op_cmpD hr op) ha hb hm)
/-- what a comparison gives is True or False -/
theorem cmp_bool {op : CmpOp} {S : Store} {u v d : D} (h : (cmpD op S u v).map (fun k => D.t (.bool k)) = some d) : ∃ k, cmpD op S u v = some k ∧ d = .t (.bool k) := by
  cases e : cmpD op S u v with
  | none => rw [e] at h; cases h
  | some k => rw [e] at h; cases h; exact ⟨k, rfl, rfl⟩
theorem dt_cmp {op : CmpOp} (hr : X.A.units + 200 < cLine) (ha : PE X a (RdE cl X.K bs W eva)) (hb : PE X b (RdE cl X.K bs W evb)) (hm : behindInMarks op b = false) :
    PT X (.Compare a [op] [b] pos) (RdT cl X.K bs W fun ds S => ((eva ds S).bind fun u S => (evb ds S).bind fun v S => lift ((cmpD op S u v).map fun k => .t (.bool k)) S).bind fun u S => lift (truthD S u) S) :=
  pt_den (pt_cmpR (op_cmpD hr op) ha hb hm) fun σ H Q g ds S m ss p => by
    have p' : Post cl X.K bs g (fun c d H => W c d σ H) (fun _ y b => y = b) ((eva ds S).bind fun u S => (evb ds S).bind fun v S => (lift ((cmpD op S u v).map fun k => D.t (.bool k)) S).bind fun u S => lift (truthD S u) S) Q := by
      cases h1 : eva ds S with
      | ok u S1 =>
        rw [h1] at p
        try simp only [Res.bind_ok] at p ⊢
        cases h2 : evb ds S1 with
        | ok v S2 => rw [h2] at p; exact p
        | exc _ _ _ => rw [h2] at p; exact p
        | bad => rw [h2] at p; exact p
      | exc _ _ _ => rw [h1] at p; exact p
      | bad => rw [h1] at p; exact p
    exact ⟨g, ds, S, m, ss, (Post.step p').imp fun x H1 ⟨g1, u, S1, l1, m1, r1, p1⟩ =>
      ⟨g1, ds, S1, m1, ss.mono l1, (Post.step p1).imp fun y H2 ⟨g2, v, S2, l2, m2, r2, p2⟩ => by
        cases hk : cmpD op S2 u v with
        | none => rw [hk] at p2; exact p2.elim
        | some k =>
          rw [hk] at p2
          refine ⟨g2, S2, u, v, .t (.bool k), m2, r1.mono l2, r2, by show (cmpD op S2 u v).map _ = _; rw [hk]; rfl, fun g' H' z l' m' r' => ?_⟩
          obtain rfl := r'.boolT
          exact ⟨k, rfl, p2 g' H' k l' m' rfl⟩⟩⟩
theorem bind_assoc {α β γ : Type} (r : Res α) (f : α → Store → Res β) (h : β → Store → Res γ) : (r.bind f).bind h = r.bind fun a S => (f a S).bind h := by cases r <;> rfl
/-- p, q: a op b op' c -/
theorem chain_step {op op' : CmpOp} (hr : X.A.units + 200 < cLine) {σ : L2.St} {H : Hp} {Q : VK}
    (h : RdE cl X.K bs W (fun ds S => (eva ds S).bind fun u S => (evb ds S).bind fun v S => (lift (cmpD op S u v) S).bind fun k S =>
      if k = true then (evc ds S).bind fun w S => lift ((cmpD op' S v w).map fun k => .t (.bool k)) S else .ok (.t (.bool false)) S) σ H Q) :
    tChain (rB cl X.K bs fun S u v => (cmpD op S u v).map fun k => .t (.bool k)) (rB cl X.K bs fun S u v => (cmpD op' S u v).map fun k => .t (.bool k)) (RdE cl X.K bs W eva) (RdE cl X.K bs W evb) (RdE cl X.K bs W evc) σ H Q := by
  obtain ⟨g, ds, S, m, ss, p⟩ := h
  refine ⟨g, ds, S, m, ss, (Post.step p).imp fun x H1 ⟨g1, u, S1, l1, m1, r1, p1⟩ => ⟨g1, ds, S1, m1, ss.mono l1, (Post.step p1).imp fun y H2 ⟨g2, v, S2, l2, m2, r2, p2⟩ => ?_⟩⟩
  cases hk : cmpD op S2 u v with
  | none => rw [hk] at p2; exact p2.elim
  | some k =>
    rw [hk] at p2
    simp only [lift_some, Res.bind_ok] at p2
    refine ⟨g2, S2, u, v, .t (.bool k), m2, r1.mono l2, r2, by show (cmpD op S2 u v).map _ = _; rw [hk]; rfl, fun g3 H3 z l3 m3 r3 => ?_⟩
    obtain rfl := r3.boolT
    refine ⟨k, rfl, ?_⟩
    cases k with
    | true =>
      simp only [if_true] at p2 ⊢
      refine ⟨g3, ds, S2, m3, ss.mono ((l1.trans l2).trans l3), (Post.step (Post.up p2 l3)).imp fun w H4 ⟨g4, wd, S4, l4, m4, r4, p4⟩ => ?_⟩
      obtain ⟨d, hd, p5⟩ := Post.get p4
      exact ⟨g4, S4, v, wd, d, m4, r2.mono (l3.trans l4), r4, hd, p5⟩
    | false =>
      simp only [Bool.false_eq_true, if_false] at p2 ⊢
      exact p2 g3 H3 _ l3 m3 (.t (.bl false))
theorem de_chain {op op' : CmpOp} (hr : X.A.units + 200 < cLine) (ha : PE X a (RdE cl X.K bs W eva)) (hb : PE X b (RdE cl X.K bs W evb)) (hc : PE X c (RdE cl X.K bs W evc)) (hm : lastMarks [op, op'] [b, c] = false) :
    PE X (.Compare a [op, op'] [b, c] pos) (RdE cl X.K bs W fun ds S => (eva ds S).bind fun u S => (evb ds S).bind fun v S => (lift (cmpD op S u v) S).bind fun k S =>
      if k = true then (evc ds S).bind fun w S => lift ((cmpD op' S v w).map fun k => .t (.bool k)) S else .ok (.t (.bool false)) S) :=
  pe_mono (pe_chain (op_cmpD hr op) (op_cmpD hr op') ha hb hc hm) fun σ H Q h => chain_step hr h
theorem dt_chain {op op' : CmpOp} (hr : X.A.units + 200 < cLine) (ha : PE X a (RdE cl X.K bs W eva)) (hb : PE X b (RdE cl X.K bs W evb)) (hc : PE X c (RdE cl X.K bs W evc)) (hm : lastMarks [op, op'] [b, c] = false) :
    PT X (.Compare a [op, op'] [b, c] pos) (RdT cl X.K bs W fun ds S => ((eva ds S).bind fun u S => (evb ds S).bind fun v S => (lift (cmpD op S u v) S).bind fun k S =>
      if k = true then (evc ds S).bind fun w S => lift ((cmpD op' S v w).map fun k => .t (.bool k)) S else .ok (.t (.bool false)) S).bind fun u S => lift (truthD S u) S) :=
  pt_den (pt_chain (op_cmpD hr op) (op_cmpD hr op') ha hb hc hm) fun σ H Q g ds S m ss p => chain_step hr ⟨g, ds, S, m, ss, by
    have key : ∀ (r : Res D) (Q' : VK), (∀ d S, r = .ok d S → ∃ k, d = .t (.bool k)) → Post cl X.K bs g (fun c d H => W c d σ H) (fun _ y b => y = b) (r.bind fun u S => lift (truthD S u) S) Q →
        Post cl X.K bs g (fun c d H => W c d σ H) (Rep X.K) r (fun x H' => ∃ k, x = .bl k ∧ Q k H') := fun r Q' hb h => by
      cases r with
      | ok d S =>
        obtain ⟨k, rfl⟩ := hb d S rfl
        intro g' H' y l m' r'
        obtain rfl := r'.boolT
        exact ⟨k, rfl, h g' H' k l m' rfl⟩
      | exc _ _ _ => exact h
      | bad => exact h
    refine key _ (fun _ _ => True) (fun d S' h => ?_) p
    dsimp only at h
    cases h1 : eva ds S with
    | ok u S1 =>
      rw [h1] at h
      simp only [Res.bind_ok] at h
      cases h2 : evb ds S1 with
      | ok v S2 =>
        rw [h2] at h
        simp only [Res.bind_ok] at h
        cases h3 : cmpD op S2 u v with
        | none => rw [h3] at h; cases h
        | some k =>
          rw [h3] at h
          simp only [lift_some, Res.bind_ok] at h
          cases k with
          | false => simp only [Bool.false_eq_true, if_false] at h; cases h; exact ⟨_, rfl⟩
          | true =>
            simp only [if_true] at h
            cases h4 : evc ds S2 with
            | ok w S4 =>
              rw [h4] at h
              simp only [Res.bind_ok] at h
              cases h5 : cmpD op' S4 v w with
              | none => rw [h5] at h; cases h
              | some k => rw [h5] at h; cases h; exact ⟨_, rfl⟩
            | exc _ _ _ => rw [h4] at h; cases h
            | bad => rw [h4] at h; cases h
      | exc _ _ _ => rw [h2] at h; cases h
      | bad => rw [h2] at h; cases h
    | exc _ _ _ => rw [h1] at h; cases h
    | bad => rw [h1] at h; cases h⟩
/-- any expression as a test -/
theorem dt_of (ha : PE X a (RdE cl X.K bs W eva)) (he : ∀ whole, isTrue a X.env whole = (do let v ← whole; standAt a.pos; holding [v] (truthy v))) :
    PT X a (RdT cl X.K bs W fun ds S => (eva ds S).bind fun u S => lift (truthD S u) S) :=
  pt_den (pt_truth ha he) fun σ H Q g ds S m ss p => ⟨g, ds, S, m, ss, (Post.step p).imp fun x H1 ⟨g1, u, S1, l1, m1, r1, p1⟩ => by
    obtain ⟨k, hk, p2⟩ := Post.get p1
    exact ⟨k, truth_ok m1 r1 hk, p2 g1 H1 k (.refl g1) m1 rfl⟩⟩
theorem de_not (ha : PE X a (RdE cl X.K bs W eva)) : PE X (.UnaryOp .Not a pos) (RdE cl X.K bs W fun ds S => (eva ds S).bind fun u S => lift ((truthD S u).map fun k => .t (.bool (!k))) S) :=
  pe_den (pe_notT ha) fun σ H Q g ds S m ss p => ⟨g, ds, S, m, ss, (Post.step p).imp fun x H1 ⟨g1, u, S1, l1, m1, r1, p1⟩ => by
    cases hk : truthD S1 u with
    | none => rw [hk] at p1; exact p1.elim
    | some k =>
      rw [hk] at p1
      exact ⟨k, truth_ok m1 r1 hk, p1 g1 H1 _ (.refl g1) m1 (.t (.bl _))⟩⟩
abbrev tr : D → Store → Res Bool := fun u S => lift (truthD S u) S
theorem not_eq (r : Res D) : ((r.bind fun u S => lift ((truthD S u).map fun k => D.t (.bool (!k))) S).bind tr) = (r.bind tr).bind fun k S => .ok (!k) S := by
  cases r with
  | ok u S =>
    simp only [Res.bind_ok, tr]
    cases h : truthD S u with
    | none => rfl
    | some k => rfl
  | exc _ _ _ => rfl
  | bad => rfl
theorem and_eq (r : Res D) (e : Store → Res D) : ((r.bind fun u S => (lift (truthD S u) S).bind fun k S => if k = true then e S else .ok u S).bind tr) = (r.bind tr).bind fun k S => if k = true then (e S).bind tr else .ok false S := by
  cases r with
  | ok u S =>
    simp only [Res.bind_ok, tr]
    cases h : truthD S u with
    | none => rfl
    | some k => cases k <;> simp [h, tr]
  | exc _ _ _ => rfl
  | bad => rfl
theorem or_eq (r : Res D) (e : Store → Res D) : ((r.bind fun u S => (lift (truthD S u) S).bind fun k S => if k = true then .ok u S else e S).bind tr) = (r.bind tr).bind fun k S => if k = true then .ok true S else (e S).bind tr := by
  cases r with
  | ok u S =>
    simp only [Res.bind_ok, tr]
    cases h : truthD S u with
    | none => rfl
    | some k => cases k <;> simp [h, tr]
  | exc _ _ _ => rfl
  | bad => rfl
theorem dt_not (ha : PT X a (RdT cl X.K bs W fun ds S => (eva ds S).bind tr)) :
    PT X (.UnaryOp .Not a pos) (RdT cl X.K bs W fun ds S => ((eva ds S).bind fun u S => lift ((truthD S u).map fun k => .t (.bool (!k))) S).bind tr) :=
  pt_den (pt_not ha) fun σ H Q g ds S m ss p => ⟨g, ds, S, m, ss, by
    rw [not_eq] at p
    exact (Post.step p).imp fun y H1 ⟨g1, k, S1, l1, m1, e1, p1⟩ => by
      subst e1
      exact p1 g1 H1 (!y) (.refl g1) m1 rfl⟩
theorem de_neg (ha : PE X a (RdE cl X.K bs W eva)) : PE X (.UnaryOp .USub a pos) (RdE cl X.K bs W fun ds S => (eva ds S).bind fun u S => match u with | .t (.int i) => .ok (.t (.int (-i))) S | _ => .bad) :=
  pe_den (pe_un un_neg ha) fun σ H Q g ds S m ss p => ⟨g, ds, S, m, ss, (Post.step p).imp fun x H1 ⟨g1, u, S1, l1, m1, r1, p1⟩ => by
    split at p1
    · obtain rfl := r1.intT
      exact ⟨_, rfl, p1 g1 H1 _ (.refl g1) m1 (.t (.int _))⟩
    · exact p1.elim⟩
theorem de_ite (hc : PT X c (RdT cl X.K bs W fun ds S => (evc ds S).bind fun u S => lift (truthD S u) S)) (ha : PE X a (RdE cl X.K bs W eva)) (hb : PE X b (RdE cl X.K bs W evb)) :
    PE X (.IfExp c a b pos) (RdE cl X.K bs W fun ds S => (evc ds S).bind fun u S => (lift (truthD S u) S).bind fun k S => if k = true then eva ds S else evb ds S) :=
  pe_den (pe_ifExp hc ha hb) fun σ H Q g ds S m ss p => ⟨g, ds, S, m, ss, by
    rw [← bind_assoc] at p
    refine (Post.step p).imp fun y H1 ⟨g1, k, S1, l1, m1, e1, p1⟩ => ?_
    subst e1
    cases y with
    | true => exact ⟨g1, ds, S1, m1, ss.mono l1, p1⟩
    | false => exact ⟨g1, ds, S1, m1, ss.mono l1, p1⟩⟩
theorem de_and {rest : List Expr} (ha : PE X a (RdE cl X.K bs W eva)) (hb : PE X (.BoolOp .And (b :: rest) pos) (RdE cl X.K bs W evb)) :
    PE X (.BoolOp .And (a :: b :: rest) pos) (RdE cl X.K bs W fun ds S => (eva ds S).bind fun u S => (lift (truthD S u) S).bind fun k S => if k = true then evb ds S else .ok u S) :=
  pe_den (pe_andT ha hb) fun σ H Q g ds S m ss p => ⟨g, ds, S, m, ss, (Post.step p).imp fun x H1 ⟨g1, u, S1, l1, m1, r1, p1⟩ => by
    cases hk : truthD S1 u with
    | none => rw [hk] at p1; exact p1.elim
    | some k =>
      rw [hk] at p1
      refine ⟨k, truth_ok m1 r1 hk, ?_⟩
      cases k with
      | true => exact ⟨g1, ds, S1, m1, ss.mono l1, p1⟩
      | false => exact p1 g1 H1 x (.refl g1) m1 r1⟩
theorem de_or {rest : List Expr} (ha : PE X a (RdE cl X.K bs W eva)) (hb : PE X (.BoolOp .Or (b :: rest) pos) (RdE cl X.K bs W evb)) :
    PE X (.BoolOp .Or (a :: b :: rest) pos) (RdE cl X.K bs W fun ds S => (eva ds S).bind fun u S => (lift (truthD S u) S).bind fun k S => if k = true then .ok u S else evb ds S) :=
  pe_den (pe_orT ha hb) fun σ H Q g ds S m ss p => ⟨g, ds, S, m, ss, (Post.step p).imp fun x H1 ⟨g1, u, S1, l1, m1, r1, p1⟩ => by
    cases hk : truthD S1 u with
    | none => rw [hk] at p1; exact p1.elim
    | some k =>
      rw [hk] at p1
      refine ⟨k, truth_ok m1 r1 hk, ?_⟩
      cases k with
      | false => exact ⟨g1, ds, S1, m1, ss.mono l1, p1⟩
      | true => exact p1 g1 H1 x (.refl g1) m1 r1⟩
/-- and, or as tests -/
theorem dw_and {rest : List Expr} (ha : PT X a (RdT cl X.K bs W fun ds S => (eva ds S).bind tr)) (hb : PW X (.BoolOp .And (b :: rest) pos) (RdT cl X.K bs W fun ds S => (evb ds S).bind tr)) :
    PW X (.BoolOp .And (a :: b :: rest) pos) (RdT cl X.K bs W fun ds S => ((eva ds S).bind fun u S => (lift (truthD S u) S).bind fun k S => if k = true then evb ds S else .ok u S).bind tr) :=
  pw_den (pw_and ha hb) fun σ H Q g ds S m ss p => ⟨g, ds, S, m, ss, by
    rw [and_eq] at p
    exact (Post.step p).imp fun y H1 ⟨g1, k, S1, l1, m1, e1, p1⟩ => by
      subst e1
      cases y with
      | true => exact ⟨g1, ds, S1, m1, ss.mono l1, p1⟩
      | false => exact p1 g1 H1 false (.refl g1) m1 rfl⟩
theorem dw_or {rest : List Expr} (ha : PT X a (RdT cl X.K bs W fun ds S => (eva ds S).bind tr)) (hb : PW X (.BoolOp .Or (b :: rest) pos) (RdT cl X.K bs W fun ds S => (evb ds S).bind tr)) :
    PW X (.BoolOp .Or (a :: b :: rest) pos) (RdT cl X.K bs W fun ds S => ((eva ds S).bind fun u S => (lift (truthD S u) S).bind fun k S => if k = true then .ok u S else evb ds S).bind tr) :=
  pw_den (pw_or ha hb) fun σ H Q g ds S m ss p => ⟨g, ds, S, m, ss, by
    rw [or_eq] at p
    exact (Post.step p).imp fun y H1 ⟨g1, k, S1, l1, m1, e1, p1⟩ => by
      subst e1
      cases y with
      | true => exact p1 g1 H1 true (.refl g1) m1 rfl
      | false => exact ⟨g1, ds, S1, m1, ss.mono l1, p1⟩⟩
theorem de_idx (hu : X.A.units + 1 < cLine) (ha : PE X a (RdE cl X.K bs W eva)) (hb : PE X b (RdE cl X.K bs W evb)) (hs : PlainIx b) :
    PE X (.Subscript a b pos) (RdE cl X.K bs W fun ds S => (eva ds S).bind fun u S => (evb ds S).bind fun v S => lift (idxD S u v) S) := de_op (f := fun _ _ => pure .none) (t := fun _ _ _ => True) (pe_ix (ix_D hu) ha hb hs)
theorem do_no : PO X none (RdO cl X.K bs W fun _ S => .ok none S) := po_den po_none fun σ H Q g ds S m ss p => p g H none (.refl g) m rfl
theorem do_yes (ha : PE X a (RdE cl X.K bs W eva)) : PO X (some a) (RdO cl X.K bs W fun ds S => (eva ds S).bind fun u S => match u with | .t (.int i) => .ok (some i) S | _ => .bad) :=
  po_den (po_some ha) fun σ H Q g ds S m ss p => ⟨g, ds, S, m, ss, (Post.step p).imp fun x H1 ⟨g1, u, S1, l1, m1, r1, p1⟩ => by
    split at p1
    · obtain rfl := r1.intT
      exact ⟨_, rfl, p1 g1 H1 _ (.refl g1) m1 rfl⟩
    · exact p1.elim⟩
theorem de_slc {lo hi : Option Expr} {evl evh : Sl → Store → Res (Option Int)} {p2 : Pos} (ha : PE X a (RdE cl X.K bs W eva)) (hl : PO X lo (RdO cl X.K bs W evl)) (hh : PO X hi (RdO cl X.K bs W evh)) :
    PE X (.Subscript a (.Slice lo hi none p2) pos) (RdE cl X.K bs W fun ds S => (eva ds S).bind fun u S => (evl ds S).bind fun l S => (evh ds S).bind fun h S => lift (slcD S u l h) S) :=
  pe_den (pe_slice sl_D ha hl hh) fun σ H Q g ds S m ss p => ⟨g, ds, S, m, ss, (Post.step p).imp fun x H1 ⟨g1, u, S1, l1, m1, r1, p1⟩ =>
    ⟨g1, ds, S1, m1, ss.mono l1, (Post.step p1).imp fun l H2 ⟨g2, l', S2, l2, m2, e2, p2⟩ => ⟨g2, ds, S2, m2, ss.mono (l1.trans l2), (Post.step p2).imp fun h H3 ⟨g3, h', S3, l3, m3, e3, p3⟩ => by
      subst e2 e3
      obtain ⟨d, hd, p4⟩ := Post.get p3
      exact ⟨g3, S3, u, d, m3, r1.mono (l2.trans l3), hd, p4⟩⟩⟩⟩
theorem de_blt {o : Blt} {x : Str} {p : Pos} {evs : Sl → Store → Res (List D)} (hc : X.calm = true) (hg : Gl X x) (hm : X.mg x = none) (hv : bootBuiltins x = some o.val) (ha : PA X (a :: es) (RdA cl X.K bs W evs)) (hn : x ≠ "__name__") (hdb : (x == ("__debug__" : Str)) = false)
    (he : starEach (a :: es) X.env = (false, eval a X.env) :: starEach es X.env) (hpl : (backTo pos (starEach es X.env)).any (·.1) = false) :
    PE X (.Call (.Name x p) (a :: es) [] pos) (RdE cl X.K bs W fun ds S => (evs ds S).bind fun as S => lift (bltD o S as) S) := by
  have key : PE X (.Call (.Name x p) (a :: es) [] pos) (tCB (rC cl X.K bs (bltD o)) (RdA cl X.K bs W evs)) := by
    have hcl := call_blt (cl := cl) (bs := bs) hc o
    cases o <;> first | exact pe_callB hcl hg hm hv ha hn hdb he hpl | exact pe_callTy hcl hg hm hv ha hn hdb he hpl
  exact pe_den key fun σ H Q g ds S m ss p => ⟨g, ds, S, m, ss, (Post.step p).imp fun xs H1 ⟨g1, as, S1, l1, m1, r1, p1⟩ => by
    obtain ⟨d, hd, p2⟩ := Post.get p1
    exact ⟨g1, S1, as, d, m1, r1, hd, p2⟩⟩
/-! ### backwards -/
theorem RepTs.reverse {F : Hp} {K : PySem.W.Frag} {st : Bool} : ∀ {vs : List V} {xs : List T}, RepTs K F st vs xs → RepTs K F st vs.reverse xs.reverse
  | _, _, .nil => .nil
  | _, _, .cons r t => by
    rw [List.reverse_cons, List.reverse_cons]
    exact (RepTs.reverse t).append (.cons r .nil)
theorem Reps.reverse {g : G} {K : PySem.W.Frag} : ∀ {vs : List V} {xs : List D}, Reps K g vs xs → Reps K g vs.reverse xs.reverse
  | _, _, .nil => .nil
  | _, _, .cons r t => by
    rw [List.reverse_cons, List.reverse_cons]
    exact (Reps.reverse t).append (.cons r .nil)
theorem de_back {st : Expr} {p2 : Pos} (ha : PE X a (RdE cl X.K bs W eva)) (hst : Back st) :
    PE X (.Subscript a (.Slice none none (some st) p2) pos) (RdE cl X.K bs W fun ds S => (eva ds S).bind fun u S => lift (backD u) S) :=
  pe_den (pe_back ha hst) fun σ H Q g ds S m ss p => ⟨g, ds, S, m, ss, (Post.step p).imp fun x H1 ⟨g1, u, S1, l1, m1, r1, p1⟩ => by
    obtain ⟨d, hd, p2⟩ := Post.get p1
    unfold backD at hd
    split at hd
    · cases hd
      cases r1 with
      | t r =>
        obtain ⟨q, vs, rfl, h, _, hr⟩ := r.tuple_inv
        refine ⟨q, vs, rfl, SqT.mono m1.le h, fun p hp => ?_⟩
        obtain ⟨h1, h2, h3⟩ := m1.tupT hr.reverse hp
        exact p2 _ _ _ h1 h2 h3
    · cases hd
      cases r1 with
      | k r =>
        obtain ⟨q, vs, rfl, h, _, hr⟩ := r.tuple_inv
        refine ⟨q, vs, rfl, SqT.mono m1.le h, fun p hp => ?_⟩
        obtain ⟨h1, h2⟩ := m1.fro hp (.tup vs.reverse)
        exact p2 _ _ _ h1 h2 (.k (.tup (SqT.of upd_same) (fun z => by cases z) (hr.reverse.mono h1.F)))
    · cases hd
      cases r1 with
      | @mix q vs _ h hr =>
        refine ⟨q, vs, rfl, SqT.mono m1.le h, fun p hp => ?_⟩
        obtain ⟨h1, h2⟩ := m1.fro hp (.tup vs.reverse)
        exact p2 _ _ _ h1 h2 (.mix (SqT.of upd_same) (hr.reverse.mono h1))
    · cases hd⟩
/-! ### methods of texts -/
def rMt (cl : List Addr) (K : PySem.W.Frag) (bs : List Nat) (m : Mth) : V → List V → Hp → VK → Prop := fun x xs H Q => ∃ g S u as d, SimH cl K bs g S H ∧ Rep K g x u ∧ Reps K g xs as ∧ mthD m S u as = some d ∧
  ∀ g' H' z, g.le g' → SimH cl K bs g' S H' → Rep K g' z d → Q z H'
def Mth.name : Mth → Str
  | .join => "join" | .split => "split" | .partition => "partition" | .strip => "strip" | .lower => "lower" | .isdigit => "isdigit"
def Mth.id : Mth → String
  | .join => "str.join" | .split => "str.split" | .partition => "str.partition" | .strip => "str.strip" | .lower => "str.lower" | .isdigit => "str.isdigit"
theorem Mth.slot (m : Mth) : Slot "str" m.name m.id := by
  cases m
  · exact F.slot_str_join
  · exact F.slot_str_split
  · exact F.slot_str_partition
  · exact F.slot_str_strip
  · exact F.slot_str_lower
  · exact F.slot_str_isdigit
theorem Mth.ty (m : Mth) : typeOf (.builtin m.id) = pure (.type "method_descriptor") := by
  cases m
  · exact F.type_str_join
  · exact F.type_str_split
  · exact F.type_str_partition
  · exact F.type_str_strip
  · exact F.type_str_lower
  · exact F.type_str_isdigit
theorem strs_rep {F : Hp} {K : PySem.W.Frag} {st : Bool} : ∀ {vs : List V} {xs : List T} {ys : List Str}, RepTs K F st vs xs → strsT xs = some ys → vs = ys.map V.str
  | _, _, ys, .nil, e => by cases e; rfl
  | _, x :: xs, ys, .cons r t, e => by
    cases x with
    | str z =>
      unfold strsT at e
      cases h : strsT xs with
      | none => rw [h] at e; cases e
      | some zs =>
        rw [h] at e
        cases e
        rw [List.map_cons, r.str_inv, strs_rep t h]
    | _ => cases e
theorem rep_strs {F : Hp} {K : PySem.W.Frag} {st : Bool} : ∀ ys : List Str, RepTs K F st (ys.map V.str) (ys.map PyData.str)
  | [] => .nil
  | y :: ys => .cons (.str y) (rep_strs ys)
theorem Reps.one {g : G} {K : PySem.W.Frag} {xs : List V} {d : D} (r : Reps K g xs [d]) : ∃ y, xs = [y] ∧ Rep K g y d := by
  cases r with
  | cons h t => cases t; exact ⟨_, rfl, h⟩
theorem mt_rule (m : Mth) : MtR X m.id (rMt cl X.K bs m) := by
  intro pins s σ H x xs v us Q I rx rxs ⟨g, S, u, as, d, hm, rd, ra, e, w⟩
  unfold mthD at e
  split at e
  · rename_i a
    have hx : x = .str a := by
      cases rd with
      | t r => exact r.str_inv
    subst hx
    have fin : ∀ z, Rep X.K g z d → Q z H := fun z => w g H z (.refl g) hm
    split at e
    · rename_i arg
      obtain ⟨y, rfl, ry⟩ := ra.one
      cases h1 : seqsT S arg with
      | none => rw [h1] at e; cases e
      | some ts =>
        rw [h1] at e
        simp only [Option.bind_some] at e
        cases h2 : strsT ts with
        | none => rw [h2] at e; cases e
        | some ys =>
          rw [h2] at e
          simp only [Option.bind_some] at e
          obtain ⟨h3, rfl⟩ := guardB_some e
          unfold seqsT at h1
          split at h1
          · rename_i ht
            cases h1
            obtain ⟨q, vs, rfl, h4, _, h5⟩ := (ry.treeW hm ht).list_inv
            obtain rfl := strs_rep h5 h2
            exact mt_join pins s σ H _ _ v us Q I rx rxs ⟨a, q, ys, rfl, rfl, .inl h4, of_decide_eq_true h3, fin _ (.t (.str _))⟩
          · rename_i ht
            cases h1
            obtain ⟨q, vs, rfl, h4, _, h5⟩ := (ry.treeW hm ht).tuple_inv
            obtain rfl := strs_rep h5 h2
            exact mt_join pins s σ H _ _ v us Q I rx rxs ⟨a, q, ys, rfl, rfl, .inr h4, of_decide_eq_true h3, fin _ (.t (.str _))⟩
          · cases h1
    · rename_i b
      obtain ⟨y, rfl, ry⟩ := ra.one
      obtain ⟨h3, rfl⟩ := guardB_some e
      simp only [Bool.and_eq_true, Bool.not_eq_true', decide_eq_true_eq] at h3
      have hy : y = .str b := by
        cases ry with
        | t r => exact r.str_inv
      subst hy
      exact mt_split pins s σ H _ _ v us Q I rx rxs ⟨a, b, rfl, rfl, h3.1, h3.2, fun p hp => by
        obtain ⟨k1, k2, k3⟩ := hm.lstT (rep_strs (Txt.split a b)) hp
        exact w _ _ _ k1 k2 k3⟩
    · rename_i b
      obtain ⟨y, rfl, ry⟩ := ra.one
      obtain ⟨h3, rfl⟩ := guardB_some e
      simp only [Bool.and_eq_true, Bool.not_eq_true', decide_eq_true_eq] at h3
      have hy : y = .str b := by
        cases ry with
        | t r => exact r.str_inv
      subst hy
      exact mt_partition pins s σ H _ _ v us Q I rx rxs ⟨a, b, rfl, rfl, h3.1, h3.2, fun p hp => by
        obtain ⟨k1, k2, k3⟩ := hm.tupT (.cons (.str (Txt.partition a b).1) (.cons (.str (Txt.partition a b).2.1) (.cons (.str (Txt.partition a b).2.2) .nil))) hp
        exact w _ _ _ k1 k2 k3⟩
    · cases ra
      obtain ⟨h3, rfl⟩ := guardB_some e
      exact mt_strip pins s σ H _ _ v us Q I rx rxs ⟨a, rfl, rfl, of_decide_eq_true h3, fin _ (.t (.str _))⟩
    · cases ra
      obtain ⟨h3, rfl⟩ := guardB_some e
      exact mt_lower pins s σ H _ _ v us Q I rx rxs ⟨a, rfl, rfl, of_decide_eq_true h3, fin _ (.t (.str _))⟩
    · cases ra
      cases e
      exact mt_isdigit pins s σ H _ _ v us Q I rx rxs ⟨a, rfl, rfl, trivial, fin _ (.t (.bl _))⟩
    · cases e
  · cases e
theorem isStr_ok {K : PySem.W.Frag} {g : G} {v : V} {d : D} (r : Rep K g v d) (h : isStrD d = true) : ∃ a, v = .str a := by
  unfold isStrD at h
  split at h
  · cases r with
    | t r => exact ⟨_, r.str_inv⟩
  · cases h
theorem de_mth1 {m : Mth} {o e : Expr} {apos : Pos} (ho : PE X o (RdE cl X.K bs W eva)) (he : PE X e (RdE cl X.K bs W evb)) (hs : starEach [e] X.env = [(false, eval e X.env)]) (hbase : attributeBase o m.name X.env (eval o X.env) = eval o X.env) (hline : (apos.endLine == pos.line) = true) :
    PE X (.Call (.Attribute o m.name apos) [e] [] pos) (RdE cl X.K bs W fun ds S => (eva ds S).bind fun u S => if isStrD u = true then ((evb ds S).bind fun v S => .ok [v] S).bind fun as S => lift (mthD m S u as) S else .bad) :=
  pe_den (pe_m1 m.slot m.ty (mt_rule m) ho he hs hbase hline) fun σ H Q g ds S hm ss p => ⟨g, ds, S, hm, ss, (Post.step p).imp fun x H1 ⟨g1, u, S1, l1, m1, r1, p1⟩ => by
    by_cases hu : isStrD u = true
    · rw [if_pos hu] at p1
      refine ⟨isStr_ok r1 hu, g1, ds, S1, m1, ss.mono l1, ?_⟩
      rw [bind_assoc] at p1
      exact (Post.step p1).imp fun y H2 ⟨g2, v, S2, l2, m2, r2, p2⟩ => by
        obtain ⟨d, hd, p3⟩ := Post.get p2
        exact ⟨g2, S2, u, [v], d, m2, r1.mono l2, .cons r2 .nil, hd, p3⟩
    · rw [if_neg hu] at p1
      exact p1.elim⟩
theorem de_mth0 {m : Mth} {o : Expr} {apos : Pos} (ho : PE X o (RdE cl X.K bs W eva)) (hbase : attributeBase o m.name X.env (eval o X.env) = eval o X.env) (hline : (apos.endLine == pos.line) = true) :
    PE X (.Call (.Attribute o m.name apos) [] [] pos) (RdE cl X.K bs W fun ds S => (eva ds S).bind fun u S => if isStrD u = true then lift (mthD m S u []) S else .bad) :=
  pe_den (pe_m0 m.slot m.ty (mt_rule m) ho hbase hline) fun σ H Q g ds S hm ss p => ⟨g, ds, S, hm, ss, (Post.step p).imp fun x H1 ⟨g1, u, S1, l1, m1, r1, p1⟩ => by
    by_cases hu : isStrD u = true
    · rw [if_pos hu] at p1
      obtain ⟨d, hd, p3⟩ := Post.get p1
      exact ⟨isStr_ok r1 hu, g1, S1, u, [], d, m1, r1, .nil, hd, p3⟩
    · rw [if_neg hu] at p1
      exact p1.elim⟩
end
end Den

set_option maxHeartbeats 1000000
/-! Den, part 5: isinstance, what is walked, targets, calls, comprehensions. -/
namespace Den
open PySem PySem.Spec PyProof.Rows L2

/-! ### isinstance -/
def tyT : T → String
  | .none => "NoneType"
  | .bool _ => "bool"
  | .int _ => "int"
  | .str _ => "str"
  | .list _ => "list"
  | .tuple _ => "tuple"
  | .dict _ => "dict"
def tyD (S : Store) : D → Option String
  | .t x => some (tyT x)
  | .k x => some (tyT x)
  | .ref n => match S[n]? with
    | some (.lst _) => some "list"
    | _ => none
  | .mix _ => some "tuple"
section
variable {X : Cx} {cl : List Addr} {bs : List Nat}
theorem sqT_ty {K : PySem.W.Frag} {H : Hp} {a : Addr} {xs : List V} (h : SqT K H a xs) : TyX K H (.ref a) (.type "tuple") := by
  rcases h with (h | ⟨o, h⟩) | ⟨o, its, n, h1, h2, _⟩
  · exact .base (.tup h)
  · exact .fTuple h
  · exact .kTuple h1 h2
theorem sqL_ty {K : PySem.W.Frag} {H : Hp} {a : Addr} {xs : List V} (h : SqL K H a xs) : TyX K H (.ref a) (.type "list") := by
  rcases h with (h | ⟨o, h⟩) | ⟨o, its, n, h1, h2, _⟩
  · exact .base (.lst h)
  · exact .base (.frz h)
  · exact .kList h1 h2
theorem rep_ty {g : G} {S : Store} {H : Hp} (m : SimH cl X.K bs g S H) {v : V} {d : D} (r : Rep X.K g v d) {ty : String} (e : tyD S d = some ty) : TyX X.K H v (.type ty) := by
  have tt : ∀ {st : Bool} {x : T}, RepT X.K g.F st v x → tyT x = ty → TyX X.K H v (.type ty) := fun {st x} r e => by
    subst e
    cases r with
    | non => exact .base .non
    | bl b => exact .base (.bl b)
    | int i => exact .base (.int i)
    | str z => exact .base (.str z)
    | tup h _ _ => exact sqT_ty (SqT.mono m.le h)
    | lst h _ _ => exact sqL_ty (SqL.mono m.le h)
    | dK h _ _ =>
      rcases Rd.mono m.le h with h | ⟨o, h⟩
      · exact .base (.dK h)
      · exact .fDict h
  cases r with
  | t r => exact tt r (Option.some.inj e)
  | k r => exact tt r (Option.some.inj e)
  | @ref n a h =>
    have e : (match S[n]? with | some (.lst _) => some "list" | _ => none) = some ty := e
    split at e
    · rename_i ds hs
      cases e
      obtain ⟨_, vs, ho, _⟩ := m.cel n _ a hs h rfl
      exact .base (.lst ho)
    · cases e
  | mix h _ =>
    cases e
    exact sqT_ty (SqT.mono m.le h)
/-- the kinds that are asked for -/
def kits : List (String × String × Bool) := ["NoneType", "bool", "int", "str", "list", "tuple", "dict"].flatMap fun a => ["int", "bool", "str", "tuple", "list"].map fun b => (a, b, a == b || (a == "bool" && b == "int"))
theorem kits_ok : ∀ p ∈ kits, kitB p.1 p.2.1 = some p.2.2 := by decide +kernel
theorem isi_ok {g : G} {S : Store} {H : Hp} (m : SimH cl X.K bs g S H) {v : V} {d : D} (r : Rep X.K g v d) {ty : String} {k : Bool} (e : isiD S d ty = some k) : ∃ t, TyX X.K H v (.type t) ∧ PySem.W.kitOne X.K (.type t) (.type ty) = some k := by
  have tt : ∀ x : T, tyD S d = some (tyT x) → ty ∈ ["int", "bool", "str", "tuple", "list"] → k = isiT x ty → ∃ t, TyX X.K H v (.type t) ∧ PySem.W.kitOne X.K (.type t) (.type ty) = some k := fun x h1 h2 h3 => by
    refine ⟨tyT x, rep_ty m r h1, kit_ty ?_⟩
    subst h3
    refine kits_ok (tyT x, ty, isiT x ty) ?_
    simp only [List.mem_cons, List.not_mem_nil, or_false] at h2
    rcases h2 with rfl | rfl | rfl | rfl | rfl <;> cases x <;> simp [tyT, isiT, kits]
  unfold isiD at e
  split at e
  · rename_i x
    split at e
    · rename_i h; cases e; exact tt x rfl h rfl
    · cases e
  · rename_i x
    split at e
    · rename_i h; cases e; exact tt x rfl h rfl
    · cases e
  · rename_i n
    split at e
    · rename_i ds hs
      split at e
      · rename_i h
        cases e
        refine tt (.list []) (by simp [tyD, hs, tyT]) h ?_
        simp only [List.mem_cons, List.not_mem_nil, or_false] at h
        rcases h with rfl | rfl | rfl | rfl | rfl <;> rfl
      · cases e
    · cases e
  · split at e
    · rename_i h
      cases e
      refine tt (.tuple []) rfl h ?_
      simp only [List.mem_cons, List.not_mem_nil, or_false] at h
      rcases h with rfl | rfl | rfl | rfl | rfl <;> rfl
    · cases e
variable {W : WX} {a b c : Expr} {es : List Expr} {pos : Pos} {eva evb evc : Sl → Store → Res D}
theorem boot_tys : ∀ ty ∈ ["int", "bool", "str", "tuple", "list"], bootBuiltins (Str.ofString ty) = some (.type ty) ∧ Str.ofString ty ≠ "__name__" ∧ (Str.ofString ty == ("__debug__" : Str)) = false := by decide +kernel
theorem de_isi {ty : String} {p p2 : Pos} (ht : ty ∈ ["int", "bool", "str", "tuple", "list"]) (hg : Gl X "isinstance") (hm : X.mg "isinstance" = none) (hg2 : Gl X (Str.ofString ty)) (hm2 : X.mg (Str.ofString ty) = none) (ha : PE X a (RdE cl X.K bs W eva))
    (h1 : starEach [a, .Name (Str.ofString ty) p2] X.env = (false, eval a X.env) :: starEach [.Name (Str.ofString ty) p2] X.env) :
    PE X (.Call (.Name "isinstance" p) [a, .Name (Str.ofString ty) p2] [] pos) (RdE cl X.K bs W fun ds S => (eva ds S).bind fun u S => lift ((isiD S u ty).map fun k => .t (.bool k)) S) := by
  obtain ⟨q1, q2, q3⟩ := boot_tys ty ht
  have hp : PE X (.Name (Str.ofString ty) p2) (tC (.ty ty)) := pe_bltn (v := .ty ty) hg2 hm2 q1 rfl q2 q3
  have key := pe_callB (pos := pos) (p := p) call_isi hg hm PyProof.Rows.boot_isinstance (pa_cons ha (pa_cons hp pa_nil rfl) h1) (by decide) (by decide) h1 rfl
  exact pe_den key fun σ H Q g ds S m ss p => ⟨g, ds, S, m, ss, (Post.step p).imp fun x H1 ⟨g1, u, S1, l1, m1, r1, p1⟩ => by
    cases hk : isiD S1 u ty with
    | none => rw [hk] at p1; exact p1.elim
    | some k =>
      rw [hk] at p1
      obtain ⟨t, h1, h2⟩ := isi_ok m1 r1 hk
      exact ⟨x, .ty ty, .type t, .type ty, k, rfl, .ty ty, h1, h2, p1 g1 H1 _ (.refl g1) m1 (.t (.bl k))⟩⟩
end

/-! ### what is walked -/
/-- J gives the items us, one by one -/
def WalksD (cl : List Addr) (K : PySem.W.Frag) (bs : List Nat) (g : G) (us : List D) (J : It) : Prop := ∀ g' S H, g.sub g' → SimH cl K bs g' S H → ∀ i : Nat,
  (∀ d, us[i]? = some d → J.go i H ∧ ∀ x H', J.yld i H x H' → ∃ g'', g'.le g'' ∧ SimH cl K bs g'' S H' ∧ Rep K g'' x d) ∧ (us.length ≤ i → i ≤ us.length → J.stop i H)
def PostI (cl : List Addr) (K : PySem.W.Frag) (bs : List Nat) (g : G) (W : XK) (r : Res (List D)) (R : It → Hp → Prop) : Prop :=
  match r with
  | .ok us S => ∀ g' H J, g.le g' → SimH cl K bs g' S H → WalksD cl K bs g' us J → R J H
  | .exc c fs S => ∀ g' H cls dx, g.le g' → SimH cl K bs g' S H → ExcAt cl K g' c fs cls dx H → W cls dx H
  | .bad => False
def RdI (cl : List Addr) (K : PySem.W.Frag) (bs : List Nat) (W : WX) (ev : Sl → Store → Res (List D)) : TI := fun σ H R =>
  ∃ g ds S, SimH cl K bs g S H ∧ SimS K g ds σ ∧ PostI cl K bs g (fun c d H => W c d σ H) (ev ds S) R
section
variable {X : Cx} {cl : List Addr} {bs : List Nat} {W : WX} {a b c : Expr} {es : List Expr} {pos : Pos} {eva evb evc : Sl → Store → Res D} {tg : Expr}
theorem pi_den {t : TI} {ev : Sl → Store → Res (List D)} (h : PI X tg a t) (k : ∀ σ H R g ds S, SimH cl X.K bs g S H → SimS X.K g ds σ → PostI cl X.K bs g (fun c d H => W c d σ H) (ev ds S) R → t σ H R) : PI X tg a (RdI cl X.K bs W ev) :=
  ⟨fun pins s σ H Q I ⟨g, ds, S, m, ss, p⟩ => h.run pins s σ H Q I (k σ H Q g ds S m ss p)⟩
theorem pi_mono {t t' : TI} (h : PI X tg a t) (k : ∀ σ H Q, t' σ H Q → t σ H Q) : PI X tg a t' := ⟨fun pins s σ H Q I q => h.run pins s σ H Q I (k σ H Q q)⟩
theorem PostI.up {g g' : G} {W : XK} {r : Res (List D)} {R : It → Hp → Prop} (h : PostI cl X.K bs g W r R) (l : g.le g') : PostI cl X.K bs g' W r R := by
  cases r with
  | ok us S => exact fun g2 H J l2 m w => h g2 H J (l.trans l2) m w
  | exc _ _ _ => exact fun g2 H cls dx l2 m w => h g2 H cls dx (l.trans l2) m w
  | bad => exact h
theorem PostI.step {α β : Type} {g : G} {W : XK} {r : Res α} {f : α → Store → Res (List D)} {R : It → Hp → Prop} {rel : G → β → α → Prop} (h : PostI cl X.K bs g W (r.bind f) R) :
    Post cl X.K bs g W rel r fun y H => ∃ g' a S, g.le g' ∧ SimH cl X.K bs g' S H ∧ rel g' y a ∧ PostI cl X.K bs g' W (f a S) R := by
  cases r with
  | ok a S => exact fun g' H y l m q => ⟨g', a, S, l, m, q, PostI.up h l⟩
  | exc _ _ _ => exact h
  | bad => exact h
theorem walksT {g : G} {p : Addr} {vs : List V} {us : List D} (h : SqT X.K g.F p vs) (r : Reps X.K g vs us) : WalksD cl X.K bs g us (Itt X.K p) := fun g' S H l m i => by
  have hs : SqT X.K H p vs := SqT.mono m.le (SqT.mono l.F h)
  refine ⟨fun d e => ?_, fun hi _ => ⟨vs, hs, by rw [r.length]; exact hi⟩⟩
  obtain ⟨v, e1, r1⟩ := r.get e
  refine ⟨⟨vs, v, hs, e1⟩, fun x H' ⟨eh, hx⟩ => ?_⟩
  subst eh
  have e2 := hx vs hs
  rw [e1] at e2
  cases e2
  exact ⟨g', .refl g', m, r1.monoF l.F l.ρ⟩
theorem walksL {g : G} {p : Addr} {vs : List V} {us : List D} (h : SqL X.K g.F p vs) (r : Reps X.K g vs us) : WalksD cl X.K bs g us (Itl X.K p) := fun g' S H l m i => by
  have hs : SqL X.K H p vs := SqL.mono m.le (SqL.mono l.F h)
  refine ⟨fun d e => ?_, fun hi _ => ⟨vs, hs, by rw [r.length]; exact hi⟩⟩
  obtain ⟨v, e1, r1⟩ := r.get e
  refine ⟨⟨vs, v, hs, e1⟩, fun x H' ⟨eh, hx⟩ => ?_⟩
  subst eh
  have e2 := hx vs hs
  rw [e1] at e2
  cases e2
  exact ⟨g', .refl g', m, r1.monoF l.F l.ρ⟩
theorem walksR {g : G} {lo hi : Int} : WalksD cl X.K bs g (rangeD lo hi) (Itr lo (hi - lo).toNat) := fun g' S H l m i => by
  unfold rangeD
  refine ⟨fun d e => ?_, fun h _ => (show _ ≤ i by simpa using h)⟩
  rw [List.getElem?_map] at e
  cases hi' : (List.range (hi - lo).toNat)[i]? with
  | none => rw [hi'] at e; cases e
  | some j =>
    rw [hi'] at e
    cases e
    obtain ⟨h1, h2⟩ := List.getElem?_eq_some_iff.mp hi'
    rw [List.getElem_range] at h2
    subst h2
    refine ⟨(show i < _ by simpa using h1), fun x H' ⟨eh, hx⟩ => ?_⟩
    subst eh hx
    exact ⟨g', .refl g', m, .t (.int _)⟩
theorem walksS {g : G} {z : Str} : WalksD cl X.K bs g (z.cps.toList.map fun c => .t (.str ⟨#[c]⟩)) (Its z) := fun g' S H l m i => by
  refine ⟨fun d e => ?_, fun h _ => (show _ ≤ i by simpa using h)⟩
  rw [List.getElem?_map] at e
  cases hi' : z.cps.toList[i]? with
  | none => rw [hi'] at e; cases e
  | some j =>
    rw [hi'] at e
    cases e
    have h1 : i < z.cps.size := by simpa using (List.getElem?_eq_some_iff.mp hi').1
    refine ⟨h1, fun x H' ⟨eh, c, hc, hx⟩ => ?_⟩
    subst eh hx
    have : z.cps[i]? = some j := by rw [← Array.getElem?_toList]; exact hi'
    rw [this] at hc
    cases hc
    exact ⟨g', .refl g', m, .t (.str _)⟩
/-- the items of what may stand as a sequence -/
def seqI (u : D) (S : Store) : Res (List D) := match u with
  | .ref _ => .bad
  | .t (.str s) => .ok (s.cps.toList.map fun c => .t (.str ⟨#[c]⟩)) S
  | u => lift (seqD S u) S
theorem reps_kD {g : G} : ∀ {vs : List V} {xs : List T}, RepTs X.K g.F false vs xs → Reps X.K g vs (xs.map kD)
  | _, _, .nil => .nil
  | _, _, .cons r t => .cons r.up (reps_kD t)
theorem di_seq (ha : PE X a (RdE cl X.K bs W eva)) : PI X tg a (RdI cl X.K bs W fun ds S => (eva ds S).bind seqI) := by
  refine ⟨fun pins s σ H R I ⟨g, ds, S, m, ss, p⟩ => ?_⟩
  have p : PostI cl X.K bs g (fun c d H => W c d σ H) ((eva ds S).bind seqI) R := p
  cases h1 : eva ds S with
  | bad => rw [h1] at p; exact p.elim
  | exc c fs S1 =>
    rw [h1] at p
    exact (pi_list ha).run pins s σ H R I ⟨g, ds, S, m, ss, by rw [h1]; exact p⟩
  | ok u S1 =>
    rw [h1] at p
    simp only [Res.bind_ok] at p
    have tup : ∀ us, seqI u S1 = .ok us S1 → (∀ g' v, g.le g' → Rep X.K g' v u → ∃ q vs, v = .ref q ∧ SqT X.K g'.F q vs ∧ Reps X.K g' vs us) → wpAny (model X.prog X.w) X.A (eval a X.env) (fun v s1 => wpAny (model X.prog X.w) X.A (pyIter v) (PIE X pins σ tg R) X.xe s1) X.xe s := fun us he hk =>
      (pi_tup ha).run pins s σ H R I ⟨g, ds, S, m, ss, by
        rw [h1]
        intro g' H' y l m' r
        obtain ⟨q, vs, rfl, hs, hr⟩ := hk g' y l r
        rw [he] at p
        exact ⟨q, rfl, ⟨vs, SqT.mono m'.le hs⟩, p g' H' _ l m' (walksT hs hr)⟩⟩
    have lst : ∀ us, seqI u S1 = .ok us S1 → (∀ g' v, g.le g' → Rep X.K g' v u → ∃ q vs, v = .ref q ∧ SqL X.K g'.F q vs ∧ Reps X.K g' vs us) → wpAny (model X.prog X.w) X.A (eval a X.env) (fun v s1 => wpAny (model X.prog X.w) X.A (pyIter v) (PIE X pins σ tg R) X.xe s1) X.xe s := fun us he hk =>
      (pi_list ha).run pins s σ H R I ⟨g, ds, S, m, ss, by
        rw [h1]
        intro g' H' y l m' r
        obtain ⟨q, vs, rfl, hs, hr⟩ := hk g' y l r
        rw [he] at p
        exact ⟨q, rfl, ⟨vs, SqL.mono m'.le hs⟩, p g' H' _ l m' (walksL hs hr)⟩⟩
    cases u with
    | ref n => exact p.elim
    | mix us =>
      refine tup us rfl fun g' v l r => ?_
      cases r with
      | mix h hr => exact ⟨_, _, rfl, h, hr⟩
    | t x =>
      cases x with
      | tuple xs =>
        refine tup (xs.map .t) rfl fun g' v l r => ?_
        cases r with
        | t r =>
          obtain ⟨q, vs, rfl, h, _, hr⟩ := r.tuple_inv
          exact ⟨q, vs, rfl, h, hr.reps⟩
      | list xs =>
        refine lst (xs.map .t) rfl fun g' v l r => ?_
        cases r with
        | t r =>
          obtain ⟨q, vs, rfl, h, _, hr⟩ := r.list_inv
          exact ⟨q, vs, rfl, h, hr.reps⟩
      | str z =>
        exact (pi_str ha).run pins s σ H R I ⟨g, ds, S, m, ss, by
          rw [h1]
          intro g' H' y l m' r
          cases r with
          | t r =>
            obtain rfl := r.str_inv
            exact ⟨z, rfl, p g' H' _ l m' walksS⟩⟩
      | _ => exact p.elim
    | k x =>
      cases x with
      | tuple xs =>
        refine tup (xs.map kD) rfl fun g' v l r => ?_
        cases r with
        | k r =>
          obtain ⟨q, vs, rfl, h, _, hr⟩ := r.tuple_inv
          exact ⟨q, vs, rfl, h, reps_kD hr⟩
      | list xs =>
        refine lst (xs.map kD) rfl fun g' v l r => ?_
        cases r with
        | k r =>
          obtain ⟨q, vs, rfl, h, _, hr⟩ := r.list_inv
          exact ⟨q, vs, rfl, h, reps_kD hr⟩
      | _ => exact p.elim
theorem di_rng1 {p : Pos} (hg : Gl X "range") (hm : X.mg "range" = none) (ha : PE X a (RdE cl X.K bs W eva)) (hs : starEach [a] X.env = [(false, eval a X.env)]) :
    PI X tg (.Call (.Name "range" p) [a] [] pos) (RdI cl X.K bs W fun ds S => (eva ds S).bind fun u S => match u with
      | .t (.int j) => if -(2 ^ 62) ≤ j ∧ j < 2 ^ 62 then .ok (rangeD 0 j) S else .bad
      | _ => .bad) :=
  pi_den (pi_range1 hg hm (pa_cons ha pa_nil hs) hs) fun σ H R g ds S m ss p => ⟨g, ds, S, m, ss, (PostI.step p).imp fun x H1 ⟨g1, u, S1, l1, m1, r1, p1⟩ => by
    split at p1
    · rename_i j
      split at p1
      · rename_i h
        obtain rfl := r1.intT
        exact ⟨j, rfl, h.1, h.2, p1 g1 H1 _ (.refl g1) m1 (by have := walksR (X := X) (cl := cl) (bs := bs) (g := g1) (lo := 0) (hi := j); rw [Int.sub_zero] at this; exact this)⟩
      · exact p1.elim
    · exact p1.elim⟩
theorem di_rng2 {p : Pos} (hg : Gl X "range") (hm : X.mg "range" = none) (ha : PE X a (RdE cl X.K bs W eva)) (hb : PE X b (RdE cl X.K bs W evb)) (hs : starEach [a, b] X.env = [(false, eval a X.env), (false, eval b X.env)]) (hs2 : starEach [b] X.env = [(false, eval b X.env)])
    (hs3 : starEach [a, b] X.env = (false, eval a X.env) :: starEach [b] X.env) :
    PI X tg (.Call (.Name "range" p) [a, b] [] pos) (RdI cl X.K bs W fun ds S => (eva ds S).bind fun u S => (evb ds S).bind fun v S => match u, v with
      | .t (.int i), .t (.int j) => if -(2 ^ 62) ≤ i ∧ i < 2 ^ 62 ∧ -(2 ^ 62) ≤ j ∧ j < 2 ^ 62 then .ok (rangeD i j) S else .bad
      | _, _ => .bad) :=
  pi_den (pi_range2 hg hm (pa_cons ha (pa_cons hb pa_nil hs2) hs3) hs hs2) fun σ H R g ds S m ss p => ⟨g, ds, S, m, ss, (PostI.step p).imp fun x H1 ⟨g1, u, S1, l1, m1, r1, p1⟩ =>
    ⟨g1, ds, S1, m1, ss.mono l1, (PostI.step p1).imp fun y H2 ⟨g2, v, S2, l2, m2, r2, p2⟩ => by
      split at p2
      · rename_i i j
        split at p2
        · rename_i h
          obtain rfl := r1.intT
          obtain rfl := r2.intT
          exact ⟨_, _, rfl, h, p2 g2 H2 _ (.refl g2) m2 walksR⟩
        · exact p2.elim
      · exact p2.elim⟩⟩
end
end Den

set_option maxHeartbeats 1000000
/-! Den, part 6: targets, calls. -/
namespace Den
open PySem PySem.Spec PyProof.Rows L2

/-! ### targets -/
/-- the slots vs alone have changed -/
def Off (vs : List Nat) (σ σ' : L2.St) : Prop := σ'.length = σ.length ∧ ∀ i, i ∉ vs → σ'[i]? = σ[i]?
theorem Off.refl {vs : List Nat} {σ : L2.St} : Off vs σ σ := ⟨rfl, fun _ _ => rfl⟩
theorem Off.trans {vs ws : List Nat} {a b c : L2.St} (h : Off vs a b) (k : Off ws b c) : Off (vs ++ ws) a c :=
  ⟨k.1.trans h.1, fun i hi => by
    rw [List.mem_append, not_or] at hi
    exact (k.2 i hi.2).trans (h.2 i hi.1)⟩
theorem wipe_get {vs : List Nat} : ∀ {σ : L2.St} {i : Nat}, (wipe σ vs)[i]? = if i ∈ vs ∧ i < σ.length then some none else σ[i]? := by
  induction vs with
  | nil => intro σ i; simp [wipe]
  | cons v vs ih =>
    intro σ i
    unfold wipe
    by_cases hv : v = i
    · subst hv
      by_cases hl : v < σ.length
      · rw [List.getElem?_set_self (by rw [wipe_length]; exact hl), if_pos ⟨by simp, hl⟩]
      · rw [if_neg (fun h => hl h.2), List.getElem?_eq_none (by rw [List.length_set, wipe_length]; omega), List.getElem?_eq_none (by omega)]
    · rw [List.getElem?_set_ne hv, ih]
      have hv' : ¬ i = v := fun z => hv z.symm
      by_cases hm : i ∈ vs <;> simp [hm, hv']
theorem Off.wiped {vs : List Nat} {σ σ' : L2.St} (h : Off vs σ σ') : wipe σ' vs = wipe σ vs := by
  refine List.ext_getElem? fun i => ?_
  rw [wipe_get, wipe_get, h.1]
  split
  · rfl
  · rename_i hi
    by_cases hv : i ∈ vs
    · have : ¬ i < σ.length := fun z => hi ⟨hv, z⟩
      rw [List.getElem?_eq_none (by have := h.1; omega), List.getElem?_eq_none (by omega)]
    · exact h.2 i hv
theorem wipeD_get {vs : List Nat} : ∀ {ds : Sl} {i : Nat}, (wipeD ds vs)[i]? = if i ∈ vs ∧ i < ds.length then some none else ds[i]? := by
  induction vs with
  | nil => intro σ i; simp [wipeD]
  | cons v vs ih =>
    intro σ i
    have hl' : (wipeD σ vs).length = σ.length := by
      clear ih
      induction vs with
      | nil => rfl
      | cons w ws ih => unfold wipeD; rw [List.length_set, ih]
    unfold wipeD
    by_cases hv : v = i
    · subst hv
      by_cases hl : v < σ.length
      · rw [List.getElem?_set_self (by rw [hl']; exact hl), if_pos ⟨by simp, hl⟩]
      · rw [if_neg (fun h => hl h.2), List.getElem?_eq_none (by rw [List.length_set, hl']; omega), List.getElem?_eq_none (by omega)]
    · rw [List.getElem?_set_ne hv, ih]
      have hv' : ¬ i = v := fun z => hv z.symm
      by_cases hm : i ∈ vs <;> simp [hm, hv']
theorem wipeD_length {vs : List Nat} {ds : Sl} : (wipeD ds vs).length = ds.length := by
  induction vs with
  | nil => rfl
  | cons w ws ih => unfold wipeD; rw [List.length_set, ih]
theorem SimS.wiped {K : PySem.W.Frag} {g : G} {ds : Sl} {σ : L2.St} (s : SimS K g ds σ) (vs : List Nat) : SimS K g (wipeD ds vs) (wipe σ vs) := by
  refine ⟨by rw [wipeD_length, wipe_length]; exact s.1, fun i d e => ?_⟩
  rw [wipeD_get] at e
  rw [wipe_get]
  split at e
  · cases e
  · rename_i h
    rw [s.1] at h
    rw [if_neg h]
    exact s.2 i d e
/-- behind a wiped part -/
theorem SimS.unwipe {K : PySem.W.Frag} {g : G} {ds : Sl} {σ σ' : L2.St} {vs : List Nat} (s : SimS K g ds σ) (h : Off vs (wipe σ vs) σ') : SimS K g (wipeD ds vs) σ' := by
  refine ⟨by rw [wipeD_length, h.1, wipe_length]; exact s.1, fun i d e => ?_⟩
  by_cases hv : i ∈ vs
  · rw [wipeD_get] at e
    split at e
    · cases e
    · rename_i hi
      have := (List.getElem?_eq_some_iff.mp e).1
      exact absurd ⟨hv, this⟩ hi
  · obtain ⟨v, e1, r⟩ := (s.wiped vs).2 i d e
    exact ⟨v, by rw [h.2 i hv]; exact e1, r⟩
def PostG (cl : List Addr) (K : PySem.W.Frag) (bs : List Nat) (g : G) (vs : List Nat) (σ : L2.St) (r : Res Sl) (Q : L2.St → Hp → Prop) : Prop :=
  match r with
  | .ok ds' S' => ∀ g' H' σ', g.le g' → SimH cl K bs g' S' H' → SimS K g' ds' σ' → Off vs σ σ' → Q σ' H'
  | _ => False
def RdG (cl : List Addr) (K : PySem.W.Frag) (bs : List Nat) (vs : List Nat) (ev : D → Sl → Store → Res Sl) : TG := fun v σ H Q =>
  ∃ g d ds S, SimH cl K bs g S H ∧ SimS K g ds σ ∧ Rep K g v d ∧ PostG cl K bs g vs σ (ev d ds S) Q
def RdGs (cl : List Addr) (K : PySem.W.Frag) (bs : List Nat) (vs : List Nat) (ev : List D → Sl → Store → Res Sl) : TGs := fun v σ H Q =>
  ∃ g d ds S, SimH cl K bs g S H ∧ SimS K g ds σ ∧ Reps K g v d ∧ PostG cl K bs g vs σ (ev d ds S) Q
section
variable {X : Cx} {cl : List Addr} {bs : List Nat} {W : WX} {a b c o i : Expr} {es : List Expr} {pos : Pos} {eva evb evc : Sl → Store → Res D} {tg : Expr} {vs ws : List Nat}
theorem dg_name {i : Nat} {x : Str} (hN : X.N.Nodup) (hi : X.N[i]? = some x) (hx : Loc X.env.scope x) (hf : X.fn x = true ∨ X.env.scope.names.lookup x = some .local) :
    PG X (.Name x pos) (RdG cl X.K bs [i] fun d ds S => .ok (ds.set i (some d)) S) :=
  ⟨fun pins s σ H v u Q I r ⟨g, d, ds, S, m, ss, rd, p⟩ => (pg_name hN hi hx hf).run pins s σ H v u Q I r
    (p g H _ (.refl g) m (ss.set i rd) ⟨by simp, fun j hj => List.getElem?_set_ne fun z => hj (by simp [z])⟩)⟩
theorem dgs_nil : PGs X [] (RdGs cl X.K bs [] fun us ds S => match us with | [] => .ok ds S | _ => .bad) :=
  ⟨fun pins s σ H v u Q I r ⟨g, d, ds, S, m, ss, rd, p⟩ => pgs_nil.run pins s σ H v u Q I r (by
    cases rd with
    | nil => exact ⟨rfl, p g H σ (.refl g) m ss .refl⟩
    | cons _ _ => exact p.elim)⟩
theorem PostG.step {g : G} {σ : L2.St} {r : Res Sl} {f : Sl → Store → Res Sl} {Q : L2.St → Hp → Prop} (h : PostG cl X.K bs g (vs ++ ws) σ (r.bind f) Q) :
    PostG cl X.K bs g vs σ r fun σ' H' => ∃ g' ds' S', g.le g' ∧ SimH cl X.K bs g' S' H' ∧ SimS X.K g' ds' σ' ∧ PostG cl X.K bs g' ws σ' (f ds' S') Q := by
  cases r with
  | ok ds S =>
    intro g' H' σ' l m ss off
    refine ⟨g', ds, S, l, m, ss, ?_⟩
    have h : PostG cl X.K bs g (vs ++ ws) σ (f ds S) Q := h
    show PostG cl X.K bs g' ws σ' (f ds S) Q
    cases hf : f ds S with
    | ok ds2 S2 => rw [hf] at h; exact fun g2 H2 σ2 l2 m2 s2 off2 => h g2 H2 σ2 (l.trans l2) m2 s2 (off.trans off2)
    | exc _ _ _ => rw [hf] at h; exact h
    | bad => rw [hf] at h; exact h
  | exc _ _ _ => exact h.elim
  | bad => exact h.elim
theorem dgs_cons {e : Expr} {ev : D → Sl → Store → Res Sl} {evs : List D → Sl → Store → Res Sl} (h1 : PG X e (RdG cl X.K bs vs ev)) (h2 : PGs X es (RdGs cl X.K bs ws evs))
    (hs : (assignEach (e :: es) X.env).map (·.2) = assign e X.env :: (assignEach es X.env).map (·.2)) :
    PGs X (e :: es) (RdGs cl X.K bs (vs ++ ws) fun us ds S => match us with
      | d :: us => (ev d ds S).bind fun ds S => evs us ds S
      | [] => .bad) :=
  ⟨fun pins s σ H v u Q I r ⟨g, d, ds, S, m, ss, rd, p⟩ => (pgs_cons h1 h2 hs).run pins s σ H v u Q I r (by
    cases rd with
    | nil => exact p.elim
    | @cons v vr d dr r1 r2 =>
      refine ⟨v, vr, rfl, g, d, ds, S, m, ss, r1, ?_⟩
      have p : PostG cl X.K bs g (vs ++ ws) σ ((ev d ds S).bind fun ds S => evs dr ds S) Q := p
      have q := PostG.step p
      cases h : ev d ds S with
      | ok ds1 S1 =>
        rw [h] at q
        intro g' H' σ' l m' ss' off
        obtain ⟨g2, ds2, S2, l2, m2, ss2, p2⟩ := q g' H' σ' l m' ss' off
        exact ⟨g2, dr, ds2, S2, m2, ss2, r2.mono l2, p2⟩
      | exc _ _ _ => rw [h] at q; exact q.elim
      | bad => rw [h] at q; exact q.elim)⟩
theorem tupI_ok {g : G} {v : V} {d : D} {us : List D} (r : Rep X.K g v d) (h : tupI d = some us) : ∃ p vs, v = .ref p ∧ SqT X.K g.F p vs ∧ Reps X.K g vs us := by
  unfold tupI at h
  split at h
  · cases h
    cases r with
    | t r =>
      obtain ⟨q, vs, rfl, h, _, hr⟩ := r.tuple_inv
      exact ⟨q, vs, rfl, h, hr.reps⟩
  · cases h
    cases r with
    | k r =>
      obtain ⟨q, vs, rfl, h, _, hr⟩ := r.tuple_inv
      exact ⟨q, vs, rfl, h, reps_kD hr⟩
  · cases h
    cases r with
    | mix h hr => exact ⟨_, _, rfl, h, hr⟩
  · cases h
theorem lstI_ok {g : G} {v : V} {d : D} {us : List D} (r : Rep X.K g v d) (h : lstI d = some us) : ∃ p vs, v = .ref p ∧ SqL X.K g.F p vs ∧ Reps X.K g vs us := by
  unfold lstI at h
  split at h
  · cases h
    cases r with
    | t r =>
      obtain ⟨q, vs, rfl, h, _, hr⟩ := r.list_inv
      exact ⟨q, vs, rfl, h, hr.reps⟩
  · cases h
    cases r with
    | k r =>
      obtain ⟨q, vs, rfl, h, _, hr⟩ := r.list_inv
      exact ⟨q, vs, rfl, h, reps_kD hr⟩
  · cases h
theorem dg_tup {k n : Nat} {evs : List D → Sl → Store → Res Sl} (hc : X.calm = true) (h : PGs X es (RdGs cl X.K bs vs evs)) (hl : ∀ us ds S ds' S', evs us ds S = .ok ds' S' → us.length = n)
    (hn : (assignEach es X.env).length = n) (hst : (assignEach es X.env).findIdx? (·.1) = none) :
    PG X (.Tuple es k pos) (RdG cl X.K bs vs fun d ds S => match tupI d with | some us => evs us ds S | none => .bad) :=
  ⟨fun pins s σ H v u Q I r ⟨g, d, ds, S, m, ss, rd, p⟩ => (pg_tup hc h hn hst).run pins s σ H v u Q I r (by
    have p : PostG cl X.K bs g vs σ (match tupI d with | some us => evs us ds S | none => .bad) Q := p
    cases hu : tupI d with
    | none => rw [hu] at p; exact p.elim
    | some us =>
      rw [hu] at p
      have p : PostG cl X.K bs g vs σ (evs us ds S) Q := p
      obtain ⟨a, xs, rfl, hs, hr⟩ := tupI_ok rd hu
      refine ⟨a, xs, rfl, SqT.mono m.le hs, ?_, g, us, ds, S, m, ss, hr, p⟩
      rw [hr.length]
      cases he : evs us ds S with
      | ok ds' S' => exact hl us ds S ds' S' he
      | exc _ _ _ => rw [he] at p; exact p.elim
      | bad => rw [he] at p; exact p.elim)⟩
theorem PostG.stepN {α β : Type} {g : G} {σ : L2.St} {r : Res α} {f : α → Store → Res Sl} {Q : L2.St → Hp → Prop} {V : XK} {rel : G → β → α → Prop} (h : PostG cl X.K bs g vs σ (r.noexc.bind f) Q) :
    Post cl X.K bs g V rel r fun y H => ∃ g' a S, g.le g' ∧ SimH cl X.K bs g' S H ∧ rel g' y a ∧ PostG cl X.K bs g' vs σ (f a S) Q := by
  cases r with
  | ok a S =>
    intro g' H y l m q
    refine ⟨g', a, S, l, m, q, ?_⟩
    have h : PostG cl X.K bs g vs σ (f a S) Q := h
    show PostG cl X.K bs g' vs σ (f a S) Q
    cases hf : f a S with
    | ok ds2 S2 => rw [hf] at h; exact fun g2 H2 σ2 l2 m2 s2 off2 => h g2 H2 σ2 (l.trans l2) m2 s2 off2
    | exc _ _ _ => rw [hf] at h; exact h
    | bad => rw [hf] at h; exact h
  | exc _ _ _ => exact h.elim
  | bad => exact h.elim
def rSet : TSet := fun o i v H Q => rSetL o i v H Q ∨ rSetD o i v H Q
theorem set_any (hu : X.A.units + 1 < cLine) : PSet X rSet := fun pins s σ H o i v ov iv u Q I r1 r2 r3 h => h.elim (set_list pins s σ H o i v ov iv u Q I r1 r2 r3) (set_dict hu pins s σ H o i v ov iv u Q I r1 r2 r3)
theorem putD_keys {κ : Type} [DecidableEq κ] {l : List (κ × V)} {r : List (κ × D)} (e : l.map (·.1) = r.map (·.1)) (k : κ) (v : V) (d : D) : (putK l k v).map (·.1) = (putD r k d).map (·.1) := by
  have ha : (l.any fun p => decide (p.1 = k)) = (r.any fun p => decide (p.1 = k)) := by
    have h1 : (l.any fun p => decide (p.1 = k)) = (l.map (·.1)).any fun p => decide (p = k) := by rw [List.any_map]; rfl
    have h2 : (r.any fun p => decide (p.1 = k)) = (r.map (·.1)).any fun p => decide (p = k) := by rw [List.any_map]; rfl
    rw [h1, h2, e]
  unfold putK putD
  rw [ha]
  split
  · have f1 : ((fun x : κ × V => x.1) ∘ fun kv : κ × V => if kv.1 = k then (kv.1, v) else kv) = fun x => x.1 := by funext x; simp only [Function.comp]; split <;> rfl
    have f2 : ((fun x : κ × D => x.1) ∘ fun kv : κ × D => if kv.1 = k then (kv.1, d) else kv) = fun x => x.1 := by funext x; simp only [Function.comp]; split <;> rfl
    rw [List.map_map, List.map_map, f1, f2]
    exact e
  · simp [e]
theorem putD_reps {κ : Type} [DecidableEq κ] {g : G} {k : κ} {v : V} {d : D} (rv : Rep X.K g v d) : ∀ {l : List (κ × V)} {r : List (κ × D)}, l.map (·.1) = r.map (·.1) → Reps X.K g (l.map (·.2)) (r.map (·.2)) → Reps X.K g ((putK l k v).map (·.2)) ((putD r k d).map (·.2)) := by
  intro l r e h
  have ha : (l.any fun p => decide (p.1 = k)) = (r.any fun p => decide (p.1 = k)) := by
    have h1 : (l.any fun p => decide (p.1 = k)) = (l.map (·.1)).any fun p => decide (p = k) := by rw [List.any_map]; rfl
    have h2 : (r.any fun p => decide (p.1 = k)) = (r.map (·.1)).any fun p => decide (p = k) := by rw [List.any_map]; rfl
    rw [h1, h2, e]
  unfold putK putD
  rw [ha]
  split
  · rename_i hh
    clear ha hh
    induction l generalizing r with
    | nil =>
      cases r with
      | nil => exact .nil
      | cons _ _ => simp at e
    | cons p l ih =>
      cases r with
      | nil => simp at e
      | cons q r =>
        simp only [List.map_cons, List.cons.injEq] at e h ⊢
        cases h with
        | cons h1 h2 =>
          refine .cons ?_ (ih e.2 h2)
          have e1 : p.1 = q.1 := e.1
          by_cases hk : p.1 = k
          · rw [if_pos hk, if_pos (e1.symm.trans hk)]
            exact rv
          · rw [if_neg hk, if_neg (fun z => hk (e1.trans z))]
            exact h1
  · rw [List.map_append, List.map_append]
    exact h.append (.cons rv .nil)
theorem putD_mem {κ : Type} [DecidableEq κ] {r : List (κ × D)} {k : κ} {d x : D} (h : x ∈ (putD r k d).map (·.2)) : x ∈ r.map (·.2) ∨ x = d := by
  unfold putD at h
  split at h
  · rw [List.map_map] at h
    obtain ⟨p, hp, e⟩ := List.mem_map.mp h
    simp only [Function.comp] at e
    split at e
    · exact .inr e.symm
    · exact .inl (List.mem_map.mpr ⟨p, hp, e⟩)
  · rw [List.map_append, List.mem_append] at h
    rcases h with h | h
    · exact .inl h
    · exact .inr (by simpa using h)
theorem mayW_ok {b n : Nat} {d : D} (h : mayW b n d = true) (hn : n < b) : d.low (n + 1) = true := by
  unfold mayW at h
  rw [Bool.or_eq_true, decide_eq_true_eq] at h
  exact h.resolve_left (by omega)
theorem set_ok {b : Nat} {g : G} {S S' : Store} {H : Hp} (hb : ∀ c ∈ bs, c ≤ b) (m : SimH cl X.K bs g S H) {x y v : V} {u k d : D} (rx : Rep X.K g x u) (ry : Rep X.K g y k) (rv : Rep X.K g v d) (h : setD b S u k d = some S')
    {Q : Hp → Prop} (q : ∀ H', SimH cl X.K bs g S' H' → Q H') : rSet x y v H Q := by
  cases u with
  | t _ => cases h
  | k _ => cases h
  | mix _ => cases h
  | ref n =>
    cases k with
    | k _ => cases h
    | ref _ => cases h
    | mix _ => cases h
    | t z =>
      cases rx with
      | @ref n a ha =>
        unfold setD at h
        dsimp only at h
        split at h
        · rename_i ds hs
          obtain ⟨q1, vs, ho, hr⟩ := m.cel n _ a hs ha rfl
          cases z with
          | int i =>
            dsimp only at h
            split at h
            · rename_i j hj
              obtain ⟨h1, rfl⟩ := guardB_some h
              obtain rfl := ry.intT
              refine .inl ⟨a, vs, i, j, rfl, rfl, ho, by rw [hr.length]; exact hj, q _ ?_⟩
              refine m.put hb hs ha rfl ⟨_, rfl, hr.set rv j⟩ fun hn e he => ?_
              rcases List.mem_or_eq_of_mem_set he with z | z
              · exact .inl z
              · exact .inr (z ▸ mayW_ok h1 hn)
            · cases h
          | _ => cases h
        · rename_i kvs hs
          obtain ⟨q1, kvs', ho, he, hr⟩ := m.cel n _ a hs ha rfl
          split at h
          · rename_i k hk
            obtain ⟨h1, rfl⟩ := guardB_some h
            rw [Bool.and_eq_true, decide_eq_true_eq] at h1
            cases ry with
            | t ry =>
              obtain rfl := keyK_rep ry hk
              have hl : kvs'.length = kvs.length := by have := congrArg List.length he; simpa using this
              refine .inr ⟨a, _, rfl, DPut.k (k := k) ho (by rw [hl]; exact h1.2), q _ ?_⟩
              refine m.put hb hs ha rfl ⟨_, rfl, putD_keys he k v d, putD_reps rv he hr⟩ fun hn e he' => ?_
              rcases putD_mem he' with z | z
              · exact .inl z
              · exact .inr (z ▸ mayW_ok h1.1 hn)
          · cases h
        · rename_i kvs hs
          obtain ⟨q1, kvs', ho, he, hr⟩ := m.cel n _ a hs ha rfl
          split at h
          · rename_i k hk
            obtain ⟨h1, rfl⟩ := guardB_some h
            rw [Bool.and_eq_true, decide_eq_true_eq] at h1
            cases ry with
            | t ry =>
              obtain ⟨c, rfl, hc⟩ := keyT_rep ry hk
              have hl : kvs'.length = kvs.length := by have := congrArg List.length he; simpa using this
              refine .inr ⟨a, _, rfl, DPut.t (k := k) ho (m.le _ _ hc) (by rw [hl]; exact h1.2), q _ ?_⟩
              refine m.put hb hs ha rfl ⟨_, rfl, putD_keys he k v d, putD_reps rv he hr⟩ fun hn e he' => ?_
              rcases putD_mem he' with z | z
              · exact .inl z
              · exact .inr (z ▸ mayW_ok h1.1 hn)
          · cases h
        · cases h
theorem dg_idx {bf : Nat} (hb : ∀ c ∈ bs, c ≤ bf) (hu : X.A.units + 1 < cLine) (ho : PE X o (RdE cl X.K bs W eva)) (hi : PE X i (RdE cl X.K bs W evb))
    (ha : ∀ v, assign (.Subscript o i pos) X.env v = (do
      let ov ← holding [v] (eval o X.env)
      let iv ← holding [v, ov] (eval i X.env)
      standAt pos
      holding [v, ov, iv] (setItem ov iv v)
      release [v, ov, iv] [])) :
    PG X (.Subscript o i pos) (RdG cl X.K bs [] fun d ds S => ((eva ds S).noexc).bind fun u S => ((evb ds S).noexc).bind fun v S => match setD bf S u v d with
      | some S => .ok ds S
      | none => .bad) :=
  ⟨fun pins s σ H v u Q I r ⟨g, d, ds, S, m, ss, rd, p⟩ => (pg_sub ho hi (set_any hu) ha).run pins s σ H v u Q I r
    ⟨g, ds, S, m, ss, (PostG.stepN p).imp fun x H1 ⟨g1, u1, S1, l1, m1, r1, p1⟩ => ⟨g1, ds, S1, m1, ss.mono l1, (PostG.stepN p1).imp fun y H2 ⟨g2, u2, S2, l2, m2, r2, p2⟩ => by
      have p2 : PostG cl X.K bs g2 [] σ (match setD bf S2 u1 u2 d with | some S => .ok ds S | none => .bad) Q := p2
      cases hS : setD bf S2 u1 u2 d with
      | none => rw [hS] at p2; exact p2.elim
      | some S3 =>
        rw [hS] at p2
        exact set_ok hb m2 (r1.mono l2) r2 (rd.mono (l1.trans l2)) hS fun H3 m3 => p2 g2 H3 σ (.refl g2) m3 (ss.mono (l1.trans l2)) .refl⟩⟩⟩

/-! ### calls -/
/-- what the k-th level's function i answers -/
def spD (cl : List Addr) (K : PySem.W.Frag) (cf : CF) (np i : Nat) : Sp := fun vs H Q E => vs.length = np ∧ ∃ b bs g S ds, (∀ c ∈ bs, c ≤ b) ∧ SimH cl K bs g S H ∧ Reps K g vs ds ∧ Post cl K bs g E (Rep K) (cf i b ds S) Q
end
end Den

set_option maxHeartbeats 1000000
/-! Den, part 7: zip, enumerate, calls, comprehensions. -/
namespace Den
open PySem PySem.Spec PyProof.Rows L2
section
variable {X : Cx} {cl : List Addr} {bs : List Nat} {W : WX} {a b c o i : Expr} {es : List Expr} {pos : Pos} {eva evb evc : Sl → Store → Res D} {tg : Expr} {vs ws : List Nat}
/-! ### pairs -/
theorem pair_yld {g g' : G} {S : Store} {H : Hp} (l : g.sub g') (m : SimH cl X.K bs g' S H) {x y : V} {d e : D} (r1 : Rep X.K g x d) (r2 : Rep X.K g y e) {p : Addr} (hp : H p = none) :
    ∃ g'', g'.le g'' ∧ SimH cl X.K bs g'' S (upd H p (.tup [x, y])) ∧ Rep X.K g'' (.ref p) (mkTup [d, e]) := by
  obtain ⟨h1, h2, h3⟩ := m.tupD (vs := [x, y]) (ds := [d, e]) (.cons (r1.monoF l.F l.ρ) (.cons (r2.monoF l.F l.ρ) .nil)) hp
  exact ⟨_, h1, h2, h3⟩
theorem zip_get {us ws : List D} {i : Nat} {d : D} (h : ((us.zip ws).map fun p => mkTup [p.1, p.2])[i]? = some d) : ∃ x y, us[i]? = some x ∧ ws[i]? = some y ∧ d = mkTup [x, y] := by
  rw [List.getElem?_map] at h
  cases h' : (us.zip ws)[i]? with
  | none => rw [h'] at h; cases h
  | some p =>
    rw [h'] at h
    cases h
    have := List.getElem?_zip_eq_some.mp h'
    exact ⟨p.1, p.2, this.1, this.2, rfl⟩
theorem walksZ {g : G} {p q : Addr} {vs vs' : List V} {us us' : List D} (h : SqL X.K g.F p vs) (h' : SqL X.K g.F q vs') (r : Reps X.K g vs us) (r' : Reps X.K g vs' us') :
    WalksD cl X.K bs g ((us.zip us').map fun p => mkTup [p.1, p.2]) (Itz X.K p q) := fun g' S H l m i => by
  have hs : SqL X.K H p vs := SqL.mono m.le (SqL.mono l.F h)
  have hs' : SqL X.K H q vs' := SqL.mono m.le (SqL.mono l.F h')
  refine ⟨fun d e => ?_, fun hi _ => ⟨vs, vs', hs, hs', ?_⟩⟩
  · obtain ⟨x, y, e1, e2, rfl⟩ := zip_get e
    obtain ⟨v, g1, r1⟩ := r.get e1
    obtain ⟨v', g2, r2⟩ := r'.get e2
    refine ⟨⟨vs, vs', v, v', hs, hs', g1, g2⟩, fun z H' ⟨T, a, b, ez, hT, eH, ha, hb⟩ => ?_⟩
    subst ez eH
    have e3 := ha vs hs
    have e4 := hb vs' hs'
    rw [g1] at e3; rw [g2] at e4
    cases e3; cases e4
    exact pair_yld l m r1 r2 hT
  · rw [r.length, r'.length]
    simp only [List.length_map, List.length_zip] at hi
    omega
theorem walksZT {g : G} {p q : Addr} {vs vs' : List V} {us us' : List D} (h : SqT X.K g.F p vs) (h' : SqT X.K g.F q vs') (r : Reps X.K g vs us) (r' : Reps X.K g vs' us') :
    WalksD cl X.K bs g ((us.zip us').map fun p => mkTup [p.1, p.2]) (RZ.ItzT X.K p q) := fun g' S H l m i => by
  have hs : SqT X.K H p vs := SqT.mono m.le (SqT.mono l.F h)
  have hs' : SqT X.K H q vs' := SqT.mono m.le (SqT.mono l.F h')
  refine ⟨fun d e => ?_, fun hi _ => ⟨vs, vs', hs, hs', ?_⟩⟩
  · obtain ⟨x, y, e1, e2, rfl⟩ := zip_get e
    obtain ⟨v, g1, r1⟩ := r.get e1
    obtain ⟨v', g2, r2⟩ := r'.get e2
    refine ⟨⟨vs, vs', v, v', hs, hs', g1, g2⟩, fun z H' ⟨T, a, b, ez, hT, eH, ha, hb⟩ => ?_⟩
    subst ez eH
    have e3 := ha vs hs
    have e4 := hb vs' hs'
    rw [g1] at e3; rw [g2] at e4
    cases e3; cases e4
    exact pair_yld l m r1 r2 hT
  · rw [r.length, r'.length]
    simp only [List.length_map, List.length_zip] at hi
    omega
theorem walksE {g : G} {p : Addr} {vs : List V} {us : List D} (h : SqL X.K g.F p vs) (r : Reps X.K g vs us) :
    WalksD cl X.K bs g (us.zipIdx.map fun p => mkTup [.t (.int p.2), p.1]) (Ite X.K p) := fun g' S H l m i => by
  have hs : SqL X.K H p vs := SqL.mono m.le (SqL.mono l.F h)
  refine ⟨fun d e => ?_, fun hi _ => ⟨vs, hs, ?_⟩⟩
  · rw [List.getElem?_map, List.getElem?_zipIdx] at e
    cases e1 : us[i]? with
    | none => rw [e1] at e; cases e
    | some x =>
      rw [e1] at e
      cases e
      obtain ⟨v, g1, r1⟩ := r.get e1
      refine ⟨⟨vs, v, hs, g1⟩, fun z H' ⟨T, a, ez, hT, eH, ha⟩ => ?_⟩
      subst ez eH
      have e3 := ha vs hs
      rw [g1] at e3
      cases e3
      have := pair_yld (d := .t (.int (i : Nat))) l m (.t (.int (i : Nat))) r1 hT
      simpa using this
  · rw [r.length]
    simpa using hi
theorem di_zip {e e2 : Expr} {p pos tpos : Pos} {elts : List Expr} {kk : Nat} (hg : Gl X "zip") (hm : X.mg "zip" = none) (ha : PE X e (RdE cl X.K bs W eva)) (hb : PE X e2 (RdE cl X.K bs W evb))
    (hs : starEach [e, e2] X.env = (false, eval e X.env) :: starEach [e2] X.env) (hs2 : starEach [e2] X.env = (false, eval e2 X.env) :: starEach [] X.env) (hpl : (backTo pos (starEach [e2] X.env)).any (·.1) = false) :
    PI X (.Tuple elts kk tpos) (.Call (.Name "zip" p) [e, e2] [] pos) (RdI cl X.K bs W fun ds S => (eva ds S).bind fun u S => (evb ds S).bind fun v S => match lstI u, lstI v with
      | some us, some vs => .ok ((us.zip vs).map fun p => mkTup [p.1, p.2]) S
      | _, _ => match tupI u, tupI v with
        | some us, some vs => .ok ((us.zip vs).map fun p => mkTup [p.1, p.2]) S
        | _, _ => .bad) :=
  pi_den (RZ.pi_zipA hg hm (pa_cons ha (pa_cons hb pa_nil hs2) hs) hs hpl) fun σ H R g ds S m ss p => ⟨g, ds, S, m, ss, (PostI.step p).imp fun x H1 ⟨g1, u, S1, l1, m1, r1, p1⟩ =>
    ⟨g1, ds, S1, m1, ss.mono l1, (PostI.step p1).imp fun y H2 ⟨g2, v, S2, l2, m2, r2, p2⟩ => by
      split at p2
      · rename_i us ws hu hw
        obtain ⟨p, vs, rfl, h1, h2⟩ := lstI_ok (r1.mono l2) hu
        obtain ⟨q, vs', rfl, h3, h4⟩ := lstI_ok r2 hw
        exact ⟨p, q, vs, vs', rfl, .inl ⟨SqL.mono m2.le h1, SqL.mono m2.le h3, p2 g2 H2 _ (.refl g2) m2 (walksZ h1 h3 h2 h4)⟩⟩
      · split at p2
        · rename_i us ws hu hw
          obtain ⟨p, vs, rfl, h1, h2⟩ := tupI_ok (r1.mono l2) hu
          obtain ⟨q, vs', rfl, h3, h4⟩ := tupI_ok r2 hw
          exact ⟨p, q, vs, vs', rfl, .inr ⟨SqT.mono m2.le h1, SqT.mono m2.le h3, p2 g2 H2 _ (.refl g2) m2 (walksZT h1 h3 h2 h4)⟩⟩
        · exact p2.elim⟩⟩
theorem di_enum {e : Expr} {p pos tpos : Pos} {elts : List Expr} {kk : Nat} (hg : Gl X "enumerate") (hm : X.mg "enumerate" = none) (ha : PE X e (RdE cl X.K bs W eva)) (hs : starEach [e] X.env = [(false, eval e X.env)]) :
    PI X (.Tuple elts kk tpos) (.Call (.Name "enumerate" p) [e] [] pos) (RdI cl X.K bs W fun ds S => (eva ds S).bind fun u S => match lstI u with
      | some us => .ok (us.zipIdx.map fun p => mkTup [.t (.int p.2), p.1]) S
      | _ => .bad) :=
  pi_den (pi_enum hg hm (pa_cons ha pa_nil hs) hs) fun σ H R g ds S m ss p => ⟨g, ds, S, m, ss, (PostI.step p).imp fun x H1 ⟨g1, u, S1, l1, m1, r1, p1⟩ => by
    split at p1
    · rename_i us hu
      obtain ⟨p, vs, rfl, h1, h2⟩ := lstI_ok r1 hu
      exact ⟨p, vs, rfl, SqL.mono m1.le h1, p1 g1 H1 _ (.refl g1) m1 (walksE h1 h2)⟩
    · exact p1.elim⟩

/-! ### calls -/
/-- the i-th def, by its name -/
structure FnAt (X : Cx) (cl : List Addr) (cf : CF) (k : Nat) (x : Str) (np i : Nat) : Prop where
  ex : ∃ f fd ps, FnOk X.prog X.w X.K X.mg X.base (L2.CX X.prog X.w) k f fd ps (spD cl X.K cf np i) ∧ X.mg x = some (.ref f) ∧ PySem.W.keepIn X.K (.ref f) = true ∧ Binds X.K fd ps []
  len : ∀ b as S, as.length ≠ np → cf i b as S = .bad
theorem call_sp {cf : CF} {np i b : Nat} (hl : ∀ b as S, as.length ≠ np → cf i b as S = .bad) (hb : ∀ c ∈ bs, c ≤ b) {g : G} {S : Store} {H : Hp} {xs : List V} {as : List D} (m : SimH cl X.K bs g S H) (r : Reps X.K g xs as) {E : XK} {Q : VK}
    (p : Post cl X.K bs g E (Rep X.K) (cf i b as S) Q) : spD cl X.K cf np i xs H Q E := by
  refine ⟨?_, b, bs, g, S, as, hb, m, r, p⟩
  rw [r.length]
  exact Classical.byContradiction fun z => by rw [hl b as S z] at p; exact p
theorem de_call {cf : CF} {k np n b : Nat} {x : Str} {p : Pos} {e : Expr} {evs : Sl → Store → Res (List D)} (F : FnAt X cl cf k x np n) (hr : Room k X.A) (hg : Gl X x) (tk : Takes X W) (hb : ∀ c ∈ bs, c ≤ b) (ha : PA X (e :: es) (RdA cl X.K bs W evs))
    (hdb : (x == ("__debug__" : Str)) = false) (he : starEach (e :: es) X.env = (false, eval e X.env) :: starEach es X.env) (hpl : (backTo pos (starEach es X.env)).any (·.1) = false) :
    PE X (.Call (.Name x p) (e :: es) [] pos) (RdE cl X.K bs W fun ds S => (evs ds S).bind fun as S => cf n b as S) := by
  obtain ⟨f, fd, ps, F1, F2, F3, F4⟩ := F.ex
  exact pe_den (pe_callSD F1 hr hg F2 F3 F4 .nil (fun σ => passAt tk σ) ha hdb he hpl) fun σ H Q g ds S m ss p => ⟨g, ds, S, m, ss, (Post.step p).imp fun xs H1 ⟨g1, as, S1, l1, m1, r1, p1⟩ => by
    rw [List.append_nil]
    exact call_sp F.len hb m1 r1 p1⟩
theorem de_call0 {cf : CF} {k np n b : Nat} {x : Str} {p : Pos} {e : Expr} (F : FnAt X cl cf k x np n) (hr : Room k X.A) (hg : Gl X x) (tk : Takes X W) (hb : ∀ c ∈ bs, c ≤ b)
    (hdb : (x == ("__debug__" : Str)) = false) :
    PE X (.Call (.Name x p) [] [] pos) (RdE cl X.K bs W fun ds S => cf n b [] S) := by
  obtain ⟨f, fd, ps, F1, F2, F3, F4⟩ := F.ex
  refine ⟨fun pins s σ H Q I ⟨g, ds, S, m, ss, p⟩ => ?_⟩
  refine wpAny_Call_Name_kw (ld_glob I hg F2 ?_ hdb)
  exact PySem.W.callWith_K0 I.kIn F3 (run_fnSD (us := []) (vs := []) (dvs := []) (E := WE W) F1 hr F4 .nil (passAt tk σ) I .nil (call_sp (xs := []) F.len hb m .nil p))

/-! ### a list that is being made -/
theorem sub0 (g : G) (L : Hp) : g.sub ⟨g.F, L, g.ρ⟩ := ⟨fun _ _ h => h, List.prefix_refl _⟩
theorem subA (g : G) (L : Hp) (r : List Addr) : g.sub ⟨g.F, L, g.ρ ++ r⟩ := ⟨fun _ _ h => h, List.prefix_append _ _⟩
theorem CellAt.monoS {g g' : G} (h : g.sub g') {c : Cell} {o : Option HO} (x : CellAt cl X.K g c o) : CellAt cl X.K g' c o := x.monoF h.F h.ρ
theorem Reps.monoS {K : PySem.W.Frag} {g g' : G} (h : g.sub g') {v : List V} {c : List D} (x : Reps K g v c) : Reps K g' v c := x.monoF h.F h.ρ
theorem Rep.monoS {K : PySem.W.Frag} {g g' : G} (h : g.sub g') {v : V} {c : D} (x : Rep K g v c) : Rep K g' v c := x.monoF h.F h.ρ
theorem SimH.lock {g : G} {S : Store} {H : Hp} (m : SimH cl X.K bs g S H) {p : Addr} (hp : H p = none) (o : HO) : SimH cl X.K bs ⟨g.F, upd g.L p o, g.ρ⟩ S (upd H p o) := by
  refine ⟨fun a u e => ?_, m.len, fun n c a e1 e2 e3 => ?_, fun a u e => ?_, fun n c a e1 e2 e3 => ?_, m.inj, m.ws, m.hi⟩
  · have e : g.F a = some u := e
    rw [upd_ne (ne_of_none (m.le _ _ e) hp)]
    exact m.le _ _ e
  · obtain ⟨q1, q2⟩ := m.cel n c a e1 e2 e3
    obtain ⟨u, hu⟩ := q2.some e3
    rw [upd_ne (ne_of_none hu hp)]
    exact ⟨q1, CellAt.monoS (sub0 g _) q2⟩
  · by_cases ha : a = p
    · subst ha
      have e : upd g.L a o a = some u := e
      rw [upd_same] at e
      cases e
      exact ⟨upd_same, m.fresh hp⟩
    · have e : upd g.L p o a = some u := e
      rw [upd_ne ha] at e ⊢
      exact m.lk a u e
  · obtain ⟨q1, q2⟩ := m.cel n c a e1 e2 e3
    obtain ⟨u, hu⟩ := q2.some e3
    show upd g.L p o a = none
    rw [upd_ne (ne_of_none hu hp)]
    exact m.dis n c a e1 e2 e3
theorem SimH.relock {g : G} {S : Store} {H : Hp} (m : SimH cl X.K bs g S H) {p : Addr} {o : HO} (hp : g.L p = some o) (o' : HO) : SimH cl X.K bs ⟨g.F, upd g.L p o', g.ρ⟩ S (upd H p o') := by
  have ne : ∀ (n : Nat) c a, S[n]? = some c → g.ρ[n]? = some a → c.live = true → a ≠ p := fun n c a e1 e2 e3 z => by
    have := m.dis n c a e1 e2 e3
    rw [z, hp] at this
    cases this
  refine ⟨fun a u e => ?_, m.len, fun n c a e1 e2 e3 => ?_, fun a u e => ?_, fun n c a e1 e2 e3 => ?_, m.inj, m.ws, m.hi⟩
  · have e : g.F a = some u := e
    have : a ≠ p := fun z => by rw [z, (m.lk _ _ hp).2] at e; cases e
    rw [upd_ne this]
    exact m.le _ _ e
  · obtain ⟨q1, q2⟩ := m.cel n c a e1 e2 e3
    rw [upd_ne (ne n c a e1 e2 e3)]
    exact ⟨q1, CellAt.monoS (sub0 g _) q2⟩
  · by_cases ha : a = p
    · subst ha
      have e : upd g.L a o' a = some u := e
      rw [upd_same] at e
      cases e
      exact ⟨upd_same, (m.lk _ _ hp).2⟩
    · have e : upd g.L p o' a = some u := e
      rw [upd_ne ha] at e ⊢
      exact m.lk a u e
  · show upd g.L p o' a = none
    rw [upd_ne (ne n c a e1 e2 e3)]
    exact m.dis n c a e1 e2 e3
/-- it stays as it is -/
theorem SimH.unlock {g : G} {S : Store} {H : Hp} (m : SimH cl X.K bs g S H) {p : Addr} {o : HO} {L : Hp} (hL : g.L = upd L p o) (h0 : L p = none) : SimH cl X.K bs ⟨upd g.F p o, L, g.ρ⟩ S H := by
  have hp : g.L p = some o := by rw [hL, upd_same]
  have ne : ∀ (n : Nat) c a, S[n]? = some c → g.ρ[n]? = some a → c.live = true → a ≠ p := fun n c a e1 e2 e3 z => by
    have := m.dis n c a e1 e2 e3
    rw [z, hp] at this
    cases this
  have hF : ∀ a u, g.F a = some u → upd g.F p o a = some u := fun a u e => by
    have : a ≠ p := fun z => by rw [z, (m.lk _ _ hp).2] at e; cases e
    rw [upd_ne this]
    exact e
  refine ⟨fun a u e => ?_, m.len, fun n c a e1 e2 e3 => ?_, fun a u e => ?_, fun n c a e1 e2 e3 => ?_, m.inj, m.ws, m.hi⟩
  · have e : upd g.F p o a = some u := e
    by_cases ha : a = p
    · subst ha; rw [upd_same] at e; cases e; exact (m.lk _ _ hp).1
    · rw [upd_ne ha] at e; exact m.le _ _ e
  · obtain ⟨q1, q2⟩ := m.cel n c a e1 e2 e3
    refine ⟨?_, CellAt.monoF (g' := ⟨upd g.F p o, _, g.ρ⟩) hF (List.prefix_refl _) q2⟩
    show upd g.F p o a = none
    rw [upd_ne (ne n c a e1 e2 e3)]
    exact q1
  · have e : L a = some u := e
    have ha : a ≠ p := fun z => by rw [z, h0] at e; cases e
    have e' : g.L a = some u := by rw [hL, upd_ne ha]; exact e
    refine ⟨(m.lk a u e').1, ?_⟩
    show upd g.F p o a = none
    rw [upd_ne ha]
    exact (m.lk a u e').2
  · have := m.dis n c a e1 e2 e3
    rw [hL, upd_ne (ne n c a e1 e2 e3)] at this
    exact this
/-- it is a cell from now on -/
theorem SimH.unlockC {g : G} {S : Store} {H : Hp} (m : SimH cl X.K bs g S H) {p : Addr} {o : HO} {L : Hp} (hL : g.L = upd L p o) (h0 : L p = none) {c : Cell} (hc : CellAt cl X.K ⟨g.F, L, g.ρ ++ [p]⟩ c (some o)) :
    SimH cl X.K bs ⟨g.F, L, g.ρ ++ [p]⟩ (S ++ [c]) H := by
  have hp : g.L p = some o := by rw [hL, upd_same]
  have ne : ∀ (n : Nat) c a, S[n]? = some c → g.ρ[n]? = some a → c.live = true → a ≠ p := fun n c a e1 e2 e3 z => by
    have := m.dis n c a e1 e2 e3
    rw [z, hp] at this
    cases this
  have key : ∀ {n : Nat} {d : Cell} {x : Addr}, (S ++ [c])[n]? = some d → (g.ρ ++ [p])[n]? = some x → (n < S.length ∧ S[n]? = some d ∧ g.ρ[n]? = some x) ∨ (n = S.length ∧ d = c ∧ x = p) := fun {n d x} e1 e2 => by
    rcases Nat.lt_trichotomy n S.length with h | h | h
    · rw [List.getElem?_append_left h] at e1
      rw [List.getElem?_append_left (by rw [m.len]; exact h)] at e2
      exact .inl ⟨h, e1, e2⟩
    · rw [List.getElem?_append_right (by omega), h, Nat.sub_self] at e1
      rw [List.getElem?_append_right (by rw [m.len]; omega), h, m.len, Nat.sub_self] at e2
      exact .inr ⟨h, by simpa using e1.symm, by simpa using e2.symm⟩
    · rw [List.getElem?_eq_none (by simp; omega)] at e1
      cases e1
  have key' : ∀ {n : Nat} {d : Cell}, (S ++ [c])[n]? = some d → (n < S.length ∧ S[n]? = some d) ∨ n = S.length := fun {n d} e1 => by
    rcases Nat.lt_trichotomy n S.length with h | h | h
    · rw [List.getElem?_append_left h] at e1
      exact .inl ⟨h, e1⟩
    · exact .inr h
    · rw [List.getElem?_eq_none (by simp; omega)] at e1
      cases e1
  refine ⟨m.le, by simp [m.len], fun n d x e1 e2 e3 => ?_, fun x u e => ?_, fun n d x e1 e2 e3 => ?_, fun n n' d d' x e1 l1 e2 l2 r1 r2 => ?_, fun b hb n d hn e1 => ?_, fun b hb => by have := m.hi b hb; simp; omega⟩
  · rcases key e1 e2 with ⟨_, e1, e2⟩ | ⟨_, rfl, rfl⟩
    · obtain ⟨q1, q2⟩ := m.cel n d x e1 e2 e3
      exact ⟨q1, CellAt.monoS (subA g _ _) q2⟩
    · refine ⟨(m.lk _ _ hp).2, ?_⟩
      rw [(m.lk _ _ hp).1]
      exact hc
  · have e : L x = some u := e
    have ha : x ≠ p := fun z => by rw [z, h0] at e; cases e
    exact m.lk x u (by rw [hL, upd_ne ha]; exact e)
  · rcases key e1 e2 with ⟨_, e1, e2⟩ | ⟨_, rfl, rfl⟩
    · have := m.dis n d x e1 e2 e3
      rw [hL, upd_ne (ne n d x e1 e2 e3)] at this
      exact this
    · exact h0
  · rcases key e1 r1 with ⟨_, e1, r1⟩ | ⟨h1, h2, h3⟩
    · rcases key e2 r2 with ⟨_, e2, r2⟩ | ⟨h1', h2', h3'⟩
      · exact m.inj n n' d d' x e1 l1 e2 l2 r1 r2
      · exact absurd h3' (ne n d x e1 r1 l1)
    · rcases key e2 r2 with ⟨_, e2, r2⟩ | ⟨h1', h2', h3'⟩
      · exact absurd h3 (ne n' d' x e2 r2 l2)
      · omega
  · rcases key' e1 with ⟨_, e1⟩ | h
    · exact m.ws b hb n d hn e1
    · have := m.hi b hb; omega

/-! ### comprehensions -/
abbrev W0 : WX := fun _ _ _ _ => False
theorem wipe_wipe {σ : L2.St} {vs : List Nat} : wipe (wipe σ vs) vs = wipe σ vs := by
  refine List.ext_getElem? fun i => ?_
  rw [wipe_get, wipe_get, wipe_length]
  split <;> rfl
theorem collect_ne {F : D → Store → Res (List D)} (h : ∀ x S c fs S', F x S ≠ .exc c fs S') : ∀ xs S c fs S', collectD F xs S ≠ .exc c fs S'
  | [], S, c, fs, S', e => by cases e
  | x :: xs, S, c, fs, S', e => by
    unfold collectD at e
    cases h1 : F x S with
    | exc c' fs' S2 => exact h _ _ _ _ _ h1
    | bad => rw [h1] at e; cases e
    | ok ys S1 =>
      rw [h1] at e
      simp only [Res.bind_ok] at e
      cases h2 : collectD F xs S1 with
      | exc c' fs' S2 => exact collect_ne h xs _ _ _ _ h2
      | bad => rw [h2] at e; cases e
      | ok zs S2 => rw [h2] at e; cases e
/-- a turn -/
def turnD (evg : D → Sl → Store → Res Sl) (evt : Sl → Store → Res Bool) (eve : Sl → Store → Res D) (ds : Sl) : D → Store → Res (List D) := fun x S =>
  ((evg x ds S).noexc).bind fun ds' S => ((evt ds' S).noexc).bind fun k S => if k = true then ((eve ds' S).noexc).bind fun y S => .ok [y] S else .ok [] S
theorem turn_ne {evg : D → Sl → Store → Res Sl} {evt : Sl → Store → Res Bool} {eve : Sl → Store → Res D} {ds : Sl} : ∀ x S c fs S', turnD evg evt eve ds x S ≠ .exc c fs S' := fun x S c fs S' e => by
  unfold turnD at e
  cases h1 : evg x ds S with
  | exc _ _ _ => rw [h1] at e; cases e
  | bad => rw [h1] at e; cases e
  | ok d1 S1 =>
    rw [h1] at e
    simp only [Res.noexc_ok, Res.bind_ok] at e
    cases h2 : evt d1 S1 with
    | exc _ _ _ => rw [h2] at e; cases e
    | bad => rw [h2] at e; cases e
    | ok k S2 =>
      rw [h2] at e
      simp only [Res.noexc_ok, Res.bind_ok] at e
      cases k with
      | false => simp only [Bool.false_eq_true, if_false] at e; cases e
      | true =>
        simp only [if_true] at e
        cases h3 : eve d1 S2 with
        | exc _ _ _ => rw [h3] at e; cases e
        | bad => rw [h3] at e; cases e
        | ok y S3 => rw [h3] at e; cases e
def compD (m : Bool) (evi : Sl → Store → Res (List D)) (evg : D → Sl → Store → Res Sl) (evt : Sl → Store → Res Bool) (eve : Sl → Store → Res D) (vs : List Nat) : Sl → Store → Res D := fun ds S =>
  (evi ds S).bind fun xs S => (collectD (turnD evg evt eve (wipeD ds vs)) xs S).bind fun ys S =>
    if ys.length ≤ sizeLine then (if m = true then .ok (.ref S.length) (S ++ [.lst ys]) else lift (mkLst ys) S) else .bad
theorem lc_of {mb : Bool} {evi : Sl → Store → Res (List D)} {evg : D → Sl → Store → Res Sl} {evt : Sl → Store → Res Bool} {eve : Sl → Store → Res D} {σ : L2.St} {H : Hp} {Q : VK} (h : RdE cl X.K bs W (compD mb evi evg evt eve vs) σ H Q) :
    tLc (RdI cl X.K bs W evi) (RdG cl X.K bs vs evg) (RdT cl X.K bs W0 evt) (RdE cl X.K bs W0 eve) vs σ H Q := by
  obtain ⟨g, ds, S, m, ss, p⟩ := h
  refine ⟨g, ds, S, m, ss, ?_⟩
  unfold compD at p
  cases hi : evi ds S with
  | exc c fs S1 => rw [hi] at p; exact p
  | bad => rw [hi] at p; exact p
  | ok us S1 =>
    rw [hi] at p
    simp only [Res.bind_ok] at p
    intro g1 H1 J l1 m1 w1 D hD
    cases hc : collectD (turnD evg evt eve (wipeD ds vs)) us S1 with
    | exc c fs S2 => exact absurd hc (collect_ne turn_ne _ _ _ _ _)
    | bad => rw [hc] at p; exact p.elim
    | ok ys S2 =>
      rw [hc] at p
      simp only [Res.bind_ok] at p
      have hy : ys.length ≤ sizeLine := Classical.byContradiction fun z => by rw [if_neg z] at p; exact p
      rw [if_pos hy] at p
      refine ⟨fun i k H => k = us.length - i ∧ i ≤ us.length ∧ ∃ gi Si zs zs' acc, g1.sub gi ∧ gi.L = upd g1.L D (.lst acc) ∧ SimH cl X.K bs gi Si H ∧ Reps X.K gi acc zs ∧ collectD (turnD evg evt eve (wipeD ds vs)) (us.drop i) Si = .ok zs' S2 ∧ zs ++ zs' = ys,
        ⟨us.length, rfl, Nat.zero_le _, ⟨g1.F, upd g1.L D (.lst []), g1.ρ⟩, S1, [], ys, [], ⟨fun _ _ h => h, List.prefix_refl _⟩, rfl, m1.lock hD _, .nil, hc, rfl⟩, ?_⟩
      rintro i k H ⟨rfl, hi', gi, Si, zs, zs', acc, sub, hL, mi, racc, hcol, hz⟩
      obtain ⟨wgo, wstop⟩ := w1 gi Si H sub mi i
      by_cases hlt : i < us.length
      · right
        obtain ⟨d, hd⟩ : ∃ d, us[i]? = some d := ⟨us[i], List.getElem?_eq_getElem hlt⟩
        obtain ⟨jgo, jy⟩ := wgo d hd
        refine ⟨jgo, _, fun H' h => ⟨us.length - (i + 1), by omega, h⟩, fun x H' hy' => ?_⟩
        obtain ⟨g2, l2, m2, r2⟩ := jy x H' hy'
        have hdrop : us.drop i = d :: us.drop (i + 1) := by
          rw [List.drop_eq_getElem_cons hlt]
          congr 1
          rw [List.getElem?_eq_getElem hlt] at hd
          exact Option.some.inj hd
        rw [hdrop] at hcol
        unfold collectD at hcol
        refine ⟨g2, d, wipeD ds vs, Si, m2, (ss.monoF (fun a o e => l2.F a o (sub.F a o (l1.F a o e))) (l1.ρ.trans (sub.ρ.trans l2.ρ))).wiped vs, r2, ?_⟩
        unfold turnD at hcol
        cases h1 : evg d (wipeD ds vs) Si with
        | exc _ _ _ => rw [h1] at hcol; cases hcol
        | bad => rw [h1] at hcol; cases hcol
        | ok d1 Sa =>
          rw [h1] at hcol
          simp only [Res.noexc_ok, Res.bind_ok] at hcol
          intro g3 H3 σ3 l3 m3 ss3 off3
          refine ⟨by rw [off3.wiped, wipe_wipe], g3, d1, Sa, m3, ss3, ?_⟩
          cases h2 : evt d1 Sa with
          | exc _ _ _ => rw [h2] at hcol; cases hcol
          | bad => rw [h2] at hcol; cases hcol
          | ok k Sb =>
            rw [h2] at hcol
            simp only [Res.noexc_ok, Res.bind_ok] at hcol
            intro g4 H4 b l4 m4 eb
            subst eb
            cases b with
            | false =>
              simp only [Bool.false_eq_true, if_false] at hcol ⊢
              simp only [Res.bind_ok] at hcol
              cases h4 : collectD (turnD evg evt eve (wipeD ds vs)) (us.drop (i + 1)) Sb with
              | exc _ _ _ => exact absurd h4 (collect_ne turn_ne _ _ _ _ _)
              | bad => unfold turnD at h4; rw [h4] at hcol; cases hcol
              | ok zz Sd =>
                have h4' := h4
                unfold turnD at h4'
                rw [h4'] at hcol
                cases hcol
                exact ⟨trivial, hlt, g4, Sb, zs, zz, acc, sub.trans ((l2.trans l3).trans l4).sub, by rw [l4.L, l3.L, l2.L, hL], m4, racc.monoF ((l2.trans l3).trans l4).F ((l2.trans l3).trans l4).ρ, h4, hz⟩
            | true =>
              simp only [if_true] at hcol ⊢
              refine ⟨g4, d1, Sb, m4, ss3.mono l4, ?_⟩
              cases h3 : eve d1 Sb with
              | exc _ _ _ => rw [h3] at hcol; cases hcol
              | bad => rw [h3] at hcol; cases hcol
              | ok y Sc =>
                rw [h3] at hcol
                simp only [Res.noexc_ok, Res.bind_ok] at hcol
                intro g5 H5 yv l5 m5 r5
                cases h4 : collectD (turnD evg evt eve (wipeD ds vs)) (us.drop (i + 1)) Sc with
                | exc _ _ _ => exact absurd h4 (collect_ne turn_ne _ _ _ _ _)
                | bad => unfold turnD at h4; rw [h4] at hcol; cases hcol
                | ok zz Sd =>
                  have h4' := h4
                  unfold turnD at h4'
                  rw [h4'] at hcol
                  cases hcol
                  have lall : gi.le g5 := ((l2.trans l3).trans l4).trans l5
                  have hL5 : g5.L = upd g1.L D (.lst acc) := by rw [lall.L, hL]
                  have hl5 : g5.L D = some (.lst acc) := by rw [hL5, upd_same]
                  refine ⟨acc, (m5.lk _ _ hl5).1, ?_, trivial, hlt, ⟨g5.F, upd g5.L D (.lst (acc ++ [yv])), g5.ρ⟩, Sc, zs ++ [y], zz, acc ++ [yv], sub.trans ⟨lall.F, lall.ρ⟩, ?_, m5.relock hl5 _, ?_, h4, by rw [List.append_assoc]; exact hz⟩
                  · rw [racc.length]
                    have := congrArg List.length hz
                    simp at this
                    omega
                  · show upd g5.L D _ = _
                    rw [hL5, upd_upd]
                  · exact (racc.monoS (lall.sub.trans (sub0 g5 _))).append (.cons (r5.monoS (sub0 g5 _)) .nil)
      · left
        have he : i = us.length := by omega
        refine ⟨wstop (by omega) (by omega), ?_⟩
        rw [List.drop_eq_nil_of_le (by omega)] at hcol
        cases hcol
        rw [List.append_nil] at hz
        subst hz
        have hLD : g1.L D = none := m1.freshL hD
        have hlD : gi.L D = some (.lst acc) := by rw [hL, upd_same]
        cases mb with
        | true =>
          simp only [if_true] at p
          refine p ⟨gi.F, g1.L, gi.ρ ++ [D]⟩ H (.ref D) ⟨fun a o e => sub.F a o (l1.F a o e), l1.L, l1.ρ.trans (sub.ρ.trans (List.prefix_append _ _))⟩ (mi.unlockC hL hLD ⟨acc, rfl, racc.monoS (subA gi _ _)⟩) (.ref ?_)
          show (gi.ρ ++ [D])[S2.length]? = some D
          rw [← mi.len, List.getElem?_append_right (Nat.le_refl _), Nat.sub_self]
          rfl
        | false =>
          simp only [Bool.false_eq_true, if_false] at p
          obtain ⟨d, hd, p2⟩ := Post.get p
          unfold mkLst at hd
          cases ha : allT zs with
          | none => rw [ha] at hd; cases hd
          | some xs =>
            rw [ha] at hd
            cases hd
            have := allT_eq ha
            subst this
            have hF : ∀ a o, gi.F a = some o → upd gi.F D (.lst acc) a = some o := fun a o e => by
              have : a ≠ D := fun z => by rw [z, (mi.lk _ _ hlD).2] at e; cases e
              rw [upd_ne this]
              exact e
            exact p2 ⟨upd gi.F D (.lst acc), g1.L, gi.ρ⟩ H (.ref D) ⟨fun a o e => hF a o (sub.F a o (l1.F a o e)), l1.L, l1.ρ.trans sub.ρ⟩ (mi.unlock hL hLD) (.t (.lst (SqL.of upd_same) (fun _ => upd_same) (racc.trees.mono hF)))
theorem de_comp {mb : Bool} {evi : Sl → Store → Res (List D)} {evg : D → Sl → Store → Res Sl} {evt : Sl → Store → Res Bool} {eve : Sl → Store → Res D} {elt tg iter : Expr} {ifs : List Expr} {scope : Scope} {own : List (Str × Nat)} {pos : Pos}
    (hc : X.calm = true) (hN : X.N.Nodup) (hi : PI X tg iter (RdI cl X.K bs W evi)) (ok : BlkOk X.N X.env.scope scope own)
    (hg : ∀ (s : Shared) (H : Hp) (C : Addr) (cl' : List (Str × Addr)) (fp : List Addr), PG (X.blk s H scope (compEnvC scope cl' C X.env) fp) tg (RdG cl X.K bs (own.map (·.2)) evg))
    (ht : ∀ (s : Shared) (H : Hp) (C : Addr) (cl' : List (Str × Addr)) (fp : List Addr), PTs (X.blk s H scope (compEnvC scope cl' C X.env) fp) ifs (RdT cl X.K bs W0 evt))
    (he : ∀ (s : Shared) (H : Hp) (C : Addr) (cl' : List (Str × Addr)) (fp : List Addr), PE (X.blk s H scope (compEnvC scope cl' C X.env) fp) elt (RdE cl X.K bs W0 eve)) (hs : ∀ x, foldedSetIterable iter X.env x = pure x) :
    PE X (.ListComp elt [⟨tg, iter, ifs, 0⟩] scope pos) (RdE cl X.K bs W (compD mb evi evg evt eve (own.map (·.2)))) :=
  pe_mono (pe_lc hc hN hi ok hg ht he hs) fun σ H Q h => lc_of h
end
end Den

set_option maxHeartbeats 1000000
/-! Den, part 8: statements. -/
namespace Den
open PySem PySem.Spec PyProof.Rows L2

def PostS (cl : List Addr) (K : PySem.W.Frag) (bs : List Nat) (W : WX) (g : G) (r : SRes) (D : Ends) : Prop :=
  match r with
  | .nx ds S => ∀ g' H σ, g.le g' → SimH cl K bs g' S H → SimS K g' ds σ → D.nx σ H
  | .ret d S => ∀ g' H v, g.le g' → SimH cl K bs g' S H → Rep K g' v d → D.rt v H
  | .brk ds S => ∀ g' H σ, g.le g' → SimH cl K bs g' S H → SimS K g' ds σ → D.bk σ H
  | .cont ds S => ∀ g' H σ, g.le g' → SimH cl K bs g' S H → SimS K g' ds σ → D.ct σ H
  | .exc c fs ds S => ∀ g' H cls dx σ, g.le g' → SimH cl K bs g' S H → SimS K g' ds σ → ExcAt cl K g' c fs cls dx H → W cls dx σ H
  | .bad => False
def RdS (cl : List Addr) (K : PySem.W.Frag) (bs : List Nat) (W : WX) (ev : Sl → Store → SRes) : TS := fun D σ H =>
  ∃ g ds S, SimH cl K bs g S H ∧ SimS K g ds σ ∧ PostS cl K bs W g (ev ds S) D
section
variable {X : Cx} {cl : List Addr} {bs : List Nat} {W : WX} {a b c o i e : Expr} {es : List Expr} {pos : Pos} {eva evb evc : Sl → Store → Res D} {tg : Expr} {vs ws : List Nat} {evs evs' : Sl → Store → SRes} {st : Stmt} {sts : List Stmt}
theorem PostS.up {g g' : G} {r : SRes} {D : Ends} (h : PostS cl X.K bs W g r D) (l : g.le g') : PostS cl X.K bs W g' r D := by
  cases r with
  | nx ds S => exact fun g2 H σ l2 m s => h g2 H σ (l.trans l2) m s
  | ret d S => exact fun g2 H v l2 m s => h g2 H v (l.trans l2) m s
  | brk ds S => exact fun g2 H σ l2 m s => h g2 H σ (l.trans l2) m s
  | cont ds S => exact fun g2 H σ l2 m s => h g2 H σ (l.trans l2) m s
  | exc c fs ds S => exact fun g2 H cls dx σ l2 m s => h g2 H cls dx σ (l.trans l2) m s
  | bad => exact h
theorem PostS.step {α β : Type} {g : G} {σ : L2.St} {r : Res α} {ds : Sl} {f : α → Store → SRes} {D : Ends} {rel : G → β → α → Prop} (ss : SimS X.K g ds σ) (h : PostS cl X.K bs W g (thenS r ds f) D) :
    Post cl X.K bs g (fun c d H => W c d σ H) rel r fun y H => ∃ g' a S, g.le g' ∧ SimH cl X.K bs g' S H ∧ rel g' y a ∧ PostS cl X.K bs W g' (f a S) D := by
  cases r with
  | ok a S => exact fun g' H y l m q => ⟨g', a, S, l, m, q, PostS.up h l⟩
  | exc c fs S => exact fun g' H cls dx l m q => h g' H cls dx σ l m (ss.mono l) q
  | bad => exact h
theorem PostS.stepG {g : G} {σ : L2.St} {r : Res Sl} {ds : Sl} {f : Sl → Store → SRes} {D : Ends} (h : PostS cl X.K bs W g (thenS r.noexc ds f) D) :
    PostG cl X.K bs g vs σ r fun σ' H => ∃ g' ds' S, g.le g' ∧ SimH cl X.K bs g' S H ∧ SimS X.K g' ds' σ' ∧ PostS cl X.K bs W g' (f ds' S) D := by
  cases r with
  | ok a S => exact fun g' H y l m q _ => ⟨g', a, S, l, m, q, PostS.up h l⟩
  | exc c fs S => exact h.elim
  | bad => exact h.elim
/-- one more reading of the same statement -/
theorem ps_den {t : TS} {ev : Sl → Store → SRes} (h : PS X st t) (k : ∀ σ H D g ds S, SimH cl X.K bs g S H → SimS X.K g ds σ → PostS cl X.K bs W g (ev ds S) D → t D σ H) : PS X st (RdS cl X.K bs W ev) :=
  ⟨fun pins s σ H D I ⟨g, ds, S, m, ss, p⟩ => h.run pins s σ H D I (k σ H D g ds S m ss p)⟩
theorem pss_den {t : TS} {ev : Sl → Store → SRes} (h : PSs X sts t) (k : ∀ σ H D g ds S, SimH cl X.K bs g S H → SimS X.K g ds σ → PostS cl X.K bs W g (ev ds S) D → t D σ H) : PSs X sts (RdS cl X.K bs W ev) :=
  ⟨fun pins s σ H D I ⟨g, ds, S, m, ss, p⟩ => h.run pins s σ H D I (k σ H D g ds S m ss p)⟩
theorem dss_nil : PSs X [] (RdS cl X.K bs W fun ds S => .nx ds S) := pss_den pss_nil fun σ H D g ds S m ss p => p g H σ (.refl g) m ss
theorem dss_cons (h1 : PS X st (RdS cl X.K bs W evs)) (h2 : PSs X sts (RdS cl X.K bs W evs')) : PSs X (st :: sts) (RdS cl X.K bs W fun ds S => match evs ds S with
    | .nx ds S => evs' ds S
    | q => q) :=
  pss_den (pss_cons h1 h2) fun σ H D g ds S m ss p => ⟨g, ds, S, m, ss, by
    cases h : evs ds S with
    | nx ds' S' => rw [h] at p; exact fun g' H' σ' l m' ss' => ⟨g', ds', S', m', ss', PostS.up p l⟩
    | ret d S' => rw [h] at p; exact p
    | brk ds' S' => rw [h] at p; exact p
    | cont ds' S' => rw [h] at p; exact p
    | exc c fs ds' S' => rw [h] at p; exact p
    | bad => rw [h] at p; exact p⟩
theorem ds_pass : PS X (.Pass pos) (RdS cl X.K bs W fun ds S => .nx ds S) := ps_den ps_pass fun σ H D g ds S m ss p => p g H σ (.refl g) m ss
theorem ds_brk : PS X (.Break pos) (RdS cl X.K bs W fun ds S => .brk ds S) := ps_den ps_break fun σ H D g ds S m ss p => p g H σ (.refl g) m ss
theorem ds_cont : PS X (.Continue pos) (RdS cl X.K bs W fun ds S => .cont ds S) := ps_den ps_continue fun σ H D g ds S m ss p => p g H σ (.refl g) m ss
theorem ds_doc {x j pos pos'} : PS X (.Expr (.Constant (.str x) j pos) pos') (RdS cl X.K bs W fun ds S => .nx ds S) := ps_den ps_doc fun σ H D g ds S m ss p => p g H σ (.refl g) m ss
theorem ds_retN : PS X (.Return none pos) (RdS cl X.K bs W fun _ S => .ret (.t .none) S) := ps_den ps_retN fun σ H D g ds S m ss p => p g H .non (.refl g) m (.t .non)
theorem ds_ret (he : PE X e (RdE cl X.K bs W eva)) : PS X (.Return (some e) pos) (RdS cl X.K bs W fun ds S => thenS (eva ds S) ds fun d S => .ret d S) :=
  ps_den (ps_ret he) fun σ H D g ds S m ss p => ⟨g, ds, S, m, ss, (PostS.step ss p).imp fun x H1 ⟨g1, u, S1, l1, m1, r1, p1⟩ => p1 g1 H1 x (.refl g1) m1 r1⟩
theorem ds_expr (he : PE X e (RdE cl X.K bs W eva)) (hs : swapsWith e none pos.line X.env = pure false) : PS X (.Expr e pos) (RdS cl X.K bs W fun ds S => thenS (eva ds S) ds fun _ S => .nx ds S) :=
  ps_den (ps_expr he hs) fun σ H D g ds S m ss p => ⟨g, ds, S, m, ss, (PostS.step ss p).imp fun x H1 ⟨g1, u, S1, l1, m1, r1, p1⟩ => p1 g1 H1 σ (.refl g1) m1 (ss.mono l1)⟩
theorem asg_of {evg : D → Sl → Store → Res Sl} {σ : L2.St} {H : Hp} {D : Ends} (h : RdS cl X.K bs W (fun ds S => thenS (eva ds S) ds fun d S => thenS (evg d ds S).noexc ds fun ds S => .nx ds S) D σ H) :
    tAsg (RdE cl X.K bs W eva) (RdG cl X.K bs vs evg) D σ H := by
  obtain ⟨g, ds, S, m, ss, p⟩ := h
  refine ⟨g, ds, S, m, ss, (PostS.step ss p).imp fun x H1 ⟨g1, u, S1, l1, m1, r1, p1⟩ => ⟨g1, u, ds, S1, m1, ss.mono l1, r1, ?_⟩⟩
  have q := PostS.stepG (vs := vs) (σ := σ) p1
  cases h : evg u ds S1 with
  | ok ds2 S2 =>
    rw [h] at q
    intro g2 H2 σ2 l2 m2 s2 off
    obtain ⟨g3, ds3, S3, l3, m3, s3, p3⟩ := q g2 H2 σ2 l2 m2 s2 off
    exact p3 g3 H2 σ2 (.refl g3) m3 s3
  | exc _ _ _ => rw [h] at q; exact q
  | bad => rw [h] at q; exact q
theorem ds_asg {evg : D → Sl → Store → Res Sl} (he : PE X e (RdE cl X.K bs W eva)) (hg : PG X tg (RdG cl X.K bs vs evg)) (hs : swapsWithSole [tg] e pos.line X.env = pure false) (hw : swappedStores [tg] e X.env = pure none)
    (h1 : (assignEach [tg] X.env).map (·.2) = [assign tg X.env]) : PS X (.Assign [tg] e pos) (RdS cl X.K bs W fun ds S => thenS (eva ds S) ds fun d S => thenS (evg d ds S).noexc ds fun ds S => .nx ds S) :=
  ps_den (ps_asg he hg hs hw h1) fun σ H D g ds S m ss p => asg_of ⟨g, ds, S, m, ss, p⟩
theorem RdE.imp {ev : Sl → Store → Res D} {σ : L2.St} {H : Hp} {Q Q' : VK} (h : RdE cl X.K bs W ev σ H Q) (k : ∀ v H, Q v H → Q' v H) : RdE cl X.K bs W ev σ H Q' :=
  let ⟨g, ds, S, m, ss, p⟩ := h; ⟨g, ds, S, m, ss, p.imp k⟩
theorem ds_set {i : Nat} {x : Str} {pos' : Pos} (hN : X.N.Nodup) (hi : X.N[i]? = some x) (hx : Loc X.env.scope x) (he : PE X e (RdE cl X.K bs W eva)) (hs : swapsWith e (some (.Name x pos')) pos.line X.env = pure false) (hf : X.fn x = true ∨ X.env.scope.names.lookup x = some .local) :
    PS X (.Assign [.Name x pos'] e pos) (RdS cl X.K bs W fun ds S => thenS (eva ds S) ds fun d S => thenS (Res.ok (ds.set i (some d)) S).noexc ds fun ds S => .nx ds S) :=
  ps_den (ps_set hN hi hx he hs hf) fun σ H D g ds S m ss p => ⟨g, ds, S, m, ss, (PostS.step ss p).imp fun x H1 ⟨g1, u, S1, l1, m1, r1, p1⟩ => p1 g1 H1 _ (.refl g1) m1 ((ss.mono l1).set i r1)⟩
/-- y = [..] on one line -/
theorem ds_setLc {i : Nat} {y : Str} {py : Pos} {mb : Bool} {evi : Sl → Store → Res (List D)} {evg : D → Sl → Store → Res Sl} {evt : Sl → Store → Res Bool} {eve : Sl → Store → Res D} {elt tg iter : Expr} {ifs : List Expr} {scope : Scope} {own : List (Str × Nat)} {pos spos : Pos}
    (hc : X.calm = true) (hN : X.N.Nodup) (hy : X.N[i]? = some y) (hyl : X.env.scope.names.lookup y = some .local)
    (hsw : swapsWith (.ListComp elt [⟨tg, iter, ifs, 0⟩] scope pos) (some (.Name y py)) spos.line X.env = pure true) (hi : PI X tg iter (RdI cl X.K bs W evi)) (ok : BlkOk X.N X.env.scope scope own)
    (hg : ∀ (s : Shared) (H : Hp) (C : Addr) (cl' : List (Str × Addr)) (fp : List Addr), PG (X.blk s H scope (compEnvC scope cl' C X.env) fp) tg (RdG cl X.K bs (own.map (·.2)) evg))
    (ht : ∀ (s : Shared) (H : Hp) (C : Addr) (cl' : List (Str × Addr)) (fp : List Addr), PTs (X.blk s H scope (compEnvC scope cl' C X.env) fp) ifs (RdT cl X.K bs W0 evt))
    (he : ∀ (s : Shared) (H : Hp) (C : Addr) (cl' : List (Str × Addr)) (fp : List Addr), PE (X.blk s H scope (compEnvC scope cl' C X.env) fp) elt (RdE cl X.K bs W0 eve)) (hs : ∀ x, foldedSetIterable iter X.env x = pure x) :
    PS X (.Assign [.Name y py] (.ListComp elt [⟨tg, iter, ifs, 0⟩] scope pos) spos) (RdS cl X.K bs W fun ds S => thenS (compD mb evi evg evt eve (own.map (·.2)) ds S) ds fun d S => thenS (Res.ok (ds.set i (some d)) S).noexc ds fun ds S => .nx ds S) :=
  ps_den (ps_setLc hc hN hy hyl hsw hi ok hg ht he hs) fun σ H D g ds S m ss p => lc_of (mb := mb) ⟨g, ds, S, m, ss, (PostS.step ss p).imp fun x H1 ⟨g1, u, S1, l1, m1, r1, p1⟩ => p1 g1 H1 _ (.refl g1) m1 ((ss.mono l1).set i r1)⟩
/-- a, b = x, y -/
theorem ds_par {i j : Nat} {x y : Str} {px py pt : Pos} {kt k2 pt2} (hc : X.calm = true) (hN : X.N.Nodup) (hi : X.N[i]? = some x) (hj : X.N[j]? = some y) (hij : i ≠ j)
    (hx : X.env.scope.names.lookup x = some .local) (hy : X.env.scope.names.lookup y = some .local) (ha : PE X a (RdE cl X.K bs W eva)) (hb : PE X b (RdE cl X.K bs W evb))
    (h1 : starEach [a, b] X.env = (false, eval a X.env) :: starEach [b] X.env) (h2 : starEach [b] X.env = (false, eval b X.env) :: starEach [] X.env)
    (hw : swappedStores [.Tuple [.Name x px, .Name y py] kt pt] (.Tuple [a, b] k2 pt2) X.env = pure (some [x, y]))
    (hs : swapsWithSole [.Tuple [.Name x px, .Name y py] kt pt] (.Tuple [a, b] k2 pt2) pos.line X.env = pure false) :
    PS X (.Assign [.Tuple [.Name x px, .Name y py] kt pt] (.Tuple [a, b] k2 pt2) pos) (RdS cl X.K bs W fun ds S => thenS (eva ds S) ds fun u S => thenS (evb ds S) ds fun v S => .nx ((ds.set i (some u)).set j (some v)) S) :=
  ps_den (ps_par hc hN hi hj hij hx hy (pa_cons ha (pa_cons hb pa_nil h2) h1) hw hs) fun σ H D g ds S m ss p => ⟨g, ds, S, m, ss, (PostS.step ss p).imp fun x H1 ⟨g1, u, S1, l1, m1, r1, p1⟩ =>
    ⟨g1, ds, S1, m1, ss.mono l1, (PostS.step (ss.mono l1) p1).imp fun y H2 ⟨g2, v, S2, l2, m2, r2, p2⟩ => ⟨x, y, rfl, p2 g2 H2 _ (.refl g2) m2 (((ss.mono (l1.trans l2)).set i (r1.mono l2)).set j r2)⟩⟩⟩
/-- op= at a name -/
theorem op_augT (op : Operator) : OpR X (inplaceOp op) (fun x y H Q => ∃ (F : Hp) (s1 s2 : Bool) (a b c : T), RepT X.K F s1 x a ∧ RepT X.K F s2 y b ∧ augT op a b = some c ∧ ∀ z, RepT X.K F true z c → Q z H) := by
  intro pins s σ H x y v u Q I rx ry ⟨F, s1, s2, a, b, c, ra, rb, e, w⟩
  unfold augT at e
  split at e
  · cases e
    exact iop_add pins s σ H x y v u Q I rx ry ⟨_, _, ra.int_inv, rb.int_inv, w _ (.int _)⟩
  · obtain ⟨h, rfl⟩ := guardB_some e
    exact iop_add_str pins s σ H x y v u Q I rx ry ⟨_, _, ra.str_inv, rb.str_inv, of_decide_eq_true h, w _ (.str _)⟩
  · cases e
    exact iop_sub pins s σ H x y v u Q I rx ry ⟨_, _, ra.int_inv, rb.int_inv, w _ (.int _)⟩
  · obtain ⟨h, rfl⟩ := guardB_some e
    exact (opI (C := CMulW) (g := fun i j => i * j) fun _ _ _ _ _ _ _ hc q => imul_int q hc.ok) pins s σ H x y v u Q I rx ry ⟨_, _, ra.int_inv, rb.int_inv, (show _ + _ < _ from of_decide_eq_true h), w _ (.int _)⟩
  · obtain ⟨h, rfl⟩ := guardB_some e
    simp only [Bool.and_eq_true, decide_eq_true_eq] at h
    exact (opI (C := fun _ j => j ≠ 0 ∧ j.natAbs.log2 < 9000) (g := fun i j => i.fdiv j) fun _ _ _ _ _ _ _ hc q => ifloordiv_int hc.1 q (.inl (PyProof.noPylong_of_log2 hc.2))) pins s σ H x y v u Q I rx ry ⟨_, _, ra.int_inv, rb.int_inv, h, w _ (.int _)⟩
  · obtain ⟨h, rfl⟩ := guardB_some e
    exact (opI (C := fun _ j => j ≠ 0) (g := fun i j => i.fmod j) fun _ _ _ _ _ _ _ hc q => imod_int hc q) pins s σ H x y v u Q I rx ry ⟨_, _, ra.int_inv, rb.int_inv, of_decide_eq_true h, w _ (.int _)⟩
  · cases e
theorem ds_aug {i : Nat} {x : Str} {op : Operator} {pos' : Pos} (hN : X.N.Nodup) (hi : X.N[i]? = some x) (hx : Loc X.env.scope x) (he : PE X e (RdE cl X.K bs W eva)) (hf : X.fn x = true ∨ X.env.scope.names.lookup x = some .local) :
    PS X (.AugAssign (.Name x pos') op e pos) (RdS cl X.K bs W fun ds S => match ds[i]? with
      | some (some u) => thenS (eva ds S) ds fun v S => match augD op u v with
        | some z => .nx (ds.set i (some (.t z))) S
        | none => .bad
      | _ => .bad) :=
  ps_den (ps_aug hN hi hx he (op_augT op) hf) fun σ H D g ds S m ss p => by
    split at p
    · rename_i u hu
      obtain ⟨x, hx, rx⟩ := ss.2 i u hu
      refine ⟨x, hx, g, ds, S, m, ss, (PostS.step ss p).imp fun y H1 ⟨g1, v, S1, l1, m1, r1, p1⟩ => ?_⟩
      split at p1
      · rename_i z hz
        cases u with
        | t a =>
          cases v with
          | t b =>
            cases rx with
            | t rx =>
              cases r1 with
              | t r1 => exact ⟨g1.F, true, true, a, b, z, rx.mono l1.F, r1, hz, fun w rw' => p1 g1 H1 _ (.refl g1) m1 ((ss.mono l1).set i (.t rw'))⟩
          | _ => cases hz
        | _ => cases hz
      · exact p1.elim
    · exact p.elim
/-- o.append(e) -/
theorem isLst_ok {g : G} {S : Store} {H : Hp} (m : SimH cl X.K bs g S H) {v : V} {d : D} (r : Rep X.K g v d) (h : isLst S d = true) : tyV X.K "list" v H := by
  unfold isLst at h
  split at h
  · rename_i n
    split at h
    · rename_i ds hs
      cases r with
      | @ref n a ha =>
        obtain ⟨_, vs, ho, _⟩ := m.cel n _ a hs ha rfl
        exact .inl ⟨rfl, vs, SqL.of ho⟩
    · cases h
  · cases h
theorem app_of {bf : Nat} (hb : ∀ c ∈ bs, c ≤ bf) {g : G} {S S' : Store} {H : Hp} (m : SimH cl X.K bs g S H) {v w : V} {d u : D} (r : Rep X.K g v d) (rw' : Rep X.K g w u) (h : appD bf S d u = some S') {Q : VK} (q : ∀ H', SimH cl X.K bs g S' H' → Q .non H') : rAppend v [w] H Q := by
  unfold appD at h
  split at h
  · rename_i n
    split at h
    · rename_i ds hs
      obtain ⟨h1, rfl⟩ := guardB_some h
      rw [Bool.and_eq_true, decide_eq_true_eq] at h1
      cases r with
      | @ref n a ha =>
        obtain ⟨_, vs, ho, hr⟩ := m.cel n _ a hs ha rfl
        refine ⟨a, vs, w, rfl, rfl, ho, by rw [hr.length]; exact h1.2, q _ ?_⟩
        refine m.put hb hs ha rfl ⟨_, rfl, hr.append (.cons rw' .nil)⟩ fun hn e he => ?_
        have he : e ∈ ds ++ [u] := he
        rw [List.mem_append] at he
        rcases he with z | z
        · exact .inl z
        · refine .inr ?_
          have : e = u := by simpa using z
          exact this ▸ mayW_ok h1.1 hn
    · cases h
  · cases h
theorem ds_app {bf : Nat} (hb : ∀ c ∈ bs, c ≤ bf) {apos cpos : Pos} (ho : PE X o (RdE cl X.K bs W eva)) (he : PE X e (RdE cl X.K bs W evb)) (hbase : attributeBase o "append" X.env (eval o X.env) = eval o X.env)
    (hfew : ((backTo cpos (starEach [e] X.env)).all (fun x => !x.1) && (backToKw cpos (keywordEach [] X.env)).all (fun x => x.1.isSome)
      && decide (([e] : List Expr).length + ([] : List Keyword).length + (if ([] : List Keyword).isEmpty then 0 else 1) < 30)) = true)
    (hline : (apos.endLine == cpos.line) = true) (hs : starEach [e] X.env = (false, eval e X.env) :: starEach [] X.env) :
    PS X (.Expr (.Call (.Attribute o "append" apos) [e] [] cpos) pos) (RdS cl X.K bs W fun ds S => thenS (eva ds S) ds fun u S => if isLst S u = true then thenS (evb ds S) ds fun v S => match appD bf S u v with
      | some S => .nx ds S
      | none => .bad
      else .bad) :=
  ps_den (ps_expr (pe_bm (cpos := cpos) (apos := apos) F.plainAttrs_list F.slot_list_append F.type_list_append mt_append ho (pa_cons he pa_nil hs) hbase hfew hline hs rfl) rfl) fun σ H D g ds S m ss p =>
    ⟨g, ds, S, m, ss, (PostS.step ss p).imp fun x H1 ⟨g1, u, S1, l1, m1, r1, p1⟩ => by
      split at p1
      · rename_i hl
        exact ⟨isLst_ok m1 r1 hl, g1, ds, S1, m1, ss.mono l1, (PostS.step (ss.mono l1) p1).imp fun y H2 ⟨g2, v, S2, l2, m2, r2, p2⟩ => by
          cases hd : appD bf S2 u v with
          | none => rw [hd] at p2; exact p2.elim
          | some S3 =>
            rw [hd] at p2
            exact app_of (Q := fun _ H => D.nx σ H) hb m2 (r1.mono l2) r2 hd fun H3 m3 => p2 g2 H3 σ (.refl g2) m3 (ss.mono (l1.trans l2))⟩
      · exact p1.elim⟩
/-! ### blocks -/
theorem ds_if {p q : List Stmt} {evt : Sl → Store → Res Bool} (hc : PT X c (RdT cl X.K bs W evt)) (ha : PSs X p (RdS cl X.K bs W evs)) (hb : PSs X q (RdS cl X.K bs W evs')) :
    PS X (.If c p q pos) (RdS cl X.K bs W fun ds S => thenS (evt ds S) ds fun k S => if k = true then evs ds S else evs' ds S) :=
  ps_den (ps_if hc ha hb) fun σ H D g ds S m ss p => ⟨g, ds, S, m, ss, (PostS.step ss p).imp fun y H1 ⟨g1, k, S1, l1, m1, e1, p1⟩ => by
    subst e1
    cases y with
    | true => exact ⟨g1, ds, S1, m1, ss.mono l1, p1⟩
    | false => exact ⟨g1, ds, S1, m1, ss.mono l1, p1⟩⟩
theorem ds_while {body : List Stmt} {evt : Sl → Store → Res Bool} {n : Nat} (hp : PassesOwn (model X.prog X.w) X.A X.env X.xe) (hc : PT X c (RdT cl X.K bs W evt)) (hb : PSs X body (RdS cl X.K bs W evs)) :
    PS X (.While c body [] pos) (RdS cl X.K bs W (whileD evt evs n)) :=
  ps_den (ps_while hp hc hb) fun σ H D g ds S m ss p => by
    refine ⟨fun m σ H => ∃ g ds S, SimH cl X.K bs g S H ∧ SimS X.K g ds σ ∧ PostS cl X.K bs W g (whileD evt evs m ds S) D, ⟨n, g, ds, S, m, ss, p⟩, ?_⟩
    rintro k σ H ⟨g, ds, S, m, ss, p⟩
    cases k with
    | zero => exact p.elim
    | succ k =>
      unfold whileD at p
      refine ⟨g, ds, S, m, ss, (PostS.step ss p).imp fun y H1 ⟨g1, b, S1, l1, m1, e1, p1⟩ => ?_⟩
      subst e1
      cases y with
      | false =>
        simp only [Bool.false_eq_true, if_false] at p1 ⊢
        exact p1 g1 H1 σ (.refl g1) m1 (ss.mono l1)
      | true =>
        simp only [if_true] at p1 ⊢
        refine ⟨_, fun σ' H' h => ⟨k, by omega, h⟩, g1, ds, S1, m1, ss.mono l1, ?_⟩
        cases h : evs ds S1 with
        | nx ds' S' => rw [h] at p1; exact fun g' H' σ' l' m' ss' => ⟨g', ds', S', m', ss', PostS.up p1 l'⟩
        | ret d S' => rw [h] at p1; exact p1
        | brk ds' S' => rw [h] at p1; exact p1
        | cont ds' S' => rw [h] at p1; exact fun g' H' σ' l' m' ss' => ⟨g', ds', S', m', ss', PostS.up p1 l'⟩
        | exc c fs ds' S' => rw [h] at p1; exact p1
        | bad => rw [h] at p1; exact p1
theorem ds_for {iter : Expr} {body : List Stmt} {evi : Sl → Store → Res (List D)} {evg : D → Sl → Store → Res Sl} (hp : PassesOwn (model X.prog X.w) X.A X.env X.xe) (hc : X.calm = true) (hi : PI X tg iter (RdI cl X.K bs W evi)) (hg : PG X tg (RdG cl X.K bs vs evg)) (hb : PSs X body (RdS cl X.K bs W evs))
    (hs : ∀ x, foldedSetIterable iter X.env x = pure x) :
    PS X (.For tg iter body [] pos) (RdS cl X.K bs W fun ds S => thenS (evi ds S) ds fun xs S => forD (fun d ds S => thenS (evg d ds S).noexc ds fun ds S => evs ds S) xs ds S) :=
  ps_den (ps_for hp hc hi hg hb hs) fun σ H D g ds S m ss p => by
    refine ⟨g, ds, S, m, ss, ?_⟩
    cases hi : evi ds S with
    | exc c fs S1 => rw [hi] at p; exact fun g' H cls dx l m q => p g' H cls dx σ l m (ss.mono l) q
    | bad => rw [hi] at p; exact p
    | ok us S1 =>
      rw [hi] at p
      simp only [thenS_ok] at p
      intro g1 H1 J l1 m1 w1
      refine ⟨fun i k σ H => k = us.length - i ∧ i ≤ us.length ∧ ∃ g' ds S, g1.le g' ∧ SimH cl X.K bs g' S H ∧ SimS X.K g' ds σ ∧ PostS cl X.K bs W g' (forD (fun d ds S => thenS (evg d ds S).noexc ds fun ds S => evs ds S) (us.drop i) ds S) D,
        ⟨us.length, rfl, Nat.zero_le _, g1, ds, S1, .refl g1, m1, ss.mono l1, PostS.up p l1⟩, ?_⟩
      rintro i k σ H ⟨rfl, hi', g2, ds, S, l2, m2, ss2, p2⟩
      obtain ⟨wgo, wstop⟩ := w1 g2 S H l2.sub m2 i
      by_cases hlt : i < us.length
      · right
        obtain ⟨d, hd⟩ : ∃ d, us[i]? = some d := ⟨us[i], List.getElem?_eq_getElem hlt⟩
        obtain ⟨jgo, jy⟩ := wgo d hd
        refine ⟨jgo, _, fun σ' H' h => ⟨us.length - (i + 1), by omega, h⟩, fun x H' hy' => ?_⟩
        obtain ⟨g3, l3, m3, r3⟩ := jy x H' hy'
        have hdrop : us.drop i = d :: us.drop (i + 1) := by
          rw [List.drop_eq_getElem_cons hlt]
          congr 1
          rw [List.getElem?_eq_getElem hlt] at hd
          exact Option.some.inj hd
        rw [hdrop] at p2
        unfold forD at p2
        refine ⟨g3, d, ds, S, m3, ss2.mono l3, r3, ?_⟩
        cases hg1 : evg d ds S with
        | exc _ _ _ => rw [hg1] at p2; exact p2.elim
        | bad => rw [hg1] at p2; exact p2.elim
        | ok ds1 Sa =>
          rw [hg1] at p2
          simp only [Res.noexc_ok, thenS_ok] at p2
          intro g4 H4 σ4 l4 m4 ss4 _
          refine ⟨g4, ds1, Sa, m4, ss4, ?_⟩
          have ll : g2.le g4 := l3.trans l4
          cases h : evs ds1 Sa with
          | nx ds' S' => rw [h] at p2; exact fun g' H' σ' l' m' ss' => ⟨rfl, hlt, g', ds', S', (l2.trans ll).trans l', m', ss', PostS.up p2 (ll.trans l')⟩
          | ret d S' => rw [h] at p2; exact PostS.up (r := .ret d S') p2 ll
          | brk ds' S' => rw [h] at p2; exact PostS.up (r := .nx ds' S') p2 ll
          | cont ds' S' => rw [h] at p2; exact fun g' H' σ' l' m' ss' => ⟨rfl, hlt, g', ds', S', (l2.trans ll).trans l', m', ss', PostS.up p2 (ll.trans l')⟩
          | exc c fs ds' S' => rw [h] at p2; exact PostS.up (r := .exc c fs ds' S') p2 ll
          | bad => rw [h] at p2; exact p2
      · left
        have he : i = us.length := by omega
        refine ⟨wstop (by omega) (by omega), ?_⟩
        rw [List.drop_eq_nil_of_le (by omega)] at p2
        unfold forD at p2
        exact p2 g2 H σ (.refl g2) m2 ss2
/-! ### a list's cell is given up -/
theorem frz_ok {g : G} {S S' : Store} {H : Hp} (m : SimH cl X.K bs g S H) {v : V} {d d' : D} (r : Rep X.K g v d) (h : frzD S d = some (d', S')) : ∃ g', g.le g' ∧ SimH cl X.K bs g' S' H ∧ Rep X.K g' v d' := by
  unfold frzD at h
  split at h
  · cases h; exact ⟨g, .refl g, m, r⟩
  · cases h; exact ⟨g, .refl g, m, r⟩
  · rename_i n
    split at h
    · rename_i ds hs
      cases ha : allT ds with
      | none => rw [ha] at h; cases h
      | some xs =>
        rw [ha] at h
        cases h
        have := allT_eq ha
        subst this
        cases r with
        | @ref n a hn =>
          obtain ⟨_, vs, ho, hr⟩ := m.cel n _ a hs hn rfl
          obtain ⟨l, m'⟩ := m.give hs hn rfl ho
          exact ⟨_, l, m', .t (.lst (SqL.of upd_same) (fun _ => upd_same) (hr.trees.mono l.F))⟩
    · cases h
  · cases h
theorem de_frz (ha : PE X a (RdE cl X.K bs W eva)) : PE X a (RdE cl X.K bs W fun ds S => (eva ds S).bind fun u S => match frzD S u with
    | some p => .ok p.1 p.2
    | none => .bad) :=
  pe_den ha fun σ H Q g ds S m ss p => ⟨g, ds, S, m, ss, (Post.step p).imp fun x H1 ⟨g1, u, S1, l1, m1, r1, p1⟩ => by
    cases h : frzD S1 u with
    | none => rw [h] at p1; exact p1.elim
    | some q =>
      rw [h] at p1
      obtain ⟨g2, l2, m2, r2⟩ := frz_ok m1 r1 (h : frzD S1 u = some (q.1, q.2))
      exact p1 g2 H1 x l2 m2 r2⟩
theorem dss_frz {i : Nat} (h : PSs X sts (RdS cl X.K bs W evs)) : PSs X sts (RdS cl X.K bs W fun ds S => match (match frzS ds i S with | some p => SRes.nx p.1 p.2 | none => .bad) with
    | .nx ds S => evs ds S
    | q => q) :=
  pss_den h fun σ H D g ds S m ss p => by
    cases hf : frzS ds i S with
    | none => rw [hf] at p; exact p.elim
    | some q =>
      rw [hf] at p
      unfold frzS at hf
      split at hf
      · rename_i d hd
        cases hz : frzD S d with
        | none => rw [hz] at hf; cases hf
        | some z =>
          rw [hz] at hf
          cases hf
          obtain ⟨v, hv, rv⟩ := ss.2 i d hd
          obtain ⟨g2, l2, m2, r2⟩ := frz_ok m rv (hz : frzD S d = some (z.1, z.2))
          refine ⟨g2, _, _, m2, ⟨by simp [ss.1], fun j e he => ?_⟩, PostS.up p l2⟩
          by_cases hj : i = j
          · subst hj
            have hl : i < ds.length := (List.getElem?_eq_some_iff.mp hd).1
            have he : (ds.set i (some z.1))[i]? = some (some e) := he
            rw [List.getElem?_set_self hl] at he
            cases he
            exact ⟨v, hv, r2⟩
          · have he : (ds.set i (some z.1))[j]? = some (some e) := he
            rw [List.getElem?_set_ne hj] at he
            obtain ⟨w, h1, h2⟩ := ss.2 j e he
            exact ⟨w, h1, h2.mono l2⟩
      · cases hf
end
end Den

set_option maxHeartbeats 1000000
/-! Den, part Z: list(zip(xs, ys)) of two lists. -/
namespace DenZ
open PySem PySem.Calls PyProof.Rows PySem.W
structure ZG (xs ys : Array Value) (lo : Addr) (h : Heap) (as : List Addr) : Prop where
  rise : as.Pairwise (· < ·)
  above : ∀ a ∈ as, lo < a
  pair : ∀ (j : Nat) (a : Addr), as[j]? = some a → ∃ x y, xs[j]? = some x ∧ ys[j]? = some y ∧ IsPair h a x y
theorem ZG.there {xs ys : Array Value} {lo : Addr} {h : Heap} {as : List Addr} (g : ZG xs ys lo h as) {a : Addr} (ha : a ∈ as) : a < h.objs.size := by
  obtain ⟨j, hj⟩ := List.mem_iff_getElem?.mp ha
  obtain ⟨_, _, _, _, q⟩ := g.pair j a hj
  exact Heap.lt_size q
theorem ZG.keep {xs ys : Array Value} {lo : Addr} {h h' : Heap} {as : List Addr} (g : ZG xs ys lo h as) (k : ∀ b o, lo < b → h.get? b = some o → h'.get? b = some o) : ZG xs ys lo h' as :=
  ⟨g.rise, g.above, fun j a hj => let ⟨x, y, e1, e2, e3⟩ := g.pair j a hj; ⟨x, y, e1, e2, k a _ (g.above a (List.mem_of_getElem? hj)) e3⟩⟩
theorem ZG.more {xs ys : Array Value} {lo : Addr} {h : Heap} {as : List Addr} {a : Addr} {x y : Value} (g : ZG xs ys lo h as) (hx : xs[as.length]? = some x) (hy : ys[as.length]? = some y) (hp : IsPair h a x y) (hl : lo < a) (hm : ∀ b ∈ as, b < a) : ZG xs ys lo h (as ++ [a]) := by
  refine ⟨List.pairwise_append.mpr ⟨g.rise, List.pairwise_singleton _ _, fun b hb c hc => by rw [List.mem_singleton.mp hc]; exact hm b hb⟩, fun b hb => ?_, fun j b hj => ?_⟩
  · rcases List.mem_append.mp hb with hb | hb
    · exact g.above b hb
    · rw [List.mem_singleton.mp hb]; exact hl
  · by_cases h1 : j < as.length
    · rw [List.getElem?_append_left h1] at hj
      exact g.pair j b hj
    · rw [List.getElem?_append_right (by omega)] at hj
      have hj0 : j - as.length = 0 := by
        cases q : j - as.length with
        | zero => rfl
        | succ m => rw [q] at hj; simp at hj
      rw [hj0] at hj
      simp at hj
      subst hj
      have : j = as.length := by omega
      subst this
      exact ⟨x, y, hx, hy, hp⟩
section
variable {prog : Program} {w : World} {A : Around} {s : Shared} {R : Result → Shared → Prop} {z TI TO i1 i2 l1 l2 S : Addr} {xs ys : Array Value}
/-- where all stands -/
structure ZB (z TI TO i1 i2 l1 l2 S : Addr) : Prop where
  ti : TI < z
  to : TO < z
  i1 : i1 < z
  i2 : i2 < z
  l1 : l1 < z
  l2 : l2 < z
  S : z < S
/-- the zip at its i-th turn, the tuple that it gave out last still held -/
def ZSt (h : Heap) (z TI TO i1 i2 l1 l2 S : Addr) (xs ys : Array Value) (i : Nat) : Prop :=
  IsPair h TI (.ref i1) (.ref i2) ∧ h.IsListIter i1 l1 i ∧ h.IsListIter i2 l2 i ∧ h.IsList l1 xs ∧ h.IsList l2 ys ∧ ((IsZip h z TI TO .none ∧ ∃ a b, IsPair h TO a b) ∨ ∃ T f oT, IsZipHeld h z TI TO T f ∧ h.get? T = some oT ∧ S < T)
theorem ZSt.keep {h h' : Heap} {i : Nat} (st : ZSt h z TI TO i1 i2 l1 l2 S xs ys i) (B : ZB z TI TO i1 i2 l1 l2 S) (k : ∀ b o, b ≠ S → h.get? b = some o → h'.get? b = some o) : ZSt h' z TI TO i1 i2 l1 l2 S xs ys i := by
  obtain ⟨a1, a2, a3, a4, a5, a6⟩ := st
  have lo : ∀ {b : Addr}, b < z → b ≠ S := fun q => Nat.ne_of_lt (Nat.lt_trans q B.S)
  refine ⟨k _ _ (lo B.ti) a1, a2.at fun o e => k _ o (lo B.i1) e, a3.at fun o e => k _ o (lo B.i2) e, a4.at fun o e => k _ o (lo B.l1) e, a5.at fun o e => k _ o (lo B.l2) e, ?_⟩
  rcases a6 with ⟨c1, a, b, c2⟩ | ⟨T, f, oT, c1, c2, c3⟩
  · exact .inl ⟨k _ _ (Nat.ne_of_lt B.S) c1, a, b, k _ _ (lo B.to) c2⟩
  · exact .inr ⟨T, f, oT, k _ _ (Nat.ne_of_lt B.S) c1, k _ _ (Nat.ne_of_gt c3) c2, c3⟩
theorem zip_step (D : ZipApart z TI TO i1 i2 l1 l2) (B : ZB z TI TO i1 i2 l1 l2 S) (Sl : S < s.heap.objs.size) {i : Nat} {x y : Value} {E : Value → Shared → Prop} {Q : Option Value → Shared → Prop} (st : ZSt s.heap z TI TO i1 i2 l1 l2 S xs ys i) (hx : xs[i]? = some x) (hy : ys[i]? = some y)
    (hQ : ∀ h', ZSt h' z TI TO i1 i2 l1 l2 S xs ys (i + 1) → IsPair h' s.heap.objs.size x y → (∀ c o, c ≠ z → c ≠ TO → c ≠ i1 → c ≠ i2 → s.heap.get? c = some o → h'.get? c = some o) → Q (some (.ref s.heap.objs.size)) { s with heap := h' }) :
    wpAny (model prog w) A (pyNext (.ref z)) Q E s := by
  obtain ⟨a1, a2, a3, a4, a5, a6⟩ := st
  rcases a6 with ⟨c1, a, b, c2⟩ | ⟨T, f, oT, c1, c2, c3⟩
  · refine wpAny_pyNext_zip_item D c1 a1 c2 a2 a3 a4 a5 hx hy fun h' q1 q2 q3 q4 q5 q6 q7 => hQ h' ?_ q5 q7
    exact ⟨q7 _ _ D.TIz D.TITO D.TIi1 D.TIi2 a1, q3, q4, a4.at fun o e => q7 _ o D.l1z D.l1TO D.l1i1 D.l1i2 e, a5.at fun o e => q7 _ o D.l2z D.l2TO D.l2i1 D.l2i2 e, .inr ⟨_, false, _, q1, q5, Sl⟩⟩
  · refine wpAny_pyNext_zip_item_held D c1 c2 a1 a2 a3 a4 a5 hx hy fun h' q1 q3 q4 q5 q6 q7 => hQ h' ?_ q5 fun c o n1 n2 n3 n4 e => q7 c o n1 n3 n4 e
    have hi : z < T := Nat.lt_trans B.S c3
    exact ⟨q7 _ _ D.TIz D.TIi1 D.TIi2 a1, q3, q4, a4.at fun o e => q7 _ o D.l1z D.l1i1 D.l1i2 e, a5.at fun o e => q7 _ o D.l2z D.l2i1 D.l2i2 e,
      .inr ⟨T, true, oT, q1, q7 _ _ (Nat.ne_of_gt hi) (Nat.ne_of_gt (Nat.lt_trans B.i1 hi)) (Nat.ne_of_gt (Nat.lt_trans B.i2 hi)) c2, c3⟩⟩
theorem zip_stop (D : ZipApart z TI TO i1 i2 l1 l2) (hh : A.handled = none) {i : Nat} {E : Value → Shared → Prop} {Q : Option Value → Shared → Prop} (st : ZSt s.heap z TI TO i1 i2 l1 l2 S xs ys i) (he : xs[i]? = none ∨ ys[i]? = none)
    (hQ : ∀ h', (∀ c o, c ≠ z → c ≠ TO → c ≠ i1 → c ≠ i2 → s.heap.get? c = some o → h'.get? c = some o) → Q none { s with heap := h' }) : wpAny (model prog w) A (pyNext (.ref z)) Q E s := by
  obtain ⟨a1, a2, a3, a4, a5, a6⟩ := st
  rcases a6 with ⟨c1, a, b, c2⟩ | ⟨T, f, oT, c1, c2, c3⟩
  · exact wpAny_pyNext_zip_end hh D c1 a1 c2 a2 a3 a4 a5 he fun h' q => hQ h' q
  · exact wpAny_pyNext_zip_end_held hh D c1 c2 a1 a2 a3 a4 a5 he fun h' q => hQ h' fun c o n1 _ n3 n4 e => q c o n1 n3 n4 e
theorem zip_loop (D : ZipApart z TI TO i1 i2 l1 l2) (B : ZB z TI TO i1 i2 l1 l2 S) (hh : A.handled = none) (hn : min xs.size ys.size ≤ sizeLine) (res : Value) {h₁ : Heap}
    (hR : ∀ h' c as, (∀ b o, b ≠ S → b ≠ z → b ≠ TO → b ≠ i1 → b ≠ i2 → h₁.get? b = some o → h'.get? b = some o) → h'.get? S = some { cls := .type "list", dict := none, data := .seq (as.map Value.ref).toArray c, slots := #[] } → as.length = min xs.size ys.size → ZG xs ys S h' as →
      R (.ok (.ret res)) { s with heap := h' }) :
    ∀ (k i : Nat) (h : Heap) (c : Nat) (as : List Addr), min xs.size ys.size - i = k → i ≤ min xs.size ys.size → ZSt h z TI TO i1 i2 l1 l2 S xs ys i → (∀ b o, b ≠ S → b ≠ z → b ≠ TO → b ≠ i1 → b ≠ i2 → h₁.get? b = some o → h.get? b = some o) →
      h.get? S = some { cls := .type "list", dict := none, data := .seq (as.map Value.ref).toArray c, slots := #[] } → as.length = i → ZG xs ys S h as →
      codeAny (model prog w) A (.builtin "list.extend.loop" ⟨[.ref S, .ref z, res], []⟩) R { s with heap := h } := by
  have n1 : S ≠ z := Nat.ne_of_gt B.S
  have n2 : S ≠ TO := Nat.ne_of_gt (Nat.lt_trans B.to B.S)
  have n3 : S ≠ i1 := Nat.ne_of_gt (Nat.lt_trans B.i1 B.S)
  have n4 : S ≠ i2 := Nat.ne_of_gt (Nat.lt_trans B.i2 B.S)
  have off : ∀ {h h' : Heap}, (∀ c o, c ≠ z → c ≠ TO → c ≠ i1 → c ≠ i2 → h.get? c = some o → h'.get? c = some o) → ∀ b o, S < b → h.get? b = some o → h'.get? b = some o := fun {h h'} k b o hb e =>
    have hz : z < b := Nat.lt_trans B.S hb
    k b o (Nat.ne_of_gt hz) (Nat.ne_of_gt (Nat.lt_trans B.to hz)) (Nat.ne_of_gt (Nat.lt_trans B.i1 hz)) (Nat.ne_of_gt (Nat.lt_trans B.i2 hz)) e
  intro k
  induction k with
  | zero =>
    intro i h c as hk hi st kp hSo hal hG
    have hin : i = min xs.size ys.size := by omega
    refine codeAny_builtin PySem.F.entry_extend_loop ?_
    (rw [Around.under_plainId PySem.F.plain_extend_loop _])
    show wpAny _ A.in1 (pyNext (.ref z) >>= _) _ _ _
    refine wpAny_bind (zip_stop (s := { s with heap := h }) (A := A.in1) D hh st (by
      rcases Nat.le_total xs.size ys.size with q | q
      · exact .inl (Array.getElem?_eq_none (by omega))
      · exact .inr (Array.getElem?_eq_none (by omega))) fun h' q => wpAny_pure ?_)
    exact hR h' c as (fun b o m0 m1 m2 m3 m4 e => q b o m1 m2 m3 m4 (kp b o m0 m1 m2 m3 m4 e)) (q S _ n1 n2 n3 n4 hSo) (by omega) (hG.keep (off q))
  | succ k ih =>
    intro i h c as hk hi st kp hSo hal hG
    have hix : i < xs.size := by omega
    have hiy : i < ys.size := by omega
    have hSl : S < h.objs.size := Heap.lt_size hSo
    refine codeAny_builtin PySem.F.entry_extend_loop ?_
    (rw [Around.under_plainId PySem.F.plain_extend_loop _])
    show wpAny _ A.in1 (pyNext (.ref z) >>= _) _ _ _
    refine wpAny_bind (zip_step (s := { s with heap := h }) (A := A.in1) D B hSl st (Array.getElem?_eq_getElem hix) (Array.getElem?_eq_getElem hiy) fun h' st' hp q => ?_)
    dsimp only at hp q ⊢
    have hSo' := q S _ n1 n2 n3 n4 hSo
    have up : ∀ b o, b ≠ S → h'.get? b = some o → (h'.update S (Obj.mapSeq (·.push (Value.ref h.objs.size)))).get? b = some o := fun b o hb e => (Heap.get?_update_other _ _ (Ne.symm hb)).trans e
    have e1 : ((as.map Value.ref).toArray.push (Value.ref h.objs.size)) = ((as ++ [h.objs.size]).map Value.ref).toArray := by simp
    have lS : ∃ c', (h'.update S (Obj.mapSeq (·.push (Value.ref h.objs.size)))).get? S = some { cls := .type "list", dict := none, data := .seq ((as.map Value.ref).toArray.push (Value.ref h.objs.size)) c', slots := #[] } := ⟨_, Heap.get?_update_self _ hSo' rfl⟩
    obtain ⟨c', lS⟩ := lS
    rw [e1] at lS
    show wpAny _ A.in1 (updateSeq S (·.push (Value.ref h.objs.size)) >>= _) _ _ _
    refine wpAny_bind (wpAny_updateSeq hSo' rfl (wpAny_pure ⟨plainId_quiet PySem.F.plain_extend_loop _, ?_⟩) (by simp; omega) (by simp; omega))
    refine ih (i + 1) _ c' (as ++ [h.objs.size]) (by omega) (by omega) (st'.keep B up) (fun b o m0 m1 m2 m3 m4 e => up b o m0 (q b o m1 m2 m3 m4 (kp b o m0 m1 m2 m3 m4 e))) lS (by simp [hal]) ?_
    refine ((hG.keep (off q)).keep fun b o hb e => up b o (Nat.ne_of_gt hb) e).more (by rw [hal]; exact Array.getElem?_eq_getElem hix) (by rw [hal]; exact Array.getElem?_eq_getElem hiy) (up _ _ (Nat.ne_of_gt hSl) hp) hSl fun b hb => hG.there hb
end
theorem zip_no_len : typeLookup (.type "zip") "__len__" = pure none := am_miss_of_fast (by decide +kernel)
theorem zip_no_hint : typeLookup (.type "zip") "__length_hint__" = pure none := am_miss_of_fast (by decide +kernel)
section
variable {prog : Program} {w : World} {A : Around} {E : Value → Shared → Prop} {s : Shared} {z TI TO i1 i2 l1 l2 : Addr} {xs ys : Array Value}
theorem zip_hint {Q : Bool → Shared → Prop} (hT : s.TypeIs (.ref z) "zip") (h : Q true s) : wpAny (model prog w) A (Builtin.List.listLengthHint (.ref z)) Q E s := by
  unfold Builtin.List.listLengthHint
  refine wpAny_bind (wpAny_specialOf hT zip_no_len ?_)
  refine wpAny_bind (wpAny_specialOf hT zip_no_hint ?_)
  exact wpAny_pure h
theorem zip_list {Q : Value → Shared → Prop} (hh : A.handled = none) (D : ZipApart z TI TO i1 i2 l1 l2) (o1 : TI < z) (o2 : TO < z) (o3 : i1 < z) (o4 : i2 < z) (o5 : l1 < z) (o6 : l2 < z) (hn : min xs.size ys.size ≤ sizeLine)
    (hz : IsZip s.heap z TI TO .none) (hTI : IsPair s.heap TI (.ref i1) (.ref i2)) (hTO : ∃ a b, IsPair s.heap TO a b) (h1 : s.heap.IsListIter i1 l1 0) (h2 : s.heap.IsListIter i2 l2 0) (hl1 : s.heap.IsList l1 xs) (hl2 : s.heap.IsList l2 ys)
    (hQ : ∀ h' c as, (∀ b o, b ≠ z → b ≠ TO → b ≠ i1 → b ≠ i2 → s.heap.get? b = some o → h'.get? b = some o) → h'.get? s.heap.objs.size = some { cls := .type "list", dict := none, data := .seq (as.map Value.ref).toArray c, slots := #[] } →
      as.length = min xs.size ys.size → ZG xs ys s.heap.objs.size h' as → Q (.ref s.heap.objs.size) { s with heap := h' }) : wpAny (model prog w) A (call (.type "list") [.ref z]) Q E s := by
  have zl : z < s.heap.objs.size := Heap.lt_size hz
  refine callType_codes (Q₁ := fun obj s₁ => obj = .ref s.heap.objs.size ∧ s₁ = { s with heap := s.heap.push { cls := .type "list", data := .seq #[] } }) PySem.F.called_list (PySem.F.typeCall_list_1 _) PySem.F.entry_list_init (code_list_new _ ⟨rfl, rfl⟩) fun obj s₁ hs₁ => ?_
  obtain ⟨rfl, rfl⟩ := hs₁
  have kp : ∀ b o, s.heap.get? b = some o → (s.heap.push { cls := .type "list", data := .seq #[] }).get? b = some o := fun b o e => Heap.get?_push_of_some _ e
  have hS : (s.heap.push { cls := .type "list", data := .seq #[] }).get? s.heap.objs.size = some { cls := .type "list", data := .seq #[] } := Heap.get?_push_size _ rfl
  have B : ZB z TI TO i1 i2 l1 l2 s.heap.objs.size := ⟨o1, o2, o3, o4, o5, o6, zl⟩
  refine ⟨⟨_, hS, rfl⟩, PySem.F.args_list_init_2 _ _, ?_⟩
  show wpAny _ _ (Builtin.List.listItems (.ref s.heap.objs.size) >>= fun old => Builtin.List.listUpdate (.ref s.heap.objs.size) (fun _ => #[]) >>= fun _ => letGo old.toList.reverse >>= fun _ => Builtin.List.listExtendWith (.ref s.heap.objs.size) (.ref z) .none) _ _ _
  refine wpAny_bind ?_
  unfold Builtin.List.listItems
  refine wpAny_bind (wpAny_seqItems hS rfl (wpAny_pure ?_))
  show wpAny _ _ (updateSeq s.heap.objs.size (fun _ => #[]) >>= fun _ => letGo (#[] : Array Value).toList.reverse >>= fun _ => Builtin.List.listExtendWith (.ref s.heap.objs.size) (.ref z) .none) _ _ _
  refine wpAny_bind (wpAny_updateSeq hS rfl (wpAny_bind (wpAny_letGo ?_)))
  have hS2 := Heap.get?_update_self (Obj.mapSeq (fun _ => (#[] : Array Value))) hS rfl
  have kp2 : ∀ b o, s.heap.get? b = some o → ((s.heap.push { cls := .type "list", data := .seq #[] }).update s.heap.objs.size (Obj.mapSeq (fun _ => (#[] : Array Value)))).get? b = some o := fun b o e =>
    (Heap.get?_update_other _ _ (Nat.ne_of_gt (Heap.lt_size e))).trans (kp b o e)
  generalize (s.heap.push { cls := .type "list", data := .seq #[] }).update s.heap.objs.size (Obj.mapSeq (fun _ => (#[] : Array Value))) = g2 at hS2 kp2 ⊢
  unfold Builtin.List.listExtendWith
  refine wpAny_bind (wpAny_typeOf (T := "zip") ⟨_, kp2 _ _ hz, rfl⟩ ?_)
  have q1 : Builtin.List.listSameRef (.ref s.heap.objs.size) (.ref z) = false := by simp [Builtin.List.listSameRef, Nat.ne_of_gt zl]
  have q2 : (Value.type "zip" == Value.type "list") = false := by decide
  have q3 : (Value.type "zip" == Value.type "tuple") = false := by decide
  simp only [q1, q2, q3, Bool.or_false, Bool.false_eq_true, if_false]
  refine wpAny_bind (wpAny_pyIter_zip (kp2 _ _ hz) ?_)
  refine wpAny_bind (wpAny_holding (zip_hint ⟨_, kp2 _ _ hz, rfl⟩ ?_))
  rw [Bool.true_or, if_pos rfl]
  refine wpAny_bind (wpAny_rule (wpAny_bind ?_))
  show wpAny _ _ (updateSeq s.heap.objs.size (·.push .none) >>= fun _ => updateSeq s.heap.objs.size (·.pop)) _ _ _
  refine wpAny_bind (wpAny_updateSeq hS2 rfl ?_)
  have hS3 := Heap.get?_update_self (Obj.mapSeq (·.push Value.none)) hS2 rfl
  refine wpAny_updateSeq (hz := by simp [Obj.mapSeq, sizeLine_eq]) hS3 rfl ?_
  have hS4 := Heap.get?_update_self (Obj.mapSeq (·.pop)) hS3 rfl
  have kp4 : ∀ b o, s.heap.get? b = some o → ((g2.update s.heap.objs.size (Obj.mapSeq (·.push Value.none))).update s.heap.objs.size (Obj.mapSeq (·.pop))).get? b = some o := fun b o e => by
    have nb : s.heap.objs.size ≠ b := Nat.ne_of_gt (Heap.lt_size e)
    exact (Heap.get?_update_other _ _ nb).trans ((Heap.get?_update_other _ _ nb).trans (kp2 b o e))
  generalize (g2.update s.heap.objs.size (Obj.mapSeq (·.push Value.none))).update s.heap.objs.size (Obj.mapSeq (·.pop)) = g4 at hS4 kp4 ⊢
  refine wpAny_pure ⟨plainId_quiet PySem.F.plain_extend_loop _, ?_⟩
  refine zip_loop (A := A.in1) (s := { s with heap := g4 }) D B hh hn .none (h₁ := s.heap) (fun h' c as kp' hS' hl hG => ⟨rfl, hQ h' c as (fun b o m1 m2 m3 m4 e => kp' b o (Nat.ne_of_lt (Heap.lt_size e)) m1 m2 m3 m4 e) hS' hl hG⟩) (min xs.size ys.size) 0 g4 _ [] (Nat.sub_zero _) (Nat.zero_le _)
    ⟨kp4 _ _ hTI, h1.at fun o e => kp4 _ o e, h2.at fun o e => kp4 _ o e, hl1.at fun o e => kp4 _ o e, hl2.at fun o e => kp4 _ o e, .inl ⟨kp4 _ _ hz, let ⟨a, b, e⟩ := hTO; ⟨a, b, kp4 _ _ e⟩⟩⟩ (fun b o _ _ _ _ _ e => kp4 b o e) hS4 rfl
    ⟨List.Pairwise.nil, (fun a ha => nomatch ha), fun j a hj => by simp at hj⟩
end
end DenZ
namespace Den
open PySem PySem.Spec PyProof.Rows L2
section
variable {X : Cx} {pins : List (Addr × Obj)} {σ : L2.St} {H H' : Hp} {s : Shared}
/-- several new things at once -/
theorem Inv.laidMany {h' : Heap} {t' : Nat} (I : Inv X pins σ H s) (k : ∀ b o, s.heap.get? b = some o → h'.get? b = some o) (old : ∀ b o, H b = some o → H' b = some o) (new : ∀ b o, H' b = some o → H b = none → s.heap.objs.size ≤ b ∧ ObjOk X.prog X.w H' h' b o) :
    Inv X pins σ H' { s with heap := h', toks := t' } := by
  refine I.call' (ch := []) rfl ⟨fun b o q _ _ _ => k b o q, fun b o q _ _ _ => ⟨o.slots, k b o q⟩, fun b o q n _ => ?_, fun b o q _ => ⟨o, k b o q⟩, fun b xs q => old b _ q, fun b o u q => old b _ q, fun b ps q => ⟨#[], by rw [old b _ q]; simp⟩⟩ (fun b u q => ?_) I.bare fun b z => by cases z
  · cases e : H' b with
    | none => rfl
    | some u => exact absurd (Heap.lt_size q) (Nat.not_lt.mpr (new b u e n).1)
  · cases e : H b with
    | none => exact (new b u q e).2
    | some v =>
      rw [old b v e] at q
      cases q
      exact (I.hok b _ e).stay (fun d u _ y => k d u y) (fun d y => old d _ y) fun d xs y => old d _ y
theorem refs_ok : ∀ as : List Addr, Vals (as.map V.ref) (as.map Value.ref)
  | [] => .nil
  | _ :: as => .cons rfl (refs_ok as)
/-- the pairs as -/
def putP : Hp → List Addr → List (V × V) → Hp
  | H, a :: as, p :: ps => putP (upd H a (.tup [p.1, p.2])) as ps
  | H, _, _ => H
theorem putP_off {b : Addr} : ∀ (as : List Addr) (ps : List (V × V)) (H : Hp), b ∉ as → putP H as ps b = H b
  | [], _, _, _ => by unfold putP; rfl
  | a :: as, [], _, _ => by unfold putP; rfl
  | a :: as, p :: ps, H, h => by
    unfold putP
    rw [putP_off as ps _ fun z => h (List.mem_cons_of_mem _ z), upd_ne fun z => h (by rw [z]; exact List.mem_cons_self)]
theorem putP_at {b : Addr} : ∀ (as : List Addr) (ps : List (V × V)) (H : Hp) (j : Nat) (p : V × V), as.Nodup → as[j]? = some b → ps[j]? = some p → putP H as ps b = some (.tup [p.1, p.2])
  | [], _, _, j, _, _, e, _ => by simp at e
  | a :: as, [], _, j, _, _, _, e => by simp at e
  | a :: as, q :: ps, H, 0, p, nd, e1, e2 => by
    simp at e1 e2
    subst e1 e2
    unfold putP
    rw [putP_off as ps _ (List.nodup_cons.mp nd).1, upd_same]
  | a :: as, q :: ps, H, j + 1, p, nd, e1, e2 => by
    unfold putP
    exact putP_at as ps _ j p (List.nodup_cons.mp nd).2 (by simpa using e1) (by simpa using e2)
def tLZip (K : PySem.W.Frag) (ta : TA) : TE := fun σ H Q => ta σ H fun vs H1 => ∃ a b xs ys, vs = [.ref a, .ref b] ∧ SqL K H1 a xs ∧ SqL K H1 b ys ∧
  ∀ (p : Addr) (as : List Addr), H1 p = none → (∀ t ∈ as, H1 t = none) → p ∉ as → as.Nodup → as.length = (xs.zip ys).length → Q (.ref p) (upd (putP H1 as (xs.zip ys)) p (.lst (as.map V.ref)))
theorem pe_lzip {e e2 : Expr} {ta : TA} {p pos p2 pos2 : Pos} (hc : X.calm = true) (hg : Gl X "list") (hm : X.mg "list" = none) (hg2 : Gl X "zip") (hm2 : X.mg "zip" = none) (ha : PA X [e, e2] ta)
    (hs : starEach [e, e2] X.env = (false, eval e X.env) :: starEach [e2] X.env) (hpl : (backTo pos2 (starEach [e2] X.env)).any (·.1) = false) :
    PE X (.Call (.Name "list" p) [.Call (.Name "zip" p2) [e, e2] [] pos2] [] pos) (tLZip X.K ta) := by
  refine ⟨fun pins s σ H Q I h => ?_⟩
  have b1 : bootBuiltins "list" = some (.type "list") := by decide +kernel
  refine wpAny_Call_Name_kw (ld_blt I hg hm b1 ?_)
  refine PyProof.Rows.callWith_type1 ?_ rfl rfl
  refine Calls.spliced_cons ?_
  refine Call_ (ld_blt I hg2 hm2 PyProof.Rows.boot_zip (PyProof.Rows.callWith_type1 (thn (ha.run pos2 pins s σ H _ I h) fun us s1 ⟨vs, H1, I1, r1, a, b, xs, ys, ex, hqx, hqy, q⟩ => ?_) hs hpl))
  subst ex
  cases r1 with
  | cons r rr =>
    cases rr with
    | cons r' rr =>
      cases rr
      cases r
      cases r'
      obtain ⟨its, rv, p1, z1⟩ := I1.list hqx
      obtain ⟨its2, rv2, p2, z2⟩ := I1.list hqy
      have la : a < s1.heap.objs.size := p1.lt
      have lb : b < s1.heap.objs.size := p2.lt
      refine call_zip_2 p1.isList p2.isList fun h' hz hTI hTO h1 h2 hsz hk => Calls.spliced_nil ?_
      have I2 : Inv X pins σ H1 { s1 with heap := h' } := I1.kept (t' := s1.toks) hk
      have lx := rv.length
      have ly := rv2.length
      have n0 : ∀ n : Nat, n + 2 < n + 4 ∧ n + 3 < n + 4 ∧ n < n + 4 ∧ n + 1 < n + 4 ∧ ∀ k, k < n → k < n + 4 := fun n => ⟨by omega, by omega, by omega, by omega, fun k h => by omega⟩
      obtain ⟨m1, m2, m3, m4, m5⟩ := n0 s1.heap.objs.size
      refine DenZ.zip_list (s := { s1 with heap := h' }) (I2.ok.hd hc) (PySem.W.ktu_apart s1.heap.objs.size a b la lb) m1 m2 m3 m4 (m5 a la) (m5 b lb) (by simp; omega) hz hTI ⟨_, _, hTO⟩ h1 h2 (p1.isList.at fun o e => hk _ o e) (p2.isList.at fun o e => hk _ o e) fun h2' c as kp hS hl hG => ?_
      have hl : as.length = (xs.zip ys).length := by
        rw [hl, List.length_zip, lx, ly]
        simp
      have hnew : ∀ b, h'.objs.size ≤ b → H1 b = none := fun b hb => I2.hok.fresh hb
      have abv : ∀ t ∈ as, h'.objs.size < t := hG.above
      have nd : as.Nodup := List.Pairwise.imp (fun {a b} (h : a < b) => Nat.ne_of_lt h) hG.rise
      have hpn : h'.objs.size ∉ as := fun m => absurd (abv _ m) (Nat.lt_irrefl _)
      have fin := q h'.objs.size as (hnew _ (Nat.le_refl _)) (fun t m => hnew t (Nat.le_of_lt (abv t m))) hpn nd hl
      refine ⟨.ref h'.objs.size, _, ?_, rfl, fin⟩
      have eP : upd (putP H1 as (xs.zip ys)) h'.objs.size (.lst (as.map V.ref)) h'.objs.size = some (.lst (as.map V.ref)) := upd_same
      have hasz : as.length ≤ sizeLine := by rw [hl, List.length_zip]; omega
      have inP : ∀ (j : Nat) t p, as[j]? = some t → (xs.zip ys)[j]? = some p → upd (putP H1 as (xs.zip ys)) h'.objs.size (.lst (as.map V.ref)) t = some (.tup [p.1, p.2]) := fun j t p e1 e2 => by
        rw [upd_ne fun z => hpn (by rw [← z]; exact List.mem_of_getElem? e1)]
        exact putP_at as _ _ j p nd e1 e2
      have offP : ∀ b, b ≠ h'.objs.size → b ∉ as → upd (putP H1 as (xs.zip ys)) h'.objs.size (.lst (as.map V.ref)) b = H1 b := fun b n1 n2 => by rw [upd_ne n1, putP_off as _ _ n2]
      have hsz2 : s1.heap.objs.size ≤ h'.objs.size := by rw [hsz]; exact Nat.le_add_right _ _
      refine Inv.laidMany (s := s1) (t' := s1.toks) I1 ?_ ?_ ?_
      · intro b o e
        have hb := Heap.lt_size e
        have ne : ∀ k : Nat, b ≠ s1.heap.objs.size + k := fun k => Nat.ne_of_lt (Nat.lt_of_lt_of_le hb (Nat.le_add_right _ _))
        exact kp b o (ne 4) (ne 3) (ne 0) (ne 1) (hk b o e)
      · intro b o e
        have n1 : b ≠ h'.objs.size := fun z => by rw [z, hnew _ (Nat.le_refl _)] at e; cases e
        have n2 : b ∉ as := fun z => by rw [hnew b (Nat.le_of_lt (abv b z))] at e; cases e
        rw [offP b n1 n2]
        exact e
      · intro b o e n
        by_cases c1 : b = h'.objs.size
        · subst c1
          rw [eP] at e
          cases e
          refine ⟨hsz2, by rw [List.length_map]; exact hasz, as.map Value.ref, c, refs_ok as, hS⟩
        · by_cases c2 : b ∈ as
          · refine ⟨Nat.le_trans hsz2 (Nat.le_of_lt (abv b c2)), ?_⟩
            obtain ⟨j, hj⟩ := List.mem_iff_getElem?.mp c2
            obtain ⟨x, y, g1, g2, g3⟩ := hG.pair j b hj
            have hjl : j < (xs.zip ys).length := by rw [← hl]; exact (List.getElem?_eq_some_iff.mp hj).1
            have e3 := inP j b _ hj (List.getElem?_eq_getElem hjl)
            rw [e3] at e
            cases e
            have hz' := List.getElem?_zip_eq_some.mp (List.getElem?_eq_getElem hjl)
            obtain ⟨u, w1, w2⟩ := rv.get hz'.1
            obtain ⟨u', w1', w2'⟩ := rv2.get hz'.2
            rw [List.getElem?_toArray, w1] at g1
            rw [List.getElem?_toArray, w1'] at g2
            injection g1 with g1
            injection g2 with g2
            subst g1 g2
            exact ⟨by show 2 ≤ sizeLine; decide, [_, _], .cons w2 (.cons w2' .nil), ⟨_, g3, rfl, _, rfl⟩⟩
          · rw [offP b c1 c2] at e
            rw [n] at e
            cases e
end
end Den

set_option maxHeartbeats 1000000
/-! Den, part Y: enumerate of a text, of a tuple, from any count. -/
namespace Den
open PySem PySem.Spec PyProof.Rows L2
/-- a text's signs, numbered -/
def ItES (z : Str) (k0 : Int) : It :=
  ⟨fun i _ => i < z.cps.size, fun i H v H' => ∃ T c, v = .ref T ∧ H T = none ∧ H' = upd H T (.tup [.int (k0 + (i : Nat)), .str ⟨#[c]⟩]) ∧ z.cps[i]? = some c, fun i _ => z.cps.size ≤ i⟩
theorem turn_enumS {P : Program} {w : World} {K : PySem.W.Frag} {elts : List Expr} {kk : Nat} {tpos : Pos} (e it : Addr) (z : Str) (t : Tok) (k0 : Int) :
    Turn P w K (.Tuple elts kk tpos) (ItES z k0) [e, it] e (fun i h => (∃ old, IsEnum h e it (k0 + (i : Nat)) old) ∧ h.IsStrIter it (strIterType z) z t i ∧ e ≠ it ∧ i ≤ z.cps.size) where
  mem := by simp
  obj := fun i h st b hb => by
    obtain ⟨⟨old, he⟩, hi, hne, _⟩ := st
    rcases List.mem_cons.mp hb with rfl | hb
    · exact ⟨_, he, fun v q => nomatch q⟩
    · rw [List.mem_singleton] at hb
      subst hb
      obtain ⟨o, ho, hc, hd⟩ := hi
      exact ⟨o, ho, fun v q => by simp [hd] at q⟩
  keep := fun i h h' st k => by
    obtain ⟨⟨old, he⟩, hi, hne, hl⟩ := st
    obtain ⟨o, ho, hr⟩ := hi
    exact ⟨⟨old, k e (by simp) _ he⟩, ⟨o, k it (by simp) o ho, hr⟩, hne, hl⟩
  item := by
    intro X hP hw hK hc i pins s σ H E I hf st hg
    subst hP hw hK
    obtain ⟨⟨old, he⟩, hi, hne, hl⟩ := st
    have hg : i < z.cps.size := hg
    have hel : e < s.heap.objs.size := Heap.lt_size he
    have hil : it < s.heap.objs.size := by obtain ⟨o, ho, _⟩ := hi; exact Heap.lt_size ho
    have D := Draws.text (prog := X.prog) (w := X.w) (A := X.A.in1) (I.ok.hd hc) it z t
    refine wpAny_pyNext_enum_itemC D he hi hg hne (by simp [hne]) fun x h' tk hP ho hi' hT hsz hk => ?_
    obtain ⟨c, u, hcz, rfl⟩ := hP
    refine ⟨_, rfl, wpAny_letOwnedTupleGo_enum (s := { s with heap := h', toks := tk + 1 }) ho fun h'' he' sb => ?_⟩
    have hT2 : h''.get? s.heap.objs.size = some { cls := .type "tuple", data := .seq #[.int (k0 + (i : Nat)) tk, .str ⟨#[c]⟩ u] } := (sb.2 _ (Nat.ne_of_gt hel)).trans hT
    have new : ObjOk X.prog X.w (upd H s.heap.objs.size (.tup [.int (k0 + (i : Nat)), .str ⟨#[c]⟩])) h'' s.heap.objs.size (.tup [.int (k0 + (i : Nat)), .str ⟨#[c]⟩]) :=
      ⟨by show 2 ≤ sizeLine; decide, [.int (k0 + (i : Nat)) tk, .str ⟨#[c]⟩ u], .cons ⟨_, rfl⟩ (.cons ⟨_, rfl⟩ .nil), ⟨_, hT2, rfl, _, rfl⟩⟩
    have I1 := I.turnedNew (t' := tk + 1) (h' := h'') (ch := [e, it]) (fun b ob hb q => (sb.2 b (fun z => hb (by simp [z]))).trans (hk b ob (fun z => hb (by simp [z])) (fun z => hb (by simp [z])) q)) hf (Nat.le_refl _) new
    refine ⟨.ref s.heap.objs.size, _, I1, rfl, ⟨_, c, rfl, I.hok.fresh (Nat.le_refl _), rfl, hcz⟩, ⟨⟨.str ⟨#[c]⟩ u, ?_⟩, (let ⟨o, ho, hr⟩ := hi'; ⟨o, (sb.2 it (Ne.symm hne)).trans ho, hr⟩), hne, hg⟩, fun b hb => ?_⟩
    · have e1 : k0 + ((i + 1 : Nat) : Int) = k0 + (i : Nat) + 1 := by omega
      rw [e1]; exact he'
    · have hb' : b < s.heap.objs.size := by
        rcases List.mem_cons.mp hb with rfl | hb
        · exact hel
        · rw [List.mem_singleton.mp hb]; exact hil
      rw [upd_ne (Nat.ne_of_lt hb')]
      exact (hf b hb).1
  done := by
    intro X hP hw hK hc i pins s σ H E I hf st hg
    subst hP hw hK
    obtain ⟨⟨old, he⟩, hi, hne, hl⟩ := st
    have hg : z.cps.size ≤ i := hg
    have hi' : i = z.cps.size := Nat.le_antisymm hl hg
    subst hi'
    have D := Draws.text (prog := X.prog) (w := X.w) (A := X.A.in1) (I.ok.hd hc) it z t
    obtain ⟨f0, f1, f2, f3, f4, f5⟩ := hf it (by simp)
    exact wpAny_pyNext_enum_endD D he hi fun h' eb => ⟨rfl, I.turned (t' := s.toks) (fun b o hb q => eb b o hb q) f0 f1 f3 f4 f5⟩
  self := fun A i s Q E st h => let ⟨⟨_, he⟩, _⟩ := st; wpAny_pyIter_enum he h
end Den
namespace Den
open PySem PySem.Spec PyProof.Rows L2
/-- a tuple's items, numbered -/
def ItET (K : PySem.W.Frag) (a : Addr) (k0 : Int) : It :=
  ⟨fun i H => ∃ (xs : List V) (x : V), SqT K H a xs ∧ xs[i]? = some x, fun i H v H' => ∃ T x, v = .ref T ∧ H T = none ∧ H' = upd H T (.tup [.int (k0 + (i : Nat)), x]) ∧ ∀ xs, SqT K H a xs → xs[i]? = some x, fun i H => ∃ xs : List V, SqT K H a xs ∧ xs.length = i⟩
theorem turn_enumT {P : Program} {w : World} {K : PySem.W.Frag} {elts : List Expr} {kk : Nat} {tpos : Pos} (a e it : Addr) (k0 : Int) (hai : a ≠ it) (hae : a ≠ e) :
    Turn P w K (.Tuple elts kk tpos) (ItET K a k0) [e, it] e (fun i h => (∃ old, IsEnum h e it (k0 + (i : Nat)) old) ∧ h.IsTupleIter it a i ∧ e ≠ it) where
  mem := by simp
  obj := fun i h st b hb => by
    obtain ⟨⟨old, he⟩, hi, hne⟩ := st
    rcases List.mem_cons.mp hb with rfl | hb
    · exact ⟨_, he, fun v q => nomatch q⟩
    · rw [List.mem_singleton] at hb
      subst hb
      obtain ⟨o, ho, hc, hd⟩ := hi
      exact ⟨o, ho, fun v q => by simp [hd] at q⟩
  keep := fun i h h' st k => by
    obtain ⟨⟨old, he⟩, hi, hne⟩ := st
    obtain ⟨o, ho, hr⟩ := hi
    exact ⟨⟨old, k e (by simp) _ he⟩, ⟨o, k it (by simp) o ho, hr⟩, hne⟩
  item := by
    intro X hP hw hK hc i pins s σ H E I hf st hg
    subst hP hw hK
    obtain ⟨⟨old, he⟩, hi, hne⟩ := st
    obtain ⟨xs, x, hq, hx⟩ := hg
    obtain ⟨its, rv, p, hz⟩ := I.tuple hq
    obtain ⟨u, hu, ru⟩ := rv.get hx
    have hel : e < s.heap.objs.size := Heap.lt_size he
    have hil : it < s.heap.objs.size := by obtain ⟨o, ho, _⟩ := hi; exact Heap.lt_size ho
    have D := Draws.tuple (prog := X.prog) (w := X.w) (A := X.A.in1) (I.ok.hd hc) it a hai its.toArray
    have hlt : i < its.toArray.size := by
      have := (List.getElem?_eq_some_iff.mp hu).1
      simpa using this
    refine wpAny_pyNext_enum_itemC D he ⟨hi, p⟩ hlt hne (by simp [hne, hae.symm]) fun y h' tk hP ho hi' hT hsz hk => ?_
    have ey : y = u := by
      have hP : its.toArray[i]? = some y := hP
      rw [List.getElem?_toArray, hu] at hP
      cases hP
      rfl
    subst ey
    refine ⟨_, rfl, wpAny_letOwnedTupleGo_enum (s := { s with heap := h', toks := tk + 1 }) ho fun h'' he' sb => ?_⟩
    have hT2 : h''.get? s.heap.objs.size = some { cls := .type "tuple", data := .seq #[.int (k0 + (i : Nat)) tk, y] } := (sb.2 _ (Nat.ne_of_gt hel)).trans hT
    have new : ObjOk X.prog X.w (upd H s.heap.objs.size (.tup [.int (k0 + (i : Nat)), x])) h'' s.heap.objs.size (.tup [.int (k0 + (i : Nat)), x]) :=
      ⟨by show 2 ≤ sizeLine; decide, [.int (k0 + (i : Nat)) tk, y], .cons ⟨_, rfl⟩ (.cons ru .nil), ⟨_, hT2, rfl, _, rfl⟩⟩
    have I1 := I.turnedNew (t' := tk + 1) (h' := h'') (ch := [e, it]) (fun b ob hb q => (sb.2 b (fun z => hb (by simp [z]))).trans (hk b ob (fun z => hb (by simp [z])) (fun z => hb (by simp [z])) q)) hf (Nat.le_refl _) new
    refine ⟨.ref s.heap.objs.size, _, I1, rfl, ⟨_, x, rfl, I.hok.fresh (Nat.le_refl _), rfl, fun ys hy => by rw [I.tuple_inj hy hq]; exact hx⟩, ⟨⟨y, ?_⟩, (let ⟨o, ho, hr⟩ := hi'.1; ⟨o, (sb.2 it (Ne.symm hne)).trans ho, hr⟩), hne⟩, fun b hb => ?_⟩
    · have e1 : k0 + ((i + 1 : Nat) : Int) = k0 + (i : Nat) + 1 := by omega
      rw [e1]; exact he'
    · have hb' : b < s.heap.objs.size := by
        rcases List.mem_cons.mp hb with rfl | hb
        · exact hel
        · rw [List.mem_singleton.mp hb]; exact hil
      rw [upd_ne (Nat.ne_of_lt hb')]
      exact (hf b hb).1
  done := by
    intro X hP hw hK hc i pins s σ H E I hf st hg
    subst hP hw hK
    obtain ⟨⟨old, he⟩, hi, hne⟩ := st
    obtain ⟨xs, hq, hx⟩ := hg
    obtain ⟨its, rv, p, hz⟩ := I.tuple hq
    have hi' : i = its.toArray.size := by
      have := rv.length
      simp
      omega
    subst hi'
    have D := Draws.tuple (prog := X.prog) (w := X.w) (A := X.A.in1) (I.ok.hd hc) it a hai its.toArray
    obtain ⟨f0, f1, f2, f3, f4, f5⟩ := hf it (by simp)
    exact wpAny_pyNext_enum_endD D he ⟨hi, p⟩ fun h' eb => ⟨rfl, I.turned (t' := s.toks) (fun b o hb q => eb b o hb q) f0 f1 f3 f4 f5⟩
  self := fun A i s Q E st h => let ⟨⟨_, he⟩, _⟩ := st; wpAny_pyIter_enum he h
end Den
namespace Den
open PySem PySem.Spec PyProof.Rows L2
theorem meets_enum1 {v : Value} {o : Obj} {H : Heap → Prop} (B : Begins v o H) :
    Meets (Builtin.«enumerate.__new__» ⟨[.type "enumerate", v], []⟩) (fun _ R s => H s.heap ∧
      R (.ok (.ret (.ref (s.heap.push o).objs.size))) { s with heap := (s.heap.push o).push { cls := .type "enumerate", data := .fields #[.none, .bool false, .ref s.heap.objs.size, rawInt 0, .none, .none] } }) :=
  .of_wp fun prog w A R s h => by
    obtain ⟨hp, g, d, tk, os⟩ := s
    obtain ⟨h1, h⟩ := h
    have hsub := sub_enumerate
    have q1 : ∀ {A' : Around} {E : Value → Shared → Prop} {Q : Value → Shared → Prop}, Q (.ref hp.objs.size) ⟨hp.push o, g, d, tk, os⟩ → wpAny (model prog w) A' (pyIter v) Q E ⟨hp, g, d, tk, os⟩ := fun q => B.iter prog w _ _ ⟨hp, g, d, tk, os⟩ _ h1 q
    wp_walk using q1
    refine (wpAny_stack_any fun st => wpAny_pure ?_)
    split
    · rename_i c _ _ _ _ _
      cases (c == Value.type "enumerate") <;> (wp_walk using q1; exact ⟨_, rfl, h⟩)
    · wp_walk using q1
      exact ⟨_, rfl, h⟩
theorem call_enum1 {prog : Program} {w : World} {A : Around} {E : Value → Shared → Prop} {s : Shared} {v : Value} {o : Obj} {H : Heap → Prop} {Q : Value → Shared → Prop} (B : Begins v o H) (h1 : H s.heap)
    (h : ∀ h', IsEnum h' (s.heap.objs.size + 1) s.heap.objs.size 0 .none → h'.get? s.heap.objs.size = some o → h'.objs.size = s.heap.objs.size + 2 →
      (∀ b o, s.heap.get? b = some o → h'.get? b = some o) → Q (.ref (s.heap.objs.size + 1)) { s with heap := h' }) : wpAny (model prog w) A (call (.type "enumerate") [v]) Q E s := by
  refine callType_new F.called_enumerate (by decide) (F.typeCall_enumerate_1 _) (F.newCall_enumerate_1 _) (fun obj => F.args_object_init_2 obj _) F.entry_enumerate_new (meets_enum1 B) ⟨h1, ?_⟩
  have hz : (s.heap.push o).objs.size = s.heap.objs.size + 1 := Heap.size_push ..
  rw [hz]
  have he : IsEnum ((s.heap.push o).push { cls := .type "enumerate", data := .fields #[.none, .bool false, .ref s.heap.objs.size, rawInt 0, .none, .none] }) (s.heap.objs.size + 1) s.heap.objs.size 0 .none := by
    have q := Heap.get?_push_size (s.heap.push o) (o := { cls := .type "enumerate", data := .fields #[.none, .bool false, .ref s.heap.objs.size, rawInt 0, .none, .none] }) rfl
    rw [hz] at q
    exact q
  refine ⟨⟨_, he, rfl⟩, h _ he (Heap.get?_push_of_some _ (Heap.get?_push_size _ B.free)) (by rw [Heap.size_push, hz]) fun b o x => Heap.get?_push_of_some _ (Heap.get?_push_of_some _ x)⟩
def iEnumA (K : PySem.W.Frag) (te : TE) : TI := fun σ H R => te σ H fun v H1 => (∃ z, v = .str z ∧ R (ItES z 0) H1) ∨ (∃ a, v = .ref a ∧ (∃ xs, SqT K H1 a xs) ∧ R (ItET K a 0) H1) ∨ ∃ a, v = .ref a ∧ (∃ xs, SqL K H1 a xs) ∧ R (Ite K a) H1
theorem pi_enumA {X : Cx} {e : Expr} {te : TE} {p pos tpos : Pos} {elts : List Expr} {kk : Nat} (hg : Gl X "enumerate") (hm : X.mg "enumerate" = none) (he : PE X e te) (hs : starEach [e] X.env = [(false, eval e X.env)]) :
    PI X (.Tuple elts kk tpos) (.Call (.Name "enumerate" p) [e] [] pos) (iEnumA X.K te) := by
  refine ⟨fun pins s σ H R I h => ?_⟩
  have ha : PA X [e] (fun σ H Q => te σ H fun v H1 => Q [v] H1) := pa_cons he pa_nil hs
  let PP : V → Hp → Prop := fun v H1 => (∃ z, v = .str z ∧ R (ItES z 0) H1) ∨ (∃ a, v = .ref a ∧ (∃ xs, SqT X.K H1 a xs) ∧ R (ItET X.K a 0) H1) ∨ ∃ a, v = .ref a ∧ (∃ xs, SqL X.K H1 a xs) ∧ R (Ite X.K a) H1
  let KK : List V → Hp → Prop := fun vs H1 => match vs with
    | [v] => PP v H1
    | _ => False
  have h : te σ H fun v H1 => KK [v] H1 := h
  refine Call_ (ld_blt I hg hm boot_enumerate (PyProof.Rows.callWith_type1 (thn (ha.run pos pins s σ H KK I h) fun us s1 ⟨vs, H1, I1, r1, q⟩ => ?_) hs rfl))
  obtain ⟨v, ev, q⟩ : ∃ v, vs = [v] ∧ PP v H1 := by
    match vs, q with
    | [v], q => exact ⟨v, rfl, q⟩
    | [], q => exact q.elim
    | _ :: _ :: _, q => exact q.elim
  subst ev
  have fresh : ∀ b ∈ [s1.heap.objs.size + 1, s1.heap.objs.size], FpOk X pins H1 b := fun b hb => by
    have e' : b = s1.heap.objs.size + 1 ∨ b = s1.heap.objs.size := by simpa using hb
    have hle : s1.heap.objs.size ≤ b := by
      rcases e' with z | z
      · rw [z]; exact Nat.le_add_right _ _
      · rw [z]; exact Nat.le_refl _
    exact I1.fpOk hle (I1.hok.fresh hle)
  obtain ⟨u, rfl, ru⟩ := r1.one
  rcases q with ⟨z, ev, kk⟩ | ⟨a, ev, ⟨xs, hq⟩, kk⟩ | ⟨a, ev, ⟨xs, hq⟩, kk⟩ <;> subst ev
  · obtain ⟨t, rfl⟩ := ru
    refine call_enumerate_str fun h' he hit hsz hk => wpAny_pyIter_enum he ?_
    have I2 : Inv X pins σ H1 { s1 with heap := h' } := I1.kept (t' := s1.toks) hk
    exact ⟨s1.heap.objs.size + 1, [s1.heap.objs.size + 1, s1.heap.objs.size], _, _, H1, rfl, I2, turn_enumS (s1.heap.objs.size + 1) s1.heap.objs.size z t 0, ⟨⟨.none, he⟩, hit, Nat.succ_ne_self _, Nat.zero_le _⟩, fresh, kk⟩
  · cases ru
    obtain ⟨its, rv, p', hz⟩ := I1.tuple hq
    have la : a < s1.heap.objs.size := by obtain ⟨o, ho, _⟩ := p'; exact Heap.lt_size ho
    refine call_enum1 (begins_tuple a its.toArray) p' fun h' he hit hsz hk => wpAny_pyIter_enum he ?_
    have I2 : Inv X pins σ H1 { s1 with heap := h' } := I1.kept (t' := s1.toks) hk
    exact ⟨s1.heap.objs.size + 1, [s1.heap.objs.size + 1, s1.heap.objs.size], _, _, H1, rfl, I2, turn_enumT a (s1.heap.objs.size + 1) s1.heap.objs.size 0 (Nat.ne_of_lt la) (Nat.ne_of_lt (Nat.lt_succ_of_lt la)), ⟨⟨.none, he⟩, ⟨_, hit, rfl, rfl⟩, Nat.succ_ne_self _⟩, fresh, kk⟩
  · cases ru
    obtain ⟨its, rv, p', hz⟩ := I1.list hq
    refine call_enumerate_list p'.isList fun h' he hit hsz hk => wpAny_pyIter_enum he ?_
    have I2 : Inv X pins σ H1 { s1 with heap := h' } := I1.kept (t' := s1.toks) hk
    exact ⟨s1.heap.objs.size + 1, [s1.heap.objs.size + 1, s1.heap.objs.size], _, _, H1, rfl, I2, turn_enum a (s1.heap.objs.size + 1) s1.heap.objs.size, ⟨⟨.none, he⟩, hit, Nat.succ_ne_self _⟩, fresh, kk⟩
end Den

set_option maxHeartbeats 4000000
/-! Den, part X: more of the small language's pieces. -/
namespace Den
open PySem PySem.Spec PyProof.Rows L2
/-! ### loops that carry something -/
def foldD {α : Type} (f : D → α → Store → Res α) : List D → α → Store → Res α
  | [], a, S => .ok a S
  | x :: xs, a, S => (f x a S).bind fun a S => foldD f xs a S
def turnF {α : Type} (evg : D → Sl → Store → Res Sl) (evt : Sl → Store → Res Bool) (evb : α → Sl → Store → Res α) (ds : Sl) : D → α → Store → Res α := fun x a S =>
  ((evg x ds S).noexc).bind fun ds' S => ((evt ds' S).noexc).bind fun k S => if k = true then evb a ds' S else .ok a S
section
variable {X : Cx} {cl : List Addr} {bs : List Nat} {W : WX} {a b c o i e : Expr} {es : List Expr} {pos : Pos} {eva evb evc : Sl → Store → Res D} {tg : Expr} {vs ws : List Nat} {σ : L2.St}
/-- a body that goes on with what is carried (it lies at P) -/
def BodyOk {α : Type} (cl : List Addr) (K : PySem.W.Frag) (bs : List Nat) (At : G → HO → α → Prop) (P : Addr) (L : Hp) (tb : L2.St → Hp → (Hp → Prop) → Prop) (evb : α → Sl → Store → Res α) : Prop :=
  ∀ σ H Q g ds S u a a' S2, g.L = upd L P u → At g u a → SimH cl K bs g S H → SimS K g ds σ → evb a ds S = .ok a' S2 →
    (∀ g' H' u', g.sub g' → g'.L = upd L P u' → At g' u' a' → SimH cl K bs g' S2 H' → Q H') → tb σ H Q
theorem gen_loop {α : Type} {At : G → HO → α → Prop} (atm : ∀ g g' u a, g.sub g' → At g u a → At g' u a) {P : Addr} {L H1 : Hp} {J : It} {us : List D} {g1 : G} {S1 S2 : Store} {u1 : HO} {a1 a2 : α} {ds : Sl} {Nx : Hp → Prop}
    {evg : D → Sl → Store → Res Sl} {evt : Sl → Store → Res Bool} {ev : α → Sl → Store → Res α} {tb : L2.St → Hp → (Hp → Prop) → Prop}
    (m1 : SimH cl X.K bs g1 S1 H1) (ss : SimS X.K g1 ds σ) (hL : g1.L = upd L P u1) (h1 : At g1 u1 a1) (w1 : WalksD cl X.K bs g1 us J) (hc : foldD (turnF evg evt ev (wipeD ds vs)) us a1 S1 = .ok a2 S2)
    (hb : BodyOk cl X.K bs At P L tb ev) (hN : ∀ g2 H2 u2, g1.sub g2 → g2.L = upd L P u2 → At g2 u2 a2 → SimH cl X.K bs g2 S2 H2 → Nx H2) :
    ∃ Z : Nat → Nat → Hp → Prop, (∃ m, Z 0 m H1) ∧ ∀ i m H, Z i m H → (J.stop i H ∧ Nx H) ∨ (J.go i H ∧ ∃ N : Hp → Prop, (∀ H', N H' → ∃ m', m' < m ∧ Z (i + 1) m' H') ∧ ∀ x H', J.yld i H x H' →
      RdG cl X.K bs vs evg x (wipe σ vs) H' fun σ2 H2 => wipe σ2 vs = wipe σ vs ∧ RdT cl X.K bs W0 evt σ2 H2 fun b H3 => if b = true then tb σ2 H3 N else N H3) := by
  refine ⟨fun i k H => k = us.length - i ∧ i ≤ us.length ∧ ∃ gi Si u ai, g1.sub gi ∧ gi.L = upd L P u ∧ At gi u ai ∧ SimH cl X.K bs gi Si H ∧ foldD (turnF evg evt ev (wipeD ds vs)) (us.drop i) ai Si = .ok a2 S2,
    ⟨us.length, rfl, Nat.zero_le _, g1, S1, u1, a1, .refl g1, hL, h1, m1, hc⟩, ?_⟩
  rintro i k H ⟨rfl, hi', gi, Si, u, ai, sub, hLi, hAi, mi, hcol⟩
  obtain ⟨wgo, wstop⟩ := w1 gi Si H sub mi i
  by_cases hlt : i < us.length
  · right
    obtain ⟨d, hd⟩ : ∃ d, us[i]? = some d := ⟨us[i], List.getElem?_eq_getElem hlt⟩
    obtain ⟨jgo, jy⟩ := wgo d hd
    have hdrop : us.drop i = d :: us.drop (i + 1) := by
      rw [List.drop_eq_getElem_cons hlt]
      congr 1
      rw [List.getElem?_eq_getElem hlt] at hd
      exact Option.some.inj hd
    rw [hdrop] at hcol
    unfold foldD at hcol
    refine ⟨jgo, fun H' => ∃ gj Sj u aj, g1.sub gj ∧ gj.L = upd L P u ∧ At gj u aj ∧ SimH cl X.K bs gj Sj H' ∧ foldD (turnF evg evt ev (wipeD ds vs)) (us.drop (i + 1)) aj Sj = .ok a2 S2, fun H' h => ⟨us.length - (i + 1), by omega, rfl, by omega, h⟩, fun x H' hy' => ?_⟩
    obtain ⟨g2, l2, m2, r2⟩ := jy x H' hy'
    refine ⟨g2, d, wipeD ds vs, Si, m2, (ss.monoF (fun a o e => l2.F a o (sub.F a o e)) (sub.ρ.trans l2.ρ)).wiped vs, r2, ?_⟩
    cases hz : turnF evg evt ev (wipeD ds vs) d ai Si with
    | exc _ _ _ => rw [hz] at hcol; cases hcol
    | bad => rw [hz] at hcol; cases hcol
    | ok a' Sz =>
      rw [hz] at hcol
      simp only [Res.bind_ok] at hcol
      unfold turnF at hz
      cases h1 : evg d (wipeD ds vs) Si with
      | exc _ _ _ => rw [h1] at hz; cases hz
      | bad => rw [h1] at hz; cases hz
      | ok d1 Sa =>
        rw [h1] at hz
        simp only [Res.noexc_ok, Res.bind_ok] at hz
        intro g3 H3 σ3 l3 m3 ss3 off3
        refine ⟨by rw [off3.wiped, wipe_wipe], g3, d1, Sa, m3, ss3, ?_⟩
        cases h2 : evt d1 Sa with
        | exc _ _ _ => rw [h2] at hz; cases hz
        | bad => rw [h2] at hz; cases hz
        | ok k Sb =>
          rw [h2] at hz
          simp only [Res.noexc_ok, Res.bind_ok] at hz
          intro g4 H4 b l4 m4 eb
          subst eb
          have lall : gi.le g4 := (l2.trans l3).trans l4
          have hL4 : g4.L = upd L P u := by rw [lall.L, hLi]
          have hA4 : At g4 u ai := atm _ _ _ _ lall.sub hAi
          cases b with
          | false =>
            simp only [Bool.false_eq_true, if_false] at hz ⊢
            cases hz
            exact ⟨g4, _, u, ai, sub.trans lall.sub, hL4, hA4, m4, hcol⟩
          | true =>
            simp only [if_true] at hz ⊢
            exact hb σ3 H4 _ g4 d1 Sb u ai a' Sz hL4 hA4 m4 (ss3.mono l4) hz fun g5 H5 u5 l5 hL5 hA5 m5 => ⟨g5, Sz, u5, a', (sub.trans lall.sub).trans l5, hL5, hA5, m5, hcol⟩
  · left
    have he : i = us.length := by omega
    refine ⟨wstop (by omega) (by omega), ?_⟩
    rw [List.drop_eq_nil_of_le (by omega)] at hcol
    unfold foldD at hcol
    cases hcol
    exact hN gi H u sub hLi hAi mi
/-! ### two clauses -/
def AtL (K : PySem.W.Frag) (g : G) (u : HO) (zs : List D) : Prop := ∃ acc, u = .lst acc ∧ Reps K g acc zs
theorem AtL.mono {K : PySem.W.Frag} : ∀ (g g' : G) (u : HO) (a : List D), g.sub g' → AtL K g u a → AtL K g' u a := fun g g' u a l ⟨acc, e, r⟩ => ⟨acc, e, r.monoS l⟩
theorem AtL.mono' {K : PySem.W.Frag} {g : G} {L : Hp} {u : HO} {a : List D} (h : AtL K g u a) : AtL K ⟨g.F, L, g.ρ⟩ u a := let ⟨acc, e, r⟩ := h; ⟨acc, e, r.monoS (sub0 g L)⟩
/-- a loop that collects, as one that carries the list -/
theorem collect_fold {f : D → Store → Res (List D)} {fz : D → List D → Store → Res (List D)} {n : Nat} (h : ∀ x zs S ys S', f x S = .ok ys S' → zs.length + ys.length ≤ n → fz x zs S = .ok (zs ++ ys) S') :
    ∀ (xs : List D) (zs ys : List D) (S S' : Store), collectD f xs S = .ok ys S' → zs.length + ys.length ≤ n → foldD fz xs zs S = .ok (zs ++ ys) S'
  | [], zs, ys, S, S', e, hn => by
    unfold collectD at e
    cases e
    unfold foldD
    rw [List.append_nil]
  | x :: xs, zs, ys, S, S', e, hn => by
    unfold collectD at e
    unfold foldD
    cases h1 : f x S with
    | exc _ _ _ => rw [h1] at e; cases e
    | bad => rw [h1] at e; cases e
    | ok y1 S1 =>
      rw [h1] at e
      simp only [Res.bind_ok] at e
      cases h2 : collectD f xs S1 with
      | exc _ _ _ => rw [h2] at e; cases e
      | bad => rw [h2] at e; cases e
      | ok y2 S2 =>
        rw [h2] at e
        cases e
        rw [List.length_append] at hn
        rw [h x zs S y1 S1 h1 (by omega)]
        simp only [Res.bind_ok]
        rw [collect_fold h xs (zs ++ y1) y2 S1 _ h2 (by rw [List.length_append]; omega), List.append_assoc]
def leafB (eve : Sl → Store → Res D) : List D → Sl → Store → Res (List D) := fun zs ds S => ((eve ds S).noexc).bind fun y S => if zs.length < sizeLine then .ok (zs ++ [y]) S else .bad
def leafT (te : TE) (P : Addr) : L2.St → Hp → (Hp → Prop) → Prop := fun σ H Q => te σ H fun y H4 => ∃ acc, H4 P = some (.lst acc) ∧ acc.length < sizeLine ∧ Q (upd H4 P (.lst (acc ++ [y])))
theorem leaf_ok {eve : Sl → Store → Res D} {P : Addr} {L : Hp} : BodyOk cl X.K bs (AtL X.K) P L (leafT (RdE cl X.K bs W0 eve) P) (leafB eve) := by
  intro σ H Q g ds S u zs a' S2 hL ⟨acc, eu, racc⟩ m ss he q
  subst eu
  unfold leafB at he
  refine ⟨g, ds, S, m, ss, ?_⟩
  cases h3 : eve ds S with
  | exc _ _ _ => rw [h3] at he; cases he
  | bad => rw [h3] at he; cases he
  | ok y Sc =>
    rw [h3] at he
    simp only [Res.noexc_ok, Res.bind_ok] at he
    split at he
    · rename_i hz
      cases he
      intro g5 H5 yv l5 m5 r5
      have hl5 : g5.L P = some (.lst acc) := by rw [l5.L, hL, upd_same]
      refine ⟨acc, (m5.lk _ _ hl5).1, by rw [racc.length]; exact hz, q ⟨g5.F, upd g5.L P (.lst (acc ++ [yv])), g5.ρ⟩ _ (.lst (acc ++ [yv])) (l5.sub.trans (sub0 g5 _)) ?_ ⟨_, rfl, ?_⟩ (m5.relock hl5 _)⟩
      · show upd g5.L P _ = _
        rw [l5.L, hL, upd_upd]
      · exact (racc.monoS (l5.sub.trans (sub0 g5 _))).append (.cons (r5.monoS (sub0 g5 _)) .nil)
    · cases he
/-- the second clause's loop, as the first one's body -/
def nestB (evi1 : Sl → Store → Res (List D)) (evg1 : D → Sl → Store → Res Sl) (evt1 : Sl → Store → Res Bool) (eve : Sl → Store → Res D) (vs1 : List Nat) : List D → Sl → Store → Res (List D) := fun zs ds S =>
  ((evi1 ds S).noexc).bind fun us S => foldD (turnF evg1 evt1 (leafB eve) (wipeD ds vs1)) us zs S
def nestT (wi1 : TI) (g1 : TG) (tt1 : TT) (te : TE) (vs1 : List Nat) (P : Addr) : L2.St → Hp → (Hp → Prop) → Prop := fun σ2 H3 Nx => wi1 σ2 H3 fun J1 H4 => ∃ W1 : Nat → Nat → Hp → Prop, (∃ m, W1 0 m H4) ∧ ∀ j k H, W1 j k H →
      (J1.stop j H ∧ Nx H) ∨ (J1.go j H ∧ ∃ Nx1 : Hp → Prop, (∀ H', Nx1 H' → ∃ k', k' < k ∧ W1 (j + 1) k' H') ∧ ∀ x H', J1.yld j H x H' → g1 x (wipe σ2 vs1) H' fun σ3 H5 => wipe σ3 vs1 = wipe σ2 vs1 ∧ tt1 σ3 H5 fun b H6 =>
        if b = true then leafT te P σ3 H6 Nx1 else Nx1 H6)
theorem nest_ok {evi1 : Sl → Store → Res (List D)} {evg1 : D → Sl → Store → Res Sl} {evt1 : Sl → Store → Res Bool} {eve : Sl → Store → Res D} {vs1 : List Nat} {P : Addr} {L : Hp} :
    BodyOk cl X.K bs (AtL X.K) P L (nestT (RdI cl X.K bs W0 evi1) (RdG cl X.K bs vs1 evg1) (RdT cl X.K bs W0 evt1) (RdE cl X.K bs W0 eve) vs1 P) (nestB evi1 evg1 evt1 eve vs1) := by
  intro σ H Q g ds S u zs a' S2 hL hA m ss he q
  unfold nestB at he
  refine ⟨g, ds, S, m, ss, ?_⟩
  cases h1 : evi1 ds S with
  | exc _ _ _ => rw [h1] at he; cases he
  | bad => rw [h1] at he; cases he
  | ok us Sa =>
    rw [h1] at he
    simp only [Res.noexc_ok, Res.bind_ok] at he
    intro g1 H1 J l1 m1 w1
    exact gen_loop (u1 := u) (L := L) (P := P) AtL.mono m1 (ss.mono l1) (by rw [l1.L, hL]) (AtL.mono _ _ _ _ l1.sub hA) w1 he leaf_ok fun g2 H2 u2 l2 hL2 hA2 m2 => q g2 H2 u2 (l1.sub.trans l2) hL2 hA2 m2
/-- the list is made: it stays, or it is a cell -/
theorem made {mb : Bool} {g0 g1 g2 : G} {S2 : Store} {H : Hp} {P : Addr} {u : HO} {ys : List D} {E : XK} {Q : VK} (l1 : g0.le g1) (hP : g1.L P = none) (l2 : g1.sub g2) (hL : g2.L = upd g1.L P u) (hA : AtL X.K g2 u ys) (m : SimH cl X.K bs g2 S2 H)
    (p : Post cl X.K bs g0 E (Rep X.K) (if ys.length ≤ sizeLine then (if mb = true then .ok (.ref S2.length) (S2 ++ [.lst ys]) else lift (mkLst ys) S2) else .bad) Q) : Q (.ref P) H := by
  obtain ⟨acc, rfl, racc⟩ := hA
  have hy : ys.length ≤ sizeLine := Classical.byContradiction fun z => by rw [if_neg z] at p; exact p
  rw [if_pos hy] at p
  have hlP : g2.L P = some (.lst acc) := by rw [hL, upd_same]
  cases mb with
  | true =>
    simp only [if_true] at p
    refine p ⟨g2.F, g1.L, g2.ρ ++ [P]⟩ H (.ref P) ⟨fun a o e => l2.F a o (l1.F a o e), l1.L, l1.ρ.trans (l2.ρ.trans (List.prefix_append _ _))⟩ (m.unlockC hL hP ⟨acc, rfl, racc.monoS (subA g2 _ _)⟩) (.ref ?_)
    show (g2.ρ ++ [P])[S2.length]? = some P
    rw [← m.len, List.getElem?_append_right (Nat.le_refl _), Nat.sub_self]
    rfl
  | false =>
    simp only [Bool.false_eq_true, if_false] at p
    obtain ⟨d, hd, p2⟩ := Post.get p
    unfold mkLst at hd
    cases ha : allT ys with
    | none => rw [ha] at hd; cases hd
    | some xs =>
      rw [ha] at hd
      cases hd
      have := allT_eq ha
      subst this
      have hF : ∀ a o, g2.F a = some o → upd g2.F P (.lst acc) a = some o := fun a o e => by
        have : a ≠ P := fun z => by rw [z, (m.lk _ _ hlP).2] at e; cases e
        rw [upd_ne this]
        exact e
      exact p2 ⟨upd g2.F P (.lst acc), g1.L, g2.ρ⟩ H (.ref P) ⟨fun a o e => hF a o (l2.F a o (l1.F a o e)), l1.L, l1.ρ.trans l2.ρ⟩ (m.unlock hL hP) (.t (.lst (SqL.of upd_same) (fun _ => upd_same) (racc.trees.mono hF)))
def comp2D (m : Bool) (evi : Sl → Store → Res (List D)) (evg : D → Sl → Store → Res Sl) (evt : Sl → Store → Res Bool) (evi1 : Sl → Store → Res (List D)) (evg1 : D → Sl → Store → Res Sl) (evt1 : Sl → Store → Res Bool) (eve : Sl → Store → Res D) (vs vs1 : List Nat) : Sl → Store → Res D := fun ds S =>
  (evi ds S).bind fun xs S => (collectD (fun x S => ((evg x (wipeD ds vs) S).noexc).bind fun ds' S => ((evt ds' S).noexc).bind fun k S => if k = true then
    ((evi1 ds' S).noexc).bind fun xs' S => collectD (turnD evg1 evt1 eve (wipeD ds' vs1)) xs' S else .ok [] S) xs S).bind fun ys S =>
    if ys.length ≤ sizeLine then (if m = true then .ok (.ref S.length) (S ++ [.lst ys]) else lift (mkLst ys) S) else .bad
theorem turn_leaf {evg1 : D → Sl → Store → Res Sl} {evt1 : Sl → Store → Res Bool} {eve : Sl → Store → Res D} {ds : Sl} (x : D) (zs : List D) (S : Store) (ys : List D) (S' : Store) (h : turnD evg1 evt1 eve ds x S = .ok ys S') (hn : zs.length + ys.length ≤ sizeLine) :
    turnF evg1 evt1 (leafB eve) ds x zs S = .ok (zs ++ ys) S' := by
  unfold turnD at h
  unfold turnF leafB
  cases h1 : evg1 x ds S with
  | exc _ _ _ => rw [h1] at h; cases h
  | bad => rw [h1] at h; cases h
  | ok d1 Sa =>
    rw [h1] at h
    simp only [Res.noexc_ok, Res.bind_ok] at h ⊢
    cases h2 : evt1 d1 Sa with
    | exc _ _ _ => rw [h2] at h; cases h
    | bad => rw [h2] at h; cases h
    | ok k Sb =>
      rw [h2] at h
      simp only [Res.noexc_ok, Res.bind_ok] at h ⊢
      cases k with
      | false =>
        simp only [Bool.false_eq_true, if_false] at h ⊢
        cases h
        rw [List.append_nil]
      | true =>
        simp only [if_true] at h ⊢
        cases h3 : eve d1 Sb with
        | exc _ _ _ => rw [h3] at h; cases h
        | bad => rw [h3] at h; cases h
        | ok y Sc =>
          rw [h3] at h
          simp only [Res.noexc_ok, Res.bind_ok] at h ⊢
          cases h
          simp only [List.length_singleton] at hn
          rw [if_pos (by omega)]
theorem lc2_of {mb : Bool} {evi : Sl → Store → Res (List D)} {evg : D → Sl → Store → Res Sl} {evt : Sl → Store → Res Bool} {evi1 : Sl → Store → Res (List D)} {evg1 : D → Sl → Store → Res Sl} {evt1 : Sl → Store → Res Bool} {eve : Sl → Store → Res D} {vs1 : List Nat} {H : Hp} {Q : VK}
    (h : RdE cl X.K bs W (comp2D mb evi evg evt evi1 evg1 evt1 eve vs vs1) σ H Q) :
    tLc2 (RdI cl X.K bs W evi) (RdG cl X.K bs vs evg) (RdT cl X.K bs W0 evt) (RdI cl X.K bs W0 evi1) (RdG cl X.K bs vs1 evg1) (RdT cl X.K bs W0 evt1) (RdE cl X.K bs W0 eve) vs vs1 σ H Q := by
  obtain ⟨g, ds, S, m, ss, p⟩ := h
  refine ⟨g, ds, S, m, ss, ?_⟩
  unfold comp2D at p
  cases hi : evi ds S with
  | exc c fs S1 => rw [hi] at p; exact p
  | bad => rw [hi] at p; exact p
  | ok us S1 =>
    rw [hi] at p
    simp only [Res.bind_ok] at p
    intro g1 H1 J l1 m1 w1 D hD
    generalize hf : (fun x S => ((evg x (wipeD ds vs) S).noexc).bind fun ds' S => ((evt ds' S).noexc).bind fun k S => if k = true then
      ((evi1 ds' S).noexc).bind fun xs' S => collectD (turnD evg1 evt1 eve (wipeD ds' vs1)) xs' S else Res.ok [] S) = f at p
    have hfn : ∀ x S c fs S', f x S ≠ .exc c fs S' := fun x S c fs S' e => by
      rw [← hf] at e
      dsimp only at e
      cases h1 : evg x (wipeD ds vs) S with
      | exc _ _ _ => rw [h1] at e; cases e
      | bad => rw [h1] at e; cases e
      | ok d1 Sa =>
        rw [h1] at e
        simp only [Res.noexc_ok, Res.bind_ok] at e
        cases h2 : evt d1 Sa with
        | exc _ _ _ => rw [h2] at e; cases e
        | bad => rw [h2] at e; cases e
        | ok k Sb =>
          rw [h2] at e
          simp only [Res.noexc_ok, Res.bind_ok] at e
          cases k with
          | false => cases e
          | true =>
            simp only [if_true] at e
            cases h3 : evi1 d1 Sb with
            | exc _ _ _ => rw [h3] at e; cases e
            | bad => rw [h3] at e; cases e
            | ok us1 Sc =>
              rw [h3] at e
              simp only [Res.noexc_ok, Res.bind_ok] at e
              exact collect_ne turn_ne _ _ _ _ _ e
    cases hc : collectD f us S1 with
    | exc c fs S2 => exact absurd hc (collect_ne hfn _ _ _ _ _)
    | bad => rw [hc] at p; exact p.elim
    | ok ys S2 =>
      rw [hc] at p
      simp only [Res.bind_ok] at p
      have hy : ys.length ≤ sizeLine := Classical.byContradiction fun z => by rw [if_neg z] at p; exact p
      have hfold : foldD (turnF evg evt (nestB evi1 evg1 evt1 eve vs1) (wipeD ds vs)) us [] S1 = .ok ([] ++ ys) S2 := by
        refine collect_fold (n := sizeLine) (fun x zs S y1 S' hx hn => ?_) us [] ys S1 S2 hc (by simpa using hy)
        rw [← hf] at hx
        dsimp only at hx
        unfold turnF nestB
        cases h1 : evg x (wipeD ds vs) S with
        | exc _ _ _ => rw [h1] at hx; cases hx
        | bad => rw [h1] at hx; cases hx
        | ok d1 Sa =>
          rw [h1] at hx
          simp only [Res.noexc_ok, Res.bind_ok] at hx ⊢
          cases h2 : evt d1 Sa with
          | exc _ _ _ => rw [h2] at hx; cases hx
          | bad => rw [h2] at hx; cases hx
          | ok k Sb =>
            rw [h2] at hx
            simp only [Res.noexc_ok, Res.bind_ok] at hx ⊢
            cases k with
            | false =>
              simp only [Bool.false_eq_true, if_false] at hx ⊢
              cases hx
              rw [List.append_nil]
            | true =>
              simp only [if_true] at hx ⊢
              cases h3 : evi1 d1 Sb with
              | exc _ _ _ => rw [h3] at hx; cases hx
              | bad => rw [h3] at hx; cases hx
              | ok us1 Sc =>
                rw [h3] at hx
                simp only [Res.noexc_ok, Res.bind_ok] at hx ⊢
                exact collect_fold (n := sizeLine) (fun x zs S y1 S' h hn => turn_leaf x zs S y1 S' h hn) us1 zs y1 Sc S' hx hn
      rw [List.nil_append] at hfold
      have hP : g1.L D = none := m1.freshL hD
      exact gen_loop (g1 := ⟨g1.F, upd g1.L D (.lst []), g1.ρ⟩) (L := g1.L) (P := D) (u1 := .lst []) (Nx := fun H => Q (.ref D) H) AtL.mono (m1.lock hD _) (SimS.monoF (g' := ⟨g1.F, upd g1.L D (.lst []), g1.ρ⟩) (fun a o e => l1.F a o e) l1.ρ ss) rfl ⟨[], rfl, .nil⟩
        (fun g' S' H' l m' i => w1 g' S' H' ((sub0 g1 _).trans l) m' i) hfold nest_ok fun g2 H2 u2 l2 hL2 hA2 m2 => made l1 hP ((sub0 g1 _).trans l2) hL2 hA2 m2 p
theorem de_comp2 {mb : Bool} {evi : Sl → Store → Res (List D)} {evg : D → Sl → Store → Res Sl} {evt : Sl → Store → Res Bool} {evi1 : Sl → Store → Res (List D)} {evg1 : D → Sl → Store → Res Sl} {evt1 : Sl → Store → Res Bool} {eve : Sl → Store → Res D} {vs1 : List Nat} {elt tg iter tg1 iter1 : Expr} {ifs ifs1 : List Expr} {scope : Scope} {own : List (Str × Nat)} {pos : Pos}
    (hc : X.calm = true) (hN : X.N.Nodup) (hi : PI X tg iter (RdI cl X.K bs W evi)) (ok : BlkOk X.N X.env.scope scope own) (hv : ∀ i ∈ vs1, i ∈ own.map (·.2))
    (hg : ∀ (s : Shared) (H : Hp) (C : Addr) (cl' : List (Str × Addr)) (fp : List Addr), PG (X.blk s H scope (compEnvC scope cl' C X.env) fp) tg (RdG cl X.K bs (own.map (·.2)) evg))
    (ht : ∀ (s : Shared) (H : Hp) (C : Addr) (cl' : List (Str × Addr)) (fp : List Addr), PTs (X.blk s H scope (compEnvC scope cl' C X.env) fp) ifs (RdT cl X.K bs W0 evt))
    (he : ∀ (s : Shared) (H : Hp) (C : Addr) (cl' : List (Str × Addr)) (fp : List Addr), PE (X.blk s H scope (compEnvC scope cl' C X.env) fp) elt (RdE cl X.K bs W0 eve)) (hs : ∀ x, foldedSetIterable iter X.env x = pure x)
    (hi1 : ∀ (s : Shared) (H : Hp) (C : Addr) (cl' : List (Str × Addr)) (fp : List Addr), PI (X.blk s H scope (compEnvC scope cl' C X.env) fp) tg1 iter1 (RdI cl X.K bs W0 evi1))
    (hg1 : ∀ (s : Shared) (H : Hp) (C : Addr) (cl' : List (Str × Addr)) (fp : List Addr), PG (X.blk s H scope (compEnvC scope cl' C X.env) fp) tg1 (RdG cl X.K bs vs1 evg1))
    (ht1 : ∀ (s : Shared) (H : Hp) (C : Addr) (cl' : List (Str × Addr)) (fp : List Addr), PTs (X.blk s H scope (compEnvC scope cl' C X.env) fp) ifs1 (RdT cl X.K bs W0 evt1)) (hs1 : ∀ env x, foldedSetIterable iter1 env x = pure x) :
    PE X (.ListComp elt [⟨tg, iter, ifs, 0⟩, ⟨tg1, iter1, ifs1, 0⟩] scope pos) (RdE cl X.K bs W (comp2D mb evi evg evt evi1 evg1 evt1 eve (own.map (·.2)) vs1)) :=
  pe_mono (pe_lc2 hc hN hi ok hv hg ht hi1 hg1 ht1 he hs hs1) fun σ H Q h => lc2_of h
end

/-! ### enumerate of anything, list(zip) -/
section
variable {X : Cx} {cl : List Addr} {bs : List Nat} {W : WX} {a b c o i e : Expr} {es : List Expr} {pos : Pos} {eva evb evc : Sl → Store → Res D} {tg : Expr} {vs ws : List Nat} {σ : L2.St}
theorem enum_get {us : List D} {i : Nat} {d : D} (h : (enumD us)[i]? = some d) : ∃ x, us[i]? = some x ∧ d = mkTup [.t (.int (i : Nat)), x] := by
  unfold enumD at h
  rw [List.getElem?_map, List.getElem?_zipIdx] at h
  cases e1 : us[i]? with
  | none => rw [e1] at h; cases h
  | some x =>
    rw [e1] at h
    cases h
    exact ⟨x, rfl, by simp⟩
theorem enumD_len (us : List D) : (enumD us).length = us.length := by simp [enumD]
theorem walksES {g : G} {z : Str} : WalksD cl X.K bs g (enumD (z.cps.toList.map fun c => .t (.str ⟨#[c]⟩))) (ItES z 0) := fun g' S H l m i => by
  refine ⟨fun d e => ?_, fun h _ => (show _ ≤ i by rw [enumD_len] at h; simpa using h)⟩
  obtain ⟨x, e1, rfl⟩ := enum_get e
  rw [List.getElem?_map] at e1
  cases hi' : z.cps.toList[i]? with
  | none => rw [hi'] at e1; cases e1
  | some j =>
    rw [hi'] at e1
    cases e1
    have h1 : i < z.cps.size := by simpa using (List.getElem?_eq_some_iff.mp hi').1
    refine ⟨h1, fun x H' ⟨T, c, ex, hT, eH, hc⟩ => ?_⟩
    subst ex eH
    have : z.cps[i]? = some j := by rw [← Array.getElem?_toList]; exact hi'
    rw [this] at hc
    cases hc
    have := pair_yld (d := .t (.int (i : Nat))) (e := .t (.str ⟨#[j]⟩)) (.refl g') m (.t (.int (i : Nat))) (.t (.str _)) hT
    simpa using this
theorem walksET {g : G} {p : Addr} {vs : List V} {us : List D} (h : SqT X.K g.F p vs) (r : Reps X.K g vs us) : WalksD cl X.K bs g (enumD us) (ItET X.K p 0) := fun g' S H l m i => by
  have hs : SqT X.K H p vs := SqT.mono m.le (SqT.mono l.F h)
  refine ⟨fun d e => ?_, fun hi hi' => ?_⟩
  · obtain ⟨x, e1, rfl⟩ := enum_get e
    obtain ⟨v, g1, r1⟩ := r.get e1
    refine ⟨⟨vs, v, hs, g1⟩, fun z H' ⟨T, a, ez, hT, eH, ha⟩ => ?_⟩
    subst ez eH
    have e3 := ha vs hs
    rw [g1] at e3
    cases e3
    have := pair_yld (d := .t (.int (i : Nat))) l m (.t (.int (i : Nat))) r1 hT
    simpa using this
  · rw [enumD_len] at hi hi'
    exact ⟨vs, hs, by rw [r.length]; omega⟩
theorem walksEL {g : G} {p : Addr} {vs : List V} {us : List D} (h : SqL X.K g.F p vs) (r : Reps X.K g vs us) : WalksD cl X.K bs g (enumD us) (Ite X.K p) := walksE h r
theorem di_enumA {p pos tpos : Pos} {elts : List Expr} {kk : Nat} (hg : Gl X "enumerate") (hm : X.mg "enumerate" = none) (ha : PE X e (RdE cl X.K bs W eva)) (hs : starEach [e] X.env = [(false, eval e X.env)]) :
    PI X (.Tuple elts kk tpos) (.Call (.Name "enumerate" p) [e] [] pos) (RdI cl X.K bs W fun ds S => (eva ds S).bind fun u S => (lift (enumI u) S).bind fun us S => .ok (enumD us) S) :=
  pi_den (pi_enumA hg hm ha hs) fun σ H R g ds S m ss p => ⟨g, ds, S, m, ss, (PostI.step p).imp fun x H1 ⟨g1, u, S1, l1, m1, r1, p1⟩ => by
    cases hu : enumI u with
    | none => rw [hu] at p1; exact p1.elim
    | some us =>
      rw [hu] at p1
      simp only [lift_some, Res.bind_ok] at p1
      have tup : tupI u = some us → ∃ a, x = .ref a ∧ (∃ xs, SqT X.K H1 a xs) ∧ R (ItET X.K a 0) H1 := fun h => by
        obtain ⟨q, vs, rfl, h1, h2⟩ := tupI_ok r1 h
        exact ⟨q, rfl, ⟨vs, SqT.mono m1.le h1⟩, p1 g1 H1 _ (.refl g1) m1 (walksET h1 h2)⟩
      have lst : lstI u = some us → ∃ a, x = .ref a ∧ (∃ xs, SqL X.K H1 a xs) ∧ R (Ite X.K a) H1 := fun h => by
        obtain ⟨q, vs, rfl, h1, h2⟩ := lstI_ok r1 h
        exact ⟨q, rfl, ⟨vs, SqL.mono m1.le h1⟩, p1 g1 H1 _ (.refl g1) m1 (walksEL h1 h2)⟩
      unfold enumI at hu
      split at hu
      · rename_i z
        cases hu
        cases r1 with
        | t r => cases r; exact .inl ⟨z, rfl, p1 g1 H1 _ (.refl g1) m1 walksES⟩
      · exact .inr (.inr (lst hu))
      · exact .inr (.inr (lst hu))
      · exact .inr (.inl (tup hu))⟩
theorem put_zip {K : PySem.W.Frag} : ∀ (as : List Addr) (ps : List (V × V)) (qs : List (T × T)) (g : G) (S : Store) (H : Hp), SimH cl K bs g S H → as.length = ps.length → as.Nodup → (∀ t ∈ as, H t = none) → RepTs K g.F true (ps.map (·.1)) (qs.map (·.1)) → RepTs K g.F true (ps.map (·.2)) (qs.map (·.2)) →
    ∃ g', g.le g' ∧ SimH cl K bs g' S (putP H as ps) ∧ RepTs K g'.F true (as.map V.ref) (qs.map fun p => .tuple [p.1, p.2])
  | [], [], [], g, S, H, m, _, _, _, _, _ => by
    unfold putP
    exact ⟨g, .refl g, m, .nil⟩
  | [], [], _ :: _, _, _, _, _, _, _, _, r, _ => nomatch r
  | [], _ :: _, _, _, _, _, _, h, _, _, _, _ => nomatch h
  | _ :: _, [], _, _, _, _, _, h, _, _, _, _ => nomatch h
  | _ :: _, _ :: _, [], _, _, _, _, _, _, _, r, _ => nomatch r
  | a :: as, p :: ps, q :: qs, g, S, H, m, hl, nd, hf, .cons r1 t1, .cons r2 t2 => by
    obtain ⟨l, m', r⟩ := m.tupT (vs := [p.1, p.2]) (xs := [q.1, q.2]) (.cons r1 (.cons r2 .nil)) (hf a List.mem_cons_self)
    rw [List.nodup_cons] at nd
    have r : RepT K (upd g.F a (.tup [p.1, p.2])) true (.ref a) (.tuple [q.1, q.2]) := by cases r with | t r => exact r
    obtain ⟨g', l', m2, r'⟩ := put_zip as ps qs _ S _ m' (by simpa using hl) nd.2 (fun t ht => by rw [upd_ne fun z => nd.1 (by rw [← z]; exact ht)]; exact hf t (List.mem_cons_of_mem _ ht)) (t1.mono l.F) (t2.mono l.F)
    unfold putP
    exact ⟨g', l.trans l', m2, .cons (r.mono l'.F) r'⟩
theorem zip_fst {K : PySem.W.Frag} {F : Hp} {st : Bool} : ∀ {vs ws : List V} {xs ys : List T}, RepTs K F st vs xs → RepTs K F st ws ys → RepTs K F st ((vs.zip ws).map (·.1)) ((xs.zip ys).map (·.1)) ∧ RepTs K F st ((vs.zip ws).map (·.2)) ((xs.zip ys).map (·.2))
  | _, _, _, _, .nil, r => by cases r <;> exact ⟨.nil, .nil⟩
  | _, _, _, _, .cons _ _, .nil => ⟨.nil, .nil⟩
  | _, _, _, _, .cons r t, .cons r' t' => ⟨.cons r (zip_fst t t').1, .cons r' (zip_fst t t').2⟩
theorem de_lzip {e2 : Expr} {p pos p2 pos2 : Pos} (hc : X.calm = true) (hg : Gl X "list") (hm : X.mg "list" = none) (hg2 : Gl X "zip") (hm2 : X.mg "zip" = none) (ha : PE X e (RdE cl X.K bs W eva)) (hb : PE X e2 (RdE cl X.K bs W evb))
    (hs : starEach [e, e2] X.env = (false, eval e X.env) :: starEach [e2] X.env) (hs2 : starEach [e2] X.env = (false, eval e2 X.env) :: starEach [] X.env) (hpl : (backTo pos2 (starEach [e2] X.env)).any (·.1) = false) :
    PE X (.Call (.Name "list" p) [.Call (.Name "zip" p2) [e, e2] [] pos2] [] pos) (RdE cl X.K bs W fun ds S => (eva ds S).bind fun u S => (evb ds S).bind fun v S => lift (lzipD u v) S) :=
  pe_den (pe_lzip hc hg hm hg2 hm2 (pa_cons ha (pa_cons hb pa_nil hs2) hs) hs hpl) fun σ H Q g ds S m ss p => ⟨g, ds, S, m, ss, (Post.step p).imp fun x H1 ⟨g1, u, S1, l1, m1, r1, p1⟩ =>
    ⟨g1, ds, S1, m1, ss.mono l1, (Post.step p1).imp fun y H2 ⟨g2, v, S2, l2, m2, r2, p2⟩ => by
      obtain ⟨d, hd, p3⟩ := Post.get p2
      unfold lzipD at hd
      split at hd
      · cases hd
        cases r1 with
        | t r1 =>
          cases r2 with
          | t r2 =>
            obtain ⟨a1, vs1, rfl, h1, _, k1⟩ := r1.list_inv
            obtain ⟨a2, vs2, rfl, h2, _, k2⟩ := r2.list_inv
            refine ⟨a1, a2, vs1, vs2, rfl, SqL.mono m2.le (SqL.mono l2.F h1), SqL.mono m2.le h2, fun P as hP has hPa nd hl => ?_⟩
            obtain ⟨f1, f2⟩ := zip_fst (k1.mono l2.F) k2
            obtain ⟨g3, l3, m3, r3⟩ := put_zip as (vs1.zip vs2) _ g2 S2 H2 m2 hl nd has f1 f2
            obtain ⟨l4, m4, r4⟩ := m3.lstT r3 (p := P) (by rw [putP_off _ _ _ hPa]; exact hP)
            exact p3 _ _ _ (l3.trans l4) m4 r4
      · cases hd⟩⟩

/-! ### a lock that is let go -/
theorem SimH.off {K : PySem.W.Frag} {g : G} {S : Store} {H : Hp} (m : SimH cl K bs g S H) {L : Hp} (h : ∀ a o, L a = some o → g.L a = some o) : SimH cl K bs ⟨g.F, L, g.ρ⟩ S H :=
  have q1 : ∀ (n : Nat) c a, S[n]? = some c → g.ρ[n]? = some a → c.live = true → L a = none := fun n c a e1 e2 e3 => by
    cases e : L a with
    | none => rfl
    | some o =>
      have := m.dis n c a e1 e2 e3
      rw [h a o e] at this
      cases this
  have q2 : ∀ (n : Nat) c a, S[n]? = some c → g.ρ[n]? = some a → c.live = true → CellAt cl K ⟨g.F, L, g.ρ⟩ c (H a) := fun n c a e1 e2 e3 => CellAt.monoF (g := g) (g' := ⟨g.F, L, g.ρ⟩) (fun _ _ e => e) (List.prefix_refl _) (m.cel n c a e1 e2 e3).2
  ⟨m.le, m.len, fun n c a e1 e2 e3 => ⟨(m.cel n c a e1 e2 e3).1, q2 n c a e1 e2 e3⟩, fun a o e => m.lk a o (h a o e), q1, m.inj, m.ws, m.hi⟩
theorem ExcAt.off {K : PySem.W.Frag} {g g' : G} {c : Nat} {fs : List (Str × D)} {cls : Value} {dx : Option Addr} {H : Hp} (h : ExcAt cl K g c fs cls dx H) (l : g.sub g') : ExcAt cl K g' c fs cls dx H := by
  obtain ⟨C, h1, h2, h3⟩ := h
  refine ⟨C, h1, h2, ?_⟩
  rcases h3 with h3 | ⟨a, fs', e1, e2, e3, r⟩
  · exact .inl h3
  · exact .inr ⟨a, fs', e1, e2, e3, r.monoS l⟩
/-- with a lock -/
theorem Post.lockd {α β γ δ : Type} {g : G} {E : XK} {rel : G → β → α → Prop} {rel2 : G → δ → γ → Prop} {r : Res α} {f : α → Store → Res γ} {Q : δ → Hp → Prop} {P : Addr} {u : HO} (hP : g.L P = none) (h : Post cl X.K bs g E rel2 (r.bind f) Q) :
    Post cl X.K bs ⟨g.F, upd g.L P u, g.ρ⟩ E rel r fun y H => ∃ g' a S, g.sub g' ∧ g'.L = upd g.L P u ∧ SimH cl X.K bs g' S H ∧ rel g' y a ∧ Post cl X.K bs g E rel2 (f a S) Q := by
  have hL : ∀ a o, g.L a = some o → upd g.L P u a = some o := fun a o e => by
    have : a ≠ P := fun z => by rw [z, hP] at e; cases e
    rw [upd_ne this]
    exact e
  cases r with
  | ok a S => exact fun g' H y l m q => ⟨g', a, S, ⟨l.F, l.ρ⟩, l.L, m, q, h⟩
  | exc c fs S => exact fun g' H cls dx l m q => h ⟨g'.F, g.L, g'.ρ⟩ H cls dx ⟨l.F, rfl, l.ρ⟩ (m.off fun a o e => by rw [l.L]; exact hL a o e) (q.off ⟨fun _ _ e => e, List.prefix_refl _⟩)
  | bad => exact h

/-! ### displays of dicts -/
def flat2 : List (V × V) → List V
  | [] => []
  | p :: r => p.1 :: p.2 :: flat2 r
def Reads2 (cl : List Addr) (K : PySem.W.Frag) (bs : List Nat) (W : WX) (trs : List (TE × TE)) (ev : Sl → Store → Res (List D)) : Prop := ∀ σ H Q, RdA cl K bs W ev σ H (fun vs H => ∀ ps, vs = flat2 ps → Q ps H) → tPairs trs σ H Q
theorem reads2_nil : Reads2 cl X.K bs W [] (fun _ S => .ok [] S) := fun σ H Q ⟨g, ds, S, m, ss, p⟩ => p g H [] (.refl g) m .nil [] rfl
theorem reads2_cons {trs : List (TE × TE)} {evr : Sl → Store → Res (List D)} (h : Reads2 cl X.K bs W trs evr) :
    Reads2 cl X.K bs W ((RdE cl X.K bs W eva, RdE cl X.K bs W evb) :: trs) (fun ds S => (eva ds S).bind fun u S => (((evb ds S).bind fun v S => (evr ds S).bind fun us S => .ok (v :: us) S)).bind fun us S => .ok (u :: us) S) := fun σ H Q ⟨g, ds, S, m, ss, p⟩ =>
  ⟨g, ds, S, m, ss, (Post.step p).imp fun x H1 ⟨g1, u, S1, l1, m1, r1, p1⟩ => by
    have p1 : Post cl X.K bs g1 (fun c d H => W c d σ H) (Reps X.K) ((evb ds S1).bind fun v S => (evr ds S).bind fun us S => Res.ok (u :: v :: us) S) (fun vs H => ∀ ps, vs = flat2 ps → Q ps H) := by
      cases h1 : evb ds S1 with
      | ok v S2 =>
        rw [h1] at p1
        simp only [Res.bind_ok] at p1 ⊢
        cases h2 : evr ds S2 with
        | ok us S3 => rw [h2] at p1; exact p1
        | exc _ _ _ => rw [h2] at p1; exact p1
        | bad => rw [h2] at p1; exact p1
      | exc _ _ _ => rw [h1] at p1; exact p1
      | bad => rw [h1] at p1; exact p1
    exact ⟨g1, ds, S1, m1, ss.mono l1, (Post.step p1).imp fun y H2 ⟨g2, v, S2, l2, m2, r2, p2⟩ => h σ H2 _ ⟨g2, ds, S2, m2, ss.mono (l1.trans l2), (Post.step p2).imp fun zs H3 ⟨g3, us, S3, l3, m3, r3, p3⟩ ps e => by
      subst e
      exact p3 g3 H3 (x :: y :: flat2 ps) (.refl g3) m3 (.cons (r1.mono (l2.trans l3)) (.cons (r2.mono l3) r3)) ((x, y) :: ps) rfl⟩⟩⟩
theorem pairs_rep {g : G} : ∀ {ps : List (V × V)} {us : List D} {kvs : List (Key × D)}, Reps X.K g (flat2 ps) us → pairsD us = some kvs → ∃ kvs' : List (Key × V), ps = kvs'.map (fun kv => (kV kv.1, kv.2)) ∧ kvs'.map (·.1) = kvs.map (·.1) ∧ Reps X.K g (kvs'.map (·.2)) (kvs.map (·.2))
  | [], _, kvs, .nil, h => by
    unfold pairsD at h
    cases h
    exact ⟨[], rfl, rfl, .nil⟩
  | (x, y) :: ps, _, kvs, .cons (x := d) r1 (.cons (x := d2) (xs := us) r2 t), h => by
    unfold pairsD at h
    split at h
    · rename_i heq
      cases heq
    · rename_i x' d' r' heq
      cases heq
      cases hk : keyK x' with
      | none => rw [hk] at h; cases h
      | some k =>
        cases hp : pairsD us with
        | none => rw [hk, hp] at h; cases h
        | some l =>
          rw [hk, hp] at h
          cases h
          obtain ⟨kvs', e1, e2, e3⟩ := pairs_rep t hp
          have hx : x = kV k := by cases r1 with | t r => exact keyK_rep r hk
          subst hx
          exact ⟨(k, y) :: kvs', by rw [List.map_cons, ← e1], by simp [e2], .cons r2 e3⟩
    · cases h
theorem merge_rep {g : G} : ∀ {kvs' : List (Key × V)} {kvs : List (Key × D)} {as : List (Key × V)} {bs : List (Key × D)}, kvs'.map (·.1) = kvs.map (·.1) → Reps X.K g (kvs'.map (·.2)) (kvs.map (·.2)) → as.map (·.1) = bs.map (·.1) → Reps X.K g (as.map (·.2)) (bs.map (·.2)) →
    (kvs'.foldl (fun acc kv => putK acc kv.1 kv.2) as).map (·.1) = (kvs.foldl (fun acc p => putD acc p.1 p.2) bs).map (·.1) ∧ Reps X.K g ((kvs'.foldl (fun acc kv => putK acc kv.1 kv.2) as).map (·.2)) ((kvs.foldl (fun acc p => putD acc p.1 p.2) bs).map (·.2))
  | [], [], as, bs, _, _, e, r => ⟨e, r⟩
  | [], _ :: _, _, _, e, _, _, _ => nomatch e
  | _ :: _, [], _, _, e, _, _, _ => nomatch e
  | p :: ps, q :: qs, as, bs, e, .cons r1 r2, e', r' => by
    simp only [List.map_cons, List.cons.injEq] at e
    rw [List.foldl_cons, List.foldl_cons, e.1]
    exact merge_rep e.2 r2 (putD_keys e' q.1 p.2 q.2) (putD_reps r1 e' r')
theorem de_dct {mu : Bool} {keys : List (Option Expr)} {values : List Expr} {trs : List (TE × TE)} {evs : Sl → Store → Res (List D)} (h : PPs X pos keys values trs) (hr : Reads2 cl X.K bs W trs evs) (hall : keys.all (·.isSome) = true) (hl : keys.length = values.length) (h0 : keys ≠ []) (h15 : keys.length ≤ 15) :
    PE X (.Dict keys values pos) (RdE cl X.K bs W fun ds S => (evs ds S).bind fun us S => (lift (pairsD us) S).bind fun kvs S => if kvs.length ≤ 15 then (if mu = true then .ok (.ref S.length) (S ++ [.dK (mergeD kvs)]) else lift (mkDct (mergeD kvs)) S) else .bad) :=
  pe_mono (pe_disp h hall hl h0 h15) fun σ H Q ⟨g, ds, S, m, ss, p⟩ P hP => hr σ _ _ ⟨⟨g.F, upd g.L P (.dK []), g.ρ⟩, ds, S, m.lock hP _, SimS.monoF (g := g) (g' := ⟨g.F, upd g.L P (.dK []), g.ρ⟩) (fun _ _ e => e) (List.prefix_refl _) ss,
    (Post.lockd (m.freshL hP) p).imp fun vs H1 ⟨g1, us, S1, l1, hL1, m1, r1, p1⟩ ps eps => by
      subst eps
      have hlP : g1.L P = some (.dK []) := by rw [hL1, upd_same]
      refine ⟨(m1.lk _ _ hlP).1, ?_⟩
      cases hp : pairsD us with
      | none => rw [hp] at p1; exact p1.elim
      | some kvs =>
        rw [hp] at p1
        simp only [lift_some, Res.bind_ok] at p1
        obtain ⟨kvs', e1, e2, e3⟩ := pairs_rep r1 hp
        have hk : kvs.length ≤ 15 := Classical.byContradiction fun z => by rw [if_neg z] at p1; exact p1
        rw [if_pos hk] at p1
        have hlen : kvs'.length = kvs.length := by have := congrArg List.length e2; simpa using this
        refine ⟨kvs', e1, by rw [hlen]; exact hk, ?_⟩
        obtain ⟨q1, q2⟩ := merge_rep (as := []) (bs := []) e2 e3 rfl .nil
        have q1 : (mergeK [] kvs').map (·.1) = (mergeD kvs).map (·.1) := q1
        have q2 : Reps X.K g1 ((mergeK [] kvs').map (·.2)) ((mergeD kvs).map (·.2)) := q2
        have m2 := m1.relock hlP (.dK (mergeK [] kvs'))
        have hL2 : upd g1.L P (.dK (mergeK [] kvs')) = upd g.L P (.dK (mergeK [] kvs')) := by rw [hL1, upd_upd]
        cases mu with
        | true =>
          simp only [if_true] at p1
          refine p1 ⟨g1.F, g.L, g1.ρ ++ [P]⟩ _ (.ref P) ⟨l1.F, rfl, l1.ρ.trans (List.prefix_append _ _)⟩ (m2.unlockC hL2 (m.freshL hP) ⟨_, rfl, q1, q2.monoS (subA g1 _ _)⟩) (.ref ?_)
          show (g1.ρ ++ [P])[S1.length]? = some P
          rw [← m1.len, List.getElem?_append_right (Nat.le_refl _), Nat.sub_self]
          rfl
        | false =>
          simp only [Bool.false_eq_true, if_false] at p1
          obtain ⟨d, hd, p2⟩ := Post.get p1
          unfold mkDct at hd
          cases ha : allT ((mergeD kvs).map (·.2)) with
          | none => rw [ha] at hd; cases hd
          | some ts =>
            rw [ha] at hd
            cases hd
            have et := allT_eq ha
            rw [et] at q2
            have hF : ∀ a o, g1.F a = some o → upd g1.F P (.dK (mergeK [] kvs')) a = some o := fun a o e => by
              have : a ≠ P := fun z => by rw [z, (m1.lk _ _ hlP).2] at e; cases e
              rw [upd_ne this]
              exact e
            have hlt : ((mergeD kvs).map fun p => keyD p.1).length = ts.length := by
              have := congrArg List.length et
              simpa using this
            refine p2 ⟨upd g1.F P (.dK (mergeK [] kvs')), g.L, g1.ρ⟩ _ (.ref P) ⟨fun a o e => hF a o (l1.F a o e), rfl, l1.ρ⟩ (m2.unlock hL2 (m.freshL hP)) (.t (.dK (kvs := mergeK [] kvs') (.inl upd_same) ?_ ?_))
            · rw [List.map_fst_zip (Nat.le_of_eq hlt)]
              have := congrArg (List.map keyD) q1
              simp only [List.map_map] at this
              exact this.symm
            · rw [List.map_snd_zip (Nat.le_of_eq hlt.symm)]
              exact q2.trees.mono hF⟩

/-! ### d.get -/
theorem isDict_ok {g : G} {S : Store} {H : Hp} (m : SimH cl X.K bs g S H) {v : V} {d : D} (r : Rep X.K g v d) (h : isDict S d = true) : ∃ a, v = .ref a ∧ IsD H a := by
  unfold isDict at h
  split at h
  · cases r with
    | t r =>
      cases r with
      | dK s _ _ => exact ⟨_, rfl, .inl ⟨_, Rd.mono m.le s⟩⟩
  · rename_i n
    cases r with
    | @ref n a ha =>
      split at h
      · rename_i kvs hs
        obtain ⟨_, kvs', ho, _⟩ := m.cel n _ a hs ha rfl
        exact ⟨a, rfl, .inl ⟨kvs', .inl ho⟩⟩
      · rename_i kvs hs
        obtain ⟨_, kvs', ho, _⟩ := m.cel n _ a hs ha rfl
        exact ⟨a, rfl, .inr ⟨kvs', .inl ho⟩⟩
      · cases h
  · cases h
theorem get_ok {g : G} {S : Store} {H : Hp} (m : SimH cl X.K bs g S H) {a : Addr} {z y : V} {u v w d : D} (ru : Rep X.K g (.ref a) u) (rv : Rep X.K g z v) (rw' : Rep X.K g y w) (h : getO S u v w = some d) : ∃ o, DGet H a z o ∧ Rep X.K g (o.getD y) d := by
  unfold getO at h
  split at h
  · rename_i x
    have rz : RepT X.K g.F true z x := by cases rv with | t r => exact r
    cases hc : getC S u x with
    | none => rw [hc] at h; cases h
    | some o =>
      obtain ⟨a', r, e1, e2, e3⟩ := getC_ok m ru rz hc
      cases e1
      refine ⟨r, e2, ?_⟩
      rcases e3 with ⟨rfl, rfl⟩ | ⟨d', v', rfl, rfl, r3⟩
      · rw [hc] at h
        cases h
        exact rw'
      · rw [hc] at h
        cases h
        exact r3
  · cases h
theorem de_get1 {apos cpos : Pos} (hu : X.A.units + 1 < cLine) (ho : PE X o (RdE cl X.K bs W eva)) (he : PE X e (RdE cl X.K bs W evb)) (hbase : attributeBase o "get" X.env (eval o X.env) = eval o X.env) (hline : (apos.endLine == cpos.line) = true) (hs : starEach [e] X.env = [(false, eval e X.env)]) :
    PE X (.Call (.Attribute o "get" apos) [e] [] cpos) (RdE cl X.K bs W fun ds S => (eva ds S).bind fun u S => if isDict S u = true then (evb ds S).bind fun v S => lift (getO S u v (.t .none)) S else .bad) :=
  pe_den (pe_dget1 hu ho he ⟨hbase, by rw [hs]; rfl, hline, by rw [hs]; rfl⟩) fun σ H Q g ds S m ss p => ⟨g, ds, S, m, ss, (Post.step p).imp fun x H1 ⟨g1, u, S1, l1, m1, r1, p1⟩ => by
    split at p1
    · rename_i hd
      obtain ⟨a, rfl, hi⟩ := isDict_ok m1 r1 hd
      exact ⟨a, rfl, hi, g1, ds, S1, m1, ss.mono l1, (Post.step p1).imp fun y H2 ⟨g2, v, S2, l2, m2, r2, p2⟩ => by
        obtain ⟨d, hd, p3⟩ := Post.get p2
        obtain ⟨o, ho, ro⟩ := get_ok (y := .non) m2 (r1.mono l2) r2 (.t .non) hd
        exact ⟨o, ho, p3 g2 H2 _ (.refl g2) m2 ro⟩⟩
    · exact p1.elim⟩
theorem de_get2 {f : Expr} {apos cpos : Pos} (hu : X.A.units + 1 < cLine) (ho : PE X o (RdE cl X.K bs W eva)) (he : PE X e (RdE cl X.K bs W evb)) (hf : PE X f (RdE cl X.K bs W evc)) (hbase : attributeBase o "get" X.env (eval o X.env) = eval o X.env) (hline : (apos.endLine == cpos.line) = true) (hs : starEach [e, f] X.env = [(false, eval e X.env), (false, eval f X.env)]) :
    PE X (.Call (.Attribute o "get" apos) [e, f] [] cpos) (RdE cl X.K bs W fun ds S => (eva ds S).bind fun u S => if isDict S u = true then (evb ds S).bind fun v S => (evc ds S).bind fun w S => lift (getO S u v w) S else .bad) :=
  pe_den (pe_dget2 hu ho he hf ⟨hbase, by rw [hs]; rfl, hline, by rw [hs]; rfl⟩) fun σ H Q g ds S m ss p => ⟨g, ds, S, m, ss, (Post.step p).imp fun x H1 ⟨g1, u, S1, l1, m1, r1, p1⟩ => by
    split at p1
    · rename_i hd
      obtain ⟨a, rfl, hi⟩ := isDict_ok m1 r1 hd
      exact ⟨a, rfl, hi, g1, ds, S1, m1, ss.mono l1, (Post.step p1).imp fun y H2 ⟨g2, v, S2, l2, m2, r2, p2⟩ => ⟨g2, ds, S2, m2, ss.mono (l1.trans l2), (Post.step p2).imp fun z H3 ⟨g3, w, S3, l3, m3, r3, p3⟩ => by
        obtain ⟨d, hd, p4⟩ := Post.get p3
        obtain ⟨o, ho, ro⟩ := get_ok m3 (r1.mono (l2.trans l3)) (r2.mono l3) r3 hd
        exact ⟨o, ho, p4 g3 H3 _ (.refl g3) m3 ro⟩⟩⟩
    · exact p1.elim⟩

/-! ### o.extend(e) -/
theorem ext_of {g : G} {S S' : Store} {H : Hp} {bf : Nat} (hb : ∀ c ∈ bs, c ≤ bf) (m : SimH cl X.K bs g S H) {v w : V} {d u : D} (r : Rep X.K g v d) (rw' : Rep X.K g w u) (h : extD S d u = some S') {Q : VK} (q : ∀ H', SimH cl X.K bs g S' H' → Q .non H') : rExtend v [w] H Q := by
  unfold extD at h
  split at h
  · rename_i n
    split at h
    · rename_i ds hs
      cases hx : lstOf S u with
      | none => rw [hx] at h; cases h
      | some xs =>
        rw [hx] at h
        obtain ⟨h1, rfl⟩ := guardB_some h
        rw [decide_eq_true_eq] at h1
        obtain ⟨b', zs, rfl, hz, rz⟩ := rw'.lstT m hx
        cases r with
        | @ref n a ha =>
          obtain ⟨_, vs, ho, hr⟩ := m.cel n _ a hs ha rfl
          refine ⟨a, b', vs, zs, rfl, rfl, ho, hz, by rw [hr.length, rz.length]; exact h1, q _ ?_⟩
          refine m.put hb hs ha rfl ⟨_, rfl, hr.append rz.reps⟩ fun hn e he => ?_
          have he : e ∈ ds ++ xs.map .t := he
          rw [List.mem_append] at he
          rcases he with z | z
          · exact .inl z
          · obtain ⟨x, _, rfl⟩ := List.mem_map.mp z
            exact .inr rfl
    · cases h
  · cases h
theorem ds_ext {bf : Nat} (hb : ∀ c ∈ bs, c ≤ bf) {apos cpos : Pos} (ho : PE X o (RdE cl X.K bs W eva)) (he : PE X e (RdE cl X.K bs W evb)) (hbase : attributeBase o "extend" X.env (eval o X.env) = eval o X.env)
    (hline : (apos.endLine == cpos.line) = true) (hs : starEach [e] X.env = (false, eval e X.env) :: starEach [] X.env) :
    PS X (.Expr (.Call (.Attribute o "extend" apos) [e] [] cpos) pos) (RdS cl X.K bs W fun ds S => thenS (eva ds S) ds fun u S => if isLst S u = true then thenS (evb ds S) ds fun v S => match extD S u v with
      | some S => .nx ds S
      | none => .bad
      else .bad) :=
  ps_den (ps_expr (pe_bm (cpos := cpos) (apos := apos) F.plainAttrs_list F.slot_list_extend F.type_list_extend mt_extend ho (pa_cons he pa_nil hs) hbase (by rw [hs]; rfl) hline hs rfl) rfl) fun σ H D g ds S m ss p =>
    ⟨g, ds, S, m, ss, (PostS.step ss p).imp fun x H1 ⟨g1, u, S1, l1, m1, r1, p1⟩ => by
      split at p1
      · rename_i hl
        exact ⟨isLst_ok m1 r1 hl, g1, ds, S1, m1, ss.mono l1, (PostS.step (ss.mono l1) p1).imp fun y H2 ⟨g2, v, S2, l2, m2, r2, p2⟩ => by
          cases hd : extD S2 u v with
          | none => rw [hd] at p2; exact p2.elim
          | some S3 =>
            rw [hd] at p2
            exact ext_of (Q := fun _ H => D.nx σ H) hb m2 (r1.mono l2) r2 hd fun H3 m3 => p2 g2 H3 σ (.refl g2) m3 (ss.mono (l1.trans l2))⟩
      · exact p1.elim⟩
/-- y = [..] of two clauses on one line -/
theorem ds_setLc2 {i : Nat} {y : Str} {py spos : Pos} {mb : Bool} {evi : Sl → Store → Res (List D)} {evg : D → Sl → Store → Res Sl} {evt : Sl → Store → Res Bool} {evi1 : Sl → Store → Res (List D)} {evg1 : D → Sl → Store → Res Sl} {evt1 : Sl → Store → Res Bool} {eve : Sl → Store → Res D} {vs1 : List Nat} {elt tg iter tg1 iter1 : Expr} {ifs ifs1 : List Expr} {scope : Scope} {own : List (Str × Nat)} {pos : Pos}
    (hc : X.calm = true) (hN : X.N.Nodup) (hy : X.N[i]? = some y) (hyl : X.env.scope.names.lookup y = some .local)
    (hsw : swapsWith (.ListComp elt [⟨tg, iter, ifs, 0⟩, ⟨tg1, iter1, ifs1, 0⟩] scope pos) (some (.Name y py)) spos.line X.env = pure true) (hi : PI X tg iter (RdI cl X.K bs W evi)) (ok : BlkOk X.N X.env.scope scope own) (hv : ∀ i ∈ vs1, i ∈ own.map (·.2))
    (hg : ∀ (s : Shared) (H : Hp) (C : Addr) (cl' : List (Str × Addr)) (fp : List Addr), PG (X.blk s H scope (compEnvC scope cl' C X.env) fp) tg (RdG cl X.K bs (own.map (·.2)) evg))
    (ht : ∀ (s : Shared) (H : Hp) (C : Addr) (cl' : List (Str × Addr)) (fp : List Addr), PTs (X.blk s H scope (compEnvC scope cl' C X.env) fp) ifs (RdT cl X.K bs W0 evt))
    (he : ∀ (s : Shared) (H : Hp) (C : Addr) (cl' : List (Str × Addr)) (fp : List Addr), PE (X.blk s H scope (compEnvC scope cl' C X.env) fp) elt (RdE cl X.K bs W0 eve)) (hs : ∀ x, foldedSetIterable iter X.env x = pure x)
    (hi1 : ∀ (s : Shared) (H : Hp) (C : Addr) (cl' : List (Str × Addr)) (fp : List Addr), PI (X.blk s H scope (compEnvC scope cl' C X.env) fp) tg1 iter1 (RdI cl X.K bs W0 evi1))
    (hg1 : ∀ (s : Shared) (H : Hp) (C : Addr) (cl' : List (Str × Addr)) (fp : List Addr), PG (X.blk s H scope (compEnvC scope cl' C X.env) fp) tg1 (RdG cl X.K bs vs1 evg1))
    (ht1 : ∀ (s : Shared) (H : Hp) (C : Addr) (cl' : List (Str × Addr)) (fp : List Addr), PTs (X.blk s H scope (compEnvC scope cl' C X.env) fp) ifs1 (RdT cl X.K bs W0 evt1)) (hs1 : ∀ env x, foldedSetIterable iter1 env x = pure x) :
    PS X (.Assign [.Name y py] (.ListComp elt [⟨tg, iter, ifs, 0⟩, ⟨tg1, iter1, ifs1, 0⟩] scope pos) spos) (RdS cl X.K bs W fun ds S => thenS (comp2D mb evi evg evt evi1 evg1 evt1 eve (own.map (·.2)) vs1 ds S) ds fun d S => thenS (Res.ok (ds.set i (some d)) S).noexc ds fun ds S => .nx ds S) :=
  ps_den (ps_setLc2 hc hN hy hyl hsw hi ok hv hg ht hi1 hg1 ht1 he hs hs1) fun σ H D g ds S m ss p => lc2_of (mb := mb) ⟨g, ds, S, m, ss, (PostS.step ss p).imp fun x H1 ⟨g1, u, S1, l1, m1, r1, p1⟩ => p1 g1 H1 _ (.refl g1) m1 ((ss.mono l1).set i r1)⟩
/-- more slots may have changed -/
theorem pg_more {evg : D → Sl → Store → Res Sl} (h : PG X tg (RdG cl X.K bs ws evg)) (hv : ∀ i ∈ ws, i ∈ vs) : PG X tg (RdG cl X.K bs vs evg) :=
  ⟨fun pins s σ H v u Q I r ⟨g, d, ds, S, m, ss, rd, p⟩ => h.run pins s σ H v u Q I r ⟨g, d, ds, S, m, ss, rd, by
    cases he : evg d ds S with
    | ok ds' S' => rw [he] at p; exact fun g' H' σ' l m' s' off => p g' H' σ' l m' s' ⟨off.1, fun i hi => off.2 i fun z => hi (hv i z)⟩
    | exc _ _ _ => rw [he] at p; exact p
    | bad => rw [he] at p; exact p⟩⟩
end
end Den

set_option maxHeartbeats 4000000
/-! Den, part W: sorted. -/
namespace Den
open PySem PySem.Spec PyProof.Rows L2
section
variable {X : Cx} {cl : List Addr} {bs : List Nat} {W : WX} {a b c o i e : Expr} {es : List Expr} {pos : Pos} {eva evb evc : Sl → Store → Res D} {tg : Expr} {vs ws : List Nat} {σ : L2.St}
theorem each_rep {K : PySem.W.Frag} {F : Hp} : ∀ {vs : List V} {its : List Value} {xs : List T}, Vals vs its → RepTs K F true vs xs → PySem.W.EachIs (fun u x => ∃ v, RelV v u ∧ RepT K F true v x) its xs
  | _, _, _, .nil, .nil => .nil
  | _, _, _, .cons r t, .cons q p => .cons ⟨_, r, q⟩ (each_rep t p)
theorem rep_each {K : PySem.W.Frag} {F : Hp} : ∀ {its : List Value} {xs : List T}, PySem.W.EachIs (fun u x => ∃ v, RelV v u ∧ RepT K F true v x) its xs → ∃ vs, Vals vs its ∧ RepTs K F true vs xs
  | _, _, .nil => ⟨[], .nil, .nil⟩
  | _, _, .cons ⟨v, r, q⟩ t => let ⟨vs, h1, h2⟩ := rep_each t; ⟨v :: vs, .cons r h1, .cons q h2⟩
theorem each_of {α β : Type} {R R' : α → β → Prop} : ∀ {as : List α} {bs : List β}, PySem.W.EachIs R as bs → (∀ a b, b ∈ bs → R a b → R' a b) → PySem.W.EachIs R' as bs
  | _, _, .nil, _ => .nil
  | _, _, .cons r t, h => .cons (h _ _ List.mem_cons_self r) (each_of t fun a b m => h a b (List.mem_cons_of_mem _ m))
theorem sort_ok {xs : List T} (h : sortOk xs = true) : PySem.W.AllAlike xs ∧ PySem.W.Sortable xs ∧ ∀ x ∈ xs, x.plain = true ∧ x.depth ≤ 100 := by
  unfold sortOk at h
  simp only [Bool.and_eq_true, Bool.or_eq_true, List.all_eq_true, decide_eq_true_eq] at h
  obtain ⟨⟨h1, h2⟩, h3⟩ := h
  refine ⟨fun d hd d' hd' => h1 d hd d' hd', ?_, fun x hx => h3 x hx⟩
  rcases h2 with h2 | h2
  · refine .inl fun d hd => ?_
    have := h2 d hd
    split at this
    · exact ⟨_, _, rfl⟩
    · cases this
  · refine .inr fun d hd => ?_
    have := h2 d hd
    split at this
    · cases this
    · cases this
    · rename_i h5 h6
      exact ⟨h5, h6⟩
def srtA (S : Store) : List D → Option D
  | [d] => srtD S d
  | _ => none
theorem call_srt (hu : X.A.units + 200 < cLine) : CallR X (.builtin "sorted") (rC cl X.K bs srtA) := by
  intro pins s σ H xs us Q I r ⟨g, S, ds, d, m, rs, e, w⟩
  unfold srtA at e
  split at e
  · obtain ⟨v, rfl, rv⟩ := one_of rs
    unfold srtD at e
    rename_i d0
    cases hx : lstOf S d0 with
    | none => rw [hx] at e; cases e
    | some ts =>
      rw [hx] at e
      obtain ⟨ok, rfl⟩ := guardB_some e
      obtain ⟨a, vs, rfl, ho, hr⟩ := rv.lstT m hx
      obtain ⟨u, rfl, ru⟩ := vals1 r
      cases ru
      obtain ⟨its, rvs, p, hz⟩ := I.list (SqL.of ho)
      obtain ⟨k1, k2, k3⟩ := sort_ok ok
      have ev := each_rep rvs hr
      refine PySem.W.sorted_data (enc := id) p.isList ev (each_of ev fun u x hx ⟨v, q1, q2⟩ => (q2.wide m).weak.reads I (k3 x hx).1 q1) (by rw [List.map_id]; exact k1) (by rw [List.map_id]; exact k2) ?_ ?_ ?_
      · rw [← hr.length]; exact hz
      · intro x hx
        have := (k3 x hx).2
        show X.A.units + 2 + x.depth < cLine
        omega
      · intro out hl ho2
        obtain ⟨vs', q1, q2⟩ := rep_each ho2
        obtain ⟨c, hc⟩ := sortedAll_at s.heap its out.toArray
        have hp : H (s.heap.objs.size + 1) = none := I.hok.fresh (Nat.le_succ _)
        obtain ⟨l, m', r'⟩ := m.lstT q2 hp
        have ob : ObjOk X.prog X.w (upd H (s.heap.objs.size + 1) (.lst vs')) (sortedAll s.heap its out.toArray) (s.heap.objs.size + 1) (.lst vs') := by
          refine ⟨?_, out, c, q1, hc⟩
          rw [q1.length, hl, ← hr.length]
          exact hz
        exact ⟨.ref (s.heap.objs.size + 1), _, I.laid (t' := s.toks) (fun b o => sortedAll_old) (Nat.le_succ _) ob, rfl, w _ _ _ l m' r'⟩
  · cases e
theorem de_srt {p : Pos} (hu : X.A.units + 200 < cLine) (hg : Gl X "sorted") (hm : X.mg "sorted" = none) (ha : PE X e (RdE cl X.K bs W eva)) (hs : starEach [e] X.env = [(false, eval e X.env)]) :
    PE X (.Call (.Name "sorted" p) [e] [] pos) (RdE cl X.K bs W fun ds S => (eva ds S).bind fun u S => lift (srtD S u) S) :=
  pe_den (pe_callB (call_srt (cl := cl) (bs := bs) hu) hg hm (by decide +kernel) (pa_cons ha pa_nil hs) (by decide) (by decide +kernel) hs rfl) fun σ H Q g ds S m ss p => ⟨g, ds, S, m, ss, (Post.step p).imp fun x H1 ⟨g1, u, S1, l1, m1, r1, p1⟩ => by
    obtain ⟨d, hd, p2⟩ := Post.get p1
    exact ⟨g1, S1, [u], d, m1, .cons r1 .nil, hd, p2⟩⟩
/-! ### o.pop() -/
theorem pop_of {g : G} {S S' : Store} {H : Hp} {bf : Nat} (hb : ∀ c ∈ bs, c ≤ bf) (m : SimH cl X.K bs g S H) {v : V} {d u : D} (r : Rep X.K g v d) (h : popD S d = some (u, S')) : tyV X.K "list" v H ∧ ∀ {Q : VK}, (∀ y H', SimH cl X.K bs g S' H' → Rep X.K g y u → Q y H') → rPop v [] H Q := by
  unfold popD at h
  split at h
  · rename_i n
    split at h
    · rename_i ds hs
      cases hl : ds.getLast? with
      | none => rw [hl] at h; cases h
      | some x =>
        rw [hl] at h
        cases h
        cases r with
        | @ref n a ha =>
          obtain ⟨_, vs, ho, hr⟩ := m.cel n _ a hs ha rfl
          refine ⟨.inl ⟨rfl, vs, SqL.of ho⟩, fun {Q} q => ?_⟩
          rw [List.getLast?_eq_getElem?] at hl
          obtain ⟨y, hy, ry⟩ := hr.get hl
          rw [← hr.length] at hy
          refine ⟨a, vs, y, rfl, rfl, ho, hy, q _ _ ?_ ry⟩
          exact m.put hb hs ha rfl ⟨_, rfl, hr.dropLast⟩ fun hn e he => .inl (List.dropLast_subset _ he)
    · cases h
  · cases h
theorem de_pop {bf : Nat} (hb : ∀ c ∈ bs, c ≤ bf) {apos : Pos} (ho : PE X o (RdE cl X.K bs W eva)) (hbase : attributeBase o "pop" X.env (eval o X.env) = eval o X.env) (hline : (apos.endLine == pos.line) = true) :
    PE X (.Call (.Attribute o "pop" apos) [] [] pos) (RdE cl X.K bs W fun ds S => (eva ds S).bind fun u S => match popD S u with | some p => .ok p.1 p.2 | none => .bad) :=
  pe_den (pe_bm0 F.plainAttrs_list F.slot_list_pop F.type_list_pop mt_pop ho hbase hline) fun σ H Q g ds S m ss p => ⟨g, ds, S, m, ss, (Post.step p).imp fun x H1 ⟨g1, u, S1, l1, m1, r1, p1⟩ => by
    cases hd : popD S1 u with
    | none => rw [hd] at p1; exact p1.elim
    | some q =>
      rw [hd] at p1
      obtain ⟨k1, k2⟩ := pop_of hb m1 r1 (hd : popD S1 u = some (q.1, q.2))
      exact ⟨k1, k2 fun y H' m' r' => p1 g1 H' y (.refl g1) m' r'⟩⟩
end
end Den

set_option maxHeartbeats 1000000
/-! Den, part 9: that an expression of the text is the small language's. -/
namespace Den
open PySem PySem.Spec PyProof.Rows L2

/-- the surroundings: the slots' names, the scope, which names of it may be stored where they are cells (none: all), the defs by name, the written constants by name, the builtins' names that no top-level name covers -/
structure Ctx where
  N : List Str
  sc : Scope
  fs : Option (List (Str × NameKind))
  fns : List (Str × Nat)
  gls : List Str
  bl : List Str
def Ctx.fnk (c : Ctx) (x : Str) : Bool := match c.fs with
  | none => true
  | some l => l.lookup x == some .cell
structure Amb (X : Cx) (c : Ctx) (cl : List Addr) (cf : CF) (gs : List T) (k : Nat) : Prop where
  hN : X.N = c.N
  nd : X.N.Nodup
  hsc : X.env.scope = c.sc
  kind : c.sc.kind = .function
  calm : X.calm = true
  room : Room k X.A
  fn : ∀ x, c.fnk x = true → X.fn x = true
  fns : ∀ i x np, c.fns[i]? = some (x, np) → FnAt X cl cf k x np i
  gls : ∀ (j : Nat) x y, c.gls[j]? = some x → gs[j]? = some y → ∃ u v, X.mg x = some u ∧ RelV v u ∧ RepT X.K (fun _ => none) false v y
  bl : ∀ x ∈ c.bl, X.mg x = none

/-! ### small questions about the text -/
def starred : Expr → Bool
  | .Starred .. => true
  | _ => false
def isSlice : Expr → Bool
  | .Slice .. => true
  | _ => false
def isSet : Expr → Bool
  | .Set .. => true
  | _ => false
def isComp : Expr → Bool
  | .ListComp .. => true
  | .SetComp .. => true
  | .DictComp .. => true
  | _ => false
def isBack : Expr → Bool
  | .UnaryOp .USub (.Constant (.int i) _ _) _ => decide (i = 1)
  | _ => false
theorem isBack_ok {e : Expr} (h : isBack e = true) : Back e := by
  unfold isBack at h
  split at h
  · rw [decide_eq_true_eq] at h
    subst h
    exact ⟨_, _, _, rfl⟩
  · cases h
def isTup : Expr → Bool
  | .Tuple .. => true
  | .List .. => true
  | _ => false
def plainTest : Expr → Bool
  | .UnaryOp .Not _ _ => false
  | .BoolOp .. => false
  | .IfExp .. => false
  | .Compare .. => false
  | _ => true
def baseOk : Expr → Bool
  | .Call (.Name id _) [] [] _ => !(id == "super")
  | _ => true
theorem star_cons {a : Expr} {es : List Expr} {env : Env} (h : starred a = false) : starEach (a :: es) env = (false, eval a env) :: starEach es env := by cases a <;> first | rfl | cases h
theorem star_plain {env : Env} {pos : Pos} : ∀ {es : List Expr}, es.any starred = false → (backTo pos (starEach es env)).any (·.1) = false
  | [], _ => rfl
  | a :: es, h => by
    rw [List.any_cons, Bool.or_eq_false_iff] at h
    rw [star_cons h.1]
    have := star_plain (env := env) (pos := pos) h.2
    simp only [backTo, List.map_cons, List.any_cons, Bool.false_or] at this ⊢
    exact this
theorem asg_cons {a : Expr} {es : List Expr} {env : Env} (h : starred a = false) : assignEach (a :: es) env = (false, assign a env) :: assignEach es env := by cases a <;> first | rfl | cases h
theorem asg_len {env : Env} : ∀ {es : List Expr}, (assignEach es env).length = es.length
  | [] => rfl
  | a :: es => by
    have := asg_len (env := env) (es := es)
    cases a <;> simp [assignEach, this]
theorem asg_plain {env : Env} : ∀ {es : List Expr}, es.any starred = false → (assignEach es env).findIdx? (·.1) = none
  | [], _ => rfl
  | a :: es, h => by
    rw [List.any_cons, Bool.or_eq_false_iff] at h
    rw [asg_cons h.1, List.findIdx?_cons, if_neg (by simp), asg_plain h.2]
    rfl
theorem plainIx {b : Expr} (h : isSlice b = false) : PlainIx b := fun o i => by cases b <;> first | rfl | cases h
theorem asg_sub {o i : Expr} {pos : Pos} {env : Env} (h : isSlice i = false) : ∀ v, assign (.Subscript o i pos) env v = (do
      let ov ← holding [v] (eval o env)
      let iv ← holding [v, ov] (eval i env)
      standAt pos
      holding [v, ov, iv] (setItem ov iv v)
      release [v, ov, iv] []) := fun v => by cases i <;> first | rfl | cases h
theorem noFold {e : Expr} {env : Env} (h : isSet e = false) : ∀ x, foldedSetIterable e env x = pure x := fun x => by cases e <;> first | rfl | cases h
theorem plainTest_ok {e : Expr} {env : Env} (h : plainTest e = true) : ∀ whole, isTrue e env whole = (do let v ← whole; standAt e.pos; holding [v] (truthy v)) := fun whole => by
  cases e with
  | UnaryOp op x p => cases op <;> first | rfl | cases h
  | BoolOp _ _ _ => cases h
  | IfExp _ _ _ _ => cases h
  | Compare _ _ _ _ => cases h
  | _ => rfl
theorem base_ok {e : Expr} {env : Env} {name : Str} {whole : Sem Value} (h : baseOk e = true) : attributeBase e name env whole = whole := by
  cases e with
  | Call f as ks p =>
    cases f with
    | Name id q =>
      cases as with
      | nil =>
        cases ks with
        | nil =>
          have h : (!(id == ("super" : Str))) = true := h
          have h' : (id != ("super" : Str)) = true := by simpa [bne] using h
          show (if (id != ("super" : Str) || name == "__class__" || env.kindOf "super" != some .globalImplicit || env.kindOf "__class__" != some .free) = true then whole else _) = whole
          rw [h', Bool.true_or, Bool.true_or, Bool.true_or, if_pos rfl]
        | cons _ _ => rfl
      | cons _ _ => rfl
    | _ => rfl
  | _ => rfl
/-- an IfExp as a test -/
theorem pt_ite {X : Cx} {c a b : Expr} {pos : Pos} {tc ta tb : TT} (hc : PT X c tc) (ha : PT X a ta) (hb : PT X b tb) : PT X (.IfExp c a b pos) (fun σ H Q => tc σ H fun k H1 => if k = true then ta σ H1 Q else tb σ H1 Q) := by
  refine ⟨fun pins s σ H Q I h => ?_⟩
  show wpAny _ _ (do if ← isTrue c X.env (eval c X.env) then isTrue a X.env (eval a X.env) else isTrue b X.env (eval b X.env)) _ _ _
  refine wpAny_bind (thn (hc.run pins s σ H _ I h) fun k s1 ⟨H1, I1, q1⟩ => ?_)
  cases k with
  | true =>
    simp only [if_true] at q1 ⊢
    exact ha.run pins s1 σ H1 Q I1 q1
  | false =>
    simp only [Bool.false_eq_true, if_false] at q1 ⊢
    exact hb.run pins s1 σ H1 Q I1 q1

/-! ### names -/
def vis (sc : Scope) (x : Str) : Bool := match sc.names.lookup x with
  | some .local => true
  | some .cell => true
  | some .free => true
  | _ => false
theorem vis_ok {sc : Scope} {x : Str} (h : vis sc x = true) : Vis sc x := by
  unfold vis at h
  unfold Vis
  split at h
  · exact .inl (by assumption)
  · exact .inr (.inl (by assumption))
  · exact .inr (.inr (by assumption))
  · cases h
def okVar (c : Ctx) (i : Nat) (x : Str) : Bool := decide (c.N[i]? = some x) && vis c.sc x && !(x == ("__debug__" : Str)) && !(x == ("__classdict__" : Str))
def okGl (c : Ctx) (x : Str) : Bool := decide (c.sc.names.lookup x = some .globalImplicit) && !(x == ("__debug__" : Str))
def okLoc (c : Ctx) (i : Nat) (x : Str) : Bool := decide (c.N[i]? = some x) && (match c.sc.names.lookup x with
  | some .local => true
  | some .cell => c.fnk x
  | _ => false)
def okBl (c : Ctx) (x : Str) : Bool := okGl c x && decide (x ∈ c.bl)
section
variable {X : Cx} {c : Ctx} {cl : List Addr} {cf : CF} {gs : List T} {k : Nat}
theorem Amb.gl (A : Amb X c cl cf gs k) {x : Str} (h : okGl c x = true) : Gl X x ∧ (x == ("__debug__" : Str)) = false := by
  unfold okGl at h
  rw [Bool.and_eq_true, decide_eq_true_eq, Bool.not_eq_true'] at h
  refine ⟨?_, h.2⟩
  show X.env.scope.names.lookup x = _
  rw [A.hsc]
  exact h.1
theorem Amb.blt (A : Amb X c cl cf gs k) {x : Str} (h : okBl c x = true) : Gl X x ∧ (x == ("__debug__" : Str)) = false ∧ X.mg x = none := by
  unfold okBl at h
  rw [Bool.and_eq_true, decide_eq_true_eq] at h
  obtain ⟨h1, h2⟩ := A.gl h.1
  exact ⟨h1, h2, A.bl x h.2⟩
theorem Amb.loc (A : Amb X c cl cf gs k) {i : Nat} {x : Str} (h : okLoc c i x = true) : X.N[i]? = some x ∧ Loc X.env.scope x ∧ (X.fn x = true ∨ X.env.scope.names.lookup x = some .local) := by
  unfold okLoc at h
  rw [Bool.and_eq_true, decide_eq_true_eq] at h
  rw [A.hN, A.hsc]
  refine ⟨h.1, ?_⟩
  have h2 := h.2
  split at h2
  · exact ⟨.inl (by assumption), .inr (by assumption)⟩
  · exact ⟨.inr (by assumption), .inl (A.fn x h2)⟩
  · cases h2
end
def bltName : Blt → Str
  | .len => "len" | .abs => "abs" | .min2 => "min" | .max2 => "max" | .int1 => "int" | .all1 => "all" | .any1 => "any" | .sum1 => "sum" | .str1 => "str" | .tup1 => "tuple" | .lst1 => "list"
theorem blt_boot (o : Blt) : bootBuiltins (bltName o) = some o.val ∧ bltName o ≠ "__name__" ∧ (bltName o == ("__debug__" : Str)) = false := by
  cases o <;> decide +kernel

/-! ### the matching -/
def emptyEs : Es → Bool
  | .nil => true
  | _ => false
def Ctx.blk (c : Ctx) (scope : Scope) : Ctx := { c with sc := relS scope c.sc, fs := some scope.names }
def ownOf (c : Ctx) (vs : List Nat) : List (Str × Nat) := vs.map fun i => (c.N[i]?.getD "", i)
def mC (v : T) (k : Const) : Bool := match v, k with
  | .int i, .int j => decide (i = j)
  | .bool i, .bool j => decide (i = j)
  | .str i, .str j => decide (i = j)
  | .none, .none => true
  | _, _ => false
mutual
def mE : E → Ctx → Bool → Expr → Bool
  | .v i, c, _, e => match e with
    | .Name x _ => okVar c i x
    | _ => false
  | .c v, _, _, e => match e with
    | .Constant k _ _ => mC v k
    | _ => false
  | .g j, c, _, e => match e with
    | .Name x _ => okGl c x && decide (c.gls[j]? = some x)
    | _ => false
  | .tup xs, c, _, e => match e with
    | .Tuple es _ _ => mEs xs c es
    | _ => false
  | .lst _ xs, c, _, e => match e with
    | .List es _ => mEs xs c es
    | _ => false
  | .bin op a b, c, _, e => match e with
    | .BinOp x o y _ => decide (op = o) && mE a c false x && mE b c false y
    | _ => false
  | .neg a, c, _, e => match e with
    | .UnaryOp .USub x _ => mE a c false x
    | _ => false
  | .cmp op a b, c, _, e => match e with
    | .Compare x [o] [y] _ => decide (op = o) && mE a c false x && mE b c false y && !behindInMarks op y
    | _ => false
  | .chain p q a b d, c, _, e => match e with
    | .Compare x [o, o'] [y, z] _ => decide (p = o) && decide (q = o') && mE a c false x && mE b c false y && mE d c false z && !lastMarks [p, q] [y, z]
    | _ => false
  | .and xs, c, t, e => match e with
    | .BoolOp .And es _ => mBo xs c t es
    | _ => false
  | .or xs, c, t, e => match e with
    | .BoolOp .Or es _ => mBo xs c t es
    | _ => false
  | .not a, c, t, e => match e with
    | .UnaryOp .Not x _ => mE a c t x
    | _ => false
  | .ite d a b, c, t, e => match e with
    | .IfExp z x y _ => mE d c true z && mE a c t x && mE b c t y
    | _ => false
  | .idx a i, c, _, e => match e with
    | .Subscript x y _ => mE a c false x && mE i c false y && !isSlice y
    | _ => false
  | .slc a lo hi, c, _, e => match e with
    | .Subscript x (.Slice l h none _) _ => mE a c false x && mOE lo c l && mOE hi c h
    | _ => false
  | .call f xs ks pm, c, _, e => match e with
    | .Call (.Name x _) es [] _ => okGl c x && decide (c.fns[f]?.map (·.1) = some x) && mEs xs c es && emptyEs ks && pm.isEmpty
    | _ => false
  | .blt o xs, c, _, e => match e with
    | .Call (.Name x _) es [] _ => decide (x = bltName o) && okBl c x && mEs xs c es && !es.isEmpty
    | _ => false
  | .isi a ty, c, _, e => match e with
    | .Call (.Name f _) [x, .Name y _] [] _ => decide (f = "isinstance") && decide (y = Str.ofString ty) && decide (ty ∈ ["int", "bool", "str", "tuple", "list"]) && okBl c f && okBl c y && mE a c false x && !starred x
    | _ => false
  | .comp _ tg i cs e', c, t, e => match e with
    | .ListComp elt [⟨tgE, iter, ifs, 0⟩] scope _ => !isSet iter && blkC c.N c.sc scope (ownOf c tg.slots) && mWk i c tgE iter && mTg tg (c.blk scope) tgE && mTs cs (c.blk scope) ifs && mE e' (c.blk scope) false elt
    | _ => false
  | .frz a, c, t, e => !t && mE a c false e
  | .back a, c, _, e => match e with
    | .Subscript x (.Slice none none (some st) _) _ => mE a c false x && isBack st
    | _ => false
  | .dead, _, _, _ => true
  | .lzip a b, c, _, e => match e with
    | .Call (.Name f _) [.Call (.Name g _) [x, y] [] _] [] _ => decide (f = "list") && decide (g = "zip") && okBl c f && okBl c g && mE a c false x && !starred x && mE b c false y && !starred y
    | _ => false
  | .srt a, c, _, e => match e with
    | .Call (.Name f _) [x] [] _ => decide (f = "sorted") && okBl c f && mE a c false x && !starred x
    | _ => false
  | .pop o, c, _, e => match e with
    | .Call (.Attribute x f ap) [] [] p => decide (f = "pop") && mE o c false x && baseOk x && (ap.endLine == p.line)
    | _ => false
  | .dct _ xs, c, _, e => match e with
    | .Dict keys values _ => keys.all (·.isSome) && decide (keys.length = values.length) && !keys.isEmpty && decide (keys.length ≤ 15) && mPs xs c keys values
    | _ => false
  | .get1 o k, c, _, e => match e with
    | .Call (.Attribute x f ap) [y] [] p => decide (f = "get") && mE o c false x && mE k c false y && !starred y && baseOk x && (ap.endLine == p.line)
    | _ => false
  | .get2 o k d, c, _, e => match e with
    | .Call (.Attribute x f ap) [y, z] [] p => decide (f = "get") && mE o c false x && mE k c false y && !starred y && mE d c false z && !starred z && baseOk x && (ap.endLine == p.line)
    | _ => false
  | .comp2 _ tg i cs tg' i' cs' e', c, _, e => match e with
    | .ListComp elt [⟨tgE, iter, ifs, 0⟩, ⟨tgE', iter', ifs', 0⟩] scope _ => !isSet iter && !isSet iter' && blkC c.N c.sc scope (ownOf c (tg.slots ++ tg'.slots)) && mWk i c tgE iter && mTg tg (c.blk scope) tgE && mTs cs (c.blk scope) ifs &&
        mWk i' (c.blk scope) tgE' iter' && mTg tg' (c.blk scope) tgE' && mTs cs' (c.blk scope) ifs' && mE e' (c.blk scope) false elt
    | _ => false
  | .mth m o xs, c, _, e => match e with
    | .Call (.Attribute x f ap) es [] p => decide (f = m.name) && mE o c false x && mEs xs c es && baseOk x && (ap.endLine == p.line) && decide (es.length ≤ 1)
    | _ => false
def mEs : Es → Ctx → List Expr → Bool
  | .nil, _, es => match es with
    | [] => true
    | _ => false
  | .cons a r, c, es => match es with
    | x :: xs => mE a c false x && !starred x && mEs r c xs
    | _ => false
def mPs : Es → Ctx → List (Option Expr) → List Expr → Bool
  | .nil, _, ks, vs => ks.isEmpty && vs.isEmpty
  | .cons _ .nil, _, _, _ => false
  | .cons a (.cons d r), c, ks, vs => match ks, vs with
    | some x :: ks, y :: vs => mE a c false x && mE d c false y && mPs r c ks vs
    | _, _ => false
def mBo : Es → Ctx → Bool → List Expr → Bool
  | .nil, _, _, _ => false
  | .cons a r, c, t, es => match es with
    | [] => false
    | x :: xs => mE a c t x && (match r with
      | .nil => xs.isEmpty
      | .cons _ _ => mBo r c t xs)
def mTs : Es → Ctx → List Expr → Bool
  | .nil, _, es => es.isEmpty
  | .cons a r, c, es => match es with
    | [x] => mE a c true x && emptyEs r
    | _ => false
def mOE : OE → Ctx → Option Expr → Bool
  | .no, _, e => e.isNone
  | .yes a, c, e => match e with
    | some x => mE a c false x
    | none => false
def mWk : Wk → Ctx → Expr → Expr → Bool
  | .seq a, c, _, e => mE a c false e
  | .rng1 a, c, _, e => match e with
    | .Call (.Name f _) [x] [] _ => decide (f = "range") && okBl c f && mE a c false x && !starred x
    | _ => false
  | .rng2 a b, c, _, e => match e with
    | .Call (.Name f _) [x, y] [] _ => decide (f = "range") && okBl c f && mE a c false x && !starred x && mE b c false y && !starred y
    | _ => false
  | .zip a b, c, tg, e => match e with
    | .Call (.Name f _) [x, y] [] _ => decide (f = "zip") && okBl c f && mE a c false x && !starred x && mE b c false y && !starred y && (match tg with
      | .Tuple _ _ _ => true
      | _ => false)
    | _ => false
  | .enum a, c, tg, e => match e with
    | .Call (.Name f _) [x] [] _ => decide (f = "enumerate") && okBl c f && mE a c false x && !starred x && (match tg with
      | .Tuple _ _ _ => true
      | _ => false)
    | _ => false
def mTg : Tg → Ctx → Expr → Bool
  | .v i, c, e => match e with
    | .Name x _ => okLoc c i x
    | _ => false
  | .tup ts, c, e => match e with
    | .Tuple es _ _ => mTgs ts c es
    | _ => false
  | .idx o i, c, e => match e with
    | .Subscript x y _ => mE o c false x && mE i c false y && !isSlice y
    | _ => false
def mTgs : Tgs → Ctx → List Expr → Bool
  | .nil, _, es => es.isEmpty
  | .cons a r, c, es => match es with
    | x :: xs => mTg a c x && !starred x && mTgs r c xs
    | _ => false
end
end Den

set_option maxHeartbeats 4000000
/-! Den, part 10: expressions that match mean what the small language computes. -/
namespace Den
open PySem PySem.Spec PyProof.Rows L2
section
variable {cl : List Addr} {bs : List Nat} {cf : CF} {gs : List T} {b k : Nat}
theorem and3 {p q r : Bool} (h : (p && q && r) = true) : p = true ∧ q = true ∧ r = true := by
  rw [Bool.and_eq_true, Bool.and_eq_true] at h
  exact ⟨h.1.1, h.1.2, h.2⟩
theorem nt {p : Bool} (h : (!p) = true) : p = false := by cases p <;> first | rfl | cases h
theorem both {X : Cx} {W : WX} {e : Expr} {t : Bool} {ev : Sl → Store → Res D} (h : PE X e (RdE cl X.K bs W ev)) (hp : plainTest e = true) :
    (t = false → PE X e (RdE cl X.K bs W ev)) ∧ (t = true → PT X e (RdT cl X.K bs W fun ds S => (ev ds S).bind tr)) := ⟨fun _ => h, fun _ => dt_of h (plainTest_ok hp)⟩
theorem dt_ite {X : Cx} {W : WX} {c a b : Expr} {pos : Pos} {eva evb evc : Sl → Store → Res D} (hc : PT X c (RdT cl X.K bs W fun ds S => (evc ds S).bind tr)) (ha : PT X a (RdT cl X.K bs W fun ds S => (eva ds S).bind tr)) (hb : PT X b (RdT cl X.K bs W fun ds S => (evb ds S).bind tr)) :
    PT X (.IfExp c a b pos) (RdT cl X.K bs W fun ds S => ((evc ds S).bind fun u S => (lift (truthD S u) S).bind fun k S => if k = true then eva ds S else evb ds S).bind tr) :=
  pt_den (pt_ite hc ha hb) fun σ H Q g ds S m ss p => ⟨g, ds, S, m, ss, by
    have e : ((evc ds S).bind fun u S => (lift (truthD S u) S).bind fun k S => if k = true then eva ds S else evb ds S).bind tr = ((evc ds S).bind tr).bind fun k S => if k = true then (eva ds S).bind tr else (evb ds S).bind tr := by
      cases evc ds S with
      | ok u S =>
        simp only [Res.bind_ok, tr]
        cases h : truthD S u with
        | none => rfl
        | some k => cases k <;> simp [tr]
      | exc _ _ _ => rfl
      | bad => rfl
    rw [e] at p
    exact (Post.step p).imp fun y H1 ⟨g1, k, S1, l1, m1, e1, p1⟩ => by
      subst e1
      cases y with
      | true => exact ⟨g1, ds, S1, m1, ss.mono l1, p1⟩
      | false => exact ⟨g1, ds, S1, m1, ss.mono l1, p1⟩⟩
theorem own_map {c : Ctx} {vs : List Nat} : (ownOf c vs).map (·.2) = vs := by
  unfold ownOf
  rw [List.map_map]
  exact List.map_id vs
theorem Amb.block {X : Cx} {c : Ctx} (A : Amb X c cl cf gs k) {scope : Scope} (hk : scope.kind = .function) (s : Shared) (H : Hp) (C : Addr) (cl' : List (Str × Addr)) (fp : List Addr) :
    Amb (X.blk s H scope (compEnvC scope cl' C X.env) fp) (c.blk scope) cl cf gs k where
  hN := A.hN
  nd := A.nd
  hsc := by
    show relS scope X.env.scope = relS scope c.sc
    rw [A.hsc]
  kind := hk
  calm := A.calm
  room := A.room
  fn := fun x h => h
  fns := fun i x np h => ⟨(A.fns i x np h).ex, (A.fns i x np h).len⟩
  gls := A.gls
  bl := A.bl
theorem Amb.hu {X : Cx} {c : Ctx} (A : Amb X c cl cf gs k) : X.A.units + 200 < cLine := by have := A.room.un; omega
theorem Amb.hu1 {X : Cx} {c : Ctx} (A : Amb X c cl cf gs k) : X.A.units + 1 < cLine := by have := A.room.un; omega
def Tgs.len : Tgs → Nat
  | .nil => 0
  | .cons _ r => Tgs.len r + 1
theorem evTgs_len : ∀ (ts : Tgs) (us : List D) (ds : Sl) (S : Store) (ds' : Sl) (S' : Store), evTgs cf gs b ts us ds S = .ok ds' S' → us.length = ts.len
  | .nil, [], _, _, _, _, _ => rfl
  | .nil, _ :: _, ds, S, _, _, h => by unfold evTgs at h; cases h
  | .cons t r, [], ds, S, _, _, h => by unfold evTgs at h; cases h
  | .cons t r, d :: us, ds, S, ds', S', h => by
    rw [evTgs] at h
    cases h1 : evTg cf gs b t d ds S with
    | exc _ _ _ => rw [h1] at h; cases h
    | bad => rw [h1] at h; cases h
    | ok d1 S1 =>
      rw [h1] at h
      have := evTgs_len r us d1 S1 ds' S' h
      simp [Tgs.len, this]
theorem evE_call0 (f : Nat) (xs : Es) : evE cf gs b (.call f xs .nil []) = fun ds S => (evEs cf gs b xs ds S).bind fun as S => cf f b as S := by
  funext ds S
  rw [evE]
  congr 1
  funext as S
  rw [evEs]
  simp [permL]
theorem evEs_one (a : E) : evEs cf gs b (.cons a .nil) = fun ds S => (evE cf gs b a ds S).bind fun v S => .ok [v] S := by
  funext ds S
  rw [evEs]
  congr 1 <;> (funext u S; rw [evEs] <;> rfl)
theorem evE_mth1 (m : Mth) (o a : E) : evE cf gs b (.mth m o (.cons a .nil)) = fun ds S => (evE cf gs b o ds S).bind fun u S => if isStrD u = true then ((evE cf gs b a ds S).bind fun v S => .ok [v] S).bind fun as S => lift (mthD m S u as) S else .bad := by
  funext ds S
  rw [evE, evEs_one]
theorem evE_mth0 (m : Mth) (o : E) : evE cf gs b (.mth m o .nil) = fun ds S => (evE cf gs b o ds S).bind fun u S => if isStrD u = true then lift (mthD m S u []) S else .bad := by
  funext ds S
  rw [evE]
  congr 1 <;> (funext u S; rw [evEs] <;> rfl)
theorem blk_kind {N : List Str} {sc scope : Scope} {own : List (Str × Nat)} (h : blkC N sc scope own = true) : scope.kind = .function := (blkOk_by h).kind

variable (hb : ∀ c ∈ bs, c ≤ b)
include hb
mutual
theorem mE_ok : ∀ (ir : E) (c : Ctx) (t : Bool) (e : Expr) (X : Cx) (W : WX), Amb X c cl cf gs k → Takes X W → mE ir c t e = true →
    (t = false → PE X e (RdE cl X.K bs W (evE cf gs b ir))) ∧ (t = true → PT X e (RdT cl X.K bs W fun ds S => (evE cf gs b ir ds S).bind tr))
  | .v i, c, t, e, X, W, A, tk, h => by
    unfold mE at h
    split at h
    · rename_i x p
      unfold okVar at h
      simp only [Bool.and_eq_true, decide_eq_true_eq, Bool.not_eq_true'] at h
      obtain ⟨⟨⟨h1, h2⟩, h3⟩, h4⟩ := h
      exact both (de_var (by rw [A.hN]; exact h1) (by rw [A.hsc]; exact vis_ok h2) h3 h4) rfl
    · cases h
  | .c v, c, t, e, X, W, A, tk, h => by
    unfold mE at h
    split at h
    · rename_i q n p
      unfold mC at h
      split at h
      · rw [decide_eq_true_eq] at h; subst h; exact both de_int rfl
      · rw [decide_eq_true_eq] at h; subst h; exact both de_bl rfl
      · rw [decide_eq_true_eq] at h; subst h; exact both de_str rfl
      · exact both de_non rfl
      · cases h
    · cases h
  | .g j, c, t, e, X, W, A, tk, h => by
    unfold mE at h
    split at h
    · rename_i x p
      rw [Bool.and_eq_true, decide_eq_true_eq] at h
      obtain ⟨h1, h2⟩ := A.gl h.1
      refine both ?_ rfl
      cases hj : gs[j]? with
      | none =>
        refine ⟨fun pins s σ H Q I ⟨g, ds, S, m, ss, p⟩ => ?_⟩
        rw [evE, hj] at p
        exact p.elim
      | some y =>
        obtain ⟨u, v, h3, h4, h5⟩ := A.gls j x y h.2 hj
        have := de_glob (cl := cl) (bs := bs) (W := W) (pos := p) h1 h3 h4 h5 h2
        have e : evE cf gs b (.g j) = fun _ S => .ok (kD y) S := by
          funext ds S
          rw [evE, hj]
        rw [e]
        exact this
    · cases h
  | .tup xs, c, t, e, X, W, A, tk, h => by
    unfold mE at h
    split at h
    · exact both (de_tup (mEs_ok xs c _ X W A tk h).1) rfl
    · cases h
  | .lst m xs, c, t, e, X, W, A, tk, h => by
    unfold mE at h
    split at h
    · exact both (de_lst (mEs_ok xs c _ X W A tk h).1) rfl
    · cases h
  | .bin op x y, c, t, e, X, W, A, tk, h => by
    unfold mE at h
    split at h
    · obtain ⟨h1, h2, h3⟩ := and3 h
      rw [decide_eq_true_eq] at h1
      subst h1
      exact both (de_bin ((mE_ok x c false _ X W A tk h2).1 rfl) ((mE_ok y c false _ X W A tk h3).1 rfl)) rfl
    · cases h
  | .neg x, c, t, e, X, W, A, tk, h => by
    unfold mE at h
    split at h
    · exact both (de_neg ((mE_ok x c false _ X W A tk h).1 rfl)) rfl
    · cases h
  | .cmp op x y, c, t, e, X, W, A, tk, h => by
    unfold mE at h
    split at h
    · rw [Bool.and_eq_true] at h
      obtain ⟨h0, h4⟩ := h
      obtain ⟨h1, h2, h3⟩ := and3 h0
      rw [decide_eq_true_eq] at h1
      subst h1
      exact ⟨fun _ => de_cmp A.hu ((mE_ok x c false _ X W A tk h2).1 rfl) ((mE_ok y c false _ X W A tk h3).1 rfl) (nt h4),
        fun _ => dt_cmp A.hu ((mE_ok x c false _ X W A tk h2).1 rfl) ((mE_ok y c false _ X W A tk h3).1 rfl) (nt h4)⟩
    · cases h
  | .chain p q x y z, c, t, e, X, W, A, tk, h => by
    unfold mE at h
    split at h
    · simp only [Bool.and_eq_true, decide_eq_true_eq] at h
      obtain ⟨⟨⟨⟨⟨h1, h2⟩, h3⟩, h4⟩, h5⟩, h6⟩ := h
      subst h1 h2
      exact ⟨fun _ => de_chain A.hu ((mE_ok x c false _ X W A tk h3).1 rfl) ((mE_ok y c false _ X W A tk h4).1 rfl) ((mE_ok z c false _ X W A tk h5).1 rfl) (nt h6),
        fun _ => dt_chain A.hu ((mE_ok x c false _ X W A tk h3).1 rfl) ((mE_ok y c false _ X W A tk h4).1 rfl) ((mE_ok z c false _ X W A tk h5).1 rfl) (nt h6)⟩
    · cases h
  | .and xs, c, t, e, X, W, A, tk, h => by
    unfold mE at h
    split at h
    · rename_i es pos
      have := mAnd_ok xs c t es pos X W A tk h
      exact ⟨this.1, fun z => (this.2 z).pt⟩
    · cases h
  | .or xs, c, t, e, X, W, A, tk, h => by
    unfold mE at h
    split at h
    · rename_i es pos
      have := mOr_ok xs c t es pos X W A tk h
      exact ⟨this.1, fun z => (this.2 z).pt⟩
    · cases h
  | .not x, c, t, e, X, W, A, tk, h => by
    unfold mE at h
    split at h
    · have := mE_ok x c t _ X W A tk h
      exact ⟨fun z => de_not (this.1 z), fun z => dt_not (this.2 z)⟩
    · cases h
  | .ite d x y, c, t, e, X, W, A, tk, h => by
    unfold mE at h
    split at h
    · obtain ⟨h1, h2, h3⟩ := and3 h
      have e1 := (mE_ok d c true _ X W A tk h1).2 rfl
      have e2 := mE_ok x c t _ X W A tk h2
      have e3 := mE_ok y c t _ X W A tk h3
      exact ⟨fun z => de_ite e1 (e2.1 z) (e3.1 z), fun z => dt_ite e1 (e2.2 z) (e3.2 z)⟩
    · cases h
  | .idx x i, c, t, e, X, W, A, tk, h => by
    unfold mE at h
    split at h
    · obtain ⟨h1, h2, h3⟩ := and3 h
      exact both (de_idx A.hu1 ((mE_ok x c false _ X W A tk h1).1 rfl) ((mE_ok i c false _ X W A tk h2).1 rfl) (plainIx (nt h3))) rfl
    · cases h
  | .slc x lo hi, c, t, e, X, W, A, tk, h => by
    unfold mE at h
    split at h
    · obtain ⟨h1, h2, h3⟩ := and3 h
      exact both (de_slc ((mE_ok x c false _ X W A tk h1).1 rfl) (mOE_ok lo c _ X W A tk h2) (mOE_ok hi c _ X W A tk h3)) rfl
    · cases h
  | .call f xs ks pm, c, t, e, X, W, A, tk, h => by
    unfold mE at h
    split at h
    · rename_i x p es p2
      rw [Bool.and_eq_true, Bool.and_eq_true] at h
      obtain ⟨⟨h0, hk⟩, hp⟩ := h
      obtain ⟨h1, h2, h3⟩ := and3 h0
      obtain ⟨g1, g2⟩ := A.gl h1
      rw [decide_eq_true_eq] at h2
      cases ks with
      | cons _ _ => cases hk
      | nil =>
        cases pm with
        | cons _ _ => cases hp
        | nil =>
          cases hf : c.fns[f]? with
          | none => rw [hf] at h2; cases h2
          | some q =>
            obtain ⟨y, np⟩ := q
            rw [hf] at h2
            cases h2
            have F := A.fns f _ np hf
            rw [evE_call0]
            obtain ⟨ha, hst⟩ := mEs_ok xs c es X W A tk h3
            refine both ?_ rfl
            cases es with
            | nil =>
              cases xs with
              | nil => exact de_call0 (e := .Constant .none 0 p) F A.room g1 tk hb g2
              | cons _ _ => unfold mEs at h3; cases h3
            | cons a es =>
              rw [List.any_cons, Bool.or_eq_false_iff] at hst
              exact de_call F A.room g1 tk hb ha g2 (star_cons hst.1) (star_plain hst.2)
    · cases h
  | .blt o xs, c, t, e, X, W, A, tk, h => by
    unfold mE at h
    split at h
    · rename_i x p es p2
      rw [Bool.and_eq_true] at h
      obtain ⟨h0, hn⟩ := h
      obtain ⟨h1, h2, h3⟩ := and3 h0
      rw [decide_eq_true_eq] at h1
      subst h1
      obtain ⟨g1, g2, g3⟩ := A.blt h2
      obtain ⟨ha, hst⟩ := mEs_ok xs c es X W A tk h3
      obtain ⟨b1, b2, b3⟩ := blt_boot o
      refine both ?_ rfl
      cases es with
      | nil => cases hn
      | cons a es =>
        rw [List.any_cons, Bool.or_eq_false_iff] at hst
        exact de_blt A.calm g1 g3 b1 ha b2 b3 (star_cons hst.1) (star_plain hst.2)
    · cases h
  | .isi a ty, c, t, e, X, W, A, tk, h => by
    unfold mE at h
    split at h
    · simp only [Bool.and_eq_true, decide_eq_true_eq] at h
      obtain ⟨⟨⟨⟨⟨⟨h1, h2⟩, h3⟩, h4⟩, h5⟩, h6⟩, h7⟩ := h
      subst h1 h2
      obtain ⟨g1, g2, g3⟩ := A.blt h4
      obtain ⟨k1, k2, k3⟩ := A.blt h5
      exact both (de_isi h3 g1 g3 k1 k3 ((mE_ok a c false _ X W A tk h6).1 rfl) (star_cons (nt h7))) rfl
    · cases h
  | .comp m tg i cs e', c, t, e, X, W, A, tk, h => by
    unfold mE at h
    split at h
    · rename_i elt tgE iter ifs scope p
      rw [Bool.and_eq_true, Bool.and_eq_true, Bool.and_eq_true] at h
      obtain ⟨⟨⟨h0, h4⟩, h5⟩, h6⟩ := h
      obtain ⟨h1, h2, h3⟩ := and3 h0
      have kd := blk_kind h2
      refine both ?_ rfl
      have bo : BlkOk X.N X.env.scope scope (ownOf c tg.slots) := by
        rw [A.hN, A.hsc]
        exact blkOk_by h2
      have key := de_comp (cl := cl) (bs := bs) (W := W) (mb := m) (elt := elt) (pos := p) A.calm A.nd (mWk_ok i c tgE iter X W A tk h3) bo
        (fun s H C cl' fp => by rw [own_map]; exact mTg_ok tg (c.blk scope) tgE _ W0 (A.block kd s H C cl' fp) takes0 h4)
        (fun s H C cl' fp => mTs_ok cs (c.blk scope) ifs _ W0 (A.block kd s H C cl' fp) takes0 h5)
        (fun s H C cl' fp => (mE_ok e' (c.blk scope) false elt _ W0 (A.block kd s H C cl' fp) takes0 h6).1 rfl) (noFold (nt h1))
      rw [own_map] at key
      exact key
    · cases h
  | .frz x, c, t, e, X, W, A, tk, h => by
    unfold mE at h
    rw [Bool.and_eq_true] at h
    have h1 := nt h.1
    refine ⟨fun _ => de_frz ((mE_ok x c false e X W A tk h.2).1 rfl), fun z => ?_⟩
    rw [h1] at z
    cases z
  | .back x, c, t, e, X, W, A, tk, h => by
    unfold mE at h
    split at h
    · rw [Bool.and_eq_true] at h
      exact both (de_back ((mE_ok x c false _ X W A tk h.1).1 rfl) (isBack_ok h.2)) rfl
    · cases h
  | .dead, c, t, e, X, W, A, tk, h => by
    refine ⟨fun _ => ⟨fun pins s σ H Q I ⟨g, ds, S, m, ss, p⟩ => ?_⟩, fun _ => ⟨fun pins s σ H Q I ⟨g, ds, S, m, ss, p⟩ => ?_⟩⟩
    · have e : evE cf gs b .dead ds S = .bad := by rw [evE]
      rw [e] at p; exact p.elim
    · have e : evE cf gs b .dead ds S = .bad := by rw [evE]
      have p : Post cl X.K bs g _ _ ((evE cf gs b .dead ds S).bind tr) Q := p
      rw [e] at p; exact p.elim
  | .lzip x y, c, t, e, X, W, A, tk, h => by
    unfold mE at h
    split at h
    · simp only [Bool.and_eq_true, decide_eq_true_eq] at h
      obtain ⟨⟨⟨⟨⟨⟨⟨h1, h2⟩, h3⟩, h4⟩, h5⟩, h6⟩, h7⟩, h8⟩ := h
      subst h1 h2
      obtain ⟨g1, g2, g3⟩ := A.blt h3
      obtain ⟨k1, k2, k3⟩ := A.blt h4
      exact both (de_lzip A.calm g1 g3 k1 k3 ((mE_ok x c false _ X W A tk h5).1 rfl) ((mE_ok y c false _ X W A tk h7).1 rfl) (star_cons (nt h6)) (star_cons (nt h8)) (star_plain (by rw [List.any_cons, nt h8]; rfl))) rfl
    · cases h
  | .srt x, c, t, e, X, W, A, tk, h => by
    unfold mE at h
    split at h
    · simp only [Bool.and_eq_true, decide_eq_true_eq] at h
      obtain ⟨⟨⟨h1, h2⟩, h3⟩, h4⟩ := h
      subst h1
      obtain ⟨g1, g2, g3⟩ := A.blt h2
      exact both (de_srt A.hu g1 g3 ((mE_ok x c false _ X W A tk h3).1 rfl) (star_cons (nt h4))) rfl
    · cases h
  | .pop o, c, t, e, X, W, A, tk, h => by
    unfold mE at h
    split at h
    · simp only [Bool.and_eq_true, decide_eq_true_eq] at h
      obtain ⟨⟨⟨h1, h2⟩, h3⟩, h4⟩ := h
      subst h1
      exact both (de_pop hb ((mE_ok o c false _ X W A tk h2).1 rfl) (base_ok h3) h4) rfl
    · cases h
  | .dct m xs, c, t, e, X, W, A, tk, h => by
    unfold mE at h
    split at h
    · rename_i keys values p
      simp only [Bool.and_eq_true, decide_eq_true_eq] at h
      obtain ⟨⟨⟨⟨h1, h2⟩, h3⟩, h4⟩, h5⟩ := h
      obtain ⟨trs, k1, k2⟩ := mPs_ok xs c keys values p X W A tk h5
      refine both (de_dct k1 k2 h1 h2 (fun z => ?_) h4) rfl
      rw [z] at h3
      cases h3
    · cases h
  | .get1 o x, c, t, e, X, W, A, tk, h => by
    unfold mE at h
    split at h
    · simp only [Bool.and_eq_true, decide_eq_true_eq] at h
      obtain ⟨⟨⟨⟨⟨h1, h2⟩, h3⟩, h4⟩, h5⟩, h6⟩ := h
      subst h1
      exact both (de_get1 A.hu1 ((mE_ok o c false _ X W A tk h2).1 rfl) ((mE_ok x c false _ X W A tk h3).1 rfl) (base_ok h5) h6 (star_cons (nt h4))) rfl
    · cases h
  | .get2 o x y, c, t, e, X, W, A, tk, h => by
    unfold mE at h
    split at h
    · simp only [Bool.and_eq_true, decide_eq_true_eq] at h
      obtain ⟨⟨⟨⟨⟨⟨⟨h1, h2⟩, h3⟩, h4⟩, h5⟩, h6⟩, h7⟩, h8⟩ := h
      subst h1
      exact both (de_get2 A.hu1 ((mE_ok o c false _ X W A tk h2).1 rfl) ((mE_ok x c false _ X W A tk h3).1 rfl) ((mE_ok y c false _ X W A tk h5).1 rfl) (base_ok h7) h8 (by rw [star_cons (nt h4), star_cons (nt h6)]; rfl)) rfl
    · cases h
  | .comp2 m tg i cs tg' i' cs' e', c, t, e, X, W, A, tk, h => by
    unfold mE at h
    split at h
    · rename_i elt tgE iter ifs tgE' iter' ifs' scope p
      simp only [Bool.and_eq_true] at h
      obtain ⟨⟨⟨⟨⟨⟨⟨⟨⟨h1, h2⟩, h3⟩, h4⟩, h5⟩, h6⟩, h7⟩, h8⟩, h9⟩, h10⟩ := h
      have kd := blk_kind h3
      refine both ?_ rfl
      have bo : BlkOk X.N X.env.scope scope (ownOf c (tg.slots ++ tg'.slots)) := by
        rw [A.hN, A.hsc]
        exact blkOk_by h3
      have key := de_comp2 (cl := cl) (bs := bs) (W := W) (mb := m) (elt := elt) (pos := p) (vs1 := tg'.slots) A.calm A.nd (mWk_ok i c tgE iter X W A tk h4) bo (fun j hj => by rw [own_map]; exact List.mem_append_right _ hj)
        (fun s H C cl' fp => by rw [own_map]; exact pg_more (mTg_ok tg (c.blk scope) tgE _ W0 (A.block kd s H C cl' fp) takes0 h5) fun j hj => List.mem_append_left _ hj)
        (fun s H C cl' fp => mTs_ok cs (c.blk scope) ifs _ W0 (A.block kd s H C cl' fp) takes0 h6)
        (fun s H C cl' fp => (mE_ok e' (c.blk scope) false elt _ W0 (A.block kd s H C cl' fp) takes0 h10).1 rfl) (noFold (nt h1))
        (fun s H C cl' fp => mWk_ok i' (c.blk scope) tgE' iter' _ W0 (A.block kd s H C cl' fp) takes0 h7)
        (fun s H C cl' fp => mTg_ok tg' (c.blk scope) tgE' _ W0 (A.block kd s H C cl' fp) takes0 h8)
        (fun s H C cl' fp => mTs_ok cs' (c.blk scope) ifs' _ W0 (A.block kd s H C cl' fp) takes0 h9) (fun env => noFold (nt h2))
      rw [own_map] at key
      exact key
    · cases h
  | .mth m o xs, c, t, e, X, W, A, tk, h => by
    unfold mE at h
    split at h
    · rename_i x f ap es p
      simp only [Bool.and_eq_true, decide_eq_true_eq] at h
      obtain ⟨⟨⟨⟨⟨h1, h2⟩, h3⟩, h4⟩, h5⟩, h6⟩ := h
      subst h1
      refine both ?_ rfl
      cases es with
      | nil =>
        cases xs with
        | nil =>
          rw [evE_mth0]
          exact de_mth0 ((mE_ok o c false _ X W A tk h2).1 rfl) (base_ok h4) h5
        | cons _ _ => unfold mEs at h3; cases h3
      | cons y ys =>
        cases ys with
        | cons _ _ => simp at h6
        | nil =>
          cases xs with
          | nil => unfold mEs at h3; cases h3
          | cons a r =>
            cases r with
            | cons _ _ =>
              unfold mEs at h3
              rw [Bool.and_eq_true] at h3
              have h3 := h3.2
              unfold mEs at h3
              cases h3
            | nil =>
              unfold mEs at h3
              obtain ⟨k1, k2, _⟩ := and3 h3
              rw [evE_mth1]
              exact de_mth1 ((mE_ok o c false _ X W A tk h2).1 rfl) ((mE_ok a c false _ X W A tk k1).1 rfl) (star_cons (nt k2)) (base_ok h4) h5
    · cases h
theorem mEs_ok : ∀ (xs : Es) (c : Ctx) (es : List Expr) (X : Cx) (W : WX), Amb X c cl cf gs k → Takes X W → mEs xs c es = true → PA X es (RdA cl X.K bs W (evEs cf gs b xs)) ∧ es.any starred = false
  | .nil, c, es, X, W, A, tk, h => by
    unfold mEs at h
    split at h
    · exact ⟨da_nil, rfl⟩
    · cases h
  | .cons a r, c, es, X, W, A, tk, h => by
    unfold mEs at h
    split at h
    · obtain ⟨h1, h2, h3⟩ := and3 h
      obtain ⟨k1, k2⟩ := mEs_ok r c _ X W A tk h3
      exact ⟨da_cons ((mE_ok a c false _ X W A tk h1).1 rfl) k1 (star_cons (nt h2)), by rw [List.any_cons, nt h2, k2]; rfl⟩
    · cases h
theorem mPs_ok : ∀ (xs : Es) (c : Ctx) (keys : List (Option Expr)) (values : List Expr) (pos : Pos) (X : Cx) (W : WX), Amb X c cl cf gs k → Takes X W → mPs xs c keys values = true → ∃ trs, PPs X pos keys values trs ∧ Reads2 cl X.K bs W trs (evEs cf gs b xs)
  | .nil, c, keys, values, pos, X, W, A, tk, h => by
    unfold mPs at h
    rw [Bool.and_eq_true, List.isEmpty_iff, List.isEmpty_iff] at h
    obtain ⟨h1, h2⟩ := h
    subst h1 h2
    refine ⟨[], pps_nil, ?_⟩
    have e : evEs cf gs b .nil = fun _ S => .ok [] S := by
      funext ds S
      rw [evEs]
    rw [e]
    exact reads2_nil
  | .cons a .nil, c, keys, values, pos, X, W, A, tk, h => by unfold mPs at h; cases h
  | .cons a (.cons d r), c, keys, values, pos, X, W, A, tk, h => by
    unfold mPs at h
    split at h
    · rename_i x ks y vs
      obtain ⟨h1, h2, h3⟩ := and3 h
      obtain ⟨trs, k1, k2⟩ := mPs_ok r c ks vs pos X W A tk h3
      refine ⟨_, pps_cons ((mE_ok a c false _ X W A tk h1).1 rfl) ((mE_ok d c false _ X W A tk h2).1 rfl) k1, ?_⟩
      have e : evEs cf gs b (.cons a (.cons d r)) = fun ds S => (evE cf gs b a ds S).bind fun u S => (((evE cf gs b d ds S).bind fun v S => (evEs cf gs b r ds S).bind fun us S => .ok (v :: us) S)).bind fun us S => .ok (u :: us) S := by
        funext ds S
        rw [evEs]
        congr 1
      rw [e]
      exact reads2_cons k2
    · cases h
theorem mAnd_ok : ∀ (xs : Es) (c : Ctx) (t : Bool) (es : List Expr) (pos : Pos) (X : Cx) (W : WX), Amb X c cl cf gs k → Takes X W → mBo xs c t es = true →
    (t = false → PE X (.BoolOp .And es pos) (RdE cl X.K bs W (evAnd cf gs b xs))) ∧ (t = true → PW X (.BoolOp .And es pos) (RdT cl X.K bs W fun ds S => (evAnd cf gs b xs ds S).bind tr))
  | .nil, c, t, es, pos, X, W, A, tk, h => by unfold mBo at h; cases h
  | .cons a .nil, c, t, es, pos, X, W, A, tk, h => by
    unfold mBo at h
    split at h
    · cases h
    · rw [Bool.and_eq_true] at h
      have h2 := h.2
      simp only [List.isEmpty_iff] at h2
      subst h2
      have := mE_ok a c t _ X W A tk h.1
      have e : evAnd cf gs b (.cons a .nil) = evE cf gs b a := by funext ds S; rw [evAnd]
      rw [e]
      exact ⟨fun z => pe_one (this.1 z), fun z => pw_and1 (this.2 z)⟩
  | .cons a (.cons a' r), c, t, es, pos, X, W, A, tk, h => by
    unfold mBo at h
    split at h
    · cases h
    · rename_i x xs
      rw [Bool.and_eq_true] at h
      have h2 : mBo (.cons a' r) c t xs = true := h.2
      have k1 := mE_ok a c t _ X W A tk h.1
      have k2 := mAnd_ok (.cons a' r) c t xs pos X W A tk h2
      cases xs with
      | nil => rw [mBo] at h2; cases h2
      | cons y ys =>
        have e : evAnd cf gs b (.cons a (.cons a' r)) = fun ds S => (evE cf gs b a ds S).bind fun u S => (lift (truthD S u) S).bind fun k S => if k = true then evAnd cf gs b (.cons a' r) ds S else .ok u S := by funext ds S; rw [evAnd]
        rw [e]
        exact ⟨fun z => de_and (k1.1 z) (k2.1 z), fun z => dw_and (k1.2 z) (k2.2 z)⟩
theorem mOr_ok : ∀ (xs : Es) (c : Ctx) (t : Bool) (es : List Expr) (pos : Pos) (X : Cx) (W : WX), Amb X c cl cf gs k → Takes X W → mBo xs c t es = true →
    (t = false → PE X (.BoolOp .Or es pos) (RdE cl X.K bs W (evOr cf gs b xs))) ∧ (t = true → PW X (.BoolOp .Or es pos) (RdT cl X.K bs W fun ds S => (evOr cf gs b xs ds S).bind tr))
  | .nil, c, t, es, pos, X, W, A, tk, h => by unfold mBo at h; cases h
  | .cons a .nil, c, t, es, pos, X, W, A, tk, h => by
    unfold mBo at h
    split at h
    · cases h
    · rw [Bool.and_eq_true] at h
      have h2 := h.2
      simp only [List.isEmpty_iff] at h2
      subst h2
      have := mE_ok a c t _ X W A tk h.1
      have e : evOr cf gs b (.cons a .nil) = evE cf gs b a := by funext ds S; rw [evOr]
      rw [e]
      exact ⟨fun z => pe_one (this.1 z), fun z => pw_or1 (this.2 z)⟩
  | .cons a (.cons a' r), c, t, es, pos, X, W, A, tk, h => by
    unfold mBo at h
    split at h
    · cases h
    · rename_i x xs
      rw [Bool.and_eq_true] at h
      have h2 : mBo (.cons a' r) c t xs = true := h.2
      have k1 := mE_ok a c t _ X W A tk h.1
      have k2 := mOr_ok (.cons a' r) c t xs pos X W A tk h2
      cases xs with
      | nil => rw [mBo] at h2; cases h2
      | cons y ys =>
        have e : evOr cf gs b (.cons a (.cons a' r)) = fun ds S => (evE cf gs b a ds S).bind fun u S => (lift (truthD S u) S).bind fun k S => if k = true then .ok u S else evOr cf gs b (.cons a' r) ds S := by funext ds S; rw [evOr]
        rw [e]
        exact ⟨fun z => de_or (k1.1 z) (k2.1 z), fun z => dw_or (k1.2 z) (k2.2 z)⟩
theorem mTs_ok : ∀ (xs : Es) (c : Ctx) (es : List Expr) (X : Cx) (W : WX), Amb X c cl cf gs k → Takes X W → mTs xs c es = true → PTs X es (RdT cl X.K bs W (evTs cf gs b xs))
  | .nil, c, es, X, W, A, tk, h => by
    unfold mTs at h; rw [List.isEmpty_iff] at h
    subst h
    refine ⟨fun pins s σ H Q I ⟨g, ds, S, m, ss, p⟩ => pts_nil.run pins s σ H Q I ?_⟩
    rw [evTs] at p
    exact p g H true (.refl g) m rfl
  | .cons a r, c, es, X, W, A, tk, h => by
    unfold mTs at h
    split at h
    · rw [Bool.and_eq_true] at h
      cases r with
      | cons _ _ => cases h.2
      | nil =>
        have e : evTs cf gs b (.cons a .nil) = fun ds S => (evE cf gs b a ds S).bind tr := by funext ds S; rw [evTs]
        rw [e]
        exact pts_one ((mE_ok a c true _ X W A tk h.1).2 rfl)
    · cases h
theorem mOE_ok : ∀ (x : OE) (c : Ctx) (e : Option Expr) (X : Cx) (W : WX), Amb X c cl cf gs k → Takes X W → mOE x c e = true → PO X e (RdO cl X.K bs W (evOE cf gs b x))
  | .no, c, e, X, W, A, tk, h => by
    unfold mOE at h; rw [Option.isNone_iff_eq_none] at h
    subst h
    exact do_no
  | .yes a, c, e, X, W, A, tk, h => by
    unfold mOE at h
    split at h
    · exact do_yes ((mE_ok a c false _ X W A tk h).1 rfl)
    · cases h
theorem mWk_ok : ∀ (x : Wk) (c : Ctx) (tg e : Expr) (X : Cx) (W : WX), Amb X c cl cf gs k → Takes X W → mWk x c tg e = true → PI X tg e (RdI cl X.K bs W (evIt cf gs b x))
  | .seq a, c, tg, e, X, W, A, tk, h => by
    unfold mWk at h
    exact di_seq ((mE_ok a c false _ X W A tk h).1 rfl)
  | .rng1 a, c, tg, e, X, W, A, tk, h => by
    unfold mWk at h
    split at h
    · simp only [Bool.and_eq_true, decide_eq_true_eq] at h
      obtain ⟨⟨⟨h1, h2⟩, h3⟩, h4⟩ := h
      subst h1
      obtain ⟨g1, g2, g3⟩ := A.blt h2
      exact di_rng1 g1 g3 ((mE_ok a c false _ X W A tk h3).1 rfl) (star_cons (nt h4))
    · cases h
  | .rng2 a a', c, tg, e, X, W, A, tk, h => by
    unfold mWk at h
    split at h
    · simp only [Bool.and_eq_true, decide_eq_true_eq] at h
      obtain ⟨⟨⟨⟨⟨h1, h2⟩, h3⟩, h4⟩, h5⟩, h6⟩ := h
      subst h1
      obtain ⟨g1, g2, g3⟩ := A.blt h2
      exact di_rng2 g1 g3 ((mE_ok a c false _ X W A tk h3).1 rfl) ((mE_ok a' c false _ X W A tk h5).1 rfl) (by rw [star_cons (nt h4), star_cons (nt h6)]; rfl) (star_cons (nt h6)) (star_cons (nt h4))
    · cases h
  | .zip a a', c, tg, e, X, W, A, tk, h => by
    unfold mWk at h
    split at h
    · rw [Bool.and_eq_true] at h
      obtain ⟨h0, h7⟩ := h
      split at h7
      · simp only [Bool.and_eq_true, decide_eq_true_eq] at h0
        obtain ⟨⟨⟨⟨⟨h1, h2⟩, h3⟩, h4⟩, h5⟩, h6⟩ := h0
        subst h1
        obtain ⟨g1, g2, g3⟩ := A.blt h2
        exact di_zip g1 g3 ((mE_ok a c false _ X W A tk h3).1 rfl) ((mE_ok a' c false _ X W A tk h5).1 rfl) (star_cons (nt h4)) (star_cons (nt h6)) (star_plain (by rw [List.any_cons, nt h6]; rfl))
      · cases h7
    · cases h
  | .enum a, c, tg, e, X, W, A, tk, h => by
    unfold mWk at h
    split at h
    · rw [Bool.and_eq_true] at h
      obtain ⟨h0, h7⟩ := h
      split at h7
      · simp only [Bool.and_eq_true, decide_eq_true_eq] at h0
        obtain ⟨⟨⟨h1, h2⟩, h3⟩, h4⟩ := h0
        subst h1
        obtain ⟨g1, g2, g3⟩ := A.blt h2
        exact di_enumA g1 g3 ((mE_ok a c false _ X W A tk h3).1 rfl) (star_cons (nt h4))
      · cases h7
    · cases h
theorem mTg_ok : ∀ (x : Tg) (c : Ctx) (e : Expr) (X : Cx) (W : WX), Amb X c cl cf gs k → Takes X W → mTg x c e = true → PG X e (RdG cl X.K bs x.slots (evTg cf gs b x))
  | .v i, c, e, X, W, A, tk, h => by
    unfold mTg at h
    split at h
    · obtain ⟨h1, h2, h3⟩ := A.loc h
      exact dg_name A.nd h1 h2 h3
    · cases h
  | .tup ts, c, e, X, W, A, tk, h => by
    unfold mTg at h
    split at h
    · obtain ⟨h1, h2, h3⟩ := mTgs_ok ts c _ X W A tk h
      exact dg_tup A.calm h1 (fun us ds S ds' S' => evTgs_len ts us ds S ds' S') (by rw [asg_len, h3]) (asg_plain h2)
    · cases h
  | .idx o i, c, e, X, W, A, tk, h => by
    unfold mTg at h
    split at h
    · obtain ⟨h1, h2, h3⟩ := and3 h
      exact dg_idx hb A.hu1 ((mE_ok o c false _ X W A tk h1).1 rfl) ((mE_ok i c false _ X W A tk h2).1 rfl) (asg_sub (nt h3))
    · cases h
theorem mTgs_ok : ∀ (x : Tgs) (c : Ctx) (es : List Expr) (X : Cx) (W : WX), Amb X c cl cf gs k → Takes X W → mTgs x c es = true → PGs X es (RdGs cl X.K bs x.slots (evTgs cf gs b x)) ∧ es.any starred = false ∧ es.length = x.len
  | .nil, c, es, X, W, A, tk, h => by
    unfold mTgs at h; rw [List.isEmpty_iff] at h
    subst h
    have e : evTgs cf gs b .nil = fun us ds S => match us with | [] => .ok ds S | _ => .bad := by
      funext us ds S
      cases us <;> rw [evTgs]
      all_goals simp
    rw [e]
    exact ⟨dgs_nil, rfl, rfl⟩
  | .cons a r, c, es, X, W, A, tk, h => by
    unfold mTgs at h
    split at h
    · obtain ⟨h1, h2, h3⟩ := and3 h
      obtain ⟨k1, k2, k3⟩ := mTgs_ok r c _ X W A tk h3
      have e : evTgs cf gs b (.cons a r) = fun us ds S => match us with
          | d :: us => (evTg cf gs b a d ds S).bind fun ds S => evTgs cf gs b r us ds S
          | [] => .bad := by
        funext us ds S
        cases us <;> rw [evTgs]
        all_goals simp
      rw [e]
      exact ⟨dgs_cons (mTg_ok a c _ X W A tk h1) k1 (by rw [asg_cons (nt h2)]; rfl), by rw [List.any_cons, nt h2, k2]; rfl, by simp [k3, Tgs.len]⟩
    · cases h
end
end
end Den

set_option maxHeartbeats 4000000
/-! Den, part 11: statements of the text that are the small language's. -/
namespace Den
open PySem PySem.Spec PyProof.Rows L2

/-! ### the model's other stores -/
/-- what the model's question about a, b = x, y answers (none: it does not say) -/
def swOf (sc : Scope) (ts vs : List Expr) : Option (Option (List Str)) :=
  if (!(ts.length == 2 || ts.length == 3) || vs.length != ts.length || sc.kind != .function) = true then some none else
  if (vs.any fun | .Starred .. => true | _ => false) = true then some none else
  let line := (ts.head?.map (·.pos.line)).getD 0
  let names := ts.filterMap fun
    | .Name id pos => if sc.names.lookup id == some .local && pos.line == line then some id else none
    | _ => none
  if (names.length != ts.length || names.eraseDups.length != names.length) = true then some none else
  if vs.all (foldedForSure 8) = true then some none else
  if vs.all (constantsAlone 8) = true then none else some (some names)
theorem sw_ok {env : Env} {sc : Scope} (hs : env.scope = sc) (hk : sc.kind = .function) {ts vs : List Expr} {k k2 : Nat} {p p2 : Pos} {r : Option (List Str)} (h : swOf sc ts vs = some r) : swappedStores [.Tuple ts k p] (.Tuple vs k2 p2) env = pure r := by
  subst hs
  have hb : env.blockKind = env.scope.kind := by
    unfold Env.blockKind
    rw [hk]
    rfl
  have e : swappedStores [.Tuple ts k p] (.Tuple vs k2 p2) env =
    if (!(ts.length == 2 || ts.length == 3) || vs.length != ts.length || env.blockKind != .function) = true then pure none else
    if (vs.any fun | .Starred .. => true | _ => false) = true then pure none else
    let line := (ts.head?.map (·.pos.line)).getD 0
    let names := ts.filterMap fun
      | .Name id pos => if env.kindOf id == some .local && pos.line == line then some id else none
      | _ => none
    if (names.length != ts.length || names.eraseDups.length != names.length) = true then pure none else
    if vs.all (foldedForSure 8) = true then pure none else
    if vs.all (constantsAlone 8) = true then unsupported "assign.tuple-of-constant-expressions:order-of-the-stores" else pure (some names) := rfl
  rw [e, hb]
  unfold swOf at h
  split at h
  · cases h; rw [if_pos (by assumption)]
  · rw [if_neg (by assumption)]
    split at h
    · cases h; rw [if_pos (by assumption)]
    · rw [if_neg (by assumption)]
      dsimp only at h ⊢
      split at h
      · cases h; rw [if_pos (by assumption)]
      · rw [if_neg (by assumption)]
        split at h
        · cases h; rw [if_pos (by assumption)]
        · rw [if_neg (by assumption)]
          split at h
          · cases h
          · cases h; rw [if_neg (by assumption)]; rfl
/-- target = value is the plain store -/
def plainSw (sc : Scope) (tg e : Expr) : Bool := match tg, e with
  | .Tuple ts _ _, .Tuple vs _ _ => decide (swOf sc ts vs = some none)
  | .List _ _, .Tuple _ _ _ => false
  | _, _ => true
theorem plainSw_ok {env : Env} {sc : Scope} (hs : env.scope = sc) (hk : sc.kind = .function) {tg e : Expr} (h : plainSw sc tg e = true) : swappedStores [tg] e env = pure none := by
  unfold plainSw at h
  split at h
  · rw [decide_eq_true_eq] at h
    exact sw_ok hs hk h
  · cases h
  · rename_i h1 h2
    cases tg with
    | Tuple ts k p => cases e <;> first | rfl | exact (h1 _ _ _ _ _ _ rfl rfl).elim
    | List ts p => cases e <;> first | rfl | exact (h2 _ _ _ _ _ rfl rfl).elim
    | _ => rfl
theorem noComp_sw {e : Expr} {t : Option Expr} {l : Nat} {env : Env} (h : isComp e = false) : swapsWith e t l env = pure false := by cases e <;> first | rfl | cases h
/-- y = [..] on one line -/
def swB (sc : Scope) (y : Str) (py : Pos) (scope : Scope) (pos : Pos) : Bool :=
  decide (sc.names.lookup y = some .local) && decide (py.line = pos.line) && !(scope.names.any fun x => x.1 == y && (x.2 == .local || x.2 == .cell))
theorem swB_eq {env : Env} {sc : Scope} (hs : env.scope = sc) (hk : sc.kind = .function) {elt : Expr} {gens : List Comprehension} {scope : Scope} {pos py : Pos} {y : Str} {l : Nat} :
    swapsWith (.ListComp elt gens scope pos) (some (.Name y py)) l env = pure (swB sc y py scope pos) := by
  subst hs
  have hb : env.blockKind = .function := by
    unfold Env.blockKind
    rw [hk]
    rfl
  show (pure (env.blockKind == ScopeKind.function && env.kindOf y == some NameKind.local && py.line == pos.line && !(scope.names.any fun x => x.1 == y && (x.2 == .local || x.2 == .cell))) : Sem Bool) = _
  rw [hb]
  unfold swB
  congr 1
  have e1 : (env.kindOf y == some NameKind.local) = decide (env.scope.names.lookup y = some .local) := by
    show (env.scope.names.lookup y == some NameKind.local) = _
    by_cases h : env.scope.names.lookup y = some .local
    · rw [decide_eq_true h, h]; rfl
    · rw [decide_eq_false h]; exact beq_eq_false_iff_ne.mpr h
  have e2 : (py.line == pos.line) = decide (py.line = pos.line) := by
    by_cases h : py.line = pos.line
    · rw [decide_eq_true h, h]; simp
    · rw [decide_eq_false h]; exact beq_eq_false_iff_ne.mpr h
  rw [e1, e2]
  rfl

/-! ### the matching -/
def frzOf : S → Bool
  | .frz _ => true
  | _ => false
mutual
def mS : Den.S → Ctx → Stmt → Bool
  | .asg t e, c, s => match s with
    | .Assign [tg] v _ => mTg t c tg && mE e c false v && plainSw c.sc tg v && (match tg, v with
      | .Name y py, .ListComp _ _ scope pos => !swB c.sc y py scope pos || (match t, e with
        | .v i, .comp _ _ _ _ _ => decide (c.sc.names.lookup y = some .local)
        | .v i, .comp2 _ _ _ _ _ _ _ _ => decide (c.sc.names.lookup y = some .local)
        | _, _ => false)
      | _, .SetComp _ _ _ _ => false
      | _, .DictComp _ _ _ _ _ => false
      | _, _ => true)
    | .AnnAssign tg _ (some v) _ _ => mTg t c tg && mE e c false v && !isComp v
    | _ => false
  | .par i j a b, c, s => match s with
    | .Assign [.Tuple [.Name x px, .Name y py] _ _] (.Tuple [u, w] _ _) _ => decide (c.N[i]? = some x) && decide (c.N[j]? = some y) && decide (i ≠ j) && decide (c.sc.names.lookup x = some .local) && decide (c.sc.names.lookup y = some .local) &&
      mE a c false u && mE b c false w && !starred u && !starred w && decide (swOf c.sc [.Name x px, .Name y py] [u, w] = some (some [x, y]))
    | _ => false
  | .aug i op e, c, s => match s with
    | .AugAssign (.Name x _) o v _ => okLoc c i x && decide (op = o) && mE e c false v
    | _ => false
  | .expr e, c, s => match s with
    | .Expr v _ => mE e c false v && !isComp v
    | _ => false
  | .app o e, c, s => match s with
    | .Expr (.Call (.Attribute x f ap) [y] [] cp) _ => decide (f = "append") && mE o c false x && mE e c false y && !starred y && baseOk x && (ap.endLine == cp.line)
    | _ => false
  | .ext o e, c, s => match s with
    | .Expr (.Call (.Attribute x f ap) [y] [] cp) _ => decide (f = "extend") && mE o c false x && mE e c false y && !starred y && baseOk x && (ap.endLine == cp.line)
    | _ => false
  | .dead, _, _ => true
  | .ret e, c, s => match s with
    | .Return (some v) _ => mE e c false v
    | _ => false
  | .retN, _, s => match s with
    | .Return none _ => true
    | _ => false
  | .ife d a b, c, s => match s with
    | .If z p q _ => mE d c true z && mSs a c p && mSs b c q
    | _ => false
  | .whl _ d a, c, s => match s with
    | .While z p [] _ => mE d c true z && mSs a c p
    | _ => false
  | .fr t i a, c, s => match s with
    | .For tg iter p [] _ => mTg t c tg && mWk i c tg iter && mSs a c p && !isSet iter
    | _ => false
  | .brk, _, s => match s with
    | .Break _ => true
    | _ => false
  | .cont, _, s => match s with
    | .Continue _ => true
    | _ => false
  | .pass, _, s => match s with
    | .Pass _ => true
    | .Expr (.Constant (.str _) _ _) _ => true
    | _ => false
  | .frz _, _, _ => false
  | .sc _, _, _ => false
def mSs : Ss → Ctx → List Stmt → Bool
  | .nil, _, es => es.isEmpty
  | .cons a r, c, es => match frzOf a with
    | true => mSs r c es
    | false => match es with
      | x :: xs => mS a c x && mSs r c xs
      | _ => false
end
section
variable {cl : List Addr} {bs : List Nat} {cf : CF} {gs : List T} {b k : Nat}
variable (hb : ∀ c ∈ bs, c ≤ b)
include hb
theorem asg_ok {t : Tg} {e : E} {c : Ctx} {tg v : Expr} {pos : Pos} {X : Cx} {W : WX} (A : Amb X c cl cf gs k) (tk : Takes X W) (h1 : mTg t c tg = true) (h2 : mE e c false v = true) (h3 : plainSw c.sc tg v = true) (hs : swapsWith v (some tg) pos.line X.env = pure false) :
    PS X (.Assign [tg] v pos) (RdS cl X.K bs W (evS cf gs b (.asg t e))) := by
  have hst : starred tg = false := by
    cases tg with
    | Starred _ _ => cases t <;> (unfold mTg at h1; cases h1)
    | _ => rfl
  exact ds_asg ((mE_ok hb e c false v X W A tk h2).1 rfl) (mTg_ok hb t c tg X W A tk h1) hs (plainSw_ok A.hsc A.kind h3) (by rw [asg_cons hst]; rfl)
theorem comp_asg {i : Nat} {m : Bool} {tg : Tg} {it : Wk} {cs : Es} {e' : E} {c : Ctx} {X : Cx} {W : WX} {y : Str} {py pos spos : Pos} {elt : Expr} {gens : List Comprehension} {scope : Scope} (A : Amb X c cl cf gs k) (tk : Takes X W)
    (hy : okLoc c i y = true) (hyl : c.sc.names.lookup y = some .local) (h : mE (.comp m tg it cs e') c false (.ListComp elt gens scope pos) = true) (hsw : swapsWith (.ListComp elt gens scope pos) (some (.Name y py)) spos.line X.env = pure true) :
    PS X (.Assign [.Name y py] (.ListComp elt gens scope pos) spos) (RdS cl X.K bs W (evS cf gs b (.asg (.v i) (.comp m tg it cs e')))) := by
  unfold mE at h
  split at h
  · rename_i elt tgE iter ifs scope p heq
    cases heq
    rw [Bool.and_eq_true, Bool.and_eq_true, Bool.and_eq_true] at h
    obtain ⟨⟨⟨h0, h4⟩, h5⟩, h6⟩ := h
    obtain ⟨h1, h2, h3⟩ := and3 h0
    have kd := blk_kind h2
    have bo : BlkOk X.N X.env.scope scope (ownOf c tg.slots) := by
      rw [A.hN, A.hsc]
      exact blkOk_by h2
    have key := ds_setLc (cl := cl) (bs := bs) (W := W) (mb := m) (elt := elt) (pos := pos) (py := py) A.calm A.nd (A.loc hy).1 (by rw [A.hsc]; exact hyl) hsw (mWk_ok hb it c tgE iter X W A tk h3) bo
      (fun s H C cl' fp => by rw [own_map]; exact mTg_ok hb tg (c.blk scope) tgE _ W0 (A.block kd s H C cl' fp) takes0 h4)
      (fun s H C cl' fp => mTs_ok hb cs (c.blk scope) ifs _ W0 (A.block kd s H C cl' fp) takes0 h5)
      (fun s H C cl' fp => (mE_ok hb e' (c.blk scope) false elt _ W0 (A.block kd s H C cl' fp) takes0 h6).1 rfl) (noFold (nt h1))
    rw [own_map] at key
    exact key
  · cases h
theorem comp_asg2 {i : Nat} {m : Bool} {tg tg' : Tg} {it it' : Wk} {cs cs' : Es} {e' : E} {c : Ctx} {X : Cx} {W : WX} {y : Str} {py pos spos : Pos} {elt : Expr} {gens : List Comprehension} {scope : Scope} (A : Amb X c cl cf gs k) (tk : Takes X W)
    (hy : okLoc c i y = true) (hyl : c.sc.names.lookup y = some .local) (h : mE (.comp2 m tg it cs tg' it' cs' e') c false (.ListComp elt gens scope pos) = true) (hsw : swapsWith (.ListComp elt gens scope pos) (some (.Name y py)) spos.line X.env = pure true) :
    PS X (.Assign [.Name y py] (.ListComp elt gens scope pos) spos) (RdS cl X.K bs W (evS cf gs b (.asg (.v i) (.comp2 m tg it cs tg' it' cs' e')))) := by
  unfold mE at h
  split at h
  · rename_i elt tgE iter ifs tgE' iter' ifs' scope p heq
    cases heq
    simp only [Bool.and_eq_true] at h
    obtain ⟨⟨⟨⟨⟨⟨⟨⟨⟨h1, h2⟩, h3⟩, h4⟩, h5⟩, h6⟩, h7⟩, h8⟩, h9⟩, h10⟩ := h
    have kd := blk_kind h3
    have bo : BlkOk X.N X.env.scope scope (ownOf c (tg.slots ++ tg'.slots)) := by
      rw [A.hN, A.hsc]
      exact blkOk_by h3
    have key := ds_setLc2 (cl := cl) (bs := bs) (W := W) (mb := m) (elt := elt) (pos := pos) (py := py) (vs1 := tg'.slots) A.calm A.nd (A.loc hy).1 (by rw [A.hsc]; exact hyl) hsw (mWk_ok hb it c tgE iter X W A tk h4) bo (fun j hj => by rw [own_map]; exact List.mem_append_right _ hj)
      (fun s H C cl' fp => by rw [own_map]; exact pg_more (mTg_ok hb tg (c.blk scope) tgE _ W0 (A.block kd s H C cl' fp) takes0 h5) fun j hj => List.mem_append_left _ hj)
      (fun s H C cl' fp => mTs_ok hb cs (c.blk scope) ifs _ W0 (A.block kd s H C cl' fp) takes0 h6)
      (fun s H C cl' fp => (mE_ok hb e' (c.blk scope) false elt _ W0 (A.block kd s H C cl' fp) takes0 h10).1 rfl) (noFold (nt h1))
      (fun s H C cl' fp => mWk_ok hb it' (c.blk scope) tgE' iter' _ W0 (A.block kd s H C cl' fp) takes0 h7)
      (fun s H C cl' fp => mTg_ok hb tg' (c.blk scope) tgE' _ W0 (A.block kd s H C cl' fp) takes0 h8)
      (fun s H C cl' fp => mTs_ok hb cs' (c.blk scope) ifs' _ W0 (A.block kd s H C cl' fp) takes0 h9) (fun env => noFold (nt h2))
    rw [own_map] at key
    exact key
  · cases h
mutual
theorem mS_ok : ∀ (ir : Den.S) (c : Ctx) (s : Stmt) (X : Cx) (W : WX), Amb X c cl cf gs k → Takes X W → PassesOwn (model X.prog X.w) X.A X.env X.xe → mS ir c s = true → PS X s (RdS cl X.K bs W (evS cf gs b ir))
  | .asg t e, c, s, X, W, A, tk, po, h => by
    unfold mS at h
    split at h
    · rename_i tg v p
      rw [Bool.and_eq_true] at h
      obtain ⟨h0, h4⟩ := h
      obtain ⟨h1, h2, h3⟩ := and3 h0
      by_cases hc : isComp v = true
      · cases v with
        | ListComp elt gens scope pos =>
          cases tg with
          | Name y py =>
            dsimp only at h4
            rw [Bool.or_eq_true] at h4
            rcases h4 with h4 | h4
            · exact asg_ok hb A tk h1 h2 h3 (by rw [swB_eq A.hsc A.kind, nt h4])
            · by_cases hq : swB c.sc y py scope pos = true
              · cases t with
                | v i =>
                  cases e with
                  | comp m tg it cs e' =>
                    rw [decide_eq_true_eq] at h4
                    unfold mTg at h1
                    exact comp_asg hb A tk h1 h4 h2 (by rw [swB_eq A.hsc A.kind, hq])
                  | comp2 m tg it cs tg' it' cs' e' =>
                    rw [decide_eq_true_eq] at h4
                    unfold mTg at h1
                    exact comp_asg2 hb A tk h1 h4 h2 (by rw [swB_eq A.hsc A.kind, hq])
                  | _ => cases h4
                | _ => cases h4
              · exact asg_ok hb A tk h1 h2 h3 (by rw [swB_eq A.hsc A.kind]; cases hz : swB c.sc y py scope pos with | true => exact absurd hz hq | false => rfl)
          | _ => exact asg_ok hb A tk h1 h2 h3 rfl
        | SetComp _ _ _ _ => cases tg <;> cases h4
        | DictComp _ _ _ _ _ => cases tg <;> cases h4
        | _ => cases hc
      · exact asg_ok hb A tk h1 h2 h3 (noComp_sw (by cases hz : isComp v with | true => exact absurd hz hc | false => rfl))
    · rename_i tg ann v si p
      obtain ⟨h1, h2, h3⟩ := and3 h
      exact ps_den (ps_ann ((mE_ok hb e c false v X W A tk h2).1 rfl) (mTg_ok hb t c tg X W A tk h1) (noComp_sw (nt h3))) fun σ H D g ds S m ss p => asg_of ⟨g, ds, S, m, ss, p⟩
    · cases h
  | .par i j x y, c, s, X, W, A, tk, po, h => by
    unfold mS at h
    split at h
    · simp only [Bool.and_eq_true, decide_eq_true_eq] at h
      obtain ⟨⟨⟨⟨⟨⟨⟨⟨⟨h1, h2⟩, h3⟩, h4⟩, h5⟩, h6⟩, h7⟩, h8⟩, h9⟩, h10⟩ := h
      exact ds_par A.calm A.nd (by rw [A.hN]; exact h1) (by rw [A.hN]; exact h2) h3 (by rw [A.hsc]; exact h4) (by rw [A.hsc]; exact h5) ((mE_ok hb x c false _ X W A tk h6).1 rfl) ((mE_ok hb y c false _ X W A tk h7).1 rfl)
        (star_cons (nt h8)) (star_cons (nt h9)) (sw_ok A.hsc A.kind h10) rfl
    · cases h
  | .aug i op e, c, s, X, W, A, tk, po, h => by
    unfold mS at h
    split at h
    · obtain ⟨h1, h2, h3⟩ := and3 h
      rw [decide_eq_true_eq] at h2
      subst h2
      obtain ⟨k1, k2, k3⟩ := A.loc h1
      exact ds_aug A.nd k1 k2 ((mE_ok hb e c false _ X W A tk h3).1 rfl) k3
    · cases h
  | .expr e, c, s, X, W, A, tk, po, h => by
    unfold mS at h
    split at h
    · rw [Bool.and_eq_true] at h
      exact ds_expr ((mE_ok hb e c false _ X W A tk h.1).1 rfl) (noComp_sw (nt h.2))
    · cases h
  | .app o e, c, s, X, W, A, tk, po, h => by
    unfold mS at h
    split at h
    · simp only [Bool.and_eq_true, decide_eq_true_eq] at h
      obtain ⟨⟨⟨⟨⟨h1, h2⟩, h3⟩, h4⟩, h5⟩, h6⟩ := h
      subst h1
      exact ds_app hb ((mE_ok hb o c false _ X W A tk h2).1 rfl) ((mE_ok hb e c false _ X W A tk h3).1 rfl) (base_ok h5) (by rw [star_cons (nt h4)]; rfl) h6 (star_cons (nt h4))
    · cases h
  | .ext o e, c, s, X, W, A, tk, po, h => by
    unfold mS at h
    split at h
    · simp only [Bool.and_eq_true, decide_eq_true_eq] at h
      obtain ⟨⟨⟨⟨⟨h1, h2⟩, h3⟩, h4⟩, h5⟩, h6⟩ := h
      subst h1
      exact ds_ext hb ((mE_ok hb o c false _ X W A tk h2).1 rfl) ((mE_ok hb e c false _ X W A tk h3).1 rfl) (base_ok h5) h6 (star_cons (nt h4))
    · cases h
  | .dead, c, s, X, W, A, tk, po, h => by
    refine ⟨fun pins st σ H D I ⟨g, ds, S, m, ss, p⟩ => ?_⟩
    rw [evS] at p
    exact p.elim
  | .ret e, c, s, X, W, A, tk, po, h => by
    unfold mS at h
    split at h
    · exact ds_ret ((mE_ok hb e c false _ X W A tk h).1 rfl)
    · cases h
  | .retN, c, s, X, W, A, tk, po, h => by
    unfold mS at h
    split at h
    · exact ds_retN
    · cases h
  | .ife d x y, c, s, X, W, A, tk, po, h => by
    unfold mS at h
    split at h
    · obtain ⟨h1, h2, h3⟩ := and3 h
      exact ds_if ((mE_ok hb d c true _ X W A tk h1).2 rfl) (mSs_ok x c _ X W A tk po h2) (mSs_ok y c _ X W A tk po h3)
    · cases h
  | .whl n d x, c, s, X, W, A, tk, po, h => by
    unfold mS at h
    split at h
    · rw [Bool.and_eq_true] at h
      exact ds_while po ((mE_ok hb d c true _ X W A tk h.1).2 rfl) (mSs_ok x c _ X W A tk po h.2)
    · cases h
  | .fr t i x, c, s, X, W, A, tk, po, h => by
    unfold mS at h
    split at h
    · rw [Bool.and_eq_true] at h
      obtain ⟨h1, h2, h3⟩ := and3 h.1
      exact ds_for po A.calm (mWk_ok hb i c _ _ X W A tk h2) (mTg_ok hb t c _ X W A tk h1) (mSs_ok x c _ X W A tk po h3) (noFold (nt h.2))
    · cases h
  | .brk, c, s, X, W, A, tk, po, h => by
    unfold mS at h
    split at h
    · exact ds_brk
    · cases h
  | .cont, c, s, X, W, A, tk, po, h => by
    unfold mS at h
    split at h
    · exact ds_cont
    · cases h
  | .pass, c, s, X, W, A, tk, po, h => by
    unfold mS at h
    split at h
    · exact ds_pass
    · exact ds_doc
    · cases h
  | .frz i, c, s, X, W, A, tk, po, h => by unfold mS at h; cases h
  | .sc x, c, s, X, W, A, tk, po, h => by unfold mS at h; cases h
theorem mSs_ok : ∀ (ir : Ss) (c : Ctx) (s : List Stmt) (X : Cx) (W : WX), Amb X c cl cf gs k → Takes X W → PassesOwn (model X.prog X.w) X.A X.env X.xe → mSs ir c s = true → PSs X s (RdS cl X.K bs W (evSs cf gs b ir))
  | .nil, c, s, X, W, A, tk, po, h => by
    unfold mSs at h
    rw [List.isEmpty_iff] at h
    subst h
    exact dss_nil
  | .cons a r, c, s, X, W, A, tk, po, h => by
    have e : evSs cf gs b (.cons a r) = fun ds S => match evS cf gs b a ds S with
      | .nx ds S => evSs cf gs b r ds S
      | q => q := by
      funext ds S
      rw [evSs] <;> (cases evS cf gs b a ds S <;> rfl)
    unfold mSs at h
    split at h
    · rename_i hz
      cases a with
      | frz i =>
        rw [e]
        exact dss_frz (mSs_ok r c s X W A tk po h)
      | _ => cases hz
    · split at h
      · rw [Bool.and_eq_true] at h
        rw [e]
        exact dss_cons (mS_ok a c _ X W A tk po h.1) (mSs_ok r c _ X W A tk po h.2)
      · cases h
end
end
end Den

set_option maxHeartbeats 4000000
/-! Den, part 12: defs, the table of the program's defs, the law. -/
namespace Den
open PySem PySem.Spec PyProof.Rows L2

/-! ### a frame is left: its cells are gone -/
section
variable {cl : List Addr} {K : PySem.W.Frag} {bs : List Nat} {g : G}
mutual
theorem Rep.lowS : ∀ {v : V} {d : D}, Rep K g v d → d.low g.ρ.length = true
  | _, _, .t _ => rfl
  | _, _, .k _ => rfl
  | _, _, .ref e => by
    rw [D.low, decide_eq_true_eq]
    exact (List.getElem?_eq_some_iff.mp e).1
  | _, _, .mix _ r => by
    rw [D.low]
    exact Reps.lowS r
theorem Reps.lowS : ∀ {vs : List V} {ds : List D}, Reps K g vs ds → lows g.ρ.length ds = true
  | _, _, .nil => rfl
  | _, _, .cons r t => by
    rw [lows, Rep.lowS r, Reps.lowS t]
    rfl
end
theorem CellAt.lowS {c : Cell} {o : Option HO} (h : CellAt cl K g c o) : c.low g.ρ.length = true := by
  cases c with
  | lst ds => obtain ⟨_, _, r⟩ := h; exact r.lowS
  | dK kvs => obtain ⟨_, _, _, r⟩ := h; exact r.lowS
  | dT kvs => obtain ⟨_, _, _, r⟩ := h; exact r.lowS
  | ins c fs => obtain ⟨_, _, _, _, _, _, r⟩ := h; exact r.lowS
  | dead => rfl
/-- a new frame begins -/
theorem SimH.enter {S : Store} {H : Hp} (m : SimH cl K bs g S H) : SimH cl K (S.length :: bs) g S H := by
  refine ⟨m.le, m.len, m.cel, m.lk, m.dis, m.inj, fun b hb n c hn e => ?_, fun b hb => ?_⟩
  · rw [List.mem_cons] at hb
    rcases hb with rfl | hb
    · cases hl : c.live with
      | false => cases c <;> first | rfl | cases hl
      | true =>
        obtain ⟨a, ha⟩ : ∃ a, g.ρ[n]? = some a := ⟨g.ρ[n]'(by rw [m.len]; exact hn), List.getElem?_eq_getElem _⟩
        rw [← m.len]
        exact (m.cel n c a e ha hl).2.lowS
    · exact m.ws b hb n c hn e
  · rw [List.mem_cons] at hb
    rcases hb with rfl | hb
    · exact Nat.le_refl _
    · exact m.hi b hb
/-- the cells from b on are dropped -/
def G.cut (g : G) (b : Nat) : G := ⟨g.F, g.L, g.ρ.take b⟩
mutual
theorem Rep.cut {b : Nat} : ∀ {v : V} {d : D}, Rep K g v d → d.low b = true → Rep K (g.cut b) v d
  | _, _, .t r, _ => .t r
  | _, _, .k r, _ => .k r
  | _, _, .ref e, h => by
    rw [D.low, decide_eq_true_eq] at h
    refine .ref ?_
    show (g.ρ.take b)[_]? = _
    rw [List.getElem?_take_of_lt h]
    exact e
  | _, _, .mix s r, h => by
    rw [D.low] at h
    exact .mix s (Reps.cut r h)
theorem Reps.cut {b : Nat} : ∀ {vs : List V} {ds : List D}, Reps K g vs ds → lows b ds = true → Reps K (g.cut b) vs ds
  | _, _, .nil, _ => .nil
  | _, _, .cons r t, h => by
    rw [lows, Bool.and_eq_true] at h
    exact .cons (Rep.cut r h.1) (Reps.cut t h.2)
end
theorem CellAt.cut {b : Nat} {c : Cell} {o : Option HO} (h : CellAt cl K g c o) (hl : c.low b = true) : CellAt cl K (g.cut b) c o := by
  cases c with
  | lst ds => obtain ⟨x, y, r⟩ := h; exact ⟨x, y, r.cut hl⟩
  | dK kvs => obtain ⟨x, y, z, r⟩ := h; exact ⟨x, y, z, r.cut hl⟩
  | dT kvs => obtain ⟨x, y, z, r⟩ := h; exact ⟨x, y, z, r.cut hl⟩
  | ins c fs => obtain ⟨x, y, z, u, v, w, r⟩ := h; exact ⟨x, y, z, u, v, w, r.cut hl⟩
  | dead => trivial
theorem SimH.leave {b : Nat} {S : Store} {H : Hp} (m : SimH cl K (b :: bs) g S H) (hb : ∀ c ∈ bs, c ≤ b) : SimH cl K bs (g.cut b) (S.take b) H := by
  have key : ∀ {n : Nat} {c : Cell}, (S.take b)[n]? = some c → n < b ∧ S[n]? = some c := fun {n c} e => by
    by_cases h : n < b
    · rw [List.getElem?_take_of_lt h] at e
      exact ⟨h, e⟩
    · rw [List.getElem?_eq_none (by rw [List.length_take]; omega)] at e
      cases e
  have keyr : ∀ {n : Nat} {a : Addr}, n < b → (g.ρ.take b)[n]? = some a → g.ρ[n]? = some a := fun {n a} h e => by
    rw [List.getElem?_take_of_lt h] at e
    exact e
  refine ⟨m.le, ?_, fun n c a e1 e2 e3 => ?_, m.lk, fun n c a e1 e2 e3 => ?_, fun n n' c c' a e1 l1 e2 l2 r1 r2 => ?_, fun d hd n c hn e => ?_, fun d hd => ?_⟩
  · show (g.ρ.take b).length = _
    rw [List.length_take, List.length_take, m.len]
  · obtain ⟨h, e1⟩ := key e1
    obtain ⟨q1, q2⟩ := m.cel n c a e1 (keyr h e2) e3
    exact ⟨q1, q2.cut (m.ws b (List.mem_cons_self ..) n c h e1)⟩
  · obtain ⟨h, e1⟩ := key e1
    exact m.dis n c a e1 (keyr h e2) e3
  · obtain ⟨h, e1⟩ := key e1
    obtain ⟨h', e2⟩ := key e2
    exact m.inj n n' c c' a e1 l1 e2 l2 (keyr h r1) (keyr h' r2)
  · obtain ⟨h, e1⟩ := key e
    exact m.ws d (List.mem_cons_of_mem _ hd) n c hn e1
  · rw [List.length_take]
    have := m.hi b (List.mem_cons_self ..)
    have := hb d hd
    omega
theorem ExcAt.cut {b : Nat} {c : Nat} {fs : List (Str × D)} {cls : Value} {dx : Option Addr} {H : Hp} (h : ExcAt cl K g c fs cls dx H) (hl : fs.all (fun p => p.2.low b) = true) : ExcAt cl K (g.cut b) c fs cls dx H := by
  obtain ⟨C, h1, h2, h3⟩ := h
  refine ⟨C, h1, h2, ?_⟩
  rcases h3 with h3 | ⟨a, fs', e1, e2, e3, r⟩
  · exact .inl h3
  · refine .inr ⟨a, fs', e1, e2, e3, r.cut ?_⟩
    rw [lows_all, List.all_map]
    exact hl
end

/-! ### a def -/
theorem start_sim {K : PySem.W.Frag} {g : G} {N : List Str} {vs : List V} {ds : List D} {m : Nat} (r : Reps K g vs ds) (hm : m = N.length - ds.length) : SimS K g (ds.map some ++ List.replicate m none) (L2.start N vs) := by
  unfold L2.start
  subst hm
  refine ⟨by simp [r.length], fun i d e => ?_⟩
  by_cases hi : i < ds.length
  · rw [List.getElem?_append_left (by simpa using hi), List.getElem?_map] at e
    rw [List.getElem?_append_left (by simpa [r.length] using hi), List.getElem?_map]
    cases hd : ds[i]? with
    | none => rw [hd] at e; cases e
    | some d' =>
      rw [hd] at e
      cases e
      obtain ⟨v, h1, h2⟩ := r.get hd
      exact ⟨v, by rw [h1]; rfl, h2⟩
  · rw [List.getElem?_append_right (by simpa using hi), List.getElem?_replicate] at e
    split at e <;> cases e
theorem runF_len {cf : CF} {gs : List T} {fn : Fn} {b : Nat} {as : List D} {S : Store} (h : as.length ≠ fn.np) : runF cf gs fn b as S = .bad := by
  unfold runF
  rw [if_neg h]
section
variable {P : Program} {w : World} {K : PySem.W.Frag} {mg : Str → Option Value} {base : Heap} {cl : List Addr}
theorem fn_ok {x : Str} {st : Stmt} {f : Addr} {fd : FuncData} {ps : List Str} {k : Nat} {cf cf' : CF} {gs : List T} {fn : Fn} {c : Ctx} {i : Nat} (F : Fun K x x st f fd) (S : FnScope c.N ps (defScope st)) (hsc : c.sc = defScope st) (hfs : c.fs = none)
    (hnp : fn.np = ps.length) (hns : fn.ns = c.N.length) (hm : mSs fn.body c (defBody st) = true) (hcf : ∀ b as S, cf' i b as S = runF cf gs fn b as S)
    (fns : ∀ (X : Cx), X.prog = P → X.w = w → X.K = K → X.mg = mg → X.base = base → ∀ i x np, c.fns[i]? = some (x, np) → FnAt X cl cf k x np i)
    (hg : ∀ (j : Nat) x y, c.gls[j]? = some x → gs[j]? = some y → ∃ u v, mg x = some u ∧ RelV v u ∧ RepT K (fun _ => none) false v y) (hbl : ∀ x ∈ c.bl, mg x = none) :
    FnOk P w K mg base (L2.CX P w) (k + 1) f fd ps (spD cl K cf' fn.np i) := by
  refine F.okX S (fun vs H Q E h => by rw [h.1, hnp]) fun cdv A outer s H vs Q E hr h => ?_
  obtain ⟨hl, b, bs, g, S0, ds, hb, m, r, p⟩ := h
  rw [hcf] at p
  unfold runF at p
  have hl' : ds.length = fn.np := by rw [← r.length]; exact hl
  rw [if_pos hl'] at p
  have amb : Amb (cxOf (L2.CX P w) P w K mg base c.N x (defScope st) f cdv A outer s H E) c cl cf gs k :=
    { hN := rfl, nd := S.nd, hsc := hsc.symm, kind := by rw [hsc]; exact S.kind, calm := rfl, room := hr, fn := fun _ _ => rfl, fns := fns _ rfl rfl rfl rfl rfl, gls := hg, bl := hbl }
  have tk : Takes (cxOf (L2.CX P w) P w K mg base c.N x (defScope st) f cdv A outer s H E) (fun cls d _ H' => E cls d H') := takes_of rfl rfl rfl rfl
  have po : PassesOwn (model P w) (cxOf (L2.CX P w) P w K mg base c.N x (defScope st) f cdv A outer s H E).A (cxOf (L2.CX P w) P w K mg base c.N x (defScope st) f cdv A outer s H E).env (cxOf (L2.CX P w) P w K mg base c.N x (defScope st) f cdv A outer s H E).xe := passes_of rfl
  have ss := start_sim (N := c.N) r (m := fn.ns - fn.np) (by rw [hns, hl'])
  cases hk : fn.keep with
  | true =>
    rw [hk] at p
    simp only [if_true] at p
    refine ⟨_, mSs_ok (cl := cl) (bs := bs) (b := b) hb fn.body c (defBody st) _ _ amb tk po hm, g, _, S0, m, ss, ?_⟩
    cases he : evSs cf gs b fn.body (ds.map some ++ List.replicate (fn.ns - fn.np) none) S0 with
    | nx ds' S' =>
      rw [he] at p
      exact fun g' H' σ' l' m' _ => p g' H' .non l' m' (.t .non)
    | ret d S' => rw [he] at p; exact p
    | brk _ _ => rw [he] at p; exact p.elim
    | cont _ _ => rw [he] at p; exact p.elim
    | exc e fs ds' S' =>
      rw [he] at p
      exact fun g' H' cls dx σ' l' m' _ q => p g' H' cls dx l' m' q
    | bad => rw [he] at p; exact p.elim
  | false =>
    rw [hk] at p
    simp only [Bool.false_eq_true, if_false] at p
    have hb' : ∀ e ∈ S0.length :: bs, e ≤ S0.length := fun e he => by
      rw [List.mem_cons] at he
      rcases he with rfl | he
      · exact Nat.le_refl _
      · exact m.hi e he
    have back : ∀ {g' : G}, g.le g' → g.le (g'.cut S0.length) := fun {g'} l => ⟨l.F, l.L, by
      show g.ρ <+: g'.ρ.take S0.length
      obtain ⟨t, ht⟩ := l.ρ
      rw [← ht, ← m.len, List.take_left]
      exact List.prefix_refl _⟩
    refine ⟨_, mSs_ok (cl := cl) (bs := S0.length :: bs) (b := S0.length) hb' fn.body c (defBody st) _ _ amb tk po hm, g, _, S0, m.enter, ss, ?_⟩
    cases he : evSs cf gs S0.length fn.body (ds.map some ++ List.replicate (fn.ns - fn.np) none) S0 with
    | nx ds' S' =>
      rw [he] at p
      exact fun g' H' σ' l' m' _ => p (g'.cut S0.length) H' .non (back l') (m'.leave m.hi) (.t .non)
    | ret d S' =>
      rw [he] at p
      unfold close at p
      simp only [Bool.false_eq_true, if_false] at p
      split at p
      · rename_i hd
        exact fun g' H' v l' m' q => p (g'.cut S0.length) H' v (back l') (m'.leave m.hi) (q.cut hd)
      · exact p.elim
    | brk _ _ => rw [he] at p; exact p.elim
    | cont _ _ => rw [he] at p; exact p.elim
    | exc e fs ds' S' =>
      rw [he] at p
      dsimp only at p
      split at p
      · rename_i hd
        exact fun g' H' cls dx σ' l' m' _ q => p (g'.cut S0.length) H' cls dx (back l') (m'.leave m.hi) (q.cut hd)
      · exact p.elim
    | bad => rw [he] at p; exact p.elim
end

/-! ### the table of the defs -/
structure Def where
  x : Str
  st : Stmt
  ps : List Str
  N : List Str
  fn : Fn
def fsC (N ps : List Str) (sc : Scope) : Bool :=
  decide (sc.kind = .function) && !sc.isCoroutine && !sc.isGenerator && decide N.Nodup && decide (N.take ps.length = ps) && (ps.all fun x => match sc.names.lookup x with
    | some .local => true
    | some .cell => true
    | _ => false) && sc.names.all fun y => decide (y.2 ≠ .free)
theorem fsC_ok {N ps : List Str} {sc : Scope} (h : fsC N ps sc = true) : FnScope N ps sc := by
  unfold fsC at h
  simp only [Bool.and_eq_true, decide_eq_true_eq, Bool.not_eq_true', List.all_eq_true] at h
  obtain ⟨⟨⟨⟨⟨⟨h1, h2⟩, h3⟩, h4⟩, h5⟩, h6⟩, h7⟩ := h
  refine ⟨h1, h2, h3, h4, h5, fun x hx => ?_, h7⟩
  have := h6 x hx
  split at this
  · exact .inl (by assumption)
  · exact .inr (by assumption)
  · cases this
def Def.ctx (d : Def) (fns : List (Str × Nat)) (gls bl : List Str) : Ctx := ⟨d.N, defScope d.st, none, fns, gls, bl⟩
def Def.ok (fns : List (Str × Nat)) (gls bl : List Str) (d : Def) : Bool :=
  fsC d.N d.ps (defScope d.st) && decide (d.fn.np = d.ps.length) && decide (d.fn.ns = d.N.length) && mSs d.fn.body (d.ctx fns gls bl) (defBody d.st)
def heads (t : List Def) : List (Str × Nat) := t.map fun d => (d.x, d.fn.np)
theorem callF_len {P : List Fn} {gs : List T} {i : Nat} {fn : Fn} (h : P[i]? = some fn) : ∀ k b as S, as.length ≠ fn.np → callF P gs k i b as S = .bad
  | 0, _, _, _, _ => rfl
  | k + 1, b, as, S, z => by
    unfold callF
    rw [h]
    exact runF_len z
section
variable {P : Program} {w : World} {K : PySem.W.Frag} {mg : Str → Option Value} {base : Heap}
theorem table_ok {cl : List Addr} {t : List Def} {gs : List T} {gls bl : List Str} (hT : t.all (Def.ok (heads t) gls bl) = true)
    (hK : ∀ d ∈ t, ∃ f fd, Fun K d.x d.x d.st f fd ∧ mg d.x = some (.ref f) ∧ Binds K fd d.ps [])
    (hg : ∀ (j : Nat) x y, gls[j]? = some x → gs[j]? = some y → ∃ u v, mg x = some u ∧ RelV v u ∧ RepT K (fun _ => none) false v y) (hbl : ∀ x ∈ bl, mg x = none) :
    ∀ (k i : Nat) (d : Def), t[i]? = some d → ∀ f fd, Fun K d.x d.x d.st f fd → FnOk P w K mg base (L2.CX P w) k f fd d.ps (spD cl K (callF (t.map (·.fn)) gs k) d.fn.np i) := by
  intro k
  have good : ∀ d ∈ t, Def.ok (heads t) gls bl d = true := List.all_eq_true.mp hT
  have parts : ∀ d ∈ t, FnScope d.N d.ps (defScope d.st) ∧ d.fn.np = d.ps.length ∧ d.fn.ns = d.N.length ∧ mSs d.fn.body (d.ctx (heads t) gls bl) (defBody d.st) = true := fun d hd => by
    have h := good d hd
    unfold Def.ok at h
    simp only [Bool.and_eq_true, decide_eq_true_eq] at h
    exact ⟨fsC_ok h.1.1.1, h.1.1.2, h.1.2, h.2⟩
  induction k with
  | zero =>
    intro i d hd f fd F
    have hm := List.mem_of_getElem? hd
    obtain ⟨p1, p2, p3, p4⟩ := parts d hm
    refine ⟨fun vs H Q E h => by rw [h.1, p2], fun A outer s H args us vs Q E hr he hb hv hs => ?_⟩
    obtain ⟨_, b, bs, g, S, ds, _, _, _, p⟩ := hs
    exact p.elim
  | succ k ih =>
    intro i d hd f fd F
    have hm := List.mem_of_getElem? hd
    obtain ⟨p1, p2, p3, p4⟩ := parts d hm
    have hfn : (t.map fun d => d.fn)[i]? = some d.fn := by rw [List.getElem?_map, hd]; rfl
    refine fn_ok (c := d.ctx (heads t) gls bl) (cf := callF (t.map (·.fn)) gs k) (gs := gs) (fn := d.fn) F p1 rfl rfl p2 p3 p4 (fun b as S => ?_) (fun X e1 e2 e3 e4 e5 j x np hj => ?_) hg hbl
    · show (match (t.map fun d : Def => d.fn)[i]? with | some fn => runF (callF (t.map fun d : Def => d.fn) gs k) gs fn b as S | none => .bad) = _
      rw [hfn]
    · have hj : (heads t)[j]? = some (x, np) := hj
      unfold heads at hj
      rw [List.getElem?_map] at hj
      cases hd' : t[j]? with
      | none => rw [hd'] at hj; cases hj
      | some d' =>
        rw [hd'] at hj
        cases hj
        obtain ⟨f', fd', F', m', B'⟩ := hK d' (List.mem_of_getElem? hd')
        have := ih j d' hd' f' fd' F'
        refine ⟨⟨f', fd', d'.ps, ?_, by rw [e4]; exact m', by rw [e3]; exact F'.kp, by rw [e3]; exact B'⟩, fun b as S z => callF_len (fn := d'.fn) (show (t.map fun d : Def => d.fn)[j]? = some d'.fn by rw [List.getElem?_map, hd']; rfl) k b as S z⟩
        rw [e1, e2, e3, e4, e5]
        exact this
/-- the script as the law gets it -/
def scriptD (ns : List Int) : D := .k (.list (ns.map .int))
theorem ints_rep {F : Hp} : ∀ ns : List Int, RepTs K F false (ns.map V.int) (ns.map PyData.int)
  | [] => .nil
  | n :: ns => .cons (.int n) (ints_rep ns)
theorem law_sp {cl : List Addr} {cf : CF} {i : Nat} {H : Hp} {a : Addr} {ns : List Int} (hS : SqL K H a (ns.map V.int)) (h : ∃ S, cf i 0 [scriptD ns] [] = .ok (.t (.bool true)) S) :
    spD cl K cf 1 i [.ref a] H (fun v _ => v = .bl true) fun _ _ _ => False := by
  have m : SimH cl K [] ⟨H, fun _ => none, []⟩ [] H := ⟨fun _ _ h => h, rfl, fun n c a e => (by simp at e), fun a o e => (by cases e), fun n c a e => (by simp at e), fun n m c c' a e => (by simp at e), fun _ h => (by cases h), fun _ h => (by cases h)⟩
  have r : Reps K ⟨H, fun _ => none, []⟩ [.ref a] [scriptD ns] := .cons (.k (.lst hS (fun z => nomatch z) (ints_rep ns))) .nil
  refine ⟨rfl, 0, [], _, [], [scriptD ns], ?_, m, r, ?_⟩
  · intro _ h; cases h
  obtain ⟨S, h⟩ := h
  rw [h]
  intro g' H' y l m r
  exact r.boolT
/-- a def as the top has written it -/
structure DefK (K : PySem.W.Frag) (x : Str) (st : Stmt) : Prop where
  ex : ∃ (f : Addr) (oc : Value) (od : Option Addr) (kV doc pm : Value) (an : Option Addr) (cdv ct : Value) (osl : Array (Option Value)), PySem.W.nsIn K mainGlobals x = some (some (.ref f)) ∧
    K.lookup f = some ⟨oc, od, .func (PySem.W.fnOf x x (defArgs st) (defBody st) (defScope st) .none kV doc pm an cdv ct), osl⟩ ∧ PySem.W.codeIn K cdv x = true ∧ PySem.W.keepIn K (.ref f) = true
def BindsOk (d : Def) : Prop := ∀ (kV doc pm : Value) (an : Option Addr) (cdv ct : Value) (us : List Value), us.length = d.ps.length → bindArgs (PySem.W.fnOf d.x d.x (defArgs d.st) (defBody d.st) (defScope d.st) .none kV doc pm an cdv ct) ⟨us, []⟩ = pure (d.ps.zip us)
theorem DefK.fun {x : Str} {st : Stmt} {h : Heap} (k : DefK K x st) (X : K.In h) (G : h.Ns mainGlobals mg) : ∃ f fd, Fun K x x st f fd ∧ mg x = some (.ref f) := by
  obtain ⟨f, oc, od, kV, doc, pm, an, cdv, ct, osl, h1, h2, h3, h4⟩ := k.ex
  exact ⟨f, _, fun_mk (st := st) h2 h3 h4, PySem.W.mg_of X G h1⟩
/-- THE LAW: of the table, the written constants and the evaluation -/
theorem law_ok {t : List Def} {gs : List T} {gls bl : List Str} {i k : Nat} {d : Def} {h : Heap} {fa : Addr} (X : K.In h) (G : h.Ns mainGlobals mg) (hfa : mg d.x = some (.ref fa)) (hd : t[i]? = some d) (hps : d.ps = [("script" : Str)])
    (hT : t.all (Def.ok (heads t) gls bl) = true) (hK : ∀ d ∈ t, DefK K d.x d.st) (hB : ∀ d ∈ t, BindsOk d)
    (hg : ∀ (j : Nat) x y, gls[j]? = some x → gs[j]? = some y → ∃ u v, PySem.W.nsIn K mainGlobals x = some (some u) ∧ RelV v u ∧ RepT K (fun _ => none) false v y) (hbl : ∀ x ∈ bl, PySem.W.nsIn K mainGlobals x = some none) :
    ∃ fd : FuncData, (∀ (s : Shared) (u : Value), BindsTo s fd ⟨[u], []⟩ [("script", u)]) ∧ ∀ base : Heap, K.In base → base.Ns mainGlobals mg → FnOk P w K mg base (L2.CX P w) k fa fd ["script"] (spD [] K (callF (t.map (·.fn)) gs k) 1 i) := by
  have hm := List.mem_of_getElem? hd
  have hK' : ∀ d ∈ t, ∃ f fd, Fun K d.x d.x d.st f fd ∧ mg d.x = some (.ref f) ∧ Binds K fd d.ps [] := fun d hd => by
    obtain ⟨f, fd, F, m⟩ := (hK d hd).fun X G
    exact ⟨f, fd, F, m, F.binds (hB d hd)⟩
  obtain ⟨f, fd, F, m, B⟩ := hK' d hm
  rw [hfa] at m
  cases m
  have hok : d.fn.np = 1 := by
    have h := List.all_eq_true.mp hT d hm
    unfold Def.ok at h
    simp only [Bool.and_eq_true, decide_eq_true_eq] at h
    rw [h.1.1.2, hps]
    rfl
  refine ⟨fd, fun s u => ?_, fun base _ _ => ?_⟩
  · obtain ⟨oc, od, kV, doc, pm, an, cdv, ct, osl, rfl, lk, hcd⟩ := F.ex
    have := hB d hm kV doc pm an cdv ct [u] (by rw [hps]; rfl)
    refine .of_eq ?_
    rw [this, hps]
    rfl
  · have := table_ok (P := P) (w := w) (base := base) (cl := []) hT hK' (fun j x y e1 e2 => by
      obtain ⟨u, v, h1, h2, h3⟩ := hg j x y e1 e2
      exact ⟨u, v, PySem.W.mg_of X G h1, h2, h3⟩) (fun x hx => PySem.W.mg_none_of X G (hbl x hx)) k i d hd fa fd F
    rw [hps, hok] at this
    exact this
end
end Den

set_option maxHeartbeats 4000000
/-! Den, part 13: reckoning. -/
namespace Den
open PySem PySem.Spec PyProof.Rows L2
section
variable (cf : CF) (gs : List T) (b : Nat)
/-! what is left to do behind a piece: by name, so that it is not looked at ahead of its time -/
def kTup : List D → Store → Res D := fun as S => if as.length ≤ sizeLine then .ok (mkTup as) S else .bad
def kLst (m : Bool) : List D → Store → Res D := fun as S => if as.length ≤ sizeLine then (if m = true then .ok (.ref S.length) (S ++ [.lst as]) else lift (mkLst as) S) else .bad
def kBin2 (op : Operator) (u : D) : D → Store → Res D := fun v S => lift (binD op S u v) S
def kBin1 (op : Operator) (y : E) (ds : Sl) : D → Store → Res D := fun u S => (evE cf gs b y ds S).bind (kBin2 op u)
def kNeg : D → Store → Res D := fun u S => match u with
  | .t (.int i) => .ok (.t (.int (-i))) S
  | _ => .bad
def kCmp2 (op : CmpOp) (u : D) : D → Store → Res D := fun v S => lift ((cmpD op S u v).map fun k => .t (.bool k)) S
def kCmp1 (op : CmpOp) (y : E) (ds : Sl) : D → Store → Res D := fun u S => (evE cf gs b y ds S).bind (kCmp2 op u)
def kCh4 (q : CmpOp) (v : D) : D → Store → Res D := fun w S => lift ((cmpD q S v w).map fun k => .t (.bool k)) S
def kCh3 (q : CmpOp) (z : E) (ds : Sl) (v : D) : Bool → Store → Res D := fun k S => if k = true then (evE cf gs b z ds S).bind (kCh4 q v) else .ok (.t (.bool false)) S
def kCh2 (p q : CmpOp) (z : E) (ds : Sl) (u : D) : D → Store → Res D := fun v S => (lift (cmpD p S u v) S).bind (kCh3 cf gs b q z ds v)
def kCh1 (p q : CmpOp) (y z : E) (ds : Sl) : D → Store → Res D := fun u S => (evE cf gs b y ds S).bind (kCh2 cf gs b p q z ds u)
def kNot : D → Store → Res D := fun u S => lift ((truthD S u).map fun k => .t (.bool (!k))) S
def kIte2 (x y : E) (ds : Sl) : Bool → Store → Res D := fun k S => if k = true then evE cf gs b x ds S else evE cf gs b y ds S
def kIte (x y : E) (ds : Sl) : D → Store → Res D := fun u S => (lift (truthD S u) S).bind (kIte2 cf gs b x y ds)
def kIdx2 (u : D) : D → Store → Res D := fun v S => lift (idxD S u v) S
def kIdx1 (i : E) (ds : Sl) : D → Store → Res D := fun u S => (evE cf gs b i ds S).bind (kIdx2 u)
def kSl3 (u : D) (l : Option Int) : Option Int → Store → Res D := fun h S => lift (slcD S u l h) S
def kSl2 (hi : OE) (ds : Sl) (u : D) : Option Int → Store → Res D := fun l S => (evOE cf gs b hi ds S).bind (kSl3 u l)
def kSl1 (lo hi : OE) (ds : Sl) : D → Store → Res D := fun u S => (evOE cf gs b lo ds S).bind (kSl2 cf gs b hi ds u)
def kCall (f : Nat) : List D → Store → Res D := fun as S => cf f b as S
def kBlt (o : Blt) : List D → Store → Res D := fun as S => lift (bltD o S as) S
def kIsi (ty : String) : D → Store → Res D := fun u S => lift ((isiD S u ty).map fun k => .t (.bool k)) S
def kFrz : D → Store → Res D := fun u S => match frzD S u with | some p => .ok p.1 p.2 | none => .bad
def kBack : D → Store → Res D := fun u S => lift (backD u) S
def kMth2 (m : Mth) (u : D) : List D → Store → Res D := fun as S => lift (mthD m S u as) S
def kMth1 (m : Mth) (xs : Es) (ds : Sl) : D → Store → Res D := fun u S => if isStrD u = true then (evEs cf gs b xs ds S).bind (kMth2 m u) else .bad
def kEs2 (u : D) : List D → Store → Res (List D) := fun us S => .ok (u :: us) S
def kEs (r : Es) (ds : Sl) : D → Store → Res (List D) := fun u S => (evEs cf gs b r ds S).bind (kEs2 u)
def kAnd2 (y : E) (r : Es) (ds : Sl) (u : D) : Bool → Store → Res D := fun k S => if k = true then evAnd cf gs b (.cons y r) ds S else .ok u S
def kAnd (y : E) (r : Es) (ds : Sl) : D → Store → Res D := fun u S => (lift (truthD S u) S).bind (kAnd2 cf gs b y r ds u)
def kOr2 (y : E) (r : Es) (ds : Sl) (u : D) : Bool → Store → Res D := fun k S => if k = true then .ok u S else evOr cf gs b (.cons y r) ds S
def kOr (y : E) (r : Es) (ds : Sl) : D → Store → Res D := fun u S => (lift (truthD S u) S).bind (kOr2 cf gs b y r ds u)
def kTru : D → Store → Res Bool := fun u S => lift (truthD S u) S
def kOE : D → Store → Res (Option Int) := fun u S => match u with | .t (.int i) => .ok (some i) S | _ => .bad
def kRng : D → Store → Res (List D) := fun u S => match u with
    | .t (.int j) => if -(2 ^ 62) ≤ j ∧ j < 2 ^ 62 then .ok (rangeD 0 j) S else .bad
    | _ => .bad
def kRn2 (u : D) : D → Store → Res (List D) := fun v S => match u, v with
    | .t (.int i), .t (.int j) => if -(2 ^ 62) ≤ i ∧ i < 2 ^ 62 ∧ -(2 ^ 62) ≤ j ∧ j < 2 ^ 62 then .ok (rangeD i j) S else .bad
    | _, _ => .bad
def kRn1 (y : E) (ds : Sl) : D → Store → Res (List D) := fun u S => (evE cf gs b y ds S).bind (kRn2 u)
def kZp2 (u : D) : D → Store → Res (List D) := fun v S => match lstI u, lstI v with
    | some us, some vs => .ok ((us.zip vs).map fun p => mkTup [p.1, p.2]) S
    | _, _ => match tupI u, tupI v with
      | some us, some vs => .ok ((us.zip vs).map fun p => mkTup [p.1, p.2]) S
      | _, _ => .bad
def kZp1 (y : E) (ds : Sl) : D → Store → Res (List D) := fun u S => (evE cf gs b y ds S).bind (kZp2 u)
def kEnu2 : List D → Store → Res (List D) := fun us S => .ok (enumD us) S
def kEnu : D → Store → Res (List D) := fun u S => (lift (enumI u) S).bind kEnu2
def kLz2 (u : D) : D → Store → Res D := fun v S => lift (lzipD u v) S
def kLz1 (y : E) (ds : Sl) : D → Store → Res D := fun u S => (evE cf gs b y ds S).bind (kLz2 u)
def kSrt : D → Store → Res D := fun u S => lift (srtD S u) S
def kPop : D → Store → Res D := fun u S => match popD S u with | some p => .ok p.1 p.2 | none => .bad
def kDc2 (m : Bool) : List (Key × D) → Store → Res D := fun kvs S => if kvs.length ≤ 15 then (if m = true then .ok (.ref S.length) (S ++ [.dK (mergeD kvs)]) else lift (mkDct (mergeD kvs)) S) else .bad
def kDc1 (m : Bool) : List D → Store → Res D := fun us S => (lift (pairsD us) S).bind (kDc2 m)
def kGe3 (u v : D) : D → Store → Res D := fun w S => lift (getO S u v w) S
def kGe2 (y : E) (ds : Sl) (u : D) : D → Store → Res D := fun v S => (evE cf gs b y ds S).bind (kGe3 u v)
def kGe1 (x y : E) (ds : Sl) : D → Store → Res D := fun u S => if isDict S u = true then (evE cf gs b x ds S).bind (kGe2 cf gs b y ds u) else .bad
def kGf2 (u : D) : D → Store → Res D := fun v S => lift (getO S u v (.t .none)) S
def kGf1 (x : E) (ds : Sl) : D → Store → Res D := fun u S => if isDict S u = true then (evE cf gs b x ds S).bind (kGf2 u) else .bad
def kTgs (r : Tgs) (us : List D) : Sl → Store → Res Sl := fun ds S => evTgs cf gs b r us ds S
def kTi2 (d : D) (ds : Sl) (u : D) : D → Store → Res Sl := fun v S => match setD b S u v d with | some S => .ok ds S | none => .bad
def kTi1 (i : E) (d : D) (ds : Sl) : D → Store → Res Sl := fun u S => ((evE cf gs b i ds S).noexc).bind (kTi2 b d ds u)
def kNx : Sl → Store → SRes := fun ds S => .nx ds S
def kAsg (t : Tg) (ds : Sl) : D → Store → SRes := fun d S => thenS (evTg cf gs b t d ds S).noexc ds kNx
def kPar2 (i j : Nat) (u : D) (ds : Sl) : D → Store → SRes := fun v S => .nx ((ds.set i (some u)).set j (some v)) S
def kPar1 (i j : Nat) (y : E) (ds : Sl) : D → Store → SRes := fun u S => thenS (evE cf gs b y ds S) ds (kPar2 i j u ds)
def kAug (i : Nat) (op : Operator) (u : D) (ds : Sl) : D → Store → SRes := fun v S => match augD op u v with
      | some z => .nx (ds.set i (some (.t z))) S
      | none => .bad
def kExp (ds : Sl) : D → Store → SRes := fun _ S => .nx ds S
def kApp2 (u : D) (ds : Sl) : D → Store → SRes := fun v S => match appD b S u v with
    | some S => .nx ds S
    | none => .bad
def kApp1 (e : E) (ds : Sl) : D → Store → SRes := fun u S => if isLst S u = true then thenS (evE cf gs b e ds S) ds (kApp2 b u ds) else .bad
def kExt2 (u : D) (ds : Sl) : D → Store → SRes := fun v S => match extD S u v with
    | some S => .nx ds S
    | none => .bad
def kExt1 (e : E) (ds : Sl) : D → Store → SRes := fun u S => if isLst S u = true then thenS (evE cf gs b e ds S) ds (kExt2 u ds) else .bad
def kRet : D → Store → SRes := fun d S => .ret d S
def kIf (x y : Ss) (ds : Sl) : Bool → Store → SRes := fun k S => if k = true then evSs cf gs b x ds S else evSs cf gs b y ds S
def kSs (x : Ss) : Sl → Store → SRes := fun ds S => evSs cf gs b x ds S
def fBd (t : Tg) (x : Ss) : D → Sl → Store → SRes := fun d ds S => thenS (evTg cf gs b t d ds S).noexc ds (kSs cf gs b x)
def kFor (t : Tg) (x : Ss) (ds : Sl) : List D → Store → SRes := fun xs S => forD (fBd cf gs b t x) xs ds S
end
section
variable {cf : CF} {gs : List T} {b : Nat} {ds : Sl} {S : Store}
@[simp] theorem kTup_ap  (as : List D) (S : Store) : kTup as S = (if as.length ≤ sizeLine then .ok (mkTup as) S else .bad) := (rfl)
@[simp] theorem kLst_ap (m : Bool) (as : List D) (S : Store) : kLst m as S = (if as.length ≤ sizeLine then (if m = true then .ok (.ref S.length) (S ++ [.lst as]) else lift (mkLst as) S) else .bad) := (rfl)
@[simp] theorem kBin2_ap (op : Operator) (u : D) (v : D) (S : Store) : kBin2 op u v S = (lift (binD op S u v) S) := (rfl)
@[simp] theorem kBin1_ap (op : Operator) (y : E) (ds : Sl) (u : D) (S : Store) : kBin1 cf gs b op y ds u S = ((evE cf gs b y ds S).bind (kBin2 op u)) := (rfl)
@[simp] theorem kNeg_ap  (u : D) (S : Store) : kNeg u S = (match u with
  | .t (.int i) => .ok (.t (.int (-i))) S
  | _ => .bad) := (rfl)
@[simp] theorem kCmp2_ap (op : CmpOp) (u : D) (v : D) (S : Store) : kCmp2 op u v S = (lift ((cmpD op S u v).map fun k => .t (.bool k)) S) := (rfl)
@[simp] theorem kCmp1_ap (op : CmpOp) (y : E) (ds : Sl) (u : D) (S : Store) : kCmp1 cf gs b op y ds u S = ((evE cf gs b y ds S).bind (kCmp2 op u)) := (rfl)
@[simp] theorem kCh4_ap (q : CmpOp) (v : D) (w : D) (S : Store) : kCh4 q v w S = (lift ((cmpD q S v w).map fun k => .t (.bool k)) S) := (rfl)
@[simp] theorem kCh2_ap (p q : CmpOp) (z : E) (ds : Sl) (u : D) (v : D) (S : Store) : kCh2 cf gs b p q z ds u v S = ((lift (cmpD p S u v) S).bind (kCh3 cf gs b q z ds v)) := (rfl)
@[simp] theorem kCh1_ap (p q : CmpOp) (y z : E) (ds : Sl) (u : D) (S : Store) : kCh1 cf gs b p q y z ds u S = ((evE cf gs b y ds S).bind (kCh2 cf gs b p q z ds u)) := (rfl)
@[simp] theorem kNot_ap  (u : D) (S : Store) : kNot u S = (lift ((truthD S u).map fun k => .t (.bool (!k))) S) := (rfl)
@[simp] theorem kIte_ap (x y : E) (ds : Sl) (u : D) (S : Store) : kIte cf gs b x y ds u S = ((lift (truthD S u) S).bind (kIte2 cf gs b x y ds)) := (rfl)
@[simp] theorem kIdx2_ap (u : D) (v : D) (S : Store) : kIdx2 u v S = (lift (idxD S u v) S) := (rfl)
@[simp] theorem kIdx1_ap (i : E) (ds : Sl) (u : D) (S : Store) : kIdx1 cf gs b i ds u S = ((evE cf gs b i ds S).bind (kIdx2 u)) := (rfl)
@[simp] theorem kSl3_ap (u : D) (l : Option Int) (h : Option Int) (S : Store) : kSl3 u l h S = (lift (slcD S u l h) S) := (rfl)
@[simp] theorem kSl2_ap (hi : OE) (ds : Sl) (u : D) (l : Option Int) (S : Store) : kSl2 cf gs b hi ds u l S = ((evOE cf gs b hi ds S).bind (kSl3 u l)) := (rfl)
@[simp] theorem kSl1_ap (lo hi : OE) (ds : Sl) (u : D) (S : Store) : kSl1 cf gs b lo hi ds u S = ((evOE cf gs b lo ds S).bind (kSl2 cf gs b hi ds u)) := (rfl)
@[simp] theorem kCall_ap (f : Nat) (as : List D) (S : Store) : kCall cf b f as S = (cf f b as S) := (rfl)
@[simp] theorem kBlt_ap (o : Blt) (as : List D) (S : Store) : kBlt o as S = (lift (bltD o S as) S) := (rfl)
@[simp] theorem kIsi_ap (ty : String) (u : D) (S : Store) : kIsi ty u S = (lift ((isiD S u ty).map fun k => .t (.bool k)) S) := (rfl)
@[simp] theorem kFrz_ap  (u : D) (S : Store) : kFrz u S = (match frzD S u with | some p => .ok p.1 p.2 | none => .bad) := (rfl)
@[simp] theorem kBack_ap  (u : D) (S : Store) : kBack u S = (lift (backD u) S) := (rfl)
@[simp] theorem kMth2_ap (m : Mth) (u : D) (as : List D) (S : Store) : kMth2 m u as S = (lift (mthD m S u as) S) := (rfl)
@[simp] theorem kMth1_ap (m : Mth) (xs : Es) (ds : Sl) (u : D) (S : Store) : kMth1 cf gs b m xs ds u S = (if isStrD u = true then (evEs cf gs b xs ds S).bind (kMth2 m u) else .bad) := (rfl)
@[simp] theorem kEs2_ap (u : D) (us : List D) (S : Store) : kEs2 u us S = (.ok (u :: us) S) := (rfl)
@[simp] theorem kEs_ap (r : Es) (ds : Sl) (u : D) (S : Store) : kEs cf gs b r ds u S = ((evEs cf gs b r ds S).bind (kEs2 u)) := (rfl)
@[simp] theorem kAnd_ap (y : E) (r : Es) (ds : Sl) (u : D) (S : Store) : kAnd cf gs b y r ds u S = ((lift (truthD S u) S).bind (kAnd2 cf gs b y r ds u)) := (rfl)
@[simp] theorem kOr_ap (y : E) (r : Es) (ds : Sl) (u : D) (S : Store) : kOr cf gs b y r ds u S = ((lift (truthD S u) S).bind (kOr2 cf gs b y r ds u)) := (rfl)
@[simp] theorem kTru_ap  (u : D) (S : Store) : kTru u S = (lift (truthD S u) S) := (rfl)
@[simp] theorem kOE_ap  (u : D) (S : Store) : kOE u S = (match u with | .t (.int i) => .ok (some i) S | _ => .bad) := (rfl)
@[simp] theorem kRng_ap  (u : D) (S : Store) : kRng u S = (match u with
    | .t (.int j) => if -(2 ^ 62) ≤ j ∧ j < 2 ^ 62 then .ok (rangeD 0 j) S else .bad
    | _ => .bad) := (rfl)
@[simp] theorem kRn2_ap (u : D) (v : D) (S : Store) : kRn2 u v S = (match u, v with
    | .t (.int i), .t (.int j) => if -(2 ^ 62) ≤ i ∧ i < 2 ^ 62 ∧ -(2 ^ 62) ≤ j ∧ j < 2 ^ 62 then .ok (rangeD i j) S else .bad
    | _, _ => .bad) := (rfl)
@[simp] theorem kRn1_ap (y : E) (ds : Sl) (u : D) (S : Store) : kRn1 cf gs b y ds u S = ((evE cf gs b y ds S).bind (kRn2 u)) := (rfl)
@[simp] theorem kZp2_ap (u : D) (v : D) (S : Store) : kZp2 u v S = (match lstI u, lstI v with
    | some us, some vs => .ok ((us.zip vs).map fun p => mkTup [p.1, p.2]) S
    | _, _ => match tupI u, tupI v with
      | some us, some vs => .ok ((us.zip vs).map fun p => mkTup [p.1, p.2]) S
      | _, _ => .bad) := (rfl)
@[simp] theorem kZp1_ap (y : E) (ds : Sl) (u : D) (S : Store) : kZp1 cf gs b y ds u S = ((evE cf gs b y ds S).bind (kZp2 u)) := (rfl)
@[simp] theorem kEnu2_ap (us : List D) (S : Store) : kEnu2 us S = (.ok (enumD us) S) := (rfl)
@[simp] theorem kEnu_ap  (u : D) (S : Store) : kEnu u S = ((lift (enumI u) S).bind kEnu2) := (rfl)
@[simp] theorem kLz2_ap (u v : D) (S : Store) : kLz2 u v S = (lift (lzipD u v) S) := (rfl)
@[simp] theorem kLz1_ap (y : E) (ds : Sl) (u : D) (S : Store) : kLz1 cf gs b y ds u S = ((evE cf gs b y ds S).bind (kLz2 u)) := (rfl)
@[simp] theorem kSrt_ap (u : D) (S : Store) : kSrt u S = (lift (srtD S u) S) := (rfl)
@[simp] theorem kPop_ap (u : D) (S : Store) : kPop u S = (match popD S u with | some p => .ok p.1 p.2 | none => .bad) := (rfl)
@[simp] theorem kDc2_ap (m : Bool) (kvs : List (Key × D)) (S : Store) : kDc2 m kvs S = (if kvs.length ≤ 15 then (if m = true then .ok (.ref S.length) (S ++ [.dK (mergeD kvs)]) else lift (mkDct (mergeD kvs)) S) else .bad) := (rfl)
@[simp] theorem kDc1_ap (m : Bool) (us : List D) (S : Store) : kDc1 m us S = ((lift (pairsD us) S).bind (kDc2 m)) := (rfl)
@[simp] theorem kGe3_ap (u v w : D) (S : Store) : kGe3 u v w S = (lift (getO S u v w) S) := (rfl)
@[simp] theorem kGe2_ap (y : E) (ds : Sl) (u v : D) (S : Store) : kGe2 cf gs b y ds u v S = ((evE cf gs b y ds S).bind (kGe3 u v)) := (rfl)
@[simp] theorem kGe1_ap (x y : E) (ds : Sl) (u : D) (S : Store) : kGe1 cf gs b x y ds u S = (if isDict S u = true then (evE cf gs b x ds S).bind (kGe2 cf gs b y ds u) else .bad) := (rfl)
@[simp] theorem kGf2_ap (u v : D) (S : Store) : kGf2 u v S = (lift (getO S u v (.t .none)) S) := (rfl)
@[simp] theorem kGf1_ap (x : E) (ds : Sl) (u : D) (S : Store) : kGf1 cf gs b x ds u S = (if isDict S u = true then (evE cf gs b x ds S).bind (kGf2 u) else .bad) := (rfl)
@[simp] theorem kExt2_ap (u : D) (ds : Sl) (v : D) (S : Store) : kExt2 u ds v S = (match extD S u v with
    | some S => .nx ds S
    | none => .bad) := (rfl)
@[simp] theorem kExt1_ap (e : E) (ds : Sl) (u : D) (S : Store) : kExt1 cf gs b e ds u S = (if isLst S u = true then thenS (evE cf gs b e ds S) ds (kExt2 u ds) else .bad) := (rfl)
@[simp] theorem kTgs_ap (r : Tgs) (us : List D) (ds : Sl) (S : Store) : kTgs cf gs b r us ds S = (evTgs cf gs b r us ds S) := (rfl)
@[simp] theorem kTi2_ap (d : D) (ds : Sl) (u : D) (v : D) (S : Store) : kTi2 b d ds u v S = (match setD b S u v d with | some S => .ok ds S | none => .bad) := (rfl)
@[simp] theorem kTi1_ap (i : E) (d : D) (ds : Sl) (u : D) (S : Store) : kTi1 cf gs b i d ds u S = (((evE cf gs b i ds S).noexc).bind (kTi2 b d ds u)) := (rfl)
@[simp] theorem kNx_ap  (ds : Sl) (S : Store) : kNx ds S = (.nx ds S) := (rfl)
@[simp] theorem kAsg_ap (t : Tg) (ds : Sl) (d : D) (S : Store) : kAsg cf gs b t ds d S = (thenS (evTg cf gs b t d ds S).noexc ds kNx) := (rfl)
@[simp] theorem kPar2_ap (i j : Nat) (u : D) (ds : Sl) (v : D) (S : Store) : kPar2 i j u ds v S = (.nx ((ds.set i (some u)).set j (some v)) S) := (rfl)
@[simp] theorem kPar1_ap (i j : Nat) (y : E) (ds : Sl) (u : D) (S : Store) : kPar1 cf gs b i j y ds u S = (thenS (evE cf gs b y ds S) ds (kPar2 i j u ds)) := (rfl)
@[simp] theorem kAug_ap (i : Nat) (op : Operator) (u : D) (ds : Sl) (v : D) (S : Store) : kAug i op u ds v S = (match augD op u v with
      | some z => .nx (ds.set i (some (.t z))) S
      | none => .bad) := (rfl)
@[simp] theorem kExp_ap (ds : Sl) (w0 : D) (S : Store) : kExp ds w0 S = (.nx ds S) := (rfl)
@[simp] theorem kApp2_ap (u : D) (ds : Sl) (v : D) (S : Store) : kApp2 b u ds v S = (match appD b S u v with
    | some S => .nx ds S
    | none => .bad) := (rfl)
@[simp] theorem kApp1_ap (e : E) (ds : Sl) (u : D) (S : Store) : kApp1 cf gs b e ds u S = (if isLst S u = true then thenS (evE cf gs b e ds S) ds (kApp2 b u ds) else .bad) := (rfl)
@[simp] theorem kRet_ap  (d : D) (S : Store) : kRet d S = (.ret d S) := (rfl)
@[simp] theorem kSs_ap (x : Ss) (ds : Sl) (S : Store) : kSs cf gs b x ds S = (evSs cf gs b x ds S) := (rfl)
@[simp] theorem fBd_ap (t : Tg) (x : Ss) (d : D) (ds : Sl) (S : Store) : fBd cf gs b t x d ds S = (thenS (evTg cf gs b t d ds S).noexc ds (kSs cf gs b x)) := (rfl)
theorem kFor_ap (t : Tg) (x : Ss) (ds0 : Sl) (xs : List D) : kFor cf gs b t x ds0 xs S = forD (fBd cf gs b t x) xs ds0 S := (rfl)
@[simp] theorem kCh3_t (q : CmpOp) (z : E) (v : D) : kCh3 cf gs b q z ds v true S = (evE cf gs b z ds S).bind (kCh4 q v) := (rfl)
@[simp] theorem kCh3_f (q : CmpOp) (z : E) (v : D) : kCh3 cf gs b q z ds v false S = .ok (.t (.bool false)) S := (rfl)
@[simp] theorem kIte2_t (x y : E) : kIte2 cf gs b x y ds true S = evE cf gs b x ds S := (rfl)
@[simp] theorem kIte2_f (x y : E) : kIte2 cf gs b x y ds false S = evE cf gs b y ds S := (rfl)
@[simp] theorem kAnd2_t (y : E) (r : Es) (u : D) : kAnd2 cf gs b y r ds u true S = evAnd cf gs b (.cons y r) ds S := (rfl)
@[simp] theorem kAnd2_f (y : E) (r : Es) (u : D) : kAnd2 cf gs b y r ds u false S = .ok u S := (rfl)
@[simp] theorem kOr2_t (y : E) (r : Es) (u : D) : kOr2 cf gs b y r ds u true S = .ok u S := (rfl)
@[simp] theorem kOr2_f (y : E) (r : Es) (u : D) : kOr2 cf gs b y r ds u false S = evOr cf gs b (.cons y r) ds S := (rfl)
@[simp] theorem kIf_t (x y : Ss) : kIf cf gs b x y ds true S = evSs cf gs b x ds S := (rfl)
@[simp] theorem kIf_f (x y : Ss) : kIf cf gs b x y ds false S = evSs cf gs b y ds S := (rfl)
@[simp] theorem evE_v (i : Nat) : evE cf gs b (.v i) ds S = (match ds[i]? with | some (some d) => .ok d S | _ => .bad) := by rw [evE] <;> rfl
@[simp] theorem evE_c (x : T) : evE cf gs b (.c x) ds S = .ok (.t x) S := by rw [evE] <;> rfl
@[simp] theorem evE_g (j : Nat) : evE cf gs b (.g j) ds S = (match gs[j]? with | some x => .ok (kD x) S | none => .bad) := by rw [evE] <;> rfl
@[simp] theorem evE_tup (xs : Es) : evE cf gs b (.tup xs) ds S = (evEs cf gs b xs ds S).bind kTup := by rw [evE] <;> rfl
@[simp] theorem evE_lst (m : Bool) (xs : Es) : evE cf gs b (.lst m xs) ds S = (evEs cf gs b xs ds S).bind (kLst m) := by rw [evE] <;> rfl
@[simp] theorem evE_bin (op : Operator) (x y : E) : evE cf gs b (.bin op x y) ds S = (evE cf gs b x ds S).bind (kBin1 cf gs b op y ds) := by rw [evE] <;> rfl
@[simp] theorem evE_neg (x : E) : evE cf gs b (.neg x) ds S = (evE cf gs b x ds S).bind kNeg := by rw [evE] <;> rfl
@[simp] theorem evE_cmp (op : CmpOp) (x y : E) : evE cf gs b (.cmp op x y) ds S = (evE cf gs b x ds S).bind (kCmp1 cf gs b op y ds) := by rw [evE] <;> rfl
@[simp] theorem evE_chain (p q : CmpOp) (x y z : E) : evE cf gs b (.chain p q x y z) ds S = (evE cf gs b x ds S).bind (kCh1 cf gs b p q y z ds) := by rw [evE] <;> rfl
@[simp] theorem evE_and (xs : Es) : evE cf gs b (.and xs) ds S = evAnd cf gs b xs ds S := by rw [evE] <;> rfl
@[simp] theorem evE_or (xs : Es) : evE cf gs b (.or xs) ds S = evOr cf gs b xs ds S := by rw [evE] <;> rfl
@[simp] theorem evE_not (x : E) : evE cf gs b (.not x) ds S = (evE cf gs b x ds S).bind kNot := by rw [evE] <;> rfl
@[simp] theorem evE_ite (c x y : E) : evE cf gs b (.ite c x y) ds S = (evE cf gs b c ds S).bind (kIte cf gs b x y ds) := by rw [evE] <;> rfl
@[simp] theorem evE_idx (x i : E) : evE cf gs b (.idx x i) ds S = (evE cf gs b x ds S).bind (kIdx1 cf gs b i ds) := by rw [evE] <;> rfl
@[simp] theorem evE_slc (x : E) (lo hi : OE) : evE cf gs b (.slc x lo hi) ds S = (evE cf gs b x ds S).bind (kSl1 cf gs b lo hi ds) := by rw [evE] <;> rfl
@[simp] theorem evE_call (f : Nat) (xs : Es) : evE cf gs b (.call f xs .nil []) ds S = (evEs cf gs b xs ds S).bind (kCall cf b f) := by rw [evE_call0] <;> rfl
@[simp] theorem evE_blt (o : Blt) (xs : Es) : evE cf gs b (.blt o xs) ds S = (evEs cf gs b xs ds S).bind (kBlt o) := by rw [evE] <;> rfl
@[simp] theorem evE_isi (x : E) (ty : String) : evE cf gs b (.isi x ty) ds S = (evE cf gs b x ds S).bind (kIsi ty) := by rw [evE] <;> rfl
@[simp] theorem evE_frz (x : E) : evE cf gs b (.frz x) ds S = (evE cf gs b x ds S).bind kFrz := by rw [evE] <;> rfl
@[simp] theorem evE_back (x : E) : evE cf gs b (.back x) ds S = (evE cf gs b x ds S).bind kBack := by rw [evE] <;> rfl
@[simp] theorem evE_mth (m : Mth) (o : E) (xs : Es) : evE cf gs b (.mth m o xs) ds S = (evE cf gs b o ds S).bind (kMth1 cf gs b m xs ds) := by rw [evE] <;> rfl
@[simp] theorem evE_dead : evE cf gs b .dead ds S = .bad := by rw [evE] <;> rfl
@[simp] theorem evE_lzip (x y : E) : evE cf gs b (.lzip x y) ds S = (evE cf gs b x ds S).bind (kLz1 cf gs b y ds) := by rw [evE] <;> rfl
@[simp] theorem evE_srt (x : E) : evE cf gs b (.srt x) ds S = (evE cf gs b x ds S).bind kSrt := by rw [evE] <;> rfl
@[simp] theorem evE_pop (x : E) : evE cf gs b (.pop x) ds S = (evE cf gs b x ds S).bind kPop := by rw [evE] <;> rfl
@[simp] theorem evE_dct (m : Bool) (xs : Es) : evE cf gs b (.dct m xs) ds S = (evEs cf gs b xs ds S).bind (kDc1 m) := by rw [evE] <;> rfl
@[simp] theorem evE_get1 (o x : E) : evE cf gs b (.get1 o x) ds S = (evE cf gs b o ds S).bind (kGf1 cf gs b x ds) := by rw [evE] <;> rfl
@[simp] theorem evE_get2 (o x y : E) : evE cf gs b (.get2 o x y) ds S = (evE cf gs b o ds S).bind (kGe1 cf gs b x y ds) := by rw [evE] <;> rfl
theorem evE_comp2 (m : Bool) (t : Tg) (i : Wk) (cs : Es) (t' : Tg) (i' : Wk) (cs' : Es) (e : E) : evE cf gs b (.comp2 m t i cs t' i' cs' e) ds S = comp2D m (evIt cf gs b i) (evTg cf gs b t) (evTs cf gs b cs) (evIt cf gs b i') (evTg cf gs b t') (evTs cf gs b cs') (evE cf gs b e) (t.slots ++ t'.slots) t'.slots ds S := by rw [evE] <;> rfl
theorem evE_comp (m : Bool) (t : Tg) (i : Wk) (cs : Es) (e : E) : evE cf gs b (.comp m t i cs e) ds S = compD m (evIt cf gs b i) (evTg cf gs b t) (evTs cf gs b cs) (evE cf gs b e) t.slots ds S := by rw [evE] <;> rfl
@[simp] theorem evEs_nil  : evEs cf gs b .nil ds S = .ok [] S := by rw [evEs] <;> rfl
@[simp] theorem evEs_cons (x : E) (r : Es) : evEs cf gs b (.cons x r) ds S = (evE cf gs b x ds S).bind (kEs cf gs b r ds) := by rw [evEs] <;> rfl
@[simp] theorem evAnd_one (x : E) : evAnd cf gs b (.cons x .nil) ds S = evE cf gs b x ds S := by rw [evAnd] <;> rfl
@[simp] theorem evAnd_cons (x y : E) (r : Es) : evAnd cf gs b (.cons x (.cons y r)) ds S = (evE cf gs b x ds S).bind (kAnd cf gs b y r ds) := by rw [evAnd] <;> rfl
@[simp] theorem evOr_one (x : E) : evOr cf gs b (.cons x .nil) ds S = evE cf gs b x ds S := by rw [evOr] <;> rfl
@[simp] theorem evOr_cons (x y : E) (r : Es) : evOr cf gs b (.cons x (.cons y r)) ds S = (evE cf gs b x ds S).bind (kOr cf gs b y r ds) := by rw [evOr] <;> rfl
@[simp] theorem evTs_nil  : evTs cf gs b .nil ds S = .ok true S := by rw [evTs] <;> rfl
@[simp] theorem evTs_one (x : E) : evTs cf gs b (.cons x .nil) ds S = (evE cf gs b x ds S).bind kTru := by rw [evTs] <;> rfl
@[simp] theorem evOE_no  : evOE cf gs b .no ds S = .ok none S := by rw [evOE] <;> rfl
@[simp] theorem evOE_yes (x : E) : evOE cf gs b (.yes x) ds S = (evE cf gs b x ds S).bind kOE := by rw [evOE] <;> rfl
@[simp] theorem evIt_seq (x : E) : evIt cf gs b (.seq x) ds S = (evE cf gs b x ds S).bind seqI := by rw [evIt] <;> rfl
@[simp] theorem evIt_rng1 (x : E) : evIt cf gs b (.rng1 x) ds S = (evE cf gs b x ds S).bind kRng := by rw [evIt] <;> rfl
@[simp] theorem evIt_rng2 (x y : E) : evIt cf gs b (.rng2 x y) ds S = (evE cf gs b x ds S).bind (kRn1 cf gs b y ds) := by rw [evIt] <;> rfl
@[simp] theorem evIt_zip (x y : E) : evIt cf gs b (.zip x y) ds S = (evE cf gs b x ds S).bind (kZp1 cf gs b y ds) := by rw [evIt] <;> rfl
@[simp] theorem evIt_enum (x : E) : evIt cf gs b (.enum x) ds S = (evE cf gs b x ds S).bind kEnu := by rw [evIt] <;> rfl
@[simp] theorem evTg_v (i : Nat) (d : D) : evTg cf gs b (.v i) d ds S = .ok (ds.set i (some d)) S := by rw [evTg] <;> rfl
@[simp] theorem evTg_tup (ts : Tgs) (d : D) : evTg cf gs b (.tup ts) d ds S = (match tupI d with | some us => evTgs cf gs b ts us ds S | none => .bad) := by rw [evTg] <;> rfl
@[simp] theorem evTg_idx (o i : E) (d : D) : evTg cf gs b (.idx o i) d ds S = ((evE cf gs b o ds S).noexc).bind (kTi1 cf gs b i d ds) := by rw [evTg] <;> rfl
@[simp] theorem evTgs_nil  : evTgs cf gs b .nil [] ds S = .ok ds S := by rw [evTgs] <;> rfl
@[simp] theorem evTgs_cons (t : Tg) (r : Tgs) (d : D) (us : List D) : evTgs cf gs b (.cons t r) (d :: us) ds S = (evTg cf gs b t d ds S).bind (kTgs cf gs b r us) := by rw [evTgs] <;> rfl
@[simp] theorem evS_asg (t : Tg) (e : E) : evS cf gs b (.asg t e) ds S = thenS (evE cf gs b e ds S) ds (kAsg cf gs b t ds) := by rw [evS] <;> rfl
@[simp] theorem evS_par (i j : Nat) (x y : E) : evS cf gs b (.par i j x y) ds S = thenS (evE cf gs b x ds S) ds (kPar1 cf gs b i j y ds) := by rw [evS] <;> rfl
@[simp] theorem evS_aug (i : Nat) (op : Operator) (e : E) : evS cf gs b (.aug i op e) ds S = (match ds[i]? with | some (some u) => thenS (evE cf gs b e ds S) ds (kAug i op u ds) | _ => .bad) := by rw [evS] <;> rfl
@[simp] theorem evS_expr (e : E) : evS cf gs b (.expr e) ds S = thenS (evE cf gs b e ds S) ds (kExp ds) := by rw [evS] <;> rfl
@[simp] theorem evS_app (o e : E) : evS cf gs b (.app o e) ds S = thenS (evE cf gs b o ds S) ds (kApp1 cf gs b e ds) := by rw [evS] <;> rfl
@[simp] theorem evS_ext (o e : E) : evS cf gs b (.ext o e) ds S = thenS (evE cf gs b o ds S) ds (kExt1 cf gs b e ds) := by rw [evS] <;> rfl
@[simp] theorem evS_dead : evS cf gs b .dead ds S = .bad := by rw [evS] <;> rfl
@[simp] theorem evS_ret (e : E) : evS cf gs b (.ret e) ds S = thenS (evE cf gs b e ds S) ds kRet := by rw [evS] <;> rfl
@[simp] theorem evS_retN  : evS cf gs b .retN ds S = .ret (.t .none) S := by rw [evS] <;> rfl
@[simp] theorem evS_ife (c : E) (x y : Ss) : evS cf gs b (.ife c x y) ds S = thenS ((evE cf gs b c ds S).bind kTru) ds (kIf cf gs b x y ds) := by rw [evS] <;> rfl
theorem evS_whl (n : Nat) (c : E) (x : Ss) : evS cf gs b (.whl n c x) ds S = whileD (evT cf gs b c) (evSs cf gs b x) n ds S := by rw [evS] <;> rfl
@[simp] theorem evS_fr (t : Tg) (i : Wk) (x : Ss) : evS cf gs b (.fr t i x) ds S = thenS (evIt cf gs b i ds S) ds (kFor cf gs b t x ds) := by rw [evS] <;> rfl
@[simp] theorem evS_brk  : evS cf gs b .brk ds S = .brk ds S := by rw [evS] <;> rfl
@[simp] theorem evS_cont  : evS cf gs b .cont ds S = .cont ds S := by rw [evS] <;> rfl
@[simp] theorem evS_pass  : evS cf gs b .pass ds S = .nx ds S := by rw [evS] <;> rfl
@[simp] theorem evS_frz (i : Nat) : evS cf gs b (.frz i) ds S = (match frzS ds i S with | some p => .nx p.1 p.2 | none => .bad) := by rw [evS] <;> rfl
@[simp] theorem evSs_nil : evSs cf gs b .nil ds S = .nx ds S := by rw [evSs] <;> rfl
theorem evSs_cons (x : Den.S) (r : Ss) : evSs cf gs b (.cons x r) ds S = (match evS cf gs b x ds S with | .nx ds S => evSs cf gs b r ds S | q => q) := by
  rw [evSs] <;> (cases evS cf gs b x ds S <;> rfl)
/-- then -/
def SRes.andThen (r : SRes) (f : Sl → Store → SRes) : SRes := match r with
  | .nx ds S => f ds S
  | q => q
@[simp] theorem andThen_nx (f : Sl → Store → SRes) : (SRes.nx ds S).andThen f = f ds S := (rfl)
@[simp] theorem andThen_ret (d : D) (f : Sl → Store → SRes) : (SRes.ret d S).andThen f = .ret d S := (rfl)
@[simp] theorem andThen_brk (f : Sl → Store → SRes) : (SRes.brk ds S).andThen f = .brk ds S := (rfl)
@[simp] theorem andThen_cont (f : Sl → Store → SRes) : (SRes.cont ds S).andThen f = .cont ds S := (rfl)
@[simp] theorem andThen_bad (f : Sl → Store → SRes) : (SRes.bad).andThen f = .bad := (rfl)
@[simp] theorem andThen_exc (c : Nat) (fs : List (Str × D)) (f : Sl → Store → SRes) : (SRes.exc c fs ds S).andThen f = .exc c fs ds S := (rfl)
@[simp] theorem evSs_then (x : Den.S) (r : Ss) : evSs cf gs b (.cons x r) ds S = (evS cf gs b x ds S).andThen (evSs cf gs b r) := by
  rw [evSs_cons]
  cases evS cf gs b x ds S <;> rfl
theorem evT_eq (e : E) : evT cf gs b e ds S = (evE cf gs b e ds S).bind kTru := rfl
end
/-! ### calls -/
theorem callF_eq {P : List Fn} {gs : List T} {i : Nat} {fn : Fn} (h : P[i]? = some fn) {k b : Nat} {as : List D} {S : Store} : callF P gs (k + 1) i b as S = runF (callF P gs k) gs fn b as S := by
  show (match P[i]? with | some fn => runF (callF P gs k) gs fn b as S | none => .bad) = _
  rw [h]
/-- a def that keeps no cell: its answer is a tree -/
theorem run_ret {cf : CF} {gs : List T} {fn : Fn} {b : Nat} {as : List D} {S S' : Store} {d : D} (hk : fn.keep = false) (hl : as.length = fn.np) (h : evSs cf gs S.length fn.body (as.map some ++ List.replicate (fn.ns - fn.np) none) S = .ret d S') (hd : d.low S.length = true) :
    runF cf gs fn b as S = .ok d (S'.take S.length) := by
  unfold runF
  rw [if_pos hl, hk]
  simp only [Bool.false_eq_true, if_false, h, close, hd, if_true]
theorem run_keep {cf : CF} {gs : List T} {fn : Fn} {b : Nat} {as : List D} {S S' : Store} {d : D} (hk : fn.keep = true) (hl : as.length = fn.np) (h : evSs cf gs b fn.body (as.map some ++ List.replicate (fn.ns - fn.np) none) S = .ret d S') :
    runF cf gs fn b as S = .ok d S' := by
  unfold runF
  rw [if_pos hl, hk]
  simp only [if_true, h, close]
@[simp] theorem low_t (b : Nat) (x : T) : (D.t x).low b = true := (rfl)
@[simp] theorem low_k (b : Nat) (x : T) : (D.k x).low b = true := (rfl)
/-! ### values -/
section
variable {S : Store}
@[simp] theorem truth_bool (k : Bool) : truthD S (.t (.bool k)) = some k := (rfl)
@[simp] theorem truth_none : truthD S (.t .none) = some false := (rfl)
@[simp] theorem truth_int (i : Int) : truthD S (.t (.int i)) = some (i != 0) := (rfl)
@[simp] theorem truth_list (xs : List T) : truthD S (.t (.list xs)) = some (!xs.isEmpty) := (rfl)
@[simp] theorem truth_tuple (xs : List T) : truthD S (.t (.tuple xs)) = some (!xs.isEmpty) := (rfl)
@[simp] theorem cmp_lt (i j : Int) : cmpD .Lt S (.t (.int i)) (.t (.int j)) = some (decide (i < j)) := congrArg some (PySem.W.dataLt_int i j)
@[simp] theorem cmp_gt (i j : Int) : cmpD .Gt S (.t (.int i)) (.t (.int j)) = some (decide (j < i)) := congrArg some (PySem.W.dataLt_int j i)
@[simp] theorem cmp_le (i j : Int) : cmpD .LtE S (.t (.int i)) (.t (.int j)) = some (decide (i ≤ j)) := by
  show some (!PySem.W.dataLt (.int j) (.int i)) = _
  rw [PySem.W.dataLt_int]
  congr 1
  by_cases h : j < i
  · rw [decide_eq_true h, decide_eq_false (by omega)]; rfl
  · rw [decide_eq_false h, decide_eq_true (by omega)]; rfl
@[simp] theorem cmp_ge (i j : Int) : cmpD .GtE S (.t (.int i)) (.t (.int j)) = some (decide (j ≤ i)) := by
  show some (!PySem.W.dataLt (.int i) (.int j)) = _
  rw [PySem.W.dataLt_int]
  congr 1
  by_cases h : i < j
  · rw [decide_eq_true h, decide_eq_false (by omega)]; rfl
  · rw [decide_eq_false h, decide_eq_true (by omega)]; rfl
@[simp] theorem cmp_eq (i j : Int) : cmpD .Eq S (.t (.int i)) (.t (.int j)) = some (decide (i = j)) := (rfl)
@[simp] theorem cmp_ne (i j : Int) : cmpD .NotEq S (.t (.int i)) (.t (.int j)) = some (!decide (i = j)) := (rfl)
@[simp] theorem cmp_isN (x : T) : cmpD .Is S (.t x) (.t .none) = some (match x with | .none => true | _ => false) := by cases x <;> rfl
@[simp] theorem cmp_notN (x : T) : cmpD .IsNot S (.t x) (.t .none) = some (match x with | .none => false | _ => true) := by cases x <;> rfl
@[simp] theorem bin_add (i j : Int) : binD .Add S (.t (.int i)) (.t (.int j)) = some (.t (.int (i + j))) := (rfl)
@[simp] theorem bin_sub (i j : Int) : binD .Sub S (.t (.int i)) (.t (.int j)) = some (.t (.int (i - j))) := (rfl)
theorem bin_mul {i j : Int} (h : i.natAbs.log2 + j.natAbs.log2 < 1000000) : binD .Mult S (.t (.int i)) (.t (.int j)) = some (.t (.int (i * j))) := by
  show (guardB (decide (i.natAbs.log2 + j.natAbs.log2 < 1000000)) _).map _ = _
  rw [decide_eq_true h]; rfl
theorem bin_fdiv {i j : Int} (h : j ≠ 0) (h2 : j.natAbs.log2 < 9000) : binD .FloorDiv S (.t (.int i)) (.t (.int j)) = some (.t (.int (i.fdiv j))) := by
  show (guardB (decide (j ≠ 0) && decide (j.natAbs.log2 < 9000)) _).map _ = _
  rw [decide_eq_true h, decide_eq_true h2]; rfl
theorem bin_mod {i j : Int} (h : j ≠ 0) : binD .Mod S (.t (.int i)) (.t (.int j)) = some (.t (.int (i.fmod j))) := by
  show (guardB (decide (j ≠ 0)) _).map _ = _
  rw [decide_eq_true h]; rfl
theorem bin_pow {i j : Int} (h : 0 ≤ j) (h1 : j ≤ 1000000) (h2 : i.natAbs < 2 ^ 64) : binD .Pow S (.t (.int i)) (.t (.int j)) = some (.t (.int (i ^ j.toNat))) := by
  show (guardB (decide (0 ≤ j) && decide (j ≤ 1000000) && decide (i.natAbs < 2 ^ 64)) _).map _ = _
  rw [decide_eq_true h, decide_eq_true h1, decide_eq_true h2]; rfl
theorem bin_shl {i j : Int} (h : 0 ≤ j) (h1 : j ≤ 1000000) (h2 : i.natAbs < 2 ^ 64) : binD .LShift S (.t (.int i)) (.t (.int j)) = some (.t (.int (i * 2 ^ j.toNat))) := by
  show (guardB (decide (0 ≤ j) && decide (j ≤ 1000000) && decide (i.natAbs < 2 ^ 64)) _).map _ = _
  rw [decide_eq_true h, decide_eq_true h1, decide_eq_true h2]; rfl
theorem bin_lists {xs ys : List T} (h : xs.length + ys.length ≤ sizeLine) : binD .Add S (.t (.list xs)) (.t (.list ys)) = some (.t (.list (xs ++ ys))) := by
  show (guardB (decide (xs.length + ys.length ≤ sizeLine)) _).map _ = _
  rw [decide_eq_true h]; rfl
theorem log2_le {x : Nat} {n : Nat} (h : x ≤ 2 ^ n) : x.log2 ≤ n := by
  by_cases h0 : x = 0
  · subst h0; simp
  · have := Nat.log2_self_le h0
    exact (Nat.pow_le_pow_iff_right (by decide : 1 < 2)).mp (Nat.le_trans this h)
/-- a divisor that is small -/
theorem bin_fdivS {i j : Int} (h : 0 < j) (h2 : j < 2 ^ 64) : binD .FloorDiv S (.t (.int i)) (.t (.int j)) = some (.t (.int (i / j))) := by
  rw [bin_fdiv (by omega) (by
    have : j.natAbs.log2 ≤ 64 := log2_le (by omega)
    omega), Int.fdiv_eq_ediv_of_nonneg _ (by omega)]
theorem bin_modS {i j : Int} (h : 0 < j) : binD .Mod S (.t (.int i)) (.t (.int j)) = some (.t (.int (i % j))) := by
  rw [bin_mod (by omega), Int.fmod_eq_emod_of_nonneg _ (by omega)]
theorem bin_mulS {i j : Int} (h : i.natAbs < 2 ^ 400000) (h2 : j.natAbs < 2 ^ 400000) : binD .Mult S (.t (.int i)) (.t (.int j)) = some (.t (.int (i * j))) := by
  have h1 := log2_le (Nat.le_of_lt h)
  have h2 := log2_le (Nat.le_of_lt h2)
  exact bin_mul (by omega)
end
end Den
namespace Den
open PySem PySem.Spec PyProof.Rows L2
/-! ### loops -/
theorem while_ok {α : Type} {c : Sl → Store → Res Bool} {f : Sl → Store → SRes} (st : α → Sl) (so : α → Store) (I : α → Prop) (t : α → Bool) (step : α → α) (μ : α → Nat)
    (hc : ∀ a, I a → c (st a) (so a) = .ok (t a) (so a)) (hf : ∀ a, I a → t a = true → f (st a) (so a) = .nx (st (step a)) (so (step a)) ∧ I (step a) ∧ μ (step a) < μ a) :
    ∀ {n : Nat} {a : α}, I a → μ a < n → ∃ a', I a' ∧ t a' = false ∧ whileD c f n (st a) (so a) = .nx (st a') (so a') := by
  intro n
  induction n with
  | zero => intro a _ h; exact absurd h (Nat.not_lt_zero _)
  | succ n ih =>
    intro a ha hn
    unfold whileD
    rw [hc a ha]
    cases ht : t a with
    | false => exact ⟨a, ha, ht, by simp⟩
    | true =>
      obtain ⟨h1, h2, h3⟩ := hf a ha ht
      obtain ⟨a', h4, h5, h6⟩ := ih h2 (Nat.lt_of_lt_of_le h3 (Nat.le_of_lt_succ hn))
      refine ⟨a', h4, h5, ?_⟩
      simp only [thenS_ok, if_true, h1]
      exact h6
theorem for_ok {f : D → Sl → Store → SRes} (I : List D → Sl → Store → Prop) (hf : ∀ x r ds S, I (x :: r) ds S → ∃ ds' S', (f x ds S = .nx ds' S' ∨ f x ds S = .cont ds' S') ∧ I r ds' S') :
    ∀ {xs : List D} {ds : Sl} {S : Store}, I xs ds S → ∃ ds' S', forD f xs ds S = .nx ds' S' ∧ I [] ds' S'
  | [], ds, S, h => ⟨ds, S, rfl, h⟩
  | x :: xs, ds, S, h => by
    obtain ⟨ds1, S1, h1, h2⟩ := hf x xs ds S h
    obtain ⟨ds2, S2, h3, h4⟩ := for_ok I hf h2
    refine ⟨ds2, S2, ?_, h4⟩
    unfold forD
    rcases h1 with h1 | h1 <;> (rw [h1]; exact h3)
@[simp] theorem take_set {S : Store} {n : Nat} {c : Cell} : (S.set n c).take S.length = S.set n c := List.take_of_length_le (by simp)
@[simp] theorem take_all {S : Store} : S.take S.length = S := List.take_of_length_le (Nat.le_refl _)
end Den
namespace Den
open PySem PySem.Spec PyProof.Rows L2
@[simp] theorem aug_add (i j : Int) : augD .Add (.t (.int i)) (.t (.int j)) = some (.int (i + j)) := (rfl)
@[simp] theorem aug_sub (i j : Int) : augD .Sub (.t (.int i)) (.t (.int j)) = some (.int (i - j)) := (rfl)
theorem aug_mulS {i j : Int} (h : i.natAbs < 2 ^ 400000) (h2 : j.natAbs < 2 ^ 400000) : augD .Mult (.t (.int i)) (.t (.int j)) = some (.int (i * j)) := by
  have h1 := log2_le (Nat.le_of_lt h)
  have h2 := log2_le (Nat.le_of_lt h2)
  show guardB (decide (i.natAbs.log2 + j.natAbs.log2 < 1000000)) _ = _
  rw [decide_eq_true (by omega)]; rfl
theorem aug_fdivS {i j : Int} (h : 0 < j) (h2 : j < 2 ^ 64) : augD .FloorDiv (.t (.int i)) (.t (.int j)) = some (.int (i / j)) := by
  show guardB (decide (j ≠ 0) && decide (j.natAbs.log2 < 9000)) (PyData.int (i.fdiv j)) = _
  have : j.natAbs.log2 ≤ 64 := log2_le (by omega)
  rw [decide_eq_true (show j ≠ 0 by omega), decide_eq_true (show j.natAbs.log2 < 9000 by omega), Int.fdiv_eq_ediv_of_nonneg _ (by omega)]; rfl
theorem aug_modS {i j : Int} (h : 0 < j) : augD .Mod (.t (.int i)) (.t (.int j)) = some (.int (i % j)) := by
  show guardB (decide (j ≠ 0)) (PyData.int (i.fmod j)) = _
  rw [decide_eq_true (show j ≠ 0 by omega), Int.fmod_eq_emod_of_nonneg _ (by omega)]; rfl
end Den
namespace Den
open PySem PySem.Spec PyProof.Rows L2
section
variable {S : Store}
theorem atI_nat {α : Type} {xs : List α} {n : Nat} {x : α} (h : xs[n]? = some x) : atI xs (n : Int) = some x := by
  have hl := (List.getElem?_eq_some_iff.mp h).1
  unfold atI ixN
  rw [if_pos (by omega), if_pos (by omega)]
  simpa using h
theorem atI_neg {α : Type} {xs : List α} {n : Nat} {x : α} (h : xs[xs.length - (n + 1)]? = some x) (hn : n < xs.length) : atI xs (-((n : Int) + 1)) = some x := by
  unfold atI ixN
  rw [if_neg (by omega), if_pos (by omega)]
  have : (-((n : Int) + 1) + (xs.length : Int)).toNat = xs.length - (n + 1) := by omega
  simp only [Option.bind_some]
  rw [this]
  exact h
@[simp] theorem at0 {α : Type} (x : α) (r : List α) : atI (x :: r) 0 = some x := atI_nat (n := 0) rfl
@[simp] theorem at1 {α : Type} (x y : α) (r : List α) : atI (x :: y :: r) 1 = some y := atI_nat (n := 1) rfl
@[simp] theorem at2 {α : Type} (x y z : α) (r : List α) : atI (x :: y :: z :: r) 2 = some z := atI_nat (n := 2) rfl
@[simp] theorem at3 {α : Type} (x y z u : α) (r : List α) : atI (x :: y :: z :: u :: r) 3 = some u := atI_nat (n := 3) rfl
@[simp] theorem at4 {α : Type} (x y z u v : α) (r : List α) : atI (x :: y :: z :: u :: v :: r) 4 = some v := atI_nat (n := 4) rfl
@[simp] theorem idx_tuple (xs : List T) (i : Int) : idxD S (.t (.tuple xs)) (.t (.int i)) = (atI xs i).map .t := (rfl)
@[simp] theorem idx_list (xs : List T) (i : Int) : idxD S (.t (.list xs)) (.t (.int i)) = (atI xs i).map .t := (rfl)
@[simp] theorem idx_mix (xs : List D) (i : Int) : idxD S (.mix xs) (.t (.int i)) = atI xs i := (rfl)
theorem idx_ref {n : Nat} {xs : List D} (h : S[n]? = some (.lst xs)) (i : Int) : idxD S (.ref n) (.t (.int i)) = atI xs i := by
  unfold idxD
  simp only [h]
theorem idx_dK {n : Nat} {kvs : List (Key × D)} (h : S[n]? = some (.dK kvs)) (x : T) : idxD S (.ref n) (.t x) = (keyK x).bind fun k => look kvs k := by
  unfold idxD
  simp only [h]
end
end Den
namespace Den
open PySem PySem.Spec PyProof.Rows L2
theorem set_lst {S : Store} {n b i : Nat} {xs : List D} {v : T} (h : S[n]? = some (.lst xs)) (hi : i < xs.length) : setD b S (.ref n) (.t (.int (i : Int))) (.t v) = some (S.set n (.lst (xs.set i (.t v)))) := by
  unfold setD
  simp only [h]
  have e : ixN xs.length (i : Int) = some i := by
    unfold ixN
    rw [if_pos (by omega), if_pos (by omega)]
    rfl
  rw [e]
  have m : mayW b n (.t v) = true := by
    unfold mayW
    rw [low_t, Bool.or_true]
  simp only [m]
  rfl
theorem get_set {S : Store} {n : Nat} {c c' : Cell} (h : S[n]? = some c) : (S.set n c')[n]? = some c' := List.getElem?_set_self (List.getElem?_eq_some_iff.mp h).1
@[simp] theorem set_set {S : Store} {n : Nat} {c c' : Cell} : (S.set n c).set n c' = S.set n c' := List.set_set ..
end Den
namespace Den
open PySem PySem.Spec PyProof.Rows L2
@[simp] theorem seqI_list (xs : List T) (S : Store) : seqI (.t (.list xs)) S = .ok (xs.map .t) S := (rfl)
@[simp] theorem seqI_tuple (xs : List T) (S : Store) : seqI (.t (.tuple xs)) S = .ok (xs.map .t) S := (rfl)
@[simp] theorem seqI_mix (xs : List D) (S : Store) : seqI (.mix xs) S = .ok xs S := (rfl)
@[simp] theorem seqI_ktuple (xs : List T) (S : Store) : seqI (.k (.tuple xs)) S = .ok (xs.map kD) S := (rfl)
@[simp] theorem seqI_klist (xs : List T) (S : Store) : seqI (.k (.list xs)) S = .ok (xs.map kD) S := (rfl)
end Den
namespace Den
open PySem PySem.Spec PyProof.Rows L2
theorem defK_of {K : PySem.W.Frag} {x : Str} {st : Stmt} {f : Addr} {oc : Value} {od : Option Addr} {kV doc pm : Value} {an : Option Addr} {cdv ct : Value} {osl : Array (Option Value)} (h1 : PySem.W.nsIn K mainGlobals x = some (some (.ref f)))
    (h2 : K.lookup f = some ⟨oc, od, .func (PySem.W.fnOf x x (defArgs st) (defBody st) (defScope st) .none kV doc pm an cdv ct), osl⟩) (h3 : PySem.W.codeIn K cdv x = true) (h4 : PySem.W.keepIn K (.ref f) = true) : DefK K x st := ⟨⟨f, oc, od, kV, doc, pm, an, cdv, ct, osl, h1, h2, h3, h4⟩⟩
theorem no_gls {K : PySem.W.Frag} {gs : List T} : ∀ (j : Nat) x y, ([] : List Str)[j]? = some x → gs[j]? = some y → ∃ u v, PySem.W.nsIn K mainGlobals x = some (some u) ∧ RelV v u ∧ RepT K (fun _ => none) false v y := fun j x y h => by simp at h
end Den

/-! Den, part 14: the module's written constants. -/
namespace Den
open PySem PySem.Spec PyProof.Rows L2
/-- a written value is the tree -/
def Gl1 (K : PySem.W.Frag) (u : Value) (y : T) : Prop := ∃ v, RelV v u ∧ RepT K (fun _ => none) false v y
inductive Gls (K : PySem.W.Frag) : List Str → List T → Prop
  | nil : Gls K [] []
  | cons {x : Str} {u : Value} {y : T} {xs : List Str} {ys : List T} : PySem.W.nsIn K mainGlobals x = some (some u) → Gl1 K u y → Gls K xs ys → Gls K (x :: xs) (y :: ys)
theorem gls_nil {K : PySem.W.Frag} : Gls K [] [] := .nil
theorem gls_cons {K : PySem.W.Frag} {x : Str} {u : Value} {y : T} {xs : List Str} {ys : List T} (h1 : PySem.W.nsIn K mainGlobals x = some (some u)) (h2 : Gl1 K u y) (h3 : Gls K xs ys) : Gls K (x :: xs) (y :: ys) := .cons h1 h2 h3
theorem gls_ok {K : PySem.W.Frag} : ∀ {xs : List Str} {ys : List T}, Gls K xs ys → ∀ (j : Nat) x y, xs[j]? = some x → ys[j]? = some y → ∃ u v, PySem.W.nsIn K mainGlobals x = some (some u) ∧ RelV v u ∧ RepT K (fun _ => none) false v y
  | _, _, .nil, j, x, y, h, _ => by simp at h
  | _, _, .cons h1 h2 t, 0, x, y, e1, e2 => by
    simp at e1 e2
    subst e1 e2
    obtain ⟨v, k1, k2⟩ := h2
    exact ⟨_, v, h1, k1, k2⟩
  | _, _, .cons h1 h2 t, j + 1, x, y, e1, e2 => gls_ok t j x y (by simpa using e1) (by simpa using e2)
theorem gl_int {K : PySem.W.Frag} {i : Int} {t : Tok} : Gl1 K (.int i t) (.int i) := ⟨.int i, ⟨t, rfl⟩, .int i⟩
theorem gl_str {K : PySem.W.Frag} {x : Str} {t : Tok} : Gl1 K (.str x t) (.str x) := ⟨.str x, ⟨t, rfl⟩, .str x⟩
def scalV : Value → T → Bool
  | .none, .none => true
  | .bool b, .bool c => b == c
  | .int i _, .int j => decide (i = j)
  | .str s _, .str t => decide (s = t)
  | _, _ => false
def scalVs : List Value → List T → Bool
  | [], [] => true
  | u :: us, y :: ys => scalV u y && scalVs us ys
  | _, _ => false
theorem scalV_ok {K : PySem.W.Frag} {F : Hp} {u : Value} {y : T} (h : scalV u y = true) : ∃ v, RelV v u ∧ RepT K F false v y := by
  unfold scalV at h
  split at h
  · exact ⟨.non, rfl, .non⟩
  · obtain rfl := eq_of_beq h
    exact ⟨.bl _, rfl, .bl _⟩
  · rw [decide_eq_true_eq] at h
    subst h
    exact ⟨.int _, ⟨_, rfl⟩, .int _⟩
  · rw [decide_eq_true_eq] at h
    subst h
    exact ⟨.str _, ⟨_, rfl⟩, .str _⟩
  · cases h
theorem scalVs_ok {K : PySem.W.Frag} {F : Hp} : ∀ {us : List Value} {ys : List T}, scalVs us ys = true → ∃ vs, Vals vs us ∧ RepTs K F false vs ys
  | [], [], _ => ⟨[], .nil, .nil⟩
  | u :: us, y :: ys, h => by
    unfold scalVs at h
    rw [Bool.and_eq_true] at h
    obtain ⟨v, h1, h2⟩ := scalV_ok (K := K) (F := F) h.1
    obtain ⟨vs, h3, h4⟩ := scalVs_ok (K := K) (F := F) h.2
    exact ⟨v :: vs, .cons h1 h3, .cons h2 h4⟩
  | [], _ :: _, h => by cases h
  | _ :: _, [], h => by cases h
/-- a written tuple of plain things -/
theorem gl_tup {K : PySem.W.Frag} {a : Addr} {cls : Value} {dd : Option Addr} {its : Array Value} {n : Nat} {sl : Array (Option Value)} {ys : List T} (h : K.lookup a = some ⟨cls, dd, .seq its n, sl⟩) (hc : cls = .type "tuple") (hv : scalVs its.toList ys = true)
    (hz : ys.length ≤ 1000) : Gl1 K (.ref a) (.tuple ys) := by
  obtain ⟨vs, h1, h2⟩ := scalVs_ok (K := K) (F := fun _ => none) hv
  have l1 := h1.length
  have l2 := h2.length
  refine ⟨.ref a, rfl, .tup (.inr ⟨_, its, n, h, hc, rfl, ?_, h1⟩) (fun z => by cases z) h2⟩
  rw [sizeLine_eq, ← Array.length_toList]
  omega
end Den

/-! Den, part 15: reckoning comprehensions and data. -/
namespace Den
open PySem PySem.Spec PyProof.Rows L2
theorem collect_pure {F : D → Store → Res (List D)} {f : D → List D} {S : Store} : ∀ {us : List D}, (∀ u ∈ us, F u S = .ok (f u) S) → collectD F us S = .ok (us.flatMap f) S
  | [], _ => rfl
  | u :: us, h => by
    unfold collectD
    rw [h u (List.mem_cons_self ..), Res.bind_ok, collect_pure fun v hv => h v (List.mem_cons_of_mem _ hv), Res.bind_ok, List.flatMap_cons]
/-- a comprehension over trees that changes nothing -/
theorem comp_pure {evi : Sl → Store → Res (List D)} {evg : D → Sl → Store → Res Sl} {evt : Sl → Store → Res Bool} {eve : Sl → Store → Res D} {vs : List Nat} {ds : Sl} {S : Store} {us : List T} {f : T → List T}
    (hi : evi ds S = .ok (us.map .t) S) (h : ∀ u ∈ us, turnD evg evt eve (wipeD ds vs) (.t u) S = .ok ((f u).map .t) S) (hl : (us.flatMap f).length ≤ sizeLine) : compD false evi evg evt eve vs ds S = .ok (.t (.list (us.flatMap f))) S := by
  unfold compD
  rw [hi, Res.bind_ok]
  have key : collectD (turnD evg evt eve (wipeD ds vs)) (us.map .t) S = .ok ((us.flatMap f).map .t) S := by
    clear hi hl
    induction us with
    | nil => rfl
    | cons u us ih =>
      rw [List.map_cons]
      unfold collectD
      rw [h u (List.mem_cons_self ..), Res.bind_ok, ih fun v hv => h v (List.mem_cons_of_mem _ hv), Res.bind_ok, List.flatMap_cons, List.map_append]
  rw [key, Res.bind_ok, List.length_map, if_pos hl]
  simp [mkLst]
/-- [e for v in xs] by a function of the item -/
theorem comp_map {evi : Sl → Store → Res (List D)} {evg : D → Sl → Store → Res Sl} {evt : Sl → Store → Res Bool} {eve : Sl → Store → Res D} {vs : List Nat} {ds : Sl} {S : Store} {us : List T} {f : T → T}
    (hi : evi ds S = .ok (us.map .t) S) (h : ∀ u ∈ us, turnD evg evt eve (wipeD ds vs) (.t u) S = .ok [.t (f u)] S) (hl : us.length ≤ sizeLine) : compD false evi evg evt eve vs ds S = .ok (.t (.list (us.map f))) S := by
  have e : us.flatMap (fun u => [f u]) = us.map f := (List.map_eq_flatMap ..).symm
  have := comp_pure (f := fun u => [f u]) hi (fun u hu => by rw [h u hu]; rfl) (by rw [e, List.length_map]; exact hl)
  rw [e] at this
  exact this
/-- [v for v in xs if p] -/
theorem comp_filter {evi : Sl → Store → Res (List D)} {evg : D → Sl → Store → Res Sl} {evt : Sl → Store → Res Bool} {eve : Sl → Store → Res D} {vs : List Nat} {ds : Sl} {S : Store} {us : List T} {p : T → Bool}
    (hi : evi ds S = .ok (us.map .t) S) (h : ∀ u ∈ us, turnD evg evt eve (wipeD ds vs) (.t u) S = .ok (if p u = true then [.t u] else []) S) (hl : us.length ≤ sizeLine) : compD false evi evg evt eve vs ds S = .ok (.t (.list (us.filter p))) S := by
  have e : us.flatMap (fun u => if p u = true then [u] else []) = us.filter p := by
    clear hi h hl
    induction us with
    | nil => rfl
    | cons u us ih =>
      rw [List.flatMap_cons, ih, List.filter_cons]
      split <;> rfl
  have := comp_pure (f := fun u => if p u = true then [u] else []) hi (fun u hu => by rw [h u hu]; split <;> rfl) (by rw [e]; exact Nat.le_trans (List.length_filter_le _ _) hl)
  rw [e] at this
  exact this
end Den

set_option maxHeartbeats 1000000
/-! Den, part 16: what holds at the end of an evaluation. -/
namespace Den
open PySem PySem.Spec PyProof.Rows L2
abbrev XQ := Nat → List (Str × D) → Store → Prop
def NX : XQ := fun _ _ _ => False
def Res.Wp {α : Type} (r : Res α) (Q : α → Store → Prop) (X : XQ) : Prop :=
  match r with
  | .ok a S => Q a S
  | .exc c fs S => X c fs S
  | .bad => False
structure SQ where
  nx : Sl → Store → Prop
  ret : D → Store → Prop
  brk : Sl → Store → Prop
  cnt : Sl → Store → Prop
  exc : Nat → List (Str × D) → Sl → Store → Prop
def SRes.Wp (r : SRes) (q : SQ) : Prop :=
  match r with
  | .nx ds S => q.nx ds S
  | .ret d S => q.ret d S
  | .brk ds S => q.brk ds S
  | .cont ds S => q.cnt ds S
  | .exc c fs ds S => q.exc c fs ds S
  | .bad => False
section
variable {α β : Type} {Q Q' : α → Store → Prop} {X X' : XQ} {q q' : SQ}
/-! what stands behind is left alone -/
def Th (f : β → Store → Res α) (Q : α → Store → Prop) (X : XQ) : β → Store → Prop := fun a S => (f a S).Wp Q X
@[simp] theorem Th_ap (f : β → Store → Res α) (a : β) (S : Store) : Th f Q X a S = (f a S).Wp Q X := (rfl)
def ThS (f : β → Store → SRes) (q : SQ) : β → Store → Prop := fun a S => (f a S).Wp q
@[simp] theorem ThS_ap (f : β → Store → SRes) (a : β) (S : Store) : ThS f q a S = (f a S).Wp q := (rfl)
def xS (q : SQ) (ds : Sl) : XQ := fun c fs S => q.exc c fs ds S
@[simp] theorem xS_ap (ds : Sl) (c : Nat) (fs : List (Str × D)) (S : Store) : xS q ds c fs S = q.exc c fs ds S := (rfl)
def SQ.seq (f : Sl → Store → SRes) (q : SQ) : SQ := ⟨fun ds S => (f ds S).Wp q, q.ret, q.brk, q.cnt, q.exc⟩
@[simp] theorem seq_nx (f : Sl → Store → SRes) (ds : Sl) (S : Store) : (SQ.seq f q).nx ds S = (f ds S).Wp q := (rfl)
@[simp] theorem seq_ret (f : Sl → Store → SRes) : (SQ.seq f q).ret = q.ret := (rfl)
@[simp] theorem seq_brk (f : Sl → Store → SRes) : (SQ.seq f q).brk = q.brk := (rfl)
@[simp] theorem seq_cnt (f : Sl → Store → SRes) : (SQ.seq f q).cnt = q.cnt := (rfl)
@[simp] theorem seq_exc (f : Sl → Store → SRes) : (SQ.seq f q).exc = q.exc := (rfl)
@[simp] theorem wp_ok (a : α) (S : Store) : (Res.ok a S).Wp Q X = Q a S := (rfl)
@[simp] theorem wp_exc (c : Nat) (fs : List (Str × D)) (S : Store) : (Res.exc c fs S : Res α).Wp Q X = X c fs S := (rfl)
@[simp] theorem wp_bad : (Res.bad : Res α).Wp Q X = False := (rfl)
@[simp ↓] theorem wp_bind (r : Res β) (f : β → Store → Res α) : (r.bind f).Wp Q X = r.Wp (Th f Q X) X := by cases r <;> rfl
@[simp ↓] theorem wp_noexc (r : Res α) : r.noexc.Wp Q X = r.Wp Q NX := by cases r <;> rfl
theorem wp_lift {o : Option α} {S : Store} {a : α} (h : o = some a) (k : Q a S) : (lift o S).Wp Q X := by
  subst h
  exact k
theorem wp_imp {r : Res α} (h : r.Wp Q X) (k : ∀ a S, Q a S → Q' a S) (kx : ∀ c fs S, X c fs S → X' c fs S) : r.Wp Q' X' := by
  cases r with
  | ok a S => exact k a S h
  | exc c fs S => exact kx c fs S h
  | bad => exact h
theorem wp_of {r : Res α} (h : r.Wp Q NX) (k : ∀ a S, Q a S → Q' a S) : r.Wp Q' X := wp_imp h k fun _ _ _ z => z.elim
theorem wp_eq {r : Res α} {a : α} {S : Store} (h : r = .ok a S) (k : Q a S) : r.Wp Q X := by
  subst h
  exact k
theorem wp_ite {c : Prop} [Decidable c] {r r' : Res α} (h1 : c → r.Wp Q X) (h2 : ¬ c → r'.Wp Q X) : (if c then r else r').Wp Q X := by
  split
  · exact h1 ‹_›
  · exact h2 ‹_›
theorem wp_out {r : Res α} (h : r.Wp Q NX) : ∃ a S, r = .ok a S ∧ Q a S := by
  cases r with
  | ok a S => exact ⟨a, S, rfl, h⟩
  | exc c fs S => exact h.elim
  | bad => exact h.elim
@[simp] theorem sp_nx (ds : Sl) (S : Store) : (SRes.nx ds S).Wp q = q.nx ds S := (rfl)
@[simp] theorem sp_ret (d : D) (S : Store) : (SRes.ret d S).Wp q = q.ret d S := (rfl)
@[simp] theorem sp_brk (ds : Sl) (S : Store) : (SRes.brk ds S).Wp q = q.brk ds S := (rfl)
@[simp] theorem sp_cnt (ds : Sl) (S : Store) : (SRes.cont ds S).Wp q = q.cnt ds S := (rfl)
@[simp] theorem sp_exc (c : Nat) (fs : List (Str × D)) (ds : Sl) (S : Store) : (SRes.exc c fs ds S).Wp q = q.exc c fs ds S := (rfl)
@[simp] theorem sp_bad : (SRes.bad).Wp q = False := (rfl)
@[simp ↓] theorem sp_then (r : Res α) (ds : Sl) (f : α → Store → SRes) : (thenS r ds f).Wp q = r.Wp (ThS f q) (xS q ds) := by cases r <;> rfl
@[simp ↓] theorem sp_andThen (r : SRes) (f : Sl → Store → SRes) : (r.andThen f).Wp q = r.Wp (q.seq f) := by cases r <;> rfl
theorem sp_imp {r : SRes} (h : r.Wp q) (k1 : ∀ ds S, q.nx ds S → q'.nx ds S) (k2 : ∀ d S, q.ret d S → q'.ret d S) (k3 : ∀ ds S, q.brk ds S → q'.brk ds S) (k4 : ∀ ds S, q.cnt ds S → q'.cnt ds S)
    (k5 : ∀ c fs ds S, q.exc c fs ds S → q'.exc c fs ds S) : r.Wp q' := by
  cases r with
  | nx ds S => exact k1 _ _ h
  | ret d S => exact k2 _ _ h
  | brk ds S => exact k3 _ _ h
  | cont ds S => exact k4 _ _ h
  | exc c fs ds S => exact k5 _ _ _ _ h
  | bad => exact h
theorem sp_ite {c : Prop} [Decidable c] {r r' : SRes} (h1 : c → r.Wp q) (h2 : ¬ c → r'.Wp q) : (if c then r else r').Wp q := by
  split
  · exact h1 ‹_›
  · exact h2 ‹_›
end
/-! a cut -/
def CQ (N : Sl → Store → Prop) (q : SQ) : SQ := ⟨N, q.ret, q.brk, q.cnt, q.exc⟩
@[simp] theorem CQ_nx {N : Sl → Store → Prop} {q : SQ} : (CQ N q).nx = N := (rfl)
@[simp] theorem CQ_ret {N : Sl → Store → Prop} {q : SQ} : (CQ N q).ret = q.ret := (rfl)
@[simp] theorem CQ_brk {N : Sl → Store → Prop} {q : SQ} : (CQ N q).brk = q.brk := (rfl)
@[simp] theorem CQ_cnt {N : Sl → Store → Prop} {q : SQ} : (CQ N q).cnt = q.cnt := (rfl)
@[simp] theorem CQ_exc {N : Sl → Store → Prop} {q : SQ} : (CQ N q).exc = q.exc := (rfl)
theorem sp_cut {cf : CF} {gs : List T} {b : Nat} {x : Den.S} {r : Ss} {ds : Sl} {S : Store} {q : SQ} (M : Sl → Store → Prop) (h1 : (evS cf gs b x ds S).Wp (CQ M q)) (h2 : ∀ ds S, M ds S → (evSs cf gs b r ds S).Wp q) : (evSs cf gs b (.cons x r) ds S).Wp q := by
  rw [evSs_then, sp_andThen]
  exact sp_imp h1 h2 (fun _ _ z => z) (fun _ _ z => z) (fun _ _ z => z) fun _ _ _ _ z => z
/-! loops -/
def LQ (N : Sl → Store → Prop) (q : SQ) : SQ := ⟨N, q.ret, q.nx, N, q.exc⟩
@[simp] theorem LQ_nx {N : Sl → Store → Prop} {q : SQ} : (LQ N q).nx = N := (rfl)
@[simp] theorem LQ_ret {N : Sl → Store → Prop} {q : SQ} : (LQ N q).ret = q.ret := (rfl)
@[simp] theorem LQ_brk {N : Sl → Store → Prop} {q : SQ} : (LQ N q).brk = q.nx := (rfl)
@[simp] theorem LQ_cnt {N : Sl → Store → Prop} {q : SQ} : (LQ N q).cnt = N := (rfl)
@[simp] theorem LQ_exc {N : Sl → Store → Prop} {q : SQ} : (LQ N q).exc = q.exc := (rfl)
theorem for_wp {q : SQ} {f : D → Sl → Store → SRes} (I : List D → Sl → Store → Prop) (hN : ∀ ds S, I [] ds S → q.nx ds S)
    (hf : ∀ x r ds S, I (x :: r) ds S → (f x ds S).Wp (LQ (I r) q)) : ∀ {xs : List D} {ds : Sl} {S : Store}, I xs ds S → (forD f xs ds S).Wp q
  | [], ds, S, h => hN ds S h
  | x :: xs, ds, S, h => by
    have h1 := hf x xs ds S h
    unfold forD
    cases e : f x ds S with
    | nx ds S => rw [e] at h1; exact for_wp I hN hf h1
    | cont ds S => rw [e] at h1; exact for_wp I hN hf h1
    | brk ds S => rw [e] at h1; exact h1
    | ret d S => rw [e] at h1; exact h1
    | exc c fs ds S => rw [e] at h1; exact h1
    | bad => rw [e] at h1; exact h1
theorem collect_wp {X : XQ} {f : D → Store → Res (List D)} (I : List D → List D → Store → Prop) (hf : ∀ a x r S, I a (x :: r) S → (f x S).Wp (fun ys S' => I (a ++ ys) r S') X) :
    ∀ {xs a : List D} {S : Store} {Q : List D → Store → Prop}, I a xs S → (∀ b S', I (a ++ b) [] S' → Q b S') → (collectD f xs S).Wp Q X
  | [], a, S, Q, h, hN => hN [] S (by rw [List.append_nil]; exact h)
  | x :: xs, a, S, Q, h, hN => by
    unfold collectD
    rw [wp_bind]
    refine wp_imp (hf a x xs S h) (fun ys S1 h1 => ?_) fun _ _ _ z => z
    rw [Th_ap, wp_bind]
    refine collect_wp I hf h1 fun b S2 h2 => ?_
    rw [Th_ap, wp_ok]
    exact hN _ _ (by rw [← List.append_assoc]; exact h2)
theorem while_wp {q : SQ} {c : Sl → Store → Res Bool} {f : Sl → Store → SRes} (I : Nat → Sl → Store → Prop)
    (hf : ∀ n ds S, I n ds S → (c ds S).Wp (fun k S => if k = true then (f ds S).Wp (LQ (fun ds S => ∃ m, m < n ∧ I m ds S) q) else q.nx ds S) (fun c fs S => q.exc c fs ds S)) :
    ∀ {N n : Nat} {ds : Sl} {S : Store}, I n ds S → n < N → (whileD c f N ds S).Wp q := by
  intro N
  induction N with
  | zero => intro n ds S _ h; exact absurd h (Nat.not_lt_zero _)
  | succ N ih =>
    intro n ds S h hn
    unfold whileD
    rw [sp_then]
    refine wp_imp (hf n ds S h) (fun k S1 h1 => ?_) fun _ _ _ z => z
    cases k with
    | false => exact h1
    | true =>
      rw [ThS_ap]
      simp only [if_true] at h1 ⊢
      cases e : f ds S1 with
      | nx ds S => rw [e] at h1; obtain ⟨m, hm, h2⟩ := h1; exact ih h2 (by omega)
      | cont ds S => rw [e] at h1; obtain ⟨m, hm, h2⟩ := h1; exact ih h2 (by omega)
      | brk ds S => rw [e] at h1; exact h1
      | ret d S => rw [e] at h1; exact h1
      | exc c fs ds S => rw [e] at h1; exact h1
      | bad => rw [e] at h1; exact h1
/-! calls -/
theorem call_wp {P : List Fn} {gs : List T} {i k b : Nat} {as : List D} {S : Store} {fn : Fn} {Q : D → Store → Prop} {X : XQ} (hp : P[i]? = some fn) (hk : 1 ≤ k) (h : (runF (callF P gs (k - 1)) gs fn b as S).Wp Q X) : (callF P gs k i b as S).Wp Q X := by
  obtain ⟨j, rfl⟩ : ∃ j, k = j + 1 := ⟨k - 1, by omega⟩
  rw [callF_eq hp]
  exact h
def RQ (l : Nat) (Q : D → Store → Prop) (X : XQ) : SQ := ⟨fun _ S' => Q (.t .none) (S'.take l), fun d S' => d.low l = true ∧ Q d (S'.take l), fun _ _ => False, fun _ _ => False, fun c fs _ S' => fs.all (fun p => p.2.low l) = true ∧ X c fs (S'.take l)⟩
def RK (Q : D → Store → Prop) (X : XQ) : SQ := ⟨fun _ S' => Q (.t .none) S', fun d S' => Q d S', fun _ _ => False, fun _ _ => False, fun c fs _ S' => X c fs S'⟩
section
variable {l : Nat} {Q : D → Store → Prop} {X : XQ}
@[simp] theorem RQ_nx (ds : Sl) (S : Store) : (RQ l Q X).nx ds S = Q (.t .none) (S.take l) := (rfl)
@[simp] theorem RQ_ret (d : D) (S : Store) : (RQ l Q X).ret d S = (d.low l = true ∧ Q d (S.take l)) := (rfl)
@[simp] theorem RQ_brk (ds : Sl) (S : Store) : (RQ l Q X).brk ds S = False := (rfl)
@[simp] theorem RQ_cnt (ds : Sl) (S : Store) : (RQ l Q X).cnt ds S = False := (rfl)
@[simp] theorem RQ_exc (c : Nat) (fs : List (Str × D)) (ds : Sl) (S : Store) : (RQ l Q X).exc c fs ds S = (fs.all (fun p => p.2.low l) = true ∧ X c fs (S.take l)) := (rfl)
@[simp] theorem RK_nx (ds : Sl) (S : Store) : (RK Q X).nx ds S = Q (.t .none) S := (rfl)
@[simp] theorem RK_ret (d : D) (S : Store) : (RK Q X).ret d S = Q d S := (rfl)
@[simp] theorem RK_brk (ds : Sl) (S : Store) : (RK Q X).brk ds S = False := (rfl)
@[simp] theorem RK_cnt (ds : Sl) (S : Store) : (RK Q X).cnt ds S = False := (rfl)
@[simp] theorem RK_exc (c : Nat) (fs : List (Str × D)) (ds : Sl) (S : Store) : (RK Q X).exc c fs ds S = X c fs S := (rfl)
end
theorem run_wp {cf : CF} {gs : List T} {fn : Fn} {b : Nat} {as : List D} {S : Store} {Q : D → Store → Prop} {X : XQ} (hk : fn.keep = false) (hl : as.length = fn.np)
    (h : (evSs cf gs S.length fn.body (as.map some ++ List.replicate (fn.ns - fn.np) none) S).Wp (RQ S.length Q X)) : (runF cf gs fn b as S).Wp Q X := by
  unfold runF
  rw [if_pos hl, hk]
  simp only [Bool.false_eq_true, if_false]
  generalize evSs cf gs S.length fn.body (as.map some ++ List.replicate (fn.ns - fn.np) none) S = r at h
  cases r with
  | nx ds S' =>
    show (close false S.length (.t .none) S').Wp Q X
    unfold close
    simp only [Bool.false_eq_true, if_false, low_t, if_true]
    exact h
  | ret d S' =>
    show (close false S.length d S').Wp Q X
    unfold close
    simp only [Bool.false_eq_true, if_false, h.1, if_true]
    exact h.2
  | exc c fs ds S' =>
    have h1 : (fs.all fun p => p.2.low S.length) = true := h.1
    simp only [Bool.decide_eq_true, h1, if_true]
    exact h.2
  | brk ds S' => exact h.elim
  | cont ds S' => exact h.elim
  | bad => exact h.elim
theorem runk_wp {cf : CF} {gs : List T} {fn : Fn} {b : Nat} {as : List D} {S : Store} {Q : D → Store → Prop} {X : XQ} (hk : fn.keep = true) (hl : as.length = fn.np)
    (h : (evSs cf gs b fn.body (as.map some ++ List.replicate (fn.ns - fn.np) none) S).Wp (RK Q X)) : (runF cf gs fn b as S).Wp Q X := by
  unfold runF
  rw [if_pos hl, hk]
  simp only [if_true]
  generalize evSs cf gs b fn.body (as.map some ++ List.replicate (fn.ns - fn.np) none) S = r at h
  cases r with
  | nx ds S' => exact h
  | ret d S' => exact h
  | exc c fs ds S' => exact h
  | brk ds S' => exact h.elim
  | cont ds S' => exact h.elim
  | bad => exact h.elim
/-- a comprehension -/
theorem comp_wp {evi : Sl → Store → Res (List D)} {evg : D → Sl → Store → Res Sl} {evt : Sl → Store → Res Bool} {eve : Sl → Store → Res D} {vs : List Nat} {ds : Sl} {S : Store} {Q : D → Store → Prop} {X : XQ}
    (h : (evi ds S).Wp (fun xs S => (collectD (turnD evg evt eve (wipeD ds vs)) xs S).Wp (fun ys S => ys.length ≤ sizeLine ∧ (lift (mkLst ys) S).Wp Q X) X) X) : (compD false evi evg evt eve vs ds S).Wp Q X := by
  unfold compD
  rw [wp_bind]
  refine wp_imp h (fun xs S h => ?_) fun _ _ _ z => z
  rw [Th_ap, wp_bind]
  refine wp_imp h (fun ys S h => ?_) fun _ _ _ z => z
  rw [Th_ap, if_pos h.1]
  exact h.2
end Den

namespace Lib
open PySem PySem.Spec PyProof.Rows L2 Den
abbrev n_Breaks : Nat := 1
abbrev n_COUNTS : Nat := 2
abbrev n_FACTOR : Nat := 3
abbrev n_FUEL : Nat := 4
abbrev n_FURTHEST : Nat := 5
abbrev n_Failed : Nat := 6
abbrev n_Fault : Nat := 7
abbrev n_Full : Nat := 8
abbrev n_GREATEST : Nat := 9
abbrev n_KEPT : Nat := 10
abbrev n_KINDS : Nat := 11
abbrev n_LETTERS : Nat := 12
abbrev n_LIMIT : Nat := 13
abbrev n_LONGEST : Nat := 14
abbrev n_MANY : Nat := 15
abbrev n_MODULUS : Nat := 16
abbrev n_MOST_CALLS : Nat := 17
abbrev n_MOST_CHOICES : Nat := 18
abbrev n_MOST_DEEP : Nat := 19
abbrev n_MOST_FIGURES : Nat := 20
abbrev n_MOST_FUNCTIONS : Nat := 21
abbrev n_MOST_JOBS : Nat := 22
abbrev n_MOST_JOBS_v2 : Nat := 23
abbrev n_MOST_ONE : Nat := 24
abbrev n_MOST_OUT : Nat := 25
abbrev n_MOST_PARAMETERS : Nat := 26
abbrev n_MOST_PARTS : Nat := 27
abbrev n_MOST_ROW : Nat := 28
abbrev n_MOST_ROW_makers : Nat := 29
abbrev n_MOST_ROW_programs : Nat := 30
abbrev n_MOST_ROW_v2 : Nat := 31
abbrev n_MOST_SPOTS : Nat := 32
abbrev n_MOST_TREES : Nat := 33
abbrev n_MOST_TRIALS : Nat := 34
abbrev n_MOST_WORLD : Nat := 35
abbrev n_Machine : Nat := 36
abbrev n_Machine_v2 : Nat := 37
abbrev n_MillError : Nat := 38
abbrev n_NUMBERS : Nat := 39
abbrev n_NoArgs : Nat := 40
abbrev n_NoBend : Nat := 41
abbrev n_NoChoices : Nat := 42
abbrev n_NoDeeds : Nat := 43
abbrev n_NoFunction : Nat := 44
abbrev n_NoJob : Nat := 45
abbrev n_NoText : Nat := 46
abbrev n_NoTrial : Nat := 47
abbrev n_NoWorld : Nat := 48
abbrev n_NotBad : Nat := 49
abbrev n_NothingLeft : Nat := 50
abbrev n_OTHERS : Nat := 51
abbrev n_SHARE : Nat := 52
abbrev n_SIZES : Nat := 53
abbrev n_SMALL : Nat := 54
abbrev n_Source : Nat := 55
abbrev n_Suite : Nat := 56
abbrev n_Suite_v2 : Nat := 57
abbrev n_Suite_v3 : Nat := 58
abbrev n_Suite_v4 : Nat := 59
abbrev n_Suite_v5 : Nat := 60
abbrev n_Suite_v6 : Nat := 61
abbrev n_Suite_v7 : Nat := 62
abbrev n_Suite_v8 : Nat := 63
abbrev n_Suite_v9 : Nat := 64
abbrev n_TRIES : Nat := 65
abbrev n_TURNED : Nat := 66
abbrev n_TooMany : Nat := 67
abbrev n_WAYS : Nat := 68
abbrev n_WORDS : Nat := 69
abbrev n_Walk : Nat := 70
abbrev n_added : Nat := 71
abbrev n_all_spots : Nat := 72
abbrev n_all_ways : Nat := 73
abbrev n_are_deeds : Nat := 74
abbrev n_are_ends : Nat := 75
abbrev n_are_good : Nat := 76
abbrev n_are_good_v2 : Nat := 77
abbrev n_are_trials : Nat := 78
abbrev n_bare : Nat := 79
abbrev n_bends : Nat := 80
abbrev n_bent : Nat := 81
abbrev n_bracketed : Nat := 82
abbrev n_branches : Nat := 83
abbrev n_covered : Nat := 84
abbrev n_drawn : Nat := 85
abbrev n_drawn_row : Nat := 86
abbrev n_expression_in : Nat := 87
abbrev n_fewest : Nat := 88
abbrev n_fewest_covering : Nat := 89
abbrev n_fewest_telling : Nat := 90
abbrev n_first_ways : Nat := 91
abbrev n_following : Nat := 92
abbrev n_function_in : Nat := 93
abbrev n_functions_in : Nat := 94
abbrev n_functions_of : Nat := 95
abbrev n_is_choices : Nat := 96
abbrev n_is_enough : Nat := 97
abbrev n_is_expression : Nat := 98
abbrev n_is_expression_v2 : Nat := 99
abbrev n_is_formed : Nat := 100
abbrev n_is_formed_v2 : Nat := 101
abbrev n_is_from : Nat := 102
abbrev n_is_function : Nat := 103
abbrev n_is_function_v2 : Nat := 104
abbrev n_is_maker : Nat := 105
abbrev n_is_maker_in_form : Nat := 106
abbrev n_is_maker_v2 : Nat := 107
abbrev n_is_name : Nat := 108
abbrev n_is_program : Nat := 109
abbrev n_is_program_v2 : Nat := 110
abbrev n_is_small : Nat := 111
abbrev n_is_trial : Nat := 112
abbrev n_is_value : Nat := 113
abbrev n_is_value_by : Nat := 114
abbrev n_is_way_down : Nat := 115
abbrev n_is_world : Nat := 116
abbrev n_kind_of : Nat := 117
abbrev n_law_all_draws : Nat := 118
abbrev n_law_all_in : Nat := 119
abbrev n_law_all_ways : Nat := 120
abbrev n_law_any_deed : Nat := 121
abbrev n_law_apart : Nat := 122
abbrev n_law_are_choices : Nat := 123
abbrev n_law_are_deeds : Nat := 124
abbrev n_law_args : Nat := 125
abbrev n_law_at_bounds : Nat := 126
abbrev n_law_back_due : Nat := 127
abbrev n_law_bad_book : Nat := 128
abbrev n_law_bad_book_v2 : Nat := 129
abbrev n_law_bad_deeds : Nat := 130
abbrev n_law_behind : Nat := 131
abbrev n_law_bends : Nat := 132
abbrev n_law_bent : Nat := 133
abbrev n_law_bent_text : Nat := 134
abbrev n_law_body : Nat := 135
abbrev n_law_book : Nat := 136
abbrev n_law_book_good : Nat := 137
abbrev n_law_book_of : Nat := 138
abbrev n_law_book_right : Nat := 139
abbrev n_law_book_v2 : Nat := 140
abbrev n_law_book_v3 : Nat := 141
abbrev n_law_book_v4 : Nat := 142
abbrev n_law_called : Nat := 143
abbrev n_law_called_in : Nat := 144
abbrev n_law_calls : Nat := 145
abbrev n_law_chain : Nat := 146
abbrev n_law_changed : Nat := 147
abbrev n_law_choices : Nat := 148
abbrev n_law_choices_v2 : Nat := 149
abbrev n_law_chosen : Nat := 150
abbrev n_law_closest : Nat := 151
abbrev n_law_counted : Nat := 152
abbrev n_law_counts : Nat := 153
abbrev n_law_deck : Nat := 154
abbrev n_law_deed_done : Nat := 155
abbrev n_law_deed_due : Nat := 156
abbrev n_law_deed_due_v2 : Nat := 157
abbrev n_law_deed_told : Nat := 158
abbrev n_law_do : Nat := 159
abbrev n_law_done_of : Nat := 160
abbrev n_law_done_of_v2 : Nat := 161
abbrev n_law_down : Nat := 162
abbrev n_law_downs : Nat := 163
abbrev n_law_draw : Nat := 164
abbrev n_law_draws_of : Nat := 165
abbrev n_law_due : Nat := 166
abbrev n_law_easy_maker : Nat := 167
abbrev n_law_easy_trial : Nat := 168
abbrev n_law_enough : Nat := 169
abbrev n_law_far : Nat := 170
abbrev n_law_far_v2 : Nat := 171
abbrev n_law_fault : Nat := 172
abbrev n_law_fault_v2 : Nat := 173
abbrev n_law_fault_v3 : Nat := 174
abbrev n_law_faulty : Nat := 175
abbrev n_law_few : Nat := 176
abbrev n_law_fewest : Nat := 177
abbrev n_law_frac : Nat := 178
abbrev n_law_from : Nat := 179
abbrev n_law_functions_of : Nat := 180
abbrev n_law_gcd : Nat := 181
abbrev n_law_gone : Nat := 182
abbrev n_law_gone_by : Nat := 183
abbrev n_law_half : Nat := 184
abbrev n_law_if_places : Nat := 185
abbrev n_law_inner : Nat := 186
abbrev n_law_is_function : Nat := 187
abbrev n_law_is_maker : Nat := 188
abbrev n_law_is_name : Nat := 189
abbrev n_law_is_program : Nat := 190
abbrev n_law_is_sea : Nat := 191
abbrev n_law_is_trial : Nat := 192
abbrev n_law_is_value : Nat := 193
abbrev n_law_is_way : Nat := 194
abbrev n_law_job_of : Nat := 195
abbrev n_law_jobs : Nat := 196
abbrev n_law_jobs_due : Nat := 197
abbrev n_law_keep : Nat := 198
abbrev n_law_keep_v2 : Nat := 199
abbrev n_law_kind : Nat := 200
abbrev n_law_leaf : Nat := 201
abbrev n_law_leaf_v2 : Nat := 202
abbrev n_law_less : Nat := 203
abbrev n_law_lowest : Nat := 204
abbrev n_law_machine : Nat := 205
abbrev n_law_made : Nat := 206
abbrev n_law_made_all : Nat := 207
abbrev n_law_made_row : Nat := 208
abbrev n_law_maker : Nat := 209
abbrev n_law_maker_v2 : Nat := 210
abbrev n_law_maker_v3 : Nat := 211
abbrev n_law_many : Nat := 212
abbrev n_law_many_worlds : Nat := 213
abbrev n_law_mended_right : Nat := 214
abbrev n_law_name_of : Nat := 215
abbrev n_law_number_in : Nat := 216
abbrev n_law_numbers_in : Nat := 217
abbrev n_law_odd : Nat := 218
abbrev n_law_of_row : Nat := 219
abbrev n_law_of_size : Nat := 220
abbrev n_law_one : Nat := 221
abbrev n_law_order : Nat := 222
abbrev n_law_other_code : Nat := 223
abbrev n_law_others_of : Nat := 224
abbrev n_law_otherwise : Nat := 225
abbrev n_law_own_of : Nat := 226
abbrev n_law_parts : Nat := 227
abbrev n_law_pick : Nat := 228
abbrev n_law_pick_v2 : Nat := 229
abbrev n_law_power : Nat := 230
abbrev n_law_program : Nat := 231
abbrev n_law_program_v2 : Nat := 232
abbrev n_law_put : Nat := 233
abbrev n_law_put_at : Nat := 234
abbrev n_law_ran : Nat := 235
abbrev n_law_read : Nat := 236
abbrev n_law_reading : Nat := 237
abbrev n_law_report : Nat := 238
abbrev n_law_results_right : Nat := 239
abbrev n_law_right : Nat := 240
abbrev n_law_right_v2 : Nat := 241
abbrev n_law_right_v3 : Nat := 242
abbrev n_law_row : Nat := 243
abbrev n_law_row_due : Nat := 244
abbrev n_law_run : Nat := 245
abbrev n_law_same : Nat := 246
abbrev n_law_same_v2 : Nat := 247
abbrev n_law_set_code : Nat := 248
abbrev n_law_set_trial : Nat := 249
abbrev n_law_share : Nat := 250
abbrev n_law_share_v2 : Nat := 251
abbrev n_law_share_v3 : Nat := 252
abbrev n_law_show : Nat := 253
abbrev n_law_show_book : Nat := 254
abbrev n_law_show_function : Nat := 255
abbrev n_law_show_maker : Nat := 256
abbrev n_law_show_trial : Nat := 257
abbrev n_law_show_value : Nat := 258
abbrev n_law_signs : Nat := 259
abbrev n_law_since : Nat := 260
abbrev n_law_size : Nat := 261
abbrev n_law_small_code : Nat := 262
abbrev n_law_some_trials : Nat := 263
abbrev n_law_sort : Nat := 264
abbrev n_law_source : Nat := 265
abbrev n_law_spoilt : Nat := 266
abbrev n_law_spoilt_v2 : Nat := 267
abbrev n_law_spot_of : Nat := 268
abbrev n_law_spots : Nat := 269
abbrev n_law_spots_in : Nat := 270
abbrev n_law_stale : Nat := 271
abbrev n_law_steps : Nat := 272
abbrev n_law_steps_v2 : Nat := 273
abbrev n_law_subsets : Nat := 274
abbrev n_law_suite_new : Nat := 275
abbrev n_law_suite_right : Nat := 276
abbrev n_law_sum : Nat := 277
abbrev n_law_sum_v2 : Nat := 278
abbrev n_law_tables : Nat := 279
abbrev n_law_thing : Nat := 280
abbrev n_law_told : Nat := 281
abbrev n_law_told_of : Nat := 282
abbrev n_law_touched : Nat := 283
abbrev n_law_tree : Nat := 284
abbrev n_law_tree_spots : Nat := 285
abbrev n_law_tree_v2 : Nat := 286
abbrev n_law_trial : Nat := 287
abbrev n_law_trial_v2 : Nat := 288
abbrev n_law_tried : Nat := 289
abbrev n_law_trimmed : Nat := 290
abbrev n_law_trimmed_v2 : Nat := 291
abbrev n_law_try : Nat := 292
abbrev n_law_two : Nat := 293
abbrev n_law_untrial : Nat := 294
abbrev n_law_value : Nat := 295
abbrev n_law_verdict : Nat := 296
abbrev n_law_verdicts : Nat := 297
abbrev n_law_walked : Nat := 298
abbrev n_law_way_right : Nat := 299
abbrev n_law_ways : Nat := 300
abbrev n_law_ways_v2 : Nat := 301
abbrev n_law_whole : Nat := 302
abbrev n_law_within : Nat := 303
abbrev n_law_without : Nat := 304
abbrev n_law_word : Nat := 305
abbrev n_law_world : Nat := 306
abbrev n_law_world_v2 : Nat := 307
abbrev n_law_worlds_upto : Nat := 308
abbrev n_like : Nat := 309
abbrev n_living : Nat := 310
abbrev n_made_by : Nat := 311
abbrev n_make : Nat := 312
abbrev n_make_v2 : Nat := 313
abbrev n_maker_in : Nat := 314
abbrev n_may_run : Nat := 315
abbrev n_measured : Nat := 316
abbrev n_must_run : Nat := 317
abbrev n_need_draws : Nat := 318
abbrev n_next_down : Nat := 319
abbrev n_odds : Nat := 320
abbrev n_odds_apart : Nat := 321
abbrev n_of_number : Nat := 322
abbrev n_of_word : Nat := 323
abbrev n_order : Nat := 324
abbrev n_others_of : Nat := 325
abbrev n_parted : Nat := 326
abbrev n_parts_in : Nat := 327
abbrev n_places_of : Nat := 328
abbrev n_raised : Nat := 329
abbrev n_read_book : Nat := 330
abbrev n_read_numbers : Nat := 331
abbrev n_replaced : Nat := 332
abbrev n_report : Nat := 333
abbrev n_row_of : Nat := 334
abbrev n_run : Nat := 335
abbrev n_share_apart : Nat := 336
abbrev n_shared : Nat := 337
abbrev n_show_book : Nat := 338
abbrev n_show_expression : Nat := 339
abbrev n_show_function : Nat := 340
abbrev n_show_maker : Nat := 341
abbrev n_show_numbers : Nat := 342
abbrev n_show_trial : Nat := 343
abbrev n_show_value : Nat := 344
abbrev n_sizes_in : Nat := 345
abbrev n_sizes_of : Nat := 346
abbrev n_small_steps : Nat := 347
abbrev n_split_up : Nat := 348
abbrev n_spots : Nat := 349
abbrev n_spots_from : Nat := 350
abbrev n_spots_of : Nat := 351
abbrev n_steps_from : Nat := 352
abbrev n_straight : Nat := 353
abbrev n_tables : Nat := 354
abbrev n_tell : Nat := 355
abbrev n_told_apart : Nat := 356
abbrev n_told_by : Nat := 357
abbrev n_told_of : Nat := 358
abbrev n_touched : Nat := 359
abbrev n_tree_from : Nat := 360
abbrev n_trees_in : Nat := 361
abbrev n_trial_in : Nat := 362
abbrev n_tried : Nat := 363
abbrev n_tries_for : Nat := 364
abbrev n_trimmed : Nat := 365
abbrev n_turning_world : Nat := 366
abbrev n_unsteady : Nat := 367
abbrev n_value_in : Nat := 368
abbrev n_verdict_of : Nat := 369
abbrev n_verdicts : Nat := 370
abbrev n_wall : Nat := 371
abbrev n_way_down : Nat := 372
abbrev n_whole_at : Nat := 373
abbrev n_whole_in : Nat := 374
abbrev n_within : Nat := 375
abbrev n_words_of : Nat := 376
abbrev n_world_covered : Nat := 377
abbrev n_world_spots : Nat := 378
abbrev n_worlds_of : Nat := 379
abbrev n_Breaks_K : Nat := 380
abbrev n_COUNTS_K : Nat := 381
abbrev n_FACTOR_K : Nat := 382
abbrev n_FUEL_K : Nat := 383
abbrev n_FURTHEST_K : Nat := 384
abbrev n_Failed_K : Nat := 385
abbrev n_Fault_K : Nat := 386
abbrev n_Full_K : Nat := 387
abbrev n_GREATEST_K : Nat := 388
abbrev n_KEPT_K : Nat := 389
abbrev n_KINDS_K : Nat := 390
abbrev n_LETTERS_K : Nat := 391
abbrev n_LIMIT_K : Nat := 392
abbrev n_LONGEST_K : Nat := 393
abbrev n_MANY_K : Nat := 394
abbrev n_MODULUS_K : Nat := 395
abbrev n_MOST_CALLS_K : Nat := 396
abbrev n_MOST_CHOICES_K : Nat := 397
abbrev n_MOST_DEEP_K : Nat := 398
abbrev n_MOST_FIGURES_K : Nat := 399
abbrev n_MOST_FUNCTIONS_K : Nat := 400
abbrev n_MOST_JOBS_K : Nat := 401
abbrev n_MOST_JOBS_v2_K : Nat := 402
abbrev n_MOST_ONE_K : Nat := 403
abbrev n_MOST_OUT_K : Nat := 404
abbrev n_MOST_PARAMETERS_K : Nat := 405
abbrev n_MOST_PARTS_K : Nat := 406
abbrev n_MOST_ROW_K : Nat := 407
abbrev n_MOST_ROW_makers_K : Nat := 408
abbrev n_MOST_ROW_programs_K : Nat := 409
abbrev n_MOST_ROW_v2_K : Nat := 410
abbrev n_MOST_SPOTS_K : Nat := 411
abbrev n_MOST_TREES_K : Nat := 412
abbrev n_MOST_TRIALS_K : Nat := 413
abbrev n_MOST_WORLD_K : Nat := 414
abbrev n_Machine_K : Nat := 415
abbrev n_Machine_v2_K : Nat := 416
abbrev n_MillError_K : Nat := 417
abbrev n_NUMBERS_K : Nat := 418
abbrev n_NoArgs_K : Nat := 419
abbrev n_NoBend_K : Nat := 420
abbrev n_NoChoices_K : Nat := 421
abbrev n_NoDeeds_K : Nat := 422
abbrev n_NoFunction_K : Nat := 423
abbrev n_NoJob_K : Nat := 424
abbrev n_NoText_K : Nat := 425
abbrev n_NoTrial_K : Nat := 426
abbrev n_NoWorld_K : Nat := 427
abbrev n_NotBad_K : Nat := 428
abbrev n_NothingLeft_K : Nat := 429
abbrev n_OTHERS_K : Nat := 430
abbrev n_SHARE_K : Nat := 431
abbrev n_SIZES_K : Nat := 432
abbrev n_SMALL_K : Nat := 433
abbrev n_Source_K : Nat := 434
abbrev n_Suite_K : Nat := 435
abbrev n_Suite_v2_K : Nat := 436
abbrev n_Suite_v3_K : Nat := 437
abbrev n_Suite_v4_K : Nat := 438
abbrev n_Suite_v5_K : Nat := 439
abbrev n_Suite_v6_K : Nat := 440
abbrev n_Suite_v7_K : Nat := 441
abbrev n_Suite_v8_K : Nat := 442
abbrev n_Suite_v9_K : Nat := 443
abbrev n_TRIES_K : Nat := 444
abbrev n_TURNED_K : Nat := 445
abbrev n_TooMany_K : Nat := 446
abbrev n_WAYS_K : Nat := 447
abbrev n_WORDS_K : Nat := 448
abbrev n_Walk_K : Nat := 449
abbrev n_added_K : Nat := 450
abbrev n_all_spots_K : Nat := 451
abbrev n_all_ways_K : Nat := 452
abbrev n_are_deeds_K : Nat := 453
abbrev n_are_ends_K : Nat := 454
abbrev n_are_good_K : Nat := 455
abbrev n_are_good_v2_K : Nat := 456
abbrev n_are_trials_K : Nat := 457
abbrev n_bare_K : Nat := 458
abbrev n_bends_K : Nat := 459
abbrev n_bent_K : Nat := 460
abbrev n_bracketed_K : Nat := 461
abbrev n_branches_K : Nat := 462
abbrev n_covered_K : Nat := 463
abbrev n_drawn_K : Nat := 464
abbrev n_drawn_row_K : Nat := 465
abbrev n_expression_in_K : Nat := 466
abbrev n_fewest_K : Nat := 467
abbrev n_fewest_covering_K : Nat := 468
abbrev n_fewest_telling_K : Nat := 469
abbrev n_first_ways_K : Nat := 470
abbrev n_following_K : Nat := 471
abbrev n_function_in_K : Nat := 472
abbrev n_functions_in_K : Nat := 473
abbrev n_functions_of_K : Nat := 474
abbrev n_is_choices_K : Nat := 475
abbrev n_is_enough_K : Nat := 476
abbrev n_is_expression_K : Nat := 477
abbrev n_is_expression_v2_K : Nat := 478
abbrev n_is_formed_K : Nat := 479
abbrev n_is_formed_v2_K : Nat := 480
abbrev n_is_from_K : Nat := 481
abbrev n_is_function_K : Nat := 482
abbrev n_is_function_v2_K : Nat := 483
abbrev n_is_maker_K : Nat := 484
abbrev n_is_maker_in_form_K : Nat := 485
abbrev n_is_maker_v2_K : Nat := 486
abbrev n_is_name_K : Nat := 487
abbrev n_is_program_K : Nat := 488
abbrev n_is_program_v2_K : Nat := 489
abbrev n_is_small_K : Nat := 490
abbrev n_is_trial_K : Nat := 491
abbrev n_is_value_K : Nat := 492
abbrev n_is_value_by_K : Nat := 493
abbrev n_is_way_down_K : Nat := 494
abbrev n_is_world_K : Nat := 495
abbrev n_kind_of_K : Nat := 496
abbrev n_law_all_draws_K : Nat := 497
abbrev n_law_all_in_K : Nat := 498
abbrev n_law_all_ways_K : Nat := 499
abbrev n_law_any_deed_K : Nat := 500
abbrev n_law_apart_K : Nat := 501
abbrev n_law_are_choices_K : Nat := 502
abbrev n_law_are_deeds_K : Nat := 503
abbrev n_law_args_K : Nat := 504
abbrev n_law_at_bounds_K : Nat := 505
abbrev n_law_back_due_K : Nat := 506
abbrev n_law_bad_book_K : Nat := 507
abbrev n_law_bad_book_v2_K : Nat := 508
abbrev n_law_bad_deeds_K : Nat := 509
abbrev n_law_behind_K : Nat := 510
abbrev n_law_bends_K : Nat := 511
abbrev n_law_bent_K : Nat := 512
abbrev n_law_bent_text_K : Nat := 513
abbrev n_law_body_K : Nat := 514
abbrev n_law_book_K : Nat := 515
abbrev n_law_book_good_K : Nat := 516
abbrev n_law_book_of_K : Nat := 517
abbrev n_law_book_right_K : Nat := 518
abbrev n_law_book_v2_K : Nat := 519
abbrev n_law_book_v3_K : Nat := 520
abbrev n_law_book_v4_K : Nat := 521
abbrev n_law_called_K : Nat := 522
abbrev n_law_called_in_K : Nat := 523
abbrev n_law_calls_K : Nat := 524
abbrev n_law_chain_K : Nat := 525
abbrev n_law_changed_K : Nat := 526
abbrev n_law_choices_K : Nat := 527
abbrev n_law_choices_v2_K : Nat := 528
abbrev n_law_chosen_K : Nat := 529
abbrev n_law_closest_K : Nat := 530
abbrev n_law_counted_K : Nat := 531
abbrev n_law_counts_K : Nat := 532
abbrev n_law_deck_K : Nat := 533
abbrev n_law_deed_done_K : Nat := 534
abbrev n_law_deed_due_K : Nat := 535
abbrev n_law_deed_due_v2_K : Nat := 536
abbrev n_law_deed_told_K : Nat := 537
abbrev n_law_do_K : Nat := 538
abbrev n_law_done_of_K : Nat := 539
abbrev n_law_done_of_v2_K : Nat := 540
abbrev n_law_down_K : Nat := 541
abbrev n_law_downs_K : Nat := 542
abbrev n_law_draw_K : Nat := 543
abbrev n_law_draws_of_K : Nat := 544
abbrev n_law_due_K : Nat := 545
abbrev n_law_easy_maker_K : Nat := 546
abbrev n_law_easy_trial_K : Nat := 547
abbrev n_law_enough_K : Nat := 548
abbrev n_law_far_K : Nat := 549
abbrev n_law_far_v2_K : Nat := 550
abbrev n_law_fault_K : Nat := 551
abbrev n_law_fault_v2_K : Nat := 552
abbrev n_law_fault_v3_K : Nat := 553
abbrev n_law_faulty_K : Nat := 554
abbrev n_law_few_K : Nat := 555
abbrev n_law_fewest_K : Nat := 556
abbrev n_law_frac_K : Nat := 557
abbrev n_law_from_K : Nat := 558
abbrev n_law_functions_of_K : Nat := 559
abbrev n_law_gcd_K : Nat := 560
abbrev n_law_gone_K : Nat := 561
abbrev n_law_gone_by_K : Nat := 562
abbrev n_law_half_K : Nat := 563
abbrev n_law_if_places_K : Nat := 564
abbrev n_law_inner_K : Nat := 565
abbrev n_law_is_function_K : Nat := 566
abbrev n_law_is_maker_K : Nat := 567
abbrev n_law_is_name_K : Nat := 568
abbrev n_law_is_program_K : Nat := 569
abbrev n_law_is_sea_K : Nat := 570
abbrev n_law_is_trial_K : Nat := 571
abbrev n_law_is_value_K : Nat := 572
abbrev n_law_is_way_K : Nat := 573
abbrev n_law_job_of_K : Nat := 574
abbrev n_law_jobs_K : Nat := 575
abbrev n_law_jobs_due_K : Nat := 576
abbrev n_law_keep_K : Nat := 577
abbrev n_law_keep_v2_K : Nat := 578
abbrev n_law_kind_K : Nat := 579
abbrev n_law_leaf_K : Nat := 580
abbrev n_law_leaf_v2_K : Nat := 581
abbrev n_law_less_K : Nat := 582
abbrev n_law_lowest_K : Nat := 583
abbrev n_law_machine_K : Nat := 584
abbrev n_law_made_K : Nat := 585
abbrev n_law_made_all_K : Nat := 586
abbrev n_law_made_row_K : Nat := 587
abbrev n_law_maker_K : Nat := 588
abbrev n_law_maker_v2_K : Nat := 589
abbrev n_law_maker_v3_K : Nat := 590
abbrev n_law_many_K : Nat := 591
abbrev n_law_many_worlds_K : Nat := 592
abbrev n_law_mended_right_K : Nat := 593
abbrev n_law_name_of_K : Nat := 594
abbrev n_law_number_in_K : Nat := 595
abbrev n_law_numbers_in_K : Nat := 596
abbrev n_law_odd_K : Nat := 597
abbrev n_law_of_row_K : Nat := 598
abbrev n_law_of_size_K : Nat := 599
abbrev n_law_one_K : Nat := 600
abbrev n_law_order_K : Nat := 601
abbrev n_law_other_code_K : Nat := 602
abbrev n_law_others_of_K : Nat := 603
abbrev n_law_otherwise_K : Nat := 604
abbrev n_law_own_of_K : Nat := 605
abbrev n_law_parts_K : Nat := 606
abbrev n_law_pick_K : Nat := 607
abbrev n_law_pick_v2_K : Nat := 608
abbrev n_law_power_K : Nat := 609
abbrev n_law_program_K : Nat := 610
abbrev n_law_program_v2_K : Nat := 611
abbrev n_law_put_K : Nat := 612
abbrev n_law_put_at_K : Nat := 613
abbrev n_law_ran_K : Nat := 614
abbrev n_law_read_K : Nat := 615
abbrev n_law_reading_K : Nat := 616
abbrev n_law_report_K : Nat := 617
abbrev n_law_results_right_K : Nat := 618
abbrev n_law_right_K : Nat := 619
abbrev n_law_right_v2_K : Nat := 620
abbrev n_law_right_v3_K : Nat := 621
abbrev n_law_row_K : Nat := 622
abbrev n_law_row_due_K : Nat := 623
abbrev n_law_run_K : Nat := 624
abbrev n_law_same_K : Nat := 625
abbrev n_law_same_v2_K : Nat := 626
abbrev n_law_set_code_K : Nat := 627
abbrev n_law_set_trial_K : Nat := 628
abbrev n_law_share_K : Nat := 629
abbrev n_law_share_v2_K : Nat := 630
abbrev n_law_share_v3_K : Nat := 631
abbrev n_law_show_K : Nat := 632
abbrev n_law_show_book_K : Nat := 633
abbrev n_law_show_function_K : Nat := 634
abbrev n_law_show_maker_K : Nat := 635
abbrev n_law_show_trial_K : Nat := 636
abbrev n_law_show_value_K : Nat := 637
abbrev n_law_signs_K : Nat := 638
abbrev n_law_since_K : Nat := 639
abbrev n_law_size_K : Nat := 640
abbrev n_law_small_code_K : Nat := 641
abbrev n_law_some_trials_K : Nat := 642
abbrev n_law_sort_K : Nat := 643
abbrev n_law_source_K : Nat := 644
abbrev n_law_spoilt_K : Nat := 645
abbrev n_law_spoilt_v2_K : Nat := 646
abbrev n_law_spot_of_K : Nat := 647
abbrev n_law_spots_K : Nat := 648
abbrev n_law_spots_in_K : Nat := 649
abbrev n_law_stale_K : Nat := 650
abbrev n_law_steps_K : Nat := 651
abbrev n_law_steps_v2_K : Nat := 652
abbrev n_law_subsets_K : Nat := 653
abbrev n_law_suite_new_K : Nat := 654
abbrev n_law_suite_right_K : Nat := 655
abbrev n_law_sum_K : Nat := 656
abbrev n_law_sum_v2_K : Nat := 657
abbrev n_law_tables_K : Nat := 658
abbrev n_law_thing_K : Nat := 659
abbrev n_law_told_K : Nat := 660
abbrev n_law_told_of_K : Nat := 661
abbrev n_law_touched_K : Nat := 662
abbrev n_law_tree_K : Nat := 663
abbrev n_law_tree_spots_K : Nat := 664
abbrev n_law_tree_v2_K : Nat := 665
abbrev n_law_trial_K : Nat := 666
abbrev n_law_trial_v2_K : Nat := 667
abbrev n_law_tried_K : Nat := 668
abbrev n_law_trimmed_K : Nat := 669
abbrev n_law_trimmed_v2_K : Nat := 670
abbrev n_law_try_K : Nat := 671
abbrev n_law_two_K : Nat := 672
abbrev n_law_untrial_K : Nat := 673
abbrev n_law_value_K : Nat := 674
abbrev n_law_verdict_K : Nat := 675
abbrev n_law_verdicts_K : Nat := 676
abbrev n_law_walked_K : Nat := 677
abbrev n_law_way_right_K : Nat := 678
abbrev n_law_ways_K : Nat := 679
abbrev n_law_ways_v2_K : Nat := 680
abbrev n_law_whole_K : Nat := 681
abbrev n_law_within_K : Nat := 682
abbrev n_law_without_K : Nat := 683
abbrev n_law_word_K : Nat := 684
abbrev n_law_world_K : Nat := 685
abbrev n_law_world_v2_K : Nat := 686
abbrev n_law_worlds_upto_K : Nat := 687
abbrev n_like_K : Nat := 688
abbrev n_living_K : Nat := 689
abbrev n_made_by_K : Nat := 690
abbrev n_make_K : Nat := 691
abbrev n_make_v2_K : Nat := 692
abbrev n_maker_in_K : Nat := 693
abbrev n_may_run_K : Nat := 694
abbrev n_measured_K : Nat := 695
abbrev n_must_run_K : Nat := 696
abbrev n_need_draws_K : Nat := 697
abbrev n_next_down_K : Nat := 698
abbrev n_odds_K : Nat := 699
abbrev n_odds_apart_K : Nat := 700
abbrev n_of_number_K : Nat := 701
abbrev n_of_word_K : Nat := 702
abbrev n_order_K : Nat := 703
abbrev n_others_of_K : Nat := 704
abbrev n_parted_K : Nat := 705
abbrev n_parts_in_K : Nat := 706
abbrev n_places_of_K : Nat := 707
abbrev n_raised_K : Nat := 708
abbrev n_read_book_K : Nat := 709
abbrev n_read_numbers_K : Nat := 710
abbrev n_replaced_K : Nat := 711
abbrev n_report_K : Nat := 712
abbrev n_row_of_K : Nat := 713
abbrev n_run_K : Nat := 714
abbrev n_share_apart_K : Nat := 715
abbrev n_shared_K : Nat := 716
abbrev n_show_book_K : Nat := 717
abbrev n_show_expression_K : Nat := 718
abbrev n_show_function_K : Nat := 719
abbrev n_show_maker_K : Nat := 720
abbrev n_show_numbers_K : Nat := 721
abbrev n_show_trial_K : Nat := 722
abbrev n_show_value_K : Nat := 723
abbrev n_sizes_in_K : Nat := 724
abbrev n_sizes_of_K : Nat := 725
abbrev n_small_steps_K : Nat := 726
abbrev n_split_up_K : Nat := 727
abbrev n_spots_K : Nat := 728
abbrev n_spots_from_K : Nat := 729
abbrev n_spots_of_K : Nat := 730
abbrev n_steps_from_K : Nat := 731
abbrev n_straight_K : Nat := 732
abbrev n_tables_K : Nat := 733
abbrev n_tell_K : Nat := 734
abbrev n_told_apart_K : Nat := 735
abbrev n_told_by_K : Nat := 736
abbrev n_told_of_K : Nat := 737
abbrev n_touched_K : Nat := 738
abbrev n_tree_from_K : Nat := 739
abbrev n_trees_in_K : Nat := 740
abbrev n_trial_in_K : Nat := 741
abbrev n_tried_K : Nat := 742
abbrev n_tries_for_K : Nat := 743
abbrev n_trimmed_K : Nat := 744
abbrev n_turning_world_K : Nat := 745
abbrev n_unsteady_K : Nat := 746
abbrev n_value_in_K : Nat := 747
abbrev n_verdict_of_K : Nat := 748
abbrev n_verdicts_K : Nat := 749
abbrev n_wall_K : Nat := 750
abbrev n_way_down_K : Nat := 751
abbrev n_whole_at_K : Nat := 752
abbrev n_whole_in_K : Nat := 753
abbrev n_within_K : Nat := 754
abbrev n_words_of_K : Nat := 755
abbrev n_world_covered_K : Nat := 756
abbrev n_world_spots_K : Nat := 757
abbrev n_worlds_of_K : Nat := 758
def f_is_from (x : Nat → Nat) : Fn := ⟨3, 3, false, (.cons (.ret (.and (.cons (.isi (.v 0) "int") (.cons (.not (.isi (.v 0) "bool")) (.cons (.chain .LtE .LtE (.v 1) (.v 0) (.v 2)) .nil))))) .nil)⟩
def f_is_name (x : Nat → Nat) : Fn := ⟨1, 2, false, (.cons (.ife (.or (.cons (.not (.isi (.v 0) "str")) (.cons (.not (.chain .LtE .LtE (.c (.int 1)) (.blt .len (.cons (.v 0) .nil)) (.c (.int 8)))) (.cons (.cmp .In (.v 0) (.g (x n_WORDS))) (.cons (.cmp .In (.v 0) (.g (x n_KEPT))) .nil))))) (.cons (.ret (.c (.bool false))) .nil) .nil) (.cons (.ret (.blt .all1 (.cons (.comp false (.v 1) (.seq (.v 0)) .nil (.cmp .In (.v 1) (.g (x n_LETTERS)))) .nil))) .nil))⟩
def f_is_value_by (x : Nat → Nat) : Fn := ⟨2, 3, false, (.cons (.ife (.isi (.v 0) "bool") (.cons (.ret (.c (.bool true))) .nil) .nil) (.cons (.ife (.isi (.v 0) "tuple") (.cons (.ret (.and (.cons (.cmp .LtE (.blt .len (.cons (.v 0) .nil)) (.g (x n_LONGEST))) (.cons (.blt .all1 (.cons (.comp false (.v 2) (.seq (.v 0)) .nil (.call (x n_is_from) (.cons (.v 2) (.cons (.neg (.v 1)) (.cons (.v 1) .nil))) .nil [])) .nil)) .nil)))) .nil) .nil) (.cons (.ret (.call (x n_is_from) (.cons (.v 0) (.cons (.neg (.v 1)) (.cons (.v 1) .nil))) .nil [])) .nil)))⟩
def f_is_value (x : Nat → Nat) : Fn := ⟨1, 1, false, (.cons (.ret (.call (x n_is_value_by) (.cons (.v 0) (.cons (.g (x n_LIMIT)) .nil)) .nil [])) .nil)⟩
def f_law_deck (x : Nat → Nat) : Fn := ⟨2, 2, true, (.cons (.ife (.cmp .GtE (.v 0) (.bin .Pow (.c (.int 10)) (.c (.int 18)))) (.cons (.ret (.lst true (.cons (.bin .Sub (.v 0) (.bin .Pow (.c (.int 10)) (.c (.int 18)))) (.cons (.bin .Mod (.v 0) (.c (.int 2147483579))) (.cons (.v 1) .nil))))) .nil) .nil) (.cons (.ret (.lst true (.cons (.c (.int 0)) (.cons (.bin .Mod (.v 0) (.c (.int 2147483579))) (.cons (.v 1) .nil))))) .nil))⟩
def f_law_pick (x : Nat → Nat) : Fn := ⟨2, 4, false, (.cons (.ife (.cmp .Gt (.idx (.v 0) (.c (.int 0))) (.c (.int 1))) (.cons (.asg (.v 3) (.bin .Mod (.idx (.v 0) (.c (.int 0))) (.v 1))) (.cons (.asg (.idx (.v 0) (.c (.int 0))) (.bin .FloorDiv (.idx (.v 0) (.c (.int 0))) (.v 1))) (.cons (.ret (.v 3)) .nil))) .nil) (.cons (.asg (.idx (.v 0) (.c (.int 2))) (.bin .Add (.idx (.v 0) (.c (.int 2))) (.c (.int 1)))) (.cons (.asg (.v 2) (.bin .Mod (.bin .Pow (.bin .Add (.idx (.v 0) (.c (.int 1))) (.bin .Mult (.c (.int 15485867)) (.idx (.v 0) (.c (.int 2))))) (.c (.int 5))) (.c (.int 2147483647)))) (.cons (.asg (.v 3) (.bin .FloorDiv (.bin .Mod (.bin .Pow (.bin .Add (.v 2) (.bin .Mult (.c (.int 7919)) (.idx (.v 0) (.c (.int 2))))) (.c (.int 3))) (.c (.int 2147483629))) (.c (.int 32)))) (.cons (.ife (.cmp .Gt (.v 1) (.c (.int 1000000))) (.cons (.ret (.bin .Mod (.bin .Add (.bin .Mult (.v 3) (.c (.int 2147483563))) (.v 2)) (.v 1))) .nil) .nil) (.cons (.ret (.bin .Mod (.v 3) (.v 1))) .nil))))))⟩
def f_law_whole (x : Nat → Nat) : Fn := ⟨1, 1, false, (.cons (.ret (.and (.cons (.isi (.v 0) "int") (.cons (.not (.isi (.v 0) "bool")) .nil)))) .nil)⟩
def f_law_thing (x : Nat → Nat) : Fn := ⟨2, 6, false, (.cons (.asg (.v 2) (.call (x n_law_pick) (.cons (.v 0) (.cons (.c (.int 12)) .nil)) .nil [])) (.cons (.asg (.v 3) (.idx (.lst false (.cons (.bin .Sub (.call (x n_law_pick) (.cons (.v 0) (.cons (.c (.int 18)) .nil)) .nil []) (.c (.int 1))) (.cons (.bin .Sub (.call (x n_law_pick) (.cons (.v 0) (.cons (.bin .Pow (.c (.int 10)) (.c (.int 13))) .nil)) .nil []) (.bin .Pow (.c (.int 10)) (.c (.int 12)))) (.cons (.bin .Sub (.c (.int 0)) (.bin .Pow (.c (.int 10)) (.c (.int 39)))) .nil)))) (.call (x n_law_pick) (.cons (.v 0) (.cons (.c (.int 3)) .nil)) .nil []))) (.cons (.ife (.cmp .Lt (.v 2) (.c (.int 4))) (.cons (.ret (.v 3)) .nil) .nil) (.cons (.ife (.cmp .Lt (.v 2) (.c (.int 7))) (.cons (.ret (.idx (.lst false (.cons (.c (.bool true)) (.cons (.c (.bool false)) (.cons (.c .none) .nil)))) (.bin .Sub (.v 2) (.c (.int 4))))) .nil) .nil) (.cons (.ife (.cmp .Lt (.v 2) (.c (.int 9))) (.cons (.ret (.idx (.lst false (.cons (.c (.str "")) (.cons (.c (.str "a")) (.cons (.c (.str "number")) (.cons (.c (.str "plus")) (.cons (.c (.str "whole")) (.cons (.c (.str "row")) .nil))))))) (.call (x n_law_pick) (.cons (.v 0) (.cons (.c (.int 6)) .nil)) .nil []))) .nil) .nil) (.cons (.asg (.v 4) (.comp false (.v 5) (.rng1 (.bin .Mult (.call (x n_law_pick) (.cons (.v 0) (.cons (.c (.int 4)) .nil)) .nil []) (.blt .int1 (.cons (.cmp .Gt (.v 1) (.c (.int 0))) .nil)))) .nil (.call (x n_law_thing) (.cons (.v 0) (.cons (.bin .Sub (.v 1) (.c (.int 1))) .nil)) .nil []))) (.cons (.ret (.ite (.cmp .Eq (.v 2) (.c (.int 9))) (.v 4) (.blt .tup1 (.cons (.v 4) .nil)))) .nil)))))))⟩
def f_law_spoilt (x : Nat → Nat) : Fn := ⟨2, 6, false, (.cons (.ife (.and (.cons (.isi (.v 1) "tuple") (.cons (.cmp .NotEq (.v 1) (.tup .nil)) (.cons (.cmp .Gt (.call (x n_law_pick) (.cons (.v 0) (.cons (.c (.int 6)) .nil)) .nil []) (.c (.int 0))) .nil)))) (.cons (.asg (.v 3) (.call (x n_law_pick) (.cons (.v 0) (.cons (.blt .len (.cons (.v 1) .nil)) .nil)) .nil [])) (.cons (.asg (.v 4) (.call (x n_law_spoilt) (.cons (.v 0) (.cons (.idx (.v 1) (.v 3)) .nil)) .nil [])) (.cons (.ret (.bin .Add (.bin .Add (.slc (.v 1) .no (.yes (.v 3))) (.tup (.cons (.v 4) .nil))) (.slc (.v 1) (.yes (.bin .Add (.v 3) (.c (.int 1)))) .no))) .nil))) .nil) (.cons (.ife (.isi (.v 1) "str") (.cons (.asg (.v 5) (.lst false (.cons (.c (.str "")) (.cons (.c (.str "a")) (.cons (.c (.str "x")) (.cons (.c (.str "f")) (.cons (.c (.str "plus")) (.cons (.c (.str "not")) (.cons (.c (.str "world")) (.cons (.c (.str "if")) (.cons (.c (.str "let")) (.cons (.c (.str "call")) (.cons (.c (.str "number")) (.cons (.c (.str "row")) (.cons (.c (.str "A")) (.cons (.c (.str "abcdefghi")) .nil)))))))))))))))) (.cons (.ret (.idx (.bin .Add (.v 5) (.lst false (.cons (.bin .Add (.v 1) (.c (.str "a"))) (.cons (.c .none) (.cons (.c (.int 7)) .nil))))) (.call (x n_law_pick) (.cons (.v 0) (.cons (.c (.int 17)) .nil)) .nil []))) .nil)) .nil) (.cons (.ife (.isi (.v 1) "int") (.cons (.ret (.idx (.lst false (.cons (.bin .Add (.v 1) (.c (.int 1))) (.cons (.bin .Sub (.v 1) (.c (.int 1))) (.cons (.bin .Sub (.c (.int 0)) (.v 1)) (.cons (.c (.int 1001)) (.cons (.c (.bool true)) (.cons (.c .none) (.cons (.blt .str1 (.cons (.v 1) .nil)) (.cons (.bin .Add (.bin .Pow (.c (.int 10)) (.c (.int 12))) (.c (.int 1))) (.cons (.c (.int 0)) .nil)))))))))) (.call (x n_law_pick) (.cons (.v 0) (.cons (.c (.int 9)) .nil)) .nil []))) .nil) .nil) (.cons (.asg (.v 2) (.lst false (.cons (.tup (.cons (.c (.int 1)) (.cons (.c (.int 1)) .nil))) (.cons (.tup .nil) (.cons (.c .none) (.cons (.c (.bool true)) (.cons (.c (.str "x")) (.cons (.c (.int 7)) (.cons (.tup (.cons (.c (.str "number")) (.cons (.c (.int 1)) .nil))) (.cons (.tup (.cons (.c (.str "name")) (.cons (.c (.str "x")) .nil))) .nil)))))))))) (.cons (.ife (.isi (.v 1) "tuple") (.cons (.asg (.v 2) (.bin .Add (.v 2) (.lst false (.cons (.bin .Add (.v 1) (.slc (.v 1) .no (.yes (.c (.int 1))))) (.cons (.slc (.v 1) (.yes (.c (.int 1))) .no) (.cons (.slc (.v 1) .no (.yes (.c (.int 1)))) (.cons (.blt .lst1 (.cons (.v 1) .nil)) (.cons (.tup (.cons (.v 1) .nil)) (.cons (.bin .Add (.v 1) (.v 1)) (.cons (.back (.v 1)) .nil)))))))))) .nil) .nil) (.cons (.ret (.idx (.v 2) (.call (x n_law_pick) (.cons (.v 0) (.cons (.blt .len (.cons (.v 2) .nil)) .nil)) .nil []))) .nil))))))⟩
def f_law_is_name (x : Nat → Nat) : Fn := ⟨1, 3, false, (.cons (.asg (.v 1) (.lst false (.cons (.c (.str "plus")) (.cons (.c (.str "minus")) (.cons (.c (.str "times")) (.cons (.c (.str "over")) (.cons (.c (.str "rest")) (.cons (.c (.str "below")) (.cons (.c (.str "same")) (.cons (.c (.str "and")) (.cons (.c (.str "or")) (.cons (.c (.str "not")) (.cons (.c (.str "put")) (.cons (.c (.str "first")) (.cons (.c (.str "others")) .nil))))))))))))))) (.cons (.asg (.v 1) (.bin .Add (.v 1) (.lst false (.cons (.c (.str "long")) (.cons (.c (.str "world")) (.cons (.c (.str "if")) (.cons (.c (.str "let")) (.cons (.c (.str "true")) (.cons (.c (.str "false")) (.cons (.c (.str "fn")) (.cons (.c (.str "trial")) (.cons (.c (.str "just")) (.cons (.c (.str "one")) (.cons (.c (.str "row")) (.cons (.c (.str "by")) (.cons (.c (.str "where")) .nil)))))))))))))))) (.cons (.ife (.or (.cons (.not (.isi (.v 0) "str")) (.cons (.cmp .In (.v 0) (.bin .Add (.v 1) (.lst false (.cons (.c (.str "whole")) (.cons (.c (.str "truth")) .nil))))) (.cons (.not (.chain .LtE .LtE (.c (.int 1)) (.blt .len (.cons (.v 0) .nil)) (.c (.int 8)))) .nil)))) (.cons (.ret (.c (.bool false))) .nil) .nil) (.cons (.ret (.cmp .Eq (.comp false (.v 2) (.seq (.v 0)) (.cons (.not (.chain .LtE .LtE (.c (.str "a")) (.v 2) (.c (.str "z")))) .nil) (.v 2)) (.lst false .nil))) .nil))))⟩
def f_law_is_value (x : Nat → Nat) : Fn := ⟨1, 3, false, (.cons (.ife (.isi (.v 0) "bool") (.cons (.ret (.c (.bool true))) .nil) .nil) (.cons (.ife (.isi (.v 0) "tuple") (.cons (.asg (.v 1) (.comp false (.v 2) (.seq (.v 0)) (.cons (.or (.cons (.not (.call (x n_law_whole) (.cons (.v 2) .nil) .nil [])) (.cons (.cmp .Gt (.blt .abs (.cons (.v 2) .nil)) (.bin .Pow (.c (.int 10)) (.c (.int 12)))) .nil))) .nil) (.v 2))) (.cons (.ret (.and (.cons (.cmp .LtE (.blt .len (.cons (.v 0) .nil)) (.c (.int 30))) (.cons (.cmp .Eq (.v 1) (.lst false .nil)) .nil)))) .nil)) .nil) (.cons (.ret (.and (.cons (.call (x n_law_whole) (.cons (.v 0) .nil) .nil []) (.cons (.cmp .LtE (.blt .abs (.cons (.v 0) .nil)) (.bin .Pow (.c (.int 10)) (.c (.int 12)))) .nil)))) .nil)))⟩
def f_straight (x : Nat → Nat) : Fn := ⟨1, 2, false, (.cons (.asg (.v 1) (.idx (.v 0) (.c (.int 0)))) (.cons (.ife (.cmp .Eq (.v 1) (.c (.str "if"))) (.cons (.ret (.blt .lst1 (.cons (.slc (.v 0) (.yes (.c (.int 1))) .no) .nil))) .nil) .nil) (.cons (.ife (.cmp .Eq (.v 1) (.c (.str "let"))) (.cons (.ret (.blt .lst1 (.cons (.slc (.v 0) (.yes (.c (.int 2))) .no) .nil))) .nil) .nil) (.cons (.ret (.ite (.cmp .In (.v 1) (.tup (.cons (.c (.str "call")) (.cons (.c (.str "do")) .nil)))) (.blt .lst1 (.cons (.idx (.v 0) (.c (.int 2))) .nil)) (.lst false .nil))) .nil))))⟩
def f_are_good (x : Nat → Nat) : Fn := ⟨3, 4, false, (.cons (.ret (.blt .all1 (.cons (.comp false (.v 3) (.seq (.v 0)) .nil (.call (x n_is_expression) (.cons (.v 3) (.cons (.v 1) (.cons (.v 2) .nil))) .nil [])) .nil))) .nil)⟩
-- is_expression: target *parts
def l0_spots_from (x : Nat → Nat) : Ss := (.cons (.ext (.v 1) (.call (x n_spots_from) (.cons (.v 2) .nil) .nil [])) .nil)
def f_spots_from (x : Nat → Nat) : Fn := ⟨1, 3, false, (.cons (.asg (.v 1) (.lst true (.cons (.v 0) .nil))) (.cons (.fr (.v 2) (.seq (.call (x n_straight) (.cons (.v 0) .nil) .nil [])) (l0_spots_from x)) (.cons (.ret (.frz (.v 1))) .nil)))⟩
def f_spots (x : Nat → Nat) : Fn := ⟨1, 1, false, (.cons (.ret (.call (x n_spots_from) (.cons (.idx (.v 0) (.c (.int 2))) .nil) .nil [])) .nil)⟩
-- is_function: expression set(thing[1])
-- is_program: expression {function[0]: len(function[1]) for function in thing}
def f_law_signs (x : Nat → Nat) : Fn := ⟨0, 0, false, (.cons (.ret (.dct false (.cons (.c (.str "f")) (.cons (.tup (.cons (.lst false (.cons (.c (.str "number")) .nil)) (.cons (.c (.str "number")) .nil))) (.cons (.c (.str "g")) (.cons (.tup (.cons (.lst false (.cons (.c (.str "row")) .nil)) (.cons (.c (.str "number")) .nil))) (.cons (.c (.str "h")) (.cons (.tup (.cons (.lst false (.cons (.c (.str "number")) (.cons (.c (.str "number")) .nil))) (.cons (.c (.str "truth")) .nil))) (.cons (.c (.str "p")) (.cons (.tup (.cons (.lst false (.cons (.c (.str "number")) .nil)) (.cons (.c (.str "truth")) .nil))) (.cons (.c (.str "t")) (.cons (.tup (.cons (.lst false (.cons (.c (.str "number")) (.cons (.c (.str "row")) .nil))) (.cons (.c (.str "truth")) .nil))) .nil)))))))))))) .nil)⟩
def f_law_leaf (x : Nat → Nat) : Fn := ⟨3, 7, false, (.cons (.asg (.v 3) (.comp false (.tup (.cons (.v 4) (.cons (.v 5) .nil))) (.seq (.v 2)) (.cons (.cmp .Eq (.v 5) (.v 1)) .nil) (.v 4))) (.cons (.ife (.and (.cons (.cmp .NotEq (.v 3) (.lst false .nil)) (.cons (.cmp .Gt (.call (x n_law_pick) (.cons (.v 0) (.cons (.c (.int 3)) .nil)) .nil []) (.c (.int 0))) .nil))) (.cons (.ret (.tup (.cons (.c (.str "name")) (.cons (.idx (.v 3) (.call (x n_law_pick) (.cons (.v 0) (.cons (.blt .len (.cons (.v 3) .nil)) .nil)) .nil [])) .nil)))) .nil) .nil) (.cons (.ife (.cmp .Eq (.v 1) (.c (.str "number"))) (.cons (.ife (.cmp .Eq (.call (x n_law_pick) (.cons (.v 0) (.cons (.c (.int 10)) .nil)) .nil []) (.c (.int 0))) (.cons (.ret (.tup (.cons (.c (.str "do")) (.cons (.c (.str "world")) (.cons (.tup .nil) .nil))))) .nil) .nil) (.cons (.ret (.tup (.cons (.c (.str "number")) (.cons (.idx (.lst false (.cons (.bin .Sub (.call (x n_law_pick) (.cons (.v 0) (.cons (.c (.int 7)) .nil)) .nil []) (.c (.int 3))) (.cons (.bin .Sub (.call (x n_law_pick) (.cons (.v 0) (.cons (.c (.int 2001)) .nil)) .nil []) (.c (.int 1000))) .nil))) (.blt .int1 (.cons (.cmp .Eq (.call (x n_law_pick) (.cons (.v 0) (.cons (.c (.int 6)) .nil)) .nil []) (.c (.int 0))) .nil))) .nil)))) .nil)) .nil) (.cons (.ife (.cmp .Eq (.v 1) (.c (.str "truth"))) (.cons (.ret (.tup (.cons (.c (.str "truth")) (.cons (.cmp .Eq (.call (x n_law_pick) (.cons (.v 0) (.cons (.c (.int 2)) .nil)) .nil []) (.c (.int 0))) .nil)))) .nil) .nil) (.cons (.ret (.tup (.cons (.c (.str "row")) (.cons (.blt .tup1 (.cons (.comp false (.v 6) (.rng1 (.call (x n_law_pick) (.cons (.v 0) (.cons (.c (.int 4)) .nil)) .nil [])) .nil (.bin .Sub (.call (x n_law_pick) (.cons (.v 0) (.cons (.c (.int 7)) .nil)) .nil []) (.c (.int 3)))) .nil)) .nil)))) .nil)))))⟩
def f_law_done_of (x : Nat → Nat) : Fn := ⟨5, 10, false, (.cons (.asg (.v 5) (.dct true (.cons (.c (.str "number")) (.cons (.lst false (.cons (.c (.str "plus")) (.cons (.c (.str "minus")) (.cons (.c (.str "times")) (.cons (.c (.str "over")) (.cons (.c (.str "rest")) (.cons (.c (.str "first")) (.cons (.c (.str "long")) .nil)))))))) (.cons (.c (.str "row")) (.cons (.lst false (.cons (.c (.str "put")) (.cons (.c (.str "others")) (.cons (.c (.str "put")) .nil)))) .nil)))))) (.cons (.asg (.idx (.v 5) (.c (.str "truth"))) (.lst false (.cons (.c (.str "below")) (.cons (.c (.str "same")) (.cons (.c (.str "and")) (.cons (.c (.str "or")) (.cons (.c (.str "not")) (.cons (.c (.str "below")) .nil)))))))) (.cons (.asg (.v 6) (.idx (.idx (.v 5) (.v 1)) (.call (x n_law_pick) (.cons (.v 0) (.cons (.blt .len (.cons (.idx (.v 5) (.v 1)) .nil)) .nil)) .nil []))) (.cons (.asg (.v 7) (.dct true (.cons (.c (.str "first")) (.cons (.lst false (.cons (.c (.str "row")) .nil)) (.cons (.c (.str "long")) (.cons (.lst false (.cons (.c (.str "row")) .nil)) (.cons (.c (.str "others")) (.cons (.lst false (.cons (.c (.str "row")) .nil)) (.cons (.c (.str "put")) (.cons (.lst false (.cons (.c (.str "number")) (.cons (.c (.str "row")) .nil))) (.cons (.c (.str "not")) (.cons (.lst false (.cons (.c (.str "truth")) .nil)) .nil)))))))))))) (.cons (.asg (.idx (.v 7) (.c (.str "and"))) (.lst false (.cons (.c (.str "truth")) (.cons (.c (.str "truth")) .nil)))) (.cons (.asg (.idx (.v 7) (.c (.str "or"))) (.lst false (.cons (.c (.str "truth")) (.cons (.c (.str "truth")) .nil)))) (.cons (.asg (.v 8) (.get2 (.v 7) (.v 6) (.lst false (.cons (.c (.str "number")) (.cons (.c (.str "number")) .nil))))) (.cons (.ret (.tup (.cons (.c (.str "do")) (.cons (.v 6) (.cons (.blt .tup1 (.cons (.comp false (.v 9) (.seq (.v 8)) .nil (.call (x n_law_tree) (.cons (.v 0) (.cons (.v 9) (.cons (.v 2) (.cons (.v 3) (.cons (.bin .Sub (.v 4) (.c (.int 1))) .nil))))) .nil [])) .nil)) .nil))))) .nil))))))))⟩
def f_law_tree (x : Nat → Nat) : Fn := ⟨5, 15, false, (.cons (.ife (.or (.cons (.cmp .Lt (.v 4) (.c (.int 2))) (.cons (.cmp .Eq (.call (x n_law_pick) (.cons (.v 0) (.cons (.c (.int 5)) .nil)) .nil []) (.c (.int 0))) .nil))) (.cons (.ret (.call (x n_law_leaf) (.cons (.v 0) (.cons (.v 1) (.cons (.v 2) .nil))) .nil [])) .nil) .nil) (.cons (.ife (.cmp .Eq (.call (x n_law_pick) (.cons (.v 0) (.cons (.c (.int 25)) .nil)) .nil []) (.c (.int 0))) (.cons (.asg (.v 1) (.idx (.lst false (.cons (.c (.str "number")) (.cons (.c (.str "truth")) (.cons (.c (.str "row")) .nil)))) (.call (x n_law_pick) (.cons (.v 0) (.cons (.c (.int 3)) .nil)) .nil []))) .nil) .nil) (.cons (.asg (.v 5) (.call (x n_law_pick) (.cons (.v 0) (.cons (.c (.int 8)) .nil)) .nil [])) (.cons (.ife (.cmp .Eq (.v 5) (.c (.int 0))) (.cons (.asg (.v 7) (.comp false (.v 13) (.seq (.tup (.cons (.c (.str "truth")) (.cons (.v 1) (.cons (.v 1) .nil))))) .nil (.call (x n_law_tree) (.cons (.v 0) (.cons (.v 13) (.cons (.v 2) (.cons (.v 3) (.cons (.bin .Sub (.v 4) (.c (.int 1))) .nil))))) .nil []))) (.cons (.ret (.tup (.cons (.c (.str "if")) (.cons (.idx (.v 7) (.c (.int 0))) (.cons (.idx (.v 7) (.c (.int 1))) (.cons (.idx (.v 7) (.c (.int 2))) .nil)))))) .nil)) .nil) (.cons (.ife (.cmp .Eq (.v 5) (.c (.int 1))) (.cons (.asg (.v 8) (.idx (.lst false (.cons (.c (.str "number")) (.cons (.c (.str "row")) (.cons (.c (.str "truth")) .nil)))) (.call (x n_law_pick) (.cons (.v 0) (.cons (.c (.int 3)) .nil)) .nil []))) (.cons (.asg (.v 9) (.idx (.lst false (.cons (.c (.str "x")) (.cons (.c (.str "y")) (.cons (.c (.str "z")) .nil)))) (.call (x n_law_pick) (.cons (.v 0) (.cons (.c (.int 3)) .nil)) .nil []))) (.cons (.asg (.v 10) (.call (x n_law_tree) (.cons (.v 0) (.cons (.v 8) (.cons (.v 2) (.cons (.v 3) (.cons (.bin .Sub (.v 4) (.c (.int 1))) .nil))))) .nil [])) (.cons (.asg (.v 11) (.bin .Add (.comp false (.v 14) (.seq (.v 2)) (.cons (.cmp .NotEq (.idx (.v 14) (.c (.int 0))) (.v 9)) .nil) (.v 14)) (.lst false (.cons (.tup (.cons (.v 9) (.cons (.v 8) .nil))) .nil)))) (.cons (.ret (.tup (.cons (.c (.str "let")) (.cons (.v 9) (.cons (.v 10) (.cons (.call (x n_law_tree) (.cons (.v 0) (.cons (.v 1) (.cons (.v 11) (.cons (.v 3) (.cons (.bin .Sub (.v 4) (.c (.int 1))) .nil))))) .nil []) .nil)))))) .nil))))) .nil) (.cons (.asg (.v 6) (.comp false (.v 9) (.seq (.v 3)) (.cons (.cmp .Eq (.idx (.idx (.call (x n_law_signs) .nil .nil []) (.v 9)) (.c (.int 1))) (.v 1)) .nil) (.v 9))) (.cons (.ife (.and (.cons (.cmp .Lt (.v 5) (.c (.int 4))) (.cons (.cmp .NotEq (.v 6) (.lst false .nil)) .nil))) (.cons (.asg (.v 9) (.idx (.v 6) (.call (x n_law_pick) (.cons (.v 0) (.cons (.blt .len (.cons (.v 6) .nil)) .nil)) .nil []))) (.cons (.asg (.v 12) (.comp false (.v 13) (.seq (.idx (.idx (.call (x n_law_signs) .nil .nil []) (.v 9)) (.c (.int 0)))) .nil (.call (x n_law_tree) (.cons (.v 0) (.cons (.v 13) (.cons (.v 2) (.cons (.v 3) (.cons (.bin .Sub (.v 4) (.c (.int 1))) .nil))))) .nil []))) (.cons (.ret (.tup (.cons (.c (.str "call")) (.cons (.v 9) (.cons (.blt .tup1 (.cons (.v 12) .nil)) .nil))))) .nil))) .nil) (.cons (.ret (.call (x n_law_done_of) (.cons (.v 0) (.cons (.v 1) (.cons (.v 2) (.cons (.v 3) (.cons (.v 4) .nil))))) .nil [])) .nil))))))))⟩
def l0_law_program (x : Nat → Nat) : Ss := (.cons (.asg (.v 4) (.ite (.cmp .Gt (.call (x n_law_pick) (.cons (.v 0) (.cons (.c (.int 6)) .nil)) .nil []) (.c (.int 0))) (.slc (.c (.str "fghpt")) .no (.yes (.v 2))) (.c (.str "fghpt")))) (.cons (.asg (.tup (.cons (.v 7) (.cons (.v 8) .nil))) (.idx (.call (x n_law_signs) .nil .nil []) (.v 3))) (.cons (.asg (.v 5) (.lzip (.lst false (.cons (.c (.str "x")) (.cons (.c (.str "y")) .nil))) (.v 7))) (.cons (.asg (.v 6) (.call (x n_law_tree) (.cons (.v 0) (.cons (.v 8) (.cons (.v 5) (.cons (.v 4) (.cons (.bin .Add (.c (.int 2)) (.call (x n_law_pick) (.cons (.v 0) (.cons (.c (.int 3)) .nil)) .nil [])) .nil))))) .nil [])) (.cons (.app (.v 1) (.tup (.cons (.v 3) (.cons (.blt .tup1 (.cons (.slc (.lst false (.cons (.c (.str "x")) (.cons (.c (.str "y")) .nil))) .no (.yes (.blt .len (.cons (.v 7) .nil)))) .nil)) (.cons (.v 6) .nil))))) .nil)))))
def f_law_program (x : Nat → Nat) : Fn := ⟨1, 9, false, (.cons (.asg (.v 1) (.lst true .nil)) (.cons (.fr (.tup (.cons (.v 2) (.cons (.v 3) .nil))) (.enum (.c (.str "fghpt"))) (l0_law_program x)) (.cons (.ret (.blt .tup1 (.cons (.v 1) .nil))) .nil)))⟩
def f_law_from (x : Nat → Nat) : Fn := ⟨3, 3, false, (.cons (.ret (.and (.cons (.call (x n_law_whole) (.cons (.v 0) .nil) .nil []) (.cons (.chain .LtE .LtE (.v 1) (.v 0) (.v 2)) .nil)))) .nil)⟩
-- law_counts: empty dict
def f_law_spots (x : Nat → Nat) : Fn := ⟨3, 8, false, (.cons (.ife (.or (.cons (.cmp .Eq (.v 2) (.c (.int 0))) (.cons (.not (.isi (.v 0) "tuple")) (.cons (.cmp .Eq (.v 0) (.tup .nil)) (.cons (.not (.isi (.idx (.v 0) (.c (.int 0))) "str")) .nil))))) (.cons (.ret (.c (.int 100))) .nil) .nil) (.cons (.par 3 4 (.idx (.v 0) (.c (.int 0))) (.blt .len (.cons (.v 0) .nil))) (.cons (.ife (.cmp .In (.v 3) (.tup (.cons (.c (.str "number")) (.cons (.c (.str "truth")) (.cons (.c (.str "row")) (.cons (.c (.str "name")) .nil)))))) (.cons (.ife (.cmp .NotEq (.v 4) (.c (.int 2))) (.cons (.ret (.c (.int 100))) .nil) .nil) (.cons (.asg (.v 5) (.and (.cons (.isi (.idx (.v 0) (.c (.int 1))) "tuple") (.cons (.cmp .LtE (.blt .len (.cons (.idx (.v 0) (.c (.int 1))) .nil)) (.c (.int 6))) .nil)))) (.cons (.asg (.v 5) (.and (.cons (.v 5) (.cons (.cmp .Eq (.comp false (.v 7) (.seq (.idx (.v 0) (.c (.int 1)))) (.cons (.not (.call (x n_law_from) (.cons (.v 7) (.cons (.neg (.c (.int 1000))) (.cons (.c (.int 1000)) .nil))) .nil [])) .nil) (.v 7)) (.lst false .nil)) .nil)))) (.cons (.asg (.v 6) (.dct true (.cons (.c (.str "number")) (.cons (.call (x n_law_from) (.cons (.idx (.v 0) (.c (.int 1))) (.cons (.neg (.c (.int 1000))) (.cons (.c (.int 1000)) .nil))) .nil []) (.cons (.c (.str "truth")) (.cons (.isi (.idx (.v 0) (.c (.int 1))) "bool") (.cons (.c (.str "row")) (.cons (.v 5) .nil)))))))) (.cons (.asg (.idx (.v 6) (.c (.str "name"))) (.and (.cons (.isi (.idx (.v 0) (.c (.int 1))) "str") (.cons (.cmp .In (.idx (.v 0) (.c (.int 1))) (.v 1)) .nil)))) (.cons (.ret (.ite (.idx (.v 6) (.v 3)) (.c (.int 1)) (.c (.int 100)))) .nil)))))) .nil) (.cons (.ife (.cmp .Eq (.v 3) (.c (.str "if"))) (.cons (.ret (.ite (.cmp .Eq (.v 4) (.c (.int 4))) (.bin .Add (.c (.int 1)) (.blt .sum1 (.cons (.comp false (.v 7) (.seq (.slc (.v 0) (.yes (.c (.int 1))) .no)) .nil (.call (x n_law_spots) (.cons (.v 7) (.cons (.v 1) (.cons (.bin .Sub (.v 2) (.c (.int 1))) .nil))) .nil [])) .nil))) (.c (.int 100)))) .nil) .nil) (.cons (.ife (.cmp .Eq (.v 3) (.c (.str "let"))) (.cons (.ife (.or (.cons (.cmp .NotEq (.v 4) (.c (.int 4))) (.cons (.not (.call (x n_law_is_name) (.cons (.idx (.v 0) (.c (.int 1))) .nil) .nil [])) .nil))) (.cons (.ret (.c (.int 100))) .nil) .nil) (.cons (.ret (.bin .Add (.bin .Add (.c (.int 1)) (.call (x n_law_spots) (.cons (.idx (.v 0) (.c (.int 2))) (.cons (.v 1) (.cons (.bin .Sub (.v 2) (.c (.int 1))) .nil))) .nil [])) (.call (x n_law_spots) (.cons (.idx (.v 0) (.c (.int 3))) (.cons (.bin .Add (.v 1) (.lst false (.cons (.idx (.v 0) (.c (.int 1))) .nil))) (.cons (.bin .Sub (.v 2) (.c (.int 1))) .nil))) .nil []))) .nil)) .nil) (.cons (.ife (.or (.cons (.cmp .NotIn (.v 3) (.tup (.cons (.c (.str "call")) (.cons (.c (.str "do")) .nil)))) (.cons (.cmp .NotEq (.v 4) (.c (.int 3))) (.cons (.not (.isi (.idx (.v 0) (.c (.int 1))) "str")) (.cons (.not (.isi (.idx (.v 0) (.c (.int 2))) "tuple")) .nil))))) (.cons (.ret (.c (.int 100))) .nil) .nil) (.cons (.ife (.and (.cons (.cmp .Eq (.v 3) (.c (.str "do"))) (.cons (.cmp .NotEq (.get2 (.call (x n_law_counts) .nil .nil []) (.idx (.v 0) (.c (.int 1))) (.neg (.c (.int 1)))) (.blt .len (.cons (.idx (.v 0) (.c (.int 2))) .nil))) .nil))) (.cons (.ret (.c (.int 100))) .nil) .nil) (.cons (.ife (.and (.cons (.cmp .Eq (.v 3) (.c (.str "call"))) (.cons (.or (.cons (.not (.call (x n_law_is_name) (.cons (.idx (.v 0) (.c (.int 1))) .nil) .nil [])) (.cons (.cmp .Gt (.blt .len (.cons (.idx (.v 0) (.c (.int 2))) .nil)) (.c (.int 4))) .nil))) .nil))) (.cons (.ret (.c (.int 100))) .nil) .nil) (.cons (.ret (.bin .Add (.c (.int 1)) (.blt .sum1 (.cons (.comp false (.v 7) (.seq (.idx (.v 0) (.c (.int 2)))) .nil (.call (x n_law_spots) (.cons (.v 7) (.cons (.v 1) (.cons (.bin .Sub (.v 2) (.c (.int 1))) .nil))) .nil [])) .nil)))) .nil)))))))))⟩
-- law_is_function: expression set(thing[1])
def f_law_inner (x : Nat → Nat) : Fn := ⟨1, 1, false, (.cons (.ife (.cmp .Eq (.idx (.v 0) (.c (.int 0))) (.c (.str "if"))) (.cons (.ret (.blt .lst1 (.cons (.slc (.v 0) (.yes (.c (.int 1))) .no) .nil))) .nil) .nil) (.cons (.ife (.cmp .Eq (.idx (.v 0) (.c (.int 0))) (.c (.str "let"))) (.cons (.ret (.blt .lst1 (.cons (.slc (.v 0) (.yes (.c (.int 2))) .no) .nil))) .nil) .nil) (.cons (.ret (.ite (.cmp .In (.idx (.v 0) (.c (.int 0))) (.tup (.cons (.c (.str "call")) (.cons (.c (.str "do")) .nil)))) (.blt .lst1 (.cons (.idx (.v 0) (.c (.int 2))) .nil)) (.lst false .nil))) .nil)))⟩
def l0_law_calls (x : Nat → Nat) : Ss := (.cons (.asg (.v 1) (.bin .Add (.v 1) (.call (x n_law_calls) (.cons (.v 2) .nil) .nil []))) .nil)
def f_law_calls (x : Nat → Nat) : Fn := ⟨1, 3, false, (.cons (.asg (.v 1) (.ite (.cmp .Eq (.idx (.v 0) (.c (.int 0))) (.c (.str "call"))) (.lst false (.cons (.tup (.cons (.idx (.v 0) (.c (.int 1))) (.cons (.blt .len (.cons (.idx (.v 0) (.c (.int 2))) .nil)) .nil))) .nil)) (.lst false .nil))) (.cons (.fr (.v 2) (.seq (.call (x n_law_inner) (.cons (.v 0) .nil) .nil [])) (l0_law_calls x)) (.cons (.ret (.v 1)) .nil)))⟩
-- law_is_program: expression sorted(set(names))
def l0_law_far (x : Nat → Nat) : Ss := (.cons (.asg (.v 1) (.tup (.cons (.c (.str "do")) (.cons (.c (.str "long")) (.cons (.tup (.cons (.v 1) .nil)) .nil))))) .nil)
def l1_law_far (x : Nat → Nat) : Ss := (.cons (.asg (.v 3) (.tup (.cons (.c (.str "if")) (.cons (.v 3) (.cons (.v 3) (.cons (.v 3) .nil)))))) .nil)
def l2_law_far (x : Nat → Nat) : Ss := (.cons (.asg (.v 3) (.tup (.cons (.c (.str "if")) (.cons (.v 3) (.cons (.tup (.cons (.c (.str "number")) (.cons (.c (.int 0)) .nil))) (.cons (.tup (.cons (.c (.str "number")) (.cons (.c (.int 0)) .nil))) .nil)))))) .nil)
def f_law_far (x : Nat → Nat) : Fn := ⟨1, 8, false, (.cons (.asg (.v 1) (.tup (.cons (.c (.str "number")) (.cons (.c (.int 1)) .nil)))) (.cons (.fr (.v 2) (.rng1 (.bin .Add (.c (.int 6)) (.call (x n_law_pick) (.cons (.v 0) (.cons (.c (.int 3)) .nil)) .nil []))) (l0_law_far x)) (.cons (.asg (.v 3) (.tup (.cons (.c (.str "number")) (.cons (.c (.int 1)) .nil)))) (.cons (.fr (.v 2) (.rng1 (.c (.int 2))) (l1_law_far x)) (.cons (.asg (.v 3) (.tup (.cons (.c (.str "do")) (.cons (.c (.str "plus")) (.cons (.tup (.cons (.tup (.cons (.c (.str "if")) (.cons (.v 3) (.cons (.v 3) (.cons (.v 3) .nil))))) (.cons (.v 3) .nil))) .nil))))) (.cons (.fr (.v 2) (.rng1 (.call (x n_law_pick) (.cons (.v 0) (.cons (.c (.int 4)) .nil)) .nil [])) (l2_law_far x)) (.cons (.asg (.v 4) (.tup (.cons (.c (.str "row")) (.cons (.bin .Mult (.tup (.cons (.c (.int 1)) .nil)) (.bin .Add (.c (.int 6)) (.call (x n_law_pick) (.cons (.v 0) (.cons (.c (.int 2)) .nil)) .nil []))) .nil)))) (.cons (.asg (.v 5) (.tup (.cons (.c (.str "let")) (.cons (.c (.str "x")) (.cons (.tup (.cons (.c (.str "name")) (.cons (.c (.str "x")) .nil))) (.cons (.tup (.cons (.c (.str "name")) (.cons (.c (.str "y")) .nil))) .nil)))))) (.cons (.asg (.v 6) (.idx (.lst false (.cons (.v 1) (.cons (.v 3) (.cons (.v 4) (.cons (.v 5) (.cons (.tup (.cons (.c (.str "call")) (.cons (.c (.str "f")) (.cons (.bin .Mult (.tup (.cons (.tup (.cons (.c (.str "number")) (.cons (.c (.int 1)) .nil))) .nil)) (.bin .Add (.c (.int 4)) (.call (x n_law_pick) (.cons (.v 0) (.cons (.c (.int 2)) .nil)) .nil []))) .nil)))) .nil)))))) (.call (x n_law_pick) (.cons (.v 0) (.cons (.c (.int 5)) .nil)) .nil []))) (.cons (.asg (.v 7) (.idx (.lst false (.cons (.tup .nil) (.cons (.tup (.cons (.c (.str "x")) .nil)) (.cons (.tup (.cons (.c (.str "x")) (.cons (.c (.str "x")) .nil))) (.cons (.tup (.cons (.c (.str "x")) (.cons (.c (.str "y")) (.cons (.c (.str "z")) (.cons (.c (.str "a")) .nil))))) (.cons (.tup (.cons (.c (.str "x")) (.cons (.c (.str "y")) (.cons (.c (.str "z")) (.cons (.c (.str "a")) (.cons (.c (.str "b")) .nil)))))) (.cons (.tup (.cons (.c (.str "y")) .nil)) .nil))))))) (.call (x n_law_pick) (.cons (.v 0) (.cons (.c (.int 6)) .nil)) .nil []))) (.cons (.ret (.tup (.cons (.c (.str "f")) (.cons (.v 7) (.cons (.v 6) .nil))))) .nil)))))))))))⟩
def l0_spots_from_K (x : Nat → Nat) : Ss := (.cons (.ext (.v 1) (.call (x n_spots_from) (.cons (.v 2) .nil) .nil [])) .nil)
def f_spots_from_K (x : Nat → Nat) : Fn := ⟨1, 3, true, (.cons (.asg (.v 1) (.lst true (.cons (.v 0) .nil))) (.cons (.fr (.v 2) (.seq (.call (x n_straight) (.cons (.v 0) .nil) .nil [])) (l0_spots_from_K x)) (.cons (.ret (.v 1)) .nil)))⟩
def f_spots_K (x : Nat → Nat) : Fn := ⟨1, 1, true, (.cons (.ret (.call (x n_spots_from_K) (.cons (.idx (.v 0) (.c (.int 2))) .nil) .nil [])) .nil)⟩
def f_all_spots (x : Nat → Nat) : Fn := ⟨1, 3, false, (.cons (.ret (.comp2 false (.v 1) (.seq (.v 0)) .nil (.v 2) (.rng1 (.blt .len (.cons (.call (x n_spots) (.cons (.v 1) .nil) .nil []) .nil))) .nil (.tup (.cons (.idx (.v 1) (.c (.int 0))) (.cons (.v 2) .nil))))) .nil)⟩
def f_all_spots_K (x : Nat → Nat) : Fn := ⟨1, 3, true, (.cons (.ret (.comp2 true (.v 1) (.seq (.v 0)) .nil (.v 2) (.rng1 (.blt .len (.cons (.call (x n_spots) (.cons (.v 1) .nil) .nil []) .nil))) .nil (.tup (.cons (.idx (.v 1) (.c (.int 0))) (.cons (.v 2) .nil))))) .nil)⟩
def l0_law_walked (x : Nat → Nat) : Ss := (.cons (.asg (.v 1) (.bin .Add (.v 1) (.call (x n_law_walked) (.cons (.v 3) .nil) .nil []))) .nil)
def f_law_walked (x : Nat → Nat) : Fn := ⟨1, 4, false, (.cons (.asg (.v 1) (.lst false (.cons (.v 0) .nil))) (.cons (.asg (.v 2) (.ite (.cmp .Eq (.idx (.v 0) (.c (.int 0))) (.c (.str "if"))) (.slc (.v 0) (.yes (.c (.int 1))) .no) (.slc (.v 0) (.yes (.c (.int 2))) .no))) (.cons (.ife (.cmp .In (.idx (.v 0) (.c (.int 0))) (.tup (.cons (.c (.str "call")) (.cons (.c (.str "do")) .nil)))) (.cons (.asg (.v 2) (.idx (.v 0) (.c (.int 2)))) .nil) .nil) (.cons (.fr (.v 3) (.seq (.ite (.cmp .In (.idx (.v 0) (.c (.int 0))) (.tup (.cons (.c (.str "if")) (.cons (.c (.str "let")) (.cons (.c (.str "call")) (.cons (.c (.str "do")) .nil)))))) (.v 2) (.tup .nil))) (l0_law_walked x)) (.cons (.ret (.v 1)) .nil)))))⟩
def f_kind_of (x : Nat → Nat) : Fn := ⟨1, 1, false, (.cons (.ife (.isi (.v 0) "bool") (.cons (.ret (.c (.str "truth"))) .nil) .nil) (.cons (.ret (.ite (.isi (.v 0) "tuple") (.c (.str "row")) (.c (.str "number")))) .nil))⟩
def f_is_world (x : Nat → Nat) : Fn := ⟨1, 2, false, (.cons (.ife (.or (.cons (.not (.isi (.v 0) "tuple")) (.cons (.cmp .Gt (.blt .len (.cons (.v 0) .nil)) (.g (x n_MOST_WORLD))) .nil))) (.cons (.ret (.c (.bool false))) .nil) .nil) (.cons (.ret (.blt .all1 (.cons (.comp false (.v 1) (.seq (.v 0)) .nil (.call (x n_is_from) (.cons (.v 1) (.cons (.neg (.g (x n_SMALL))) (.cons (.g (x n_SMALL)) .nil))) .nil [])) .nil))) .nil))⟩
def f_sizes_of (x : Nat → Nat) : Fn := ⟨1, 2, false, (.cons (.asg (.v 1) (.lst false .nil)) (.cons (.expr (.call (x n_measured) (.cons (.idx (.v 0) (.c (.int 2))) (.cons (.v 1) .nil)) .nil [])) (.cons (.ret (.v 1)) .nil)))⟩
-- measured: aug found[at] += measured(part, found)
-- run: arguments of run
def l0_law_args (x : Nat → Nat) : Ss := (.cons (.ife (.cmp .Eq (.call (x n_law_pick) (.cons (.v 0) (.cons (.c (.int 20)) .nil)) .nil []) (.c (.int 0))) (.cons (.asg (.v 3) (.idx (.lst false (.cons (.c (.str "number")) (.cons (.c (.str "truth")) (.cons (.c (.str "row")) .nil)))) (.call (x n_law_pick) (.cons (.v 0) (.cons (.c (.int 3)) .nil)) .nil []))) .nil) .nil) (.cons (.asg (.v 4) (.idx (.lst false (.cons (.bin .Sub (.call (x n_law_pick) (.cons (.v 0) (.cons (.c (.int 9)) .nil)) .nil []) (.c (.int 4))) (.cons (.bin .Sub (.bin .Pow (.c (.int 10)) (.c (.int 12))) (.call (x n_law_pick) (.cons (.v 0) (.cons (.c (.int 3)) .nil)) .nil [])) .nil))) (.blt .int1 (.cons (.cmp .Eq (.call (x n_law_pick) (.cons (.v 0) (.cons (.c (.int 9)) .nil)) .nil []) (.c (.int 0))) .nil)))) (.cons (.asg (.v 5) (.blt .tup1 (.cons (.comp false (.v 6) (.rng1 (.idx (.lst false (.cons (.call (x n_law_pick) (.cons (.v 0) (.cons (.c (.int 4)) .nil)) .nil []) (.cons (.c (.int 30)) .nil))) (.blt .int1 (.cons (.cmp .Eq (.call (x n_law_pick) (.cons (.v 0) (.cons (.c (.int 9)) .nil)) .nil []) (.c (.int 0))) .nil)))) .nil (.bin .Sub (.call (x n_law_pick) (.cons (.v 0) (.cons (.c (.int 9)) .nil)) .nil []) (.c (.int 4)))) .nil))) (.cons (.app (.v 2) (.idx (.dct false (.cons (.c (.str "number")) (.cons (.v 4) (.cons (.c (.str "truth")) (.cons (.cmp .Eq (.call (x n_law_pick) (.cons (.v 0) (.cons (.c (.int 2)) .nil)) .nil []) (.c (.int 0))) (.cons (.c (.str "row")) (.cons (.v 5) .nil))))))) (.v 3))) .nil))))
def f_law_args (x : Nat → Nat) : Fn := ⟨2, 7, false, (.cons (.asg (.v 2) (.lst true .nil)) (.cons (.fr (.v 3) (.seq (.v 1)) (l0_law_args x)) (.cons (.ret (.blt .tup1 (.cons (.v 2) .nil))) .nil)))⟩
def f_law_world (x : Nat → Nat) : Fn := ⟨1, 2, false, (.cons (.ret (.blt .tup1 (.cons (.comp false (.v 1) (.rng1 (.call (x n_law_pick) (.cons (.v 0) (.cons (.c (.int 4)) .nil)) .nil [])) .nil (.bin .Sub (.call (x n_law_pick) (.cons (.v 0) (.cons (.c (.int 7)) .nil)) .nil []) (.c (.int 3)))) .nil))) .nil)⟩
def f_law_size (x : Nat → Nat) : Fn := ⟨1, 2, false, (.cons (.ret (.bin .Add (.c (.int 1)) (.blt .sum1 (.cons (.comp false (.v 1) (.seq (.call (x n_law_inner) (.cons (.v 0) .nil) .nil [])) .nil (.call (x n_law_size) (.cons (.v 1) .nil) .nil [])) .nil)))) .nil)⟩
-- law_machine: empty dict
def l0_law_value (x : Nat → Nat) : Ss := (.cons (.asg (.v 8) (.call (x n_law_value) (.cons (.v 0) (.cons (.v 7) (.cons (.tup (.cons (.idx (.v 2) (.c (.int 0))) (.cons (.v 6) .nil))) (.cons (.v 3) (.cons (.v 4) .nil))))) .nil [])) (.cons (.ife (.cmp .Eq (.idx (.v 8) (.c (.int 0))) (.c (.str "fault"))) (.cons (.ret (.v 8)) .nil) .nil) (.cons (.app (.v 5) (.idx (.v 8) (.c (.int 1)))) (.cons (.asg (.v 6) (.bin .Add (.v 6) (.call (x n_law_size) (.cons (.v 7) .nil) .nil []))) .nil))))
def f_law_value (x : Nat → Nat) : Fn := ⟨5, 9, false, (.cons (.ife (.cmp .Eq (.idx (.v 0) (.c (.str "steps"))) (.c (.int 2000))) (.cons (.ret (.bin .Add (.tup (.cons (.c (.str "fault")) (.cons (.c (.str "steps")) .nil))) (.v 2))) .nil) .nil) (.cons (.asg (.idx (.v 0) (.c (.str "steps"))) (.bin .Add (.idx (.v 0) (.c (.str "steps"))) (.c (.int 1)))) (.cons (.asg (.idx (.idx (.v 0) (.c (.str "spots"))) (.v 2)) (.c (.bool true))) (.cons (.ife (.cmp .In (.idx (.v 1) (.c (.int 0))) (.tup (.cons (.c (.str "number")) (.cons (.c (.str "truth")) (.cons (.c (.str "row")) .nil))))) (.cons (.ret (.tup (.cons (.c (.str "told")) (.cons (.idx (.v 1) (.c (.int 1))) .nil)))) .nil) .nil) (.cons (.ife (.cmp .Eq (.idx (.v 1) (.c (.int 0))) (.c (.str "name"))) (.cons (.ret (.tup (.cons (.c (.str "told")) (.cons (.idx (.v 3) (.idx (.v 1) (.c (.int 1)))) .nil)))) .nil) .nil) (.cons (.ife (.cmp .In (.idx (.v 1) (.c (.int 0))) (.tup (.cons (.c (.str "if")) (.cons (.c (.str "let")) .nil)))) (.cons (.ret (.call (x n_law_chosen) (.cons (.v 0) (.cons (.v 1) (.cons (.v 2) (.cons (.v 3) (.cons (.v 4) .nil))))) .nil [])) .nil) .nil) (.cons (.asg (.v 5) (.lst true .nil)) (.cons (.asg (.v 6) (.bin .Add (.idx (.v 2) (.c (.int 1))) (.c (.int 1)))) (.cons (.fr (.v 7) (.seq (.idx (.v 1) (.c (.int 2)))) (l0_law_value x)) (.cons (.ife (.cmp .Eq (.idx (.v 1) (.c (.int 0))) (.c (.str "do"))) (.cons (.ret (.call (x n_law_do) (.cons (.v 0) (.cons (.idx (.v 1) (.c (.int 1))) (.cons (.v 5) (.cons (.v 2) .nil)))) .nil [])) .nil) .nil) (.cons (.ret (.ite (.cmp .Lt (.v 4) (.c (.int 20))) (.call (x n_law_body) (.cons (.v 0) (.cons (.idx (.v 1) (.c (.int 1))) (.cons (.v 5) (.cons (.bin .Add (.v 4) (.c (.int 1))) .nil)))) .nil []) (.bin .Add (.tup (.cons (.c (.str "fault")) (.cons (.c (.str "deep")) .nil))) (.v 2)))) .nil)))))))))))⟩
-- law_chosen: expression dict(scope)
-- law_body: expression dict(zip(names, args))
def f_law_kind (x : Nat → Nat) : Fn := ⟨1, 1, false, (.cons (.ife (.isi (.v 0) "bool") (.cons (.ret (.c (.str "b"))) .nil) .nil) (.cons (.ret (.ite (.isi (.v 0) "tuple") (.c (.str "r")) (.c (.str "n")))) .nil))⟩
def f_law_do (x : Nat → Nat) : Fn := ⟨4, 12, false, (.cons (.asg (.v 4) (.mth .join (.c (.str "")) (.cons (.comp false (.v 11) (.seq (.v 2)) .nil (.call (x n_law_kind) (.cons (.v 11) .nil) .nil [])) .nil))) (.cons (.ife (.cmp .Eq (.v 1) (.c (.str "same"))) (.cons (.ret (.tup (.cons (.c (.str "told")) (.cons (.and (.cons (.cmp .Eq (.idx (.v 4) (.c (.int 0))) (.idx (.v 4) (.c (.int 1)))) (.cons (.cmp .Eq (.idx (.v 2) (.c (.int 0))) (.idx (.v 2) (.c (.int 1)))) .nil))) .nil)))) .nil) .nil) (.cons (.asg (.v 5) (.dct false (.cons (.c (.str "and")) (.cons (.c (.str "bb")) (.cons (.c (.str "or")) (.cons (.c (.str "bb")) (.cons (.c (.str "not")) (.cons (.c (.str "b")) (.cons (.c (.str "put")) (.cons (.c (.str "nr")) (.cons (.c (.str "first")) (.cons (.c (.str "r")) (.cons (.c (.str "others")) (.cons (.c (.str "r")) (.cons (.c (.str "long")) (.cons (.c (.str "r")) (.cons (.c (.str "world")) (.cons (.c (.str "")) .nil)))))))))))))))))) (.cons (.ife (.cmp .NotEq (.v 4) (.get2 (.v 5) (.v 1) (.c (.str "nn")))) (.cons (.ret (.bin .Add (.tup (.cons (.c (.str "fault")) (.cons (.c (.str "kind")) .nil))) (.v 3))) .nil) .nil) (.cons (.ife (.cmp .Eq (.v 1) (.c (.str "world"))) (.cons (.asg (.idx (.v 0) (.c (.str "read"))) (.bin .Add (.idx (.v 0) (.c (.str "read"))) (.c (.int 1)))) (.cons (.ret (.tup (.cons (.c (.str "told")) (.cons (.idx (.bin .Add (.idx (.v 0) (.c (.str "world"))) (.bin .Mult (.tup (.cons (.c (.int 0)) .nil)) (.idx (.v 0) (.c (.str "read"))))) (.bin .Sub (.idx (.v 0) (.c (.str "read"))) (.c (.int 1)))) .nil)))) .nil)) .nil) (.cons (.ife (.cmp .In (.v 1) (.tup (.cons (.c (.str "and")) (.cons (.c (.str "or")) (.cons (.c (.str "not")) .nil))))) (.cons (.asg (.v 8) (.blt .len (.cons (.comp false (.v 11) (.seq (.v 2)) (.cons (.v 11) .nil) (.v 11)) .nil))) (.cons (.ret (.tup (.cons (.c (.str "told")) (.cons (.idx (.dct false (.cons (.c (.str "and")) (.cons (.cmp .Eq (.v 8) (.c (.int 2))) (.cons (.c (.str "or")) (.cons (.cmp .Gt (.v 8) (.c (.int 0))) (.cons (.c (.str "not")) (.cons (.cmp .Eq (.v 8) (.c (.int 0))) .nil))))))) (.v 1)) .nil)))) .nil)) .nil) (.cons (.ife (.cmp .Eq (.idx (.v 4) (.neg (.c (.int 1)))) (.c (.str "r"))) (.cons (.ret (.call (x n_law_of_row) (.cons (.v 1) (.cons (.v 2) (.cons (.v 3) .nil))) .nil [])) .nil) .nil) (.cons (.asg (.tup (.cons (.v 9) (.cons (.v 10) .nil))) (.v 2)) (.cons (.ife (.and (.cons (.cmp .In (.v 1) (.tup (.cons (.c (.str "over")) (.cons (.c (.str "rest")) .nil)))) (.cons (.cmp .Eq (.v 10) (.c (.int 0))) .nil))) (.cons (.ret (.bin .Add (.tup (.cons (.c (.str "fault")) (.cons (.c (.str "share")) .nil))) (.v 3))) .nil) .nil) (.cons (.ife (.cmp .Eq (.v 1) (.c (.str "below"))) (.cons (.ret (.tup (.cons (.c (.str "told")) (.cons (.cmp .Lt (.v 9) (.v 10)) .nil)))) .nil) .nil) (.cons (.asg (.v 6) (.ite (.cmp .NotEq (.v 10) (.c (.int 0))) (.v 10) (.c (.int 1)))) (.cons (.asg (.v 7) (.get2 (.dct false (.cons (.c (.str "plus")) (.cons (.bin .Add (.v 9) (.v 10)) (.cons (.c (.str "minus")) (.cons (.bin .Sub (.v 9) (.v 10)) (.cons (.c (.str "times")) (.cons (.bin .Mult (.v 9) (.v 10)) (.cons (.c (.str "over")) (.cons (.bin .FloorDiv (.v 9) (.v 6)) .nil))))))))) (.v 1) (.bin .Mod (.v 9) (.v 6)))) (.cons (.ret (.ite (.cmp .LtE (.blt .abs (.cons (.v 7) .nil)) (.bin .Pow (.c (.int 10)) (.c (.int 12)))) (.tup (.cons (.c (.str "told")) (.cons (.v 7) .nil))) (.bin .Add (.tup (.cons (.c (.str "fault")) (.cons (.c (.str "great")) .nil))) (.v 3)))) .nil)))))))))))))⟩
def f_law_of_row (x : Nat → Nat) : Fn := ⟨3, 4, false, (.cons (.asg (.v 3) (.idx (.v 1) (.neg (.c (.int 1))))) (.cons (.ife (.cmp .Eq (.v 0) (.c (.str "long"))) (.cons (.ret (.tup (.cons (.c (.str "told")) (.cons (.blt .len (.cons (.v 3) .nil)) .nil)))) .nil) .nil) (.cons (.ife (.cmp .Eq (.v 0) (.c (.str "put"))) (.cons (.ret (.ite (.cmp .Lt (.blt .len (.cons (.v 3) .nil)) (.c (.int 30))) (.tup (.cons (.c (.str "told")) (.cons (.bin .Add (.tup (.cons (.idx (.v 1) (.c (.int 0))) .nil)) (.v 3)) .nil))) (.bin .Add (.tup (.cons (.c (.str "fault")) (.cons (.c (.str "long")) .nil))) (.v 2)))) .nil) .nil) (.cons (.ife (.cmp .Eq (.v 3) (.tup .nil)) (.cons (.ret (.bin .Add (.tup (.cons (.c (.str "fault")) (.cons (.c (.str "none")) .nil))) (.v 2))) .nil) .nil) (.cons (.ret (.tup (.cons (.c (.str "told")) (.cons (.ite (.cmp .Eq (.v 0) (.c (.str "first"))) (.idx (.v 3) (.c (.int 0))) (.slc (.v 3) (.yes (.c (.int 1))) .no)) .nil)))) .nil)))))⟩
def f_law_run (x : Nat → Nat) : Fn := ⟨4, 6, false, (.cons (.asg (.v 4) (.call (x n_law_machine) (.cons (.v 0) (.cons (.v 3) .nil)) .nil [])) (.cons (.asg (.v 5) (.call (x n_law_body) (.cons (.v 4) (.cons (.v 1) (.cons (.v 2) (.cons (.c (.int 1)) .nil)))) .nil [])) (.cons (.ret (.tup (.cons (.v 5) (.cons (.blt .tup1 (.cons (.srt (.idx (.v 4) (.c (.str "spots")))) .nil)) (.cons (.idx (.v 4) (.c (.str "steps"))) (.cons (.idx (.v 4) (.c (.str "read"))) .nil)))))) .nil)))⟩
-- law_same: expression isinstance(told, (tuple, list))
def f_law_faulty (x : Nat → Nat) : Fn := ⟨0, 5, false, (.cons (.asg (.v 0) (.tup (.cons (.c (.str "number")) (.cons (.c (.int 1)) .nil)))) (.cons (.asg (.v 1) (.tup (.cons (.c (.str "row")) (.cons (.tup .nil) .nil)))) (.cons (.asg (.v 2) (.tup (.cons (.c (.str "truth")) (.cons (.c (.bool true)) .nil)))) (.cons (.asg (.v 3) (.tup (.cons (.c (.str "call")) (.cons (.c (.str "f")) (.cons (.tup (.cons (.tup (.cons (.c (.str "name")) (.cons (.c (.str "x")) .nil))) .nil)) .nil))))) (.cons (.asg (.v 4) (.lst true (.cons (.tup (.cons (.tup (.cons (.c (.str "do")) (.cons (.c (.str "plus")) (.cons (.tup (.cons (.v 0) (.cons (.v 1) .nil))) .nil)))) (.cons (.c (.str "kind")) (.cons (.c (.int 0)) .nil)))) (.cons (.tup (.cons (.tup (.cons (.c (.str "if")) (.cons (.v 0) (.cons (.v 0) (.cons (.v 0) .nil))))) (.cons (.c (.str "kind")) (.cons (.c (.int 0)) .nil)))) .nil)))) (.cons (.app (.v 4) (.tup (.cons (.tup (.cons (.c (.str "do")) (.cons (.c (.str "not")) (.cons (.tup (.cons (.v 0) .nil)) .nil)))) (.cons (.c (.str "kind")) (.cons (.c (.int 0)) .nil))))) (.cons (.asg (.v 4) (.bin .Add (.v 4) (.lst false (.cons (.tup (.cons (.tup (.cons (.c (.str "do")) (.cons (.c (.str "over")) (.cons (.tup (.cons (.v 0) (.cons (.tup (.cons (.c (.str "number")) (.cons (.c (.int 0)) .nil))) .nil))) .nil)))) (.cons (.c (.str "share")) (.cons (.c (.int 0)) .nil)))) (.cons (.tup (.cons (.tup (.cons (.c (.str "do")) (.cons (.c (.str "first")) (.cons (.tup (.cons (.v 1) .nil)) .nil)))) (.cons (.c (.str "none")) (.cons (.c (.int 0)) .nil)))) .nil))))) (.cons (.asg (.v 4) (.bin .Add (.v 4) (.lst false (.cons (.tup (.cons (.tup (.cons (.c (.str "do")) (.cons (.c (.str "rest")) (.cons (.tup (.cons (.v 0) (.cons (.tup (.cons (.c (.str "number")) (.cons (.c (.int 0)) .nil))) .nil))) .nil)))) (.cons (.c (.str "share")) (.cons (.c (.int 0)) .nil)))) (.cons (.tup (.cons (.tup (.cons (.c (.str "do")) (.cons (.c (.str "others")) (.cons (.tup (.cons (.v 1) .nil)) .nil)))) (.cons (.c (.str "none")) (.cons (.c (.int 0)) .nil)))) .nil))))) (.cons (.asg (.v 4) (.bin .Add (.v 4) (.lst false (.cons (.tup (.cons (.tup (.cons (.c (.str "do")) (.cons (.c (.str "and")) (.cons (.tup (.cons (.v 2) (.cons (.v 0) .nil))) .nil)))) (.cons (.c (.str "kind")) (.cons (.c (.int 0)) .nil)))) (.cons (.tup (.cons (.tup (.cons (.c (.str "do")) (.cons (.c (.str "put")) (.cons (.tup (.cons (.v 2) (.cons (.v 1) .nil))) .nil)))) (.cons (.c (.str "kind")) (.cons (.c (.int 0)) .nil)))) .nil))))) (.cons (.ret (.bin .Add (.v 4) (.lst false (.cons (.tup (.cons (.v 3) (.cons (.c (.str "deep")) (.cons (.c (.int 0)) .nil)))) (.cons (.tup (.cons (.tup (.cons (.c (.str "do")) (.cons (.c (.str "below")) (.cons (.tup (.cons (.v 0) (.cons (.v 2) .nil))) .nil)))) (.cons (.c (.str "kind")) (.cons (.c (.int 0)) .nil)))) (.cons (.tup (.cons (.tup (.cons (.c (.str "do")) (.cons (.c (.str "long")) (.cons (.tup (.cons (.v 0) .nil)) .nil)))) (.cons (.c (.str "kind")) (.cons (.c (.int 0)) .nil)))) .nil)))))) .nil))))))))))⟩
def l0_law_within (x : Nat → Nat) : Ss := (.cons (.asg (.v 4) (.call (x n_law_pick) (.cons (.v 0) (.cons (.c (.int 5)) .nil)) .nil [])) (.cons (.ife (.cmp .Eq (.v 4) (.c (.int 0))) (.cons (.par 1 2 (.tup (.cons (.c (.str "let")) (.cons (.c (.str "y")) (.cons (.v 1) (.cons (.tup (.cons (.c (.str "name")) (.cons (.c (.str "y")) .nil))) .nil))))) (.bin .Add (.v 2) (.c (.int 1)))) .nil) (.cons (.ife (.cmp .Eq (.v 4) (.c (.int 1))) (.cons (.par 1 2 (.tup (.cons (.c (.str "if")) (.cons (.tup (.cons (.c (.str "truth")) (.cons (.c (.bool false)) .nil))) (.cons (.tup (.cons (.c (.str "number")) (.cons (.c (.int 5)) .nil))) (.cons (.v 1) .nil))))) (.bin .Add (.v 2) (.c (.int 3)))) .nil) (.cons (.ife (.cmp .Eq (.v 4) (.c (.int 2))) (.cons (.par 1 2 (.tup (.cons (.c (.str "if")) (.cons (.tup (.cons (.c (.str "truth")) (.cons (.c (.bool true)) .nil))) (.cons (.v 1) (.cons (.tup (.cons (.c (.str "number")) (.cons (.c (.int 5)) .nil))) .nil))))) (.bin .Add (.v 2) (.c (.int 2)))) .nil) (.cons (.ife (.cmp .Eq (.v 4) (.c (.int 3))) (.cons (.par 1 2 (.tup (.cons (.c (.str "do")) (.cons (.c (.str "same")) (.cons (.tup (.cons (.tup (.cons (.c (.str "row")) (.cons (.tup (.cons (.c (.int 1)) .nil)) .nil))) (.cons (.v 1) .nil))) .nil)))) (.bin .Add (.v 2) (.c (.int 2)))) .nil) (.cons (.par 1 2 (.tup (.cons (.c (.str "do")) (.cons (.c (.str "same")) (.cons (.tup (.cons (.v 1) (.cons (.tup (.cons (.c (.str "do")) (.cons (.c (.str "world")) (.cons (.tup .nil) .nil)))) .nil))) .nil)))) (.bin .Add (.v 2) (.c (.int 1)))) .nil)) .nil)) .nil)) .nil)) .nil))
def f_law_within (x : Nat → Nat) : Fn := ⟨3, 5, false, (.cons (.fr (.v 3) (.rng1 (.call (x n_law_pick) (.cons (.v 0) (.cons (.c (.int 4)) .nil)) .nil [])) (l0_law_within x)) (.cons (.ret (.tup (.cons (.v 1) (.cons (.v 2) .nil)))) .nil))⟩
def f_law_at_bounds (x : Nat → Nat) : Fn := ⟨0, 8, false, (.cons (.asg (.v 0) (.tup (.cons (.c (.str "do")) (.cons (.c (.str "plus")) (.cons (.tup (.cons (.tup (.cons (.c (.str "name")) (.cons (.c (.str "x")) .nil))) (.cons (.tup (.cons (.c (.str "name")) (.cons (.c (.str "y")) .nil))) .nil))) .nil))))) (.cons (.asg (.v 1) (.tup (.cons (.c (.str "do")) (.cons (.c (.str "minus")) (.cons (.tup (.cons (.tup (.cons (.c (.str "name")) (.cons (.c (.str "x")) .nil))) (.cons (.tup (.cons (.c (.str "name")) (.cons (.c (.str "y")) .nil))) .nil))) .nil))))) (.cons (.asg (.v 2) (.tup (.cons (.c (.str "do")) (.cons (.c (.str "put")) (.cons (.tup (.cons (.tup (.cons (.c (.str "number")) (.cons (.c (.int 1)) .nil))) (.cons (.tup (.cons (.c (.str "name")) (.cons (.c (.str "x")) .nil))) .nil))) .nil))))) (.cons (.asg (.v 3) (.tup (.cons (.c (.str "if")) (.cons (.tup (.cons (.c (.str "do")) (.cons (.c (.str "below")) (.cons (.tup (.cons (.tup (.cons (.c (.str "name")) (.cons (.c (.str "x")) .nil))) (.cons (.tup (.cons (.c (.str "number")) (.cons (.c (.int 2)) .nil))) .nil))) .nil)))) (.cons (.tup (.cons (.c (.str "number")) (.cons (.c (.int 0)) .nil))) (.cons (.tup (.cons (.c (.str "call")) (.cons (.c (.str "d")) (.cons (.tup (.cons (.tup (.cons (.c (.str "do")) (.cons (.c (.str "minus")) (.cons (.tup (.cons (.tup (.cons (.c (.str "name")) (.cons (.c (.str "x")) .nil))) (.cons (.tup (.cons (.c (.str "number")) (.cons (.c (.int 1)) .nil))) .nil))) .nil)))) .nil)) .nil)))) .nil)))))) (.cons (.asg (.v 4) (.tup (.cons (.tup (.cons (.c (.str "d")) (.cons (.tup (.cons (.c (.str "x")) .nil)) (.cons (.v 3) .nil)))) (.cons (.tup (.cons (.c (.str "g")) (.cons (.tup (.cons (.c (.str "x")) (.cons (.c (.str "y")) .nil))) (.cons (.v 0) .nil)))) (.cons (.tup (.cons (.c (.str "l")) (.cons (.tup (.cons (.c (.str "x")) (.cons (.c (.str "y")) .nil))) (.cons (.v 1) .nil)))) (.cons (.tup (.cons (.c (.str "p")) (.cons (.tup (.cons (.c (.str "x")) .nil)) (.cons (.v 2) .nil)))) .nil)))))) (.cons (.asg (.v 5) (.bin .Pow (.c (.int 10)) (.c (.int 12)))) (.cons (.asg (.v 6) (.lst false (.cons (.tup (.cons (.c (.str "g")) (.cons (.tup (.cons (.bin .Sub (.v 5) (.c (.int 1))) (.cons (.c (.int 1)) .nil))) (.cons (.tup (.cons (.c (.str "told")) (.cons (.v 5) .nil))) .nil)))) (.cons (.tup (.cons (.c (.str "g")) (.cons (.tup (.cons (.v 5) (.cons (.c (.int 1)) .nil))) (.cons (.tup (.cons (.c (.str "fault")) (.cons (.c (.str "great")) (.cons (.c (.str "g")) (.cons (.c (.int 0)) .nil))))) .nil)))) .nil)))) (.cons (.asg (.v 6) (.bin .Add (.v 6) (.lst false (.cons (.tup (.cons (.c (.str "l")) (.cons (.tup (.cons (.bin .Sub (.c (.int 1)) (.v 5)) (.cons (.c (.int 1)) .nil))) (.cons (.tup (.cons (.c (.str "told")) (.cons (.bin .Sub (.c (.int 0)) (.v 5)) .nil))) .nil)))) (.cons (.tup (.cons (.c (.str "l")) (.cons (.tup (.cons (.bin .Sub (.c (.int 0)) (.v 5)) (.cons (.c (.int 1)) .nil))) (.cons (.tup (.cons (.c (.str "fault")) (.cons (.c (.str "great")) (.cons (.c (.str "l")) (.cons (.c (.int 0)) .nil))))) .nil)))) .nil))))) (.cons (.asg (.v 6) (.bin .Add (.v 6) (.lst false (.cons (.tup (.cons (.c (.str "p")) (.cons (.tup (.cons (.bin .Mult (.tup (.cons (.c (.int 2)) .nil)) (.c (.int 29))) .nil)) (.cons (.tup (.cons (.c (.str "told")) (.cons (.bin .Add (.tup (.cons (.c (.int 1)) .nil)) (.bin .Mult (.tup (.cons (.c (.int 2)) .nil)) (.c (.int 29)))) .nil))) .nil)))) (.cons (.tup (.cons (.c (.str "p")) (.cons (.tup (.cons (.bin .Mult (.tup (.cons (.c (.int 2)) .nil)) (.c (.int 30))) .nil)) (.cons (.tup (.cons (.c (.str "fault")) (.cons (.c (.str "long")) (.cons (.c (.str "p")) (.cons (.c (.int 0)) .nil))))) .nil)))) .nil))))) (.cons (.asg (.v 6) (.bin .Add (.v 6) (.lst false (.cons (.tup (.cons (.c (.str "d")) (.cons (.tup (.cons (.c (.int 20)) .nil)) (.cons (.tup (.cons (.c (.str "told")) (.cons (.c (.int 0)) .nil))) .nil)))) (.cons (.tup (.cons (.c (.str "d")) (.cons (.tup (.cons (.c (.int 21)) .nil)) (.cons (.tup (.cons (.c (.str "fault")) (.cons (.c (.str "deep")) (.cons (.c (.str "d")) (.cons (.c (.int 5)) .nil))))) .nil)))) .nil))))) (.cons (.ret (.cmp .Eq (.comp false (.v 7) (.seq (.v 6)) (.cons (.cmp .NotEq (.idx (.call (x n_run) (.cons (.v 4) (.cons (.idx (.v 7) (.c (.int 0))) (.cons (.idx (.v 7) (.c (.int 1))) .nil))) .nil []) (.c (.int 0))) (.idx (.v 7) (.c (.int 2)))) .nil) (.v 7)) (.lst false .nil))) .nil)))))))))))⟩
-- law_name_of: expression isinstance(e, Breaks)
def f_law_is_sea (x : Nat → Nat) : Fn := ⟨1, 2, false, (.cons (.ife (.or (.cons (.not (.isi (.v 0) "tuple")) (.cons (.cmp .Gt (.blt .len (.cons (.v 0) .nil)) (.c (.int 30))) .nil))) (.cons (.ret (.c (.bool false))) .nil) .nil) (.cons (.ret (.cmp .Eq (.comp false (.v 1) (.seq (.v 0)) (.cons (.or (.cons (.not (.call (x n_law_whole) (.cons (.v 1) .nil) .nil [])) (.cons (.cmp .Gt (.blt .abs (.cons (.v 1) .nil)) (.c (.int 1000))) .nil))) .nil) (.v 1)) (.lst false .nil))) .nil))⟩
-- law_fault: statement try:     run(program, name, args, world=sea)     return '' except MillError as e
def l0_law_put (x : Nat → Nat) : Ss := (.cons (.app (.v 4) (.ite (.chain .LtE .Lt (.v 5) (.v 2) (.bin .Add (.v 5) (.call (x n_law_size) (.cons (.v 6) .nil) .nil []))) (.call (x n_law_put) (.cons (.v 6) (.cons (.v 5) (.cons (.v 2) (.cons (.v 3) .nil)))) .nil []) (.v 6))) (.cons (.asg (.v 5) (.bin .Add (.v 5) (.call (x n_law_size) (.cons (.v 6) .nil) .nil []))) .nil))
def f_law_put (x : Nat → Nat) : Fn := ⟨4, 7, false, (.cons (.ife (.cmp .Eq (.v 1) (.v 2)) (.cons (.ret (.v 3)) .nil) .nil) (.cons (.asg (.v 4) (.lst true .nil)) (.cons (.asg (.v 5) (.bin .Add (.v 1) (.c (.int 1)))) (.cons (.fr (.v 6) (.seq (.call (x n_law_inner) (.cons (.v 0) .nil) .nil [])) (l0_law_put x)) (.cons (.ife (.cmp .In (.idx (.v 0) (.c (.int 0))) (.tup (.cons (.c (.str "call")) (.cons (.c (.str "do")) .nil)))) (.cons (.ret (.bin .Add (.slc (.v 0) .no (.yes (.c (.int 2)))) (.tup (.cons (.blt .tup1 (.cons (.v 4) .nil)) .nil)))) .nil) .nil) (.cons (.ret (.ite (.cmp .NotEq (.v 4) (.lst false .nil)) (.bin .Add (.ite (.cmp .Eq (.idx (.v 0) (.c (.int 0))) (.c (.str "if"))) (.slc (.v 0) .no (.yes (.c (.int 1)))) (.slc (.v 0) .no (.yes (.c (.int 2))))) (.blt .tup1 (.cons (.v 4) .nil))) (.v 0))) .nil))))))⟩
def f_law_called (x : Nat → Nat) : Fn := ⟨3, 5, false, (.cons (.ife (.cmp .In (.idx (.v 0) (.c (.int 0))) (.tup (.cons (.c (.str "number")) (.cons (.c (.str "truth")) (.cons (.c (.str "row")) .nil))))) (.cons (.ret (.v 0)) .nil) .nil) (.cons (.ife (.cmp .Eq (.idx (.v 0) (.c (.int 0))) (.c (.str "name"))) (.cons (.ret (.tup (.cons (.c (.str "name")) (.cons (.idx (.v 1) (.idx (.v 0) (.c (.int 1)))) .nil)))) .nil) .nil) (.cons (.ife (.cmp .Eq (.idx (.v 0) (.c (.int 0))) (.c (.str "if"))) (.cons (.ret (.bin .Add (.tup (.cons (.c (.str "if")) .nil)) (.blt .tup1 (.cons (.comp false (.v 4) (.seq (.slc (.v 0) (.yes (.c (.int 1))) .no)) .nil (.call (x n_law_called) (.cons (.v 4) (.cons (.v 1) (.cons (.v 2) .nil))) .nil [])) .nil)))) .nil) .nil) (.cons (.ife (.cmp .Eq (.idx (.v 0) (.c (.int 0))) (.c (.str "let"))) (.cons (.ret (.bin .Add (.tup (.cons (.c (.str "let")) (.cons (.idx (.v 1) (.idx (.v 0) (.c (.int 1)))) .nil))) (.blt .tup1 (.cons (.comp false (.v 4) (.seq (.slc (.v 0) (.yes (.c (.int 2))) .no)) .nil (.call (x n_law_called) (.cons (.v 4) (.cons (.v 1) (.cons (.v 2) .nil))) .nil [])) .nil)))) .nil) .nil) (.cons (.asg (.v 3) (.ite (.cmp .Eq (.idx (.v 0) (.c (.int 0))) (.c (.str "call"))) (.idx (.v 2) (.idx (.v 0) (.c (.int 1)))) (.idx (.v 0) (.c (.int 1))))) (.cons (.ret (.tup (.cons (.idx (.v 0) (.c (.int 0))) (.cons (.v 3) (.cons (.blt .tup1 (.cons (.comp false (.v 4) (.seq (.idx (.v 0) (.c (.int 2)))) .nil (.call (x n_law_called) (.cons (.v 4) (.cons (.v 1) (.cons (.v 2) .nil))) .nil [])) .nil)) .nil))))) .nil))))))⟩
def l0_law_chain (x : Nat → Nat) : Ss := (.cons (.asg (.v 6) (.tup (.cons (.c (.str "call")) (.cons (.idx (.v 2) (.bin .Add (.v 4) (.c (.int 1)))) (.cons (.tup .nil) .nil))))) (.cons (.app (.v 3) (.tup (.cons (.idx (.v 2) (.v 4)) (.cons (.tup .nil) (.cons (.tup (.cons (.c (.str "do")) (.cons (.c (.str "plus")) (.cons (.tup (.cons (.v 6) (.cons (.v 6) .nil))) .nil)))) .nil))))) .nil))
def l1_law_chain (x : Nat → Nat) : Ss := (.cons (.asg (.v 5) (.tup (.cons (.c (.str "let")) (.cons (.c (.str "x")) (.cons (.v 5) (.cons (.tup (.cons (.c (.str "name")) (.cons (.c (.str "x")) .nil))) .nil)))))) .nil)
def f_law_chain (x : Nat → Nat) : Fn := ⟨2, 7, false, (.cons (.asg (.v 2) (.c (.str "abcdefghijkl"))) (.cons (.asg (.v 3) (.lst true .nil)) (.cons (.fr (.v 4) (.rng1 (.v 0)) (l0_law_chain x)) (.cons (.asg (.v 5) (.tup (.cons (.c (.str "do")) (.cons (.c (.str "world")) (.cons (.tup .nil) .nil))))) (.cons (.fr (.v 4) (.rng1 (.v 1)) (l1_law_chain x)) (.cons (.ret (.blt .tup1 (.cons (.bin .Add (.v 3) (.lst false (.cons (.tup (.cons (.idx (.v 2) (.v 0)) (.cons (.tup .nil) (.cons (.v 5) .nil)))) .nil))) .nil))) .nil))))))⟩
def l0_law_steps (x : Nat → Nat) : Ss := (.cons (.asg (.v 2) (.bin .Add (.c (.int 3)) (.bin .Mult (.c (.int 2)) (.v 2)))) .nil)
def f_law_steps (x : Nat → Nat) : Fn := ⟨2, 4, false, (.cons (.asg (.v 2) (.bin .Add (.c (.int 1)) (.bin .Mult (.c (.int 2)) (.v 1)))) (.cons (.fr (.v 3) (.rng1 (.v 0)) (l0_law_steps x)) (.cons (.ret (.v 2)) .nil)))⟩
def f_is_choices (x : Nat → Nat) : Fn := ⟨1, 2, false, (.cons (.ife (.or (.cons (.not (.isi (.v 0) "tuple")) (.cons (.cmp .Gt (.blt .len (.cons (.v 0) .nil)) (.g (x n_MOST_CHOICES))) .nil))) (.cons (.ret (.c (.bool false))) .nil) .nil) (.cons (.ret (.blt .all1 (.cons (.comp false (.v 1) (.seq (.v 0)) .nil (.call (x n_is_from) (.cons (.v 1) (.cons (.c (.int 0)) (.cons (.g (x n_GREATEST)) .nil))) .nil [])) .nil))) .nil))⟩
def f_within (x : Nat → Nat) : Fn := ⟨1, 2, false, (.cons (.asg (.v 1) (.idx (.v 0) (.c (.int 0)))) (.cons (.ife (.cmp .Eq (.v 1) (.c (.str "one"))) (.cons (.ret (.blt .lst1 (.cons (.idx (.v 0) (.c (.int 1))) .nil))) .nil) .nil) (.cons (.ife (.cmp .Eq (.v 1) (.c (.str "row"))) (.cons (.ret (.lst false (.cons (.idx (.v 0) (.c (.int 1))) .nil))) .nil) .nil) (.cons (.ife (.cmp .Eq (.v 1) (.c (.str "by"))) (.cons (.ret (.blt .lst1 (.cons (.idx (.v 0) (.c (.int 2))) .nil))) .nil) .nil) (.cons (.ret (.ite (.cmp .Eq (.v 1) (.c (.str "where"))) (.lst false (.cons (.idx (.v 0) (.c (.int 2))) .nil)) (.lst false .nil))) .nil)))))⟩
def f_parts_in (x : Nat → Nat) : Fn := ⟨1, 2, false, (.cons (.ret (.bin .Add (.c (.int 1)) (.blt .sum1 (.cons (.comp false (.v 1) (.seq (.call (x n_within) (.cons (.v 0) .nil) .nil [])) .nil (.call (x n_parts_in) (.cons (.v 1) .nil) .nil [])) .nil)))) .nil)⟩
def f_are_ends (x : Nat → Nat) : Fn := ⟨3, 4, false, (.cons (.ret (.and (.cons (.cmp .Eq (.blt .len (.cons (.v 0) .nil)) (.c (.int 2))) (.cons (.blt .all1 (.cons (.comp false (.v 3) (.seq (.v 0)) .nil (.call (x n_is_from) (.cons (.v 3) (.cons (.v 1) (.cons (.v 2) .nil))) .nil [])) .nil)) (.cons (.cmp .LtE (.idx (.v 0) (.c (.int 0))) (.idx (.v 0) (.c (.int 1)))) .nil))))) .nil)⟩
-- is_formed: target *parts
def f_may_run (x : Nat → Nat) : Fn := ⟨3, 3, false, (.cons (.ife (.cmp .Is (.v 0) (.c .none)) (.cons (.ret (.and (.cons (.call (x n_is_name) (.cons (.v 1) .nil) .nil []) (.cons (.cmp .LtE (.v 2) (.g (x n_MOST_PARAMETERS))) .nil)))) .nil) .nil) (.cons (.ret (.cmp .Eq (.get2 (.v 0) (.v 1) (.neg (.c (.int 1)))) (.v 2))) .nil))⟩
-- sizes_in: expression {function[0]: len(function[1]) for function in program}
def f_is_maker (x : Nat → Nat) : Fn := ⟨2, 2, false, (.cons (.ret (.and (.cons (.call (x n_is_formed) (.cons (.call (x n_sizes_in) (.cons (.v 0) .nil) .nil []) (.cons (.v 1) (.cons (.g (x n_MOST_PARTS)) .nil))) .nil []) (.cons (.cmp .LtE (.call (x n_parts_in) (.cons (.v 1) .nil) .nil []) (.g (x n_MOST_PARTS))) .nil)))) .nil)⟩
def f_law_maker (x : Nat → Nat) : Fn := ⟨3, 6, false, (.cons (.asg (.v 3) (.call (x n_law_pick) (.cons (.v 0) (.cons (.c (.int 7)) .nil)) .nil [])) (.cons (.ife (.cmp .Eq (.v 1) (.c (.str "truth"))) (.cons (.ret (.ite (.cmp .Gt (.v 3) (.c (.int 0))) (.tup (.cons (.c (.str "truth")) .nil)) (.tup (.cons (.c (.str "just")) (.cons (.cmp .Eq (.call (x n_law_pick) (.cons (.v 0) (.cons (.c (.int 2)) .nil)) .nil []) (.c (.int 0))) .nil))))) .nil) .nil) (.cons (.ife (.cmp .Eq (.v 1) (.c (.str "row"))) (.cons (.ife (.cmp .Eq (.v 3) (.c (.int 0))) (.cons (.ret (.tup (.cons (.c (.str "just")) (.cons (.blt .tup1 (.cons (.comp false (.v 5) (.rng1 (.call (x n_law_pick) (.cons (.v 0) (.cons (.c (.int 3)) .nil)) .nil [])) .nil (.bin .Sub (.call (x n_law_pick) (.cons (.v 0) (.cons (.c (.int 5)) .nil)) .nil []) (.c (.int 2)))) .nil)) .nil)))) .nil) .nil) (.cons (.asg (.v 4) (.call (x n_law_pick) (.cons (.v 0) (.cons (.c (.int 2)) .nil)) .nil [])) (.cons (.ret (.tup (.cons (.c (.str "row")) (.cons (.call (x n_law_maker) (.cons (.v 0) (.cons (.c (.str "number")) (.cons (.bin .Sub (.v 2) (.c (.int 1))) .nil))) .nil []) (.cons (.v 4) (.cons (.bin .Add (.v 4) (.call (x n_law_pick) (.cons (.v 0) (.cons (.c (.int 3)) .nil)) .nil [])) .nil)))))) .nil))) .nil) (.cons (.asg (.v 4) (.bin .Sub (.call (x n_law_pick) (.cons (.v 0) (.cons (.c (.int 5)) .nil)) .nil []) (.c (.int 3)))) (.cons (.ife (.or (.cons (.cmp .Lt (.v 3) (.c (.int 3))) (.cons (.cmp .Lt (.v 2) (.c (.int 2))) .nil))) (.cons (.ret (.tup (.cons (.c (.str "whole")) (.cons (.v 4) (.cons (.bin .Add (.v 4) (.idx (.lst false (.cons (.call (x n_law_pick) (.cons (.v 0) (.cons (.c (.int 5)) .nil)) .nil []) (.cons (.call (x n_law_pick) (.cons (.v 0) (.cons (.c (.int 5)) .nil)) .nil []) (.cons (.c (.int 900)) .nil)))) (.call (x n_law_pick) (.cons (.v 0) (.cons (.c (.int 3)) .nil)) .nil []))) .nil))))) .nil) .nil) (.cons (.ife (.cmp .Eq (.v 3) (.c (.int 3))) (.cons (.ret (.tup (.cons (.c (.str "just")) (.cons (.bin .Sub (.call (x n_law_pick) (.cons (.v 0) (.cons (.c (.int 9)) .nil)) .nil []) (.c (.int 4))) .nil)))) .nil) .nil) (.cons (.ife (.cmp .Eq (.v 3) (.c (.int 4))) (.cons (.ret (.tup (.cons (.c (.str "one")) (.cons (.blt .tup1 (.cons (.comp false (.v 5) (.rng1 (.bin .Add (.c (.int 1)) (.call (x n_law_pick) (.cons (.v 0) (.cons (.c (.int 2)) .nil)) .nil []))) .nil (.call (x n_law_maker) (.cons (.v 0) (.cons (.c (.str "number")) (.cons (.bin .Sub (.v 2) (.c (.int 1))) .nil))) .nil [])) .nil)) .nil)))) .nil) .nil) (.cons (.ife (.cmp .Eq (.v 3) (.c (.int 5))) (.cons (.ret (.tup (.cons (.c (.str "by")) (.cons (.c (.str "f")) (.cons (.tup (.cons (.call (x n_law_maker) (.cons (.v 0) (.cons (.c (.str "number")) (.cons (.bin .Sub (.v 2) (.c (.int 1))) .nil))) .nil []) .nil)) .nil))))) .nil) .nil) (.cons (.ret (.tup (.cons (.c (.str "where")) (.cons (.c (.str "p")) (.cons (.call (x n_law_maker) (.cons (.v 0) (.cons (.c (.str "number")) (.cons (.bin .Sub (.v 2) (.c (.int 1))) .nil))) .nil []) .nil))))) .nil)))))))))⟩
def f_law_trial (x : Nat → Nat) : Fn := ⟨1, 1, false, (.cons (.ret (.tup (.cons (.bin .Add (.c (.str "try")) (.idx (.c (.str "abc")) (.call (x n_law_pick) (.cons (.v 0) (.cons (.c (.int 3)) .nil)) .nil []))) (.cons (.c (.str "t")) (.cons (.tup (.cons (.call (x n_law_maker) (.cons (.v 0) (.cons (.c (.str "number")) (.cons (.c (.int 3)) .nil))) .nil []) (.cons (.call (x n_law_maker) (.cons (.v 0) (.cons (.c (.str "row")) (.cons (.c (.int 3)) .nil))) .nil []) .nil))) .nil))))) .nil)⟩
def l0_law_choices (x : Nat → Nat) : Ss := (.cons (.asg (.v 3) (.idx (.lst false (.cons (.c (.int 4)) (.cons (.c (.int 4)) (.cons (.c (.int 2000)) (.cons (.bin .Pow (.c (.int 10)) (.c (.int 9))) .nil))))) (.call (x n_law_pick) (.cons (.v 0) (.cons (.c (.int 4)) .nil)) .nil []))) (.cons (.app (.v 1) (.call (x n_law_pick) (.cons (.v 0) (.cons (.v 3) .nil)) .nil [])) .nil))
def f_law_choices (x : Nat → Nat) : Fn := ⟨1, 4, false, (.cons (.asg (.v 1) (.lst true .nil)) (.cons (.fr (.v 2) (.rng1 (.call (x n_law_pick) (.cons (.v 0) (.cons (.c (.int 12)) .nil)) .nil [])) (l0_law_choices x)) (.cons (.ret (.blt .tup1 (.cons (.v 1) .nil))) .nil)))⟩
def f_law_parts (x : Nat → Nat) : Fn := ⟨2, 9, false, (.cons (.ife (.or (.cons (.not (.isi (.v 1) "tuple")) (.cons (.cmp .Eq (.v 1) (.tup .nil)) (.cons (.not (.isi (.idx (.v 1) (.c (.int 0))) "str")) .nil)))) (.cons (.ret (.c (.int 100))) .nil) .nil) (.cons (.par 4 5 (.idx (.v 1) (.c (.int 0))) (.blt .len (.cons (.v 1) .nil))) (.cons (.ife (.cmp .Eq (.v 4) (.c (.str "truth"))) (.cons (.ret (.ite (.cmp .Eq (.v 5) (.c (.int 1))) (.c (.int 1)) (.c (.int 100)))) .nil) .nil) (.cons (.ife (.cmp .Eq (.v 4) (.c (.str "whole"))) (.cons (.ife (.or (.cons (.cmp .NotEq (.v 5) (.c (.int 3))) (.cons (.not (.call (x n_law_from) (.cons (.idx (.v 1) (.c (.int 1))) (.cons (.neg (.c (.int 1000))) (.cons (.c (.int 1000)) .nil))) .nil [])) (.cons (.not (.call (x n_law_from) (.cons (.idx (.v 1) (.c (.int 2))) (.cons (.idx (.v 1) (.c (.int 1))) (.cons (.c (.int 1000)) .nil))) .nil [])) .nil)))) (.cons (.ret (.c (.int 100))) .nil) .nil) (.cons (.ret (.c (.int 1))) .nil)) .nil) (.cons (.ife (.cmp .Eq (.v 4) (.c (.str "just"))) (.cons (.ife (.cmp .NotEq (.v 5) (.c (.int 2))) (.cons (.ret (.c (.int 100))) .nil) .nil) (.cons (.asg (.v 6) (.ite (.isi (.idx (.v 1) (.c (.int 1))) "tuple") (.idx (.v 1) (.c (.int 1))) (.tup (.cons (.idx (.v 1) (.c (.int 1))) .nil)))) (.cons (.asg (.v 7) (.and (.cons (.cmp .LtE (.blt .len (.cons (.v 6) .nil)) (.c (.int 30))) (.cons (.cmp .Eq (.comp false (.v 8) (.seq (.v 6)) (.cons (.not (.call (x n_law_from) (.cons (.v 8) (.cons (.neg (.c (.int 1000))) (.cons (.c (.int 1000)) .nil))) .nil [])) .nil) (.v 8)) (.lst false .nil)) .nil)))) (.cons (.ret (.ite (.or (.cons (.v 7) (.cons (.isi (.idx (.v 1) (.c (.int 1))) "bool") .nil))) (.c (.int 1)) (.c (.int 100)))) .nil)))) .nil) (.cons (.ife (.cmp .Eq (.v 4) (.c (.str "row"))) (.cons (.ife (.or (.cons (.cmp .NotEq (.v 5) (.c (.int 4))) (.cons (.not (.call (x n_law_from) (.cons (.idx (.v 1) (.c (.int 2))) (.cons (.c (.int 0)) (.cons (.c (.int 8)) .nil))) .nil [])) (.cons (.not (.call (x n_law_from) (.cons (.idx (.v 1) (.c (.int 3))) (.cons (.idx (.v 1) (.c (.int 2))) (.cons (.c (.int 8)) .nil))) .nil [])) .nil)))) (.cons (.ret (.c (.int 100))) .nil) .nil) (.cons (.ret (.bin .Add (.c (.int 1)) (.call (x n_law_parts) (.cons (.v 0) (.cons (.idx (.v 1) (.c (.int 1))) .nil)) .nil []))) .nil)) .nil) (.cons (.ife (.cmp .Eq (.v 4) (.c (.str "where"))) (.cons (.asg (.v 7) (.and (.cons (.cmp .Eq (.v 5) (.c (.int 3))) (.cons (.isi (.idx (.v 1) (.c (.int 1))) "str") (.cons (.cmp .Eq (.get2 (.v 0) (.idx (.v 1) (.c (.int 1))) (.neg (.c (.int 1)))) (.c (.int 1))) .nil))))) (.cons (.ret (.ite (.v 7) (.bin .Add (.c (.int 1)) (.call (x n_law_parts) (.cons (.v 0) (.cons (.idx (.v 1) (.c (.int 2))) .nil)) .nil [])) (.c (.int 100)))) .nil)) .nil) (.cons (.asg (.v 2) (.idx (.v 1) (.neg (.c (.int 1))))) (.cons (.ife (.or (.cons (.not (.isi (.v 2) "tuple")) (.cons (.cmp .NotIn (.v 4) (.tup (.cons (.c (.str "one")) (.cons (.c (.str "by")) .nil)))) .nil))) (.cons (.ret (.c (.int 100))) .nil) .nil) (.cons (.ife (.and (.cons (.cmp .Eq (.v 4) (.c (.str "one"))) (.cons (.or (.cons (.cmp .NotEq (.v 5) (.c (.int 2))) (.cons (.not (.chain .LtE .LtE (.c (.int 1)) (.blt .len (.cons (.v 2) .nil)) (.c (.int 5)))) .nil))) .nil))) (.cons (.ret (.c (.int 100))) .nil) .nil) (.cons (.asg (.v 3) (.and (.cons (.cmp .Eq (.v 5) (.c (.int 3))) (.cons (.isi (.idx (.v 1) (.c (.int 1))) "str") .nil)))) (.cons (.ife (.and (.cons (.cmp .Eq (.v 4) (.c (.str "by"))) (.cons (.not (.and (.cons (.v 3) (.cons (.cmp .Eq (.get2 (.v 0) (.idx (.v 1) (.c (.int 1))) (.neg (.c (.int 1)))) (.blt .len (.cons (.v 2) .nil))) .nil)))) .nil))) (.cons (.ret (.c (.int 100))) .nil) .nil) (.cons (.ret (.bin .Add (.c (.int 1)) (.blt .sum1 (.cons (.comp false (.v 8) (.seq (.v 2)) .nil (.call (x n_law_parts) (.cons (.v 0) (.cons (.v 8) .nil)) .nil [])) .nil)))) .nil)))))))))))))⟩
-- law_is_maker: expression dict([(one[0], len(one[1])) for one in program])
def f_law_are_choices (x : Nat → Nat) : Fn := ⟨1, 2, false, (.cons (.ife (.or (.cons (.not (.isi (.v 0) "tuple")) (.cons (.cmp .Gt (.blt .len (.cons (.v 0) .nil)) (.c (.int 60))) .nil))) (.cons (.ret (.c (.bool false))) .nil) .nil) (.cons (.ret (.cmp .Eq (.comp false (.v 1) (.seq (.v 0)) (.cons (.not (.call (x n_law_from) (.cons (.v 1) (.cons (.c (.int 0)) (.cons (.bin .Pow (.c (.int 10)) (.c (.int 9))) .nil))) .nil [])) .nil) (.v 1)) (.lst false .nil))) .nil))⟩
def l0_law_far_v2 (x : Nat → Nat) : Ss := (.cons (.asg (.v 1) (.idx (.lst false (.cons (.tup (.cons (.c (.str "where")) (.cons (.c (.str "p")) (.cons (.v 1) .nil)))) (.cons (.tup (.cons (.c (.str "row")) (.cons (.v 1) (.cons (.c (.int 0)) (.cons (.c (.int 1)) .nil))))) (.cons (.tup (.cons (.c (.str "one")) (.cons (.tup (.cons (.v 1) .nil)) .nil))) .nil)))) (.call (x n_law_pick) (.cons (.v 0) (.cons (.c (.int 3)) .nil)) .nil []))) .nil)
def f_law_far_v2 (x : Nat → Nat) : Fn := ⟨1, 5, false, (.cons (.asg (.v 1) (.tup (.cons (.c (.str "whole")) (.cons (.c (.int 0)) (.cons (.c (.int 1)) .nil))))) (.cons (.fr (.v 2) (.rng1 (.bin .Add (.c (.int 10)) (.call (x n_law_pick) (.cons (.v 0) (.cons (.c (.int 3)) .nil)) .nil []))) (l0_law_far_v2 x)) (.cons (.asg (.v 3) (.bin .Sub (.call (x n_law_pick) (.cons (.v 0) (.cons (.c (.int 4)) .nil)) .nil []) (.c (.int 1)))) (.cons (.asg (.v 4) (.lst false (.cons (.v 1) (.cons (.tup (.cons (.c (.str "row")) (.cons (.tup (.cons (.c (.str "truth")) .nil)) (.cons (.v 3) (.cons (.bin .Add (.c (.int 7)) (.call (x n_law_pick) (.cons (.v 0) (.cons (.c (.int 3)) .nil)) .nil [])) .nil))))) (.cons (.tup (.cons (.c (.str "one")) (.cons (.bin .Mult (.tup (.cons (.tup (.cons (.c (.str "truth")) .nil)) .nil)) (.bin .Add (.c (.int 5)) (.call (x n_law_pick) (.cons (.v 0) (.cons (.c (.int 2)) .nil)) .nil []))) .nil))) .nil))))) (.cons (.asg (.v 4) (.bin .Add (.v 4) (.lst false (.cons (.tup (.cons (.c (.str "by")) (.cons (.idx (.c (.str "fghpt")) (.call (x n_law_pick) (.cons (.v 0) (.cons (.c (.int 5)) .nil)) .nil [])) (.cons (.bin .Mult (.tup (.cons (.tup (.cons (.c (.str "truth")) .nil)) .nil)) (.call (x n_law_pick) (.cons (.v 0) (.cons (.c (.int 4)) .nil)) .nil [])) .nil)))) (.cons (.tup (.cons (.c (.str "just")) (.cons (.bin .Mult (.tup (.cons (.c (.int 1)) .nil)) (.c (.int 31))) .nil))) .nil))))) (.cons (.asg (.v 4) (.bin .Add (.v 4) (.lst false (.cons (.tup (.cons (.c (.str "where")) (.cons (.idx (.c (.str "fghptq")) (.call (x n_law_pick) (.cons (.v 0) (.cons (.c (.int 6)) .nil)) .nil [])) (.cons (.tup (.cons (.c (.str "truth")) .nil)) .nil)))) (.cons (.tup (.cons (.c (.str "whole")) (.cons (.c (.int 1001)) (.cons (.c (.int 1001)) .nil)))) (.cons (.tup (.cons (.c (.str "whole")) (.cons (.c (.int 2)) (.cons (.c (.int 1)) .nil)))) .nil)))))) (.cons (.ret (.idx (.v 4) (.call (x n_law_pick) (.cons (.v 0) (.cons (.c (.int 8)) .nil)) .nil []))) .nil)))))))⟩
def c0_wall (x : Nat → Nat) : E := (.c (.bool true))
def w1_wall (x : Nat → Nat) : Ss := (.cons .pass .nil)
def f_wall (x : Nat → Nat) : Fn := ⟨1, 1, false, (.cons (.whl 1000000 (c0_wall x) (w1_wall x)) .nil)⟩
def f_whole_at (x : Nat → Nat) : Fn := ⟨3, 4, false, (.cons (.ife (.cmp .GtE (.v 0) (.c (.int 0))) (.cons (.ret (.bin .Add (.v 0) (.v 2))) .nil) .nil) (.cons (.ife (.cmp .LtE (.v 1) (.c (.int 0))) (.cons (.ret (.bin .Sub (.v 1) (.v 2))) .nil) .nil) (.cons (.asg (.v 3) (.blt .min2 (.cons (.neg (.v 0)) (.cons (.v 1) .nil)))) (.cons (.ife (.cmp .LtE (.v 2) (.bin .Mult (.c (.int 2)) (.v 3))) (.cons (.ret (.ite (.cmp .Eq (.bin .Mod (.v 2) (.c (.int 2))) (.c (.int 1))) (.bin .FloorDiv (.bin .Add (.v 2) (.c (.int 1))) (.c (.int 2))) (.neg (.bin .FloorDiv (.v 2) (.c (.int 2)))))) .nil) .nil) (.cons (.ret (.ite (.cmp .Gt (.v 1) (.v 3)) (.bin .Sub (.v 2) (.v 3)) (.bin .Sub (.v 3) (.v 2)))) .nil)))))⟩
-- trimmed: list(..) written to
-- drawn: expression source.draw(maker[2] - maker[1] + 1)
-- drawn_row: expression source.draw(2)
-- made_by: statement try:     return tuple([drawn(maker, source, machine) for maker in makers]) excep
-- need_draws: statement raise NoChoices('no choices')
-- make: arguments of make
-- law_closest: expression sorted(range(low, high + 1), key=lambda number: (abs(number), 0 - number))
def f_law_draw (x : Nat → Nat) : Fn := ⟨2, 4, false, (.cons (.asg (.v 2) (.blt .len (.cons (.idx (.v 0) (.c (.str "used"))) .nil))) (.cons (.asg (.v 3) (.ite (.cmp .Lt (.v 2) (.blt .len (.cons (.idx (.v 0) (.c (.str "choices"))) .nil))) (.bin .Mod (.idx (.idx (.v 0) (.c (.str "choices"))) (.v 2)) (.v 1)) (.c (.int 0)))) (.cons (.app (.idx (.v 0) (.c (.str "used"))) (.v 3)) (.cons (.ret (.v 3)) .nil))))⟩
def l0_law_made (x : Nat → Nat) : Ss := (.cons (.asg (.v 4) (.call (x n_law_made) (.cons (.v 0) (.cons (.idx (.v 1) (.c (.int 2))) .nil)) .nil [])) (.cons (.ife (.cmp .NotEq (.idx (.v 4) (.c (.int 0))) (.c (.str "told"))) (.cons (.ret (.v 4)) .nil) .nil) (.cons (.asg (.v 5) (.call (x n_law_body) (.cons (.v 0) (.cons (.idx (.v 1) (.c (.int 1))) (.cons (.lst false (.cons (.idx (.v 4) (.c (.int 1))) .nil)) (.cons (.c (.int 1)) .nil)))) .nil [])) (.cons (.ife (.cmp .NotEq (.idx (.v 5) (.c (.int 0))) (.c (.str "told"))) (.cons (.ret (.tup (.cons (.c (.str "fails")) .nil))) .nil) .nil) (.cons (.ife (.and (.cons (.isi (.idx (.v 5) (.c (.int 1))) "bool") (.cons (.idx (.v 5) (.c (.int 1))) .nil))) (.cons (.ret (.v 4)) .nil) .nil) .nil)))))
def f_law_made (x : Nat → Nat) : Fn := ⟨2, 6, false, (.cons (.ife (.cmp .Eq (.idx (.v 1) (.c (.int 0))) (.c (.str "whole"))) (.cons (.ret (.tup (.cons (.c (.str "told")) (.cons (.call (x n_law_closest) (.cons (.idx (.v 1) (.c (.int 1))) (.cons (.idx (.v 1) (.c (.int 2))) (.cons (.call (x n_law_draw) (.cons (.v 0) (.cons (.bin .Add (.bin .Sub (.idx (.v 1) (.c (.int 2))) (.idx (.v 1) (.c (.int 1)))) (.c (.int 1))) .nil)) .nil []) .nil))) .nil []) .nil)))) .nil) .nil) (.cons (.ife (.cmp .Eq (.idx (.v 1) (.c (.int 0))) (.c (.str "truth"))) (.cons (.ret (.tup (.cons (.c (.str "told")) (.cons (.cmp .Eq (.call (x n_law_draw) (.cons (.v 0) (.cons (.c (.int 2)) .nil)) .nil []) (.c (.int 1))) .nil)))) .nil) .nil) (.cons (.ife (.cmp .Eq (.idx (.v 1) (.c (.int 0))) (.c (.str "just"))) (.cons (.ret (.tup (.cons (.c (.str "told")) (.cons (.idx (.v 1) (.c (.int 1))) .nil)))) .nil) .nil) (.cons (.ife (.cmp .Eq (.idx (.v 1) (.c (.int 0))) (.c (.str "one"))) (.cons (.ret (.call (x n_law_made) (.cons (.v 0) (.cons (.idx (.idx (.v 1) (.c (.int 1))) (.call (x n_law_draw) (.cons (.v 0) (.cons (.blt .len (.cons (.idx (.v 1) (.c (.int 1))) .nil)) .nil)) .nil [])) .nil)) .nil [])) .nil) .nil) (.cons (.ife (.cmp .Eq (.idx (.v 1) (.c (.int 0))) (.c (.str "row"))) (.cons (.ret (.call (x n_law_made_row) (.cons (.v 0) (.cons (.v 1) .nil)) .nil [])) .nil) .nil) (.cons (.ife (.cmp .Eq (.idx (.v 1) (.c (.int 0))) (.c (.str "by"))) (.cons (.asg (.v 3) (.call (x n_law_made_all) (.cons (.v 0) (.cons (.idx (.v 1) (.c (.int 2))) .nil)) .nil [])) (.cons (.ife (.cmp .Is (.v 3) (.c .none)) (.cons (.ret (.tup (.cons (.c (.str "fails")) .nil))) .nil) .nil) (.cons (.asg (.v 4) (.call (x n_law_body) (.cons (.v 0) (.cons (.idx (.v 1) (.c (.int 1))) (.cons (.blt .lst1 (.cons (.v 3) .nil)) (.cons (.c (.int 1)) .nil)))) .nil [])) (.cons (.ret (.ite (.cmp .Eq (.idx (.v 4) (.c (.int 0))) (.c (.str "told"))) (.v 4) (.tup (.cons (.c (.str "fails")) .nil)))) .nil)))) .nil) (.cons (.fr (.v 2) (.rng1 (.c (.int 3))) (l0_law_made x)) (.cons (.ret (.tup (.cons (.c (.str "fails")) .nil))) .nil))))))))⟩
def c0_law_made_row (x : Nat → Nat) : E := (.and (.cons (.cmp .Lt (.blt .len (.cons (.v 2) .nil)) (.idx (.v 1) (.c (.int 3)))) (.cons (.or (.cons (.cmp .Lt (.blt .len (.cons (.v 2) .nil)) (.idx (.v 1) (.c (.int 2)))) (.cons (.cmp .Eq (.call (x n_law_draw) (.cons (.v 0) (.cons (.c (.int 2)) .nil)) .nil []) (.c (.int 1))) .nil))) .nil)))
def w1_law_made_row (x : Nat → Nat) : Ss := (.cons (.asg (.v 3) (.call (x n_law_made) (.cons (.v 0) (.cons (.idx (.v 1) (.c (.int 1))) .nil)) .nil [])) (.cons (.ife (.or (.cons (.cmp .NotEq (.idx (.v 3) (.c (.int 0))) (.c (.str "told"))) (.cons (.cmp .NotEq (.call (x n_law_kind) (.cons (.idx (.v 3) (.c (.int 1))) .nil) .nil []) (.c (.str "n"))) .nil))) (.cons (.ret (.tup (.cons (.c (.str "fails")) .nil))) .nil) .nil) (.cons (.asg (.v 2) (.bin .Add (.v 2) (.tup (.cons (.idx (.v 3) (.c (.int 1))) .nil)))) .nil)))
def f_law_made_row (x : Nat → Nat) : Fn := ⟨2, 4, false, (.cons (.asg (.v 2) (.tup .nil)) (.cons (.whl 1000000 (c0_law_made_row x) (w1_law_made_row x)) (.cons (.ret (.tup (.cons (.c (.str "told")) (.cons (.v 2) .nil)))) .nil)))⟩
def l0_law_made_all (x : Nat → Nat) : Ss := (.cons (.asg (.v 4) (.call (x n_law_made) (.cons (.v 0) (.cons (.v 3) .nil)) .nil [])) (.cons (.ife (.cmp .NotEq (.idx (.v 4) (.c (.int 0))) (.c (.str "told"))) (.cons (.ret (.c .none)) .nil) .nil) (.cons (.asg (.v 2) (.bin .Add (.v 2) (.tup (.cons (.idx (.v 4) (.c (.int 1))) .nil)))) .nil)))
def f_law_made_all (x : Nat → Nat) : Fn := ⟨2, 5, false, (.cons (.asg (.v 2) (.tup .nil)) (.cons (.fr (.v 3) (.seq (.v 1)) (l0_law_made_all x)) (.cons (.ret (.v 2)) .nil)))⟩
-- law_source: expression own.update({'choices': choices, 'used': []})
-- law_trimmed: list(..) written to
-- make_v2: arguments of make
def f_verdict_of (x : Nat → Nat) : Fn := ⟨1, 1, false, (.cons (.ife (.cmp .Eq (.idx (.v 0) (.c (.int 0))) (.c (.str "fault"))) (.cons (.ret (.tup (.cons (.c (.str "bad")) (.cons (.idx (.v 0) (.c (.int 1))) .nil)))) .nil) .nil) (.cons (.ife (.not (.isi (.idx (.v 0) (.c (.int 1))) "bool")) (.cons (.ret (.tup (.cons (.c (.str "bad")) (.cons (.c (.str "other")) .nil)))) .nil) .nil) (.cons (.ret (.ite (.idx (.v 0) (.c (.int 1))) (.tup (.cons (.c (.str "good")) .nil)) (.tup (.cons (.c (.str "bad")) (.cons (.c (.str "wrong")) .nil))))) .nil)))⟩
-- told_by: call Machine(program, world)
-- tell: arguments of tell
def f_law_book (x : Nat → Nat) : Fn := ⟨0, 2, false, (.cons (.asg (.v 0) (.tup (.cons (.c (.str "do")) (.cons (.c (.str "same")) (.cons (.tup (.cons (.tup (.cons (.c (.str "do")) (.cons (.c (.str "rest")) (.cons (.tup (.cons (.tup (.cons (.c (.str "name")) (.cons (.c (.str "x")) .nil))) (.cons (.tup (.cons (.c (.str "number")) (.cons (.c (.int 2)) .nil))) .nil))) .nil)))) (.cons (.tup (.cons (.c (.str "number")) (.cons (.c (.int 0)) .nil))) .nil))) .nil))))) (.cons (.asg (.v 1) (.lst false (.cons (.tup (.cons (.c (.str "any")) (.cons (.tup (.cons (.c (.str "x")) (.cons (.c (.str "y")) .nil))) (.cons (.tup (.cons (.c (.str "truth")) (.cons (.c (.bool true)) .nil))) .nil)))) (.cons (.tup (.cons (.c (.str "bad")) (.cons (.tup (.cons (.c (.str "x")) .nil)) (.cons (.tup (.cons (.c (.str "do")) (.cons (.c (.str "first")) (.cons (.tup (.cons (.tup (.cons (.c (.str "row")) (.cons (.tup .nil) .nil))) .nil)) .nil)))) .nil)))) .nil)))) (.cons (.asg (.v 1) (.bin .Add (.v 1) (.lst false (.cons (.tup (.cons (.c (.str "even")) (.cons (.tup (.cons (.c (.str "x")) .nil)) (.cons (.v 0) .nil)))) (.cons (.tup (.cons (.c (.str "never")) (.cons (.tup (.cons (.c (.str "x")) .nil)) (.cons (.tup (.cons (.c (.str "truth")) (.cons (.c (.bool false)) .nil))) .nil)))) (.cons (.tup (.cons (.c (.str "num")) (.cons (.tup (.cons (.c (.str "x")) .nil)) (.cons (.tup (.cons (.c (.str "name")) (.cons (.c (.str "x")) .nil))) .nil)))) .nil)))))) (.cons (.ret (.blt .tup1 (.cons (.v 1) .nil))) .nil))))⟩
def f_are_good_v2 (x : Nat → Nat) : Fn := ⟨3, 4, false, (.cons (.ret (.blt .all1 (.cons (.comp false (.v 3) (.seq (.v 0)) .nil (.call (x n_is_expression_v2) (.cons (.v 3) (.cons (.v 1) (.cons (.v 2) .nil))) .nil [])) .nil))) .nil)⟩
-- is_expression_v2: target *parts
-- is_function_v2: expression set(thing[1])
-- is_program_v2: expression {function[0]: len(function[1]) for function in thing}
-- is_formed_v2: target *parts
def f_is_maker_v2 (x : Nat → Nat) : Fn := ⟨2, 2, false, (.cons (.ret (.and (.cons (.call (x n_is_formed_v2) (.cons (.call (x n_sizes_in) (.cons (.v 0) .nil) .nil []) (.cons (.v 1) (.cons (.g (x n_MOST_PARTS)) .nil))) .nil []) (.cons (.cmp .LtE (.call (x n_parts_in) (.cons (.v 1) .nil) .nil []) (.g (x n_MOST_PARTS))) .nil)))) .nil)⟩
def f_is_trial (x : Nat → Nat) : Fn := ⟨2, 3, false, (.cons (.ife (.or (.cons (.not (.isi (.v 1) "tuple")) (.cons (.cmp .NotEq (.blt .len (.cons (.v 1) .nil)) (.c (.int 3))) (.cons (.not (.call (x n_is_name) (.cons (.idx (.v 1) (.c (.int 0))) .nil) .nil [])) (.cons (.not (.isi (.idx (.v 1) (.c (.int 1))) "str")) .nil))))) (.cons (.ret (.c (.bool false))) .nil) .nil) (.cons (.ife (.or (.cons (.not (.isi (.idx (.v 1) (.c (.int 2))) "tuple")) (.cons (.cmp .NotEq (.get2 (.call (x n_sizes_in) (.cons (.v 0) .nil) .nil []) (.idx (.v 1) (.c (.int 1))) (.neg (.c (.int 1)))) (.blt .len (.cons (.idx (.v 1) (.c (.int 2))) .nil))) .nil))) (.cons (.ret (.c (.bool false))) .nil) .nil) (.cons (.ret (.blt .all1 (.cons (.comp false (.v 2) (.seq (.idx (.v 1) (.c (.int 2)))) .nil (.call (x n_is_maker_v2) (.cons (.v 0) (.cons (.v 2) .nil)) .nil [])) .nil))) .nil)))⟩
-- law_is_trial: expression dict([(one[0], len(one[1])) for one in program])
def f_law_verdict (x : Nat → Nat) : Fn := ⟨1, 1, false, (.cons (.ife (.cmp .Eq (.idx (.v 0) (.c (.int 0))) (.c (.str "fault"))) (.cons (.ret (.tup (.cons (.c (.str "bad")) (.cons (.idx (.v 0) (.c (.int 1))) .nil)))) .nil) .nil) (.cons (.ife (.not (.isi (.idx (.v 0) (.c (.int 1))) "bool")) (.cons (.ret (.tup (.cons (.c (.str "bad")) (.cons (.c (.str "other")) .nil)))) .nil) .nil) (.cons (.ret (.ite (.idx (.v 0) (.c (.int 1))) (.tup (.cons (.c (.str "good")) .nil)) (.tup (.cons (.c (.str "bad")) (.cons (.c (.str "wrong")) .nil))))) .nil)))⟩
-- law_right: call make(program, x[2], choices, world=sea)
-- law_fault_v2: statement try:     tell(program, x, choices, world=sea)     return '' except MillError as
def l0_row_of (x : Nat → Nat) : Ss := (.cons (.asg (.v 1) (.bin .Mod (.bin .Mult (.v 1) (.g (x n_FACTOR))) (.g (x n_MODULUS)))) (.cons (.app (.v 2) (.bin .FloorDiv (.v 1) (.g (x n_SHARE)))) .nil))
def f_row_of (x : Nat → Nat) : Fn := ⟨1, 4, false, (.cons (.asg (.v 1) (.bin .Add (.c (.int 1)) (.bin .Mod (.v 0) (.bin .Sub (.g (x n_MODULUS)) (.c (.int 1)))))) (.cons (.asg (.v 2) (.lst true .nil)) (.cons (.fr (.v 3) (.rng1 (.g (x n_MANY))) (l0_row_of x)) (.cons (.ret (.blt .tup1 (.cons (.v 2) .nil))) .nil))))⟩
-- tried: arguments of tried
def f_law_pick_v2 (x : Nat → Nat) : Fn := ⟨2, 4, false, (.cons (.ife (.cmp .Gt (.idx (.v 0) (.c (.int 0))) (.c (.int 1))) (.cons (.asg (.v 3) (.bin .Mod (.idx (.v 0) (.c (.int 0))) (.v 1))) (.cons (.asg (.idx (.v 0) (.c (.int 0))) (.bin .FloorDiv (.idx (.v 0) (.c (.int 0))) (.v 1))) (.cons (.ret (.v 3)) .nil))) .nil) (.cons (.asg (.idx (.v 0) (.c (.int 2))) (.bin .Add (.idx (.v 0) (.c (.int 2))) (.c (.int 1)))) (.cons (.asg (.v 2) (.bin .Mod (.bin .Pow (.bin .Add (.idx (.v 0) (.c (.int 1))) (.bin .Mult (.c (.int 15485867)) (.idx (.v 0) (.c (.int 2))))) (.c (.int 5))) (.c (.int 2147483647)))) (.cons (.asg (.v 3) (.bin .FloorDiv (.bin .Mod (.bin .Pow (.bin .Add (.v 2) (.bin .Mult (.c (.int 7919)) (.idx (.v 0) (.c (.int 2))))) (.c (.int 3))) (.c (.int 2147483629))) (.c (.int 32)))) (.cons (.ife (.cmp .Gt (.v 1) (.c (.int 1000000))) (.cons (.ret (.bin .Mod (.bin .Add (.bin .Mult (.v 3) (.c (.int 2147483563))) (.v 2)) (.v 1))) .nil) .nil) (.cons (.ret (.bin .Mod (.v 3) (.v 1))) .nil))))))⟩
def f_law_leaf_v2 (x : Nat → Nat) : Fn := ⟨3, 7, false, (.cons (.asg (.v 3) (.comp false (.tup (.cons (.v 4) (.cons (.v 5) .nil))) (.seq (.v 2)) (.cons (.cmp .Eq (.v 5) (.v 1)) .nil) (.v 4))) (.cons (.ife (.and (.cons (.cmp .NotEq (.v 3) (.lst false .nil)) (.cons (.cmp .Gt (.call (x n_law_pick_v2) (.cons (.v 0) (.cons (.c (.int 3)) .nil)) .nil []) (.c (.int 0))) .nil))) (.cons (.ret (.tup (.cons (.c (.str "name")) (.cons (.idx (.v 3) (.call (x n_law_pick_v2) (.cons (.v 0) (.cons (.blt .len (.cons (.v 3) .nil)) .nil)) .nil [])) .nil)))) .nil) .nil) (.cons (.ife (.cmp .Eq (.v 1) (.c (.str "number"))) (.cons (.ife (.cmp .Eq (.call (x n_law_pick_v2) (.cons (.v 0) (.cons (.c (.int 10)) .nil)) .nil []) (.c (.int 0))) (.cons (.ret (.tup (.cons (.c (.str "do")) (.cons (.c (.str "world")) (.cons (.tup .nil) .nil))))) .nil) .nil) (.cons (.ret (.tup (.cons (.c (.str "number")) (.cons (.idx (.lst false (.cons (.bin .Sub (.call (x n_law_pick_v2) (.cons (.v 0) (.cons (.c (.int 7)) .nil)) .nil []) (.c (.int 3))) (.cons (.bin .Sub (.call (x n_law_pick_v2) (.cons (.v 0) (.cons (.c (.int 2001)) .nil)) .nil []) (.c (.int 1000))) .nil))) (.blt .int1 (.cons (.cmp .Eq (.call (x n_law_pick_v2) (.cons (.v 0) (.cons (.c (.int 6)) .nil)) .nil []) (.c (.int 0))) .nil))) .nil)))) .nil)) .nil) (.cons (.ife (.cmp .Eq (.v 1) (.c (.str "truth"))) (.cons (.ret (.tup (.cons (.c (.str "truth")) (.cons (.cmp .Eq (.call (x n_law_pick_v2) (.cons (.v 0) (.cons (.c (.int 2)) .nil)) .nil []) (.c (.int 0))) .nil)))) .nil) .nil) (.cons (.ret (.tup (.cons (.c (.str "row")) (.cons (.blt .tup1 (.cons (.comp false (.v 6) (.rng1 (.call (x n_law_pick_v2) (.cons (.v 0) (.cons (.c (.int 4)) .nil)) .nil [])) .nil (.bin .Sub (.call (x n_law_pick_v2) (.cons (.v 0) (.cons (.c (.int 7)) .nil)) .nil []) (.c (.int 3)))) .nil)) .nil)))) .nil)))))⟩
def f_law_done_of_v2 (x : Nat → Nat) : Fn := ⟨5, 10, false, (.cons (.asg (.v 5) (.dct true (.cons (.c (.str "number")) (.cons (.lst false (.cons (.c (.str "plus")) (.cons (.c (.str "minus")) (.cons (.c (.str "times")) (.cons (.c (.str "over")) (.cons (.c (.str "rest")) (.cons (.c (.str "first")) (.cons (.c (.str "long")) .nil)))))))) (.cons (.c (.str "row")) (.cons (.lst false (.cons (.c (.str "put")) (.cons (.c (.str "others")) (.cons (.c (.str "put")) .nil)))) .nil)))))) (.cons (.asg (.idx (.v 5) (.c (.str "truth"))) (.lst false (.cons (.c (.str "below")) (.cons (.c (.str "same")) (.cons (.c (.str "and")) (.cons (.c (.str "or")) (.cons (.c (.str "not")) (.cons (.c (.str "below")) .nil)))))))) (.cons (.asg (.v 6) (.idx (.idx (.v 5) (.v 1)) (.call (x n_law_pick_v2) (.cons (.v 0) (.cons (.blt .len (.cons (.idx (.v 5) (.v 1)) .nil)) .nil)) .nil []))) (.cons (.asg (.v 7) (.dct true (.cons (.c (.str "first")) (.cons (.lst false (.cons (.c (.str "row")) .nil)) (.cons (.c (.str "long")) (.cons (.lst false (.cons (.c (.str "row")) .nil)) (.cons (.c (.str "others")) (.cons (.lst false (.cons (.c (.str "row")) .nil)) (.cons (.c (.str "put")) (.cons (.lst false (.cons (.c (.str "number")) (.cons (.c (.str "row")) .nil))) (.cons (.c (.str "not")) (.cons (.lst false (.cons (.c (.str "truth")) .nil)) .nil)))))))))))) (.cons (.asg (.idx (.v 7) (.c (.str "and"))) (.lst false (.cons (.c (.str "truth")) (.cons (.c (.str "truth")) .nil)))) (.cons (.asg (.idx (.v 7) (.c (.str "or"))) (.lst false (.cons (.c (.str "truth")) (.cons (.c (.str "truth")) .nil)))) (.cons (.asg (.v 8) (.get2 (.v 7) (.v 6) (.lst false (.cons (.c (.str "number")) (.cons (.c (.str "number")) .nil))))) (.cons (.ret (.tup (.cons (.c (.str "do")) (.cons (.v 6) (.cons (.blt .tup1 (.cons (.comp false (.v 9) (.seq (.v 8)) .nil (.call (x n_law_tree_v2) (.cons (.v 0) (.cons (.v 9) (.cons (.v 2) (.cons (.v 3) (.cons (.bin .Sub (.v 4) (.c (.int 1))) .nil))))) .nil [])) .nil)) .nil))))) .nil))))))))⟩
def f_law_tree_v2 (x : Nat → Nat) : Fn := ⟨5, 15, false, (.cons (.ife (.or (.cons (.cmp .Lt (.v 4) (.c (.int 2))) (.cons (.cmp .Eq (.call (x n_law_pick_v2) (.cons (.v 0) (.cons (.c (.int 5)) .nil)) .nil []) (.c (.int 0))) .nil))) (.cons (.ret (.call (x n_law_leaf_v2) (.cons (.v 0) (.cons (.v 1) (.cons (.v 2) .nil))) .nil [])) .nil) .nil) (.cons (.ife (.cmp .Eq (.call (x n_law_pick_v2) (.cons (.v 0) (.cons (.c (.int 25)) .nil)) .nil []) (.c (.int 0))) (.cons (.asg (.v 1) (.idx (.lst false (.cons (.c (.str "number")) (.cons (.c (.str "truth")) (.cons (.c (.str "row")) .nil)))) (.call (x n_law_pick_v2) (.cons (.v 0) (.cons (.c (.int 3)) .nil)) .nil []))) .nil) .nil) (.cons (.asg (.v 5) (.call (x n_law_pick_v2) (.cons (.v 0) (.cons (.c (.int 8)) .nil)) .nil [])) (.cons (.ife (.cmp .Eq (.v 5) (.c (.int 0))) (.cons (.asg (.v 7) (.comp false (.v 13) (.seq (.tup (.cons (.c (.str "truth")) (.cons (.v 1) (.cons (.v 1) .nil))))) .nil (.call (x n_law_tree_v2) (.cons (.v 0) (.cons (.v 13) (.cons (.v 2) (.cons (.v 3) (.cons (.bin .Sub (.v 4) (.c (.int 1))) .nil))))) .nil []))) (.cons (.ret (.tup (.cons (.c (.str "if")) (.cons (.idx (.v 7) (.c (.int 0))) (.cons (.idx (.v 7) (.c (.int 1))) (.cons (.idx (.v 7) (.c (.int 2))) .nil)))))) .nil)) .nil) (.cons (.ife (.cmp .Eq (.v 5) (.c (.int 1))) (.cons (.asg (.v 8) (.idx (.lst false (.cons (.c (.str "number")) (.cons (.c (.str "row")) (.cons (.c (.str "truth")) .nil)))) (.call (x n_law_pick_v2) (.cons (.v 0) (.cons (.c (.int 3)) .nil)) .nil []))) (.cons (.asg (.v 9) (.idx (.lst false (.cons (.c (.str "x")) (.cons (.c (.str "y")) (.cons (.c (.str "z")) .nil)))) (.call (x n_law_pick_v2) (.cons (.v 0) (.cons (.c (.int 3)) .nil)) .nil []))) (.cons (.asg (.v 10) (.call (x n_law_tree_v2) (.cons (.v 0) (.cons (.v 8) (.cons (.v 2) (.cons (.v 3) (.cons (.bin .Sub (.v 4) (.c (.int 1))) .nil))))) .nil [])) (.cons (.asg (.v 11) (.bin .Add (.comp false (.v 14) (.seq (.v 2)) (.cons (.cmp .NotEq (.idx (.v 14) (.c (.int 0))) (.v 9)) .nil) (.v 14)) (.lst false (.cons (.tup (.cons (.v 9) (.cons (.v 8) .nil))) .nil)))) (.cons (.ret (.tup (.cons (.c (.str "let")) (.cons (.v 9) (.cons (.v 10) (.cons (.call (x n_law_tree_v2) (.cons (.v 0) (.cons (.v 1) (.cons (.v 11) (.cons (.v 3) (.cons (.bin .Sub (.v 4) (.c (.int 1))) .nil))))) .nil []) .nil)))))) .nil))))) .nil) (.cons (.asg (.v 6) (.comp false (.v 9) (.seq (.v 3)) (.cons (.cmp .Eq (.idx (.idx (.call (x n_law_signs) .nil .nil []) (.v 9)) (.c (.int 1))) (.v 1)) .nil) (.v 9))) (.cons (.ife (.and (.cons (.cmp .Lt (.v 5) (.c (.int 4))) (.cons (.cmp .NotEq (.v 6) (.lst false .nil)) .nil))) (.cons (.asg (.v 9) (.idx (.v 6) (.call (x n_law_pick_v2) (.cons (.v 0) (.cons (.blt .len (.cons (.v 6) .nil)) .nil)) .nil []))) (.cons (.asg (.v 12) (.comp false (.v 13) (.seq (.idx (.idx (.call (x n_law_signs) .nil .nil []) (.v 9)) (.c (.int 0)))) .nil (.call (x n_law_tree_v2) (.cons (.v 0) (.cons (.v 13) (.cons (.v 2) (.cons (.v 3) (.cons (.bin .Sub (.v 4) (.c (.int 1))) .nil))))) .nil []))) (.cons (.ret (.tup (.cons (.c (.str "call")) (.cons (.v 9) (.cons (.blt .tup1 (.cons (.v 12) .nil)) .nil))))) .nil))) .nil) (.cons (.ret (.call (x n_law_done_of_v2) (.cons (.v 0) (.cons (.v 1) (.cons (.v 2) (.cons (.v 3) (.cons (.v 4) .nil))))) .nil [])) .nil))))))))⟩
def l0_law_program_v2 (x : Nat → Nat) : Ss := (.cons (.asg (.v 4) (.ite (.cmp .Gt (.call (x n_law_pick_v2) (.cons (.v 0) (.cons (.c (.int 6)) .nil)) .nil []) (.c (.int 0))) (.slc (.c (.str "fghpt")) .no (.yes (.v 2))) (.c (.str "fghpt")))) (.cons (.asg (.tup (.cons (.v 7) (.cons (.v 8) .nil))) (.idx (.call (x n_law_signs) .nil .nil []) (.v 3))) (.cons (.asg (.v 5) (.lzip (.lst false (.cons (.c (.str "x")) (.cons (.c (.str "y")) .nil))) (.v 7))) (.cons (.asg (.v 6) (.call (x n_law_tree_v2) (.cons (.v 0) (.cons (.v 8) (.cons (.v 5) (.cons (.v 4) (.cons (.bin .Add (.c (.int 2)) (.call (x n_law_pick_v2) (.cons (.v 0) (.cons (.c (.int 3)) .nil)) .nil [])) .nil))))) .nil [])) (.cons (.app (.v 1) (.tup (.cons (.v 3) (.cons (.blt .tup1 (.cons (.slc (.lst false (.cons (.c (.str "x")) (.cons (.c (.str "y")) .nil))) .no (.yes (.blt .len (.cons (.v 7) .nil)))) .nil)) (.cons (.v 6) .nil))))) .nil)))))
def f_law_program_v2 (x : Nat → Nat) : Fn := ⟨1, 9, false, (.cons (.asg (.v 1) (.lst true .nil)) (.cons (.fr (.tup (.cons (.v 2) (.cons (.v 3) .nil))) (.enum (.c (.str "fghpt"))) (l0_law_program_v2 x)) (.cons (.ret (.blt .tup1 (.cons (.v 1) .nil))) .nil)))⟩
def f_law_maker_v2 (x : Nat → Nat) : Fn := ⟨3, 6, false, (.cons (.asg (.v 3) (.call (x n_law_pick_v2) (.cons (.v 0) (.cons (.c (.int 7)) .nil)) .nil [])) (.cons (.ife (.cmp .Eq (.v 1) (.c (.str "truth"))) (.cons (.ret (.ite (.cmp .Gt (.v 3) (.c (.int 0))) (.tup (.cons (.c (.str "truth")) .nil)) (.tup (.cons (.c (.str "just")) (.cons (.cmp .Eq (.call (x n_law_pick_v2) (.cons (.v 0) (.cons (.c (.int 2)) .nil)) .nil []) (.c (.int 0))) .nil))))) .nil) .nil) (.cons (.ife (.cmp .Eq (.v 1) (.c (.str "row"))) (.cons (.ife (.cmp .Eq (.v 3) (.c (.int 0))) (.cons (.ret (.tup (.cons (.c (.str "just")) (.cons (.blt .tup1 (.cons (.comp false (.v 5) (.rng1 (.call (x n_law_pick_v2) (.cons (.v 0) (.cons (.c (.int 3)) .nil)) .nil [])) .nil (.bin .Sub (.call (x n_law_pick_v2) (.cons (.v 0) (.cons (.c (.int 5)) .nil)) .nil []) (.c (.int 2)))) .nil)) .nil)))) .nil) .nil) (.cons (.asg (.v 4) (.call (x n_law_pick_v2) (.cons (.v 0) (.cons (.c (.int 2)) .nil)) .nil [])) (.cons (.ret (.tup (.cons (.c (.str "row")) (.cons (.call (x n_law_maker_v2) (.cons (.v 0) (.cons (.c (.str "number")) (.cons (.bin .Sub (.v 2) (.c (.int 1))) .nil))) .nil []) (.cons (.v 4) (.cons (.bin .Add (.v 4) (.call (x n_law_pick_v2) (.cons (.v 0) (.cons (.c (.int 3)) .nil)) .nil [])) .nil)))))) .nil))) .nil) (.cons (.asg (.v 4) (.bin .Sub (.call (x n_law_pick_v2) (.cons (.v 0) (.cons (.c (.int 5)) .nil)) .nil []) (.c (.int 3)))) (.cons (.ife (.or (.cons (.cmp .Lt (.v 3) (.c (.int 3))) (.cons (.cmp .Lt (.v 2) (.c (.int 2))) .nil))) (.cons (.ret (.tup (.cons (.c (.str "whole")) (.cons (.v 4) (.cons (.bin .Add (.v 4) (.idx (.lst false (.cons (.call (x n_law_pick_v2) (.cons (.v 0) (.cons (.c (.int 5)) .nil)) .nil []) (.cons (.call (x n_law_pick_v2) (.cons (.v 0) (.cons (.c (.int 5)) .nil)) .nil []) (.cons (.c (.int 900)) .nil)))) (.call (x n_law_pick_v2) (.cons (.v 0) (.cons (.c (.int 3)) .nil)) .nil []))) .nil))))) .nil) .nil) (.cons (.ife (.cmp .Eq (.v 3) (.c (.int 3))) (.cons (.ret (.tup (.cons (.c (.str "just")) (.cons (.bin .Sub (.call (x n_law_pick_v2) (.cons (.v 0) (.cons (.c (.int 9)) .nil)) .nil []) (.c (.int 4))) .nil)))) .nil) .nil) (.cons (.ife (.cmp .Eq (.v 3) (.c (.int 4))) (.cons (.ret (.tup (.cons (.c (.str "one")) (.cons (.blt .tup1 (.cons (.comp false (.v 5) (.rng1 (.bin .Add (.c (.int 1)) (.call (x n_law_pick_v2) (.cons (.v 0) (.cons (.c (.int 2)) .nil)) .nil []))) .nil (.call (x n_law_maker_v2) (.cons (.v 0) (.cons (.c (.str "number")) (.cons (.bin .Sub (.v 2) (.c (.int 1))) .nil))) .nil [])) .nil)) .nil)))) .nil) .nil) (.cons (.ife (.cmp .Eq (.v 3) (.c (.int 5))) (.cons (.ret (.tup (.cons (.c (.str "by")) (.cons (.c (.str "f")) (.cons (.tup (.cons (.call (x n_law_maker_v2) (.cons (.v 0) (.cons (.c (.str "number")) (.cons (.bin .Sub (.v 2) (.c (.int 1))) .nil))) .nil []) .nil)) .nil))))) .nil) .nil) (.cons (.ret (.tup (.cons (.c (.str "where")) (.cons (.c (.str "p")) (.cons (.call (x n_law_maker_v2) (.cons (.v 0) (.cons (.c (.str "number")) (.cons (.bin .Sub (.v 2) (.c (.int 1))) .nil))) .nil []) .nil))))) .nil)))))))))⟩
def f_law_trial_v2 (x : Nat → Nat) : Fn := ⟨1, 1, false, (.cons (.ret (.tup (.cons (.bin .Add (.c (.str "try")) (.idx (.c (.str "abc")) (.call (x n_law_pick_v2) (.cons (.v 0) (.cons (.c (.int 3)) .nil)) .nil []))) (.cons (.c (.str "t")) (.cons (.tup (.cons (.call (x n_law_maker_v2) (.cons (.v 0) (.cons (.c (.str "number")) (.cons (.c (.int 3)) .nil))) .nil []) (.cons (.call (x n_law_maker_v2) (.cons (.v 0) (.cons (.c (.str "row")) (.cons (.c (.int 3)) .nil))) .nil []) .nil))) .nil))))) .nil)⟩
def l0_law_choices_v2 (x : Nat → Nat) : Ss := (.cons (.asg (.v 3) (.idx (.lst false (.cons (.c (.int 4)) (.cons (.c (.int 4)) (.cons (.c (.int 2000)) (.cons (.bin .Pow (.c (.int 10)) (.c (.int 9))) .nil))))) (.call (x n_law_pick_v2) (.cons (.v 0) (.cons (.c (.int 4)) .nil)) .nil []))) (.cons (.app (.v 1) (.call (x n_law_pick_v2) (.cons (.v 0) (.cons (.v 3) .nil)) .nil [])) .nil))
def f_law_choices_v2 (x : Nat → Nat) : Fn := ⟨1, 4, false, (.cons (.asg (.v 1) (.lst true .nil)) (.cons (.fr (.v 2) (.rng1 (.call (x n_law_pick_v2) (.cons (.v 0) (.cons (.c (.int 12)) .nil)) .nil [])) (l0_law_choices_v2 x)) (.cons (.ret (.blt .tup1 (.cons (.v 1) .nil))) .nil)))⟩
def f_law_world_v2 (x : Nat → Nat) : Fn := ⟨1, 2, false, (.cons (.ret (.blt .tup1 (.cons (.comp false (.v 1) (.rng1 (.call (x n_law_pick_v2) (.cons (.v 0) (.cons (.c (.int 4)) .nil)) .nil [])) .nil (.bin .Sub (.call (x n_law_pick_v2) (.cons (.v 0) (.cons (.c (.int 7)) .nil)) .nil []) (.c (.int 3)))) .nil))) .nil)⟩
def l0_law_row (x : Nat → Nat) : Ss := (.cons (.asg (.v 2) (.bin .Mod (.bin .Mult (.c (.int 48271)) (.v 2)) (.c (.int 2147483647)))) (.cons (.app (.v 1) (.bin .FloorDiv (.v 2) (.c (.int 1000)))) .nil))
def f_law_row (x : Nat → Nat) : Fn := ⟨1, 4, false, (.cons (.asg (.v 1) (.lst true .nil)) (.cons (.asg (.v 2) (.bin .Add (.bin .Mod (.v 0) (.c (.int 2147483646))) (.c (.int 1)))) (.cons (.fr (.v 3) (.rng1 (.c (.int 60))) (l0_law_row x)) (.cons (.ret (.blt .tup1 (.cons (.v 1) .nil))) .nil))))⟩
-- law_tried: call tell(program, x, _law_row(seed + k), world=sea)
def f_order (x : Nat → Nat) : Fn := ⟨1, 1, false, (.cons (.ret (.tup (.cons (.blt .len (.cons (.v 0) .nil)) (.cons (.v 0) .nil)))) .nil)⟩
def l0_steps_from (x : Nat → Nat) : Ss := (.cons (.app (.v 1) (.bin .Add (.slc (.v 0) .no (.yes (.v 2))) (.slc (.v 0) (.yes (.bin .Add (.v 2) (.v 3))) .no))) .nil)
def l1_steps_from (x : Nat → Nat) : Ss := (.cons (.app (.v 1) (.bin .Add (.bin .Add (.slc (.v 0) .no (.yes (.v 2))) (.tup (.cons (.blt .max2 (.cons (.c (.int 0)) (.cons (.v 4) .nil))) .nil))) (.slc (.v 0) (.yes (.bin .Add (.v 2) (.c (.int 1)))) .no))) .nil)
def l2_steps_from (x : Nat → Nat) : Ss := (.cons (.fr (.v 3) (.rng2 (.c (.int 1)) (.bin .Add (.g (x n_MOST_OUT)) (.c (.int 1)))) (l0_steps_from x)) (.cons (.fr (.v 4) (.seq (.tup (.cons (.c (.int 0)) (.cons (.bin .FloorDiv (.idx (.v 0) (.v 2)) (.c (.int 2))) (.cons (.bin .Sub (.idx (.v 0) (.v 2)) (.c (.int 1))) .nil))))) (l1_steps_from x)) (.cons (.app (.v 1) (.bin .Add (.bin .Add (.slc (.v 0) .no (.yes (.v 2))) (.back (.slc (.v 0) (.yes (.v 2)) (.yes (.bin .Add (.v 2) (.c (.int 2))))))) (.slc (.v 0) (.yes (.bin .Add (.v 2) (.c (.int 2)))) .no))) .nil)))
def f_steps_from (x : Nat → Nat) : Fn := ⟨1, 5, false, (.cons (.asg (.v 1) (.lst true .nil)) (.cons (.fr (.v 2) (.rng1 (.blt .len (.cons (.v 0) .nil))) (l2_steps_from x)) (.cons (.ret (.frz (.v 1))) .nil)))⟩
-- small_steps: expression {trimmed(step): True for step in steps_from(choices)}
-- small_steps_K: expression {trimmed(step): True for step in steps_from(choices)}
def f_law_order (x : Nat → Nat) : Fn := ⟨1, 1, false, (.cons (.ret (.tup (.cons (.blt .len (.cons (.v 0) .nil)) (.cons (.v 0) .nil)))) .nil)⟩
-- law_steps_v2: empty dict
-- like: call tell(program, trial, choices, world=world)
def l0_next_down (x : Nat → Nat) : Ss := (.cons (.asg (.v 6) (.call (x n_like) (.cons (.v 0) (.cons (.v 1) (.cons (.v 5) (.cons (.v 3) (.cons (.v 4) .nil))))) .nil [])) (.cons (.ife (.cmp .IsNot (.v 6) (.c .none)) (.cons (.ret (.v 6)) .nil) .nil) .nil))
def f_next_down (x : Nat → Nat) : Fn := ⟨5, 7, false, (.cons (.fr (.v 5) (.seq (.call (x n_small_steps) (.cons (.v 2) .nil) .nil [])) (l0_next_down x)) (.cons (.ret (.c .none)) .nil))⟩
-- way_down: arguments of way_down
-- is_way_down: arguments of is_way_down
-- is_small: arguments of is_small
def f_law_bad_book (x : Nat → Nat) : Fn := ⟨1, 9, false, (.cons (.asg (.v 1) (.tup (.cons (.c (.str "name")) (.cons (.c (.str "x")) .nil)))) (.cons (.asg (.v 2) (.tup (.cons (.c (.str "do")) (.cons (.c (.str "plus")) (.cons (.tup (.cons (.tup (.cons (.c (.str "do")) (.cons (.c (.str "first")) (.cons (.tup (.cons (.v 1) .nil)) .nil)))) (.cons (.tup (.cons (.c (.str "call")) (.cons (.c (.str "sum")) (.cons (.tup (.cons (.tup (.cons (.c (.str "do")) (.cons (.c (.str "others")) (.cons (.tup (.cons (.v 1) .nil)) .nil)))) .nil)) .nil)))) .nil))) .nil))))) (.cons (.asg (.v 3) (.tup (.cons (.c (.str "if")) (.cons (.tup (.cons (.c (.str "do")) (.cons (.c (.str "same")) (.cons (.tup (.cons (.tup (.cons (.c (.str "do")) (.cons (.c (.str "long")) (.cons (.tup (.cons (.v 1) .nil)) .nil)))) (.cons (.tup (.cons (.c (.str "number")) (.cons (.c (.int 0)) .nil))) .nil))) .nil)))) (.cons (.tup (.cons (.c (.str "number")) (.cons (.c (.int 0)) .nil))) (.cons (.v 2) .nil)))))) (.cons (.asg (.v 4) (.tup (.cons (.c (.str "number")) (.cons (.bin .Sub (.call (x n_law_pick) (.cons (.v 0) (.cons (.c (.int 12)) .nil)) .nil []) (.c (.int 2))) .nil)))) (.cons (.asg (.v 5) (.lst true (.cons (.tup (.cons (.c (.str "call")) (.cons (.c (.str "sum")) (.cons (.tup (.cons (.v 1) .nil)) .nil)))) (.cons (.tup (.cons (.c (.str "do")) (.cons (.c (.str "long")) (.cons (.tup (.cons (.v 1) .nil)) .nil)))) (.cons (.tup (.cons (.c (.str "name")) (.cons (.c (.str "y")) .nil))) .nil))))) (.cons (.app (.v 5) (.tup (.cons (.c (.str "do")) (.cons (.c (.str "plus")) (.cons (.tup (.cons (.tup (.cons (.c (.str "name")) (.cons (.c (.str "y")) .nil))) (.cons (.tup (.cons (.c (.str "call")) (.cons (.c (.str "sum")) (.cons (.tup (.cons (.v 1) .nil)) .nil)))) .nil))) .nil))))) (.cons (.app (.v 5) (.tup (.cons (.c (.str "do")) (.cons (.c (.str "over")) (.cons (.tup (.cons (.tup (.cons (.c (.str "number")) (.cons (.c (.int 12)) .nil))) (.cons (.tup (.cons (.c (.str "name")) (.cons (.c (.str "y")) .nil))) .nil))) .nil))))) (.cons (.asg (.v 6) (.tup (.cons (.c (.str "do")) (.cons (.c (.str "below")) (.cons (.tup (.cons (.idx (.v 5) (.call (x n_law_pick) (.cons (.v 0) (.cons (.c (.int 5)) .nil)) .nil [])) (.cons (.v 4) .nil))) .nil))))) (.cons (.ife (.cmp .Eq (.call (x n_law_pick) (.cons (.v 0) (.cons (.c (.int 3)) .nil)) .nil []) (.c (.int 0))) (.cons (.asg (.v 6) (.tup (.cons (.c (.str "do")) (.cons (.c (.str "or")) (.cons (.tup (.cons (.v 6) (.cons (.tup (.cons (.c (.str "do")) (.cons (.c (.str "same")) (.cons (.tup (.cons (.tup (.cons (.c (.str "name")) (.cons (.c (.str "y")) .nil))) (.cons (.tup (.cons (.c (.str "do")) (.cons (.c (.str "first")) (.cons (.tup (.cons (.v 1) .nil)) .nil)))) .nil))) .nil)))) .nil))) .nil))))) .nil) .nil) (.cons (.asg (.v 7) (.tup (.cons (.tup (.cons (.c (.str "good")) (.cons (.tup (.cons (.c (.str "x")) (.cons (.c (.str "y")) .nil))) (.cons (.v 6) .nil)))) (.cons (.tup (.cons (.c (.str "sum")) (.cons (.tup (.cons (.c (.str "x")) .nil)) (.cons (.v 3) .nil)))) .nil)))) (.cons (.asg (.v 8) (.tup (.cons (.c (.str "row")) (.cons (.tup (.cons (.c (.str "whole")) (.cons (.bin .Sub (.c (.int 0)) (.call (x n_law_pick) (.cons (.v 0) (.cons (.c (.int 3)) .nil)) .nil [])) (.cons (.bin .Add (.c (.int 1)) (.call (x n_law_pick) (.cons (.v 0) (.cons (.c (.int 20)) .nil)) .nil [])) .nil)))) (.cons (.call (x n_law_pick) (.cons (.v 0) (.cons (.c (.int 2)) .nil)) .nil []) (.cons (.c (.int 5)) .nil)))))) (.cons (.ret (.tup (.cons (.v 7) (.cons (.tup (.cons (.c (.str "tr")) (.cons (.c (.str "good")) (.cons (.tup (.cons (.v 8) (.cons (.tup (.cons (.c (.str "whole")) (.cons (.c (.int 0)) (.cons (.call (x n_law_pick) (.cons (.v 0) (.cons (.c (.int 30)) .nil)) .nil []) .nil)))) .nil))) .nil)))) .nil)))) .nil))))))))))))⟩
def f_law_many (x : Nat → Nat) : Fn := ⟨1, 2, false, (.cons (.ret (.blt .tup1 (.cons (.comp false (.v 1) (.rng1 (.bin .Add (.c (.int 4)) (.call (x n_law_pick) (.cons (.v 0) (.cons (.c (.int 10)) .nil)) .nil []))) .nil (.idx (.lst false (.cons (.c (.int 1)) (.cons (.c (.int 1)) (.cons (.call (x n_law_pick) (.cons (.v 0) (.cons (.c (.int 40)) .nil)) .nil []) .nil)))) (.call (x n_law_pick) (.cons (.v 0) (.cons (.c (.int 3)) .nil)) .nil []))) .nil))) .nil)⟩
-- law_downs: call tell(program, x, step, world=sea)
-- law_way_right: call tell(program, x, choices, world=sea)
-- law_fault_v3: statement try:     way_down(program, x, choices, world=sea)     return '' except MillError
def l0_law_down (x : Nat → Nat) : Ss := (.cons (.asg (.v 7) (.call (x n_tell) (.cons (.v 0) (.cons (.v 1) (.cons (.v 6) .nil))) .nil [])) (.cons (.ife (.and (.cons (.cmp .Eq (.idx (.v 7) (.c (.int 0))) (.v 3)) (.cons (.cmp .NotIn (.idx (.v 7) (.c (.int 1))) (.v 5)) .nil))) (.cons (.app (.v 5) (.idx (.v 7) (.c (.int 1)))) .nil) .nil) .nil))
def f_law_down (x : Nat → Nat) : Fn := ⟨5, 8, false, (.cons (.asg (.v 5) (.lst true .nil)) (.cons (.fr (.v 6) (.seq (.call (x n_law_steps_v2) (.cons (.v 2) .nil) .nil [])) (l0_law_down x)) (.cons (.ret (.ite (.cmp .NotEq (.v 5) (.lst false .nil)) (.idx (.v 5) (.bin .Mod (.v 4) (.blt .len (.cons (.v 5) .nil)))) (.c .none))) .nil)))⟩
def l0_law_is_way (x : Nat → Nat) : Ss := (.cons (.ife (.or (.cons (.not (.isi (.v 4) "tuple")) (.cons (.cmp .Gt (.blt .len (.cons (.v 4) .nil)) (.c (.int 60))) (.cons (.not (.blt .all1 (.cons (.comp false (.v 7) (.seq (.v 4)) .nil (.call (x n_law_whole) (.cons (.v 7) .nil) .nil [])) .nil))) .nil)))) (.cons (.ret (.c (.bool false))) .nil) .nil) .nil)
def l1_law_is_way (x : Nat → Nat) : Ss := (.cons (.asg (.v 9) (.comp false (.v 10) (.seq (.call (x n_law_steps_v2) (.cons (.v 7) .nil) .nil [])) (.cons (.cmp .Eq (.slc (.call (x n_tell) (.cons (.v 0) (.cons (.v 1) (.cons (.v 10) .nil))) .nil []) .no (.yes (.c (.int 2)))) (.tup (.cons (.v 5) (.cons (.v 8) .nil)))) .nil) (.v 10))) (.cons (.ife (.cmp .Eq (.v 9) (.lst false .nil)) (.cons (.ret (.c (.bool false))) .nil) .nil) .nil))
def f_law_is_way (x : Nat → Nat) : Fn := ⟨4, 11, false, (.cons (.asg (.tup (.cons (.v 5) (.cons (.v 6) .nil))) (.slc (.call (x n_tell) (.cons (.v 0) (.cons (.v 1) (.cons (.v 2) .nil))) .nil []) .no (.yes (.c (.int 2))))) (.cons (.ife (.or (.cons (.cmp .NotEq (.idx (.v 5) (.c (.int 0))) (.c (.str "bad"))) (.cons (.not (.isi (.v 3) "list")) (.cons (.cmp .Eq (.v 3) (.lst false .nil)) (.cons (.cmp .NotEq (.idx (.v 3) (.c (.int 0))) (.v 6)) .nil))))) (.cons (.ret (.c (.bool false))) .nil) .nil) (.cons (.fr (.v 4) (.seq (.v 3)) (l0_law_is_way x)) (.cons (.fr (.tup (.cons (.v 7) (.cons (.v 8) .nil))) (.zip (.v 3) (.slc (.v 3) (.yes (.c (.int 1))) .no)) (l1_law_is_way x)) (.cons (.ret (.cmp .Is (.call (x n_law_down) (.cons (.v 0) (.cons (.v 1) (.cons (.idx (.v 3) (.neg (.c (.int 1)))) (.cons (.v 5) (.cons (.c (.int 0)) .nil))))) .nil []) (.c .none))) .nil)))))⟩
def f_law_otherwise (x : Nat → Nat) : Fn := ⟨2, 6, false, (.cons (.ife (.or (.cons (.not (.isi (.v 1) "list")) (.cons (.cmp .Eq (.v 1) (.lst false .nil)) .nil))) (.cons (.ret (.v 1)) .nil) .nil) (.cons (.asg (.v 2) (.call (x n_law_pick) (.cons (.v 0) (.cons (.blt .len (.cons (.v 1) .nil)) .nil)) .nil [])) (.cons (.asg (.v 3) (.call (x n_law_pick) (.cons (.v 0) (.cons (.c (.int 8)) .nil)) .nil [])) (.cons (.ife (.cmp .Eq (.v 3) (.c (.int 0))) (.cons (.ret (.bin .Add (.slc (.v 1) .no (.yes (.v 2))) (.slc (.v 1) (.yes (.bin .Add (.v 2) (.c (.int 1)))) .no))) .nil) .nil) (.cons (.ife (.cmp .Eq (.v 3) (.c (.int 1))) (.cons (.ret (.bin .Add (.slc (.v 1) .no (.yes (.bin .Add (.v 2) (.c (.int 1))))) (.slc (.v 1) (.yes (.v 2)) .no))) .nil) .nil) (.cons (.ife (.cmp .Eq (.v 3) (.c (.int 2))) (.cons (.ret (.bin .Add (.bin .Add (.slc (.v 1) .no (.yes (.v 2))) (.back (.slc (.v 1) (.yes (.v 2)) (.yes (.bin .Add (.v 2) (.c (.int 2))))))) (.slc (.v 1) (.yes (.bin .Add (.v 2) (.c (.int 2)))) .no))) .nil) .nil) (.cons (.ife (.cmp .Eq (.v 3) (.c (.int 3))) (.cons (.ret (.idx (.lst false (.cons (.slc (.v 1) .no (.yes (.neg (.c (.int 1))))) (.cons (.slc (.v 1) (.yes (.c (.int 1))) .no) (.cons (.blt .tup1 (.cons (.v 1) .nil)) (.cons (.slc (.v 1) .no (.yes (.c (.int 1)))) (.cons (.lst false (.cons (.v 1) .nil)) .nil)))))) (.call (x n_law_pick) (.cons (.v 0) (.cons (.c (.int 5)) .nil)) .nil []))) .nil) .nil) (.cons (.ife (.cmp .Eq (.v 3) (.c (.int 4))) (.cons (.ret (.bin .Add (.bin .Add (.slc (.v 1) .no (.yes (.v 2))) (.lst false (.cons (.idx (.lst false (.cons (.blt .lst1 (.cons (.idx (.v 1) (.v 2)) .nil)) (.cons (.c .none) (.cons (.c (.int 7)) (.cons (.bin .Add (.idx (.v 1) (.v 2)) (.tup (.cons (.c (.int 0)) .nil))) (.cons (.bin .Add (.idx (.v 1) (.v 2)) (.tup (.cons (.c (.int 1)) .nil))) .nil)))))) (.call (x n_law_pick) (.cons (.v 0) (.cons (.c (.int 5)) .nil)) .nil [])) .nil))) (.slc (.v 1) (.yes (.bin .Add (.v 2) (.c (.int 1)))) .no))) .nil) .nil) (.cons (.ife (.or (.cons (.not (.isi (.idx (.v 1) (.v 2)) "tuple")) (.cons (.cmp .Eq (.idx (.v 1) (.v 2)) (.tup .nil)) .nil))) (.cons (.ret (.bin .Add (.bin .Add (.slc (.v 1) .no (.yes (.v 2))) (.lst false (.cons (.tup (.cons (.c (.int 1)) .nil)) .nil))) (.slc (.v 1) (.yes (.bin .Add (.v 2) (.c (.int 1)))) .no))) .nil) .nil) (.cons (.asg (.v 4) (.call (x n_law_pick) (.cons (.v 0) (.cons (.blt .len (.cons (.idx (.v 1) (.v 2)) .nil)) .nil)) .nil [])) (.cons (.asg (.v 5) (.idx (.lst false (.cons (.c (.int 0)) (.cons (.idx (.idx (.v 1) (.v 2)) (.v 4)) (.cons (.c (.bool true)) (.cons (.c (.int 1)) (.cons (.neg (.c (.int 1))) .nil)))))) (.call (x n_law_pick) (.cons (.v 0) (.cons (.c (.int 5)) .nil)) .nil []))) (.cons (.ret (.bin .Add (.bin .Add (.slc (.v 1) .no (.yes (.v 2))) (.lst false (.cons (.bin .Add (.bin .Add (.slc (.idx (.v 1) (.v 2)) .no (.yes (.v 4))) (.tup (.cons (.v 5) .nil))) (.slc (.idx (.v 1) (.v 2)) (.yes (.bin .Add (.v 4) (.c (.int 1)))) .no)) .nil))) (.slc (.v 1) (.yes (.bin .Add (.v 2) (.c (.int 1)))) .no))) .nil))))))))))))⟩
-- following: expression walk.used
-- all_ways: statement raise TooMany(WAYS)
def c0_shared (x : Nat → Nat) : E := (.cmp .NotEq (.v 1) (.c (.int 0)))
def w1_shared (x : Nat → Nat) : Ss := (.cons (.par 0 1 (.v 1) (.bin .Mod (.v 0) (.v 1))) .nil)
def f_shared (x : Nat → Nat) : Fn := ⟨2, 2, false, (.cons (.whl 1000000 (c0_shared x) (w1_shared x)) (.cons (.ret (.v 0)) .nil))⟩
def f_added (x : Nat → Nat) : Fn := ⟨2, 5, false, (.cons (.asg (.v 2) (.bin .Add (.bin .Mult (.idx (.v 0) (.c (.int 0))) (.idx (.v 1) (.c (.int 1)))) (.bin .Mult (.idx (.v 1) (.c (.int 0))) (.idx (.v 0) (.c (.int 1)))))) (.cons (.asg (.v 3) (.bin .Mult (.idx (.v 0) (.c (.int 1))) (.idx (.v 1) (.c (.int 1))))) (.cons (.asg (.v 4) (.call (x n_shared) (.cons (.v 2) (.cons (.v 3) .nil)) .nil [])) (.cons (.ret (.tup (.cons (.bin .FloorDiv (.v 2) (.v 4)) (.cons (.bin .FloorDiv (.v 3) (.v 4)) .nil)))) .nil))))⟩
-- tables: empty dict
-- odds: arguments of odds
-- verdicts: arguments of verdicts
-- verdicts_K: arguments of verdicts
-- first_ways: arguments of first_ways
-- first_ways_K: arguments of first_ways
def c0_law_gcd (x : Nat → Nat) : E := (.cmp .NotEq (.v 1) (.c (.int 0)))
def w1_law_gcd (x : Nat → Nat) : Ss := (.cons (.par 0 1 (.v 1) (.bin .Mod (.v 0) (.v 1))) .nil)
def f_law_gcd (x : Nat → Nat) : Fn := ⟨2, 2, false, (.cons (.whl 1000000 (c0_law_gcd x) (w1_law_gcd x)) (.cons (.ret (.v 0)) .nil))⟩
def f_law_frac (x : Nat → Nat) : Fn := ⟨2, 3, false, (.cons (.asg (.v 2) (.call (x n_law_gcd) (.cons (.v 0) (.cons (.v 1) .nil)) .nil [])) (.cons (.ret (.tup (.cons (.bin .FloorDiv (.v 0) (.v 2)) (.cons (.bin .FloorDiv (.v 1) (.v 2)) .nil)))) .nil))⟩
def f_law_sum (x : Nat → Nat) : Fn := ⟨2, 2, false, (.cons (.ret (.call (x n_law_frac) (.cons (.bin .Add (.bin .Mult (.idx (.v 0) (.c (.int 0))) (.idx (.v 1) (.c (.int 1)))) (.bin .Mult (.idx (.v 1) (.c (.int 0))) (.idx (.v 0) (.c (.int 1))))) (.cons (.bin .Mult (.idx (.v 0) (.c (.int 1))) (.idx (.v 1) (.c (.int 1)))) .nil)) .nil [])) .nil)⟩
-- law_ways: expression sorted(range(x[1], x[2] + 1), key=lambda number: (abs(number), 0 - number))
def l0_law_all_ways (x : Nat → Nat) : Ss := (.cons (.asg (.v 10) (.ite (.cmp .Is (.v 7) (.c .none)) (.c .none) (.bin .Add (.v 4) (.tup (.cons (.v 7) .nil))))) (.cons (.app (.v 3) (.tup (.cons (.v 10) (.cons (.bin .Add (.v 5) (.v 8)) (.cons (.bin .Mult (.v 6) (.v 9)) .nil))))) .nil))
def l1_law_all_ways (x : Nat → Nat) : Ss := (.cons (.ife (.cmp .Is (.v 4) (.c .none)) (.cons (.app (.v 3) (.tup (.cons (.v 4) (.cons (.v 5) (.cons (.v 6) .nil))))) (.cons .cont .nil)) .nil) (.cons (.fr (.tup (.cons (.v 7) (.cons (.v 8) (.cons (.v 9) .nil)))) (.seq (.call (x n_law_ways) (.cons (.v 2) .nil) .nil [])) (l0_law_all_ways x)) .nil))
def l2_law_all_ways (x : Nat → Nat) : Ss := (.cons (.asg (.v 3) (.lst true .nil)) (.cons (.fr (.tup (.cons (.v 4) (.cons (.v 5) (.cons (.v 6) .nil)))) (.seq (.v 1)) (l1_law_all_ways x)) (.cons (.asg (.v 1) (.v 3)) .nil)))
def f_law_all_ways (x : Nat → Nat) : Fn := ⟨1, 11, false, (.cons (.asg (.v 1) (.lst false (.cons (.tup (.cons (.tup .nil) (.cons (.tup .nil) (.cons (.c (.int 1)) .nil)))) .nil))) (.cons (.fr (.v 2) (.seq (.v 0)) (l2_law_all_ways x)) (.cons (.ret (.v 1)) .nil)))⟩
def f_law_maker_v3 (x : Nat → Nat) : Fn := ⟨3, 7, false, (.cons (.asg (.v 3) (.call (x n_law_pick) (.cons (.v 0) (.cons (.c (.int 6)) .nil)) .nil [])) (.cons (.ife (.cmp .Eq (.v 1) (.c (.str "row"))) (.cons (.asg (.v 4) (.call (x n_law_pick) (.cons (.v 0) (.cons (.c (.int 2)) .nil)) .nil [])) (.cons (.asg (.v 5) (.idx (.lst false (.cons (.call (x n_law_maker_v3) (.cons (.v 0) (.cons (.c (.str "number")) (.cons (.bin .Sub (.v 2) (.c (.int 1))) .nil))) .nil []) (.cons (.tup (.cons (.c (.str "truth")) .nil)) .nil))) (.blt .int1 (.cons (.cmp .Eq (.call (x n_law_pick) (.cons (.v 0) (.cons (.c (.int 9)) .nil)) .nil []) (.c (.int 0))) .nil)))) (.cons (.ret (.tup (.cons (.c (.str "row")) (.cons (.v 5) (.cons (.v 4) (.cons (.bin .Add (.v 4) (.call (x n_law_pick) (.cons (.v 0) (.cons (.c (.int 3)) .nil)) .nil [])) .nil)))))) .nil))) .nil) (.cons (.ife (.cmp .Eq (.v 1) (.c (.str "truth"))) (.cons (.ret (.tup (.cons (.c (.str "truth")) .nil))) .nil) .nil) (.cons (.ife (.cmp .Eq (.v 3) (.c (.int 0))) (.cons (.ret (.tup (.cons (.c (.str "just")) (.cons (.bin .Sub (.call (x n_law_pick) (.cons (.v 0) (.cons (.c (.int 7)) .nil)) .nil []) (.c (.int 3))) .nil)))) .nil) .nil) (.cons (.ife (.and (.cons (.cmp .Eq (.v 3) (.c (.int 1))) (.cons (.cmp .Gt (.v 2) (.c (.int 1))) .nil))) (.cons (.ret (.tup (.cons (.c (.str "one")) (.cons (.blt .tup1 (.cons (.comp false (.v 6) (.rng1 (.bin .Add (.c (.int 1)) (.call (x n_law_pick) (.cons (.v 0) (.cons (.c (.int 2)) .nil)) .nil []))) .nil (.call (x n_law_maker_v3) (.cons (.v 0) (.cons (.c (.str "number")) (.cons (.bin .Sub (.v 2) (.c (.int 1))) .nil))) .nil [])) .nil)) .nil)))) .nil) .nil) (.cons (.asg (.v 4) (.bin .Sub (.call (x n_law_pick) (.cons (.v 0) (.cons (.c (.int 5)) .nil)) .nil []) (.c (.int 3)))) (.cons (.ret (.tup (.cons (.c (.str "whole")) (.cons (.v 4) (.cons (.bin .Add (.v 4) (.call (x n_law_pick) (.cons (.v 0) (.cons (.c (.int 4)) .nil)) .nil [])) .nil))))) .nil)))))))⟩
-- law_tables: empty dict
def f_law_book_v2 (x : Nat → Nat) : Fn := ⟨2, 5, false, (.cons (.asg (.v 2) (.tup (.cons (.c (.str "name")) (.cons (.c (.str "x")) .nil)))) (.cons (.asg (.v 3) (.tup (.cons (.c (.str "do")) (.cons (.c (.str "same")) (.cons (.tup (.cons (.tup (.cons (.c (.str "do")) (.cons (.c (.str "rest")) (.cons (.tup (.cons (.v 2) (.cons (.tup (.cons (.c (.str "number")) (.cons (.c (.int 2)) .nil))) .nil))) .nil)))) (.cons (.tup (.cons (.c (.str "number")) (.cons (.c (.int 0)) .nil))) .nil))) .nil))))) (.cons (.asg (.v 4) (.lst true (.cons (.tup (.cons (.c (.str "even")) (.cons (.tup (.cons (.c (.str "x")) .nil)) (.cons (.v 3) .nil)))) (.cons (.tup (.cons (.c (.str "low")) (.cons (.tup (.cons (.c (.str "x")) .nil)) (.cons (.tup (.cons (.c (.str "do")) (.cons (.c (.str "below")) (.cons (.tup (.cons (.v 2) (.cons (.tup (.cons (.c (.str "number")) (.cons (.v 0) .nil))) .nil))) .nil)))) .nil)))) .nil)))) (.cons (.app (.v 4) (.tup (.cons (.c (.str "ok")) (.cons (.tup (.cons (.c (.str "x")) .nil)) (.cons (.tup (.cons (.c (.str "do")) (.cons (.c (.str "below")) (.cons (.tup (.cons (.v 2) (.cons (.tup (.cons (.c (.str "number")) (.cons (.v 1) .nil))) .nil))) .nil)))) .nil))))) (.cons (.ret (.blt .tup1 (.cons (.bin .Add (.v 4) (.lst false (.cons (.tup (.cons (.c (.str "sum")) (.cons (.tup (.cons (.c (.str "x")) (.cons (.c (.str "y")) .nil))) (.cons (.tup (.cons (.c (.str "do")) (.cons (.c (.str "plus")) (.cons (.tup (.cons (.v 2) (.cons (.tup (.cons (.c (.str "name")) (.cons (.c (.str "y")) .nil))) .nil))) .nil)))) .nil)))) .nil))) .nil))) .nil)))))⟩
def f_law_share (x : Nat → Nat) : Fn := ⟨2, 3, false, (.cons (.ret (.blt .len (.cons (.comp false (.v 2) (.seq (.v 0)) (.cons (.cmp .Lt (.v 2) (.v 1)) .nil) (.v 2)) .nil))) .nil)⟩
def l0_of_number (x : Nat → Nat) : Ss := (.cons (.ife (.and (.cons (.call (x n_is_from) (.cons (.v 2) (.cons (.neg (.g (x n_SMALL))) (.cons (.g (x n_SMALL)) .nil))) .nil []) (.cons (.cmp .NotEq (.v 2) (.v 0)) (.cons (.cmp .NotIn (.v 2) (.v 1)) .nil)))) (.cons (.app (.v 1) (.v 2)) .nil) .nil) .nil)
def f_of_number (x : Nat → Nat) : Fn := ⟨1, 3, false, (.cons (.asg (.v 1) (.lst true .nil)) (.cons (.fr (.v 2) (.seq (.tup (.cons (.bin .Add (.v 0) (.c (.int 1))) (.cons (.bin .Sub (.v 0) (.c (.int 1))) (.cons (.c (.int 0)) .nil))))) (l0_of_number x)) (.cons (.ret (.comp false (.v 2) (.seq (.v 1)) .nil (.tup (.cons (.c (.str "number")) (.cons (.v 2) .nil))))) .nil)))⟩
def f_of_word (x : Nat → Nat) : Fn := ⟨1, 5, false, (.cons (.asg (.tup (.cons (.v 1) (.cons (.v 2) (.cons (.v 3) .nil)))) (.v 0)) (.cons (.ife (.cmp .Eq (.v 2) (.c (.str "below"))) (.cons (.ret (.ite (.cmp .NotEq (.idx (.v 3) (.c (.int 0))) (.idx (.v 3) (.c (.int 1)))) (.lst false (.cons (.tup (.cons (.v 1) (.cons (.v 2) (.cons (.back (.v 3)) .nil)))) .nil)) (.lst false .nil))) .nil) .nil) (.cons (.ife (.cmp .Eq (.v 2) (.c (.str "not"))) (.cons (.ret (.lst false (.cons (.idx (.v 3) (.c (.int 0))) .nil))) .nil) .nil) (.cons (.ret (.comp false (.v 4) (.seq (.bin .Add (.get2 (.g (x n_OTHERS)) (.v 2) (.tup .nil)) (.get2 (.g (x n_TURNED)) (.v 2) (.tup .nil)))) .nil (.tup (.cons (.v 1) (.cons (.v 4) (.cons (.v 3) .nil)))))) .nil))))⟩
-- others_of: target *parts
def l0_bends (x : Nat → Nat) : Ss := (.cons (.ext (.v 1) (.comp false (.v 5) (.rng1 (.blt .len (.cons (.call (x n_others_of) (.cons (.v 4) .nil) .nil []) .nil))) .nil (.tup (.cons (.idx (.v 2) (.c (.int 0))) (.cons (.v 3) (.cons (.v 5) .nil)))))) .nil)
def l1_bends (x : Nat → Nat) : Ss := (.cons (.fr (.tup (.cons (.v 3) (.cons (.v 4) .nil))) (.enum (.call (x n_spots) (.cons (.v 2) .nil) .nil [])) (l0_bends x)) .nil)
def f_bends (x : Nat → Nat) : Fn := ⟨1, 6, false, (.cons (.asg (.v 1) (.lst true .nil)) (.cons (.fr (.v 2) (.seq (.v 0)) (l1_bends x)) (.cons (.ret (.frz (.v 1))) .nil)))⟩
-- replaced: target *parts
-- bent: statement raise NoBend('no bend')
-- odds_apart: arguments of odds_apart
-- law_told: statement try:     return deed() except TooMany as e:     return ('many', e.many) except M
def f_law_of_size (x : Nat → Nat) : Fn := ⟨1, 1, false, (.cons (.ret (.ite (.cmp .Gt (.v 0) (.c (.int 500))) (.tup (.cons (.c (.str "whole")) (.cons (.bin .Sub (.c (.int 1001)) (.v 0)) (.cons (.c (.int 1000)) .nil)))) (.tup (.cons (.c (.str "whole")) (.cons (.bin .Sub (.c (.int 3)) (.v 0)) (.cons (.c (.int 2)) .nil)))))) .nil)⟩
def c0_raised (x : Nat → Nat) : E := (.cmp .Gt (.v 1) (.c (.int 0)))
def w1_raised (x : Nat → Nat) : Ss := (.cons (.ife (.cmp .Eq (.bin .Mod (.v 1) (.c (.int 2))) (.c (.int 1))) (.cons (.aug 2 .Mult (.v 0)) .nil) .nil) (.cons (.aug 0 .Mult (.v 0)) (.cons (.aug 1 .FloorDiv (.c (.int 2))) .nil)))
def f_raised (x : Nat → Nat) : Fn := ⟨2, 3, false, (.cons (.asg (.v 2) (.c (.int 1))) (.cons (.whl 1000000 (c0_raised x) (w1_raised x)) (.cons (.ret (.v 2)) .nil)))⟩
def f_is_enough (x : Nat → Nat) : Fn := ⟨4, 4, false, (.cons (.ret (.cmp .LtE (.bin .Mult (.call (x n_raised) (.cons (.v 0) (.cons (.v 2) .nil)) .nil []) (.idx (.v 3) (.c (.int 1)))) (.bin .Mult (.idx (.v 3) (.c (.int 0))) (.call (x n_raised) (.cons (.v 1) (.cons (.v 2) .nil)) .nil [])))) .nil)⟩
def c0_tries_for (x : Nat → Nat) : E := (.not (.call (x n_is_enough) (.cons (.v 2) (.cons (.idx (.v 0) (.c (.int 1))) (.cons (.v 3) (.cons (.v 1) .nil)))) .nil []))
def w1_tries_for (x : Nat → Nat) : Ss := (.cons (.aug 3 .Mult (.c (.int 2))) .nil)
def c2_tries_for (x : Nat → Nat) : E := (.cmp .Gt (.bin .Sub (.v 3) (.v 4)) (.c (.int 1)))
def w3_tries_for (x : Nat → Nat) : Ss := (.cons (.asg (.v 5) (.bin .FloorDiv (.bin .Add (.v 4) (.v 3)) (.c (.int 2)))) (.cons (.ife (.call (x n_is_enough) (.cons (.v 2) (.cons (.idx (.v 0) (.c (.int 1))) (.cons (.v 5) (.cons (.v 1) .nil)))) .nil []) (.cons (.asg (.v 3) (.v 5)) .nil) (.cons (.asg (.v 4) (.v 5)) .nil)) .nil))
def f_tries_for (x : Nat → Nat) : Fn := ⟨2, 6, false, (.cons (.ife (.cmp .Eq (.idx (.v 0) (.c (.int 0))) (.c (.int 0))) (.cons (.ret (.c .none)) .nil) .nil) (.cons (.asg (.v 2) (.bin .Sub (.idx (.v 0) (.c (.int 1))) (.idx (.v 0) (.c (.int 0))))) (.cons (.asg (.v 3) (.c (.int 1))) (.cons (.whl 1000000 (c0_tries_for x) (w1_tries_for x)) (.cons (.asg (.v 4) (.bin .FloorDiv (.v 3) (.c (.int 2)))) (.cons (.whl 1000000 (c2_tries_for x) (w3_tries_for x)) (.cons (.ret (.v 3)) .nil)))))))⟩
def c0_law_power (x : Nat → Nat) : E := (.cmp .Gt (.v 1) (.c (.int 0)))
def w1_law_power (x : Nat → Nat) : Ss := (.cons (.ife (.cmp .Eq (.bin .Mod (.v 1) (.c (.int 2))) (.c (.int 1))) (.cons (.asg (.v 2) (.bin .Mult (.v 2) (.v 0))) .nil) .nil) (.cons (.asg (.v 0) (.bin .Mult (.v 0) (.v 0))) (.cons (.asg (.v 1) (.bin .FloorDiv (.v 1) (.c (.int 2)))) .nil)))
def f_law_power (x : Nat → Nat) : Fn := ⟨2, 3, false, (.cons (.asg (.v 2) (.c (.int 1))) (.cons (.whl 1000000 (c0_law_power x) (w1_law_power x)) (.cons (.ret (.v 2)) .nil)))⟩
def f_law_enough (x : Nat → Nat) : Fn := ⟨3, 3, false, (.cons (.ret (.cmp .LtE (.bin .Mult (.call (x n_law_power) (.cons (.bin .Sub (.idx (.v 0) (.c (.int 1))) (.idx (.v 0) (.c (.int 0)))) (.cons (.v 2) .nil)) .nil []) (.idx (.v 1) (.c (.int 1)))) (.bin .Mult (.idx (.v 1) (.c (.int 0))) (.call (x n_law_power) (.cons (.idx (.v 0) (.c (.int 1))) (.cons (.v 2) .nil)) .nil [])))) .nil)⟩
def f_law_share_v2 (x : Nat → Nat) : Fn := ⟨2, 3, false, (.cons (.asg (.v 2) (.bin .Add (.c (.int 2)) (.call (x n_law_pick) (.cons (.v 0) (.cons (.idx (.lst false (.cons (.c (.int 8)) (.cons (.bin .Sub (.v 1) (.c (.int 1))) .nil))) (.call (x n_law_pick) (.cons (.v 0) (.cons (.c (.int 2)) .nil)) .nil [])) .nil)) .nil []))) (.cons (.ret (.call (x n_law_frac) (.cons (.bin .Add (.c (.int 1)) (.call (x n_law_pick) (.cons (.v 0) (.cons (.idx (.lst false (.cons (.bin .Sub (.v 2) (.c (.int 1))) (.cons (.c (.int 1)) .nil))) (.call (x n_law_pick) (.cons (.v 0) (.cons (.c (.int 2)) .nil)) .nil [])) .nil)) .nil [])) (.cons (.v 2) .nil)) .nil [])) .nil))⟩
def f_law_half (x : Nat → Nat) : Fn := ⟨2, 3, false, (.cons (.asg (.v 2) (.call (x n_law_sum) (.cons (.v 0) (.cons (.v 1) .nil)) .nil [])) (.cons (.ret (.call (x n_law_frac) (.cons (.idx (.v 2) (.c (.int 0))) (.cons (.bin .Mult (.c (.int 2)) (.idx (.v 2) (.c (.int 1)))) .nil)) .nil [])) .nil))⟩
def f_law_few (x : Nat → Nat) : Fn := ⟨1, 1, false, (.cons (.ret (.cmp .LtE (.blt .len (.cons (.call (x n_law_all_ways) (.cons (.idx (.v 0) (.c (.int 2))) .nil) .nil []) .nil)) (.c (.int 60)))) .nil)⟩
def c0_law_trimmed_v2 (x : Nat → Nat) : E := (.and (.cons (.cmp .NotEq (.v 0) (.tup .nil)) (.cons (.cmp .Eq (.idx (.v 0) (.neg (.c (.int 1)))) (.c (.int 0))) .nil)))
def w1_law_trimmed_v2 (x : Nat → Nat) : Ss := (.cons (.asg (.v 0) (.slc (.v 0) .no (.yes (.neg (.c (.int 1)))))) .nil)
def f_law_trimmed_v2 (x : Nat → Nat) : Fn := ⟨1, 1, false, (.cons (.whl 1000000 (c0_law_trimmed_v2 x) (w1_law_trimmed_v2 x)) (.cons (.ret (.v 0)) .nil))⟩
def f_law_two (x : Nat → Nat) : Fn := ⟨3, 3, false, (.cons (.ret (.tup (.cons (.c (.str "do")) (.cons (.v 0) (.cons (.tup (.cons (.v 1) (.cons (.v 2) .nil))) .nil))))) .nil)⟩
def f_law_book_v3 (x : Nat → Nat) : Fn := ⟨0, 15, false, (.cons (.par 9 10 (.tup (.cons (.c (.str "name")) (.cons (.c (.str "x")) .nil))) (.tup (.cons (.c (.str "name")) (.cons (.c (.str "y")) .nil)))) (.cons (.asg (.v 0) (.call (x n_law_two) (.cons (.c (.str "same")) (.cons (.v 9) (.cons (.tup (.cons (.c (.str "row")) (.cons (.tup .nil) .nil))) .nil))) .nil [])) (.cons (.par 11 12 (.tup (.cons (.c (.str "do")) (.cons (.c (.str "first")) (.cons (.tup (.cons (.v 9) .nil)) .nil)))) (.tup (.cons (.c (.str "do")) (.cons (.c (.str "others")) (.cons (.tup (.cons (.v 9) .nil)) .nil))))) (.cons (.par 13 14 (.tup (.cons (.c (.str "number")) (.cons (.c (.int 0)) .nil))) (.tup (.cons (.c (.str "number")) (.cons (.c (.int 1)) .nil)))) (.cons (.asg (.v 1) (.call (x n_law_two) (.cons (.c (.str "same")) (.cons (.call (x n_law_two) (.cons (.c (.str "rest")) (.cons (.v 11) (.cons (.tup (.cons (.c (.str "number")) (.cons (.c (.int 2)) .nil))) .nil))) .nil []) (.cons (.v 13) .nil))) .nil [])) (.cons (.asg (.v 2) (.tup (.cons (.c (.str "call")) (.cons (.c (.str "even")) (.cons (.tup (.cons (.v 12) .nil)) .nil))))) (.cons (.asg (.v 3) (.lst true (.cons (.tup (.cons (.c (.str "even")) (.cons (.tup (.cons (.c (.str "x")) .nil)) (.cons (.tup (.cons (.c (.str "if")) (.cons (.v 0) (.cons (.tup (.cons (.c (.str "row")) (.cons (.tup .nil) .nil))) (.cons (.tup (.cons (.c (.str "if")) (.cons (.v 1) (.cons (.call (x n_law_two) (.cons (.c (.str "put")) (.cons (.v 11) (.cons (.v 2) .nil))) .nil []) (.cons (.v 2) .nil))))) .nil))))) .nil)))) .nil))) (.cons (.asg (.v 4) (.tup (.cons (.c (.str "call")) (.cons (.c (.str "gcd")) (.cons (.tup (.cons (.v 10) (.cons (.call (x n_law_two) (.cons (.c (.str "rest")) (.cons (.v 9) (.cons (.v 10) .nil))) .nil []) .nil))) .nil))))) (.cons (.app (.v 3) (.tup (.cons (.c (.str "gcd")) (.cons (.tup (.cons (.c (.str "x")) (.cons (.c (.str "y")) .nil))) (.cons (.tup (.cons (.c (.str "if")) (.cons (.call (x n_law_two) (.cons (.c (.str "same")) (.cons (.v 10) (.cons (.v 13) .nil))) .nil []) (.cons (.v 9) (.cons (.v 4) .nil))))) .nil))))) (.cons (.asg (.v 5) (.call (x n_law_two) (.cons (.c (.str "or")) (.cons (.call (x n_law_two) (.cons (.c (.str "same")) (.cons (.v 11) (.cons (.v 10) .nil))) .nil []) (.cons (.tup (.cons (.c (.str "call")) (.cons (.c (.str "has")) (.cons (.tup (.cons (.v 12) (.cons (.v 10) .nil))) .nil)))) .nil))) .nil [])) (.cons (.app (.v 3) (.tup (.cons (.c (.str "has")) (.cons (.tup (.cons (.c (.str "x")) (.cons (.c (.str "y")) .nil))) (.cons (.tup (.cons (.c (.str "if")) (.cons (.v 0) (.cons (.tup (.cons (.c (.str "truth")) (.cons (.c (.bool false)) .nil))) (.cons (.v 5) .nil))))) .nil))))) (.cons (.asg (.v 6) (.tup (.cons (.c (.str "call")) (.cons (.c (.str "power")) (.cons (.tup (.cons (.v 9) (.cons (.call (x n_law_two) (.cons (.c (.str "minus")) (.cons (.v 10) (.cons (.v 14) .nil))) .nil []) .nil))) .nil))))) (.cons (.app (.v 3) (.tup (.cons (.c (.str "power")) (.cons (.tup (.cons (.c (.str "x")) (.cons (.c (.str "y")) .nil))) (.cons (.tup (.cons (.c (.str "if")) (.cons (.call (x n_law_two) (.cons (.c (.str "below")) (.cons (.v 10) (.cons (.v 14) .nil))) .nil []) (.cons (.v 14) (.cons (.call (x n_law_two) (.cons (.c (.str "times")) (.cons (.v 9) (.cons (.v 6) .nil))) .nil []) .nil))))) .nil))))) (.cons (.app (.v 3) (.tup (.cons (.c (.str "sum")) (.cons (.tup (.cons (.c (.str "x")) .nil)) (.cons (.tup (.cons (.c (.str "if")) (.cons (.v 0) (.cons (.v 13) (.cons (.call (x n_law_two) (.cons (.c (.str "plus")) (.cons (.v 11) (.cons (.tup (.cons (.c (.str "call")) (.cons (.c (.str "sum")) (.cons (.tup (.cons (.v 12) .nil)) .nil)))) .nil))) .nil []) .nil))))) .nil))))) (.cons (.asg (.v 7) (.tup (.cons (.c (.str "call")) (.cons (.c (.str "turn")) (.cons (.tup (.cons (.v 12) (.cons (.call (x n_law_two) (.cons (.c (.str "put")) (.cons (.v 11) (.cons (.v 10) .nil))) .nil []) .nil))) .nil))))) (.cons (.app (.v 3) (.tup (.cons (.c (.str "turn")) (.cons (.tup (.cons (.c (.str "x")) (.cons (.c (.str "y")) .nil))) (.cons (.tup (.cons (.c (.str "if")) (.cons (.v 0) (.cons (.v 10) (.cons (.v 7) .nil))))) .nil))))) (.cons (.asg (.v 8) (.call (x n_law_two) (.cons (.c (.str "times")) (.cons (.call (x n_law_two) (.cons (.c (.str "over")) (.cons (.v 9) (.cons (.v 10) .nil))) .nil []) (.cons (.v 10) .nil))) .nil [])) (.cons (.app (.v 3) (.tup (.cons (.c (.str "parts")) (.cons (.tup (.cons (.c (.str "x")) (.cons (.c (.str "y")) .nil))) (.cons (.call (x n_law_two) (.cons (.c (.str "plus")) (.cons (.v 8) (.cons (.call (x n_law_two) (.cons (.c (.str "rest")) (.cons (.v 9) (.cons (.v 10) .nil))) .nil []) .nil))) .nil []) .nil))))) (.cons (.ret (.blt .tup1 (.cons (.srt (.v 3)) .nil))) .nil)))))))))))))))))))⟩
def l0_law_share_v3 (x : Nat → Nat) : Ss := (.cons (.asg (.v 8) (.call (x n_tell) (.cons (.v 0) (.cons (.v 1) (.cons (.tup (.cons (.bin .FloorDiv (.bin .FloorDiv (.v 7) (.v 6)) (.v 6)) (.cons (.bin .Mod (.bin .FloorDiv (.v 7) (.v 6)) (.v 6)) (.cons (.bin .Mod (.v 7) (.v 6)) .nil)))) .nil))) .nil [])) (.cons (.asg (.v 5) (.bin .Add (.v 5) (.blt .int1 (.cons (.cmp .NotEq (.idx (.call (x n_tell) (.cons (.v 4) (.cons (.v 1) (.cons (.idx (.v 8) (.c (.int 1))) .nil))) .nil []) (.c (.int 0))) (.idx (.v 8) (.c (.int 0)))) .nil)))) .nil))
def f_law_share_v3 (x : Nat → Nat) : Fn := ⟨4, 9, false, (.cons (.asg (.v 4) (.call (x n_bent) (.cons (.v 0) (.cons (.v 2) .nil)) .nil [])) (.cons (.asg (.v 5) (.c (.int 0))) (.cons (.asg (.v 6) (.bin .Add (.v 3) (.c (.int 1)))) (.cons (.fr (.v 7) (.rng1 (.bin .Mult (.bin .Mult (.v 6) (.v 6)) (.v 6))) (l0_law_share_v3 x)) (.cons (.ret (.call (x n_law_frac) (.cons (.v 5) (.cons (.bin .Mult (.bin .Mult (.v 6) (.v 6)) (.v 6)) .nil)) .nil [])) .nil)))))⟩
-- functions_in: expression {name: True for part in within(maker) for name in functions_in(part)}
-- functions_of: expression {name: True for maker in trial[2] for name in functions_in(maker)}
-- told_of: call tell(program, trial, choices, world=world)
-- parted: expression {function[0]: function for function in one}
-- touched: expression {spot[0]: True for spot in told_of(program, job)[3]}
def f_must_run (x : Nat → Nat) : Fn := ⟨3, 7, false, (.cons (.asg (.v 3) (.call (x n_parted) (.cons (.v 0) (.cons (.v 1) .nil)) .nil [])) (.cons (.ret (.comp false (.tup (.cons (.v 4) (.cons (.v 5) .nil))) (.enum (.v 2)) (.cons (.blt .any1 (.cons (.comp false (.v 6) (.seq (.call (x n_touched) (.cons (.v 0) (.cons (.v 5) .nil)) .nil [])) .nil (.cmp .In (.v 6) (.v 3))) .nil)) .nil) (.v 4))) .nil))⟩
def f_are_trials (x : Nat → Nat) : Fn := ⟨2, 4, false, (.cons (.ife (.or (.cons (.not (.isi (.v 1) "tuple")) (.cons (.cmp .Gt (.blt .len (.cons (.v 1) .nil)) (.g (x n_MOST_TRIALS))) .nil))) (.cons (.ret (.c (.bool false))) .nil) .nil) (.cons (.ife (.not (.blt .all1 (.cons (.comp false (.v 2) (.seq (.v 1)) .nil (.call (x n_is_trial) (.cons (.v 0) (.cons (.v 2) .nil)) .nil [])) .nil))) (.cons (.ret (.c (.bool false))) .nil) .nil) (.cons (.ret (.blt .all1 (.cons (.comp false (.tup (.cons (.v 2) (.cons (.v 3) .nil))) (.zip (.v 1) (.slc (.v 1) (.yes (.c (.int 1))) .no)) .nil (.cmp .Lt (.idx (.v 2) (.c (.int 0))) (.idx (.v 3) (.c (.int 0))))) .nil))) .nil)))⟩
def l0_told_apart (x : Nat → Nat) : Ss := (.cons (.asg (.v 5) (.call (x n_bent) (.cons (.v 0) (.cons (.v 4) .nil)) .nil [])) (.cons (.asg (.v 6) (.comp false (.tup (.cons (.v 8) (.cons (.v 7) .nil))) (.enum (.v 1)) (.cons (.cmp .NotEq (.idx (.call (x n_told_of) (.cons (.v 5) (.cons (.v 7) .nil)) .nil []) (.c (.int 0))) (.idx (.v 2) (.v 8))) .nil) (.v 8))) (.cons (.ife (.cmp .NotEq (.v 6) (.lst false .nil)) (.cons (.app (.v 3) (.tup (.cons (.v 4) (.cons (.v 6) .nil)))) .nil) .nil) .nil)))
def f_told_apart (x : Nat → Nat) : Fn := ⟨2, 9, false, (.cons (.asg (.v 2) (.comp false (.v 7) (.seq (.v 1)) .nil (.idx (.call (x n_told_of) (.cons (.v 0) (.cons (.v 7) .nil)) .nil []) (.c (.int 0))))) (.cons (.asg (.v 3) (.lst true .nil)) (.cons (.fr (.v 4) (.seq (.call (x n_bends) (.cons (.v 0) .nil) .nil [])) (l0_told_apart x)) (.cons (.ret (.frz (.v 3))) .nil))))⟩
def l0_law_functions_of (x : Nat → Nat) : Ss := (.cons (.asg (.v 1) (.bin .Add (.v 1) (.call (x n_law_functions_of) (.cons (.v 4) .nil) .nil []))) .nil)
def l1_law_functions_of (x : Nat → Nat) : Ss := (.cons (.fr (.v 4) (.seq (.v 3)) (l0_law_functions_of x)) .nil)
def f_law_functions_of (x : Nat → Nat) : Fn := ⟨1, 5, false, (.cons (.asg (.v 1) (.ite (.cmp .In (.idx (.v 0) (.c (.int 0))) (.tup (.cons (.c (.str "by")) (.cons (.c (.str "where")) .nil)))) (.lst false (.cons (.idx (.v 0) (.c (.int 1))) .nil)) (.lst false .nil))) (.cons (.asg (.v 2) (.get2 (.dct false (.cons (.c (.str "one")) (.cons (.slc (.v 0) (.yes (.c (.int 1))) (.yes (.c (.int 2)))) (.cons (.c (.str "by")) (.cons (.slc (.v 0) (.yes (.c (.int 2))) .no) (.cons (.c (.str "where")) (.cons (.tup (.cons (.slc (.v 0) (.yes (.c (.int 2))) .no) .nil)) (.cons (.c (.str "row")) (.cons (.tup (.cons (.slc (.v 0) (.yes (.c (.int 1))) (.yes (.c (.int 2)))) .nil)) .nil))))))))) (.idx (.v 0) (.c (.int 0))) (.tup .nil))) (.cons (.fr (.v 3) (.seq (.v 2)) (l1_law_functions_of x)) (.cons (.ret (.v 1)) .nil))))⟩
-- law_due: call tell(code, trial, choices, world=around)
-- law_verdicts: call tell(code, trial, choices, world=around)
-- law_right_v2: expression suite.put([one for one in other if one[0] == bend[0]][0])
def l0_places_of (x : Nat → Nat) : Ss := (.cons (.app (.v 2) (.bin .Add (.lst false (.cons (.v 3) .nil)) (.comp false (.v 5) (.seq (.v 4)) .nil (.bin .Add (.bin .Add (.v 3) (.c (.int 1))) (.v 5))))) .nil)
def l1_places_of (x : Nat → Nat) : Ss := (.cons (.fr (.v 4) (.seq (.call (x n_places_of) (.cons (.bin .Sub (.bin .Sub (.v 0) (.v 3)) (.c (.int 1))) (.cons (.bin .Sub (.v 1) (.c (.int 1))) .nil)) .nil [])) (l0_places_of x)) .nil)
def f_places_of (x : Nat → Nat) : Fn := ⟨2, 6, false, (.cons (.ife (.cmp .Eq (.v 1) (.c (.int 0))) (.cons (.ret (.lst false (.cons (.lst false .nil) .nil))) .nil) .nil) (.cons (.asg (.v 2) (.lst true .nil)) (.cons (.fr (.v 3) (.rng1 (.v 0)) (l1_places_of x)) (.cons (.ret (.frz (.v 2))) .nil))))⟩
-- fewest: statement raise TooMany(MOST_JOBS)
-- living: expression {bend: True for bend, places in told_apart(program, jobs)}
-- fewest_telling: statement raise TooMany(MOST_JOBS)
def l0_law_ways_v2 (x : Nat → Nat) : Ss := (.cons (.asg (.v 3) (.bin .Add (.v 3) (.comp false (.v 8) (.rng1 (.blt .len (.cons (.v 1) .nil))) .nil (.tup (.cons (.v 4) (.cons (.v 8) .nil)))))) .nil)
def f_law_ways_v2 (x : Nat → Nat) : Fn := ⟨1, 9, false, (.cons (.par 5 6 (.bin .Sub (.call (x n_law_pick_v2) (.cons (.v 0) (.cons (.c (.int 5)) .nil)) .nil []) (.c (.int 3))) (.bin .Add (.c (.int 3)) (.call (x n_law_pick_v2) (.cons (.v 0) (.cons (.c (.int 2)) .nil)) .nil []))) (.cons (.asg (.v 1) (.slc (.lst false (.cons (.tup .nil) (.cons (.tup (.cons (.c (.int 0)) .nil)) (.cons (.tup (.cons (.c (.int 1)) (.cons (.c (.int 2)) .nil))) (.cons (.tup (.cons (.c (.int 3)) (.cons (.bin .Sub (.c (.int 0)) (.c (.int 1))) (.cons (.c (.int 2)) .nil)))) .nil))))) .no (.yes (.bin .Add (.c (.int 3)) (.bin .Mult (.blt .int1 (.cons (.cmp .Eq (.v 6) (.c (.int 3))) .nil)) (.call (x n_law_pick_v2) (.cons (.v 0) (.cons (.c (.int 2)) .nil)) .nil [])))))) (.cons (.asg (.v 2) (.tup (.cons (.c (.str "one")) (.cons (.blt .tup1 (.cons (.comp false (.v 7) (.seq (.v 1)) .nil (.tup (.cons (.c (.str "just")) (.cons (.v 7) .nil)))) .nil)) .nil)))) (.cons (.asg (.v 3) (.lst false .nil)) (.cons (.fr (.v 4) (.rng1 (.v 6)) (l0_law_ways_v2 x)) (.cons (.ret (.tup (.cons (.tup (.cons (.c (.str "tra")) (.cons (.c (.str "t")) (.cons (.tup (.cons (.tup (.cons (.c (.str "whole")) (.cons (.v 5) (.cons (.bin .Sub (.bin .Add (.v 5) (.v 6)) (.c (.int 1))) .nil)))) (.cons (.v 2) .nil))) .nil)))) (.cons (.v 3) .nil)))) .nil))))))⟩
def f_law_right_v3 (x : Nat → Nat) : Fn := ⟨5, 9, false, (.cons (.asg (.v 5) (.call (x n_odds_apart) (.cons (.v 0) (.cons (.v 1) (.cons (.v 2) .nil))) .nil [])) (.cons (.ife (.cmp .NotEq (.v 5) (.call (x n_law_frac) (.cons (.blt .len (.cons (.get2 (.v 3) (.v 2) (.lst false .nil)) .nil)) (.cons (.v 4) .nil)) .nil [])) (.cons (.ret (.c (.bool false))) .nil) .nil) (.cons (.par 7 8 (.idx (.call (x n_odds) (.cons (.v 0) (.cons (.v 1) .nil)) .nil []) (.c (.int 1))) (.idx (.call (x n_odds) (.cons (.call (x n_bent) (.cons (.v 0) (.cons (.v 2) .nil)) .nil []) (.cons (.v 1) .nil)) .nil []) (.c (.int 1)))) (.cons (.asg (.v 6) (.blt .abs (.cons (.bin .Sub (.bin .Mult (.idx (.v 7) (.c (.int 0))) (.idx (.v 8) (.c (.int 1)))) (.bin .Mult (.idx (.v 8) (.c (.int 0))) (.idx (.v 7) (.c (.int 1))))) .nil))) (.cons (.ret (.cmp .LtE (.bin .Mult (.v 6) (.idx (.v 5) (.c (.int 1)))) (.bin .Mult (.bin .Mult (.idx (.v 5) (.c (.int 0))) (.idx (.v 7) (.c (.int 1)))) (.idx (.v 8) (.c (.int 1)))))) .nil)))))⟩
def f_law_book_v4 (x : Nat → Nat) : Fn := ⟨1, 7, false, (.cons (.asg (.v 1) (.tup (.cons (.c (.str "name")) (.cons (.c (.str "x")) .nil)))) (.cons (.asg (.v 2) (.tup (.cons (.c (.str "do")) (.cons (.c (.str "minus")) (.cons (.tup (.cons (.v 1) (.cons (.tup (.cons (.c (.str "number")) (.cons (.c (.int 1)) .nil))) .nil))) .nil))))) (.cons (.asg (.v 3) (.tup (.cons (.c (.str "do")) (.cons (.c (.str "below")) (.cons (.tup (.cons (.v 1) (.cons (.tup (.cons (.c (.str "number")) (.cons (.c (.int 1)) .nil))) .nil))) .nil))))) (.cons (.asg (.v 4) (.tup (.cons (.c (.str "down")) (.cons (.tup (.cons (.c (.str "x")) .nil)) (.cons (.tup (.cons (.c (.str "if")) (.cons (.v 3) (.cons (.tup (.cons (.c (.str "number")) (.cons (.c (.int 0)) .nil))) (.cons (.tup (.cons (.c (.str "call")) (.cons (.c (.str "down")) (.cons (.tup (.cons (.v 2) .nil)) .nil)))) .nil))))) .nil))))) (.cons (.asg (.v 5) (.tup (.cons (.c (.str "deep")) (.cons (.tup (.cons (.c (.str "x")) .nil)) (.cons (.tup (.cons (.c (.str "do")) (.cons (.c (.str "same")) (.cons (.tup (.cons (.tup (.cons (.c (.str "call")) (.cons (.c (.str "down")) (.cons (.tup (.cons (.v 1) .nil)) .nil)))) (.cons (.tup (.cons (.c (.str "number")) (.cons (.c (.int 0)) .nil))) .nil))) .nil)))) .nil))))) (.cons (.asg (.v 6) (.tup (.cons (.c (.str "do")) (.cons (.c (.str "below")) (.cons (.tup (.cons (.tup (.cons (.c (.str "call")) (.cons (.c (.str "down")) (.cons (.tup (.cons (.tup (.cons (.c (.str "name")) (.cons (.c (.str "y")) .nil))) .nil)) .nil)))) (.cons (.tup (.cons (.c (.str "number")) (.cons (.v 0) .nil))) .nil))) .nil))))) (.cons (.ret (.tup (.cons (.v 5) (.cons (.v 4) (.cons (.tup (.cons (.c (.str "near")) (.cons (.tup (.cons (.c (.str "x")) (.cons (.c (.str "y")) .nil))) (.cons (.v 6) .nil)))) .nil))))) .nil)))))))⟩
def f_law_word (x : Nat → Nat) : Fn := ⟨1, 1, false, (.cons (.ret (.ite (.cmp .Lt (.v 0) (.c (.int 20))) (.tup (.cons (.c (.str "told")) (.cons (.c (.int 0)) .nil))) (.tup (.cons (.c (.str "fault")) (.cons (.c (.str "deep")) .nil))))) .nil)⟩
-- words_of: expression suite.verdict(number)
-- report: expression suite.jobs()
def f_law_bad_book_v2 (x : Nat → Nat) : Fn := ⟨1, 9, false, (.cons (.asg (.v 1) (.tup (.cons (.c (.str "name")) (.cons (.c (.str "x")) .nil)))) (.cons (.asg (.v 2) (.tup (.cons (.c (.str "do")) (.cons (.c (.str "plus")) (.cons (.tup (.cons (.tup (.cons (.c (.str "do")) (.cons (.c (.str "first")) (.cons (.tup (.cons (.v 1) .nil)) .nil)))) (.cons (.tup (.cons (.c (.str "call")) (.cons (.c (.str "sum")) (.cons (.tup (.cons (.tup (.cons (.c (.str "do")) (.cons (.c (.str "others")) (.cons (.tup (.cons (.v 1) .nil)) .nil)))) .nil)) .nil)))) .nil))) .nil))))) (.cons (.asg (.v 3) (.tup (.cons (.c (.str "if")) (.cons (.tup (.cons (.c (.str "do")) (.cons (.c (.str "same")) (.cons (.tup (.cons (.tup (.cons (.c (.str "do")) (.cons (.c (.str "long")) (.cons (.tup (.cons (.v 1) .nil)) .nil)))) (.cons (.tup (.cons (.c (.str "number")) (.cons (.c (.int 0)) .nil))) .nil))) .nil)))) (.cons (.tup (.cons (.c (.str "number")) (.cons (.c (.int 0)) .nil))) (.cons (.v 2) .nil)))))) (.cons (.asg (.v 4) (.tup (.cons (.c (.str "number")) (.cons (.bin .Sub (.call (x n_law_pick_v2) (.cons (.v 0) (.cons (.c (.int 12)) .nil)) .nil []) (.c (.int 2))) .nil)))) (.cons (.asg (.v 5) (.lst true (.cons (.tup (.cons (.c (.str "call")) (.cons (.c (.str "sum")) (.cons (.tup (.cons (.v 1) .nil)) .nil)))) (.cons (.tup (.cons (.c (.str "do")) (.cons (.c (.str "long")) (.cons (.tup (.cons (.v 1) .nil)) .nil)))) (.cons (.tup (.cons (.c (.str "name")) (.cons (.c (.str "y")) .nil))) .nil))))) (.cons (.app (.v 5) (.tup (.cons (.c (.str "do")) (.cons (.c (.str "plus")) (.cons (.tup (.cons (.tup (.cons (.c (.str "name")) (.cons (.c (.str "y")) .nil))) (.cons (.tup (.cons (.c (.str "call")) (.cons (.c (.str "sum")) (.cons (.tup (.cons (.v 1) .nil)) .nil)))) .nil))) .nil))))) (.cons (.app (.v 5) (.tup (.cons (.c (.str "do")) (.cons (.c (.str "over")) (.cons (.tup (.cons (.tup (.cons (.c (.str "number")) (.cons (.c (.int 12)) .nil))) (.cons (.tup (.cons (.c (.str "name")) (.cons (.c (.str "y")) .nil))) .nil))) .nil))))) (.cons (.asg (.v 6) (.tup (.cons (.c (.str "do")) (.cons (.c (.str "below")) (.cons (.tup (.cons (.idx (.v 5) (.call (x n_law_pick_v2) (.cons (.v 0) (.cons (.c (.int 5)) .nil)) .nil [])) (.cons (.v 4) .nil))) .nil))))) (.cons (.ife (.cmp .Eq (.call (x n_law_pick_v2) (.cons (.v 0) (.cons (.c (.int 3)) .nil)) .nil []) (.c (.int 0))) (.cons (.asg (.v 6) (.tup (.cons (.c (.str "do")) (.cons (.c (.str "or")) (.cons (.tup (.cons (.v 6) (.cons (.tup (.cons (.c (.str "do")) (.cons (.c (.str "same")) (.cons (.tup (.cons (.tup (.cons (.c (.str "name")) (.cons (.c (.str "y")) .nil))) (.cons (.tup (.cons (.c (.str "do")) (.cons (.c (.str "first")) (.cons (.tup (.cons (.v 1) .nil)) .nil)))) .nil))) .nil)))) .nil))) .nil))))) .nil) .nil) (.cons (.asg (.v 7) (.tup (.cons (.tup (.cons (.c (.str "good")) (.cons (.tup (.cons (.c (.str "x")) (.cons (.c (.str "y")) .nil))) (.cons (.v 6) .nil)))) (.cons (.tup (.cons (.c (.str "sum")) (.cons (.tup (.cons (.c (.str "x")) .nil)) (.cons (.v 3) .nil)))) .nil)))) (.cons (.asg (.v 8) (.tup (.cons (.c (.str "row")) (.cons (.tup (.cons (.c (.str "whole")) (.cons (.bin .Sub (.c (.int 0)) (.call (x n_law_pick_v2) (.cons (.v 0) (.cons (.c (.int 3)) .nil)) .nil [])) (.cons (.bin .Add (.c (.int 1)) (.call (x n_law_pick_v2) (.cons (.v 0) (.cons (.c (.int 20)) .nil)) .nil [])) .nil)))) (.cons (.call (x n_law_pick_v2) (.cons (.v 0) (.cons (.c (.int 2)) .nil)) .nil []) (.cons (.c (.int 5)) .nil)))))) (.cons (.ret (.tup (.cons (.v 7) (.cons (.tup (.cons (.c (.str "tr")) (.cons (.c (.str "good")) (.cons (.tup (.cons (.v 8) (.cons (.tup (.cons (.c (.str "whole")) (.cons (.c (.int 0)) (.cons (.call (x n_law_pick_v2) (.cons (.v 0) (.cons (.c (.int 30)) .nil)) .nil []) .nil)))) .nil))) .nil)))) .nil)))) .nil))))))))))))⟩
-- law_counted: expression words.count('good')
-- law_mended_right: call Suite(program=code, trials=(trial,))
def f_spots_of (x : Nat → Nat) : Fn := ⟨2, 3, false, (.cons (.ret (.comp false (.v 2) (.seq (.v 1)) .nil (.idx (.call (x n_told_of) (.cons (.v 0) (.cons (.v 2) .nil)) .nil []) (.c (.int 3))))) .nil)⟩
-- covered: expression {spot: True for some in spots_of(program, jobs) for spot in some}
-- bare: expression {spot: True for spot in covered(program, jobs)}
def f_law_sort (x : Nat → Nat) : Fn := ⟨1, 1, false, (.cons (.ife (.isi (.v 0) "bool") (.cons (.ret (.c (.str "truth"))) .nil) .nil) (.cons (.ife (.isi (.v 0) "int") (.cons (.ret (.c (.str "number"))) .nil) .nil) (.cons (.ife (.isi (.v 0) "tuple") (.cons (.ret (.c (.str "tuple"))) .nil) .nil) (.cons (.ret (.ite (.isi (.v 0) "list") (.c (.str "list")) (.c (.str "other")))) .nil))))⟩
-- law_same_v2: expression isinstance(told, (tuple, list))
def l0_law_jobs (x : Nat → Nat) : Ss := (.cons (.asg (.v 4) (.call (x n_law_trial) (.cons (.v 0) .nil) .nil [])) (.cons (.ife (.and (.cons (.cmp .NotEq (.v 2) (.lst false .nil)) (.cons (.cmp .Eq (.call (x n_law_pick) (.cons (.v 0) (.cons (.c (.int 2)) .nil)) .nil []) (.c (.int 0))) .nil))) (.cons (.asg (.v 4) (.idx (.idx (.v 2) (.c (.int 0))) (.c (.int 0)))) .nil) .nil) (.cons (.app (.v 2) (.tup (.cons (.v 4) (.cons (.call (x n_law_choices) (.cons (.v 0) .nil) .nil []) (.cons (.call (x n_law_world) (.cons (.v 0) .nil) .nil []) .nil))))) .nil)))
def f_law_jobs (x : Nat → Nat) : Fn := ⟨2, 5, false, (.cons (.asg (.v 2) (.lst true .nil)) (.cons (.fr (.v 3) (.rng1 (.call (x n_law_pick) (.cons (.v 0) (.cons (.bin .Add (.v 1) (.c (.int 1))) .nil)) .nil [])) (l0_law_jobs x)) (.cons (.ret (.frz (.v 2))) .nil)))⟩
def l0_law_tree_spots (x : Nat → Nat) : Ss := (.cons (.asg (.v 2) (.bin .Add (.v 2) (.call (x n_law_tree_spots) (.cons (.v 3) .nil) .nil []))) .nil)
def f_law_tree_spots (x : Nat → Nat) : Fn := ⟨1, 4, false, (.cons (.asg (.v 1) (.lst false .nil)) (.cons (.ife (.cmp .Eq (.idx (.v 0) (.c (.int 0))) (.c (.str "if"))) (.cons (.asg (.v 1) (.blt .lst1 (.cons (.slc (.v 0) (.yes (.c (.int 1))) .no) .nil))) .nil) (.cons (.ife (.cmp .Eq (.idx (.v 0) (.c (.int 0))) (.c (.str "let"))) (.cons (.asg (.v 1) (.blt .lst1 (.cons (.slc (.v 0) (.yes (.c (.int 2))) .no) .nil))) .nil) (.cons (.ife (.cmp .In (.idx (.v 0) (.c (.int 0))) (.tup (.cons (.c (.str "call")) (.cons (.c (.str "do")) .nil)))) (.cons (.asg (.v 1) (.blt .lst1 (.cons (.idx (.v 0) (.c (.int 2))) .nil))) .nil) .nil) .nil)) .nil)) (.cons (.asg (.v 2) (.lst false (.cons (.v 0) .nil))) (.cons (.fr (.v 3) (.seq (.v 1)) (l0_law_tree_spots x)) (.cons (.ret (.v 2)) .nil)))))⟩
-- law_told_of: call tell(code, job[0], job[1], world=job[2])
-- law_gone_by: empty dict
def l0_law_spots_in (x : Nat → Nat) : Ss := (.cons (.asg (.v 1) (.bin .Add (.v 1) (.comp false (.v 5) (.rng1 (.blt .len (.cons (.call (x n_law_tree_spots) (.cons (.v 4) .nil) .nil []) .nil))) .nil (.tup (.cons (.v 2) (.cons (.v 5) .nil)))))) .nil)
def f_law_spots_in (x : Nat → Nat) : Fn := ⟨1, 6, false, (.cons (.asg (.v 1) (.lst false .nil)) (.cons (.fr (.tup (.cons (.v 2) (.cons (.v 3) (.cons (.v 4) .nil)))) (.seq (.v 0)) (l0_law_spots_in x)) (.cons (.ret (.v 1)) .nil)))⟩
-- branches: expression {spot: True for spot in covered(program, jobs)}
def l0_law_if_places (x : Nat → Nat) : Ss := (.cons (.asg (.v 2) (.bin .Add (.v 2) (.call (x n_law_if_places) (.cons (.v 5) (.cons (.v 3) .nil)) .nil []))) (.cons (.asg (.v 3) (.bin .Add (.v 3) (.blt .len (.cons (.call (x n_law_tree_spots) (.cons (.v 5) .nil) .nil []) .nil)))) .nil))
def f_law_if_places (x : Nat → Nat) : Fn := ⟨2, 7, false, (.cons (.asg (.v 2) (.lst true .nil)) (.cons (.asg (.v 3) (.bin .Add (.v 1) (.c (.int 1)))) (.cons (.asg (.v 4) (.lst false .nil)) (.cons (.ife (.cmp .Eq (.idx (.v 0) (.c (.int 0))) (.c (.str "if"))) (.cons (.asg (.v 6) (.bin .Add (.bin .Add (.v 1) (.c (.int 1))) (.blt .len (.cons (.call (x n_law_tree_spots) (.cons (.idx (.v 0) (.c (.int 1))) .nil) .nil []) .nil)))) (.cons (.app (.v 2) (.tup (.cons (.v 1) (.cons (.v 6) (.cons (.bin .Add (.v 6) (.blt .len (.cons (.call (x n_law_tree_spots) (.cons (.idx (.v 0) (.c (.int 2))) .nil) .nil []) .nil))) .nil))))) (.cons (.asg (.v 4) (.blt .lst1 (.cons (.slc (.v 0) (.yes (.c (.int 1))) .no) .nil))) .nil))) (.cons (.ife (.cmp .Eq (.idx (.v 0) (.c (.int 0))) (.c (.str "let"))) (.cons (.asg (.v 4) (.blt .lst1 (.cons (.slc (.v 0) (.yes (.c (.int 2))) .no) .nil))) .nil) (.cons (.ife (.cmp .In (.idx (.v 0) (.c (.int 0))) (.tup (.cons (.c (.str "call")) (.cons (.c (.str "do")) .nil)))) (.cons (.asg (.v 4) (.blt .lst1 (.cons (.idx (.v 0) (.c (.int 2))) .nil))) .nil) .nil) .nil)) .nil)) (.cons (.fr (.v 5) (.seq (.v 4)) (l0_law_if_places x)) (.cons (.ret (.frz (.v 2))) .nil))))))⟩
-- fewest_covering: statement raise TooMany(MOST_JOBS)
-- law_try: statement try:     found = ('told', door()) except MillError as e:     found = _law_name_o
-- law_subsets: expression sorted(found, key=lambda places: (len(places), places))
def l0_law_fewest (x : Nat → Nat) : Ss := (.cons (.ife (.cmp .Eq (.call (x n_law_all_in) (.cons (.comp false (.v 3) (.seq (.v 2)) .nil (.idx (.v 0) (.v 3))) .nil) .nil []) (.v 1)) (.cons (.ret (.v 2)) .nil) .nil) .nil)
def f_law_fewest (x : Nat → Nat) : Fn := ⟨1, 4, false, (.cons (.asg (.v 1) (.call (x n_law_all_in) (.cons (.v 0) .nil) .nil [])) (.cons (.fr (.v 2) (.seq (.call (x n_law_subsets) (.cons (.blt .len (.cons (.v 0) .nil)) .nil) .nil [])) (l0_law_fewest x)) (.cons (.ret (.c .none)) .nil)))⟩
-- law_all_in: empty dict
def f_law_one (x : Nat → Nat) : Fn := ⟨2, 2, false, (.cons (.ret (.idx (.v 1) (.call (x n_law_pick) (.cons (.v 0) (.cons (.blt .len (.cons (.v 1) .nil)) .nil)) .nil []))) .nil)⟩
-- law_others_of: expression others.update({'and': 'or', 'or': 'and'})
def l0_law_bends (x : Nat → Nat) : Ss := (.cons (.asg (.v 1) (.bin .Add (.v 1) (.comp false (.v 7) (.rng1 (.blt .len (.cons (.call (x n_law_others_of) (.cons (.v 6) .nil) .nil []) .nil))) .nil (.tup (.cons (.v 2) (.cons (.v 5) (.cons (.v 7) .nil))))))) .nil)
def l1_law_bends (x : Nat → Nat) : Ss := (.cons (.fr (.tup (.cons (.v 5) (.cons (.v 6) .nil))) (.enum (.call (x n_law_tree_spots) (.cons (.v 4) .nil) .nil [])) (l0_law_bends x)) .nil)
def f_law_bends (x : Nat → Nat) : Fn := ⟨1, 8, false, (.cons (.asg (.v 1) (.lst false .nil)) (.cons (.fr (.tup (.cons (.v 2) (.cons (.v 3) (.cons (.v 4) .nil)))) (.seq (.v 0)) (l1_law_bends x)) (.cons (.ret (.v 1)) .nil)))⟩
def f_law_small_code (x : Nat → Nat) : Fn := ⟨1, 10, false, (.cons (.asg (.v 1) (.lst false (.cons (.c (.int 1000)) (.cons (.neg (.c (.int 1000))) (.cons (.c (.int 0)) (.cons (.c (.int 1)) (.cons (.neg (.c (.int 1))) (.cons (.c (.int 999)) .nil)))))))) (.cons (.par 7 8 (.tup (.cons (.c (.str "number")) (.cons (.call (x n_law_one) (.cons (.v 0) (.cons (.v 1) .nil)) .nil []) .nil))) (.tup (.cons (.c (.str "number")) (.cons (.call (x n_law_one) (.cons (.v 0) (.cons (.v 1) .nil)) .nil []) .nil)))) (.cons (.asg (.v 2) (.tup (.cons (.c (.str "row")) (.cons (.blt .tup1 (.cons (.comp false (.v 9) (.rng1 (.call (x n_law_pick) (.cons (.v 0) (.cons (.c (.int 3)) .nil)) .nil [])) .nil (.call (x n_law_pick) (.cons (.v 0) (.cons (.c (.int 3)) .nil)) .nil [])) .nil)) .nil)))) (.cons (.asg (.v 3) (.call (x n_law_one) (.cons (.v 0) (.cons (.lst false (.cons (.c (.str "plus")) (.cons (.c (.str "minus")) (.cons (.c (.str "times")) (.cons (.c (.str "over")) (.cons (.c (.str "rest")) (.cons (.c (.str "below")) (.cons (.c (.str "same")) (.cons (.c (.str "put")) (.cons (.c (.str "world")) (.cons (.c (.str "long")) (.cons (.c (.str "not")) .nil)))))))))))) .nil)) .nil [])) (.cons (.asg (.v 4) (.get2 (.dct false (.cons (.c (.str "put")) (.cons (.tup (.cons (.v 7) (.cons (.v 2) .nil))) (.cons (.c (.str "world")) (.cons (.tup .nil) (.cons (.c (.str "long")) (.cons (.tup (.cons (.v 2) .nil)) (.cons (.c (.str "not")) (.cons (.tup (.cons (.tup (.cons (.c (.str "truth")) (.cons (.c (.bool true)) .nil))) .nil)) .nil))))))))) (.v 3) (.tup (.cons (.v 7) (.cons (.v 8) .nil))))) (.cons (.asg (.v 5) (.tup (.cons (.c (.str "if")) (.cons (.tup (.cons (.c (.str "truth")) (.cons (.cmp .Eq (.call (x n_law_pick) (.cons (.v 0) (.cons (.c (.int 2)) .nil)) .nil []) (.c (.int 0))) .nil))) (.cons (.tup (.cons (.c (.str "do")) (.cons (.v 3) (.cons (.v 4) .nil)))) (.cons (.call (x n_law_one) (.cons (.v 0) (.cons (.lst false (.cons (.v 7) (.cons (.tup (.cons (.c (.str "do")) (.cons (.v 3) (.cons (.v 4) .nil)))) .nil))) .nil)) .nil []) .nil)))))) (.cons (.asg (.v 6) (.tup (.cons (.c (.str "call")) (.cons (.c (.str "a")) (.cons (.tup (.cons (.v 7) (.cons (.call (x n_law_one) (.cons (.v 0) (.cons (.lst false (.cons (.v 7) (.cons (.v 8) .nil))) .nil)) .nil []) (.cons (.v 2) .nil)))) .nil))))) (.cons (.ret (.tup (.cons (.tup (.cons (.c (.str "a")) (.cons (.tup (.cons (.c (.str "x")) (.cons (.c (.str "y")) (.cons (.c (.str "z")) .nil)))) (.cons (.v 5) .nil)))) (.cons (.tup (.cons (.c (.str "b")) (.cons (.tup .nil) (.cons (.call (x n_law_one) (.cons (.v 0) (.cons (.lst false (.cons (.v 6) (.cons (.tup (.cons (.c (.str "let")) (.cons (.c (.str "x")) (.cons (.v 7) (.cons (.v 6) .nil))))) .nil))) .nil)) .nil []) .nil)))) .nil)))) .nil))))))))⟩
def l0_law_put_at (x : Nat → Nat) : Ss := (.cons (.asg (.v 8) (.blt .len (.cons (.call (x n_law_tree_spots) (.cons (.v 7) .nil) .nil []) .nil))) (.cons (.app (.v 5) (.ite (.chain .LtE .Lt (.v 6) (.v 1) (.bin .Add (.v 6) (.v 8))) (.call (x n_law_put_at) (.cons (.v 7) (.cons (.bin .Sub (.v 1) (.v 6)) (.cons (.v 2) .nil))) .nil []) (.v 7))) (.cons (.asg (.v 6) (.bin .Add (.v 6) (.v 8))) .nil)))
def f_law_put_at (x : Nat → Nat) : Fn := ⟨3, 9, false, (.cons (.ife (.cmp .Eq (.v 1) (.c (.int 0))) (.cons (.ret (.v 2)) .nil) .nil) (.cons (.asg (.v 3) (.get2 (.dct false (.cons (.c (.str "let")) (.cons (.c (.int 2)) .nil))) (.idx (.v 0) (.c (.int 0))) (.c (.int 1)))) (.cons (.asg (.v 4) (.ite (.cmp .In (.idx (.v 0) (.c (.int 0))) (.tup (.cons (.c (.str "call")) (.cons (.c (.str "do")) .nil)))) (.blt .lst1 (.cons (.idx (.v 0) (.c (.int 2))) .nil)) (.blt .lst1 (.cons (.slc (.v 0) (.yes (.v 3)) .no) .nil)))) (.cons (.asg (.v 5) (.lst true .nil)) (.cons (.asg (.v 6) (.c (.int 1))) (.cons (.fr (.v 7) (.seq (.v 4)) (l0_law_put_at x)) (.cons (.ife (.cmp .In (.idx (.v 0) (.c (.int 0))) (.tup (.cons (.c (.str "call")) (.cons (.c (.str "do")) .nil)))) (.cons (.ret (.bin .Add (.slc (.v 0) .no (.yes (.c (.int 2)))) (.tup (.cons (.blt .tup1 (.cons (.v 5) .nil)) .nil)))) .nil) .nil) (.cons (.ret (.bin .Add (.slc (.v 0) .no (.yes (.v 3))) (.blt .tup1 (.cons (.v 5) .nil)))) .nil))))))))⟩
def l0_law_bent (x : Nat → Nat) : Ss := (.cons (.ife (.cmp .Eq (.v 3) (.idx (.v 1) (.c (.int 0)))) (.cons (.asg (.v 6) (.idx (.call (x n_law_others_of) (.cons (.idx (.call (x n_law_tree_spots) (.cons (.v 5) .nil) .nil []) (.idx (.v 1) (.c (.int 1)))) .nil) .nil []) (.idx (.v 1) (.c (.int 2))))) (.cons (.asg (.v 5) (.call (x n_law_put_at) (.cons (.v 5) (.cons (.idx (.v 1) (.c (.int 1))) (.cons (.v 6) .nil))) .nil [])) .nil)) .nil) (.cons (.app (.v 2) (.tup (.cons (.v 3) (.cons (.v 4) (.cons (.v 5) .nil))))) .nil))
def f_law_bent (x : Nat → Nat) : Fn := ⟨2, 7, false, (.cons (.asg (.v 2) (.lst true .nil)) (.cons (.fr (.tup (.cons (.v 3) (.cons (.v 4) (.cons (.v 5) .nil)))) (.seq (.v 0)) (l0_law_bent x)) (.cons (.ret (.blt .tup1 (.cons (.v 2) .nil))) .nil)))⟩
def f_law_odd (x : Nat → Nat) : Fn := ⟨1, 2, false, (.cons (.asg (.v 1) (.lst false (.cons (.c .none) (.cons (.c (.bool true)) (.cons (.c (.bool false)) (.cons (.c (.int 0)) (.cons (.c (.int 1)) (.cons (.neg (.c (.int 1))) (.cons (.c (.int 7)) (.cons (.bin .Pow (.c (.int 10)) (.c (.int 39))) (.cons (.c (.str "")) (.cons (.c (.str "t")) (.cons (.c (.str "f")) (.cons (.c (.str "abcdefghi")) (.cons (.c (.str "A")) (.cons (.tup .nil) (.cons (.lst false .nil) (.cons (.tup (.cons (.tup .nil) .nil)) (.cons (.tup (.cons (.c (.int 1)) (.cons (.c (.int 2)) .nil))) .nil))))))))))))))))))) (.cons (.asg (.v 1) (.bin .Add (.v 1) (.lst false (.cons (.tup (.cons (.c (.str "f")) (.cons (.c (.int 0)) (.cons (.c (.int 0)) .nil)))) (.cons (.tup (.cons (.c (.str "t")) (.cons (.c (.int 1)) (.cons (.c (.int 0)) .nil)))) (.cons (.lst false (.cons (.c (.str "t")) .nil)) (.cons (.tup (.cons (.c (.str "number")) (.cons (.c (.int 1)) .nil))) (.cons (.tup (.cons (.c (.str "name")) (.cons (.c (.str "x")) .nil))) (.cons (.tup (.cons (.c (.str "trya")) (.cons (.c (.str "t")) (.cons (.tup .nil) .nil)))) .nil))))))))) (.cons (.ret (.call (x n_law_one) (.cons (.v 0) (.cons (.v 1) .nil)) .nil [])) .nil)))⟩
-- law_spoilt_v2: expression isinstance(thing, (tuple, list))
def f_law_spot_of (x : Nat → Nat) : Fn := ⟨3, 5, false, (.cons (.asg (.v 3) (.idx (.comp false (.v 4) (.seq (.v 0)) (.cons (.cmp .Eq (.idx (.v 4) (.c (.int 0))) (.v 1)) .nil) (.idx (.v 4) (.c (.int 2)))) (.c (.int 0)))) (.cons (.ret (.idx (.call (x n_law_tree_spots) (.cons (.v 3) .nil) .nil []) (.v 2))) .nil))⟩
def l0_law_apart (x : Nat → Nat) : Ss := (.cons (.asg (.v 5) (.call (x n_law_bent) (.cons (.v 0) (.cons (.v 4) .nil)) .nil [])) (.cons (.asg (.v 6) (.comp false (.tup (.cons (.v 8) (.cons (.v 7) .nil))) (.enum (.v 1)) (.cons (.cmp .NotEq (.idx (.call (x n_law_told_of) (.cons (.v 5) (.cons (.v 7) .nil)) .nil []) (.c (.int 0))) (.idx (.v 2) (.v 8))) .nil) (.v 8))) (.cons (.ife (.cmp .NotEq (.v 6) (.lst false .nil)) (.cons (.app (.v 3) (.tup (.cons (.v 4) (.cons (.v 6) .nil)))) .nil) .nil) .nil)))
def f_law_apart (x : Nat → Nat) : Fn := ⟨2, 9, false, (.cons (.asg (.v 2) (.comp false (.v 7) (.seq (.v 1)) .nil (.idx (.call (x n_law_told_of) (.cons (.v 0) (.cons (.v 7) .nil)) .nil []) (.c (.int 0))))) (.cons (.asg (.v 3) (.lst true .nil)) (.cons (.fr (.v 4) (.seq (.call (x n_law_bends) (.cons (.v 0) .nil) .nil [])) (l0_law_apart x)) (.cons (.ret (.frz (.v 3))) .nil))))⟩
def f_share_apart (x : Nat → Nat) : Fn := ⟨2, 5, false, (.cons (.asg (.v 2) (.blt .len (.cons (.call (x n_bends) (.cons (.v 0) .nil) .nil []) .nil))) (.cons (.ife (.cmp .Eq (.v 2) (.c (.int 0))) (.cons (.ret (.tup (.cons (.c (.int 1)) (.cons (.c (.int 1)) .nil)))) .nil) .nil) (.cons (.asg (.v 3) (.blt .len (.cons (.call (x n_told_apart) (.cons (.v 0) (.cons (.v 1) .nil)) .nil []) .nil))) (.cons (.asg (.v 4) (.call (x n_shared) (.cons (.v 3) (.cons (.v 2) .nil)) .nil [])) (.cons (.ret (.tup (.cons (.bin .FloorDiv (.v 3) (.v 4)) (.cons (.bin .FloorDiv (.v 2) (.v 4)) .nil)))) .nil)))))⟩
def c0_law_lowest (x : Nat → Nat) : E := (.cmp .Gt (.v 3) (.c (.int 0)))
def w1_law_lowest (x : Nat → Nat) : Ss := (.cons (.asg (.v 4) (.bin .Mod (.v 2) (.v 3))) (.cons (.asg (.v 2) (.v 3)) (.cons (.asg (.v 3) (.v 4)) .nil)))
def f_law_lowest (x : Nat → Nat) : Fn := ⟨2, 5, false, (.cons (.par 2 3 (.v 0) (.v 1)) (.cons (.whl 1000000 (c0_law_lowest x) (w1_law_lowest x)) (.cons (.ret (.tup (.cons (.bin .FloorDiv (.v 0) (.v 2)) (.cons (.bin .FloorDiv (.v 1) (.v 2)) .nil)))) .nil)))⟩
def f_law_easy_maker (x : Nat → Nat) : Fn := ⟨3, 6, false, (.cons (.asg (.v 3) (.call (x n_law_pick) (.cons (.v 0) (.cons (.c (.int 4)) .nil)) .nil [])) (.cons (.ife (.cmp .Eq (.v 1) (.c (.str "row"))) (.cons (.asg (.v 4) (.call (x n_law_pick) (.cons (.v 0) (.cons (.c (.int 2)) .nil)) .nil [])) (.cons (.ret (.tup (.cons (.c (.str "row")) (.cons (.call (x n_law_easy_maker) (.cons (.v 0) (.cons (.c (.str "number")) (.cons (.c (.int 1)) .nil))) .nil []) (.cons (.v 4) (.cons (.bin .Add (.v 4) (.call (x n_law_pick) (.cons (.v 0) (.cons (.c (.int 2)) .nil)) .nil [])) .nil)))))) .nil)) .nil) (.cons (.ife (.or (.cons (.cmp .Lt (.v 3) (.c (.int 2))) (.cons (.cmp .Lt (.v 2) (.c (.int 2))) .nil))) (.cons (.asg (.v 4) (.bin .Sub (.call (x n_law_pick) (.cons (.v 0) (.cons (.c (.int 5)) .nil)) .nil []) (.c (.int 3)))) (.cons (.ret (.tup (.cons (.c (.str "whole")) (.cons (.v 4) (.cons (.bin .Add (.v 4) (.call (x n_law_pick) (.cons (.v 0) (.cons (.c (.int 3)) .nil)) .nil [])) .nil))))) .nil)) .nil) (.cons (.ife (.cmp .Eq (.v 3) (.c (.int 2))) (.cons (.ret (.tup (.cons (.c (.str "just")) (.cons (.bin .Sub (.call (x n_law_pick) (.cons (.v 0) (.cons (.c (.int 9)) .nil)) .nil []) (.c (.int 4))) .nil)))) .nil) .nil) (.cons (.ret (.tup (.cons (.c (.str "one")) (.cons (.blt .tup1 (.cons (.comp false (.v 5) (.rng1 (.bin .Add (.c (.int 1)) (.call (x n_law_pick) (.cons (.v 0) (.cons (.v 2) .nil)) .nil []))) .nil (.call (x n_law_easy_maker) (.cons (.v 0) (.cons (.c (.str "number")) (.cons (.bin .Sub (.v 2) (.c (.int 1))) .nil))) .nil [])) .nil)) .nil)))) .nil)))))⟩
def f_law_easy_trial (x : Nat → Nat) : Fn := ⟨1, 1, false, (.cons (.ret (.tup (.cons (.c (.str "trye")) (.cons (.c (.str "t")) (.cons (.tup (.cons (.call (x n_law_easy_maker) (.cons (.v 0) (.cons (.c (.str "number")) (.cons (.c (.int 3)) .nil))) .nil []) (.cons (.call (x n_law_easy_maker) (.cons (.v 0) (.cons (.c (.str "row")) (.cons (.c (.int 2)) .nil))) .nil []) .nil))) .nil))))) .nil)⟩
def l0_law_draws_of (x : Nat → Nat) : Ss := (.cons (.app (.v 2) (.tup (.cons (.bin .Add (.tup (.cons (.v 6) .nil)) (.v 8)) (.cons (.bin .Mult (.v 4) (.v 5)) .nil)))) .nil)
def l1_law_draws_of (x : Nat → Nat) : Ss := (.cons (.asg (.v 4) (.blt .len (.cons (.idx (.v 0) (.c (.int 1))) .nil))) (.cons (.fr (.tup (.cons (.v 8) (.cons (.v 5) .nil))) (.seq (.call (x n_law_draws_of) (.cons (.v 7) .nil) .nil [])) (l0_law_draws_of x)) .nil))
def l2_law_draws_of (x : Nat → Nat) : Ss := (.cons (.ife (.cmp .GtE (.v 4) (.idx (.v 0) (.c (.int 2)))) (.cons (.ife (.cmp .Eq (.v 4) (.idx (.v 0) (.c (.int 3)))) (.cons (.asg (.v 2) (.bin .Add (.v 2) (.v 3))) .nil) (.cons (.asg (.v 2) (.bin .Add (.v 2) (.comp false (.tup (.cons (.v 8) (.cons (.v 5) .nil))) (.seq (.v 3)) .nil (.tup (.cons (.bin .Add (.v 8) (.tup (.cons (.c (.int 0)) .nil))) (.cons (.bin .Mult (.c (.int 2)) (.v 5)) .nil)))))) (.cons (.asg (.v 3) (.comp false (.tup (.cons (.v 8) (.cons (.v 5) .nil))) (.seq (.v 3)) .nil (.tup (.cons (.bin .Add (.v 8) (.tup (.cons (.c (.int 1)) .nil))) (.cons (.bin .Mult (.c (.int 2)) (.v 5)) .nil))))) .nil))) .nil) .nil) (.cons (.ife (.cmp .Lt (.v 4) (.idx (.v 0) (.c (.int 3)))) (.cons (.asg (.v 3) (.call (x n_law_behind) (.cons (.v 3) (.cons (.idx (.v 0) (.c (.int 1))) .nil)) .nil [])) .nil) .nil) .nil))
def f_law_draws_of (x : Nat → Nat) : Fn := ⟨1, 9, false, (.cons (.asg (.v 1) (.idx (.v 0) (.c (.int 0)))) (.cons (.ife (.cmp .Eq (.v 1) (.c (.str "just"))) (.cons (.ret (.lst false (.cons (.tup (.cons (.tup .nil) (.cons (.c (.int 1)) .nil))) .nil))) .nil) .nil) (.cons (.ife (.cmp .Eq (.v 1) (.c (.str "whole"))) (.cons (.asg (.v 5) (.bin .Add (.bin .Sub (.idx (.v 0) (.c (.int 2))) (.idx (.v 0) (.c (.int 1)))) (.c (.int 1)))) (.cons (.ret (.comp false (.v 6) (.rng1 (.v 5)) .nil (.tup (.cons (.tup (.cons (.v 6) .nil)) (.cons (.v 5) .nil))))) .nil)) .nil) (.cons (.ife (.cmp .Eq (.v 1) (.c (.str "one"))) (.cons (.asg (.v 2) (.lst true .nil)) (.cons (.fr (.tup (.cons (.v 6) (.cons (.v 7) .nil))) (.enum (.idx (.v 0) (.c (.int 1)))) (l1_law_draws_of x)) (.cons (.ret (.frz (.v 2))) .nil))) .nil) (.cons (.asg (.v 2) (.lst true .nil)) (.cons (.asg (.v 3) (.lst false (.cons (.tup (.cons (.tup .nil) (.cons (.c (.int 1)) .nil))) .nil))) (.cons (.fr (.v 4) (.rng1 (.bin .Add (.idx (.v 0) (.c (.int 3))) (.c (.int 1)))) (l2_law_draws_of x)) (.cons (.ret (.frz (.v 2))) .nil))))))))⟩
def l0_law_behind (x : Nat → Nat) : Ss := (.cons (.app (.v 2) (.tup (.cons (.bin .Add (.v 3) (.v 5)) (.cons (.bin .Mult (.v 4) (.v 6)) .nil)))) .nil)
def l1_law_behind (x : Nat → Nat) : Ss := (.cons (.fr (.tup (.cons (.v 5) (.cons (.v 6) .nil))) (.seq (.call (x n_law_draws_of) (.cons (.v 1) .nil) .nil [])) (l0_law_behind x)) .nil)
def f_law_behind (x : Nat → Nat) : Fn := ⟨2, 7, false, (.cons (.asg (.v 2) (.lst true .nil)) (.cons (.fr (.tup (.cons (.v 3) (.cons (.v 4) .nil))) (.seq (.v 0)) (l1_law_behind x)) (.cons (.ret (.frz (.v 2))) .nil)))⟩
def l0_law_all_draws (x : Nat → Nat) : Ss := (.cons (.asg (.v 1) (.call (x n_law_behind) (.cons (.v 1) (.cons (.v 2) .nil)) .nil [])) .nil)
def f_law_all_draws (x : Nat → Nat) : Fn := ⟨1, 3, false, (.cons (.asg (.v 1) (.lst false (.cons (.tup (.cons (.tup .nil) (.cons (.c (.int 1)) .nil))) .nil))) (.cons (.fr (.v 2) (.seq (.idx (.v 0) (.c (.int 2)))) (l0_law_all_draws x)) (.cons (.ret (.v 1)) .nil)))⟩
def c0_law_sum_v2 (x : Nat → Nat) : E := (.cmp .Gt (.v 5) (.c (.int 0)))
def w1_law_sum_v2 (x : Nat → Nat) : Ss := (.cons (.asg (.v 6) (.bin .Mod (.v 4) (.v 5))) (.cons (.asg (.v 4) (.v 5)) (.cons (.asg (.v 5) (.v 6)) .nil)))
def f_law_sum_v2 (x : Nat → Nat) : Fn := ⟨2, 7, false, (.cons (.asg (.v 2) (.bin .Add (.bin .Mult (.idx (.v 0) (.c (.int 0))) (.idx (.v 1) (.c (.int 1)))) (.bin .Mult (.idx (.v 1) (.c (.int 0))) (.idx (.v 0) (.c (.int 1)))))) (.cons (.asg (.v 3) (.bin .Mult (.idx (.v 0) (.c (.int 1))) (.idx (.v 1) (.c (.int 1))))) (.cons (.par 4 5 (.v 2) (.v 3)) (.cons (.whl 1000000 (c0_law_sum_v2 x) (w1_law_sum_v2 x)) (.cons (.ret (.tup (.cons (.bin .FloorDiv (.v 2) (.v 4)) (.cons (.bin .FloorDiv (.v 3) (.v 4)) .nil)))) .nil)))))⟩
def f_law_less (x : Nat → Nat) : Fn := ⟨2, 2, false, (.cons (.ret (.cmp .Lt (.bin .Mult (.idx (.v 0) (.c (.int 0))) (.idx (.v 1) (.c (.int 1)))) (.bin .Mult (.idx (.v 1) (.c (.int 0))) (.idx (.v 0) (.c (.int 1)))))) .nil)⟩
-- unsteady: call tell(program, trial, choices, world=world)
def f_law_reading (x : Nat → Nat) : Fn := ⟨2, 4, false, (.cons (.asg (.v 2) (.tup (.cons (.c (.str "do")) (.cons (.c (.str "below")) (.cons (.tup (.cons (.tup (.cons (.c (.str "do")) (.cons (.c (.str "world")) (.cons (.tup .nil) .nil)))) (.cons (.tup (.cons (.c (.str "number")) (.cons (.bin .Sub (.call (x n_law_pick) (.cons (.v 0) (.cons (.c (.int 3)) .nil)) .nil []) (.c (.int 1))) .nil))) .nil))) .nil))))) (.cons (.asg (.v 3) (.tup (.cons (.c (.str "if")) (.cons (.v 2) (.cons (.tup (.cons (.c (.str "truth")) (.cons (.cmp .Eq (.call (x n_law_pick) (.cons (.v 0) (.cons (.c (.int 2)) .nil)) .nil []) (.c (.int 0))) .nil))) (.cons (.tup (.cons (.c (.str "do")) (.cons (.c (.str "same")) (.cons (.tup (.cons (.tup (.cons (.c (.str "name")) (.cons (.c (.str "x")) .nil))) (.cons (.tup (.cons (.c (.str "do")) (.cons (.c (.str "world")) (.cons (.tup .nil) .nil)))) .nil))) .nil)))) .nil)))))) (.cons (.ret (.bin .Add (.slc (.v 1) .no (.yes (.c (.int 4)))) (.tup (.cons (.tup (.cons (.c (.str "t")) (.cons (.tup (.cons (.c (.str "x")) (.cons (.c (.str "y")) .nil))) (.cons (.v 3) .nil)))) .nil)))) .nil)))⟩
def f_law_many_worlds (x : Nat → Nat) : Fn := ⟨2, 4, false, (.cons (.asg (.v 2) (.comp false (.v 3) (.rng1 (.bin .Add (.c (.int 1)) (.call (x n_law_pick) (.cons (.v 0) (.cons (.v 1) .nil)) .nil []))) .nil (.call (x n_law_world) (.cons (.v 0) .nil) .nil []))) (.cons (.ret (.bin .Add (.slc (.v 2) .no (.yes (.bin .Sub (.v 1) (.c (.int 1))))) (.slc (.v 2) .no (.yes (.c (.int 1)))))) .nil))⟩
def l0_world_spots (x : Nat → Nat) : Ss := (.cons (.ife (.cmp .Eq (.slc (.v 4) .no (.yes (.c (.int 2)))) (.tup (.cons (.c (.str "do")) (.cons (.c (.str "world")) .nil)))) (.cons (.app (.v 1) (.tup (.cons (.idx (.v 2) (.c (.int 0))) (.cons (.v 3) .nil)))) .nil) .nil) .nil)
def l1_world_spots (x : Nat → Nat) : Ss := (.cons (.fr (.tup (.cons (.v 3) (.cons (.v 4) .nil))) (.enum (.call (x n_spots) (.cons (.v 2) .nil) .nil [])) (l0_world_spots x)) .nil)
def f_world_spots (x : Nat → Nat) : Fn := ⟨1, 5, false, (.cons (.asg (.v 1) (.lst true .nil)) (.cons (.fr (.v 2) (.seq (.v 0)) (l1_world_spots x)) (.cons (.ret (.frz (.v 1))) .nil)))⟩
def l0_world_spots_K (x : Nat → Nat) : Ss := (.cons (.ife (.cmp .Eq (.slc (.v 4) .no (.yes (.c (.int 2)))) (.tup (.cons (.c (.str "do")) (.cons (.c (.str "world")) .nil)))) (.cons (.app (.v 1) (.tup (.cons (.idx (.v 2) (.c (.int 0))) (.cons (.v 3) .nil)))) .nil) .nil) .nil)
def l1_world_spots_K (x : Nat → Nat) : Ss := (.cons (.fr (.tup (.cons (.v 3) (.cons (.v 4) .nil))) (.enum (.call (x n_spots) (.cons (.v 2) .nil) .nil [])) (l0_world_spots_K x)) .nil)
def f_world_spots_K (x : Nat → Nat) : Fn := ⟨1, 5, true, (.cons (.asg (.v 1) (.lst true .nil)) (.cons (.fr (.v 2) (.seq (.v 0)) (l1_world_spots_K x)) (.cons (.ret (.v 1)) .nil)))⟩
def f_world_covered (x : Nat → Nat) : Fn := ⟨2, 4, false, (.cons (.asg (.v 2) (.call (x n_covered) (.cons (.v 0) (.cons (.v 1) .nil)) .nil [])) (.cons (.ret (.comp false (.v 3) (.seq (.call (x n_world_spots) (.cons (.v 0) .nil) .nil [])) (.cons (.cmp .In (.v 3) (.v 2)) .nil) (.v 3))) .nil))⟩
def f_world_covered_K (x : Nat → Nat) : Fn := ⟨2, 4, true, (.cons (.asg (.v 2) (.call (x n_covered) (.cons (.v 0) (.cons (.v 1) .nil)) .nil [])) (.cons (.ret (.comp true (.v 3) (.seq (.call (x n_world_spots) (.cons (.v 0) .nil) .nil [])) (.cons (.cmp .In (.v 3) (.v 2)) .nil) (.v 3))) .nil))⟩
def l0_worlds_of (x : Nat → Nat) : Ss := (.cons (.asg (.v 1) (.comp2 false (.v 3) (.seq (.v 1)) .nil (.v 4) (.rng1 (.g (x n_NUMBERS))) .nil (.bin .Add (.v 3) (.tup (.cons (.v 4) .nil))))) .nil)
def f_worlds_of (x : Nat → Nat) : Fn := ⟨1, 5, false, (.cons (.asg (.v 1) (.lst false (.cons (.tup .nil) .nil))) (.cons (.fr (.v 2) (.rng1 (.v 0)) (l0_worlds_of x)) (.cons (.ret (.v 1)) .nil)))⟩
-- turning_world: arguments of turning_world
def l0_law_worlds_upto (x : Nat → Nat) : Ss := (.cons (.asg (.v 4) (.bin .Add (.v 4) (.comp false (.v 6) (.rng1 (.c (.int 4))) .nil (.bin .Add (.v 5) (.tup (.cons (.v 6) .nil)))))) .nil)
def l1_law_worlds_upto (x : Nat → Nat) : Ss := (.cons (.asg (.v 4) (.lst false .nil)) (.cons (.fr (.v 5) (.seq (.v 2)) (l0_law_worlds_upto x)) (.cons (.asg (.v 2) (.v 4)) (.cons (.asg (.v 1) (.bin .Add (.v 1) (.v 2))) .nil))))
def f_law_worlds_upto (x : Nat → Nat) : Fn := ⟨1, 7, false, (.cons (.asg (.v 1) (.lst false .nil)) (.cons (.asg (.v 2) (.lst false (.cons (.tup .nil) .nil))) (.cons (.fr (.v 3) (.rng1 (.v 0)) (l1_law_worlds_upto x)) (.cons (.ret (.v 1)) .nil))))⟩
def f_law_other_code (x : Nat → Nat) : Fn := ⟨2, 5, false, (.cons (.asg (.v 2) (.call (x n_law_pick) (.cons (.v 0) (.cons (.c (.int 4)) .nil)) .nil [])) (.cons (.ife (.cmp .Eq (.v 2) (.c (.int 0))) (.cons (.ret (.call (x n_law_program) (.cons (.v 0) .nil) .nil [])) .nil) .nil) (.cons (.ife (.cmp .Eq (.v 2) (.c (.int 1))) (.cons (.asg (.v 4) (.call (x n_law_pick) (.cons (.v 0) (.cons (.blt .len (.cons (.v 1) .nil)) .nil)) .nil [])) (.cons (.ret (.bin .Add (.slc (.v 1) .no (.yes (.v 4))) (.slc (.v 1) (.yes (.bin .Add (.v 4) (.c (.int 1)))) .no))) .nil)) .nil) (.cons (.ife (.cmp .Eq (.v 2) (.c (.int 2))) (.cons (.ret (.blt .tup1 (.cons (.srt (.bin .Add (.v 1) (.tup (.cons (.tup (.cons (.c (.str "aa")) (.cons (.tup .nil) (.cons (.tup (.cons (.c (.str "number")) (.cons (.c (.int 1)) .nil))) .nil)))) .nil)))) .nil))) .nil) .nil) (.cons (.asg (.v 3) (.call (x n_law_bends) (.cons (.v 1) .nil) .nil [])) (.cons (.ret (.ite (.cmp .NotEq (.v 3) (.lst false .nil)) (.call (x n_law_bent) (.cons (.v 1) (.cons (.call (x n_law_one) (.cons (.v 0) (.cons (.v 3) .nil)) .nil []) .nil)) .nil []) (.v 1))) .nil))))))⟩
def f_must_run_K (x : Nat → Nat) : Fn := ⟨3, 7, true, (.cons (.asg (.v 3) (.call (x n_parted) (.cons (.v 0) (.cons (.v 1) .nil)) .nil [])) (.cons (.ret (.comp true (.tup (.cons (.v 4) (.cons (.v 5) .nil))) (.enum (.v 2)) (.cons (.blt .any1 (.cons (.comp false (.v 6) (.seq (.call (x n_touched) (.cons (.v 0) (.cons (.v 5) .nil)) .nil [])) .nil (.cmp .In (.v 6) (.v 3))) .nil)) .nil) (.v 4))) .nil))⟩
def l0_law_called_in (x : Nat → Nat) : Ss := (.cons (.asg (.v 2) (.bin .Add (.v 2) (.call (x n_law_called_in) (.cons (.v 5) .nil) .nil []))) .nil)
def f_law_called_in (x : Nat → Nat) : Fn := ⟨1, 6, false, (.cons (.asg (.v 1) (.idx (.v 0) (.c (.int 0)))) (.cons (.asg (.v 2) (.ite (.cmp .In (.v 1) (.tup (.cons (.c (.str "by")) (.cons (.c (.str "where")) .nil)))) (.lst false (.cons (.idx (.v 0) (.c (.int 1))) .nil)) (.lst false .nil))) (.cons (.asg (.v 3) (.get2 (.dct false (.cons (.c (.str "one")) (.cons (.slc (.v 0) (.yes (.c (.int 1))) (.yes (.c (.int 2)))) (.cons (.c (.str "by")) (.cons (.slc (.v 0) (.yes (.c (.int 2))) (.yes (.c (.int 3)))) .nil))))) (.v 1) (.tup .nil))) (.cons (.asg (.v 4) (.ite (.cmp .NotEq (.v 3) (.tup .nil)) (.blt .lst1 (.cons (.idx (.v 3) (.c (.int 0))) .nil)) (.lst false .nil))) (.cons (.ife (.cmp .Eq (.v 1) (.c (.str "row"))) (.cons (.asg (.v 4) (.lst false (.cons (.idx (.v 0) (.c (.int 1))) .nil))) .nil) .nil) (.cons (.ife (.cmp .Eq (.v 1) (.c (.str "where"))) (.cons (.asg (.v 4) (.lst false (.cons (.idx (.v 0) (.c (.int 2))) .nil))) .nil) .nil) (.cons (.fr (.v 5) (.seq (.v 4)) (l0_law_called_in x)) (.cons (.ret (.v 2)) .nil))))))))⟩
def l0_law_touched (x : Nat → Nat) : Ss := (.cons (.asg (.v 2) (.bin .Add (.v 2) (.call (x n_law_called_in) (.cons (.v 3) .nil) .nil []))) .nil)
def f_law_touched (x : Nat → Nat) : Fn := ⟨2, 5, false, (.cons (.asg (.v 2) (.bin .Add (.lst false (.cons (.idx (.idx (.v 1) (.c (.int 0))) (.c (.int 1))) .nil)) (.comp false (.v 4) (.seq (.idx (.call (x n_law_told_of) (.cons (.v 0) (.cons (.v 1) .nil)) .nil []) (.c (.int 3)))) .nil (.idx (.v 4) (.c (.int 0)))))) (.cons (.fr (.v 3) (.seq (.idx (.idx (.v 1) (.c (.int 0))) (.c (.int 2)))) (l0_law_touched x)) (.cons (.ret (.v 2)) .nil)))⟩
-- law_suite_new: empty dict
-- law_changed: expression dict(own['now'])
-- law_without: expression dict(table)
def f_law_set_code (x : Nat → Nat) : Fn := ⟨2, 4, false, (.cons (.asg (.v 2) (.idx (.idx (.v 0) (.c (.str "now"))) (.c (.str "trials")))) (.cons (.ife (.or (.cons (.not (.call (x n_is_program_v2) (.cons (.v 1) .nil) .nil [])) (.cons (.cmp .NotEq (.comp false (.v 3) (.seq (.v 2)) (.cons (.not (.call (x n_is_trial) (.cons (.v 1) (.cons (.idx (.v 2) (.v 3)) .nil)) .nil [])) .nil) (.v 3)) (.lst false .nil)) .nil))) (.cons (.ret (.c (.str "Breaks+"))) .nil) .nil) (.cons (.ret (.tup (.cons (.call (x n_law_changed) (.cons (.v 0) (.cons (.c (.str "code")) (.cons (.v 1) .nil))) .nil []) (.cons (.c .none) .nil)))) .nil)))⟩
-- law_keep: expression dict(own['now']['jobs'])
-- law_untrial: empty dict
-- law_set_trial: expression dict(own['now']['trials'])
-- law_deed_due: expression sorted(left + [deed[1]], key=lambda one: one[0])
-- law_deed_told: expression lambda: suite.put(deed[1])
def f_law_job_of (x : Nat → Nat) : Fn := ⟨2, 5, false, (.cons (.asg (.tup (.cons (.v 2) (.cons (.v 3) (.cons (.v 4) .nil)))) (.idx (.idx (.idx (.v 0) (.c (.str "now"))) (.c (.str "jobs"))) (.v 1))) (.cons (.ret (.tup (.cons (.idx (.idx (.idx (.v 0) (.c (.str "now"))) (.c (.str "trials"))) (.v 2)) (.cons (.v 3) (.cons (.v 4) .nil))))) .nil))⟩
def l0_law_stale (x : Nat → Nat) : Ss := (.cons (.ife (.cmp .NotIn (.v 2) (.idx (.v 0) (.c (.str "known")))) (.cons (.app (.v 1) (.v 2)) .nil) (.cons (.asg (.tup (.cons (.v 3) (.cons (.v 4) (.cons (.v 5) .nil)))) (.idx (.idx (.v 0) (.c (.str "known"))) (.v 2))) (.cons (.ife (.or (.cons (.cmp .NotEq (.call (x n_law_job_of) (.cons (.v 0) (.cons (.v 2) .nil)) .nil []) (.v 4)) (.cons (.cmp .NotEq (.call (x n_must_run) (.cons (.v 5) (.cons (.idx (.idx (.v 0) (.c (.str "now"))) (.c (.str "code"))) (.cons (.lst false (.cons (.v 4) .nil)) .nil))) .nil []) (.lst false .nil)) .nil))) (.cons (.app (.v 1) (.v 2)) .nil) .nil) .nil))) .nil)
def f_law_stale (x : Nat → Nat) : Fn := ⟨1, 6, false, (.cons (.asg (.v 1) (.lst true .nil)) (.cons (.fr (.v 2) (.seq (.srt (.idx (.idx (.v 0) (.c (.str "now"))) (.c (.str "jobs"))))) (l0_law_stale x)) (.cons (.ret (.frz (.v 1))) .nil)))⟩
-- law_ran: expression dict(own)
def f_law_jobs_due (x : Nat → Nat) : Fn := ⟨1, 2, false, (.cons (.ret (.comp false (.v 1) (.seq (.srt (.idx (.idx (.v 0) (.c (.str "now"))) (.c (.str "jobs"))))) .nil (.bin .Add (.tup (.cons (.v 1) .nil)) (.idx (.idx (.idx (.v 0) (.c (.str "now"))) (.c (.str "jobs"))) (.v 1))))) .nil)⟩
-- law_book_right: expression suite.trials()
-- law_suite_right: expression suite.stale()
def f_law_any_deed (x : Nat → Nat) : Fn := ⟨2, 7, false, (.cons (.asg (.v 2) (.call (x n_law_pick) (.cons (.v 0) (.cons (.c (.int 12)) .nil)) .nil [])) (.cons (.asg (.v 3) (.call (x n_bends) (.cons (.idx (.idx (.v 1) (.c (.str "now"))) (.c (.str "code"))) .nil) .nil [])) (.cons (.asg (.v 4) (.call (x n_law_one) (.cons (.v 0) (.cons (.bin .Add (.srt (.idx (.idx (.v 1) (.c (.str "now"))) (.c (.str "trials")))) (.lst false (.cons (.c (.str "trya")) .nil))) .nil)) .nil [])) (.cons (.ife (.or (.cons (.cmp .Lt (.v 2) (.c (.int 2))) (.cons (.and (.cons (.cmp .Eq (.v 2) (.c (.int 2))) (.cons (.cmp .Eq (.v 3) (.lst false .nil)) .nil))) .nil))) (.cons (.ret (.tup (.cons (.c (.str "put")) (.cons (.call (x n_law_one) (.cons (.v 0) (.cons (.call (x n_law_program) (.cons (.v 0) .nil) .nil []) .nil)) .nil []) .nil)))) .nil) .nil) (.cons (.ife (.cmp .Eq (.v 2) (.c (.int 2))) (.cons (.asg (.v 5) (.call (x n_law_one) (.cons (.v 0) (.cons (.v 3) .nil)) .nil [])) (.cons (.ret (.tup (.cons (.c (.str "put")) (.cons (.idx (.comp false (.v 6) (.seq (.call (x n_bent) (.cons (.idx (.idx (.v 1) (.c (.str "now"))) (.c (.str "code"))) (.cons (.v 5) .nil)) .nil [])) (.cons (.cmp .Eq (.idx (.v 6) (.c (.int 0))) (.idx (.v 5) (.c (.int 0)))) .nil) (.v 6)) (.c (.int 0))) .nil)))) .nil)) .nil) (.cons (.ife (.cmp .Eq (.v 2) (.c (.int 3))) (.cons (.ret (.tup (.cons (.c (.str "drop")) (.cons (.call (x n_law_one) (.cons (.v 0) (.cons (.lst false (.cons (.c (.str "f")) (.cons (.c (.str "g")) (.cons (.c (.str "h")) (.cons (.c (.str "zz")) .nil))))) .nil)) .nil []) .nil)))) .nil) .nil) (.cons (.ife (.cmp .Lt (.v 2) (.c (.int 7))) (.cons (.ret (.ite (.cmp .Eq (.call (x n_law_pick) (.cons (.v 0) (.cons (.c (.int 9)) .nil)) .nil []) (.c (.int 0))) (.tup (.cons (.c (.str "untrial")) (.cons (.v 4) .nil))) (.tup (.cons (.c (.str "trial")) (.cons (.call (x n_law_trial) (.cons (.v 0) .nil) .nil []) .nil))))) .nil) .nil) (.cons (.ife (.cmp .Lt (.v 2) (.c (.int 11))) (.cons (.ret (.tup (.cons (.c (.str "keep")) (.cons (.v 4) (.cons (.call (x n_law_choices) (.cons (.v 0) .nil) .nil []) (.cons (.call (x n_law_world) (.cons (.v 0) .nil) .nil []) .nil)))))) .nil) .nil) (.cons (.ret (.tup (.cons (.c (.str "free")) (.cons (.call (x n_law_one) (.cons (.v 0) (.cons (.bin .Add (.srt (.idx (.idx (.v 1) (.c (.str "now"))) (.c (.str "jobs")))) (.lst false (.cons (.c (.int 1)) .nil))) .nil)) .nil []) .nil)))) .nil)))))))))⟩
def f_law_bad_deeds (x : Nat → Nat) : Fn := ⟨2, 9, false, (.cons (.asg (.v 2) (.call (x n_law_one) (.cons (.v 0) (.cons (.bin .Add (.srt (.idx (.idx (.v 1) (.c (.str "now"))) (.c (.str "trials")))) (.lst false (.cons (.c (.str "zz")) .nil))) .nil)) .nil [])) (.cons (.asg (.v 3) (.call (x n_law_spoilt_v2) (.cons (.v 0) (.cons (.call (x n_law_one) (.cons (.v 0) (.cons (.idx (.idx (.v 1) (.c (.str "now"))) (.c (.str "code"))) .nil)) .nil []) .nil)) .nil [])) (.cons (.asg (.v 4) (.call (x n_law_spoilt_v2) (.cons (.v 0) (.cons (.call (x n_law_trial) (.cons (.v 0) .nil) .nil []) .nil)) .nil [])) (.cons (.asg (.v 5) (.call (x n_law_spoilt_v2) (.cons (.v 0) (.cons (.call (x n_law_choices) (.cons (.v 0) .nil) .nil []) .nil)) .nil [])) (.cons (.asg (.v 6) (.call (x n_law_one) (.cons (.v 0) (.cons (.lst false (.cons (.v 5) (.cons (.call (x n_law_choices) (.cons (.v 0) .nil) .nil []) (.cons (.tup (.cons (.bin .Add (.bin .Pow (.c (.int 10)) (.c (.int 9))) (.c (.int 1))) .nil)) (.cons (.bin .Mult (.tup (.cons (.c (.int 0)) .nil)) (.c (.int 61))) .nil))))) .nil)) .nil [])) (.cons (.asg (.v 7) (.call (x n_law_one) (.cons (.v 0) (.cons (.lst false (.cons (.call (x n_law_spoilt_v2) (.cons (.v 0) (.cons (.call (x n_law_world) (.cons (.v 0) .nil) .nil []) .nil)) .nil []) (.cons (.call (x n_law_world) (.cons (.v 0) .nil) .nil []) (.cons (.tup (.cons (.c (.int 1001)) .nil)) (.cons (.bin .Mult (.tup (.cons (.c (.int 0)) .nil)) (.c (.int 31))) .nil))))) .nil)) .nil [])) (.cons (.asg (.v 8) (.lst false (.cons (.tup (.cons (.c (.str "put")) (.cons (.v 3) .nil))) (.cons (.tup (.cons (.c (.str "trial")) (.cons (.v 4) .nil))) (.cons (.tup (.cons (.c (.str "keep")) (.cons (.v 2) (.cons (.v 6) (.cons (.v 7) .nil))))) (.cons (.tup (.cons (.c (.str "free")) (.cons (.call (x n_law_odd) (.cons (.v 0) .nil) .nil []) .nil))) .nil)))))) (.cons (.asg (.v 8) (.bin .Add (.v 8) (.lst false (.cons (.tup (.cons (.c (.str "keep")) (.cons (.call (x n_law_odd) (.cons (.v 0) .nil) .nil []) (.cons (.v 6) (.cons (.v 7) .nil))))) (.cons (.tup (.cons (.c (.str "drop")) (.cons (.c (.str "zzz")) .nil))) (.cons (.tup (.cons (.c (.str "untrial")) (.cons (.c (.str "zzz")) .nil))) .nil)))))) (.cons (.ret (.bin .Add (.v 8) (.lst false (.cons (.tup (.cons (.c (.str "put")) (.cons (.call (x n_law_odd) (.cons (.v 0) .nil) .nil []) .nil))) .nil)))) .nil)))))))))⟩
-- law_gone: expression lambda: suite.back()
-- law_own_of: expression suite.program()
-- law_book_of: expression suite.program()
def l0_are_deeds (x : Nat → Nat) : Ss := (.cons (.ife (.or (.cons (.not (.isi (.v 1) "tuple")) (.cons (.cmp .Eq (.v 1) (.tup .nil)) (.cons (.not (.isi (.idx (.v 1) (.c (.int 0))) "str")) .nil)))) (.cons (.ret (.c (.bool false))) .nil) .nil) (.cons (.ife (.cmp .NotEq (.get2 (.g (x n_SIZES)) (.idx (.v 1) (.c (.int 0))) (.neg (.c (.int 1)))) (.bin .Sub (.blt .len (.cons (.v 1) .nil)) (.c (.int 1)))) (.cons (.ret (.c (.bool false))) .nil) .nil) .nil))
def f_are_deeds (x : Nat → Nat) : Fn := ⟨1, 2, false, (.cons (.ife (.not (.isi (.v 0) "list")) (.cons (.ret (.c (.bool false))) .nil) .nil) (.cons (.fr (.v 1) (.seq (.v 0)) (l0_are_deeds x)) (.cons (.ret (.c (.bool true))) .nil)))⟩
-- law_keep_v2: expression dict(own['now']['jobs'])
-- law_deed_due_v2: expression sorted(left + [deed[1]], key=lambda one: one[0])
-- law_back_due: expression dict(own)
-- law_row_due: expression dict(own)
def l0_law_are_deeds (x : Nat → Nat) : Ss := (.cons (.ife (.or (.cons (.not (.isi (.v 2) "tuple")) (.cons (.cmp .Eq (.v 2) (.tup .nil)) (.cons (.not (.isi (.idx (.v 2) (.c (.int 0))) "str")) .nil)))) (.cons (.ret (.c (.bool false))) .nil) .nil) (.cons (.ife (.cmp .NotEq (.blt .len (.cons (.v 2) .nil)) (.get2 (.v 1) (.idx (.v 2) (.c (.int 0))) (.c (.int 0)))) (.cons (.ret (.c (.bool false))) .nil) .nil) .nil))
def f_law_are_deeds (x : Nat → Nat) : Fn := ⟨1, 3, false, (.cons (.asg (.v 1) (.dct false (.cons (.c (.str "put")) (.cons (.c (.int 2)) (.cons (.c (.str "drop")) (.cons (.c (.int 2)) (.cons (.c (.str "trial")) (.cons (.c (.int 2)) (.cons (.c (.str "untrial")) (.cons (.c (.int 2)) (.cons (.c (.str "keep")) (.cons (.c (.int 4)) (.cons (.c (.str "free")) (.cons (.c (.int 2)) .nil)))))))))))))) (.cons (.ife (.not (.isi (.v 0) "list")) (.cons (.ret (.c (.bool false))) .nil) .nil) (.cons (.fr (.v 2) (.seq (.v 0)) (l0_law_are_deeds x)) (.cons (.ret (.c (.bool true))) .nil))))⟩
def l0_law_since (x : Nat → Nat) : Ss := (.cons (.ife (.cmp .Eq (.v 4) (.v 1)) (.cons (.ife (.cmp .NotEq (.idx (.v 5) (.c (.int 0))) (.c (.str "bad"))) (.cons (.asg (.v 2) (.c .none)) .nil) (.cons (.ife (.cmp .Is (.v 2) (.c .none)) (.cons (.asg (.v 2) (.v 3)) .nil) .nil) .nil)) .nil) .nil) .nil)
def f_law_since (x : Nat → Nat) : Fn := ⟨2, 6, false, (.cons (.asg (.v 2) (.c .none)) (.cons (.fr (.tup (.cons (.v 3) (.cons (.v 4) (.cons (.v 5) .nil)))) (.seq (.v 0)) (l0_law_since x)) (.cons (.ret (.v 2)) .nil)))⟩
-- law_deed_done: expression suite.keep(name, _law_choices(deck))
-- law_results_right: empty dict
def f_show_numbers (x : Nat → Nat) : Fn := ⟨1, 2, false, (.cons (.ret (.bin .Add (.bin .Add (.c (.str "[")) (.mth .join (.c (.str " ")) (.cons (.comp false (.v 1) (.seq (.v 0)) .nil (.blt .str1 (.cons (.v 1) .nil))) .nil))) (.c (.str "]")))) .nil)⟩
def f_show_value (x : Nat → Nat) : Fn := ⟨1, 1, false, (.cons (.ife (.isi (.v 0) "bool") (.cons (.ret (.ite (.v 0) (.c (.str "true")) (.c (.str "false")))) .nil) .nil) (.cons (.ret (.ite (.isi (.v 0) "tuple") (.call (x n_show_numbers) (.cons (.v 0) .nil) .nil []) (.blt .str1 (.cons (.v 0) .nil)))) .nil))⟩
def f_bracketed (x : Nat → Nat) : Fn := ⟨1, 1, false, (.cons (.ret (.bin .Add (.bin .Add (.c (.str "(")) (.mth .join (.c (.str " ")) (.cons (.v 0) .nil))) (.c (.str ")")))) .nil)⟩
-- show_expression: target *parts
def f_show_function (x : Nat → Nat) : Fn := ⟨1, 4, false, (.cons (.asg (.tup (.cons (.v 1) (.cons (.v 2) (.cons (.v 3) .nil)))) (.v 0)) (.cons (.ret (.bin .Add (.bin .Add (.mth .join (.c (.str " ")) (.cons (.bin .Add (.lst false (.cons (.c (.str "fn")) (.cons (.v 1) .nil))) (.blt .lst1 (.cons (.v 2) .nil))) .nil)) (.c (.str " = "))) (.call (x n_show_expression) (.cons (.v 3) .nil) .nil []))) .nil))⟩
-- show_maker: target *parts
-- show_trial: expression f'trial {trial[0]} = '
def f_show_book (x : Nat → Nat) : Fn := ⟨2, 4, false, (.cons (.ret (.mth .join (.c (.str "\n")) (.cons (.bin .Add (.comp false (.v 2) (.seq (.v 0)) .nil (.call (x n_show_function) (.cons (.v 2) .nil) .nil [])) (.comp false (.v 3) (.seq (.v 1)) .nil (.call (x n_show_trial) (.cons (.v 3) .nil) .nil []))) .nil))) .nil)⟩
def f_law_show_value (x : Nat → Nat) : Fn := ⟨1, 2, false, (.cons (.ife (.isi (.v 0) "bool") (.cons (.ret (.idx (.lst false (.cons (.c (.str "false")) (.cons (.c (.str "true")) .nil))) (.blt .int1 (.cons (.v 0) .nil)))) .nil) .nil) (.cons (.ife (.isi (.v 0) "tuple") (.cons (.ret (.bin .Add (.bin .Add (.c (.str "[")) (.mth .join (.c (.str " ")) (.cons (.comp false (.v 1) (.seq (.v 0)) .nil (.blt .str1 (.cons (.v 1) .nil))) .nil))) (.c (.str "]")))) .nil) .nil) (.cons (.ret (.blt .str1 (.cons (.v 0) .nil))) .nil)))⟩
def f_law_show (x : Nat → Nat) : Fn := ⟨1, 4, false, (.cons (.asg (.v 1) (.idx (.v 0) (.c (.int 0)))) (.cons (.ife (.cmp .In (.v 1) (.tup (.cons (.c (.str "number")) (.cons (.c (.str "truth")) (.cons (.c (.str "row")) .nil))))) (.cons (.ret (.call (x n_law_show_value) (.cons (.idx (.v 0) (.c (.int 1))) .nil) .nil [])) .nil) .nil) (.cons (.ife (.cmp .Eq (.v 1) (.c (.str "name"))) (.cons (.ret (.idx (.v 0) (.c (.int 1)))) .nil) .nil) (.cons (.ife (.cmp .Eq (.v 1) (.c (.str "if"))) (.cons (.ret (.bin .Add (.bin .Add (.c (.str "(if ")) (.mth .join (.c (.str " ")) (.cons (.comp false (.v 3) (.seq (.slc (.v 0) (.yes (.c (.int 1))) .no)) .nil (.call (x n_law_show) (.cons (.v 3) .nil) .nil [])) .nil))) (.c (.str ")")))) .nil) .nil) (.cons (.ife (.cmp .Eq (.v 1) (.c (.str "let"))) (.cons (.asg (.v 2) (.lst false (.cons (.idx (.v 0) (.c (.int 1))) (.cons (.call (x n_law_show) (.cons (.idx (.v 0) (.c (.int 2))) .nil) .nil []) (.cons (.call (x n_law_show) (.cons (.idx (.v 0) (.c (.int 3))) .nil) .nil []) .nil))))) (.cons (.ret (.bin .Add (.bin .Add (.c (.str "(let ")) (.mth .join (.c (.str " ")) (.cons (.v 2) .nil))) (.c (.str ")")))) .nil)) .nil) (.cons (.ret (.bin .Add (.bin .Add (.c (.str "(")) (.mth .join (.c (.str " ")) (.cons (.bin .Add (.lst false (.cons (.idx (.v 0) (.c (.int 1))) .nil)) (.comp false (.v 3) (.seq (.idx (.v 0) (.c (.int 2)))) .nil (.call (x n_law_show) (.cons (.v 3) .nil) .nil []))) .nil))) (.c (.str ")")))) .nil))))))⟩
def f_law_show_function (x : Nat → Nat) : Fn := ⟨1, 1, false, (.cons (.ret (.bin .Add (.bin .Add (.mth .join (.c (.str " ")) (.cons (.bin .Add (.tup (.cons (.c (.str "fn")) (.cons (.idx (.v 0) (.c (.int 0))) .nil))) (.idx (.v 0) (.c (.int 1)))) .nil)) (.c (.str " = "))) (.call (x n_law_show) (.cons (.idx (.v 0) (.c (.int 2))) .nil) .nil []))) .nil)⟩
-- law_show_maker: list(..) written to
def f_law_show_trial (x : Nat → Nat) : Fn := ⟨1, 3, false, (.cons (.asg (.v 1) (.bin .Add (.lst false (.cons (.idx (.v 0) (.c (.int 1))) .nil)) (.comp false (.v 2) (.seq (.idx (.v 0) (.c (.int 2)))) .nil (.call (x n_law_show_maker) (.cons (.v 2) .nil) .nil [])))) (.cons (.ret (.bin .Add (.bin .Add (.bin .Add (.c (.str "trial ")) (.idx (.v 0) (.c (.int 0)))) (.c (.str " = "))) (.mth .join (.c (.str " ")) (.cons (.v 1) .nil)))) .nil))⟩
def f_law_show_book (x : Nat → Nat) : Fn := ⟨2, 5, false, (.cons (.asg (.v 2) (.comp false (.v 3) (.seq (.v 0)) .nil (.call (x n_law_show_function) (.cons (.v 3) .nil) .nil []))) (.cons (.ret (.mth .join (.c (.str "\n")) (.cons (.bin .Add (.v 2) (.comp false (.v 4) (.seq (.v 1)) .nil (.call (x n_law_show_trial) (.cons (.v 4) .nil) .nil []))) .nil))) .nil))⟩
-- law_some_trials: empty dict
def f_is_maker_in_form (x : Nat → Nat) : Fn := ⟨1, 1, false, (.cons (.ret (.and (.cons (.call (x n_is_formed_v2) (.cons (.c .none) (.cons (.v 0) (.cons (.g (x n_MOST_PARTS)) .nil))) .nil []) (.cons (.cmp .LtE (.call (x n_parts_in) (.cons (.v 0) .nil) .nil []) (.g (x n_MOST_PARTS))) .nil)))) .nil)⟩
-- split_up: expression text.replace(mark, f' {mark} ')
def c0_tree_from (x : Nat → Nat) : E := (.and (.cons (.cmp .Lt (.v 5) (.blt .len (.cons (.v 0) .nil))) (.cons (.cmp .NotEq (.idx (.v 0) (.v 5)) (.v 3)) .nil)))
def w1_tree_from (x : Nat → Nat) : Ss := (.cons (.asg (.v 6) (.call (x n_tree_from) (.cons (.v 0) (.cons (.v 5) (.cons (.bin .Sub (.v 2) (.c (.int 1))) .nil))) .nil [])) (.cons (.ife (.cmp .Is (.v 6) (.c .none)) (.cons (.ret (.c .none)) .nil) .nil) (.cons (.app (.v 4) (.idx (.v 6) (.c (.int 0)))) (.cons (.asg (.v 5) (.idx (.v 6) (.c (.int 1)))) .nil))))
def f_tree_from (x : Nat → Nat) : Fn := ⟨3, 7, false, (.cons (.ife (.or (.cons (.cmp .GtE (.v 1) (.blt .len (.cons (.v 0) .nil))) (.cons (.cmp .Eq (.v 2) (.c (.int 0))) (.cons (.cmp .In (.idx (.v 0) (.v 1)) (.tup (.cons (.c (.str ")")) (.cons (.c (.str "]")) .nil)))) .nil)))) (.cons (.ret (.c .none)) .nil) .nil) (.cons (.ife (.cmp .NotIn (.idx (.v 0) (.v 1)) (.tup (.cons (.c (.str "(")) (.cons (.c (.str "[")) .nil)))) (.cons (.ret (.tup (.cons (.idx (.v 0) (.v 1)) (.cons (.bin .Add (.v 1) (.c (.int 1))) .nil)))) .nil) .nil) (.cons (.asg (.v 3) (.ite (.cmp .Eq (.idx (.v 0) (.v 1)) (.c (.str "("))) (.c (.str ")")) (.c (.str "]")))) (.cons (.asg (.v 4) (.lst true .nil)) (.cons (.asg (.v 5) (.bin .Add (.v 1) (.c (.int 1)))) (.cons (.whl 1000000 (c0_tree_from x) (w1_tree_from x)) (.cons (.ife (.cmp .GtE (.v 5) (.blt .len (.cons (.v 0) .nil))) (.cons (.ret (.c .none)) .nil) .nil) (.cons (.ret (.tup (.cons (.ite (.cmp .Eq (.v 3) (.c (.str ")"))) (.blt .tup1 (.cons (.v 4) .nil)) (.bin .Add (.tup (.cons (.c (.str "[")) .nil)) (.blt .tup1 (.cons (.v 4) .nil)))) (.cons (.bin .Add (.v 5) (.c (.int 1))) .nil)))) .nil))))))))⟩
def c0_trees_in (x : Nat → Nat) : E := (.cmp .Lt (.v 3) (.blt .len (.cons (.v 1) .nil)))
def w1_trees_in (x : Nat → Nat) : Ss := (.cons (.asg (.v 4) (.call (x n_tree_from) (.cons (.v 1) (.cons (.v 3) (.cons (.g (x n_MOST_TREES)) .nil))) .nil [])) (.cons (.ife (.cmp .Is (.v 4) (.c .none)) (.cons (.ret (.c .none)) .nil) .nil) (.cons (.app (.v 2) (.idx (.v 4) (.c (.int 0)))) (.cons (.asg (.v 3) (.idx (.v 4) (.c (.int 1)))) .nil))))
def f_trees_in (x : Nat → Nat) : Fn := ⟨1, 5, false, (.cons (.asg (.v 1) (.call (x n_split_up) (.cons (.v 0) .nil) .nil [])) (.cons (.asg (.v 2) (.lst true .nil)) (.cons (.asg (.v 3) (.c (.int 0))) (.cons (.whl 1000000 (c0_trees_in x) (w1_trees_in x)) (.cons (.ret (.frz (.v 2))) .nil)))))⟩
def f_whole_in (x : Nat → Nat) : Fn := ⟨1, 3, false, (.cons (.ife (.not (.isi (.v 0) "str")) (.cons (.ret (.c .none)) .nil) .nil) (.cons (.asg (.v 1) (.ite (.cmp .Eq (.slc (.v 0) .no (.yes (.c (.int 1)))) (.c (.str "-"))) (.slc (.v 0) (.yes (.c (.int 1))) .no) (.v 0))) (.cons (.ife (.or (.cons (.not (.chain .LtE .LtE (.c (.int 1)) (.blt .len (.cons (.v 1) .nil)) (.g (x n_MOST_FIGURES)))) (.cons (.not (.blt .all1 (.cons (.comp false (.v 2) (.seq (.v 1)) .nil (.chain .LtE .LtE (.c (.str "0")) (.v 2) (.c (.str "9")))) .nil))) .nil))) (.cons (.ret (.c .none)) .nil) .nil) (.cons (.ret (.ite (.cmp .Eq (.blt .str1 (.cons (.blt .int1 (.cons (.v 0) .nil)) .nil)) (.v 0)) (.blt .int1 (.cons (.v 0) .nil)) (.c .none))) .nil))))⟩
def f_value_in (x : Nat → Nat) : Fn := ⟨1, 3, false, (.cons (.ife (.cmp .In (.v 0) (.tup (.cons (.c (.str "true")) (.cons (.c (.str "false")) .nil)))) (.cons (.ret (.cmp .Eq (.v 0) (.c (.str "true")))) .nil) .nil) (.cons (.ife (.and (.cons (.isi (.v 0) "tuple") (.cons (.cmp .Eq (.slc (.v 0) .no (.yes (.c (.int 1)))) (.tup (.cons (.c (.str "[")) .nil))) .nil))) (.cons (.asg (.v 1) (.blt .tup1 (.cons (.comp false (.v 2) (.seq (.slc (.v 0) (.yes (.c (.int 1))) .no)) .nil (.call (x n_whole_in) (.cons (.v 2) .nil) .nil [])) .nil))) (.cons (.ret (.ite (.cmp .In (.c .none) (.v 1)) (.c .none) (.v 1))) .nil)) .nil) (.cons (.ret (.call (x n_whole_in) (.cons (.v 0) .nil) .nil [])) .nil)))⟩
def f_expression_in (x : Nat → Nat) : Fn := ⟨1, 6, false, (.cons (.asg (.v 1) (.call (x n_value_in) (.cons (.v 0) .nil) .nil [])) (.cons (.ife (.cmp .IsNot (.v 1) (.c .none)) (.cons (.asg (.v 3) (.ite (.isi (.v 1) "tuple") (.c (.str "row")) (.ite (.isi (.v 1) "bool") (.c (.str "truth")) (.c (.str "number"))))) (.cons (.ret (.tup (.cons (.v 3) (.cons (.v 1) .nil)))) .nil)) .nil) (.cons (.ife (.isi (.v 0) "str") (.cons (.ret (.tup (.cons (.c (.str "name")) (.cons (.v 0) .nil)))) .nil) .nil) (.cons (.ife (.or (.cons (.cmp .Eq (.v 0) (.tup .nil)) (.cons (.not (.isi (.idx (.v 0) (.c (.int 0))) "str")) (.cons (.cmp .Eq (.idx (.v 0) (.c (.int 0))) (.c (.str "["))) .nil)))) (.cons (.ret (.c .none)) .nil) .nil) (.cons (.ife (.cmp .Eq (.idx (.v 0) (.c (.int 0))) (.c (.str "let"))) (.cons (.asg (.v 4) (.ite (.cmp .Eq (.blt .len (.cons (.v 0) .nil)) (.c (.int 4))) (.idx (.v 0) (.c (.int 1))) (.tup .nil))) (.cons (.ret (.bin .Add (.tup (.cons (.c (.str "let")) (.cons (.v 4) .nil))) (.blt .tup1 (.cons (.comp false (.v 5) (.seq (.slc (.v 0) (.yes (.c (.int 2))) .no)) .nil (.call (x n_expression_in) (.cons (.v 5) .nil) .nil [])) .nil)))) .nil)) .nil) (.cons (.asg (.v 2) (.blt .tup1 (.cons (.comp false (.v 5) (.seq (.slc (.v 0) (.yes (.c (.int 1))) .no)) .nil (.call (x n_expression_in) (.cons (.v 5) .nil) .nil [])) .nil))) (.cons (.ife (.cmp .Eq (.idx (.v 0) (.c (.int 0))) (.c (.str "if"))) (.cons (.ret (.bin .Add (.tup (.cons (.c (.str "if")) .nil)) (.v 2))) .nil) .nil) (.cons (.ret (.tup (.cons (.ite (.cmp .In (.idx (.v 0) (.c (.int 0))) (.g (x n_COUNTS))) (.c (.str "do")) (.c (.str "call"))) (.cons (.idx (.v 0) (.c (.int 0))) (.cons (.v 2) .nil))))) .nil))))))))⟩
-- maker_in: target *parts
def f_function_in (x : Nat → Nat) : Fn := ⟨1, 7, false, (.cons (.asg (.tup (.cons (.v 4) (.cons (.v 5) (.cons (.v 6) .nil)))) (.mth .partition (.v 0) (.cons (.c (.str " = ")) .nil))) (.cons (.asg (.v 1) (.mth .split (.v 4) (.cons (.c (.str " ")) .nil))) (.cons (.asg (.v 2) (.call (x n_trees_in) (.cons (.v 6) .nil) .nil [])) (.cons (.ife (.or (.cons (.cmp .Lt (.blt .len (.cons (.v 1) .nil)) (.c (.int 2))) (.cons (.cmp .NotEq (.idx (.v 1) (.c (.int 0))) (.c (.str "fn"))) (.cons (.cmp .Is (.v 2) (.c .none)) (.cons (.cmp .NotEq (.blt .len (.cons (.v 2) .nil)) (.c (.int 1))) .nil))))) (.cons (.ret (.c .none)) .nil) .nil) (.cons (.asg (.v 3) (.tup (.cons (.idx (.v 1) (.c (.int 1))) (.cons (.blt .tup1 (.cons (.slc (.v 1) (.yes (.c (.int 2))) .no) .nil)) (.cons (.call (x n_expression_in) (.cons (.idx (.v 2) (.c (.int 0))) .nil) .nil []) .nil))))) (.cons (.ret (.ite (.and (.cons (.call (x n_is_function_v2) (.cons (.v 3) .nil) .nil []) (.cons (.cmp .Eq (.call (x n_show_function) (.cons (.v 3) .nil) .nil []) (.v 0)) .nil))) (.v 3) (.c .none))) .nil))))))⟩
def f_trial_in (x : Nat → Nat) : Fn := ⟨1, 9, false, (.cons (.asg (.tup (.cons (.v 4) (.cons (.v 5) (.cons (.v 6) .nil)))) (.mth .partition (.v 0) (.cons (.c (.str " = ")) .nil))) (.cons (.asg (.v 1) (.mth .split (.v 4) (.cons (.c (.str " ")) .nil))) (.cons (.asg (.v 2) (.call (x n_trees_in) (.cons (.v 6) .nil) .nil [])) (.cons (.ife (.or (.cons (.cmp .NotEq (.blt .len (.cons (.v 1) .nil)) (.c (.int 2))) (.cons (.cmp .NotEq (.idx (.v 1) (.c (.int 0))) (.c (.str "trial"))) (.cons (.not (.call (x n_is_name) (.cons (.idx (.v 1) (.c (.int 1))) .nil) .nil [])) (.cons (.cmp .Is (.v 2) (.c .none)) (.cons (.cmp .Eq (.v 2) (.lst false .nil)) .nil)))))) (.cons (.ret (.c .none)) .nil) .nil) (.cons (.asg (.v 3) (.tup (.cons (.idx (.v 1) (.c (.int 1))) (.cons (.idx (.v 2) (.c (.int 0))) (.cons (.blt .tup1 (.cons (.comp false (.v 7) (.seq (.slc (.v 2) (.yes (.c (.int 1))) .no)) .nil (.call (x n_maker_in) (.cons (.v 7) .nil) .nil [])) .nil)) .nil))))) (.cons (.ife (.or (.cons (.cmp .Gt (.blt .len (.cons (.idx (.v 3) (.c (.int 2))) .nil)) (.g (x n_MOST_PARAMETERS))) (.cons (.not (.isi (.idx (.v 2) (.c (.int 0))) "str")) (.cons (.not (.call (x n_is_name) (.cons (.idx (.v 2) (.c (.int 0))) .nil) .nil [])) .nil)))) (.cons (.ret (.c .none)) .nil) .nil) (.cons (.ife (.not (.blt .all1 (.cons (.comp false (.v 8) (.seq (.idx (.v 3) (.c (.int 2)))) .nil (.call (x n_is_maker_in_form) (.cons (.v 8) .nil) .nil [])) .nil))) (.cons (.ret (.c .none)) .nil) .nil) (.cons (.ret (.ite (.cmp .Eq (.call (x n_show_trial) (.cons (.v 3) .nil) .nil []) (.v 0)) (.v 3) (.c .none))) .nil))))))))⟩
-- read_book: statement raise NoText(0)
-- read_numbers: statement raise NoText(0)
def f_law_bent_text (x : Nat → Nat) : Fn := ⟨2, 8, false, (.cons (.asg (.v 2) (.call (x n_law_pick) (.cons (.v 0) (.cons (.bin .Add (.blt .len (.cons (.v 1) .nil)) (.c (.int 1))) .nil)) .nil [])) (.cons (.asg (.v 3) (.idx (.c (.str "abfxyt019-()[] =\n")) (.call (x n_law_pick) (.cons (.v 0) (.cons (.c (.int 17)) .nil)) .nil []))) (.cons (.asg (.v 4) (.call (x n_law_pick) (.cons (.v 0) (.cons (.c (.int 8)) .nil)) .nil [])) (.cons (.ife (.cmp .Eq (.v 4) (.c (.int 0))) (.cons (.ret (.bin .Add (.bin .Add (.slc (.v 1) .no (.yes (.v 2))) (.v 3)) (.slc (.v 1) (.yes (.v 2)) .no))) .nil) .nil) (.cons (.ife (.cmp .Lt (.v 4) (.c (.int 3))) (.cons (.ret (.bin .Add (.slc (.v 1) .no (.yes (.v 2))) (.slc (.v 1) (.yes (.bin .Add (.v 2) (.c (.int 1)))) .no))) .nil) .nil) (.cons (.ife (.cmp .Eq (.v 4) (.c (.int 3))) (.cons (.ret (.bin .Add (.bin .Add (.slc (.v 1) .no (.yes (.v 2))) (.v 3)) (.slc (.v 1) (.yes (.bin .Add (.v 2) (.c (.int 1)))) .no))) .nil) .nil) (.cons (.asg (.v 5) (.ite (.cmp .Eq (.v 4) (.c (.int 4))) (.c (.str "\n")) (.c (.str " ")))) (.cons (.asg (.v 6) (.mth .split (.v 1) (.cons (.v 5) .nil))) (.cons (.asg (.v 2) (.call (x n_law_pick) (.cons (.v 0) (.cons (.blt .len (.cons (.v 6) .nil)) .nil)) .nil [])) (.cons (.ife (.cmp .Lt (.v 4) (.c (.int 6))) (.cons (.ret (.mth .join (.v 5) (.cons (.bin .Add (.slc (.v 6) .no (.yes (.v 2))) (.slc (.v 6) (.yes (.bin .Add (.v 2) (.c (.int 1)))) .no)) .nil))) .nil) .nil) (.cons (.ife (.cmp .Eq (.v 4) (.c (.int 6))) (.cons (.ret (.mth .join (.v 5) (.cons (.bin .Add (.slc (.v 6) .no (.yes (.bin .Add (.v 2) (.c (.int 1))))) (.slc (.v 6) (.yes (.v 2)) .no)) .nil))) .nil) .nil) (.cons (.asg (.v 7) (.call (x n_law_pick) (.cons (.v 0) (.cons (.blt .len (.cons (.v 6) .nil)) .nil)) .nil [])) (.cons (.asg (.tup (.cons (.idx (.v 6) (.v 2)) (.cons (.idx (.v 6) (.v 7)) .nil))) (.tup (.cons (.idx (.v 6) (.v 7)) (.cons (.idx (.v 6) (.v 2)) .nil)))) (.cons (.ret (.mth .join (.v 5) (.cons (.v 6) .nil))) .nil))))))))))))))⟩
-- law_read: statement try:     found = ('told', read_book(text)) except NoText as e:     found = e.lin
-- law_book_good: expression sorted(set(names))
def f_law_number_in (x : Nat → Nat) : Fn := ⟨1, 3, false, (.cons (.asg (.v 1) (.ite (.cmp .Eq (.slc (.v 0) .no (.yes (.c (.int 1)))) (.c (.str "-"))) (.slc (.v 0) (.yes (.c (.int 1))) .no) (.v 0))) (.cons (.ife (.or (.cons (.cmp .Eq (.v 1) (.c (.str ""))) (.cons (.cmp .Gt (.blt .len (.cons (.v 1) .nil)) (.c (.int 10))) (.cons (.cmp .NotEq (.comp false (.v 2) (.seq (.v 1)) (.cons (.cmp .NotIn (.v 2) (.c (.str "0123456789"))) .nil) (.v 2)) (.lst false .nil)) .nil)))) (.cons (.ret (.c .none)) .nil) .nil) (.cons (.ret (.ite (.cmp .Eq (.blt .str1 (.cons (.blt .int1 (.cons (.v 0) .nil)) .nil)) (.v 0)) (.blt .int1 (.cons (.v 0) .nil)) (.c .none))) .nil)))⟩
def f_law_numbers_in (x : Nat → Nat) : Fn := ⟨1, 3, false, (.cons (.ife (.or (.cons (.not (.isi (.v 0) "str")) (.cons (.cmp .NotEq (.slc (.v 0) .no (.yes (.c (.int 1)))) (.c (.str "["))) (.cons (.cmp .NotEq (.slc (.v 0) (.yes (.neg (.c (.int 1)))) .no) (.c (.str "]"))) (.cons (.cmp .Lt (.blt .len (.cons (.v 0) .nil)) (.c (.int 2))) .nil))))) (.cons (.ret (.c .none)) .nil) .nil) (.cons (.ife (.cmp .Eq (.v 0) (.c (.str "[]"))) (.cons (.ret (.tup .nil)) .nil) .nil) (.cons (.asg (.v 1) (.comp false (.v 2) (.seq (.mth .split (.slc (.v 0) (.yes (.c (.int 1))) (.yes (.neg (.c (.int 1))))) (.cons (.c (.str " ")) .nil))) .nil (.call (x n_law_number_in) (.cons (.v 2) .nil) .nil []))) (.cons (.ret (.ite (.cmp .In (.c .none) (.v 1)) (.c .none) (.blt .tup1 (.cons (.v 1) .nil)))) .nil))))⟩
-- law_report: expression suite.jobs()
structure N_is_from (P : List Fn) (gs : List T) (x : Nat → Nat) : Prop where
  f_is_from : P[x n_is_from]? = some (f_is_from x)
structure N_is_name (P : List Fn) (gs : List T) (x : Nat → Nat) : Prop where
  f_is_name : P[x n_is_name]? = some (f_is_name x)
  g_WORDS : gs[x n_WORDS]? = some (.tuple [(.str "and"), (.str "below"), (.str "first"), (.str "long"), (.str "minus"), (.str "not"), (.str "or"), (.str "others"), (.str "over"), (.str "plus"), (.str "put"), (.str "rest"), (.str "same"), (.str "times"), (.str "world")])
  g_KEPT : gs[x n_KEPT]? = some (.tuple [(.str "by"), (.str "false"), (.str "fn"), (.str "if"), (.str "just"), (.str "let"), (.str "one"), (.str "row"), (.str "trial"), (.str "true"), (.str "truth"), (.str "where"), (.str "whole")])
  g_LETTERS : gs[x n_LETTERS]? = some (.str "abcdefghijklmnopqrstuvwxyz")
structure N_is_value_by (P : List Fn) (gs : List T) (x : Nat → Nat) : Prop where
  f_is_value_by : P[x n_is_value_by]? = some (f_is_value_by x)
  g_LONGEST : gs[x n_LONGEST]? = some (.int 30)
  s_is_from : N_is_from P gs x
structure N_is_value (P : List Fn) (gs : List T) (x : Nat → Nat) : Prop where
  f_is_value : P[x n_is_value]? = some (f_is_value x)
  g_LIMIT : gs[x n_LIMIT]? = some (.int 1000000000000)
  s_is_value_by : N_is_value_by P gs x
structure N_law_deck (P : List Fn) (gs : List T) (x : Nat → Nat) : Prop where
  f_law_deck : P[x n_law_deck]? = some (f_law_deck x)
structure N_law_pick (P : List Fn) (gs : List T) (x : Nat → Nat) : Prop where
  f_law_pick : P[x n_law_pick]? = some (f_law_pick x)
structure N_law_whole (P : List Fn) (gs : List T) (x : Nat → Nat) : Prop where
  f_law_whole : P[x n_law_whole]? = some (f_law_whole x)
structure N_law_thing (P : List Fn) (gs : List T) (x : Nat → Nat) : Prop where
  f_law_thing : P[x n_law_thing]? = some (f_law_thing x)
  s_law_pick : N_law_pick P gs x
structure N_law_spoilt (P : List Fn) (gs : List T) (x : Nat → Nat) : Prop where
  f_law_spoilt : P[x n_law_spoilt]? = some (f_law_spoilt x)
  s_law_pick : N_law_pick P gs x
structure N_law_is_name (P : List Fn) (gs : List T) (x : Nat → Nat) : Prop where
  f_law_is_name : P[x n_law_is_name]? = some (f_law_is_name x)
structure N_law_is_value (P : List Fn) (gs : List T) (x : Nat → Nat) : Prop where
  f_law_is_value : P[x n_law_is_value]? = some (f_law_is_value x)
  s_law_whole : N_law_whole P gs x
structure N_straight (P : List Fn) (gs : List T) (x : Nat → Nat) : Prop where
  f_straight : P[x n_straight]? = some (f_straight x)
structure N_spots_from (P : List Fn) (gs : List T) (x : Nat → Nat) : Prop where
  f_spots_from : P[x n_spots_from]? = some (f_spots_from x)
  s_straight : N_straight P gs x
structure N_spots (P : List Fn) (gs : List T) (x : Nat → Nat) : Prop where
  f_spots : P[x n_spots]? = some (f_spots x)
  s_spots_from : N_spots_from P gs x
structure N_law_signs (P : List Fn) (gs : List T) (x : Nat → Nat) : Prop where
  f_law_signs : P[x n_law_signs]? = some (f_law_signs x)
structure N_law_leaf (P : List Fn) (gs : List T) (x : Nat → Nat) : Prop where
  f_law_leaf : P[x n_law_leaf]? = some (f_law_leaf x)
  s_law_pick : N_law_pick P gs x
structure N_law_done_of (P : List Fn) (gs : List T) (x : Nat → Nat) : Prop where
  f_law_done_of : P[x n_law_done_of]? = some (f_law_done_of x)
  f_law_tree : P[x n_law_tree]? = some (f_law_tree x)
  s_law_pick : N_law_pick P gs x
  s_law_leaf : N_law_leaf P gs x
  s_law_signs : N_law_signs P gs x
structure N_law_program (P : List Fn) (gs : List T) (x : Nat → Nat) : Prop where
  f_law_program : P[x n_law_program]? = some (f_law_program x)
  s_law_pick : N_law_pick P gs x
  s_law_signs : N_law_signs P gs x
  s_law_done_of : N_law_done_of P gs x
structure N_law_from (P : List Fn) (gs : List T) (x : Nat → Nat) : Prop where
  f_law_from : P[x n_law_from]? = some (f_law_from x)
  s_law_whole : N_law_whole P gs x
structure N_law_inner (P : List Fn) (gs : List T) (x : Nat → Nat) : Prop where
  f_law_inner : P[x n_law_inner]? = some (f_law_inner x)
structure N_law_calls (P : List Fn) (gs : List T) (x : Nat → Nat) : Prop where
  f_law_calls : P[x n_law_calls]? = some (f_law_calls x)
  s_law_inner : N_law_inner P gs x
structure N_law_far (P : List Fn) (gs : List T) (x : Nat → Nat) : Prop where
  f_law_far : P[x n_law_far]? = some (f_law_far x)
  s_law_pick : N_law_pick P gs x
structure N_spots_from_K (P : List Fn) (gs : List T) (x : Nat → Nat) : Prop where
  f_spots_from_K : P[x n_spots_from_K]? = some (f_spots_from_K x)
  s_straight : N_straight P gs x
  s_spots_from : N_spots_from P gs x
structure N_spots_K (P : List Fn) (gs : List T) (x : Nat → Nat) : Prop where
  f_spots_K : P[x n_spots_K]? = some (f_spots_K x)
  s_spots_from_K : N_spots_from_K P gs x
structure N_all_spots (P : List Fn) (gs : List T) (x : Nat → Nat) : Prop where
  f_all_spots : P[x n_all_spots]? = some (f_all_spots x)
  s_spots : N_spots P gs x
structure N_all_spots_K (P : List Fn) (gs : List T) (x : Nat → Nat) : Prop where
  f_all_spots_K : P[x n_all_spots_K]? = some (f_all_spots_K x)
  s_spots : N_spots P gs x
structure N_law_walked (P : List Fn) (gs : List T) (x : Nat → Nat) : Prop where
  f_law_walked : P[x n_law_walked]? = some (f_law_walked x)
structure N_kind_of (P : List Fn) (gs : List T) (x : Nat → Nat) : Prop where
  f_kind_of : P[x n_kind_of]? = some (f_kind_of x)
structure N_is_world (P : List Fn) (gs : List T) (x : Nat → Nat) : Prop where
  f_is_world : P[x n_is_world]? = some (f_is_world x)
  g_MOST_WORLD : gs[x n_MOST_WORLD]? = some (.int 30)
  g_SMALL : gs[x n_SMALL]? = some (.int 1000)
  s_is_from : N_is_from P gs x
structure N_law_args (P : List Fn) (gs : List T) (x : Nat → Nat) : Prop where
  f_law_args : P[x n_law_args]? = some (f_law_args x)
  s_law_pick : N_law_pick P gs x
structure N_law_world (P : List Fn) (gs : List T) (x : Nat → Nat) : Prop where
  f_law_world : P[x n_law_world]? = some (f_law_world x)
  s_law_pick : N_law_pick P gs x
structure N_law_size (P : List Fn) (gs : List T) (x : Nat → Nat) : Prop where
  f_law_size : P[x n_law_size]? = some (f_law_size x)
  s_law_inner : N_law_inner P gs x
structure N_law_kind (P : List Fn) (gs : List T) (x : Nat → Nat) : Prop where
  f_law_kind : P[x n_law_kind]? = some (f_law_kind x)
structure N_law_of_row (P : List Fn) (gs : List T) (x : Nat → Nat) : Prop where
  f_law_of_row : P[x n_law_of_row]? = some (f_law_of_row x)
structure N_law_do (P : List Fn) (gs : List T) (x : Nat → Nat) : Prop where
  f_law_do : P[x n_law_do]? = some (f_law_do x)
  s_law_kind : N_law_kind P gs x
  s_law_of_row : N_law_of_row P gs x
structure N_law_faulty (P : List Fn) (gs : List T) (x : Nat → Nat) : Prop where
  f_law_faulty : P[x n_law_faulty]? = some (f_law_faulty x)
structure N_law_within (P : List Fn) (gs : List T) (x : Nat → Nat) : Prop where
  f_law_within : P[x n_law_within]? = some (f_law_within x)
  s_law_pick : N_law_pick P gs x
structure N_law_is_sea (P : List Fn) (gs : List T) (x : Nat → Nat) : Prop where
  f_law_is_sea : P[x n_law_is_sea]? = some (f_law_is_sea x)
  s_law_whole : N_law_whole P gs x
structure N_law_put (P : List Fn) (gs : List T) (x : Nat → Nat) : Prop where
  f_law_put : P[x n_law_put]? = some (f_law_put x)
  s_law_inner : N_law_inner P gs x
  s_law_size : N_law_size P gs x
structure N_law_called (P : List Fn) (gs : List T) (x : Nat → Nat) : Prop where
  f_law_called : P[x n_law_called]? = some (f_law_called x)
structure N_law_chain (P : List Fn) (gs : List T) (x : Nat → Nat) : Prop where
  f_law_chain : P[x n_law_chain]? = some (f_law_chain x)
structure N_law_steps (P : List Fn) (gs : List T) (x : Nat → Nat) : Prop where
  f_law_steps : P[x n_law_steps]? = some (f_law_steps x)
structure N_is_choices (P : List Fn) (gs : List T) (x : Nat → Nat) : Prop where
  f_is_choices : P[x n_is_choices]? = some (f_is_choices x)
  g_MOST_CHOICES : gs[x n_MOST_CHOICES]? = some (.int 60)
  g_GREATEST : gs[x n_GREATEST]? = some (.int 1000000000)
  s_is_from : N_is_from P gs x
structure N_within (P : List Fn) (gs : List T) (x : Nat → Nat) : Prop where
  f_within : P[x n_within]? = some (f_within x)
structure N_parts_in (P : List Fn) (gs : List T) (x : Nat → Nat) : Prop where
  f_parts_in : P[x n_parts_in]? = some (f_parts_in x)
  s_within : N_within P gs x
structure N_are_ends (P : List Fn) (gs : List T) (x : Nat → Nat) : Prop where
  f_are_ends : P[x n_are_ends]? = some (f_are_ends x)
  s_is_from : N_is_from P gs x
structure N_may_run (P : List Fn) (gs : List T) (x : Nat → Nat) : Prop where
  f_may_run : P[x n_may_run]? = some (f_may_run x)
  g_MOST_PARAMETERS : gs[x n_MOST_PARAMETERS]? = some (.int 4)
  s_is_name : N_is_name P gs x
structure N_law_maker (P : List Fn) (gs : List T) (x : Nat → Nat) : Prop where
  f_law_maker : P[x n_law_maker]? = some (f_law_maker x)
  s_law_pick : N_law_pick P gs x
structure N_law_trial (P : List Fn) (gs : List T) (x : Nat → Nat) : Prop where
  f_law_trial : P[x n_law_trial]? = some (f_law_trial x)
  s_law_pick : N_law_pick P gs x
  s_law_maker : N_law_maker P gs x
structure N_law_choices (P : List Fn) (gs : List T) (x : Nat → Nat) : Prop where
  f_law_choices : P[x n_law_choices]? = some (f_law_choices x)
  s_law_pick : N_law_pick P gs x
structure N_law_parts (P : List Fn) (gs : List T) (x : Nat → Nat) : Prop where
  f_law_parts : P[x n_law_parts]? = some (f_law_parts x)
  s_law_from : N_law_from P gs x
structure N_law_are_choices (P : List Fn) (gs : List T) (x : Nat → Nat) : Prop where
  f_law_are_choices : P[x n_law_are_choices]? = some (f_law_are_choices x)
  s_law_from : N_law_from P gs x
structure N_law_far_v2 (P : List Fn) (gs : List T) (x : Nat → Nat) : Prop where
  f_law_far_v2 : P[x n_law_far_v2]? = some (f_law_far_v2 x)
  s_law_pick : N_law_pick P gs x
structure N_wall (P : List Fn) (gs : List T) (x : Nat → Nat) : Prop where
  f_wall : P[x n_wall]? = some (f_wall x)
structure N_whole_at (P : List Fn) (gs : List T) (x : Nat → Nat) : Prop where
  f_whole_at : P[x n_whole_at]? = some (f_whole_at x)
structure N_law_draw (P : List Fn) (gs : List T) (x : Nat → Nat) : Prop where
  f_law_draw : P[x n_law_draw]? = some (f_law_draw x)
structure N_verdict_of (P : List Fn) (gs : List T) (x : Nat → Nat) : Prop where
  f_verdict_of : P[x n_verdict_of]? = some (f_verdict_of x)
structure N_law_book (P : List Fn) (gs : List T) (x : Nat → Nat) : Prop where
  f_law_book : P[x n_law_book]? = some (f_law_book x)
structure N_law_verdict (P : List Fn) (gs : List T) (x : Nat → Nat) : Prop where
  f_law_verdict : P[x n_law_verdict]? = some (f_law_verdict x)
structure N_row_of (P : List Fn) (gs : List T) (x : Nat → Nat) : Prop where
  f_row_of : P[x n_row_of]? = some (f_row_of x)
  g_MODULUS : gs[x n_MODULUS]? = some (.int 2147483647)
  g_MANY : gs[x n_MANY]? = some (.int 60)
  g_FACTOR : gs[x n_FACTOR]? = some (.int 48271)
  g_SHARE : gs[x n_SHARE]? = some (.int 1000)
structure N_law_pick_v2 (P : List Fn) (gs : List T) (x : Nat → Nat) : Prop where
  f_law_pick_v2 : P[x n_law_pick_v2]? = some (f_law_pick_v2 x)
structure N_law_leaf_v2 (P : List Fn) (gs : List T) (x : Nat → Nat) : Prop where
  f_law_leaf_v2 : P[x n_law_leaf_v2]? = some (f_law_leaf_v2 x)
  s_law_pick_v2 : N_law_pick_v2 P gs x
structure N_law_done_of_v2 (P : List Fn) (gs : List T) (x : Nat → Nat) : Prop where
  f_law_done_of_v2 : P[x n_law_done_of_v2]? = some (f_law_done_of_v2 x)
  f_law_tree_v2 : P[x n_law_tree_v2]? = some (f_law_tree_v2 x)
  s_law_pick_v2 : N_law_pick_v2 P gs x
  s_law_leaf_v2 : N_law_leaf_v2 P gs x
  s_law_signs : N_law_signs P gs x
structure N_law_program_v2 (P : List Fn) (gs : List T) (x : Nat → Nat) : Prop where
  f_law_program_v2 : P[x n_law_program_v2]? = some (f_law_program_v2 x)
  s_law_pick_v2 : N_law_pick_v2 P gs x
  s_law_signs : N_law_signs P gs x
  s_law_done_of_v2 : N_law_done_of_v2 P gs x
structure N_law_maker_v2 (P : List Fn) (gs : List T) (x : Nat → Nat) : Prop where
  f_law_maker_v2 : P[x n_law_maker_v2]? = some (f_law_maker_v2 x)
  s_law_pick_v2 : N_law_pick_v2 P gs x
structure N_law_trial_v2 (P : List Fn) (gs : List T) (x : Nat → Nat) : Prop where
  f_law_trial_v2 : P[x n_law_trial_v2]? = some (f_law_trial_v2 x)
  s_law_pick_v2 : N_law_pick_v2 P gs x
  s_law_maker_v2 : N_law_maker_v2 P gs x
structure N_law_choices_v2 (P : List Fn) (gs : List T) (x : Nat → Nat) : Prop where
  f_law_choices_v2 : P[x n_law_choices_v2]? = some (f_law_choices_v2 x)
  s_law_pick_v2 : N_law_pick_v2 P gs x
structure N_law_world_v2 (P : List Fn) (gs : List T) (x : Nat → Nat) : Prop where
  f_law_world_v2 : P[x n_law_world_v2]? = some (f_law_world_v2 x)
  s_law_pick_v2 : N_law_pick_v2 P gs x
structure N_law_row (P : List Fn) (gs : List T) (x : Nat → Nat) : Prop where
  f_law_row : P[x n_law_row]? = some (f_law_row x)
structure N_order (P : List Fn) (gs : List T) (x : Nat → Nat) : Prop where
  f_order : P[x n_order]? = some (f_order x)
structure N_steps_from (P : List Fn) (gs : List T) (x : Nat → Nat) : Prop where
  f_steps_from : P[x n_steps_from]? = some (f_steps_from x)
  g_MOST_OUT : gs[x n_MOST_OUT]? = some (.int 3)
structure N_law_order (P : List Fn) (gs : List T) (x : Nat → Nat) : Prop where
  f_law_order : P[x n_law_order]? = some (f_law_order x)
structure N_law_bad_book (P : List Fn) (gs : List T) (x : Nat → Nat) : Prop where
  f_law_bad_book : P[x n_law_bad_book]? = some (f_law_bad_book x)
  s_law_pick : N_law_pick P gs x
structure N_law_many (P : List Fn) (gs : List T) (x : Nat → Nat) : Prop where
  f_law_many : P[x n_law_many]? = some (f_law_many x)
  s_law_pick : N_law_pick P gs x
structure N_law_otherwise (P : List Fn) (gs : List T) (x : Nat → Nat) : Prop where
  f_law_otherwise : P[x n_law_otherwise]? = some (f_law_otherwise x)
  s_law_pick : N_law_pick P gs x
structure N_shared (P : List Fn) (gs : List T) (x : Nat → Nat) : Prop where
  f_shared : P[x n_shared]? = some (f_shared x)
structure N_added (P : List Fn) (gs : List T) (x : Nat → Nat) : Prop where
  f_added : P[x n_added]? = some (f_added x)
  s_shared : N_shared P gs x
structure N_law_gcd (P : List Fn) (gs : List T) (x : Nat → Nat) : Prop where
  f_law_gcd : P[x n_law_gcd]? = some (f_law_gcd x)
structure N_law_frac (P : List Fn) (gs : List T) (x : Nat → Nat) : Prop where
  f_law_frac : P[x n_law_frac]? = some (f_law_frac x)
  s_law_gcd : N_law_gcd P gs x
structure N_law_sum (P : List Fn) (gs : List T) (x : Nat → Nat) : Prop where
  f_law_sum : P[x n_law_sum]? = some (f_law_sum x)
  s_law_frac : N_law_frac P gs x
structure N_law_maker_v3 (P : List Fn) (gs : List T) (x : Nat → Nat) : Prop where
  f_law_maker_v3 : P[x n_law_maker_v3]? = some (f_law_maker_v3 x)
  s_law_pick : N_law_pick P gs x
structure N_law_book_v2 (P : List Fn) (gs : List T) (x : Nat → Nat) : Prop where
  f_law_book_v2 : P[x n_law_book_v2]? = some (f_law_book_v2 x)
structure N_law_share (P : List Fn) (gs : List T) (x : Nat → Nat) : Prop where
  f_law_share : P[x n_law_share]? = some (f_law_share x)
structure N_of_number (P : List Fn) (gs : List T) (x : Nat → Nat) : Prop where
  f_of_number : P[x n_of_number]? = some (f_of_number x)
  g_SMALL : gs[x n_SMALL]? = some (.int 1000)
  s_is_from : N_is_from P gs x
structure N_of_word (P : List Fn) (gs : List T) (x : Nat → Nat) : Prop where
  f_of_word : P[x n_of_word]? = some (f_of_word x)
  g_OTHERS : gs[x n_OTHERS]? = some (.dict [((.str "plus"), (.tuple [(.str "minus")])), ((.str "minus"), (.tuple [(.str "plus")])), ((.str "times"), (.tuple [(.str "plus")])), ((.str "over"), (.tuple [(.str "rest")])), ((.str "rest"), (.tuple [(.str "over")]))])
  g_TURNED : gs[x n_TURNED]? = some (.dict [((.str "and"), (.tuple [(.str "or")])), ((.str "or"), (.tuple [(.str "and")]))])
structure N_law_of_size (P : List Fn) (gs : List T) (x : Nat → Nat) : Prop where
  f_law_of_size : P[x n_law_of_size]? = some (f_law_of_size x)
structure N_raised (P : List Fn) (gs : List T) (x : Nat → Nat) : Prop where
  f_raised : P[x n_raised]? = some (f_raised x)
structure N_is_enough (P : List Fn) (gs : List T) (x : Nat → Nat) : Prop where
  f_is_enough : P[x n_is_enough]? = some (f_is_enough x)
  s_raised : N_raised P gs x
structure N_tries_for (P : List Fn) (gs : List T) (x : Nat → Nat) : Prop where
  f_tries_for : P[x n_tries_for]? = some (f_tries_for x)
  s_is_enough : N_is_enough P gs x
structure N_law_power (P : List Fn) (gs : List T) (x : Nat → Nat) : Prop where
  f_law_power : P[x n_law_power]? = some (f_law_power x)
structure N_law_enough (P : List Fn) (gs : List T) (x : Nat → Nat) : Prop where
  f_law_enough : P[x n_law_enough]? = some (f_law_enough x)
  s_law_power : N_law_power P gs x
structure N_law_share_v2 (P : List Fn) (gs : List T) (x : Nat → Nat) : Prop where
  f_law_share_v2 : P[x n_law_share_v2]? = some (f_law_share_v2 x)
  s_law_pick : N_law_pick P gs x
  s_law_frac : N_law_frac P gs x
structure N_law_half (P : List Fn) (gs : List T) (x : Nat → Nat) : Prop where
  f_law_half : P[x n_law_half]? = some (f_law_half x)
  s_law_sum : N_law_sum P gs x
  s_law_frac : N_law_frac P gs x
structure N_law_trimmed_v2 (P : List Fn) (gs : List T) (x : Nat → Nat) : Prop where
  f_law_trimmed_v2 : P[x n_law_trimmed_v2]? = some (f_law_trimmed_v2 x)
structure N_law_two (P : List Fn) (gs : List T) (x : Nat → Nat) : Prop where
  f_law_two : P[x n_law_two]? = some (f_law_two x)
structure N_law_book_v3 (P : List Fn) (gs : List T) (x : Nat → Nat) : Prop where
  f_law_book_v3 : P[x n_law_book_v3]? = some (f_law_book_v3 x)
  s_law_two : N_law_two P gs x
structure N_law_functions_of (P : List Fn) (gs : List T) (x : Nat → Nat) : Prop where
  f_law_functions_of : P[x n_law_functions_of]? = some (f_law_functions_of x)
structure N_places_of (P : List Fn) (gs : List T) (x : Nat → Nat) : Prop where
  f_places_of : P[x n_places_of]? = some (f_places_of x)
structure N_law_ways_v2 (P : List Fn) (gs : List T) (x : Nat → Nat) : Prop where
  f_law_ways_v2 : P[x n_law_ways_v2]? = some (f_law_ways_v2 x)
  s_law_pick_v2 : N_law_pick_v2 P gs x
structure N_law_book_v4 (P : List Fn) (gs : List T) (x : Nat → Nat) : Prop where
  f_law_book_v4 : P[x n_law_book_v4]? = some (f_law_book_v4 x)
structure N_law_word (P : List Fn) (gs : List T) (x : Nat → Nat) : Prop where
  f_law_word : P[x n_law_word]? = some (f_law_word x)
structure N_law_bad_book_v2 (P : List Fn) (gs : List T) (x : Nat → Nat) : Prop where
  f_law_bad_book_v2 : P[x n_law_bad_book_v2]? = some (f_law_bad_book_v2 x)
  s_law_pick_v2 : N_law_pick_v2 P gs x
structure N_law_sort (P : List Fn) (gs : List T) (x : Nat → Nat) : Prop where
  f_law_sort : P[x n_law_sort]? = some (f_law_sort x)
structure N_law_jobs (P : List Fn) (gs : List T) (x : Nat → Nat) : Prop where
  f_law_jobs : P[x n_law_jobs]? = some (f_law_jobs x)
  s_law_pick : N_law_pick P gs x
  s_law_trial : N_law_trial P gs x
  s_law_choices : N_law_choices P gs x
  s_law_world : N_law_world P gs x
structure N_law_tree_spots (P : List Fn) (gs : List T) (x : Nat → Nat) : Prop where
  f_law_tree_spots : P[x n_law_tree_spots]? = some (f_law_tree_spots x)
structure N_law_spots_in (P : List Fn) (gs : List T) (x : Nat → Nat) : Prop where
  f_law_spots_in : P[x n_law_spots_in]? = some (f_law_spots_in x)
  s_law_tree_spots : N_law_tree_spots P gs x
structure N_law_if_places (P : List Fn) (gs : List T) (x : Nat → Nat) : Prop where
  f_law_if_places : P[x n_law_if_places]? = some (f_law_if_places x)
  s_law_tree_spots : N_law_tree_spots P gs x
structure N_law_one (P : List Fn) (gs : List T) (x : Nat → Nat) : Prop where
  f_law_one : P[x n_law_one]? = some (f_law_one x)
  s_law_pick : N_law_pick P gs x
structure N_law_small_code (P : List Fn) (gs : List T) (x : Nat → Nat) : Prop where
  f_law_small_code : P[x n_law_small_code]? = some (f_law_small_code x)
  s_law_one : N_law_one P gs x
  s_law_pick : N_law_pick P gs x
structure N_law_put_at (P : List Fn) (gs : List T) (x : Nat → Nat) : Prop where
  f_law_put_at : P[x n_law_put_at]? = some (f_law_put_at x)
  s_law_tree_spots : N_law_tree_spots P gs x
structure N_law_odd (P : List Fn) (gs : List T) (x : Nat → Nat) : Prop where
  f_law_odd : P[x n_law_odd]? = some (f_law_odd x)
  s_law_one : N_law_one P gs x
structure N_law_spot_of (P : List Fn) (gs : List T) (x : Nat → Nat) : Prop where
  f_law_spot_of : P[x n_law_spot_of]? = some (f_law_spot_of x)
  s_law_tree_spots : N_law_tree_spots P gs x
structure N_law_lowest (P : List Fn) (gs : List T) (x : Nat → Nat) : Prop where
  f_law_lowest : P[x n_law_lowest]? = some (f_law_lowest x)
structure N_law_easy_maker (P : List Fn) (gs : List T) (x : Nat → Nat) : Prop where
  f_law_easy_maker : P[x n_law_easy_maker]? = some (f_law_easy_maker x)
  s_law_pick : N_law_pick P gs x
structure N_law_easy_trial (P : List Fn) (gs : List T) (x : Nat → Nat) : Prop where
  f_law_easy_trial : P[x n_law_easy_trial]? = some (f_law_easy_trial x)
  s_law_easy_maker : N_law_easy_maker P gs x
structure N_law_draws_of (P : List Fn) (gs : List T) (x : Nat → Nat) : Prop where
  f_law_draws_of : P[x n_law_draws_of]? = some (f_law_draws_of x)
  f_law_behind : P[x n_law_behind]? = some (f_law_behind x)
structure N_law_all_draws (P : List Fn) (gs : List T) (x : Nat → Nat) : Prop where
  f_law_all_draws : P[x n_law_all_draws]? = some (f_law_all_draws x)
  s_law_draws_of : N_law_draws_of P gs x
structure N_law_sum_v2 (P : List Fn) (gs : List T) (x : Nat → Nat) : Prop where
  f_law_sum_v2 : P[x n_law_sum_v2]? = some (f_law_sum_v2 x)
structure N_law_less (P : List Fn) (gs : List T) (x : Nat → Nat) : Prop where
  f_law_less : P[x n_law_less]? = some (f_law_less x)
structure N_law_reading (P : List Fn) (gs : List T) (x : Nat → Nat) : Prop where
  f_law_reading : P[x n_law_reading]? = some (f_law_reading x)
  s_law_pick : N_law_pick P gs x
structure N_law_many_worlds (P : List Fn) (gs : List T) (x : Nat → Nat) : Prop where
  f_law_many_worlds : P[x n_law_many_worlds]? = some (f_law_many_worlds x)
  s_law_pick : N_law_pick P gs x
  s_law_world : N_law_world P gs x
structure N_world_spots (P : List Fn) (gs : List T) (x : Nat → Nat) : Prop where
  f_world_spots : P[x n_world_spots]? = some (f_world_spots x)
  s_spots : N_spots P gs x
structure N_world_spots_K (P : List Fn) (gs : List T) (x : Nat → Nat) : Prop where
  f_world_spots_K : P[x n_world_spots_K]? = some (f_world_spots_K x)
  s_spots : N_spots P gs x
structure N_worlds_of (P : List Fn) (gs : List T) (x : Nat → Nat) : Prop where
  f_worlds_of : P[x n_worlds_of]? = some (f_worlds_of x)
  g_NUMBERS : gs[x n_NUMBERS]? = some (.int 4)
structure N_law_worlds_upto (P : List Fn) (gs : List T) (x : Nat → Nat) : Prop where
  f_law_worlds_upto : P[x n_law_worlds_upto]? = some (f_law_worlds_upto x)
structure N_law_called_in (P : List Fn) (gs : List T) (x : Nat → Nat) : Prop where
  f_law_called_in : P[x n_law_called_in]? = some (f_law_called_in x)
structure N_law_job_of (P : List Fn) (gs : List T) (x : Nat → Nat) : Prop where
  f_law_job_of : P[x n_law_job_of]? = some (f_law_job_of x)
structure N_law_jobs_due (P : List Fn) (gs : List T) (x : Nat → Nat) : Prop where
  f_law_jobs_due : P[x n_law_jobs_due]? = some (f_law_jobs_due x)
structure N_are_deeds (P : List Fn) (gs : List T) (x : Nat → Nat) : Prop where
  f_are_deeds : P[x n_are_deeds]? = some (f_are_deeds x)
  g_SIZES : gs[x n_SIZES]? = some (.dict [((.str "put"), (.int 1)), ((.str "drop"), (.int 1)), ((.str "trial"), (.int 1)), ((.str "untrial"), (.int 1)), ((.str "keep"), (.int 3)), ((.str "free"), (.int 1))])
structure N_law_are_deeds (P : List Fn) (gs : List T) (x : Nat → Nat) : Prop where
  f_law_are_deeds : P[x n_law_are_deeds]? = some (f_law_are_deeds x)
structure N_law_since (P : List Fn) (gs : List T) (x : Nat → Nat) : Prop where
  f_law_since : P[x n_law_since]? = some (f_law_since x)
structure N_show_numbers (P : List Fn) (gs : List T) (x : Nat → Nat) : Prop where
  f_show_numbers : P[x n_show_numbers]? = some (f_show_numbers x)
structure N_show_value (P : List Fn) (gs : List T) (x : Nat → Nat) : Prop where
  f_show_value : P[x n_show_value]? = some (f_show_value x)
  s_show_numbers : N_show_numbers P gs x
structure N_bracketed (P : List Fn) (gs : List T) (x : Nat → Nat) : Prop where
  f_bracketed : P[x n_bracketed]? = some (f_bracketed x)
structure N_law_show_value (P : List Fn) (gs : List T) (x : Nat → Nat) : Prop where
  f_law_show_value : P[x n_law_show_value]? = some (f_law_show_value x)
structure N_law_show (P : List Fn) (gs : List T) (x : Nat → Nat) : Prop where
  f_law_show : P[x n_law_show]? = some (f_law_show x)
  s_law_show_value : N_law_show_value P gs x
structure N_law_show_function (P : List Fn) (gs : List T) (x : Nat → Nat) : Prop where
  f_law_show_function : P[x n_law_show_function]? = some (f_law_show_function x)
  s_law_show : N_law_show P gs x
structure N_tree_from (P : List Fn) (gs : List T) (x : Nat → Nat) : Prop where
  f_tree_from : P[x n_tree_from]? = some (f_tree_from x)
structure N_whole_in (P : List Fn) (gs : List T) (x : Nat → Nat) : Prop where
  f_whole_in : P[x n_whole_in]? = some (f_whole_in x)
  g_MOST_FIGURES : gs[x n_MOST_FIGURES]? = some (.int 10)
structure N_value_in (P : List Fn) (gs : List T) (x : Nat → Nat) : Prop where
  f_value_in : P[x n_value_in]? = some (f_value_in x)
  s_whole_in : N_whole_in P gs x
structure N_expression_in (P : List Fn) (gs : List T) (x : Nat → Nat) : Prop where
  f_expression_in : P[x n_expression_in]? = some (f_expression_in x)
  g_COUNTS : gs[x n_COUNTS]? = some (.dict [((.str "plus"), (.int 2)), ((.str "minus"), (.int 2)), ((.str "times"), (.int 2)), ((.str "over"), (.int 2)), ((.str "rest"), (.int 2)), ((.str "below"), (.int 2)), ((.str "same"), (.int 2)), ((.str "and"), (.int 2)), ((.str "or"), (.int 2)), ((.str "put"), (.int 2)), ((.str "not"), (.int 1)), ((.str "first"), (.int 1)), ((.str "others"), (.int 1)), ((.str "long"), (.int 1)), ((.str "world"), (.int 0))])
  s_value_in : N_value_in P gs x
structure N_law_bent_text (P : List Fn) (gs : List T) (x : Nat → Nat) : Prop where
  f_law_bent_text : P[x n_law_bent_text]? = some (f_law_bent_text x)
  s_law_pick : N_law_pick P gs x
structure N_law_number_in (P : List Fn) (gs : List T) (x : Nat → Nat) : Prop where
  f_law_number_in : P[x n_law_number_in]? = some (f_law_number_in x)
structure N_law_numbers_in (P : List Fn) (gs : List T) (x : Nat → Nat) : Prop where
  f_law_numbers_in : P[x n_law_numbers_in]? = some (f_law_numbers_in x)
  s_law_number_in : N_law_number_in P gs x
end Lib

set_option maxHeartbeats 1000000
/-! Lib, part 1: the deck. -/
namespace Lib
open PySem PySem.Spec PyProof.Rows L2 Den
variable {P : List Fn} {gs : List T} {x : Nat → Nat}
abbrev dk (d0 : Int) (d1 d2 : Nat) : Cell := .lst [.t (.int d0), .t (.int d1), .t (.int d2)]
theorem modN (x : Int) {m : Nat} (hm : 1 ≤ m) : ∃ r : Nat, r < m ∧ x % (m : Int) = (r : Int) := by
  have h1 := Int.emod_nonneg x (show (m : Int) ≠ 0 by omega)
  have h2 := Int.emod_lt_of_pos x (show (0 : Int) < m by omega)
  exact ⟨(x % (m : Int)).toNat, by omega, by omega⟩
theorem modI (x : Int) {m : Int} (hm : 0 < m) : ∃ r : Nat, (r : Int) < m ∧ x % m = (r : Int) := by
  have h1 := Int.emod_nonneg x (show m ≠ 0 by omega)
  have h2 := Int.emod_lt_of_pos x hm
  exact ⟨(x % m).toNat, by omega, by omega⟩
theorem sm24 {x : Nat} (h : x < 16777216) : x < 2 ^ 400000 := Nat.lt_of_lt_of_le h (Nat.le_of_lt (Nat.lt_of_le_of_lt (show 16777216 ≤ 2 ^ 24 by decide) (Nat.pow_lt_pow_right (by decide) (by decide))))
theorem sm64 {x : Nat} (h : x < 18446744073709551616) : x < 2 ^ 400000 := Nat.lt_of_lt_of_le h (Nat.le_of_lt (Nat.lt_of_le_of_lt (show 18446744073709551616 ≤ 2 ^ 64 by decide) (Nat.pow_lt_pow_right (by decide) (by decide))))
theorem pick_two (S S1 : Store) (n m d1 : Nat) (d0 z P1 Q1 P2 Q2 w2 : Int) (u w r : Nat) (k b : Nat) (i0 : idxD S (.ref n) (.t (.int 0)) = some (.t (.int d0))) (hd : ¬ 1 < d0) (i2 : idxD S (.ref n) (.t (.int 2)) = some (.t (.int z)))
 (s1 : setD b S (.ref n) (.t (.int 2)) (.t (.int (z + 1))) = some S1)
 (j1' : idxD S1 (.ref n) (.t (.int 1)) = some (.t (.int (d1 : Int)))) (j2' : idxD S1 (.ref n) (.t (.int 2)) = some (.t (.int (z + 1))))
  (a1 : binD .Mult S1 (.t (.int 15485867)) (.t (.int (z + 1))) = some (.t (.int P1))) (a2 : binD .Pow S1 (.t (.int ((d1 : Int) + P1))) (.t (.int 5)) = some (.t (.int Q1))) (a3 : binD .Mod S1 (.t (.int Q1)) (.t (.int 2147483647)) = some (.t (.int (u : Int))))
  (a4 : binD .Mult S1 (.t (.int 7919)) (.t (.int (z + 1))) = some (.t (.int P2))) (a5 : binD .Pow S1 (.t (.int ((u : Int) + P2))) (.t (.int 3)) = some (.t (.int Q2))) (a6 : binD .Mod S1 (.t (.int Q2)) (.t (.int 2147483629)) = some (.t (.int (w : Int))))
  (a7 : binD .FloorDiv S1 (.t (.int (w : Int))) (.t (.int 32)) = some (.t (.int w2))) (nm : ¬ ((1000000 : Int) < (m : Int))) (a8 : binD .Mod S1 (.t (.int w2)) (.t (.int m)) = some (.t (.int (r : Int)))) :
    evSs (callF P gs k) gs b (f_law_pick x).body [some (.ref n), some (.t (.int m)), none, none] S = .ret (.t (.int (r : Int))) S1 := by
  simp [f_law_pick, i0, i2, hd, s1, j1', j2', a1, a2, a3, a4, a5, a6, a7, a8, nm]
theorem pick_big (S S1 : Store) (n m d1 : Nat) (d0 z P1 Q1 P2 Q2 w2 : Int) (u w r : Nat) (k b : Nat) (i0 : idxD S (.ref n) (.t (.int 0)) = some (.t (.int d0))) (hd : ¬ 1 < d0) (i2 : idxD S (.ref n) (.t (.int 2)) = some (.t (.int z)))
 (s1 : setD b S (.ref n) (.t (.int 2)) (.t (.int (z + 1))) = some S1)
 (j1' : idxD S1 (.ref n) (.t (.int 1)) = some (.t (.int (d1 : Int)))) (j2' : idxD S1 (.ref n) (.t (.int 2)) = some (.t (.int (z + 1))))
  (a1 : binD .Mult S1 (.t (.int 15485867)) (.t (.int (z + 1))) = some (.t (.int P1))) (a2 : binD .Pow S1 (.t (.int ((d1 : Int) + P1))) (.t (.int 5)) = some (.t (.int Q1))) (a3 : binD .Mod S1 (.t (.int Q1)) (.t (.int 2147483647)) = some (.t (.int (u : Int))))
  (a4 : binD .Mult S1 (.t (.int 7919)) (.t (.int (z + 1))) = some (.t (.int P2))) (a5 : binD .Pow S1 (.t (.int ((u : Int) + P2))) (.t (.int 3)) = some (.t (.int Q2))) (a6 : binD .Mod S1 (.t (.int Q2)) (.t (.int 2147483629)) = some (.t (.int (w : Int))))
  (a7 : binD .FloorDiv S1 (.t (.int (w : Int))) (.t (.int 32)) = some (.t (.int w2))) (P3 : Int) (nm : (1000000 : Int) < (m : Int)) (a9 : binD .Mult S1 (.t (.int w2)) (.t (.int 2147483563)) = some (.t (.int P3))) (a8 : binD .Mod S1 (.t (.int (P3 + (u : Int)))) (.t (.int m)) = some (.t (.int (r : Int)))) :
    evSs (callF P gs k) gs b (f_law_pick x).body [some (.ref n), some (.t (.int m)), none, none] S = .ret (.t (.int (r : Int))) S1 := by
  simp [f_law_pick, i0, i2, hd, s1, j1', j2', a1, a2, a3, a4, a5, a6, a7, a8, a9, nm]
theorem pick_ok (hp : P[x n_law_pick]? = some (f_law_pick x)) (k b : Nat) (S : Store) (n : Nat) (d0 : Int) (d1 d2 m : Nat) (hS : S[n]? = some (dk d0 d1 d2)) (h1 : d1 < 2 ^ 31) (h2 : d2 ≤ 1000000) (hm : 1 ≤ m) (hm2 : m < 2 ^ 63) :
    ∃ r : Nat, r < m ∧ ∃ d0' d2', d2' ≤ d2 + 1 ∧ callF P gs (k + 1) (x n_law_pick) b [.ref n, .t (.int m)] S = .ok (.t (.int (r : Int))) (S.set n (dk d0' d1 d2')) := by
  have i0 := idx_ref hS 0
  have i1 := idx_ref hS 1
  have i2 := idx_ref hS 2
  by_cases hd : 1 < d0
  · obtain ⟨r, hr, er⟩ := modN d0 hm
    refine ⟨r, hr, d0 / m, d2, by omega, ?_⟩
    rw [callF_eq hp]
    have m1 := bin_modS (S := S) (i := d0) (j := (m : Int)) (by omega)
    have m2 := bin_fdivS (S := S) (i := d0) (j := (m : Int)) (by omega) (by omega)
    have s1 := set_lst (b := S.length) (i := 0) (v := .int (d0 / m)) hS (by simp)
    rw [er] at m1
    rw [run_ret (d := .t (.int (r : Int))) (S' := S.set n (dk (d0 / m) d1 d2)) rfl rfl ?_ rfl, take_set]
    simp only [Int.ofNat_eq_natCast, Int.natCast_zero] at s1
    simp [f_law_pick, i0, hd, m1, m2, s1]
  · have hS' : (S.set n (dk d0 d1 (d2 + 1)))[n]? = some (dk d0 d1 (d2 + 1)) := get_set hS
    have j1 := idx_ref hS' 1
    have j2 := idx_ref hS' 2
    generalize hS1 : S.set n (dk d0 d1 (d2 + 1)) = S1 at *
    obtain ⟨u, hu, eu⟩ := modI (((d1 : Int) + 15485867 * ((d2 : Int) + 1)) ^ 5) (m := 2147483647) (by decide)
    obtain ⟨w, hw, ew⟩ := modI (((u : Int) + 7919 * ((d2 : Int) + 1)) ^ 3) (m := 2147483629) (by decide)
    have s1 := set_lst (b := S.length) (i := 2) (v := .int ((d2 : Int) + 1)) hS (by simp)
    have a1 := bin_mulS (S := S1) (i := 15485867) (j := (d2 : Int) + 1) (sm24 (by omega)) (sm24 (by omega))
    have a2 := bin_pow (S := S1) (i := (d1 : Int) + 15485867 * ((d2 : Int) + 1)) (j := 5) (by decide) (by decide) (by omega)
    have a3 := bin_modS (S := S1) (i := ((d1 : Int) + 15485867 * ((d2 : Int) + 1)) ^ 5) (j := 2147483647) (by decide)
    have a4 := bin_mulS (S := S1) (i := 7919) (j := (d2 : Int) + 1) (sm24 (by omega)) (sm24 (by omega))
    have a5 := bin_pow (S := S1) (i := (u : Int) + 7919 * ((d2 : Int) + 1)) (j := 3) (by decide) (by decide) (by omega)
    have a6 := bin_modS (S := S1) (i := ((u : Int) + 7919 * ((d2 : Int) + 1)) ^ 3) (j := 2147483629) (by decide)
    have a7 := bin_fdivS (S := S1) (i := (w : Int)) (j := 32) (by decide) (by decide)
    have a3 : binD .Mod S1 (.t (.int (((d1 : Int) + 15485867 * ((d2 : Int) + 1)) ^ Int.toNat 5))) (.t (.int 2147483647)) = some (.t (.int (u : Int))) := a3.trans (congrArg (fun z => some (D.t (.int z))) eu)
    have a6 : binD .Mod S1 (.t (.int (((u : Int) + 7919 * ((d2 : Int) + 1)) ^ Int.toNat 3))) (.t (.int 2147483629)) = some (.t (.int (w : Int))) := a6.trans (congrArg (fun z => some (D.t (.int z))) ew)
    have hl : S1.length = S.length := by rw [← hS1]; simp
    have s1' : setD S.length S (.ref n) (.t (.int 2)) (.t (.int ((d2 : Int) + 1))) = some S1 := by
      rw [← hS1]
      exact s1
    have j2' : idxD S1 (.ref n) (.t (.int 2)) = some (.t (.int ((d2 : Int) + 1))) := j2.trans (at2 ..)
    have j1' : idxD S1 (.ref n) (.t (.int 1)) = some (.t (.int (d1 : Int))) := j1.trans (at1 ..)
    simp only [at0, at1, at2] at i0 i1 i2
    have key : ∃ r : Nat, r < m ∧ evSs (callF P gs k) gs S.length (f_law_pick x).body [some (.ref n), some (.t (.int m)), none, none] S = .ret (.t (.int (r : Int))) S1 := by
      by_cases nm : (1000000 : Int) < (m : Int)
      · obtain ⟨r, hr, er⟩ := modN ((w : Int) / 32 * 2147483563 + (u : Int)) hm
        have a9 := bin_mulS (S := S1) (i := (w : Int) / 32) (j := 2147483563) (sm64 (by omega)) (sm64 (by decide))
        have a8 := bin_modS (S := S1) (i := (w : Int) / 32 * 2147483563 + (u : Int)) (j := (m : Int)) (by omega)
        rw [er] at a8
        exact ⟨r, hr, pick_big S S1 n m d1 d0 d2 _ _ _ _ _ u w r k S.length i0 hd i2 s1' j1' j2' a1 a2 a3 a4 a5 a6 a7 _ nm a9 a8⟩
      · obtain ⟨r, hr, er⟩ := modN ((w : Int) / 32) hm
        have a8 := bin_modS (S := S1) (i := (w : Int) / 32) (j := (m : Int)) (by omega)
        rw [er] at a8
        exact ⟨r, hr, pick_two S S1 n m d1 d0 d2 _ _ _ _ _ u w r k S.length i0 hd i2 s1' j1' j2' a1 a2 a3 a4 a5 a6 a7 nm a8⟩
    obtain ⟨r, hr, key⟩ := key
    refine ⟨r, hr, d0, d2 + 1, Nat.le_refl _, ?_⟩
    rw [hS1]
    rw [callF_eq hp]
    rw [run_ret (d := .t (.int (r : Int))) (S' := S1) rfl rfl key rfl, ← hl, take_all]
structure Dk (S : Store) (n N : Nat) : Prop where
  ex : ∃ d0 d1 d2, S[n]? = some (dk d0 d1 d2) ∧ d1 < 2 ^ 31 ∧ d2 ≤ N
theorem pick_k (hp : P[x n_law_pick]? = some (f_law_pick x)) (k b : Nat) {S : Store} {n N m : Nat} (h : Dk S n N) (hN : N ≤ 1000000) (hm : 1 ≤ m) (hm2 : m < 2 ^ 63) :
    ∃ (r : Nat) (S1 : Store), r < m ∧ callF P gs (k + 1) (x n_law_pick) b [.ref n, .t (.int m)] S = .ok (.t (.int (r : Int))) S1 ∧ S1.length = S.length ∧ Dk S1 n (N + 1) := by
  obtain ⟨d0, d1, d2, e, h1, h2⟩ := h.ex
  obtain ⟨r, hr, d0', d2', h3, h4⟩ := pick_ok (gs := gs) hp k b S n d0 d1 d2 m e h1 (by omega) hm hm2
  exact ⟨r, _, hr, h4, by simp, ⟨d0', d1, d2', get_set e, h1, by omega⟩⟩
theorem take_len {S S' : Store} (h : S'.length = S.length) : S'.take S.length = S' := List.take_of_length_le (by omega)
theorem deck_ok (hp : P[x n_law_deck]? = some (f_law_deck x)) (k b : Nat) (S : Store) (c : Int) : ∃ S1, callF P gs (k + 1) (x n_law_deck) b [.t (.int c), .t (.int 0)] S = .ok (.ref S.length) S1 ∧ Dk S1 S.length 0 := by
  obtain ⟨r, hr, er⟩ := modI c (m := 2147483579) (by decide)
  have a1 := bin_modS (S := S) (i := c) (j := 2147483579) (by decide)
  have a2 : binD .Pow S (.t (.int 10)) (.t (.int 18)) = some (.t (.int 1000000000000000000)) := bin_pow (S := S) (i := 10) (j := 18) (by decide) (by decide) (by decide)
  rw [er] at a1
  rw [callF_eq hp]
  by_cases hx : 1000000000000000000 ≤ c
  · refine ⟨S ++ [dk (c - 1000000000000000000) r 0], ?_, ⟨c - 1000000000000000000, r, 0, by simp, by omega, by omega⟩⟩
    rw [run_keep (d := .ref S.length) (S' := S ++ [dk (c - 1000000000000000000) r 0]) rfl rfl ?_]
    simp [f_law_deck, a1, a2, hx, sizeLine_eq]
  · refine ⟨S ++ [dk 0 r 0], ?_, ⟨0, r, 0, by simp, by omega, by omega⟩⟩
    rw [run_keep (d := .ref S.length) (S' := S ++ [dk 0 r 0]) rfl rfl ?_]
    simp [f_law_deck, a1, a2, hx, sizeLine_eq]
theorem whole_int (hp : P[x n_law_whole]? = some (f_law_whole x)) (k b : Nat) (S : Store) (c : Int) : callF P gs (k + 1) (x n_law_whole) b [.t (.int c)] S = .ok (.t (.bool true)) S := by
  rw [callF_eq hp]
  rw [run_ret (d := .t (.bool true)) (S' := S) rfl rfl ?_ rfl, take_all]
  simp [f_law_whole, isiD, isiT]
end Lib

set_option maxHeartbeats 1000000
/-! Lib, part 2: names, values. -/
namespace Lib
open PySem PySem.Spec PyProof.Rows L2 Den
variable {P : List Fn} {gs : List T} {x : Nat → Nat}
def isFrom (y : T) (lo hi : Int) : Bool := match y with
  | .int i => decide (lo ≤ i) && decide (i ≤ hi)
  | _ => false
theorem is_from_ok (hp : P[x n_is_from]? = some (f_is_from x)) (k b : Nat) (S : Store) (y : T) (lo hi : Int) : callF P gs (k + 1) (x n_is_from) b [.t y, .t (.int lo), .t (.int hi)] S = .ok (.t (.bool (isFrom y lo hi))) S := by
  rw [callF_eq hp]
  rw [run_ret (d := .t (.bool (isFrom y lo hi))) (S' := S) rfl rfl ?_ rfl, take_all]
  cases y with
  | int i =>
    by_cases h : lo ≤ i
    · simp [f_is_from, isiD, isiT, isFrom, h]
    · simp [f_is_from, isiD, isiT, isFrom, h]
  | _ => simp [f_is_from, isiD, isiT, isFrom]
theorem bools_map {α : Type} (f : α → Bool) : ∀ xs : List α, boolsT (xs.map fun z => PyData.bool (f z)) = some (xs.map f)
  | [] => rfl
  | x :: xs => by
    rw [List.map_cons]
    show (boolsT (xs.map fun z => PyData.bool (f z))).map _ = _
    rw [bools_map f xs]
    rfl
theorem all_blt {α : Type} (f : α → Bool) (xs : List α) (S : Store) : bltD .all1 S [.t (.list (xs.map fun z => PyData.bool (f z)))] = some (.t (.bool (xs.all f))) := by
  show (boolsT (xs.map fun z => PyData.bool (f z))).map _ = _
  rw [bools_map]
  simp [List.all_map, Function.comp]
@[simp] theorem len_tuple (xs : List T) (S : Store) : bltD .len S [.t (.tuple xs)] = some (.t (.int (xs.length : Nat))) := rfl
@[simp] theorem len_list (xs : List T) (S : Store) : bltD .len S [.t (.list xs)] = some (.t (.int (xs.length : Nat))) := rfl
theorem len_str {s : Str} {S : Store} (h : s.length ≤ sizeLine) : bltD .len S [.t (.str s)] = some (.t (.int (s.length : Nat))) := by
  simp [bltD, lenD, h]
def isValBy (y : T) (lim : Int) : Bool := match y with
  | .bool _ => true
  | .tuple xs => decide (xs.length ≤ 30) && xs.all fun z => isFrom z (-lim) lim
  | y => isFrom y (-lim) lim
theorem is_value_by_ok (hp : P[x n_is_value_by]? = some (f_is_value_by x)) (hf : P[x n_is_from]? = some (f_is_from x)) (hg : gs[x n_LONGEST]? = some (.int 30)) (k b : Nat) (S : Store) (y : T) (lim : Int) (hy : ∀ xs, y = .tuple xs → xs.length ≤ sizeLine) :
    callF P gs (k + 2) (x n_is_value_by) b [.t y, .t (.int lim)] S = .ok (.t (.bool (isValBy y lim))) S := by
  rw [callF_eq hp]
  rw [run_ret (d := .t (.bool (isValBy y lim))) (S' := S) rfl rfl ?_ rfl, take_all]
  have hb : ∀ z, callF P gs (k + 1) (x n_is_from) S.length [.t z, .t (.int (-lim)), .t (.int lim)] S = .ok (.t (.bool (isFrom z (-lim) lim))) S := fun z => is_from_ok hf k S.length S z (-lim) lim
  cases y with
  | bool c => simp [f_is_value_by, isiD, isiT, isValBy]
  | tuple xs =>
    have hc := comp_map (evi := evIt (callF P gs (k + 1)) gs S.length (.seq (.v 0))) (evg := evTg (callF P gs (k + 1)) gs S.length (.v 2)) (evt := evTs (callF P gs (k + 1)) gs S.length .nil)
      (eve := evE (callF P gs (k + 1)) gs S.length (.call (x n_is_from) (.cons (.v 2) (.cons (.neg (.v 1)) (.cons (.v 1) .nil))) .nil [])) (vs := [2]) (ds := [some (.t (.tuple xs)), some (.t (.int lim)), none]) (S := S) (us := xs)
      (f := fun z => PyData.bool (isFrom z (-lim) lim)) (by simp) (fun u hu => by simp [turnD, wipeD, hb]) (hy xs rfl)
    have ha := all_blt (fun z => isFrom z (-lim) lim) xs S
    by_cases hl : xs.length ≤ 30
    · have hl' : (xs.length : Int) ≤ 30 := by omega
      simp [f_is_value_by, isiD, isiT, isValBy, hg, kD, evE_comp, Tg.slots, hc, ha, hl, hl']
    · have hl' : ¬ (xs.length : Int) ≤ 30 := by omega
      simp [f_is_value_by, isiD, isiT, isValBy, hg, kD, hl, hl']
  | _ => simp [f_is_value_by, isiD, isiT, isValBy, hb]
theorem is_value_ok (hp : P[x n_is_value]? = some (f_is_value x)) (hv : P[x n_is_value_by]? = some (f_is_value_by x)) (hf : P[x n_is_from]? = some (f_is_from x)) (hg : gs[x n_LONGEST]? = some (.int 30)) (hl : gs[x n_LIMIT]? = some (.int 1000000000000))
    (k b : Nat) (S : Store) (y : T) (hy : ∀ xs, y = .tuple xs → xs.length ≤ sizeLine) : callF P gs (k + 3) (x n_is_value) b [.t y] S = .ok (.t (.bool (isValBy y 1000000000000))) S := by
  rw [callF_eq hp]
  rw [run_ret (d := .t (.bool (isValBy y 1000000000000))) (S' := S) rfl rfl ?_ rfl, take_all]
  have h := is_value_by_ok hv hf hg k S.length S y 1000000000000 hy
  simp [f_is_value, hl, kD, h]
theorem plain_strs : ∀ ws : List Str, PyData.plainAll (ws.map .str) = true
  | [] => rfl
  | w :: ws => by
    rw [List.map_cons, PyData.plainAll, plain_strs ws]
    rfl
theorem depth_strs : ∀ ws : List Str, PyData.depthAll (ws.map .str) ≤ 1
  | [] => by decide
  | w :: ws => by
    have := depth_strs ws
    rw [List.map_cons, PyData.depthAll]
    simp [PyData.depth]
    omega
theorem any_strs (s : Str) : ∀ ws : List Str, (ws.map PyData.str).any (fun z => PyData.eqv z (.str s)) = decide (s ∈ ws)
  | [] => by simp
  | w :: ws => by
    rw [List.map_cons, List.any_cons, any_strs s ws]
    have e : PyData.eqv (.str w) (.str s) = decide (s = w) := by
      by_cases h : s = w
      · subst h; simp [PyData.eqv]
      · rw [decide_eq_false h]
        have h' : ¬ w = s := fun z => h z.symm
        simp [PyData.eqv, h']
    rw [e]
    simp [Bool.decide_or]
theorem in_strs (s : Str) (ws : List Str) : isIn (.str s) (.tuple (ws.map .str)) = some (decide (s ∈ ws)) := by
  show guardB (PyData.plain (.str s) && PyData.plainAll (ws.map .str) && decide (min (PyData.depthAll (ws.map .str)) (PyData.depth (.str s)) ≤ 100)) ((ws.map PyData.str).any fun z => PyData.eqv z (.str s)) = _
  have := depth_strs ws
  rw [plain_strs, any_strs, decide_eq_true (show min (PyData.depthAll (ws.map .str)) (PyData.depth (.str s)) ≤ 100 by omega)]
  rfl
def WORDS : List Str := ["and", "below", "first", "long", "minus", "not", "or", "others", "over", "plus", "put", "rest", "same", "times", "world"]
def KEPT : List Str := ["by", "false", "fn", "if", "just", "let", "one", "row", "trial", "true", "truth", "where", "whole"]
def isName (y : T) : Bool := match y with
  | .str s => decide (1 ≤ s.length) && decide (s.length ≤ 8) && !decide (s ∈ WORDS) && !decide (s ∈ KEPT) && s.cps.toList.all fun c => decide (97 ≤ c) && decide (c ≤ 122)
  | _ => false
theorem letter (c : Nat) : decide (c ∈ (("abcdefghijklmnopqrstuvwxyz" : Str).cps.toList)) = (decide (97 ≤ c) && decide (c ≤ 122)) := by
  have e : (("abcdefghijklmnopqrstuvwxyz" : Str).cps.toList) = (List.range 26).map (· + 97) := by decide +kernel
  rw [e]
  by_cases h : 97 ≤ c ∧ c ≤ 122
  · rw [decide_eq_true h.1, decide_eq_true h.2, decide_eq_true]
    · rfl
    · exact List.mem_map.mpr ⟨c - 97, List.mem_range.mpr (by omega), by omega⟩
  · have : ¬ c ∈ (List.range 26).map (· + 97) := fun z => by
      obtain ⟨j, hj, rfl⟩ := List.mem_map.mp z
      have := List.mem_range.mp hj
      omega
    rw [decide_eq_false this]
    by_cases h1 : 97 ≤ c
    · have h2 : ¬ c ≤ 122 := fun z => h ⟨h1, z⟩
      rw [decide_eq_false h2, Bool.and_false]
    · rw [decide_eq_false h1, Bool.false_and]
def sgn (p : Nat → Bool) (z : T) : Bool := match z with
  | .str s => (match s.cps.toList with
    | [c] => p c
    | _ => false)
  | _ => false
theorem is_name_ok (hp : P[x n_is_name]? = some (f_is_name x)) (h1 : gs[x n_WORDS]? = some (.tuple (WORDS.map .str))) (h2 : gs[x n_KEPT]? = some (.tuple (KEPT.map .str))) (h3 : gs[x n_LETTERS]? = some (.str "abcdefghijklmnopqrstuvwxyz"))
    (k b : Nat) (S : Store) (y : T) (hy : ∀ s, y = .str s → s.length ≤ sizeLine) : callF P gs (k + 1) (x n_is_name) b [.t y] S = .ok (.t (.bool (isName y))) S := by
  rw [callF_eq hp]
  rw [run_ret (d := .t (.bool (isName y))) (S' := S) rfl rfl ?_ rfl, take_all]
  cases y with
  | str s =>
    have hl := len_str (S := S) (hy s rfl)
    have w1 : cmpD .In S (.t (.str s)) (.k (.tuple (WORDS.map .str))) = some (decide (s ∈ WORDS)) := in_strs s WORDS
    have w2 : cmpD .In S (.t (.str s)) (.k (.tuple (KEPT.map .str))) = some (decide (s ∈ KEPT)) := in_strs s KEPT
    have w3 : ∀ c : Nat, cmpD .In S (.t (.str ⟨#[c]⟩)) (.t (.str "abcdefghijklmnopqrstuvwxyz")) = some (decide (97 ≤ c) && decide (c ≤ 122)) := fun c => by
      show some (!(Builtin.Str.occurrences "abcdefghijklmnopqrstuvwxyz" ⟨#[c]⟩ 0 (Str.length "abcdefghijklmnopqrstuvwxyz") 1).isEmpty) = _
      rw [PySem.StrLaws.found_one, letter]
    have hc := comp_map (evi := evIt (callF P gs k) gs S.length (.seq (.v 0))) (evg := evTg (callF P gs k) gs S.length (.v 1)) (evt := evTs (callF P gs k) gs S.length .nil)
      (eve := evE (callF P gs k) gs S.length (.cmp .In (.v 1) (.g (x n_LETTERS)))) (vs := [1]) (ds := [some (.t (.str s)), none]) (S := S) (us := s.cps.toList.map fun c => PyData.str ⟨#[c]⟩)
      (f := fun z => PyData.bool (sgn (fun c => decide (97 ≤ c) && decide (c ≤ 122)) z)) (by simp [seqI, Function.comp]) (fun u hu => by
        obtain ⟨c, _, rfl⟩ := List.mem_map.mp hu
        simp [turnD, wipeD, h3, kD, w3, sgn]) (by rw [List.length_map, Array.length_toList]; exact hy s rfl)
    have ha := all_blt (sgn fun c => decide (97 ≤ c) && decide (c ≤ 122)) (s.cps.toList.map fun c => PyData.str ⟨#[c]⟩) S
    have hs : ((s.cps.toList.map fun c => PyData.str ⟨#[c]⟩).all (sgn fun c => decide (97 ≤ c) && decide (c ≤ 122))) = s.cps.toList.all fun c => decide (97 ≤ c) && decide (c ≤ 122) := by
      rw [List.all_map]
      rfl
    rw [hs] at ha
    simp only [List.map_map, Function.comp_def, sgn] at hc ha
    have c1 : ((1 : Int) ≤ (s.length : Int)) ↔ 1 ≤ s.length := by omega
    have c2 : ((s.length : Int) ≤ 8) ↔ s.length ≤ 8 := by omega
    by_cases a1 : 1 ≤ s.length
    · by_cases a2 : s.length ≤ 8
      · by_cases a3 : s ∈ WORDS
        · simp [f_is_name, isiD, isiT, isName, h1, h2, kD, hl, w1, a1, a2, a3, c1, c2]
        · by_cases a4 : s ∈ KEPT
          · simp [f_is_name, isiD, isiT, isName, h1, h2, kD, hl, w1, w2, a1, a2, a3, a4, c1, c2]
          · simp [f_is_name, isiD, isiT, isName, h1, h2, kD, hl, w1, w2, a1, a2, a3, a4, c1, c2, evE_comp, Tg.slots, hc, ha, Function.comp_def]
      · simp [f_is_name, isiD, isiT, isName, h1, h2, kD, hl, w1, a1, a2, c1, c2]
    · simp [f_is_name, isiD, isiT, isName, h1, h2, kD, hl, w1, a1, c1, c2]
  | _ => simp [f_is_name, isiD, isiT, isName]
end Lib

set_option maxHeartbeats 1000000
/-! Lib, part 3: names and values as the law says them. -/
namespace Lib
open PySem PySem.Spec PyProof.Rows L2 Den
variable {P : List Fn} {gs : List T} {x : Nat → Nat}
theorem lt_one (c d : Nat) : decide ([c] < [d]) = decide (c < d) := by
  by_cases h : c < d
  · rw [decide_eq_true h, decide_eq_true]
    exact List.Lex.rel h
  · rw [decide_eq_false h, decide_eq_false]
    intro z
    cases z with
    | rel h' => exact h h'
    | cons h' => cases h'
theorem le_str {S : Store} (a b : Str) : cmpD .LtE S (.t (.str a)) (.t (.str b)) = some (!decide (b.cps.toList < a.cps.toList)) := by
  show some (!PySem.W.dataLt (.str b) (.str a)) = _
  rw [PySem.W.dataLt_str]
theorem le_a {S : Store} (c : Nat) : cmpD .LtE S (.t (.str "a")) (.t (.str ⟨#[c]⟩)) = some (decide (97 ≤ c)) := by
  rw [le_str]
  show some (!decide ([c] < [97])) = _
  rw [lt_one]
  congr 1
  by_cases h : c < 97
  · rw [decide_eq_true h, decide_eq_false (by omega)]; rfl
  · rw [decide_eq_false h, decide_eq_true (by omega)]; rfl
theorem le_z {S : Store} (c : Nat) : cmpD .LtE S (.t (.str ⟨#[c]⟩)) (.t (.str "z")) = some (decide (c ≤ 122)) := by
  rw [le_str]
  show some (!decide ([122] < [c])) = _
  rw [lt_one]
  congr 1
  by_cases h : 122 < c
  · rw [decide_eq_true h, decide_eq_false (by omega)]; rfl
  · rw [decide_eq_false h, decide_eq_true (by omega)]; rfl
theorem eq_nil {S : Store} {zs : List T} (h : PyData.plainAll zs = true) : cmpD .Eq S (.t (.list zs)) (.t (.list [])) = some zs.isEmpty := by
  show guardB (cmpOk (.list zs) (.list [])) (PyData.eqv (.list zs) (.list [])) = _
  have e1 : cmpOk (.list zs) (.list []) = true := by
    unfold cmpOk
    have d : min (PyData.depth (.list zs)) (PyData.depth (.list [])) ≤ 100 := by
      have : PyData.depth (.list []) ≤ 1 := by decide
      omega
    rw [decide_eq_true d]
    simp [PyData.plain, h, PyData.plainAll]
  have e2 : PyData.eqv (.list zs) (.list []) = zs.isEmpty := by cases zs <;> simp [PyData.eqv, PyData.eqvAll]
  rw [e1, e2]
  rfl
theorem plain_filter {p : T → Bool} : ∀ {zs : List T}, PyData.plainAll zs = true → PyData.plainAll (zs.filter p) = true
  | [], _ => rfl
  | z :: zs, h => by
    rw [PyData.plainAll, Bool.and_eq_true] at h
    rw [List.filter_cons]
    split
    · rw [PyData.plainAll, h.1, plain_filter h.2]; rfl
    · exact plain_filter h.2
def LAW1 : List Str := ["plus", "minus", "times", "over", "rest", "below", "same", "and", "or", "not", "put", "first", "others", "long", "world", "if", "let", "true", "false", "fn", "trial", "just", "one", "row", "by", "where", "whole", "truth"]
theorem words_same (s : Str) : decide (s ∈ LAW1) = (decide (s ∈ WORDS) || decide (s ∈ KEPT)) := by
  have h1 : ∀ s ∈ LAW1, s ∈ WORDS ∨ s ∈ KEPT := by decide +kernel
  have h2 : ∀ s ∈ WORDS, s ∈ LAW1 := by decide +kernel
  have h3 : ∀ s ∈ KEPT, s ∈ LAW1 := by decide +kernel
  by_cases a : s ∈ LAW1
  · rw [decide_eq_true a]
    rcases h1 s a with z | z
    · rw [decide_eq_true z]; rfl
    · rw [decide_eq_true z, Bool.or_true]
  · rw [decide_eq_false a, decide_eq_false fun z => a (h2 s z), decide_eq_false fun z => a (h3 s z)]
    rfl
theorem in_list (s : Str) (ws : List Str) : isIn (.str s) (.list (ws.map .str)) = some (decide (s ∈ ws)) := by
  show guardB (PyData.plain (.str s) && PyData.plainAll (ws.map .str) && decide (min (PyData.depthAll (ws.map .str)) (PyData.depth (.str s)) ≤ 100)) ((ws.map PyData.str).any fun z => PyData.eqv z (.str s)) = _
  have := depth_strs ws
  rw [plain_strs, any_strs, decide_eq_true (show min (PyData.depthAll (ws.map .str)) (PyData.depth (.str s)) ≤ 100 by omega)]
  rfl
theorem law_is_name_ok (hp : P[x n_law_is_name]? = some (f_law_is_name x)) (k b : Nat) (S : Store) (y : T) (hy : ∀ s, y = .str s → s.length ≤ sizeLine) : callF P gs (k + 1) (x n_law_is_name) b [.t y] S = .ok (.t (.bool (isName y))) S := by
  rw [callF_eq hp]
  rw [run_ret (d := .t (.bool (isName y))) (S' := S) rfl rfl ?_ rfl, take_all]
  cases y with
  | str s =>
    have hl := len_str (S := S) (hy s rfl)
    have w1 : cmpD .In S (.t (.str s)) (.t (.list (LAW1.map .str))) = some (decide (s ∈ LAW1)) := in_list s LAW1
    have hc := comp_filter (evi := evIt (callF P gs k) gs S.length (.seq (.v 0))) (evg := evTg (callF P gs k) gs S.length (.v 2)) (evt := evTs (callF P gs k) gs S.length (.cons (.not (.chain .LtE .LtE (.c (.str "a")) (.v 2) (.c (.str "z")))) .nil))
      (eve := evE (callF P gs k) gs S.length (.v 2)) (vs := [2]) (ds := [some (.t (.str s)), some (.t (.list ((LAW1.take 26).map .str))), none]) (S := S) (us := s.cps.toList.map fun c => PyData.str ⟨#[c]⟩)
      (p := fun z => !sgn (fun c => decide (97 ≤ c) && decide (c ≤ 122)) z) (by simp [seqI, Function.comp]) (fun u hu => by
        obtain ⟨c, _, rfl⟩ := List.mem_map.mp hu
        by_cases c1 : 97 ≤ c
        · by_cases c2 : c ≤ 122
          · simp [turnD, wipeD, le_a, le_z, sgn, c1, c2]
          · simp [turnD, wipeD, le_a, le_z, sgn, c1, c2]
        · simp [turnD, wipeD, le_a, le_z, sgn, c1]) (by rw [List.length_map, Array.length_toList]; exact hy s rfl)
    have hz : ((s.cps.toList.map fun c => PyData.str ⟨#[c]⟩).filter fun z => !sgn (fun c => decide (97 ≤ c) && decide (c ≤ 122)) z).isEmpty = s.cps.toList.all fun c => decide (97 ≤ c) && decide (c ≤ 122) := by
      induction s.cps.toList with
      | nil => rfl
      | cons c r ih =>
        rw [List.map_cons, List.filter_cons, List.all_cons]
        by_cases c1 : (decide (97 ≤ c) && decide (c ≤ 122)) = true
        · have e : (!sgn (fun c => decide (97 ≤ c) && decide (c ≤ 122)) (PyData.str ⟨#[c]⟩)) = false := by
            show (!(decide (97 ≤ c) && decide (c ≤ 122))) = false
            rw [c1]
            rfl
          rw [c1, Bool.true_and, e, if_neg (by decide), ih]
        · rw [Bool.not_eq_true] at c1
          have e : (!sgn (fun c => decide (97 ≤ c) && decide (c ≤ 122)) (PyData.str ⟨#[c]⟩)) = true := by
            show (!(decide (97 ≤ c) && decide (c ≤ 122))) = true
            rw [c1]
            rfl
          rw [c1, Bool.false_and, e, if_pos rfl]
          rfl
    have hq := eq_nil (S := S) (plain_filter (p := fun z => !sgn (fun c => decide (97 ≤ c) && decide (c ≤ 122)) z) (plain_strs (s.cps.toList.map fun c => ⟨#[c]⟩)))
    rw [List.map_map] at hq
    have hq : cmpD .Eq S (.t (.list ((s.cps.toList.map fun c => PyData.str ⟨#[c]⟩).filter fun z => !sgn (fun c => decide (97 ≤ c) && decide (c ≤ 122)) z))) (.t (.list [])) = some ((s.cps.toList.map fun c => PyData.str ⟨#[c]⟩).filter fun z => !sgn (fun c => decide (97 ≤ c) && decide (c ≤ 122)) z).isEmpty := hq
    rw [hz] at hq
    rw [words_same] at w1
    generalize ((s.cps.toList.map fun c => PyData.str ⟨#[c]⟩).filter fun z => !sgn (fun c => decide (97 ≤ c) && decide (c ≤ 122)) z) = Z at hc hq hz
    simp only [LAW1, List.map_cons, List.map_nil, List.take_succ_cons, List.take_zero] at w1 hc
    have c1 : ((1 : Int) ≤ (s.length : Int)) ↔ 1 ≤ s.length := by omega
    have c2 : ((s.length : Int) ≤ 8) ↔ s.length ≤ 8 := by omega
    by_cases a3 : s ∈ WORDS
    · simp [f_law_is_name, isiD, isiT, isName, mkLst, sizeLine_eq, bin_lists, hl, w1, a3]
    · by_cases a4 : s ∈ KEPT
      · simp [f_law_is_name, isiD, isiT, isName, mkLst, sizeLine_eq, bin_lists, hl, w1, a3, a4]
      · by_cases a1 : 1 ≤ s.length
        · by_cases a2 : s.length ≤ 8
          · simp [f_law_is_name, isiD, isiT, isName, mkLst, sizeLine_eq, bin_lists, hl, w1, a1, a2, a3, a4, c1, c2, evE_comp, Tg.slots, hc, hq]
          · simp [f_law_is_name, isiD, isiT, isName, mkLst, sizeLine_eq, bin_lists, hl, w1, a1, a2, a3, a4, c1, c2]
        · simp [f_law_is_name, isiD, isiT, isName, mkLst, sizeLine_eq, bin_lists, hl, w1, a1, a3, a4, c1, c2]
  | _ => simp [f_law_is_name, isiD, isiT, isName, mkLst, sizeLine_eq, bin_lists]
def isInt : T → Bool
  | .int _ => true
  | _ => false
theorem whole_ok (hp : P[x n_law_whole]? = some (f_law_whole x)) (k b : Nat) (S : Store) (y : T) : callF P gs (k + 1) (x n_law_whole) b [.t y] S = .ok (.t (.bool (isInt y))) S := by
  rw [callF_eq hp]
  rw [run_ret (d := .t (.bool (isInt y))) (S' := S) rfl rfl ?_ rfl, take_all]
  cases y <;> simp [f_law_whole, isiD, isiT, isInt]
theorem abs_int (i : Int) (S : Store) : bltD .abs S [.t (.int i)] = some (.t (.int (if i < 0 then -i else i))) := rfl
theorem abs_far (i : Int) : (1000000000000 < (if i < 0 then -i else i)) ↔ ¬ (-1000000000000 ≤ i ∧ i ≤ 1000000000000) := by
  split <;> omega
theorem abs_near (i : Int) : ((if i < 0 then -i else i) ≤ 1000000000000) ↔ (-1000000000000 ≤ i ∧ i ≤ 1000000000000) := by
  split <;> omega
theorem law_is_value_ok (hp : P[x n_law_is_value]? = some (f_law_is_value x)) (hw : P[x n_law_whole]? = some (f_law_whole x)) (k b : Nat) (S : Store) (y : T) (hy : ∀ xs, y = .tuple xs → xs.length ≤ sizeLine ∧ PyData.plainAll xs = true) :
    callF P gs (k + 2) (x n_law_is_value) b [.t y] S = .ok (.t (.bool (isValBy y 1000000000000))) S := by
  rw [callF_eq hp]
  rw [run_ret (d := .t (.bool (isValBy y 1000000000000))) (S' := S) rfl rfl ?_ rfl, take_all]
  have hb : ∀ z, callF P gs (k + 1) (x n_law_whole) S.length [.t z] S = .ok (.t (.bool (isInt z))) S := fun z => whole_ok hw k S.length S z
  have hpow : binD .Pow S (.t (.int 10)) (.t (.int 12)) = some (.t (.int 1000000000000)) := bin_pow (S := S) (i := 10) (j := 12) (by decide) (by decide) (by decide)
  cases y with
  | bool c => simp [f_law_is_value, isiD, isiT, isValBy]
  | int i =>
    have e := abs_near i
    by_cases h : -1000000000000 ≤ i ∧ i ≤ 1000000000000
    · have h' := e.mpr h
      simp [f_law_is_value, isiD, isiT, isValBy, hb, isInt, abs_int, hpow, h', isFrom, h.1, h.2]
    · have h' := fun z => h (e.mp z)
      have hf : (decide ((-1000000000000 : Int) ≤ i) && decide (i ≤ 1000000000000)) = false := by
        rw [← Bool.decide_and]
        exact decide_eq_false h
      have hg := (abs_far i).mpr h
      simp [f_law_is_value, isiD, isiT, isValBy, hb, isInt, abs_int, hpow, isFrom, hf, hg]
  | tuple xs =>
    obtain ⟨hl, hpl⟩ := hy xs rfl
    have hc := comp_filter (evi := evIt (callF P gs (k + 1)) gs S.length (.seq (.v 0))) (evg := evTg (callF P gs (k + 1)) gs S.length (.v 2))
      (evt := evTs (callF P gs (k + 1)) gs S.length (.cons (.or (.cons (.not (.call (x n_law_whole) (.cons (.v 2) .nil) .nil [])) (.cons (.cmp .Gt (.blt .abs (.cons (.v 2) .nil)) (.bin .Pow (.c (.int 10)) (.c (.int 12)))) .nil))) .nil))
      (eve := evE (callF P gs (k + 1)) gs S.length (.v 2)) (vs := [2]) (ds := [some (.t (.tuple xs)), none, none]) (S := S) (us := xs) (p := fun z => !isFrom z (-1000000000000) 1000000000000) (by simp) (fun u hu => by
        cases u with
        | int i =>
          have e := abs_far i
          by_cases h : -1000000000000 ≤ i ∧ i ≤ 1000000000000
          · have h' : ¬ (1000000000000 < (if i < 0 then -i else i)) := fun z => e.mp z h
            simp [turnD, wipeD, hb, isInt, abs_int, hpow, h', isFrom, h.1, h.2]
          · have h' := e.mpr h
            have hf : (decide ((-1000000000000 : Int) ≤ i) && decide (i ≤ 1000000000000)) = false := by
              rw [← Bool.decide_and]
              exact decide_eq_false h
            simp [turnD, wipeD, hb, isInt, abs_int, hpow, h', isFrom, hf]
        | _ => simp [turnD, wipeD, hb, isInt, isFrom]) hl
    have hq := eq_nil (S := S) (plain_filter (p := fun z => !isFrom z (-1000000000000) 1000000000000) hpl)
    have hz : (xs.filter fun z => !isFrom z (-1000000000000) 1000000000000).isEmpty = xs.all fun z => isFrom z (-1000000000000) 1000000000000 := by
      clear hc hq hl hpl hy
      induction xs with
      | nil => rfl
      | cons z r ih =>
        rw [List.filter_cons, List.all_cons]
        cases hf : isFrom z (-1000000000000) 1000000000000 with
        | true => rw [if_neg (by simp), ih, Bool.true_and]
        | false => rw [if_pos (by simp), Bool.false_and]; rfl
    rw [hz] at hq
    generalize (xs.filter fun z => !isFrom z (-1000000000000) 1000000000000) = Z at hc hq hz
    by_cases h30 : xs.length ≤ 30
    · have hl' : (xs.length : Int) ≤ 30 := by omega
      simp [f_law_is_value, isiD, isiT, isValBy, evE_comp, Tg.slots, hc, hq, h30, hl', mkLst, sizeLine_eq]
    · have hl' : ¬ (xs.length : Int) ≤ 30 := by omega
      simp [f_law_is_value, isiD, isiT, isValBy, evE_comp, Tg.slots, hc, h30, hl']
  | _ => simp [f_law_is_value, isiD, isiT, isValBy, hb, isInt, isFrom]
end Lib

set_option maxHeartbeats 1000000
/-! LibW: the deck, by what holds at the end. -/
namespace Lib
open PySem PySem.Spec PyProof.Rows L2 Den
variable {P : List Fn} {gs : List T} {x : Nat → Nat}
/-- all but the n-th cell stays -/
structure Up (n : Nat) (S S' : Store) : Prop where
  len : S'.length = S.length
  same : ∀ m, m ≠ n → S'[m]? = S[m]?
theorem Up.refl {n : Nat} {S : Store} : Up n S S := ⟨rfl, fun _ _ => rfl⟩
theorem Up.trans {n : Nat} {S S' S'' : Store} (a : Up n S S') (b : Up n S' S'') : Up n S S'' := ⟨b.len.trans a.len, fun m h => (b.same m h).trans (a.same m h)⟩
theorem Up.set {n : Nat} {S : Store} {c : Cell} : Up n S (S.set n c) := ⟨by simp, fun m h => List.getElem?_set_ne (Ne.symm h)⟩
theorem Up.take {n : Nat} {S S' : Store} (a : Up n S S') : S'.take S.length = S' := List.take_of_length_le (by rw [a.len]; exact Nat.le_refl _)
theorem Dk.mono {S : Store} {n N M : Nat} (h : Dk S n N) (hm : N ≤ M) : Dk S n M := by
  obtain ⟨d0, d1, d2, e, h1, h2⟩ := h.ex
  exact ⟨d0, d1, d2, e, h1, by omega⟩
def LIM : Nat := 1000000
theorem pick_wp (hp : P[x n_law_pick]? = some (f_law_pick x)) {k b n N : Nat} {S : Store} {m : Int} {Q : D → Store → Prop} {X : XQ} (h : Dk S n N) (hN : N ≤ LIM) (hk : 1 ≤ k) (h1 : 1 ≤ m) (h2 : m < 2 ^ 63)
    (hQ : ∀ (r : Int) S', 0 ≤ r → r < m → Up n S S' → Dk S' n (N + 1) → Q (.t (.int r)) S') : (callF P gs k (x n_law_pick) b [.ref n, .t (.int m)] S).Wp Q X := by
  obtain ⟨j, rfl⟩ : ∃ j, k = j + 1 := ⟨k - 1, by omega⟩
  obtain ⟨d0, d1, d2, e, a1, a2⟩ := h.ex
  have hN : N ≤ 1000000 := hN
  obtain ⟨i, rfl⟩ : ∃ i : Nat, m = (i : Int) := ⟨m.toNat, by omega⟩
  obtain ⟨r, hr, d0', d2', h3, h4⟩ := pick_ok (gs := gs) hp j b S n d0 d1 d2 i e a1 (by omega) (by omega) (by omega)
  rw [h4]
  exact hQ r _ (by omega) (by omega) .set ⟨d0', d1, d2', get_set e, a1, by omega⟩
theorem at_mem {α : Type} {xs : List α} {r : Int} (h0 : 0 ≤ r) (h1 : r < xs.length) : ∃ y, atI xs r = some y ∧ y ∈ xs := by
  obtain ⟨n, rfl⟩ : ∃ n : Nat, r = (n : Int) := ⟨r.toNat, by omega⟩
  have hn : n < xs.length := by omega
  exact ⟨xs[n], Den.atI_nat (List.getElem?_eq_getElem hn), List.getElem_mem hn⟩
theorem wp_at {xs : List T} {r : Int} {S : Store} {Q : D → Store → Prop} {X : XQ} (h0 : 0 ≤ r) (h1 : r < xs.length) (h : ∀ y ∈ xs, Q (.t y) S) : (lift ((atI xs r).map D.t) S).Wp Q X := by
  obtain ⟨y, e, m⟩ := at_mem h0 h1
  rw [e]
  exact h y m
/-- a loop that collects, one tree an item, c draws each -/
theorem collect_deck {X : XQ} {F : D → Store → Res (List D)} {n c B l : Nat} (good : T → Prop) (us : List D)
    (hF : ∀ u ∈ us, ∀ S N (Q : List D → Store → Prop), Dk S n N → N + c ≤ B → S.length = l → (∀ y S', good y → Up n S S' → Dk S' n (N + c) → Q [.t y] S') → (F u S).Wp Q X) :
    ∀ {S : Store} {N : Nat} {Q : List D → Store → Prop}, Dk S n N → N + c * us.length ≤ B → S.length = l →
      (∀ (ys : List T) S', (∀ y ∈ ys, good y) → ys.length = us.length → Up n S S' → Dk S' n (N + c * us.length) → Q (ys.map .t) S') → (collectD F us S).Wp Q X := by
  induction us with
  | nil =>
    intro S N Q h hB hl hQ
    exact hQ [] S (fun _ z => by cases z) rfl .refl (h.mono (by simp))
  | cons u us ih =>
    intro S N Q h hB hl hQ
    rw [List.length_cons, Nat.mul_add, Nat.mul_one] at hB
    unfold collectD
    rw [wp_bind]
    refine hF u (List.mem_cons_self ..) S N _ h (by omega) hl fun y S1 g1 u1 d1 => ?_
    rw [Th_ap, wp_bind]
    refine ih (fun v hv => hF v (List.mem_cons_of_mem _ hv)) d1 (by omega) (u1.len.trans hl) fun ys S2 g2 l2 u2 d2 => ?_
    rw [Th_ap, wp_ok]
    refine hQ (y :: ys) S2 (fun z hz => ?_) (by simp [l2]) (u1.trans u2) (d2.mono ?_)
    · rcases List.mem_cons.mp hz with rfl | hz
      · exact g1
      · exact g2 z hz
    · rw [List.length_cons, Nat.mul_add, Nat.mul_one]
      omega
/-- fit to be looked at -/
def Gd (y : T) : Prop := y.plain = true ∧ (∀ s, y = .str s → s.length ≤ 1000) ∧ (∀ xs, y = .tuple xs → xs.length ≤ 1000) ∧ ∀ xs, y = .list xs → xs.length ≤ 1000
def cost : Nat → Nat
  | 0 => 6
  | d + 1 => 6 + 3 * cost d
theorem plain_all {ys : List T} (h : ∀ y ∈ ys, Gd y) : PyData.plainAll ys = true := by
  induction ys with
  | nil => rfl
  | cons y ys ih =>
    rw [PyData.plainAll, (h y (List.mem_cons_self ..)).1, ih fun z hz => h z (List.mem_cons_of_mem _ hz)]
    rfl
theorem gd_int (i : Int) : Gd (.int i) := ⟨rfl, fun _ h => (by cases h), fun _ h => (by cases h), fun _ h => (by cases h)⟩
theorem gd_bool (i : Bool) : Gd (.bool i) := ⟨rfl, fun _ h => (by cases h), fun _ h => (by cases h), fun _ h => (by cases h)⟩
theorem gd_none : Gd .none := ⟨rfl, fun _ h => (by cases h), fun _ h => (by cases h), fun _ h => (by cases h)⟩
theorem gd_str {s : Str} (h : s.length ≤ 1000) : Gd (.str s) := ⟨rfl, fun _ e => (by cases e; exact h), fun _ e => (by cases e), fun _ e => (by cases e)⟩
theorem gd_list {ys : List T} (h : ∀ y ∈ ys, Gd y) (hl : ys.length ≤ 1000) : Gd (.list ys) := ⟨by rw [PyData.plain]; exact plain_all h, fun _ e => (by cases e), fun _ e => (by cases e), fun _ e => (by cases e; exact hl)⟩
theorem gd_tuple {ys : List T} (h : ∀ y ∈ ys, Gd y) (hl : ys.length ≤ 1000) : Gd (.tuple ys) := ⟨by rw [PyData.plain]; exact plain_all h, fun _ e => (by cases e), fun _ e => (by cases e; exact hl), fun _ e => (by cases e)⟩
theorem range_len (r : Nat) : (rangeD 0 (r : Int)).length = r := by simp [rangeD]
@[simp] theorem bin_powL {S : Store} (i j : Int) : binD .Pow S (.t (.int i)) (.t (.int j)) = if 0 ≤ j ∧ j ≤ 1000000 ∧ i.natAbs < 18446744073709551616 then some (.t (.int (i ^ j.toNat))) else none := by
  show (guardB (decide (0 ≤ j) && decide (j ≤ 1000000) && decide (i.natAbs < 2 ^ 64)) _).map _ = _
  by_cases h : 0 ≤ j ∧ j ≤ 1000000 ∧ i.natAbs < 18446744073709551616
  · rw [if_pos h, decide_eq_true h.1, decide_eq_true h.2.1, decide_eq_true (show i.natAbs < 2 ^ 64 by omega)]; rfl
  · rw [if_neg h]
    have : (decide (0 ≤ j) && decide (j ≤ 1000000) && decide (i.natAbs < 2 ^ 64)) = false := by
      rw [Bool.eq_false_iff]
      intro z
      simp only [Bool.and_eq_true, decide_eq_true_eq] at z
      exact h ⟨z.1.1, z.1.2, by omega⟩
    rw [this]; rfl
@[simp] theorem szl : sizeLine = 16777216 := sizeLine_eq
@[simp] theorem blt_intb {S : Store} (c : Bool) : bltD .int1 S [.t (.bool c)] = some (.t (.int (if c then 1 else 0))) := (rfl)
theorem bin_mulB {S : Store} {i j : Int} (h : i.natAbs < 18446744073709551616) (h2 : j.natAbs < 18446744073709551616) : binD .Mult S (.t (.int i)) (.t (.int j)) = some (.t (.int (i * j))) := bin_mulS (sm64 h) (sm64 h2)
theorem thing_wp (hp : P[x n_law_pick]? = some (f_law_pick x)) (ht : P[x n_law_thing]? = some (f_law_thing x)) : ∀ (dp : Nat) {k b n N : Nat} {S : Store} {Q : D → Store → Prop} {X : XQ}, Dk S n N → N + cost dp ≤ LIM → dp + 2 ≤ k →
    (∀ y S', Gd y → Up n S S' → Dk S' n (N + cost dp) → Q (.t y) S') → (callF P gs k (x n_law_thing) b [.ref n, .t (.int dp)] S).Wp Q X := by
  intro dp
  induction dp using Nat.strongRecOn with
  | _ dp ih =>
    intro k b n N S Q X h hN hk hQ
    have hc : 6 ≤ cost dp := by cases dp <;> simp [cost]
    have hQ : ∀ y S', Gd y → Up n S S' → Dk S' n (N + cost dp) → Q (.t y) (S'.take S.length) := fun y S' g u d => by rw [u.take]; exact hQ y S' g u d
    refine call_wp ht (by omega) (run_wp rfl rfl ?_)
    simp [f_law_thing]
    refine pick_wp hp h (by omega) (by omega) (by decide) (by decide) fun kd S1 a1 b1 u1 h1 => ?_
    simp
    refine pick_wp hp h1 (by omega) (by omega) (by decide) (by decide) fun r2 S2 a2 b2 u2 h2 => ?_
    simp
    refine pick_wp hp h2 (by omega) (by omega) (by decide) (by decide) fun r3 S3 a3 b3 u3 h3 => ?_
    simp [mkLst]
    refine pick_wp hp h3 (by omega) (by omega) (by decide) (by decide) fun r4 S4 a4 b4 u4 h4 => ?_
    simp
    refine wp_at a4 (by simpa using b4) fun far hf => ?_
    have gf : Gd far := by
      simp at hf
      rcases hf with rfl | rfl | rfl <;> exact gd_int _
    have u04 := ((u1.trans u2).trans u3).trans u4
    simp
    by_cases c1 : kd < 4
    · simp [c1]
      exact hQ far S4 gf u04 (h4.mono (by omega))
    simp [c1]
    by_cases c2 : kd < 7
    · simp [c2, mkLst]
      refine wp_at (by omega) (by simp; omega) fun y hy => ?_
      have gy : Gd y := by
        simp at hy
        rcases hy with rfl | rfl | rfl
        · exact gd_bool _
        · exact gd_bool _
        · exact gd_none
      simp
      exact hQ y S4 gy u04 (h4.mono (by omega))
    simp [c2]
    by_cases c3 : kd < 9
    · simp [c3, mkLst]
      refine pick_wp hp h4 (by omega) (by omega) (by decide) (by decide) fun r5 S5 a5 b5 u5 h5 => ?_
      simp
      refine wp_at (by omega) (by simp; omega) fun y hy => ?_
      have gy : Gd y := by
        simp at hy
        rcases hy with rfl | rfl | rfl | rfl | rfl | rfl <;> exact gd_str (by decide)
      simp
      exact hQ y S5 gy (u04.trans u5) (h5.mono (by omega))
    simp [c3, evE_comp]
    refine comp_wp ?_
    simp
    refine pick_wp hp h4 (by omega) (by omega) (by decide) (by decide) fun r5 S5 a5 b5 u5 h5 => ?_
    obtain ⟨m, em, hm, hd⟩ : ∃ m : Nat, r5 * (if 0 < dp then 1 else 0) = (m : Int) ∧ m ≤ 3 ∧ (m ≠ 0 → 0 < dp) := by
      by_cases z : 0 < dp
      · exact ⟨r5.toNat, by simp [z]; omega, by omega, fun _ => z⟩
      · exact ⟨0, by simp [z], by omega, fun q => absurd rfl q⟩
    simp
    refine wp_lift (a := .t (.int (m : Int))) ?_ ?_
    · rw [bin_mulB (by omega) (by split <;> decide), em]
    simp
    rw [if_pos (by omega)]
    simp
    refine collect_deck (c := cost (dp - 1)) (B := LIM) (l := S5.length) Gd _ (fun u hu S N Q d hB hl hQ => ?_) h5 ?_ rfl fun ys S6 gy ly u6 h6 => ?_
    · have hu : u ∈ rangeD 0 (m : Int) := hu
      have hm0 : m ≠ 0 := fun z => by subst z; simp [rangeD] at hu
      obtain ⟨e, rfl⟩ : ∃ e, dp = e + 1 := ⟨dp - 1, by have := hd hm0; omega⟩
      simp [turnD, wipeD, Tg.slots]
      refine ih e (by omega) d hB (by omega) fun y S' g v d' => ?_
      simp
      exact hQ y S' g v d'
    · rw [range_len]
      rcases Nat.eq_zero_or_pos m with z | z
      · subst z
        simp
        omega
      · obtain ⟨e, rfl⟩ : ∃ e, dp = e + 1 := ⟨dp - 1, by have := hd (by omega); omega⟩
        have h1 : cost (e + 1) = 6 + 3 * cost e := rfl
        have h2 : cost (e + 1 - 1) * m ≤ cost e * 3 := Nat.mul_le_mul (Nat.le_refl _) hm
        omega
    · have hl : ys.length ≤ 3 := by rw [ly, range_len]; exact hm
      have u06 := (u04.trans u5).trans u6
      have h6 : Dk S6 n (N + cost dp) := h6.mono (by
        rw [range_len]
        rcases Nat.eq_zero_or_pos m with z | z
        · subst z
          simp
          omega
        · obtain ⟨e, rfl⟩ : ∃ e, dp = e + 1 := ⟨dp - 1, by have := hd (by omega); omega⟩
          have h1 : cost (e + 1) = 6 + 3 * cost e := rfl
          have h2 : cost (e + 1 - 1) * m ≤ cost e * 3 := Nat.mul_le_mul (Nat.le_refl _) hm
          omega)
      simp [mkLst]
      refine ⟨by omega, ?_⟩
      by_cases c9 : kd = 9
      · simp [c9]
        exact hQ _ S6 (gd_list gy (by omega)) u06 h6
      · simp [c9]
        refine wp_lift (a := .t (.tuple ys)) rfl ?_
        simp
        exact hQ _ S6 (gd_tuple gy (by omega)) u06 h6
end Lib

set_option maxHeartbeats 1000000
/-! LibW2: spoilt rows of numbers. -/
namespace Lib
open PySem PySem.Spec PyProof.Rows L2 Den
variable {P : List Fn} {gs : List T} {x : Nat → Nat}
@[simp] theorem slc_tuple {S : Store} (xs : List T) (l h : Option Int) : slcD S (.t (.tuple xs)) l h = some (.t (.tuple (cutT xs l h))) := (rfl)
@[simp] theorem slc_list {S : Store} (xs : List T) (l h : Option Int) : slcD S (.t (.list xs)) l h = some (.t (.list (cutT xs l h))) := (rfl)
theorem cut_sub {α : Type} {xs : List α} {l h : Option Int} {y : α} (m : y ∈ cutT xs l h) : y ∈ xs := List.mem_of_mem_drop (List.mem_of_mem_take m)
theorem cut_len {α : Type} {xs : List α} {l h : Option Int} : (cutT xs l h).length ≤ xs.length := by
  unfold cutT
  rw [List.length_take, List.length_drop]
  omega
theorem bin_tuples {S : Store} {xs ys : List T} (h : xs.length + ys.length ≤ sizeLine) : binD .Add S (.t (.tuple xs)) (.t (.tuple ys)) = some (.t (.tuple (xs ++ ys))) := by
  show (guardB (decide (xs.length + ys.length ≤ sizeLine)) _).map _ = _
  rw [decide_eq_true h]; rfl
@[simp] theorem blt_lst {S : Store} (xs : List T) : bltD .lst1 S [.t (.tuple xs)] = some (.t (.list xs)) := (rfl)
@[simp] theorem blt_lst' {S : Store} (xs : List T) : bltD .lst1 S [.t (.list xs)] = some (.t (.list xs)) := (rfl)
@[simp] theorem blt_tup {S : Store} (xs : List T) : bltD .tup1 S [.t (.list xs)] = some (.t (.tuple xs)) := (rfl)
@[simp] theorem blt_tup' {S : Store} (xs : List T) : bltD .tup1 S [.t (.tuple xs)] = some (.t (.tuple xs)) := (rfl)
@[simp] theorem back_tup (xs : List T) : backD (.t (.tuple xs)) = some (.t (.tuple xs.reverse)) := (rfl)
theorem blt_str {S : Store} {i : Int} (h : i.natAbs < 2 ^ 1000) : bltD .str1 S [.t (.int i)] = some (.t (.str (toString i))) := by
  show guardB (decide (i.natAbs.log2 < 1920)) (D.t (.str (toString i))) = _
  have := log2_le (Nat.le_of_lt h)
  rw [decide_eq_true (by omega)]; rfl
@[simp] theorem isi_tup {S : Store} (x : T) : isiD S (.t x) "tuple" = some (isiT x "tuple") := (rfl)
@[simp] theorem isi_str {S : Store} (x : T) : isiD S (.t x) "str" = some (isiT x "str") := (rfl)
@[simp] theorem isi_int {S : Store} (x : T) : isiD S (.t x) "int" = some (isiT x "int") := (rfl)
@[simp] theorem isi_bool {S : Store} (x : T) : isiD S (.t x) "bool" = some (isiT x "bool") := (rfl)
@[simp] theorem isi_list {S : Store} (x : T) : isiD S (.t x) "list" = some (isiT x "list") := (rfl)
def far (y : T) : Prop := ∃ i : Int, y = .int i ∧ i.natAbs < 2 ^ 200
theorem digits_len (i : Int) (h : i.natAbs < 2 ^ 200) : (toString i : Str).length ≤ 1000 := by
  have h0 : i.natAbs.log2 ≤ 200 := log2_le (Nat.le_of_lt h)
  have e := int_text_length_le (a := i) (k := 201) (by decide) (by omega)
  show (Str.ofString (toString i)).length ≤ 1000
  rw [PySem.ofString_length]
  omega
theorem spoilt_int (H : N_law_spoilt P gs x) {k b n N : Nat} {S : Store} {Q : D → Store → Prop} {X : XQ} {y : T} (fy : far y) (h : Dk S n N) (hN : N + 1 ≤ LIM) (hk : 2 ≤ k)
    (hQ : ∀ y S', Gd y → Up n S S' → Dk S' n (N + 1) → Q (.t y) S') : (callF P gs k (x n_law_spoilt) b [.ref n, .t y] S).Wp Q X := by
  obtain ⟨i, rfl, hi⟩ := fy
  have hQ : ∀ y S', Gd y → Up n S S' → Dk S' n (N + 1) → Q (.t y) (S'.take S.length) := fun y S' g u d => by rw [u.take]; exact hQ y S' g u d
  refine call_wp H.f_law_spoilt (by omega) (run_wp rfl rfl ?_)
  simp [f_law_spoilt, isiT]
  rw [blt_str (Nat.lt_of_lt_of_le hi (Nat.pow_le_pow_right (by decide) (by decide)))]
  simp [mkLst]
  refine pick_wp H.s_law_pick.f_law_pick h (by omega) (by omega) (by decide) (by decide) fun r S1 a1 b1 u1 h1 => ?_
  simp
  refine wp_at a1 (by simpa using b1) fun z hz => ?_
  have gz : Gd z := by
    simp at hz
    rcases hz with rfl | rfl | rfl | rfl | rfl | rfl | rfl | rfl | rfl <;> first | exact gd_int _ | exact gd_bool _ | exact gd_none | exact gd_str (digits_len i hi)
  simp
  exact hQ z S1 gz u1 h1
theorem far_gd {y : T} (h : far y) : Gd y := by obtain ⟨i, rfl, _⟩ := h; exact gd_int i
theorem ne_unit {S : Store} {zs : List T} (h : PyData.plainAll zs = true) : cmpD .NotEq S (.t (.tuple zs)) (.t (.tuple [])) = some (!zs.isEmpty) := by
  show guardB (cmpOk (.tuple zs) (.tuple [])) (!PyData.eqv (.tuple zs) (.tuple [])) = _
  have e1 : cmpOk (.tuple zs) (.tuple []) = true := by
    unfold cmpOk
    have d : min (PyData.depth (.tuple zs)) (PyData.depth (.tuple [])) ≤ 100 := by
      have : PyData.depth (.tuple []) ≤ 1 := by decide
      omega
    rw [decide_eq_true d]
    simp [PyData.plain, h, PyData.plainAll]
  have e2 : PyData.eqv (.tuple zs) (.tuple []) = zs.isEmpty := by cases zs <;> simp [PyData.eqv, PyData.eqvAll]
  rw [e1, e2]
  rfl
theorem gd_cut {ys : List T} {l h : Option Int} (g : ∀ y ∈ ys, Gd y) : ∀ y ∈ cutT ys l h, Gd y := fun y m => g y (cut_sub m)
theorem gd_app {ys zs : List T} (g : ∀ y ∈ ys, Gd y) (g' : ∀ y ∈ zs, Gd y) : ∀ y ∈ ys ++ zs, Gd y := fun y m => (List.mem_append.mp m).elim (g y) (g' y)
theorem gd_one {y : T} (g : Gd y) : ∀ z ∈ [y], Gd z := fun z m => by rw [List.mem_singleton] at m; subst m; exact g
theorem spoilt_row (H : N_law_spoilt P gs x) {k b n N : Nat} {S : Store} {Q : D → Store → Prop} {X : XQ} {ys : List T} (fy : ∀ y ∈ ys, far y) (ly : ys.length ≤ 100) (h : Dk S n N) (hN : N + 3 ≤ LIM) (hk : 3 ≤ k)
    (hQ : ∀ y S', Gd y → Up n S S' → Dk S' n (N + 3) → Q (.t y) S') : (callF P gs k (x n_law_spoilt) b [.ref n, .t (.tuple ys)] S).Wp Q X := by
  have hQ : ∀ y S', Gd y → Up n S S' → Dk S' n (N + 3) → Q (.t y) (S'.take S.length) := fun y S' g u d => by rw [u.take]; exact hQ y S' g u d
  have gy : ∀ y ∈ ys, Gd y := fun y m => far_gd (fy y m)
  have hp := H.s_law_pick.f_law_pick
  refine call_wp H.f_law_spoilt (by omega) (run_wp rfl rfl ?_)
  refine sp_cut (fun ds S1 => ds = [some (.ref n), some (.t (.tuple ys)), none, none, none, none] ∧ Up n S S1 ∧ Dk S1 n (N + 1)) ?_ ?_
  · simp [f_law_spoilt, isiT, mkTup]
    rw [ne_unit (plain_all gy)]
    cases he : ys.isEmpty with
    | true =>
      simp [f_law_spoilt]
      exact ⟨.refl, h.mono (by omega)⟩
    | false =>
      simp
      refine pick_wp hp h (by omega) (by omega) (by decide) (by decide) fun r S1 a1 b1 u1 h1 => ?_
      simp
      by_cases c : 0 < r
      · have hpos : 0 < ys.length := by
          cases ys with
          | nil => cases he
          | cons _ _ => simp
        simp [c]
        refine pick_wp hp h1 (by omega) (by omega) (by omega) (by omega) fun at_ S2 a2 b2 u2 h2 => ?_
        simp
        obtain ⟨y, ey, my⟩ := at_mem a2 b2
        rw [ey]
        simp
        refine spoilt_int H (fy y my) h2 (by omega) (by omega) fun z S3 gz u3 h3 => ?_
        have l1 := cut_len (xs := ys) (l := none) (h := some at_)
        have l2 := cut_len (xs := ys) (l := some (at_ + 1)) (h := none)
        simp [mkTup]
        refine wp_lift (bin_tuples (by simp; omega)) ?_
        simp
        refine wp_lift (bin_tuples (by simp; omega)) ?_
        simp
        exact hQ _ S3 (gd_tuple (gd_app (gd_cut gy) fun y m => (List.mem_cons.mp m).elim (fun e => e ▸ gz) (gd_cut gy y)) (by simp; omega)) ((u1.trans u2).trans u3) h3
      · simp [c, f_law_spoilt]
        exact ⟨u1, h1⟩
  · rintro ds S1 ⟨rfl, u1, h1⟩
    have l1 := cut_len (xs := ys) (l := none) (h := some 1)
    simp [isiT, mkTup, mkLst]
    refine wp_lift (bin_tuples (by simp; omega)) ?_
    simp
    refine wp_lift (bin_tuples (by simp; omega)) ?_
    simp [mkTup, mkLst]
    refine wp_lift (bin_lists (by simp)) ?_
    simp
    refine pick_wp hp h1 (by omega) (by omega) (by decide) (by decide) fun r S2 a2 b2 u2 h2 => ?_
    simp
    refine wp_at a2 (by simpa using b2) fun z hz => ?_
    have gi := gd_int 1
    have l2 := cut_len (xs := ys) (l := some 1) (h := none)
    have gz : Gd z := by
      simp at hz
      rcases hz with rfl | rfl | rfl | rfl | rfl | rfl | rfl | rfl | rfl | rfl | rfl | rfl | rfl | rfl | rfl
      · exact gd_tuple (by simp [gi]) (by simp)
      · exact gd_tuple (by simp) (by simp)
      · exact gd_none
      · exact gd_bool _
      · exact gd_str (by decide)
      · exact gd_int _
      · exact gd_tuple (by simp [gi, gd_str (s := "number") (by decide)]) (by simp)
      · exact gd_tuple (by simp [gd_str (s := "name") (by decide), gd_str (s := "x") (by decide)]) (by simp)
      · exact gd_tuple (gd_app gy (gd_cut gy)) (by simp; omega)
      · exact gd_tuple (gd_cut gy) (by omega)
      · exact gd_tuple (gd_cut gy) (by omega)
      · exact gd_list gy (by omega)
      · exact gd_tuple (gd_one (gd_tuple gy (by omega))) (by simp)
      · exact gd_tuple (gd_app gy gy) (by simp; omega)
      · exact gd_tuple (fun y m => gy y (List.mem_reverse.mp m)) (by simp; omega)
    simp
    exact hQ z S2 gz (u1.trans u2) (h2.mono (by omega))
end Lib
namespace Lib
open PySem PySem.Spec PyProof.Rows L2 Den
variable {P : List Fn} {gs : List T} {x : Nat → Nat}
theorem deck_wp (H : N_law_deck P gs x) {k b : Nat} {S : Store} {c : Int} {Q : D → Store → Prop} {X : XQ} (hk : 1 ≤ k)
    (hQ : ∀ cc, Dk (S ++ [cc]) S.length 0 → Q (.ref S.length) (S ++ [cc])) : (callF P gs k (x n_law_deck) b [.t (.int c), .t (.int 0)] S).Wp Q X := by
  refine call_wp H.f_law_deck hk (runk_wp rfl rfl ?_)
  have dkI : ∀ d0 : Int, ∀ m : Int, 0 ≤ m → m < 2147483579 → Dk (S ++ [.lst [.t (.int d0), .t (.int m), .t (.int 0)]]) S.length 0 := fun d0 m h0 h1 => by
    obtain ⟨r, rfl⟩ : ∃ r : Nat, m = (r : Int) := ⟨m.toNat, by omega⟩
    exact ⟨d0, r, 0, by simp, by omega, by omega⟩
  simp [f_law_deck]
  by_cases hx : 1000000000000000000 ≤ c
  · simp [hx]
    rw [bin_modS (by decide)]
    simp
    exact hQ _ (dkI _ _ (Int.emod_nonneg _ (by decide)) (Int.emod_lt_of_pos _ (by decide)))
  · simp [hx]
    rw [bin_modS (by decide)]
    simp
    exact hQ _ (dkI _ _ (Int.emod_nonneg _ (by decide)) (Int.emod_lt_of_pos _ (by decide)))
/-- a text's item -/
theorem idx_str {S : Store} (s : Str) (i : Int) (h : s.length ≤ sizeLine) : idxD S (.t (.str s)) (.t (.int i)) = (atI s.cps.toList i).map fun c => .t (.str ⟨#[c]⟩) := by
  show (idxT (.str s) (.int i)).map D.t = _
  unfold idxT
  simp only [h, if_true, Option.map_map]
  rfl
theorem bin_strs {S : Store} {s t : Str} (h : s.length + t.length ≤ sizeLine) : binD .Add S (.t (.str s)) (.t (.str t)) = some (.t (.str (s ++ t))) := by
  show (guardB (decide (s.length + t.length ≤ sizeLine)) _).map _ = _
  rw [decide_eq_true h]; rfl
theorem bin_rep {S : Store} {xs : List T} {k : Int} (h0 : -1000 ≤ k) (h1 : k ≤ 1000) (h2 : xs.length ≤ 1000) : binD .Mult S (.t (.tuple xs)) (.t (.int k)) = some (.t (.tuple (List.replicate k.toNat xs).flatten)) := by
  show (guardB (decide (-1000 ≤ k) && decide (k ≤ 1000) && decide (xs.length ≤ 1000)) _).map _ = _
  rw [decide_eq_true h0, decide_eq_true h1, decide_eq_true h2]; rfl
theorem slc_str {S : Store} {s : Str} {l h : Option Int} (hl : s.length ≤ sizeLine) : slcD S (.t (.str s)) l h = some (.t (.str (cutS s l h))) := by
  show (guardB (decide (s.length ≤ sizeLine)) _).map _ = _
  rw [decide_eq_true hl]; rfl
end Lib
namespace Lib
open PySem PySem.Spec PyProof.Rows L2 Den
/-- [body for i in range(e)], drawing -/
theorem rcomp_deck {cf : CF} {gs : List T} {b i n N a c M : Nat} {e body : E} {ds : Sl} {S : Store} {Q : D → Store → Prop} {X : XQ} (good : T → Prop) (hM : M ≤ 1000) (hB : N + a + c * M ≤ LIM)
    (h : (evE cf gs b e ds S).Wp (fun u S1 => ∃ m : Int, u = .t (.int m) ∧ 0 ≤ m ∧ m ≤ M ∧ Up n S S1 ∧ Dk S1 n (N + a)) X)
    (hb : ∀ (j : Int) S' N (Q : D → Store → Prop) X, Dk S' n N → N + c ≤ LIM → S'.length = S.length → (∀ y S'', good y → Up n S' S'' → Dk S'' n (N + c) → Q (.t y) S'') → (evE cf gs b body ((wipeD ds [i]).set i (some (.t (.int j)))) S').Wp Q X)
    (hQ : ∀ ys S', (∀ y ∈ ys, good y) → ys.length ≤ M → Up n S S' → Dk S' n (N + a + c * M) → Q (.t (.list ys)) S') : (evE cf gs b (.comp false (.v i) (.rng1 e) .nil body) ds S).Wp Q X := by
  rw [evE_comp]
  refine comp_wp ?_
  rw [evIt_rng1, wp_bind]
  refine wp_imp h (fun u S1 ⟨m, e1, m0, mM, u1, d1⟩ => ?_) fun _ _ _ z => z
  subst e1
  obtain ⟨m, rfl⟩ : ∃ r : Nat, m = (r : Int) := ⟨m.toNat, by omega⟩
  simp
  rw [if_pos (by omega)]
  rw [wp_ok]
  refine collect_deck (c := c) (B := LIM) (l := S.length) good _ (fun u hu S' N' Q d hB hl hQ => ?_) d1 ?_ u1.len fun ys S6 gy ly u6 h6 => ?_
  · obtain ⟨j, _, rfl⟩ := List.mem_map.mp hu
    simp [turnD, Tg.slots]
    refine hb _ S' N' _ _ d hB hl fun y S'' gy uy dy => ?_
    simp
    exact hQ y S'' gy uy dy
  · rw [range_len]
    have : c * m ≤ c * M := Nat.mul_le_mul (Nat.le_refl _) (by omega)
    omega
  · rw [range_len] at ly h6
    have : c * m ≤ c * M := Nat.mul_le_mul (Nat.le_refl _) (by omega)
    simp [mkLst]
    exact ⟨by omega, hQ ys S6 gy (by omega) (u1.trans u6) (h6.mono (by omega))⟩
theorem join0_len : ∀ {ys : List Str} {B : Nat}, (∀ y ∈ ys, y.length ≤ B) → (Str.join "" ys).length ≤ B * ys.length
  | [], _, _ => by simp [Str.join, Str.empty, Str.length]
  | [y], B, h => by
    have := h y (List.mem_cons_self ..)
    simp [Str.join]
    exact this
  | y :: z :: r, B, h => by
    have h1 := h y (List.mem_cons_self ..)
    have h2 := join0_len (ys := z :: r) (B := B) fun w m => h w (List.mem_cons_of_mem _ m)
    have e : Str.join "" (y :: z :: r) = y ++ "" ++ Str.join "" (z :: r) := rfl
    rw [e, PySem.Str.length_append, PySem.Str.length_append]
    simp only [List.length_cons, Nat.mul_add, Nat.mul_one] at h2 ⊢
    have : ("" : Str).length = 0 := rfl
    omega
end Lib
namespace Lib
open PySem PySem.Spec PyProof.Rows L2 Den
@[simp] theorem isStr_str (s : Str) : isStrD (.t (.str s)) = true := (rfl)
theorem strs_of {p : Str → Prop} : ∀ {ys : List T}, (∀ y ∈ ys, ∃ s : Str, y = .str s ∧ p s) → ∃ ss : List Str, ys = ss.map .str ∧ ∀ s ∈ ss, p s
  | [], _ => ⟨[], rfl, fun _ m => by cases m⟩
  | y :: ys, h => by
    obtain ⟨s, e, hs⟩ := h y (List.mem_cons_self ..)
    obtain ⟨ss, e', h'⟩ := strs_of fun z m => h z (List.mem_cons_of_mem _ m)
    exact ⟨s :: ss, by rw [e, e']; rfl, fun z m => (List.mem_cons.mp m).elim (fun e => e ▸ hs) (h' z)⟩
theorem strsT_map : ∀ ss : List Str, strsT (ss.map .str) = some ss
  | [] => rfl
  | s :: ss => by
    rw [List.map_cons]
    show (strsT (ss.map .str)).map _ = _
    rw [strsT_map ss]
    rfl
theorem sum_le {B : Nat} : ∀ {ss : List Str}, (∀ s ∈ ss, s.length ≤ B) → (ss.map (·.length)).sum ≤ B * ss.length
  | [], _ => by simp
  | s :: ss, h => by
    have h1 := h s (List.mem_cons_self ..)
    have h2 := sum_le fun z m => h z (List.mem_cons_of_mem _ m)
    simp only [List.map_cons, List.sum_cons, List.length_cons, Nat.mul_add, Nat.mul_one]
    omega
theorem mth_join {S : Store} {a : Str} {ss : List Str} (h : (ss.map (·.length)).sum + ss.length * a.length ≤ 16777216) : mthD .join S (.t (.str a)) [.t (.list (ss.map .str))] = some (.t (.str (Txt.join a ss))) := by
  show (strsT (ss.map .str)).bind _ = _
  rw [strsT_map]
  show guardB (decide ((ss.map (·.length)).sum + ss.length * a.length ≤ 16777216)) _ = _
  rw [decide_eq_true h]
  rfl
end Lib
namespace Lib
open PySem PySem.Spec PyProof.Rows L2 Den
theorem script_slc {S : Store} (ns : List Int) (l h : Option Int) : slcD S (scriptD ns) l h = some (.t (.list ((cutT ns l h).map .int))) := by
  show some (newL (cutT (ns.map .int) l h)) = _
  have e : cutT (ns.map PyData.int) l h = (cutT ns l h).map .int := by
    unfold cutT
    rw [List.length_map, ← List.map_drop, ← List.map_take]
  rw [e]
  unfold newL
  rw [if_pos]
  rw [List.all_map]
  exact List.all_eq_true.mpr fun _ _ => rfl
/-- for cell in [0] + script[:n] -/
theorem cells_wp {cf : CF} {gs : List T} {b : Nat} {t : Tg} {body : Ss} {ds : Sl} {S : Store} {ns : List Int} {n : Int} {q : SQ} (I : Sl → Store → Prop) (hl : ns.length ≤ 63) (h0 : I ds S) (hN : ∀ ds S, I ds S → q.nx ds S)
    (hf : ∀ (c : Int) ds S, I ds S → (fBd cf gs b t body (.t (.int c)) ds S).Wp (LQ I q)) (hs : ds[0]? = some (some (scriptD ns))) :
    (evS cf gs b (.fr t (.seq (.bin .Add (.lst false (.cons (.c (.int 0)) .nil)) (.slc (.v 0) .no (.yes (.c (.int n)))))) body) ds S).Wp q := by
  have hc : (cutT ns none (some n)).length ≤ 63 := Nat.le_trans cut_len hl
  simp [hs, mkLst, script_slc]
  refine wp_lift (bin_lists (by simp; omega)) ?_
  simp
  rw [kFor_ap]
  refine for_wp (fun us ds S' => (∀ u ∈ us, ∃ c : Int, u = .t (.int c)) ∧ I ds S') (fun ds S h => hN ds S h.2) ?_ ⟨?_, h0⟩
  · rintro u r ds S' ⟨hu, hs⟩
    obtain ⟨c, rfl⟩ := hu u (List.mem_cons_self ..)
    have hr : ∀ u ∈ r, ∃ c : Int, u = .t (.int c) := fun v m => hu v (List.mem_cons_of_mem _ m)
    exact sp_imp (hf c ds S' hs) (fun ds S h => ⟨hr, h⟩) (fun _ _ h => h) (fun _ _ h => h) (fun ds S h => ⟨hr, h⟩) fun _ _ _ _ h => h
  · intro u hu
    rcases List.mem_cons.mp hu with rfl | hu
    · exact ⟨0, rfl⟩
    · obtain ⟨a, ma, rfl⟩ := List.mem_map.mp hu
      exact ⟨a, rfl⟩
end Lib

set_option maxHeartbeats 1000000
/-! LibP: drawn programs. -/
namespace Lib
open PySem PySem.Spec PyProof.Rows L2 Den
variable {P : List Fn} {gs : List T} {x : Nat → Nat}
@[simp] theorem ofs_eq (a b : String) : (Str.ofString a = Str.ofString b) = (a = b) := by
  refine propext ⟨fun h => ?_, fun h => by rw [h]⟩
  rw [Str.ofString_eq_toList, Str.ofString_eq_toList] at h
  have h1 : a.toList.map Char.toNat = b.toList.map Char.toNat := by
    have := congrArg (fun s : Str => s.cps.toList) h
    simpa using this
  have h2 : a.toList = b.toList := by
    have inj : ∀ c d : Char, c.toNat = d.toNat → c = d := fun c d e => Char.ext (UInt32.toNat_inj.mp e)
    clear h
    generalize a.toList = l at h1 ⊢
    generalize b.toList = m at h1 ⊢
    induction l generalizing m with
    | nil => cases m with | nil => rfl | cons _ _ => cases h1
    | cons c l ih => cases m with
      | nil => cases h1
      | cons d m =>
        simp only [List.map_cons, List.cons.injEq] at h1
        rw [inj c d h1.1, ih m h1.2]
  exact String.toList_inj.mp h2
@[simp] theorem ofs_beq (a b : String) : (Str.ofString a == Str.ofString b) = decide (a = b) := by
  rw [show (Str.ofString a == Str.ofString b) = decide (Str.ofString a = Str.ofString b) from by by_cases h : Str.ofString a = Str.ofString b <;> simp [h]]
  simp
@[simp] theorem cmp_strE {S : Store} (a b : Str) : cmpD .Eq S (.t (.str a)) (.t (.str b)) = some (a == b) := (rfl)
@[simp] theorem cmp_strN {S : Store} (a b : Str) : cmpD .NotEq S (.t (.str a)) (.t (.str b)) = some (!(a == b)) := (rfl)
@[simp] theorem seqI_str (s : Str) (S : Store) : seqI (.t (.str s)) S = .ok (s.cps.toList.map fun c => .t (.str ⟨#[c]⟩)) S := (rfl)
@[simp] theorem idx_dict {S : Store} (kvs : List (T × T)) (k : T) : idxD S (.t (.dict kvs)) (.t k) = (keyK k).bind fun k => (lookK kvs k).map .t := (rfl)
@[simp] theorem blt_lenL {S : Store} (xs : List T) : bltD .len S [.t (.list xs)] = some (.t (.int xs.length)) := (rfl)
/-- an expression -/
inductive Ex where
  | name (s : Str)
  | number (i : Int)
  | truth (b : Bool)
  | row (xs : List Int)
  | ite (a b c : Ex)
  | lett (s : Str) (a b : Ex)
  | call (f : Str) (as : List Ex)
  | doo (w : Str) (as : List Ex)
mutual
def Ex.enc : Ex → T
  | .name s => .tuple [.str "name", .str s]
  | .number i => .tuple [.str "number", .int i]
  | .truth b => .tuple [.str "truth", .bool b]
  | .row xs => .tuple [.str "row", .tuple (xs.map .int)]
  | .ite a b c => .tuple [.str "if", a.enc, b.enc, c.enc]
  | .lett s a b => .tuple [.str "let", .str s, a.enc, b.enc]
  | .call f as => .tuple [.str "call", .str f, .tuple (encs as)]
  | .doo w as => .tuple [.str "do", .str w, .tuple (encs as)]
def encs : List Ex → List T
  | [] => []
  | a :: as => a.enc :: encs as
end
mutual
def Ex.dep : Ex → Nat
  | .name _ => 1
  | .number _ => 1
  | .truth _ => 1
  | .row _ => 1
  | .ite a b c => 1 + max a.dep (max b.dep c.dep)
  | .lett _ a b => 1 + max a.dep b.dep
  | .call _ as => 1 + deps as
  | .doo _ as => 1 + deps as
def deps : List Ex → Nat
  | [] => 0
  | a :: as => max a.dep (deps as)
end
def arity : List (Str × Nat) := [("f", 1), ("g", 1), ("h", 2), ("p", 1), ("t", 2)]
def dos : List (Str × Nat) := [("world", 0), ("plus", 2), ("minus", 2), ("times", 2), ("over", 2), ("rest", 2), ("first", 1), ("long", 1), ("put", 2), ("others", 1), ("below", 2), ("same", 2), ("and", 2), ("or", 2), ("not", 1)]
mutual
/-- its names are in scope, its functions of those that may be called, its words with so many args -/
def Ex.wf (sc fs : List Str) : Ex → Prop
  | .name s => s ∈ sc
  | .number i => -1000 ≤ i ∧ i ≤ 1000
  | .truth _ => True
  | .row xs => xs.length ≤ 3 ∧ ∀ i ∈ xs, -3 ≤ i ∧ i ≤ 3
  | .ite a b c => a.wf sc fs ∧ b.wf sc fs ∧ c.wf sc fs
  | .lett s a b => s ∈ (["x", "y", "z"] : List Str) ∧ a.wf sc fs ∧ b.wf (s :: sc) fs
  | .call f as => f ∈ fs ∧ (f, as.length) ∈ arity ∧ wfs sc fs as
  | .doo w as => (w, as.length) ∈ dos ∧ wfs sc fs as
def wfs (sc fs : List Str) : List Ex → Prop
  | [] => True
  | a :: as => a.wf sc fs ∧ wfs sc fs as
end
theorem encs_map : ∀ as : List Ex, encs as = as.map Ex.enc
  | [] => by rw [encs]; rfl
  | a :: as => by rw [encs, encs_map as]; rfl
theorem wfs_all {sc fs : List Str} : ∀ as : List Ex, wfs sc fs as ↔ ∀ a ∈ as, a.wf sc fs
  | [] => by rw [wfs]; simp
  | a :: as => by rw [wfs, wfs_all as]; simp
theorem deps_le {n : Nat} : ∀ as : List Ex, deps as ≤ n ↔ ∀ a ∈ as, a.dep ≤ n
  | [] => by rw [deps]; simp
  | a :: as => by rw [deps, Nat.max_le, deps_le as]; simp
mutual
theorem Ex.wf_mono {sc sc' fs : List Str} (h : ∀ s ∈ sc, s ∈ sc') : ∀ e : Ex, e.wf sc fs → e.wf sc' fs
  | .name s => by rw [Ex.wf, Ex.wf]; exact h s
  | .number i => by rw [Ex.wf, Ex.wf]; exact id
  | .truth _ => by rw [Ex.wf, Ex.wf]; exact id
  | .row xs => by rw [Ex.wf, Ex.wf]; exact id
  | .ite a b c => by rw [Ex.wf, Ex.wf]; exact fun ⟨p, q, r⟩ => ⟨Ex.wf_mono h a p, Ex.wf_mono h b q, Ex.wf_mono h c r⟩
  | .lett s a b => by
    rw [Ex.wf, Ex.wf]
    exact fun ⟨p, q, r⟩ => ⟨p, Ex.wf_mono h a q, Ex.wf_mono (fun t m => by rcases List.mem_cons.mp m with rfl | m <;> simp [*]) b r⟩
  | .call f as => by rw [Ex.wf, Ex.wf]; exact fun ⟨p, q, r⟩ => ⟨p, q, wfs_mono h as r⟩
  | .doo w as => by rw [Ex.wf, Ex.wf]; exact fun ⟨p, r⟩ => ⟨p, wfs_mono h as r⟩
theorem wfs_mono {sc sc' fs : List Str} (h : ∀ s ∈ sc, s ∈ sc') : ∀ as : List Ex, wfs sc fs as → wfs sc' fs as
  | [] => by rw [wfs, wfs]; exact id
  | a :: as => by rw [wfs, wfs]; exact fun ⟨p, q⟩ => ⟨Ex.wf_mono h a p, wfs_mono h as q⟩
end
/-- names and kinds in scope -/
def pr (p : Str × Str) : T := .tuple [.str p.1, .str p.2]
def KINDS : List Str := ["number", "truth", "row"]
def XYZ : List Str := ["x", "y", "z"]
structure ScOk (sc : List (Str × Str)) : Prop where
  len : sc.length ≤ 30
  nm : ∀ p ∈ sc, p.1 ∈ XYZ
  kd : ∀ p ∈ sc, p.2 ∈ KINDS
theorem names_comp {cf : CF} {b : Nat} {S : Store} {w0 w3 w4 w5 w6 : Option D} (kind : Str) (sc : List (Str × Str)) (hl : sc.length ≤ 30) :
    evE cf gs b (.comp false (.tup (.cons (.v 4) (.cons (.v 5) .nil))) (.seq (.v 2)) (.cons (.cmp .Eq (.v 5) (.v 1)) .nil) (.v 4)) [w0, some (.t (.str kind)), some (.t (.list (sc.map pr))), w3, w4, w5, w6] S =
      .ok (.t (.list (((sc.filter fun p => p.2 == kind).map fun p => .str p.1)))) S := by
  rw [evE_comp]
  have e : (sc.map pr).flatMap (fun u => match u with | .tuple [.str a, .str k] => if (k == kind) = true then [PyData.str a] else [] | _ => []) = (sc.filter fun p => p.2 == kind).map fun p => PyData.str p.1 := by
    clear hl
    induction sc with
    | nil => rfl
    | cons p r ih =>
      rw [List.map_cons, List.flatMap_cons, ih, List.filter_cons]
      show (if (p.2 == kind) = true then [PyData.str p.1] else []) ++ _ = _
      split <;> rfl
  rw [← e]
  refine comp_pure (by simp) (fun u hu => ?_) ?_
  · obtain ⟨p, _, rfl⟩ := List.mem_map.mp hu
    simp [turnD, wipeD, Tg.slots, Tgs.slots, pr, tupI]
    split <;> rfl
  · rw [e, List.length_map]
    have := List.length_filter_le (fun p : Str × Str => p.2 == kind) sc
    simp
    omega

theorem plain_of {ys : List T} (h : ∀ y ∈ ys, y.plain = true) : PyData.plainAll ys = true := by
  induction ys with
  | nil => rfl
  | cons y ys ih =>
    rw [PyData.plainAll, h y (List.mem_cons_self ..), ih fun z hz => h z (List.mem_cons_of_mem _ hz)]
    rfl
theorem ne_nilL {S : Store} {zs : List T} (h : PyData.plainAll zs = true) : cmpD .NotEq S (.t (.list zs)) (.t (.list [])) = some (!zs.isEmpty) := by
  show guardB (cmpOk (.list zs) (.list [])) (!PyData.eqv (.list zs) (.list [])) = _
  have e1 : cmpOk (.list zs) (.list []) = true := by
    unfold cmpOk
    have d : min (PyData.depth (.list zs)) (PyData.depth (.list [])) ≤ 100 := by
      have : PyData.depth (.list []) ≤ 1 := by decide
      omega
    rw [decide_eq_true d]
    simp [PyData.plain, h, PyData.plainAll]
  have e2 : PyData.eqv (.list zs) (.list []) = zs.isEmpty := by cases zs <;> simp [PyData.eqv, PyData.eqvAll]
  rw [e1, e2]
  rfl
theorem bin_sub' {S : Store} (i j : Int) : binD .Sub S (.t (.int i)) (.t (.int j)) = some (.t (.int (i - j))) := rfl
theorem leaf_wp (H : N_law_leaf P gs x) {k b n N : Nat} {S : Store} {Q : D → Store → Prop} {X : XQ} (kind : Str) (sc : List (Str × Str)) (fs : List Str) (hk : 2 ≤ k) (hs : ScOk sc) (hkd : kind ∈ KINDS) (h : Dk S n N) (hN : N + 20 ≤ LIM)
    (hQ : ∀ (e : Ex) S', e.wf (sc.map (·.1)) fs → e.dep ≤ 1 → Up n S S' → Dk S' n (N + 20) → Q (.t e.enc) S') : (callF P gs k (x n_law_leaf) b [.ref n, .t (.str kind), .t (.list (sc.map pr))] S).Wp Q X := by
  have hQ : ∀ (e : Ex) S', e.wf (sc.map (·.1)) fs → e.dep ≤ 1 → Up n S S' → Dk S' n (N + 20) → Q (.t e.enc) (S'.take S.length) := fun e S' g d u z => by rw [u.take]; exact hQ e S' g d u z
  have hp := H.s_law_pick.f_law_pick
  refine call_wp H.f_law_leaf (by omega) (run_wp rfl rfl ?_)
  have hfl := List.length_filter_le (fun p : Str × Str => p.2 == kind) sc
  have hl := hs.len
  have hmem : ∀ y ∈ (sc.filter fun p => p.2 == kind).map (fun p => PyData.str p.1), ∃ s, y = .str s ∧ s ∈ sc.map (·.1) := fun y m => by
    obtain ⟨p, mp, rfl⟩ := List.mem_map.mp m
    exact ⟨p.1, rfl, List.mem_map.mpr ⟨p, (List.mem_filter.mp mp).1, rfl⟩⟩
  have hlen : ((sc.filter fun p => p.2 == kind).map fun p => PyData.str p.1).length ≤ 30 := by rw [List.length_map]; omega
  simp only [f_law_leaf, evSs_then, sp_andThen, evS_asg, sp_then, List.map_cons, List.map_nil, List.cons_append, List.nil_append, List.replicate]
  refine wp_eq (names_comp kind sc hl) ?_
  generalize (sc.filter fun p => p.2 == kind).map (fun p => PyData.str p.1) = some_ at hmem hlen
  have hpl : PyData.plainAll some_ = true := plain_of fun y m => by obtain ⟨s, rfl, _⟩ := hmem y m; rfl
  have enc_n : ∀ s, (Ex.name s).enc = .tuple [.str "name", .str s] := fun s => by rw [Ex.enc]
  refine sp_cut (fun ds S1 => ds = [some (.ref n), some (.t (.str kind)), some (.t (.list (sc.map pr))), some (.t (.list some_)), none, none, none] ∧ Up n S S1 ∧ Dk S1 n (N + 1)) ?_ ?_
  · simp [mkLst]
    rw [ne_nilL hpl]
    cases he : some_.isEmpty with
    | true => simp; exact ⟨.refl, h.mono (by omega)⟩
    | false =>
      have hpos : 0 < some_.length := by cases some_ with | nil => cases he | cons _ _ => simp
      simp
      refine pick_wp hp h (by omega) (by omega) (by decide) (by decide) fun r S1 a1 b1 u1 h1 => ?_
      simp
      by_cases c : 0 < r
      · simp [c]
        refine pick_wp hp h1 (by omega) (by omega) (by omega) (by omega) fun r2 S2 a2 b2 u2 h2 => ?_
        simp
        refine wp_at a2 b2 fun y my => ?_
        obtain ⟨s, rfl, hs⟩ := hmem y my
        simp [mkTup]
        have := hQ (.name s) S2 (by rw [Ex.wf]; exact hs) (by rw [Ex.dep]; omega) (u1.trans u2) (h2.mono (by omega))
        rw [enc_n] at this
        exact this
      · simp [c]
        exact ⟨u1, h1⟩
  · rintro ds S1 ⟨rfl, u1, h1⟩
    simp
    have kds : kind = "number" ∨ kind = "truth" ∨ kind = "row" := by simpa [KINDS] using hkd
    rcases kds with rfl | rfl | rfl
    · simp
      refine pick_wp hp h1 (by omega) (by omega) (by decide) (by decide) fun r S2 a2 b2 u2 h2 => ?_
      simp
      by_cases c : r = 0
      · simp [c, mkTup]
        have := hQ (.doo "world" []) S2 (by rw [Ex.wf, wfs]; simp [dos]) (by rw [Ex.dep, deps]; omega) (u1.trans u2) (h2.mono (by omega))
        rw [Ex.enc, encs] at this
        exact this
      · simp [c]
        refine pick_wp hp h2 (by omega) (by omega) (by decide) (by decide) fun r3 S3 a3 b3 u3 h3 => ?_
        simp
        refine pick_wp hp h3 (by omega) (by omega) (by decide) (by decide) fun r4 S4 a4 b4 u4 h4 => ?_
        simp [mkLst]
        refine pick_wp hp h4 (by omega) (by omega) (by decide) (by decide) fun r5 S5 a5 b5 u5 h5 => ?_
        simp
        refine wp_at (by split <;> omega) (by simp; split <;> omega) fun y my => ?_
        have hy : ∃ i : Int, y = .int i ∧ -1000 ≤ i ∧ i ≤ 1000 := by
          simp at my
          rcases my with rfl | rfl
          · exact ⟨_, rfl, by omega, by omega⟩
          · exact ⟨_, rfl, by omega, by omega⟩
        obtain ⟨i, rfl, hi⟩ := hy
        simp [mkTup]
        have := hQ (.number i) S5 (by rw [Ex.wf]; exact hi) (by rw [Ex.dep]; omega) ((((u1.trans u2).trans u3).trans u4).trans u5) (h5.mono (by omega))
        rw [Ex.enc] at this
        exact this
    · simp
      refine pick_wp hp h1 (by omega) (by omega) (by decide) (by decide) fun r S2 a2 b2 u2 h2 => ?_
      simp [mkTup]
      have := hQ (.truth (decide (r = 0))) S2 (by rw [Ex.wf]; trivial) (by rw [Ex.dep]; omega) (u1.trans u2) (h2.mono (by omega))
      rw [Ex.enc] at this
      exact this
    · simp
      refine rcomp_deck (n := n) (N := N + 1) (a := 1) (c := 1) (M := 3) (fun y => ∃ i : Int, y = .int i ∧ -3 ≤ i ∧ i ≤ 3) (by decide) (by omega) ?_ ?_ ?_
      · simp
        refine pick_wp hp h1 (by omega) (by omega) (by decide) (by decide) fun r2 S2 a2 b2 u2 h2 => ?_
        exact ⟨r2, rfl, a2, by omega, u2, h2⟩
      · intro j S' N' Q' X' d hB hl hQ'
        simp [wipeD]
        refine pick_wp hp d (by omega) (by omega) (by decide) (by decide) fun r3 S3 a3 b3 u3 h3 => ?_
        simp
        exact hQ' _ S3 ⟨_, rfl, by omega, by omega⟩ u3 h3
      · intro ys S3 gy ly u3 h3
        obtain ⟨is_, rfl, his⟩ : ∃ is_ : List Int, ys = is_.map .int ∧ ∀ i ∈ is_, -3 ≤ i ∧ i ≤ 3 := by
          clear ly u3 h3
          induction ys with
          | nil => exact ⟨[], rfl, fun _ m => nomatch m⟩
          | cons y ys ih =>
            obtain ⟨i, rfl, hi⟩ := gy y List.mem_cons_self
            obtain ⟨l, rfl, hl⟩ := ih fun z m => gy z (List.mem_cons_of_mem _ m)
            exact ⟨i :: l, rfl, fun j m => by rcases List.mem_cons.mp m with rfl | m; exact hi; exact hl j m⟩
        simp [mkTup]
        have := hQ (.row is_) S3 (by rw [Ex.wf]; exact ⟨by simpa using ly, his⟩) (by rw [Ex.dep]; omega) (u1.trans u3) (h3.mono (by omega))
        rw [Ex.enc] at this
        exact this
end Lib

set_option maxHeartbeats 1000000
/-! LibP2: drawn programs, the trees. -/
namespace Lib
open PySem PySem.Spec PyProof.Rows L2 Den
variable {P : List Fn} {gs : List T} {x : Nat → Nat}
/-- the cells of before stay, but the n-th; there may be more -/
structure Upx (n : Nat) (S S' : Store) : Prop where
  len : S.length ≤ S'.length
  same : ∀ m, m < S.length → m ≠ n → S'[m]? = S[m]?
theorem Up.ux {n : Nat} {S S' : Store} (u : Up n S S') : Upx n S S' := ⟨by rw [u.len]; exact Nat.le_refl _, fun m _ h => u.same m h⟩
theorem Upx.refl {n : Nat} {S : Store} : Upx n S S := ⟨Nat.le_refl _, fun _ _ _ => rfl⟩
theorem Upx.trans {n : Nat} {S S' S'' : Store} (a : Upx n S S') (b : Upx n S' S'') : Upx n S S'' := ⟨Nat.le_trans a.len b.len, fun m h h' => (b.same m (Nat.lt_of_lt_of_le h a.len) h').trans (a.same m h h')⟩
theorem Upx.push {n : Nat} {S S' : Store} {c : Cell} (a : Upx n S S') : Upx n S (S' ++ [c]) := ⟨by rw [List.length_append]; have := a.len; omega, fun m h h' => by rw [List.getElem?_append_left (Nat.lt_of_lt_of_le h a.len)]; exact a.same m h h'⟩
theorem Upx.set {n i : Nat} {S S' : Store} {c : Cell} (a : Upx n S S') (hi : S.length ≤ i) : Upx n S (S'.set i c) := ⟨by rw [List.length_set]; exact a.len, fun m h h' => by rw [List.getElem?_set_ne (by omega)]; exact a.same m h h'⟩
theorem Upx.up {n : Nat} {S S' : Store} (a : Upx n S S') : Up n S (S'.take S.length) := by
  refine ⟨by rw [List.length_take]; have := a.len; omega, fun m h => ?_⟩
  by_cases hm : m < S.length
  · rw [List.getElem?_take_of_lt hm]; exact a.same m hm h
  · rw [List.getElem?_eq_none (by rw [List.length_take]; omega), List.getElem?_eq_none (by omega)]
theorem Dk.lt {S : Store} {n N : Nat} (h : Dk S n N) : n < S.length := by obtain ⟨_, _, _, e, _⟩ := h.ex; exact (List.getElem?_eq_some_iff.mp e).1
theorem Dk.take {S : Store} {n N l : Nat} (h : Dk S n N) (hl : n < l) : Dk (S.take l) n N := by
  obtain ⟨d0, d1, d2, e, h1, h2⟩ := h.ex
  exact ⟨d0, d1, d2, by rw [List.getElem?_take_of_lt hl]; exact e, h1, h2⟩
theorem Dk.push {S : Store} {n N : Nat} {c : Cell} (h : Dk S n N) : Dk (S ++ [c]) n N := by
  have hl := h.lt
  obtain ⟨d0, d1, d2, e, h1, h2⟩ := h.ex
  exact ⟨d0, d1, d2, by rw [List.getElem?_append_left hl]; exact e, h1, h2⟩
theorem Dk.set {S : Store} {n N i : Nat} {c : Cell} (h : Dk S n N) (hi : i ≠ n) : Dk (S.set i c) n N := by
  obtain ⟨d0, d1, d2, e, h1, h2⟩ := h.ex
  exact ⟨d0, d1, d2, by rw [List.getElem?_set_ne hi]; exact e, h1, h2⟩
@[simp] theorem set_last {S : Store} {c c' : Cell} : (S ++ [c]).set S.length c' = S ++ [c'] := by simp
/-- the table of the functions' signs -/
def SGL : List (Str × List Str × Str) := [("f", ["number"], "number"), ("g", ["row"], "number"), ("h", ["number", "number"], "truth"), ("p", ["number"], "truth"), ("t", ["number", "row"], "truth")]
def SG : T := .dict (SGL.map fun p => (.str p.1, .tuple [.list (p.2.1.map .str), .str p.2.2]))
@[simp] theorem signs_ok (H : N_law_signs P gs x) (k b : Nat) (S : Store) : callF P gs (k + 1) (x n_law_signs) b [] S = .ok (.t SG) S := by
  rw [callF_eq H.f_law_signs]
  have := run_ret (cf := callF P gs k) (gs := gs) (fn := f_law_signs x) (b := b) (as := []) (S := S) (S' := S) (d := .t SG) rfl rfl (by simp [f_law_signs, mkLst, mkTup, pairsD, keyK, mergeD, putD, mkDct, keyD, SG, SGL]) rfl
  rw [take_all] at this
  exact this

def costT : Nat → Nat
  | 0 => 20
  | d + 1 => 30 + 3 * costT d
theorem costT_ge (d : Nat) : 20 ≤ costT d := by cases d <;> simp [costT]; omega
def FS : List Str := ["f", "g", "h", "p", "t"]
structure CsOk (cs : Str) (fs : List Str) : Prop where
  ch : cs.cps.toList.map (fun c => (⟨#[c]⟩ : Str)) = fs
  sub : ∀ f ∈ fs, f ∈ FS
  len : fs.length ≤ 5
/-- a drawn tree with at most d levels -/
def TreeOk (P : List Fn) (gs : List T) (x : Nat → Nat) (d : Nat) : Prop := ∀ ⦃k b n N : Nat⦄ ⦃S : Store⦄ ⦃Q : D → Store → Prop⦄ ⦃X : XQ⦄ (kind : Str) (sc : List (Str × Str)) (cs : Str) (fs : List Str), CsOk cs fs → 2 * d + 3 ≤ k → ScOk sc → sc.length + d ≤ 20 → kind ∈ KINDS → Dk S n N → N + costT d ≤ LIM →
  (∀ (e : Ex) S', e.wf (sc.map (·.1)) fs → e.dep ≤ max d 1 → Up n S S' → Dk S' n (N + costT d) → Q (.t e.enc) S') → (callF P gs k (x n_law_tree) b [.ref n, .t (.str kind), .t (.list (sc.map pr)), .t (.str cs), .t (.int (d : Int))] S).Wp Q X
theorem exs_of {p : Ex → Prop} : ∀ {ys : List T}, (∀ y ∈ ys, ∃ e : Ex, y = e.enc ∧ p e) → ∃ es : List Ex, ys = encs es ∧ es.length = ys.length ∧ ∀ e ∈ es, p e
  | [], _ => ⟨[], by rw [encs], rfl, fun _ m => nomatch m⟩
  | y :: ys, h => by
    obtain ⟨e, rfl, he⟩ := h y List.mem_cons_self
    obtain ⟨es, rfl, hl, hp⟩ := exs_of fun z m => h z (List.mem_cons_of_mem _ m)
    exact ⟨e :: es, by rw [encs], by simp [hl], fun z m => by rcases List.mem_cons.mp m with rfl | m; exact he; exact hp z m⟩
/-- [_law_tree(deck, one, scope, calls, deep - 1) for one in ks] -/
theorem trees_wp {d : Nat} (ht : TreeOk P gs x d) {k b n N : Nat} {S : Store} {Q : D → Store → Prop} {X : XQ} {ds : Sl} {v : Nat} {iter : E} (ks : List Str) (sc : List (Str × Str)) (cs : Str) (fs : List Str) (hcs : CsOk cs fs) (hk : 2 * d + 3 ≤ k) (hs : ScOk sc) (hl : sc.length + d ≤ 20) (hks : ∀ s ∈ ks, s ∈ KINDS) (hkl : ks.length ≤ 3)
    (h : Dk S n N) (hN : N + 3 * costT d ≤ LIM) (hi : evE (callF P gs k) gs b iter ds S = .ok (.t (.list (ks.map .str))) S ∨ evE (callF P gs k) gs b iter ds S = .ok (.t (.tuple (ks.map .str))) S)
    (h0 : ∀ u, ((wipeD ds [v]).set v (some u))[0]? = some (some (.ref n))) (hv : ∀ u, ((wipeD ds [v]).set v (some u))[v]? = some (some u)) (h2 : ∀ u, ((wipeD ds [v]).set v (some u))[2]? = some (some (.t (.list (sc.map pr))))) (h3 : ∀ u, ((wipeD ds [v]).set v (some u))[3]? = some (some (.t (.str cs)))) (h4 : ∀ u, ((wipeD ds [v]).set v (some u))[4]? = some (some (.t (.int ((d : Int) + 1)))))
    (hQ : ∀ (es : List Ex) S', (∀ e ∈ es, e.wf (sc.map (·.1)) fs ∧ e.dep ≤ max d 1) → es.length = ks.length → Up n S S' → Dk S' n (N + 3 * costT d) → Q (.t (.list (encs es))) S') :
    (evE (callF P gs k) gs b (.comp false (.v v) (.seq iter) .nil (.call (x n_law_tree) (.cons (.v 0) (.cons (.v v) (.cons (.v 2) (.cons (.v 3) (.cons (.bin .Sub (.v 4) (.c (.int 1))) .nil))))) .nil [])) ds S).Wp Q X := by
  rw [evE_comp]
  refine comp_wp ?_
  have hi : evIt (callF P gs k) gs b (.seq iter) ds S = .ok ((ks.map .str).map .t) S := by
    rw [evIt_seq]
    rcases hi with hi | hi <;> rw [hi] <;> rfl
  rw [hi, wp_ok]
  refine collect_deck (c := costT d) (B := LIM) (l := S.length) (fun y => ∃ e : Ex, y = e.enc ∧ e.wf (sc.map (·.1)) fs ∧ e.dep ≤ max d 1) _ (fun u hu S' N' Q' dk hB hl' hQ' => ?_) h ?_ rfl fun ys S6 gy ly u6 h6 => ?_
  · simp only [List.map_map, List.mem_map, Function.comp] at hu
    obtain ⟨s, ms, rfl⟩ := hu
    simp [turnD, Tg.slots, h0, hv, h2, h3, h4]
    refine ht s sc cs fs hcs hk hs hl (hks s ms) dk hB fun e S'' we de ue dke => ?_
    simp
    exact hQ' _ _ ⟨e, rfl, we, de⟩ ue dke
  · simp only [List.length_map]
    have : costT d * ks.length ≤ costT d * 3 := Nat.mul_le_mul (Nat.le_refl _) hkl
    omega
  · simp only [List.length_map] at ly h6
    obtain ⟨es, rfl, hl2, hp⟩ := exs_of gy
    have : costT d * ks.length ≤ costT d * 3 := Nat.mul_le_mul (Nat.le_refl _) hkl
    simp [mkLst]
    exact ⟨by omega, hQ es S6 hp (by omega) u6 (h6.mono (by omega))⟩
def wordsOf (kind : Str) : List Str := if kind = "number" then ["plus", "minus", "times", "over", "rest", "first", "long"] else if kind = "row" then ["put", "others", "put"] else ["below", "same", "and", "or", "not", "below"]
def innerOf (w : Str) : List Str := if w = "first" then ["row"] else if w = "long" then ["row"] else if w = "others" then ["row"] else if w = "put" then ["number", "row"] else if w = "not" then ["truth"] else if w = "and" then ["truth", "truth"] else if w = "or" then ["truth", "truth"] else ["number", "number"]
def WC : Cell := .dK [(.inr "number", .t (.list [.str "plus", .str "minus", .str "times", .str "over", .str "rest", .str "first", .str "long"])), (.inr "row", .t (.list [.str "put", .str "others", .str "put"])), (.inr "truth", .t (.list [.str "below", .str "same", .str "and", .str "or", .str "not", .str "below"]))]
def KC : Cell := .dK [(.inr "first", .t (.list [.str "row"])), (.inr "long", .t (.list [.str "row"])), (.inr "others", .t (.list [.str "row"])), (.inr "put", .t (.list [.str "number", .str "row"])), (.inr "not", .t (.list [.str "truth"])), (.inr "and", .t (.list [.str "truth", .str "truth"])), (.inr "or", .t (.list [.str "truth", .str "truth"]))]
theorem idx_WC {S : Store} {m : Nat} (h : S[m]? = some WC) (kind : Str) (hk : kind ∈ KINDS) : idxD S (.ref m) (.t (.str kind)) = some (.t (.list ((wordsOf kind).map .str))) := by
  have kds : kind = "number" ∨ kind = "truth" ∨ kind = "row" := by simpa [KINDS] using hk
  rw [idx_dK (h.trans rfl)]
  rcases kds with rfl | rfl | rfl <;> simp [keyK, look, wordsOf]
theorem getC_dK {S : Store} {n : Nat} {kvs : List (Key × D)} (h : S[n]? = some (.dK kvs)) (x : T) : getC S (.ref n) x = (keyK x).map fun k => look kvs k := by
  unfold getC
  simp [h]
theorem set_dK {S : Store} {n b : Nat} {kvs : List (Key × D)} {k v : T} {kk : Key} (h : S[n]? = some (.dK kvs)) (hk : keyK k = some kk) (hl : kvs.length < sizeLine) : setD b S (.ref n) (.t k) (.t v) = some (S.set n (.dK (putD kvs kk (.t v)))) := by
  have hm : (mayW b n (.t v) && decide (kvs.length < sizeLine)) = true := by
    rw [decide_eq_true hl]
    unfold mayW
    rw [low_t]
    simp
  unfold setD
  simp only [h, hk, hm]
  rfl
theorem set_new {S : Store} {b : Nat} {kvs : List (Key × D)} {k v : T} {kk : Key} (hk : keyK k = some kk) (hl : kvs.length < sizeLine) : setD b (S ++ [.dK kvs]) (.ref S.length) (.t k) (.t v) = some (S ++ [.dK (putD kvs kk (.t v))]) := by
  rw [set_dK (by simp) hk hl, set_last]
theorem isDict_dK {S : Store} {n : Nat} {kvs : List (Key × D)} (h : S[n]? = some (.dK kvs)) : isDict S (.ref n) = true := by
  unfold isDict
  simp [h]
theorem getO_t (S : Store) (u : D) (x : T) (w : D) : getO S u (.t x) w = (match getC S u x with
    | some (some r) => some r
    | some none => some w
    | none => none) := rfl
theorem get_KC {S : Store} {m : Nat} (h : S[m]? = some KC) (w : Str) (hw : ∃ kind ∈ KINDS, w ∈ wordsOf kind) : getO S (.ref m) (.t (.str w)) (.t (.list [.str "number", .str "number"])) = some (.t (.list ((innerOf w).map .str))) ∧ (w, (innerOf w).length) ∈ dos ∧ (∀ s ∈ innerOf w, s ∈ KINDS) ∧ (innerOf w).length ≤ 3 := by
  have hw' : w = "plus" ∨ w = "minus" ∨ w = "times" ∨ w = "over" ∨ w = "rest" ∨ w = "first" ∨ w = "long" ∨ w = "put" ∨ w = "others" ∨ w = "below" ∨ w = "same" ∨ w = "and" ∨ w = "or" ∨ w = "not" := by
    obtain ⟨kind, hk, hw⟩ := hw
    have kds : kind = "number" ∨ kind = "truth" ∨ kind = "row" := by simpa [KINDS] using hk
    rcases kds with rfl | rfl | rfl <;> simp [wordsOf] at hw <;> rcases hw with rfl | rfl | rfl | rfl | rfl | rfl | rfl <;> simp
  rw [getO_t, getC_dK (h.trans rfl)]
  rcases hw' with rfl | rfl | rfl | rfl | rfl | rfl | rfl | rfl | rfl | rfl | rfl | rfl | rfl | rfl <;> simp [keyK, look, innerOf, dos, KINDS]
theorem done_wp {d : Nat} (H : P[x n_law_done_of]? = some (f_law_done_of x)) (hp : P[x n_law_pick]? = some (f_law_pick x)) (ht : TreeOk P gs x d) {k b n N : Nat} {S : Store} {Q : D → Store → Prop} {X : XQ} (kind : Str) (sc : List (Str × Str)) (cs : Str) (fs : List Str) (hcs : CsOk cs fs) (hk : 2 * d + 4 ≤ k) (hs : ScOk sc) (hl : sc.length + d ≤ 20) (hkd : kind ∈ KINDS)
    (h : Dk S n N) (hN : N + 1 + 3 * costT d ≤ LIM) (hQ : ∀ (e : Ex) S', e.wf (sc.map (·.1)) fs → e.dep ≤ 1 + max d 1 → Up n S S' → Dk S' n (N + 1 + 3 * costT d) → Q (.t e.enc) S') :
    (callF P gs k (x n_law_done_of) b [.ref n, .t (.str kind), .t (.list (sc.map pr)), .t (.str cs), .t (.int ((d : Int) + 1))] S).Wp Q X := by
  have hQ : ∀ (e : Ex) S', e.wf (sc.map (·.1)) fs → e.dep ≤ 1 + max d 1 → Upx n S S' → Dk S' n (N + 1 + 3 * costT d) → Q (.t e.enc) (S'.take S.length) := fun e S' g dd u z => hQ e _ g dd u.up (z.take (h.lt))
  refine call_wp H (by omega) (run_wp rfl rfl ?_)
  have hln := h.lt
  refine sp_cut (fun ds S1 => ds = [some (.ref n), some (.t (.str kind)), some (.t (.list (sc.map pr))), some (.t (.str cs)), some (.t (.int ((d : Int) + 1))), some (.ref S.length), none, none, none, none] ∧ S1 = S ++ [.dK [(.inr "number", .t (.list [.str "plus", .str "minus", .str "times", .str "over", .str "rest", .str "first", .str "long"])), (.inr "row", .t (.list [.str "put", .str "others", .str "put"]))]]) ?_ ?_
  · simp [f_law_done_of, mkLst, pairsD, keyK, mergeD, putD]
  rintro ds S1 ⟨rfl, rfl⟩
  refine sp_cut (fun ds S1 => ds = [some (.ref n), some (.t (.str kind)), some (.t (.list (sc.map pr))), some (.t (.str cs)), some (.t (.int ((d : Int) + 1))), some (.ref S.length), none, none, none, none] ∧ S1 = S ++ [WC]) ?_ ?_
  · simp [mkLst]
    rw [set_new rfl (by simp)]
    simp [putD, WC]
  rintro ds S1 ⟨rfl, rfl⟩
  have hW : (S ++ [WC])[S.length]? = some WC := by simp
  have hD : Dk (S ++ [WC]) n N := h.push
  have hu : Upx n S (S ++ [WC]) := Upx.refl.push
  have hl1 : (S ++ [WC]).length = S.length + 1 := by simp
  generalize S ++ [WC] = S1 at hW hD hu hl1
  have hwl : 1 ≤ (wordsOf kind).length ∧ (wordsOf kind).length ≤ 7 := by unfold wordsOf; split <;> (try split) <;> simp
  refine sp_cut (fun ds S2 => ∃ w, ds = [some (.ref n), some (.t (.str kind)), some (.t (.list (sc.map pr))), some (.t (.str cs)), some (.t (.int ((d : Int) + 1))), some (.ref S.length), some (.t (.str w)), none, none, none] ∧ w ∈ wordsOf kind ∧ Upx n S S2 ∧ Dk S2 n (N + 1) ∧ S2.length = S.length + 1) ?_ ?_
  · simp [idx_WC hW kind hkd]
    refine pick_wp hp hD (by omega) (by omega) (by omega) (by omega) fun r S2 a2 b2 u2 h2 => ?_
    simp
    refine wp_at a2 (by simpa using b2) fun y my => ?_
    obtain ⟨w, mw, rfl⟩ := List.mem_map.mp my
    simp
    exact ⟨mw, hu.trans u2.ux, h2, by rw [u2.len, hl1]⟩
  rintro ds S2 ⟨w, rfl, mw, hu2, hD2, hl2⟩
  refine sp_cut (fun ds S3 => ds = [some (.ref n), some (.t (.str kind)), some (.t (.list (sc.map pr))), some (.t (.str cs)), some (.t (.int ((d : Int) + 1))), some (.ref S.length), some (.t (.str w)), some (.ref S2.length), none, none] ∧ S3 = S2 ++ [.dK [(.inr "first", .t (.list [.str "row"])), (.inr "long", .t (.list [.str "row"])), (.inr "others", .t (.list [.str "row"])), (.inr "put", .t (.list [.str "number", .str "row"])), (.inr "not", .t (.list [.str "truth"]))]]) ?_ ?_
  · simp [mkLst, pairsD, keyK, mergeD, putD]
  rintro ds S3 ⟨rfl, rfl⟩
  refine sp_cut (fun ds S3 => ds = [some (.ref n), some (.t (.str kind)), some (.t (.list (sc.map pr))), some (.t (.str cs)), some (.t (.int ((d : Int) + 1))), some (.ref S.length), some (.t (.str w)), some (.ref S2.length), none, none] ∧ S3 = S2 ++ [.dK [(.inr "first", .t (.list [.str "row"])), (.inr "long", .t (.list [.str "row"])), (.inr "others", .t (.list [.str "row"])), (.inr "put", .t (.list [.str "number", .str "row"])), (.inr "not", .t (.list [.str "truth"])), (.inr "and", .t (.list [.str "truth", .str "truth"]))]]) ?_ ?_
  · simp [mkLst]
    rw [set_new rfl (by simp)]
    simp [putD]
  rintro ds S3 ⟨rfl, rfl⟩
  refine sp_cut (fun ds S3 => ds = [some (.ref n), some (.t (.str kind)), some (.t (.list (sc.map pr))), some (.t (.str cs)), some (.t (.int ((d : Int) + 1))), some (.ref S.length), some (.t (.str w)), some (.ref S2.length), none, none] ∧ S3 = S2 ++ [KC]) ?_ ?_
  · simp [mkLst]
    rw [set_new rfl (by simp)]
    simp [putD, KC]
  rintro ds S3 ⟨rfl, rfl⟩
  have hK : (S2 ++ [KC])[S2.length]? = some KC := by simp
  have hD3 : Dk (S2 ++ [KC]) n (N + 1) := hD2.push
  have hu3 : Upx n S (S2 ++ [KC]) := hu2.push
  have hdi : isDict (S2 ++ [KC]) (.ref S2.length) = true := isDict_dK (hK.trans rfl)
  generalize S2 ++ [KC] = S3 at hK hD3 hu3 hdi
  obtain ⟨k1, k2, k3, k4⟩ := get_KC hK w ⟨kind, hkd, mw⟩
  refine sp_cut (fun ds S4 => ds = [some (.ref n), some (.t (.str kind)), some (.t (.list (sc.map pr))), some (.t (.str cs)), some (.t (.int ((d : Int) + 1))), some (.ref S.length), some (.t (.str w)), some (.ref S2.length), some (.t (.list ((innerOf w).map .str))), none] ∧ S4 = S3) ?_ ?_
  · simp [hdi, mkLst, k1]
  rintro ds S4 ⟨rfl, rfl⟩
  simp
  refine trees_wp ht (innerOf w) sc cs fs hcs (by omega) hs hl k3 k4 hD3 (by omega) (.inl (by simp)) (fun u => by simp [wipeD]) (fun u => by simp [wipeD]) (fun u => by simp [wipeD]) (fun u => by simp [wipeD]) (fun u => by simp [wipeD]) fun es S5 he hle u5 h5 => ?_
  simp [mkTup]
  have := hQ (.doo w es) S5 (by rw [Ex.wf, wfs_all]; exact ⟨by rw [hle]; exact k2, fun e m => (he e m).1⟩) (by rw [Ex.dep]; have := (deps_le (n := max d 1) es).mpr fun e m => (he e m).2; omega) (hu3.trans u5.ux) h5
  rw [Ex.enc] at this
  exact this
end Lib

set_option maxHeartbeats 1000000
/-! LibP3: drawn programs, whole. -/
namespace Lib
open PySem PySem.Spec PyProof.Rows L2 Den
variable {P : List Fn} {gs : List T} {x : Nat → Nat}
/-- what each function takes, what it gives -/
def argsOf (f : Str) : List Str := if f = "g" then ["row"] else if f = "h" then ["number", "number"] else if f = "t" then ["number", "row"] else ["number"]
def kindOf (f : Str) : Str := if f = "f" then "number" else if f = "g" then "number" else "truth"
theorem fs_cases {f : Str} (h : f ∈ FS) : f = "f" ∨ f = "g" ∨ f = "h" ∨ f = "p" ∨ f = "t" := by simpa [FS] using h
theorem look_SG {f : Str} (h : f ∈ FS) : (lookK (SGL.map fun p => (PyData.str p.1, PyData.tuple [.list (p.2.1.map .str), .str p.2.2])) (.inr f)) = some (.tuple [.list ((argsOf f).map .str), .str (kindOf f)]) := by
  rcases fs_cases h with rfl | rfl | rfl | rfl | rfl <;> simp [SGL, lookK, keyK, argsOf, kindOf]
@[simp] theorem idx_SG {S : Store} {f : Str} (h : f ∈ FS) : idxD S (.t SG) (.t (.str f)) = some (.t (.tuple [.list ((argsOf f).map .str), .str (kindOf f)])) := by
  have e : keyK (.str f) = some (.inr f) := rfl
  rw [SG, idx_dict, e, Option.bind_some, look_SG h]
  rfl
theorem args_ok {f : Str} (h : f ∈ FS) : (∀ s ∈ argsOf f, s ∈ KINDS) ∧ (argsOf f).length ≤ 3 ∧ (f, (argsOf f).length) ∈ arity ∧ kindOf f ∈ KINDS ∧ (argsOf f).length ≤ 2 := by
  rcases fs_cases h with rfl | rfl | rfl | rfl | rfl <;> simp [argsOf, kindOf, KINDS, arity]
theorem calls_comp (H : N_law_signs P gs x) {k b : Nat} {S : Store} {w0 w2 w4 w5 w6 w7 w8 w9 w10 w11 w12 w13 w14 : Option D} (kind cs : Str) (fs : List Str) (hc : CsOk cs fs) :
    evE (callF P gs (k + 1)) gs b (.comp false (.v 9) (.seq (.v 3)) (.cons (.cmp .Eq (.idx (.idx (.call (x n_law_signs) .nil .nil []) (.v 9)) (.c (.int 1))) (.v 1)) .nil) (.v 9)) [w0, some (.t (.str kind)), w2, some (.t (.str cs)), w4, w5, w6, w7, w8, w9, w10, w11, w12, w13, w14] S =
      .ok (.t (.list ((fs.filter fun f => kindOf f == kind).map .str))) S := by
  rw [evE_comp]
  have e : (fs.map PyData.str).flatMap (fun u => match u with | .str f => if (kindOf f == kind) = true then [PyData.str f] else [] | _ => []) = (fs.filter fun f => kindOf f == kind).map .str := by
    clear hc
    induction fs with
    | nil => rfl
    | cons p r ih =>
      rw [List.map_cons, List.flatMap_cons, ih, List.filter_cons]
      show (if (kindOf p == kind) = true then [PyData.str p] else []) ++ _ = _
      split <;> rfl
  rw [← e]
  refine comp_pure ?_ (fun u hu => ?_) ?_
  · simp [← hc.ch]
  · obtain ⟨f, hf, rfl⟩ := List.mem_map.mp hu
    simp [turnD, wipeD, Tg.slots, signs_ok H, idx_SG (hc.sub f hf)]
    split <;> rfl
  · rw [e, List.length_map]
    have := List.length_filter_le (fun f => kindOf f == kind) fs
    have := hc.len
    simp
    omega
theorem inner_comp {cf : CF} {b : Nat} {S : Store} {w0 w1 w3 w4 w5 w6 w7 w8 w10 w11 w12 w13 w14 : Option D} (nm : Str) (sc : List (Str × Str)) (hl : sc.length ≤ 30) :
    evE cf gs b (.comp false (.v 14) (.seq (.v 2)) (.cons (.cmp .NotEq (.idx (.v 14) (.c (.int 0))) (.v 9)) .nil) (.v 14)) [w0, w1, some (.t (.list (sc.map pr))), w3, w4, w5, w6, w7, w8, some (.t (.str nm)), w10, w11, w12, w13, w14] S =
      .ok (.t (.list ((sc.filter fun p => !(p.1 == nm)).map pr))) S := by
  rw [evE_comp]
  have e : (sc.map pr).flatMap (fun u => match u with | .tuple [.str a, .str k] => if (!(a == nm)) = true then [pr (a, k)] else [] | _ => []) = (sc.filter fun p => !(p.1 == nm)).map pr := by
    clear hl
    induction sc with
    | nil => rfl
    | cons p r ih =>
      rw [List.map_cons, List.flatMap_cons, ih, List.filter_cons]
      show (if (!(p.1 == nm)) = true then [pr p] else []) ++ _ = _
      split <;> rfl
  rw [← e]
  refine comp_pure (by simp) (fun u hu => ?_) ?_
  · obtain ⟨p, _, rfl⟩ := List.mem_map.mp hu
    simp [turnD, wipeD, Tg.slots, pr]
    split <;> rfl
  · rw [e, List.length_map]
    have := List.length_filter_le (fun p : Str × Str => !(p.1 == nm)) sc
    simp
    omega

theorem tree_wp (H : N_law_done_of P gs x) : ∀ d : Nat, d ≤ 4 → TreeOk P gs x d := by
  intro d
  induction d with
  | zero =>
    intro _ k b n N S Q X kind sc cs fs hcs hk hs hl hkd h hN hQ
    have hQ : ∀ (e : Ex) S', e.wf (sc.map (·.1)) fs → e.dep ≤ 1 → Up n S S' → Dk S' n (N + 20) → Q (.t e.enc) (S'.take S.length) := fun e S' g dd u z => by rw [u.take]; exact hQ e S' g (by omega) u z
    refine call_wp H.f_law_tree (by omega) (run_wp rfl rfl ?_)
    simp [f_law_tree]
    refine leaf_wp H.s_law_leaf kind sc fs (by omega) hs hkd h hN fun e S' we de ue dke => ?_
    simp
    exact hQ e S' we de ue dke
  | succ d ih =>
    intro hd4 k b n N S Q X kind sc cs fs hcs hk hs hl hkd h hN hQ
    have ih := ih (by omega)
    have hp := H.s_law_pick.f_law_pick
    have hc := costT_ge d
    have hC : costT (d + 1) = 30 + 3 * costT d := rfl
    rw [hC] at hN hQ
    have hln := h.lt
    have hQ : ∀ (e : Ex) S' M, e.wf (sc.map (·.1)) fs → e.dep ≤ d + 1 → Up n S S' → Dk S' n M → M ≤ N + (30 + 3 * costT d) → Q (.t e.enc) (S'.take S.length) := fun e S' M g dd u z hM => by rw [u.take]; exact hQ e S' g (by omega) u (z.mono hM)
    refine call_wp H.f_law_tree (by omega) (run_wp rfl rfl ?_)
    -- the first statement
    refine sp_cut (fun ds S1 => ds = [some (.ref n), some (.t (.str kind)), some (.t (.list (sc.map pr))), some (.t (.str cs)), some (.t (.int ((d : Int) + 1))), none, none, none, none, none, none, none, none, none, none] ∧ 1 ≤ d ∧ Up n S S1 ∧ Dk S1 n (N + 1)) ?_ ?_
    · simp [f_law_tree]
      by_cases c1 : (d : Int) + 1 < 2
      · simp [c1]
        refine leaf_wp H.s_law_leaf kind sc fs (by omega) hs hkd h (by omega) fun e S' we de ue dke => ?_
        simp
        exact hQ e S' _ we (by omega) ue dke (by omega)
      · simp [c1]
        refine pick_wp hp h (by omega) (by omega) (by decide) (by decide) fun r S1 a1 b1 u1 h1 => ?_
        simp
        by_cases c2 : r = 0
        · simp [c2]
          refine leaf_wp H.s_law_leaf kind sc fs (by omega) hs hkd h1 (by omega) fun e S' we de ue dke => ?_
          simp
          exact hQ e S' _ we (by omega) (u1.trans ue) dke (by omega)
        · simp [c2]
          exact ⟨by omega, u1, h1⟩
    rintro ds S1 ⟨rfl, hd1, u1, h1⟩
    refine sp_cut (fun ds S2 => ∃ kind' ∈ KINDS, ds = [some (.ref n), some (.t (.str kind')), some (.t (.list (sc.map pr))), some (.t (.str cs)), some (.t (.int ((d : Int) + 1))), none, none, none, none, none, none, none, none, none, none] ∧ Up n S S2 ∧ Dk S2 n (N + 3)) ?_ ?_
    · simp
      refine pick_wp hp h1 (by omega) (by omega) (by decide) (by decide) fun r S2 a2 b2 u2 h2 => ?_
      simp
      by_cases c : r = 0
      · simp [c, mkLst]
        refine pick_wp hp h2 (by omega) (by omega) (by decide) (by decide) fun r3 S3 a3 b3 u3 h3 => ?_
        simp
        refine wp_at a3 (by simpa using b3) fun y my => ?_
        simp at my
        rcases my with rfl | rfl | rfl
        · simp; exact ⟨"number", by simp [KINDS], rfl, (u1.trans u2).trans u3, h3⟩
        · simp; exact ⟨"truth", by simp [KINDS], rfl, (u1.trans u2).trans u3, h3⟩
        · simp; exact ⟨"row", by simp [KINDS], rfl, (u1.trans u2).trans u3, h3⟩
      · simp [c]
        exact ⟨kind, hkd, rfl, u1.trans u2, h2.mono (by omega)⟩
    rintro ds S2 ⟨kind', hkd', rfl, u2, h2⟩
    refine sp_cut (fun ds S3 => ∃ way : Int, ds = [some (.ref n), some (.t (.str kind')), some (.t (.list (sc.map pr))), some (.t (.str cs)), some (.t (.int ((d : Int) + 1))), some (.t (.int way)), none, none, none, none, none, none, none, none, none] ∧ Up n S S3 ∧ Dk S3 n (N + 4)) ?_ ?_
    · simp
      refine pick_wp hp h2 (by omega) (by omega) (by decide) (by decide) fun r S3 a3 b3 u3 h3 => ?_
      simp
      exact ⟨u2.trans u3, h3⟩
    rintro ds S3 ⟨way, rfl, u3, h3⟩
    have hsl : sc.length + d ≤ 20 := by omega
    refine sp_cut (fun ds S4 => ds = [some (.ref n), some (.t (.str kind')), some (.t (.list (sc.map pr))), some (.t (.str cs)), some (.t (.int ((d : Int) + 1))), some (.t (.int way)), none, none, none, none, none, none, none, none, none] ∧ S3 = S4) ?_ ?_
    · by_cases c : way = 0
      · simp [c]
        refine trees_wp ih ["truth", kind', kind'] sc cs fs hcs (by omega) hs hsl (by simp [KINDS, hkd']; simpa [KINDS] using hkd') (by simp) h3 (by omega) (.inr (by simp [mkTup])) (fun u => by simp [wipeD]) (fun u => by simp [wipeD]) (fun u => by simp [wipeD]) (fun u => by simp [wipeD]) (fun u => by simp [wipeD]) fun es S5 he hle u5 h5 => ?_
        match es, hle with
        | [e1, e2, e3], _ =>
          have w1 := he e1 (by simp)
          have w2 := he e2 (by simp)
          have w3 := he e3 (by simp)
          simp [encs, mkTup]
          have := hQ (.ite e1 e2 e3) S5 _ (by rw [Ex.wf]; exact ⟨w1.1, w2.1, w3.1⟩) (by rw [Ex.dep]; omega) (u3.trans u5) h5 (by omega)
          rw [Ex.enc] at this
          exact this
      · simp [c]
    rintro ds S4 ⟨rfl, rfl⟩
    refine sp_cut (fun ds S4 => ds = [some (.ref n), some (.t (.str kind')), some (.t (.list (sc.map pr))), some (.t (.str cs)), some (.t (.int ((d : Int) + 1))), some (.t (.int way)), none, none, none, none, none, none, none, none, none] ∧ S3 = S4) ?_ ?_
    · by_cases c : way = 1
      · simp [c, mkLst]
        refine pick_wp hp h3 (by omega) (by omega) (by decide) (by decide) fun r5 S5 a5 b5 u5 h5 => ?_
        simp
        refine wp_at a5 (by simpa using b5) fun y my => ?_
        obtain ⟨ot, rfl, hot⟩ : ∃ ot : Str, y = .str ot ∧ ot ∈ KINDS := by
          simp at my
          rcases my with rfl | rfl | rfl
          · exact ⟨_, rfl, by simp [KINDS]⟩
          · exact ⟨_, rfl, by simp [KINDS]⟩
          · exact ⟨_, rfl, by simp [KINDS]⟩
        simp [mkLst]
        refine pick_wp hp h5 (by omega) (by omega) (by decide) (by decide) fun r6 S6 a6 b6 u6 h6 => ?_
        simp
        refine wp_at a6 (by simpa using b6) fun y my => ?_
        obtain ⟨nm, rfl, hnm⟩ : ∃ nm : Str, y = .str nm ∧ nm ∈ (["x", "y", "z"] : List Str) := by
          simp at my
          rcases my with rfl | rfl | rfl
          · exact ⟨_, rfl, by simp⟩
          · exact ⟨_, rfl, by simp⟩
          · exact ⟨_, rfl, by simp⟩
        simp
        refine ih ot sc cs fs hcs (by omega) hs hsl hot h6 (by omega) fun e1 S7 w1 d1 u7 h7 => ?_
        simp
        refine wp_eq (inner_comp nm sc hs.len) ?_
        have hfl := List.length_filter_le (fun p : Str × Str => !(p.1 == nm)) sc
        simp [mkTup, mkLst]
        refine wp_lift (bin_lists (by simp; omega)) ?_
        simp
        have e2 : List.map pr (sc.filter fun p => !(p.1 == nm)) ++ [PyData.tuple [.str nm, .str ot]] = ((sc.filter fun p => !(p.1 == nm)) ++ [(nm, ot)]).map pr := by simp [pr]
        have hsub : ∀ s ∈ ((sc.filter fun p => !(p.1 == nm)) ++ [(nm, ot)]).map (·.1), s ∈ nm :: sc.map (·.1) := fun s m => by
          rw [List.map_append, List.mem_append] at m
          rcases m with m | m
          · obtain ⟨p, mp, rfl⟩ := List.mem_map.mp m
            exact List.mem_cons_of_mem _ (List.mem_map.mpr ⟨p, (List.mem_filter.mp mp).1, rfl⟩)
          · simp at m; subst m; exact List.mem_cons_self
        have hs' : ScOk ((sc.filter fun p => !(p.1 == nm)) ++ [(nm, ot)]) := ⟨by simp; omega, fun p m => by
            rcases List.mem_append.mp m with m | m
            · exact hs.nm p (List.mem_filter.mp m).1
            · simp at m; subst m; exact hnm, fun p m => by
            rcases List.mem_append.mp m with m | m
            · exact hs.kd p (List.mem_filter.mp m).1
            · simp at m; subst m; exact hot⟩
        have hl' : ((sc.filter fun p => !(p.1 == nm)) ++ [(nm, ot)]).length + d ≤ 20 := by simp; omega
        have key := fun Q X hq => @ih (k - 1) S.length n _ S7 Q X kind' _ cs fs hcs (by omega) hs' hl' hkd' h7 (by omega) hq
        rw [← e2] at key
        simp at key
        refine key _ _ fun e2 S8 w2 d2 u8 h8 => ?_
        simp [mkTup]
        have := hQ (.lett nm e1 e2) S8 _ (by rw [Ex.wf]; exact ⟨hnm, w1, Ex.wf_mono (fun s m => hsub s (by simpa using m)) e2 w2⟩) (by rw [Ex.dep]; omega) ((((u3.trans u5).trans u6).trans u7).trans u8) h8 (by omega)
        rw [Ex.enc] at this
        exact this
      · simp [c]
    rintro ds S4 ⟨rfl, rfl⟩
    have hsg := H.s_law_signs
    obtain ⟨j, hj⟩ : ∃ j, k - 1 = j + 1 := ⟨k - 2, by omega⟩
    refine sp_cut (fun ds S4 => ds = [some (.ref n), some (.t (.str kind')), some (.t (.list (sc.map pr))), some (.t (.str cs)), some (.t (.int ((d : Int) + 1))), some (.t (.int way)), some (.t (.list ((fs.filter fun f => kindOf f == kind').map .str))), none, none, none, none, none, none, none, none] ∧ S3 = S4) ?_ ?_
    · simp only [evS_asg, sp_then]
      rw [hj]
      refine wp_eq (calls_comp hsg kind' cs fs hcs) ?_
      simp
    rintro ds S4 ⟨rfl, rfl⟩
    have hsub : ∀ f ∈ fs.filter (fun f => kindOf f == kind'), f ∈ fs := fun f m => (List.mem_filter.mp m).1
    have hfl := List.length_filter_le (fun f => kindOf f == kind') fs
    have hcl := hcs.len
    generalize fs.filter (fun f => kindOf f == kind') = fk at hsub hfl
    have hpl : PyData.plainAll (fk.map .str) = true := plain_of fun y m => by obtain ⟨s, _, rfl⟩ := List.mem_map.mp m; rfl
    refine sp_cut (fun ds S4 => ds = [some (.ref n), some (.t (.str kind')), some (.t (.list (sc.map pr))), some (.t (.str cs)), some (.t (.int ((d : Int) + 1))), some (.t (.int way)), some (.t (.list (fk.map .str))), none, none, none, none, none, none, none, none] ∧ S3 = S4) ?_ ?_
    · by_cases c : way < 4
      · simp [c, mkLst]
        rw [ne_nilL hpl]
        cases he : (fk.map PyData.str).isEmpty with
        | true => simp
        | false =>
          have hpos : 0 < fk.length := by cases fk with | nil => cases he | cons _ _ => simp
          simp
          refine pick_wp hp h3 (by omega) (by omega) (by omega) (by omega) fun r5 S5 a5 b5 u5 h5 => ?_
          simp
          refine wp_at a5 (by simpa using b5) fun y my => ?_
          obtain ⟨f, mf, rfl⟩ := List.mem_map.mp my
          have hf := hcs.sub f (hsub f mf)
          obtain ⟨q1, q2, q3, q4, q5⟩ := args_ok hf
          simp
          refine trees_wp ih (argsOf f) sc cs fs hcs (by omega) hs hsl q1 q2 h5 (by omega) (.inl (by simp [hj, signs_ok hsg, idx_SG hf])) (fun u => by simp [wipeD]) (fun u => by simp [wipeD]) (fun u => by simp [wipeD]) (fun u => by simp [wipeD]) (fun u => by simp [wipeD]) fun es S6 he hle u6 h6 => ?_
          simp [mkTup]
          have := hQ (.call f es) S6 _ (by rw [Ex.wf, wfs_all]; exact ⟨hsub f mf, by rw [hle]; exact q3, fun e m => (he e m).1⟩) (by rw [Ex.dep]; have := (deps_le (n := max d 1) es).mpr fun e m => (he e m).2; omega) ((u3.trans u5).trans u6) h6 (by omega)
          rw [Ex.enc] at this
          exact this
      · simp [c]
    rintro ds S4 ⟨rfl, rfl⟩
    simp
    refine done_wp H.f_law_done_of hp ih kind' sc cs fs hcs (by omega) hs hsl hkd' h3 (by omega) fun e S5 we de u5 h5 => ?_
    simp
    exact hQ e S5 _ we (by omega) (u3.trans u5) h5 (by omega)
end Lib

set_option maxHeartbeats 1000000
/-! LibP4: drawn programs of five functions. -/
namespace Lib
open PySem PySem.Spec PyProof.Rows L2 Den
variable {P : List Fn} {gs : List T} {x : Nat → Nat}
mutual
theorem Ex.wf_fs {sc fs fs' : List Str} (h : ∀ s ∈ fs, s ∈ fs') : ∀ e : Ex, e.wf sc fs → e.wf sc fs'
  | .name s => by rw [Ex.wf, Ex.wf]; exact id
  | .number i => by rw [Ex.wf, Ex.wf]; exact id
  | .truth _ => by rw [Ex.wf, Ex.wf]; exact id
  | .row xs => by rw [Ex.wf, Ex.wf]; exact id
  | .ite a b c => by rw [Ex.wf, Ex.wf]; exact fun ⟨p, q, r⟩ => ⟨Ex.wf_fs h a p, Ex.wf_fs h b q, Ex.wf_fs h c r⟩
  | .lett s a b => by rw [Ex.wf, Ex.wf]; exact fun ⟨p, q, r⟩ => ⟨p, Ex.wf_fs h a q, Ex.wf_fs h b r⟩
  | .call f as => by rw [Ex.wf, Ex.wf]; exact fun ⟨p, q, r⟩ => ⟨h f p, q, wfs_fs h as r⟩
  | .doo w as => by rw [Ex.wf, Ex.wf]; exact fun ⟨p, r⟩ => ⟨p, wfs_fs h as r⟩
theorem wfs_fs {sc fs fs' : List Str} (h : ∀ s ∈ fs, s ∈ fs') : ∀ as : List Ex, wfs sc fs as → wfs sc fs' as
  | [] => by rw [wfs, wfs]; exact id
  | a :: as => by rw [wfs, wfs]; exact fun ⟨p, q⟩ => ⟨Ex.wf_fs h a p, wfs_fs h as q⟩
end
def parsOf (f : Str) : List Str := if (argsOf f).length = 1 then ["x"] else ["x", "y"]
def scOf (f : Str) : List (Str × Str) := (["x", "y"] : List Str).zip (argsOf f)
def fnT (p : Str × Ex) : T := .tuple [.str p.1, .tuple ((parsOf p.1).map .str), p.2.enc]
theorem app_lst {S : Store} {n b : Nat} {ds : List D} {v : T} (h : S[n]? = some (.lst ds)) (hl : ds.length < sizeLine) : appD b S (.ref n) (.t v) = some (S.set n (.lst (ds ++ [.t v]))) := by
  have hm : (mayW b n (.t v) && decide (ds.length < sizeLine)) = true := by
    rw [decide_eq_true hl]
    unfold mayW
    rw [low_t]
    simp
  unfold appD
  simp only [h, hm]
  rfl
theorem isLst_lst {S : Store} {n : Nat} {ds : List D} (h : S[n]? = some (.lst ds)) : isLst S (.ref n) = true := by
  unfold isLst
  simp [h]
theorem tup_lst {S : Store} {n : Nat} {xs : List T} (h : S[n]? = some (.lst (xs.map .t))) : bltD .tup1 S [.ref n] = some (.t (.tuple xs)) := by
  have e : lstOf S (.ref n) = some xs := by unfold lstOf; simp [h]
  show (lstOf S (.ref n)).map _ = _
  rw [e]
  rfl
theorem cs_full : CsOk "fghpt" FS := ⟨by decide +kernel, fun _ m => m, by decide⟩
theorem cs_part : ∀ m : Nat, m ≤ 5 → CsOk (cutS "fghpt" none (some (m : Int))) (FS.take m) := by
  intro m hm
  refine ⟨?_, fun f hf => List.mem_of_mem_take hf, by rw [List.length_take]; omega⟩
  match m, hm with
  | 0, _ => decide +kernel
  | 1, _ => decide +kernel
  | 2, _ => decide +kernel
  | 3, _ => decide +kernel
  | 4, _ => decide +kernel
  | 5, _ => decide +kernel
theorem lzip_sc {f : Str} : lzipD (.t (.list [.str "x", .str "y"])) (.t (.list ((argsOf f).map .str))) = some (.t (.list ((scOf f).map pr))) := by
  have e : ([PyData.str "x", PyData.str "y"].zip ((argsOf f).map .str)).map (fun p => PyData.tuple [p.1, p.2]) = (scOf f).map pr := by
    have : ([PyData.str "x", PyData.str "y"] : List T) = (["x", "y"] : List Str).map .str := rfl
    rw [this, List.zip_map, List.map_map]
    rfl
  show some (D.t (.list _)) = _
  rw [e]
theorem cut_pars {f : Str} (h : f ∈ FS) : cutT [PyData.str "x", PyData.str "y"] none (some ((argsOf f).length : Int)) = (parsOf f).map .str := by
  rcases fs_cases h with rfl | rfl | rfl | rfl | rfl <;> simp [argsOf, parsOf, cutT, HT.sIx]
theorem sc_ok {f : Str} (h : f ∈ FS) : ScOk (scOf f) ∧ (scOf f).length ≤ 2 ∧ (scOf f).map (·.1) = parsOf f := by
  rcases fs_cases h with rfl | rfl | rfl | rfl | rfl <;> simp [argsOf, parsOf, scOf] <;> exact ⟨by simp, by simp [XYZ], by simp [KINDS]⟩
def ITEMS : List D := [.t (.tuple [.int 0, .str "f"]), .t (.tuple [.int 1, .str "g"]), .t (.tuple [.int 2, .str "h"]), .t (.tuple [.int 3, .str "p"]), .t (.tuple [.int 4, .str "t"])]
theorem items_ok : enumD ((("fghpt" : Str).cps.toList).map fun c => .t (.str ⟨#[c]⟩)) = ITEMS := by
  have e0 : ("fghpt" : Str).cps.toList = [102, 103, 104, 112, 116] := by decide +kernel
  have e1 : (⟨#[102]⟩ : Str) = "f" := by decide +kernel
  have e2 : (⟨#[103]⟩ : Str) = "g" := by decide +kernel
  have e3 : (⟨#[104]⟩ : Str) = "h" := by decide +kernel
  have e4 : (⟨#[112]⟩ : Str) = "p" := by decide +kernel
  have e5 : (⟨#[116]⟩ : Str) = "t" := by decide +kernel
  rw [e0]
  simp [enumD, mkTup, e1, e2, e3, e4, e5, ITEMS]
theorem items_at {m : Nat} {u : D} {r : List D} (h : ITEMS.drop m = u :: r) : ∃ f, FS[m]? = some f ∧ f ∈ FS ∧ m < 5 ∧ u = .t (.tuple [.int (m : Int), .str f]) ∧ r = ITEMS.drop (m + 1) := by
  have hm : m < 5 := by
    have := congrArg List.length h
    simp [ITEMS] at this
    omega
  match m, hm with
  | 0, _ => cases h; exact ⟨"f", rfl, by simp [FS], by omega, rfl, rfl⟩
  | 1, _ => cases h; exact ⟨"g", rfl, by simp [FS], by omega, rfl, rfl⟩
  | 2, _ => cases h; exact ⟨"h", rfl, by simp [FS], by omega, rfl, rfl⟩
  | 3, _ => cases h; exact ⟨"p", rfl, by simp [FS], by omega, rfl, rfl⟩
  | 4, _ => cases h; exact ⟨"t", rfl, by simp [FS], by omega, rfl, rfl⟩
/-- the functions f, g, .. with their bodies -/
structure PrOk (ps : List (Str × Ex)) : Prop where
  nm : ps.map (·.1) = FS
  wf : ∀ p ∈ ps, p.2.wf (parsOf p.1) FS
  dp : ∀ p ∈ ps, p.2.dep ≤ 4
/-- the list that is being made -/
def prC (ps : List (Str × Ex)) : Cell := .lst ((ps.map fnT).map .t)
def prog (ps : List (Str × Ex)) : T := .tuple (ps.map fnT)
theorem program_wp (H : N_law_program P gs x) {k b n N : Nat} {S : Store} {Q : D → Store → Prop} {X : XQ} (hk : 13 ≤ k) (h : Dk S n N) (hN : N + 5 * (2 + costT 4) ≤ LIM)
    (hQ : ∀ ps S', PrOk ps → Up n S S' → Dk S' n (N + 5 * (2 + costT 4)) → Q (.t (prog ps)) S') : (callF P gs k (x n_law_program) b [.ref n] S).Wp Q X := by
  have hp := H.s_law_pick.f_law_pick
  have hln := h.lt
  refine call_wp H.f_law_program (by omega) (run_wp rfl rfl ?_)
  refine sp_cut (fun ds S1 => ds = [some (.ref n), some (.ref S.length), none, none, none, none, none, none, none] ∧ S1 = S ++ [.lst []]) ?_ ?_
  · simp [f_law_program]
  rintro ds S1 ⟨rfl, rfl⟩
  refine sp_cut (fun ds S1 => ∃ w2 w3 w4 w5 w6 w7 w8 ps, ds = [some (.ref n), some (.ref S.length), w2, w3, w4, w5, w6, w7, w8] ∧ PrOk ps ∧ S1[S.length]? = some (prC ps) ∧ Upx n S S1 ∧ Dk S1 n (N + 5 * (2 + costT 4))) ?_ ?_
  · simp
    rw [show enumI (.t (.str "fghpt")) = some ((("fghpt" : Str).cps.toList).map fun c => .t (.str ⟨#[c]⟩)) from rfl]
    simp
    rw [items_ok, kFor_ap]
    refine for_wp (fun us ds S1 => ∃ m w2 w3 w4 w5 w6 w7 w8 ps, us = ITEMS.drop m ∧ m ≤ 5 ∧ ds = [some (.ref n), some (.ref S.length), w2, w3, w4, w5, w6, w7, w8] ∧ ps.map (·.1) = FS.take m ∧ (∀ p ∈ ps, Ex.wf (parsOf p.1) FS p.2 ∧ p.2.dep ≤ 4) ∧ S1[S.length]? = some (prC ps) ∧ Upx n S S1 ∧ Dk S1 n (N + m * (2 + costT 4))) ?_ ?_ ?_
    · rintro ds S1 ⟨m, w2, w3, w4, w5, w6, w7, w8, ps, hu, hm, rfl, hn, hw, hc, ux, dk⟩
      have h5 : m = 5 := by
        have := congrArg List.length hu
        simp [ITEMS] at this
        omega
      subst h5
      exact ⟨⟨w2, w3, w4, w5, w6, w7, w8, rfl⟩, ps, ⟨hn, fun p m => (hw p m).1, fun p m => (hw p m).2⟩, hc, ux, dk⟩
    · rintro u r ds S1 ⟨m, w2, w3, w4, w5, w6, w7, w8, ps, hu, hm, rfl, hn, hw, hc, ux, dk⟩
      obtain ⟨f, hf1, hf, hm5, rfl, rfl⟩ := items_at hu.symm
      have hmul : (m + 1) * (2 + costT 4) ≤ 5 * (2 + costT 4) := Nat.mul_le_mul_right _ (by omega)
      have hmul2 : (m + 1) * (2 + costT 4) = m * (2 + costT 4) + (2 + costT 4) := Nat.succ_mul _ _
      obtain ⟨q1, q2, q3, q4, q5⟩ := args_ok hf
      obtain ⟨s1, s2, s3⟩ := sc_ok hf
      have hlps : ps.length ≤ 5 := by have := congrArg List.length hn; simp [FS] at this; omega
      simp [l0_law_program, tupI]
      refine pick_wp hp dk (by omega) (by omega) (by decide) (by decide) fun r1 S2 a2 b2 u2 h2 => ?_
      simp
      obtain ⟨cs, fs, hcs, hcs', ec⟩ : ∃ (cs : Str) (fs : List Str), CsOk cs fs ∧ (∀ s ∈ fs, s ∈ FS) ∧ (if 0 < r1 then cs = cutS "fghpt" none (some (m : Int)) else cs = "fghpt") := by
        by_cases c : 0 < r1
        · exact ⟨_, _, cs_part m hm, fun s hs => List.mem_of_mem_take hs, by rw [if_pos c]⟩
        · exact ⟨_, _, cs_full, fun s hs => hs, by rw [if_neg c]⟩
      refine wp_imp (Q := fun u S3 => u = .t (.str cs) ∧ S3 = S2) (X := fun _ _ _ => False) ?_ ?_ fun _ _ _ z => z.elim
      · by_cases c : 0 < r1
        · rw [if_pos c] at ec
          subst ec
          simp [c]
          refine wp_lift (slc_str ?_) ⟨rfl, rfl⟩
          rw [show ("fghpt" : Str).length = 5 from by decide +kernel]
          simp
        · rw [if_neg c] at ec
          subst ec
          simp [c]
      rintro u S3 ⟨rfl, rfl⟩
      obtain ⟨j, hj⟩ : ∃ j, k - 1 = j + 1 := ⟨k - 2, by omega⟩
      simp [hj, signs_ok H.s_law_signs, idx_SG hf, tupI, mkLst, lzip_sc]
      refine pick_wp hp h2 (by omega) (by omega) (by decide) (by decide) fun r2 S4 a4 b4 u4 h4 => ?_
      obtain ⟨d, rfl⟩ : ∃ d : Nat, r2 = (d : Int) := ⟨r2.toNat, by omega⟩
      have hd4 : d + 2 ≤ 4 := by omega
      simp
      have key := fun Q X hq => tree_wp H.s_law_done_of (d + 2) hd4 (k := j + 1) (b := S.length) (n := n) (N := N + m * (2 + costT 4) + 2) (S := S4) (Q := Q) (X := X) (kindOf f) (scOf f) cs fs hcs (by omega) s1 (by omega) q4 (h4.mono (by omega)) (by
        have : costT (d + 2) ≤ costT 4 := by
          match d, hd4 with
          | 0, _ => decide
          | 1, _ => decide
          | 2, _ => decide
        omega) hq
      rw [show (2 : Int) + (d : Int) = ((d + 2 : Nat) : Int) by omega]
      refine key _ _ fun e S5 we de u5 h5 => ?_
      have hcost : costT (d + 2) ≤ costT 4 := by
        match d, hd4 with
        | 0, _ => decide
        | 1, _ => decide
        | 2, _ => decide
      have ux5 : Upx n S S5 := ((ux.trans u2.ux).trans u4.ux).trans u5.ux
      have hne : S.length ≠ n := by omega
      have hc5 : S5[S.length]? = some (prC ps) := by rw [u5.same _ hne, u4.same _ hne, u2.same _ hne]; exact hc
      simp [isLst_lst (hc5.trans rfl), mkLst, slc_list, cut_pars hf, mkTup]
      rw [app_lst (hc5.trans rfl) (by simp; omega)]
      simp
      refine ⟨m + 1, rfl, by omega, ps ++ [(f, e)], ?_, ?_, ?_, ux5.set (Nat.le_refl _), (h5.set hne).mono (by omega)⟩
      · rw [List.map_append, hn, List.take_succ, hf1]
        rfl
      · intro a b hp'
        rcases List.mem_append.mp hp' with hp' | hp'
        · exact hw (a, b) hp'
        · simp at hp'
          obtain ⟨rfl, rfl⟩ := hp'
          rw [s3] at we
          exact ⟨Ex.wf_fs hcs' _ we, by omega⟩
      · rw [get_set hc5]
        simp [prC, fnT]
    · exact ⟨0, none, none, none, none, none, none, none, [], rfl, by omega, rfl, rfl, fun _ m => (nomatch m), by simp [prC], Upx.refl.push, by simpa using h.push⟩
  rintro ds S1 ⟨w2, w3, w4, w5, w6, w7, w8, ps, rfl, ok, hc, ux, dk⟩
  simp [tup_lst (hc.trans rfl)]
  exact hQ ps _ ok ux.up (dk.take hln)
end Lib

set_option maxHeartbeats 1000000
/-! LibS: spots. -/
namespace Lib
open PySem PySem.Spec PyProof.Rows L2 Den
variable {P : List Fn} {gs : List T} {x : Nat → Nat}
def Ex.kids : Ex → List Ex
  | .ite a b c => [a, b, c]
  | .lett _ a b => [a, b]
  | .call _ as => as
  | .doo _ as => as
  | _ => []
mutual
/-- an expression and all in it, in order -/
def Ex.pre : Ex → List Ex
  | .ite a b c => .ite a b c :: (a.pre ++ (b.pre ++ c.pre))
  | .lett s a b => .lett s a b :: (a.pre ++ b.pre)
  | .call f as => .call f as :: pres as
  | .doo w as => .doo w as :: pres as
  | e => [e]
def pres : List Ex → List Ex
  | [] => []
  | a :: as => a.pre ++ pres as
end
theorem pre_kids (e : Ex) : e.pre = e :: pres e.kids := by
  cases e <;> simp [Ex.pre, Ex.kids, pres]
theorem dos_len {w : Str} {n : Nat} (h : (w, n) ∈ dos) : n ≤ 2 := by
  simp [dos] at h
  omega
theorem arity_len {w : Str} {n : Nat} (h : (w, n) ∈ arity) : n ≤ 2 := by
  simp [arity] at h
  omega
theorem kids_wf {sc fs : List Str} {e : Ex} (h : e.wf sc fs) : (∀ a ∈ e.kids, (∃ sc', a.wf sc' fs) ∧ a.dep + 1 ≤ e.dep) ∧ e.kids.length ≤ 3 := by
  cases e with
  | ite a b c =>
    rw [Ex.wf] at h
    refine ⟨fun y m => ?_, by simp [Ex.kids]⟩
    simp [Ex.kids] at m
    rw [Ex.dep]
    rcases m with rfl | rfl | rfl
    · exact ⟨⟨_, h.1⟩, by omega⟩
    · exact ⟨⟨_, h.2.1⟩, by omega⟩
    · exact ⟨⟨_, h.2.2⟩, by omega⟩
  | lett s a b =>
    rw [Ex.wf] at h
    refine ⟨fun y m => ?_, by simp [Ex.kids]⟩
    simp [Ex.kids] at m
    rw [Ex.dep]
    rcases m with rfl | rfl
    · exact ⟨⟨_, h.2.1⟩, by omega⟩
    · exact ⟨⟨_, h.2.2⟩, by omega⟩
  | call f as =>
    rw [Ex.wf, wfs_all] at h
    refine ⟨fun y m => ⟨⟨_, h.2.2 y m⟩, ?_⟩, by have := arity_len h.2.1; simp [Ex.kids]; omega⟩
    have := (deps_le (n := deps as) as).mp (Nat.le_refl _) y m
    rw [Ex.dep]
    omega
  | doo f as =>
    rw [Ex.wf, wfs_all] at h
    refine ⟨fun y m => ⟨⟨_, h.2 y m⟩, ?_⟩, by have := dos_len h.1; simp [Ex.kids]; omega⟩
    have := (deps_le (n := deps as) as).mp (Nat.le_refl _) y m
    rw [Ex.dep]
    omega
  | _ => exact ⟨fun y m => (nomatch m), by simp [Ex.kids]⟩
theorem dep_pos (e : Ex) : 1 ≤ e.dep := by cases e <;> rw [Ex.dep] <;> omega
theorem pres_len {B : Nat} : ∀ {as : List Ex}, (∀ a ∈ as, a.pre.length ≤ B) → (pres as).length ≤ as.length * B
  | [], _ => by simp [pres]
  | a :: as, h => by
    have h1 := h a List.mem_cons_self
    have h2 := pres_len fun b m => h b (List.mem_cons_of_mem _ m)
    rw [pres, List.length_append, List.length_cons, Nat.add_mul, Nat.one_mul]
    omega
theorem pre_len : ∀ (d : Nat) {sc fs : List Str} {e : Ex}, e.wf sc fs → e.dep ≤ d → e.pre.length ≤ 4 ^ d
  | 0, _, _, e, _, h => absurd (dep_pos e) (by omega)
  | d + 1, sc, fs, e, hw, h => by
    obtain ⟨h1, h2⟩ := kids_wf hw
    have := pres_len (B := 4 ^ d) (as := e.kids) fun a m => by
      obtain ⟨⟨sc', w⟩, hd⟩ := h1 a m
      exact pre_len d w (by omega)
    have h3 : e.kids.length * 4 ^ d ≤ 3 * 4 ^ d := Nat.mul_le_mul_right _ h2
    have h4 : 1 ≤ 4 ^ d := Nat.one_le_pow _ _ (by decide)
    rw [pre_kids, List.length_cons, Nat.pow_succ]
    omega
theorem encs_len (as : List Ex) : (encs as).length = as.length := by rw [encs_map, List.length_map]
theorem in_strT {S : Store} {a : Str} {ys : List T} (h : PyData.plainAll ys = true) : cmpD .In S (.t (.str a)) (.t (.tuple ys)) = some (ys.any fun z => PyData.eqv z (.str a)) := by
  show guardB (PyData.plain (.str a) && PyData.plainAll ys && decide (min (PyData.depthAll ys) (PyData.depth (.str a)) ≤ 100)) _ = _
  have : PyData.depth (.str a) = 0 := rfl
  rw [h, decide_eq_true (by omega)]
  rfl
@[simp] theorem eqv_strs (a b : Str) : PyData.eqv (.str a) (.str b) = (a == b) := rfl
theorem straight_ok (H : N_straight P gs x) (k b : Nat) (S : Store) {sc fs : List Str} (e : Ex) (hw : e.wf sc fs) : callF P gs (k + 1) (x n_straight) b [.t e.enc] S = .ok (.t (.list (encs e.kids))) S := by
  rw [callF_eq H.f_straight]
  have hl := (kids_wf hw).2
  have key : evSs (callF P gs k) gs S.length (f_straight x).body [some (.t e.enc), none] S = .ret (.t (.list (encs e.kids))) S := by
    cases e <;> simp [f_straight, Ex.enc, Ex.kids, mkTup, mkLst, cutT, HT.sIx, in_strT, PyData.plainAll, PyData.plain, encs]
  have := run_ret (cf := callF P gs k) (gs := gs) (fn := f_straight x) (b := b) (as := [.t e.enc]) (S := S) (S' := S) (d := .t (.list (encs e.kids))) rfl rfl (by simpa [f_straight] using key) rfl
  rw [take_all] at this
  exact this
end Lib
namespace Lib
open PySem PySem.Spec PyProof.Rows L2 Den
variable {P : List Fn} {gs : List T} {x : Nat → Nat}
theorem ext_new {S : Store} {ds : List D} {xs : List T} (h : ds.length + xs.length ≤ sizeLine) : extD (S ++ [.lst ds]) (.ref S.length) (.t (.list xs)) = some (S ++ [.lst (ds ++ xs.map .t)]) := by
  have e : (S ++ [Cell.lst ds])[S.length]? = some (.lst ds) := by simp
  unfold extD
  simp only [e]
  show guardB (decide (ds.length + xs.length ≤ sizeLine)) _ = _
  rw [decide_eq_true h, set_last]
  rfl
theorem frz_new {S : Store} {xs : List T} : frzD (S ++ [.lst (xs.map .t)]) (.ref S.length) = some (.t (.list xs), S ++ [.dead]) := by
  have e : (S ++ [Cell.lst (xs.map .t)])[S.length]? = some (.lst (xs.map .t)) := by simp
  unfold frzD
  simp only [e, allT_map, Option.map_some, set_last]
theorem isLst_new {S : Store} {ds : List D} : isLst (S ++ [.lst ds]) (.ref S.length) = true := isLst_lst (ds := ds) (by simp)
theorem encs_app (as bs : List Ex) : encs (as ++ bs) = encs as ++ encs bs := by rw [encs_map, encs_map, encs_map, List.map_append]
/-- found.extend(spots_from(part)) for each part -/
theorem spots_loop {d k b : Nat} {S : Store} {q : SQ} {w0 : Option D} (ih : ∀ (b : Nat) (S : Store) {sc fs : List Str} (e : Ex), e.wf sc fs → e.dep ≤ d → callF P gs k (x n_spots_from) b [.t e.enc] S = .ok (.t (.list (encs e.pre))) S) :
    ∀ (as done : List Ex) (w2 : Option D), (∀ a ∈ as, (∃ sc fs, a.wf sc fs) ∧ a.dep ≤ d) → (done ++ pres as).length ≤ sizeLine → (∀ w2, q.nx [w0, some (.ref S.length), w2] (S ++ [.lst ((encs (done ++ pres as)).map .t)])) →
      (forD (fBd (callF P gs k) gs b (.v 2) (l0_spots_from x)) ((encs as).map .t) [w0, some (.ref S.length), w2] (S ++ [.lst ((encs done).map .t)])).Wp q
  | [], done, w2, _, _, hq => by
    rw [encs]
    have := hq w2
    rw [pres, List.append_nil] at this
    exact this
  | a :: as, done, w2, h, hl, hq => by
    obtain ⟨⟨sc, fs, hw⟩, hd⟩ := h a List.mem_cons_self
    rw [pres, ← List.append_assoc] at hl hq
    rw [encs, List.map_cons]
    unfold forD
    have e : fBd (callF P gs k) gs b (.v 2) (l0_spots_from x) (.t a.enc) [w0, some (.ref S.length), w2] (S ++ [.lst ((encs done).map .t)]) = .nx [w0, some (.ref S.length), some (.t a.enc)] (S ++ [.lst ((encs (done ++ a.pre)).map .t)]) := by
      have hx : ((encs done).map D.t).length + (encs a.pre).length ≤ sizeLine := by
        rw [List.length_map, encs_len, encs_len]
        rw [List.length_append, List.length_append] at hl
        omega
      simp only [fBd_ap, l0_spots_from, evTg_v, Res.noexc_ok, thenS_ok, List.set, kSs_ap, evSs_then, evS_ext, evE_v, List.getElem?_cons_succ, List.getElem?_cons_zero, kExt1_ap, isLst_new, if_true, evE_call, evEs_cons, evEs_nil, Res.bind_ok, kEs_ap, kEs2_ap, kCall_ap, ih _ _ a hw hd, kExt2_ap, ext_new hx, andThen_nx, evSs_nil]
      rw [encs_app, List.map_append]
    rw [e]
    exact spots_loop ih as (done ++ a.pre) _ (fun c m => h c (List.mem_cons_of_mem _ m)) hl hq
theorem spots_from_ok (H : N_spots_from P gs x) : ∀ (d : Nat), d ≤ 8 → ∀ (k b : Nat) (S : Store) {sc fs : List Str} (e : Ex), d + 1 ≤ k → e.wf sc fs → e.dep ≤ d → callF P gs k (x n_spots_from) b [.t e.enc] S = .ok (.t (.list (encs e.pre))) S
  | 0, _, k, b, S, sc, fs, e, _, _, hd => absurd (dep_pos e) (by omega)
  | d + 1, h8, k, b, S, sc, fs, e, hk, hw, hd => by
    have key : (callF P gs k (x n_spots_from) b [.t e.enc] S).Wp (fun u S' => u = .t (.list (encs e.pre)) ∧ S' = S) NX := by
      refine call_wp H.f_spots_from (by omega) (run_wp rfl rfl ?_)
      obtain ⟨j, hj⟩ : ∃ j, k - 1 = j + 1 := ⟨k - 2, by omega⟩
      have hk := kids_wf hw
      have hpl : e.pre.length ≤ sizeLine := by
        have h1 := pre_len (d + 1) hw hd
        have h2 : 4 ^ (d + 1) ≤ 4 ^ 8 := Nat.pow_le_pow_right (by decide) h8
        simp
        omega
      refine sp_cut (fun ds S1 => ds = [some (.t e.enc), some (.ref S.length), none] ∧ S1 = S ++ [.lst ((encs [e]).map .t)]) ?_ ?_
      · simp [f_spots_from, encs]
      rintro ds S1 ⟨rfl, rfl⟩
      refine sp_cut (fun ds S1 => (∃ w2, ds = [some (.t e.enc), some (.ref S.length), w2]) ∧ S1 = S ++ [.lst ((encs e.pre).map .t)]) ?_ ?_
      · simp [hj, straight_ok H.s_straight _ _ _ e hw, kFor_ap]
        have := spots_loop (P := P) (gs := gs) (x := x) (k := j + 1) (b := S.length) (S := S) (w0 := some (.t e.enc)) (q := CQ (fun ds S1 => (∃ w2, ds = [some (.t e.enc), some (.ref S.length), w2]) ∧ S1 = S ++ [.lst ((encs e.pre).map .t)]) (RQ S.length (fun u S' => u = .t (.list (encs e.pre)) ∧ S' = S) NX)) (d := d) (fun b S {sc fs} e hw hd => spots_from_ok H d (by omega) (j + 1) b S e (by omega) hw hd) e.kids [e] none
          (fun a m => let ⟨⟨sc', w⟩, hdd⟩ := hk.1 a m; ⟨⟨sc', fs, w⟩, by omega⟩) (by rw [pre_kids] at hpl; exact hpl) (fun w2 => by rw [pre_kids e]; exact ⟨⟨w2, rfl⟩, rfl⟩)
        exact this
      rintro ds S1 ⟨⟨w2, rfl⟩, rfl⟩
      simp [frz_new]
    obtain ⟨u, S', e1, rfl, rfl⟩ := wp_out key
    exact e1
theorem spots_ok (H : N_spots P gs x) (k b : Nat) (S : Store) {sc fs : List Str} (p : Str × Ex) (hk : 6 ≤ k) (hw : p.2.wf sc fs) (hd : p.2.dep ≤ 4) : callF P gs k (x n_spots) b [.t (fnT p)] S = .ok (.t (.list (encs p.2.pre))) S := by
  obtain ⟨j, rfl⟩ : ∃ j, k = j + 1 := ⟨k - 1, by omega⟩
  rw [callF_eq H.f_spots]
  have := run_ret (cf := callF P gs j) (gs := gs) (fn := f_spots x) (b := b) (as := [.t (fnT p)]) (S := S) (S' := S) (d := .t (.list (encs p.2.pre))) rfl rfl (by simp [f_spots, fnT, spots_from_ok H.s_spots_from 4 (by decide) j _ _ p.2 (by omega) hw hd]) rfl
  rw [take_all] at this
  exact this
/-- its list left a cell -/
theorem spots_K_ok (H : N_spots_K P gs x) (k b : Nat) (S : Store) {sc fs : List Str} (p : Str × Ex) (hk : 7 ≤ k) (hw : p.2.wf sc fs) (hd : p.2.dep ≤ 4) : callF P gs k (x n_spots_K) b [.t (fnT p)] S = .ok (.ref S.length) (S ++ [.lst ((encs p.2.pre).map .t)]) := by
  have key : ∀ (k b : Nat), 6 ≤ k → (callF P gs k (x n_spots_from_K) b [.t p.2.enc] S).Wp (fun u S' => u = .ref S.length ∧ S' = S ++ [.lst ((encs p.2.pre).map .t)]) NX := fun k b h5 => by
    have H := H.s_spots_from_K
    refine call_wp H.f_spots_from_K (by omega) (runk_wp rfl rfl ?_)
    obtain ⟨j, hj⟩ : ∃ j, k - 1 = j + 1 := ⟨k - 2, by omega⟩
    have hk := kids_wf hw
    have hpl : p.2.pre.length ≤ sizeLine := by
      have h1 := pre_len 4 hw hd
      simp
      omega
    refine sp_cut (fun ds S1 => ds = [some (.t p.2.enc), some (.ref S.length), none] ∧ S1 = S ++ [.lst ((encs [p.2]).map .t)]) ?_ ?_
    · simp [f_spots_from_K, encs]
    rintro ds S1 ⟨rfl, rfl⟩
    refine sp_cut (fun ds S1 => (∃ w2, ds = [some (.t p.2.enc), some (.ref S.length), w2]) ∧ S1 = S ++ [.lst ((encs p.2.pre).map .t)]) ?_ ?_
    · simp [hj, straight_ok H.s_straight _ _ _ p.2 hw, kFor_ap]
      exact spots_loop (P := P) (gs := gs) (x := x) (k := j + 1) (b := b) (S := S) (w0 := some (.t p.2.enc)) (q := CQ (fun ds S1 => (∃ w2, ds = [some (.t p.2.enc), some (.ref S.length), w2]) ∧ S1 = S ++ [.lst ((encs p.2.pre).map .t)]) (RK (fun u S' => u = .ref S.length ∧ S' = S ++ [.lst ((encs p.2.pre).map .t)]) NX)) (d := 3) (fun b S {sc fs} e hw hd => spots_from_ok H.s_spots_from 3 (by decide) (j + 1) b S e (by omega) hw hd) p.2.kids [p.2] none
        (fun a m => let ⟨⟨sc', w⟩, hdd⟩ := hk.1 a m; ⟨⟨sc', fs, w⟩, by omega⟩) (by rw [pre_kids] at hpl; exact hpl) (fun w2 => by rw [pre_kids p.2]; exact ⟨⟨w2, rfl⟩, rfl⟩)
    rintro ds S1 ⟨⟨w2, rfl⟩, rfl⟩
    simp
  have key2 : (callF P gs k (x n_spots_K) b [.t (fnT p)] S).Wp (fun u S' => u = .ref S.length ∧ S' = S ++ [.lst ((encs p.2.pre).map .t)]) NX := by
    refine call_wp H.f_spots_K (by omega) (runk_wp rfl rfl ?_)
    simp [f_spots_K, fnT]
    refine wp_imp (key (k - 1) b (by omega)) (fun u S' h => ?_) fun _ _ _ z => z.elim
    simp
    exact h
  obtain ⟨u, S', e1, rfl, rfl⟩ := wp_out key2
  exact e1
end Lib

set_option maxHeartbeats 1000000
/-! LibT: spots, walked and told. -/
namespace Lib
open PySem PySem.Spec PyProof.Rows L2 Den
variable {P : List Fn} {gs : List T} {x : Nat → Nat}
mutual
theorem Ex.plain : ∀ e : Ex, e.enc.plain = true
  | .name s => by rw [Ex.enc]; rfl
  | .number i => by rw [Ex.enc]; rfl
  | .truth _ => by rw [Ex.enc]; rfl
  | .row xs => by
    have : PyData.plainAll (xs.map .int) = true := plain_of fun y m => by obtain ⟨s, _, rfl⟩ := List.mem_map.mp m; rfl
    rw [Ex.enc]
    simp [PyData.plain, PyData.plainAll, this]
  | .ite a b c => by rw [Ex.enc]; simp [PyData.plain, PyData.plainAll, Ex.plain a, Ex.plain b, Ex.plain c]
  | .lett s a b => by rw [Ex.enc]; simp [PyData.plain, PyData.plainAll, Ex.plain a, Ex.plain b]
  | .call f as => by rw [Ex.enc]; simp [PyData.plain, PyData.plainAll, encs_plain as]
  | .doo w as => by rw [Ex.enc]; simp [PyData.plain, PyData.plainAll, encs_plain as]
theorem encs_plain : ∀ as : List Ex, PyData.plainAll (encs as) = true
  | [] => by rw [encs]; rfl
  | a :: as => by rw [encs, PyData.plainAll, Ex.plain a, encs_plain as]; rfl
end
theorem ints_depth : ∀ xs : List Int, PyData.depthAll (xs.map .int) = 0
  | [] => rfl
  | x :: xs => by rw [List.map_cons, PyData.depthAll, ints_depth xs]; rfl
mutual
theorem Ex.depth_le : ∀ e : Ex, e.enc.depth ≤ 2 * e.dep
  | .name s => by rw [Ex.enc, Ex.dep]; simp [PyData.depth, PyData.depthAll]
  | .number i => by rw [Ex.enc, Ex.dep]; simp [PyData.depth, PyData.depthAll]
  | .truth _ => by rw [Ex.enc, Ex.dep]; simp [PyData.depth, PyData.depthAll]
  | .row xs => by rw [Ex.enc, Ex.dep]; simp [PyData.depth, PyData.depthAll, ints_depth]
  | .ite a b c => by
    have h1 := Ex.depth_le a
    have h2 := Ex.depth_le b
    have h3 := Ex.depth_le c
    rw [Ex.enc, Ex.dep]; simp [PyData.depth, PyData.depthAll]; omega
  | .lett s a b => by
    have h1 := Ex.depth_le a
    have h2 := Ex.depth_le b
    rw [Ex.enc, Ex.dep]; simp [PyData.depth, PyData.depthAll]; omega
  | .call f as => by
    have h1 := encs_depth as
    rw [Ex.enc, Ex.dep]; simp [PyData.depth, PyData.depthAll]; omega
  | .doo w as => by
    have h1 := encs_depth as
    rw [Ex.enc, Ex.dep]; simp [PyData.depth, PyData.depthAll]; omega
theorem encs_depth : ∀ as : List Ex, PyData.depthAll (encs as) ≤ 2 * deps as
  | [] => by rw [encs]; simp [PyData.depthAll]
  | a :: as => by
    have h1 := Ex.depth_le a
    have h2 := encs_depth as
    rw [encs, deps, PyData.depthAll]; omega
end
theorem ne_self {S : Store} {y : T} (h : y.plain = true) (hd : y.depth ≤ 100) : cmpD .NotEq S (.t y) (.t y) = some false := by
  have hi : isDict S (.t y) = false := by cases y <;> first | rfl | (rw [PyData.plain] at h; cases h)
  unfold cmpD
  simp only [hi, tree_t]
  show guardB (cmpOk y y) (!PyData.eqv y y) = _
  have : cmpOk y y = true := by
    unfold cmpOk
    rw [h, decide_eq_true (by omega)]
    rfl
  rw [this, PySem.SeqAt.eqv_refl_plain y h]
  rfl
theorem ne_refL {S : Store} {n : Nat} {xs : List T} (hS : S[n]? = some (.lst (xs.map .t))) (h : PyData.plainAll xs = true) (hd : PyData.depthAll xs ≤ 90) : cmpD .NotEq S (.ref n) (.t (.list xs)) = some false := by
  have h1 : PyData.plain (.list xs) = true := by rw [PyData.plain]; exact h
  have h2 : PyData.depth (.list xs) ≤ 100 := by rw [PyData.depth]; omega
  have e : tree S (.ref n) = some (.list xs) := by unfold tree; simp [hS]
  have := ne_self (S := S) h1 h2
  unfold cmpD at this ⊢
  rw [e]
  exact this
theorem isi_refL {S : Store} {n : Nat} {ds : List D} (hS : S[n]? = some (.lst ds)) : isiD S (.ref n) "list" = some true := by
  unfold isiD
  simp [hS]
theorem pres_depth {as : List Ex} {d : Nat} (h : ∀ a ∈ as, a.dep ≤ d) : PyData.depthAll (encs as) ≤ 2 * d := by
  have := encs_depth as
  have := (deps_le (n := d) as).mpr h
  omega
theorem pre_dep : ∀ (d : Nat) (e : Ex) {sc fs : List Str}, e.wf sc fs → e.dep ≤ d → ∀ a ∈ e.pre, a.dep ≤ d
  | 0, e, _, _, _, h => absurd (dep_pos e) (by omega)
  | d + 1, e, sc, fs, hw, h => fun a m => by
    rw [pre_kids] at m
    rcases List.mem_cons.mp m with rfl | m
    · exact h
    · have hk := (kids_wf hw).1
      have key : ∀ as : List Ex, (∀ c ∈ as, c ∈ e.kids) → a ∈ pres as → a.dep ≤ d := by
        intro as
        induction as with
        | nil => intro _ m; rw [pres] at m; cases m
        | cons c as ih =>
          intro hs m
          rw [pres] at m
          rcases List.mem_append.mp m with m | m
          · obtain ⟨⟨sc', w⟩, hc⟩ := hk c (hs c List.mem_cons_self)
            exact pre_dep d c w (by omega) a m
          · exact ih (fun z hz => hs z (List.mem_cons_of_mem _ hz)) m
      have := key e.kids (fun _ m => m) m
      omega
/-- _law_walked -/
theorem walked_loop {d k b : Nat} {S : Store} {q : SQ} {w0 w2 : Option D} (ih : ∀ (b : Nat) (S : Store) {sc fs : List Str} (e : Ex), e.wf sc fs → e.dep ≤ d → callF P gs k (x n_law_walked) b [.t e.enc] S = .ok (.t (.list (encs e.pre))) S) :
    ∀ (as done : List Ex) (w3 : Option D), (∀ a ∈ as, (∃ sc fs, a.wf sc fs) ∧ a.dep ≤ d) → (done ++ pres as).length ≤ sizeLine → (∀ w3, q.nx [w0, some (.t (.list (encs (done ++ pres as)))), w2, w3] S) →
      (forD (fBd (callF P gs k) gs b (.v 3) (l0_law_walked x)) ((encs as).map .t) [w0, some (.t (.list (encs done))), w2, w3] S).Wp q
  | [], done, w3, _, _, hq => by
    rw [encs]
    have := hq w3
    rw [pres, List.append_nil] at this
    exact this
  | a :: as, done, w3, h, hl, hq => by
    obtain ⟨⟨sc, fs, hw⟩, hd⟩ := h a List.mem_cons_self
    rw [pres, ← List.append_assoc] at hl hq
    rw [encs, List.map_cons]
    unfold forD
    have e : fBd (callF P gs k) gs b (.v 3) (l0_law_walked x) (.t a.enc) [w0, some (.t (.list (encs done))), w2, w3] S = .nx [w0, some (.t (.list (encs (done ++ a.pre)))), w2, some (.t a.enc)] S := by
      have hx : (encs done).length + (encs a.pre).length ≤ sizeLine := by
        rw [encs_len, encs_len]
        rw [List.length_append, List.length_append] at hl
        omega
      simp only [fBd_ap, l0_law_walked, evTg_v, Res.noexc_ok, thenS_ok, List.set, kSs_ap, evSs_then, evS_asg, evE_bin, evE_v, List.getElem?_cons_succ, List.getElem?_cons_zero, evE_call, evEs_cons, evEs_nil, Res.bind_ok, kEs_ap, kEs2_ap, kCall_ap, ih _ _ a hw hd, kBin1_ap, kBin2_ap, bin_lists hx, lift_some, kAsg_ap, kNx_ap, andThen_nx, evSs_nil]
      rw [encs_app]
    rw [e]
    exact walked_loop ih as (done ++ a.pre) _ (fun c m => h c (List.mem_cons_of_mem _ m)) hl hq
theorem walked_ok (H : N_law_walked P gs x) : ∀ (d : Nat), d ≤ 8 → ∀ (k b : Nat) (S : Store) {sc fs : List Str} (e : Ex), d ≤ k → e.wf sc fs → e.dep ≤ d → callF P gs k (x n_law_walked) b [.t e.enc] S = .ok (.t (.list (encs e.pre))) S
  | 0, _, k, b, S, sc, fs, e, _, _, hd => absurd (dep_pos e) (by omega)
  | d + 1, h8, k, b, S, sc, fs, e, hk, hw, hd => by
    have key : (callF P gs k (x n_law_walked) b [.t e.enc] S).Wp (fun u S' => u = .t (.list (encs e.pre)) ∧ S' = S) NX := by
      refine call_wp H.f_law_walked (by omega) (run_wp rfl rfl ?_)
      have hkk := kids_wf hw
      have hpl : e.pre.length ≤ sizeLine := by
        have h1 := pre_len (d + 1) hw hd
        have h2 : 4 ^ (d + 1) ≤ 4 ^ 8 := Nat.pow_le_pow_right (by decide) h8
        simp
        omega
      refine sp_cut (fun ds S1 => ds = [some (.t e.enc), some (.t (.list (encs [e]))), none, none] ∧ S = S1) ?_ ?_
      · simp [f_law_walked, encs, mkLst]
      rintro ds S1 ⟨rfl, rfl⟩
      have loop := fun w2 (q : SQ) hq => walked_loop (P := P) (gs := gs) (x := x) (k := k - 1) (b := S.length) (S := S) (q := q) (w0 := some (.t e.enc)) (w2 := w2) (d := d) (fun b S {sc fs} e hw hd => walked_ok H d (by omega) (k - 1) b S e (by omega) hw hd) e.kids [e] none
        (fun a m => let ⟨⟨sc', w⟩, hdd⟩ := hkk.1 a m; ⟨⟨sc', fs, w⟩, by omega⟩) (by rw [pre_kids] at hpl; exact hpl) hq
      have fin : ∀ w2 (q : SQ), (∀ w3, q.nx [some (.t e.enc), some (.t (.list (encs e.pre))), w2, w3] S) → (forD (fBd (callF P gs (k - 1)) gs S.length (.v 3) (l0_law_walked x)) ((encs e.kids).map .t) [some (.t e.enc), some (.t (.list (encs [e]))), w2, none] S).Wp q := fun w2 q hq => loop w2 q fun w3 => by
        have := hq w3
        rw [pre_kids] at this
        exact this
      clear loop
      have done : ∀ w3 w2, (evSs (callF P gs (k - 1)) gs S.length (.cons (.ret (.v 1)) .nil) [some (.t e.enc), some (.t (.list (encs e.pre))), w2, w3] S).Wp (RQ S.length (fun u S' => u = .t (.list (encs e.pre)) ∧ S' = S) NX) := fun w3 w2 => by simp
      generalize encs [e] = E1 at fin ⊢
      generalize encs e.pre = E2 at fin done ⊢
      cases e with
      | ite a b c => (rw [Ex.enc] at fin done ⊢; simp [mkTup, mkLst, cutT, HT.sIx, in_strT, PyData.plainAll, PyData.plain, kFor_ap]; simp [Ex.kids, encs] at fin); exact fin (some (.t (.tuple [a.enc, b.enc, c.enc]))) _ fun w3 => done w3 (some (.t (.tuple [a.enc, b.enc, c.enc])))
      | lett s a b => (rw [Ex.enc] at fin done ⊢; simp [mkTup, mkLst, cutT, HT.sIx, in_strT, PyData.plainAll, PyData.plain, kFor_ap]; simp [Ex.kids, encs] at fin); exact fin (some (.t (.tuple [a.enc, b.enc]))) _ fun w3 => done w3 (some (.t (.tuple [a.enc, b.enc])))
      | call f as => (rw [Ex.enc] at fin done ⊢; simp [mkTup, mkLst, cutT, HT.sIx, in_strT, PyData.plainAll, PyData.plain, kFor_ap]; simp [Ex.kids, encs] at fin); exact fin (some (.t (.tuple (encs as)))) _ fun w3 => done w3 (some (.t (.tuple (encs as))))
      | doo w as => (rw [Ex.enc] at fin done ⊢; simp [mkTup, mkLst, cutT, HT.sIx, in_strT, PyData.plainAll, PyData.plain, kFor_ap]; simp [Ex.kids, encs] at fin); exact fin (some (.t (.tuple (encs as)))) _ fun w3 => done w3 (some (.t (.tuple (encs as))))
      | _ => (rw [Ex.enc] at fin done ⊢; simp [mkTup, mkLst, cutT, HT.sIx, in_strT, PyData.plainAll, PyData.plain, kFor_ap]; simp [Ex.kids, encs] at fin); exact fin (some (.t (.tuple []))) _ fun w3 => done w3 (some (.t (.tuple [])))
    obtain ⟨u, S', e1, rfl, rfl⟩ := wp_out key
    exact e1
theorem collect_map {α : Type} {F : D → Store → Res (List D)} {g : α → D} {f : α → List D} {S : Store} : ∀ {as : List α}, (∀ a ∈ as, F (g a) S = .ok (f a) S) → collectD F (as.map g) S = .ok (as.flatMap f) S
  | [], _ => rfl
  | a :: as, h => by
    rw [List.map_cons]
    unfold collectD
    rw [h a List.mem_cons_self, Res.bind_ok, collect_map fun c m => h c (List.mem_cons_of_mem _ m), Res.bind_ok, List.flatMap_cons]
def rowsOf (p : Str × Ex) : List T := (List.range p.2.pre.length).map fun (k : Nat) => .tuple [.str p.1, .int (k : Int)]
theorem rows_turn {cf : CF} {b : Nat} {S : Store} {w0 w2 : Option D} (p : Str × Ex) (h : p.2.pre.length ≤ 1000) :
    collectD (turnD (evTg cf gs b (.v 2)) (evTs cf gs b .nil) (evE cf gs b (.tup (.cons (.idx (.v 1) (.c (.int 0))) (.cons (.v 2) .nil)))) (wipeD [w0, some (.t (fnT p)), w2] [2])) (rangeD 0 (p.2.pre.length : Int)) S = .ok ((rowsOf p).map .t) S := by
  have := collect_pure (F := turnD (evTg cf gs b (.v 2)) (evTs cf gs b .nil) (evE cf gs b (.tup (.cons (.idx (.v 1) (.c (.int 0))) (.cons (.v 2) .nil)))) (wipeD [w0, some (.t (fnT p)), w2] [2])) (f := fun u => [match u with | .t y => .t (.tuple [.str p.1, y]) | _ => u]) (S := S) (us := rangeD 0 (p.2.pre.length : Int)) fun u hu => by
    obtain ⟨k, hk, rfl⟩ := List.mem_map.mp hu
    simp [turnD, wipeD, fnT, mkTup]
  rw [this]
  congr 1
  simp [rangeD, rowsOf, List.flatMap_map, ← List.map_eq_flatMap]
theorem rng_len {cf : CF} {b : Nat} {ds : Sl} {S : Store} {e : E} {xs : List T} (h : evE cf gs b e ds S = .ok (.t (.list xs)) S) (hl : xs.length ≤ 1000) : evIt cf gs b (.rng1 (.blt .len (.cons e .nil))) ds S = .ok (rangeD 0 (xs.length : Int)) S := by
  have e1 : evE cf gs b (.blt .len (.cons e .nil)) ds S = .ok (.t (.int (xs.length : Int))) S := by simp only [evE_blt, evEs_cons, evEs_nil, h, Res.bind_ok, kEs_ap, kEs2_ap, kBlt_ap, blt_lenL, lift_some]
  rw [evIt_rng1, e1, Res.bind_ok, kRng_ap]
  generalize hz : (xs.length : Int) = z
  have h0 : 0 ≤ z := by omega
  have h1 : z ≤ 1000 := by omega
  have h2 : (2 : Int) ^ 62 = 4611686018427387904 := by decide
  exact if_pos ⟨by omega, by omega⟩
theorem all_spots_eq (H : N_spots P gs x) (m : Bool) (k b : Nat) (S : Store) {w1 w2 : Option D} (ps : List (Str × Ex)) (hk : 6 ≤ k) (hw : ∀ p ∈ ps, p.2.wf (parsOf p.1) FS ∧ p.2.dep ≤ 4) (hl : ps.length ≤ 5) :
    evE (callF P gs k) gs b (.comp2 m (.v 1) (.seq (.v 0)) .nil (.v 2) (.rng1 (.blt .len (.cons (.call (x n_spots) (.cons (.v 1) .nil) .nil []) .nil))) .nil (.tup (.cons (.idx (.v 1) (.c (.int 0))) (.cons (.v 2) .nil)))) [some (.t (prog ps)), w1, w2] S =
      if m = true then .ok (.ref S.length) (S ++ [.lst ((ps.flatMap rowsOf).map .t)]) else .ok (.t (.list (ps.flatMap rowsOf))) S := by
  rw [evE_comp2]
  unfold comp2D
  have hi : evIt (callF P gs k) gs b (.seq (.v 0)) [some (.t (prog ps)), w1, w2] S = .ok ((ps.map fnT).map .t) S := by simp [prog]
  rw [hi, Res.bind_ok]
  have hlen : ∀ p ∈ ps, p.2.pre.length ≤ 256 := fun p hp => pre_len 4 (hw p hp).1 (hw p hp).2
  generalize hF : (fun x_1 S => ((evTg (callF P gs k) gs b (.v 1) x_1 (wipeD [some (.t (prog ps)), w1, w2] ((Tg.v 1).slots ++ (Tg.v 2).slots)) S).noexc).bind fun ds' S => ((evTs (callF P gs k) gs b .nil ds' S).noexc).bind fun k_1 S => if k_1 = true then
      ((evIt (callF P gs k) gs b (.rng1 (.blt .len (.cons (.call (x n_spots) (.cons (.v 1) .nil) .nil []) .nil))) ds' S).noexc).bind fun xs' S => collectD (turnD (evTg (callF P gs k) gs b (.v 2)) (evTs (callF P gs k) gs b .nil) (evE (callF P gs k) gs b (.tup (.cons (.idx (.v 1) (.c (.int 0))) (.cons (.v 2) .nil)))) (wipeD ds' (Tg.v 2).slots)) xs' S
      else Res.ok [] S) = F
  have turn : ∀ p ∈ ps, F (.t (fnT p)) S = .ok ((rowsOf p).map .t) S := fun p hp => by
    have h1 := hlen p hp
    have h2 := rows_turn (cf := callF P gs k) (gs := gs) (b := b) (S := S) (w0 := some (.t (prog ps))) (w2 := none) p (by omega)
    have h3 : evE (callF P gs k) gs b (.call (x n_spots) (.cons (.v 1) .nil) .nil []) [some (.t (prog ps)), some (.t (fnT p)), none] S = .ok (.t (.list (encs p.2.pre))) S := by
      simp [spots_ok H k b S p hk (hw p hp).1 (hw p hp).2]
    have h4 := rng_len h3 (by rw [encs_len]; omega)
    rw [encs_len] at h4
    rw [← hF]
    have e1 : evTg (callF P gs k) gs b (.v 1) (.t (fnT p)) (wipeD [some (.t (prog ps)), w1, w2] ((Tg.v 1).slots ++ (Tg.v 2).slots)) S = .ok [some (.t (prog ps)), some (.t (fnT p)), none] S := by simp [Tg.slots, wipeD]
    simp only [e1, Res.noexc_ok, Res.bind_ok, evTs_nil, if_true, h4]
    exact h2
  have key : collectD F ((ps.map fnT).map .t) S = .ok ((ps.flatMap rowsOf).map .t) S := by
    rw [List.map_map]
    exact (collect_map (g := fun p => D.t (fnT p)) (f := fun p => (rowsOf p).map .t) turn).trans (by rw [List.map_flatMap])
  rw [key, Res.bind_ok]
  have hall : (ps.flatMap rowsOf).length ≤ ps.length * 256 := by
    clear key hi turn hF
    induction ps with
    | nil => simp
    | cons p r ih =>
      have h1 := hlen p List.mem_cons_self
      have h2 := ih (fun q m => hw q (List.mem_cons_of_mem _ m)) (by simp at hl; omega) fun q m => hlen q (List.mem_cons_of_mem _ m)
      rw [List.flatMap_cons, List.length_append, List.length_cons, Nat.add_mul, Nat.one_mul]
      simp [rowsOf] at h2 ⊢
      omega
  rw [if_pos (by rw [List.length_map, szl]; omega)]
  split
  · rfl
  · simp [mkLst]
end Lib

namespace K03
open PySem PySem.Spec PyProof.Rows L2 Den Lib
def top (i : Nat) : Stmt := PySem.Challenge.pw_trialmill_k03_spots_of_functions.main.body.getD i (.Pass ⟨0, 0, 0, 0⟩)
def ix : List (Nat × Nat) := [(n_straight, 0), (n_spots_from, 1), (n_spots_from_K, 2), (n_spots, 3), (n_spots_K, 4), (n_all_spots, 5), (n_all_spots_K, 6), (n_law_deck, 7), (n_law_pick, 8), (n_law_signs, 9), (n_law_leaf, 10), (n_law_done_of, 11), (n_law_tree, 12), (n_law_program, 13), (n_law_walked, 14)]
def x (n : Nat) : Nat := (ix.lookup n).getD 0
def l0_law (x : Nat → Nat) : Ss := (.cons (.asg (.v 7) (.call (x n_law_walked) (.cons (.idx (.v 5) (.c (.int 2))) .nil) .nil [])) (.cons (.asg (.v 6) (.call (x n_spots_K) (.cons (.v 5) .nil) .nil [])) (.cons (.ife (.or (.cons (.not (.isi (.v 6) "list")) (.cons (.cmp .NotEq (.v 6) (.v 7)) .nil))) (.cons (.ret (.c (.bool false))) .nil) .nil) (.cons (.app (.v 6) (.c .none)) (.cons (.ife (.cmp .NotEq (.call (x n_spots) (.cons (.v 5) .nil) .nil []) (.v 7)) (.cons (.ret (.c (.bool false))) .nil) .nil) (.cons (.asg (.v 4) (.bin .Add (.v 4) (.comp false (.v 8) (.rng1 (.blt .len (.cons (.v 7) .nil))) .nil (.tup (.cons (.idx (.v 5) (.c (.int 0))) (.cons (.v 8) .nil)))))) .nil))))))
def l1_law (x : Nat → Nat) : Ss := (.cons (.asg (.v 2) (.call (x n_law_deck) (.cons (.v 1) (.cons (.c (.int 0)) .nil)) .nil [])) (.cons (.asg (.v 3) (.call (x n_law_program) (.cons (.v 2) .nil) .nil [])) (.cons (.asg (.v 4) (.lst false .nil)) (.cons (.fr (.v 5) (.seq (.v 3)) (l0_law x)) (.cons (.asg (.v 6) (.call (x n_all_spots_K) (.cons (.v 3) .nil) .nil [])) (.cons (.ife (.or (.cons (.cmp .NotEq (.v 6) (.v 4)) (.cons (.cmp .NotEq (.v 6) (.srt (.v 4))) (.cons (.not (.isi (.v 6) "list")) .nil)))) (.cons (.ret (.c (.bool false))) .nil) .nil) .nil))))))
def f_law (x : Nat → Nat) : Fn := ⟨1, 9, false, (.cons (.fr (.v 1) (.seq (.bin .Add (.lst false (.cons (.c (.int 0)) .nil)) (.slc (.v 0) .no (.yes (.c (.int 6)))))) (l1_law x)) (.cons (.ret (.cmp .Eq (.call (x n_all_spots) (.cons (.tup .nil) .nil) .nil []) (.lst false .nil))) .nil))⟩
def gls : List Str := []
def gs : List T := []
def bl : List Str := ["list", "range", "len", "int", "tuple", "enumerate", "zip", "isinstance", "sorted"]
def table : List Def := [⟨"straight", top 1, ["expression"], ["expression", "head"], f_straight x⟩,
  ⟨"spots_from", top 2, ["expression"], ["expression", "found", "part"], f_spots_from x⟩,
  ⟨"spots_from", top 2, ["expression"], ["expression", "found", "part"], f_spots_from_K x⟩,
  ⟨"spots", top 3, ["function"], ["function"], f_spots x⟩,
  ⟨"spots", top 3, ["function"], ["function"], f_spots_K x⟩,
  ⟨"all_spots", top 5, ["program"], ["program", "function", "place"], f_all_spots x⟩,
  ⟨"all_spots", top 5, ["program"], ["program", "function", "place"], f_all_spots_K x⟩,
  ⟨"_law_deck", top 7, ["cell", "turn"], ["cell", "turn"], f_law_deck x⟩,
  ⟨"_law_pick", top 8, ["deck", "many"], ["deck", "many", "number", "found"], f_law_pick x⟩,
  ⟨"_law_signs", top 9, [], [], f_law_signs x⟩,
  ⟨"_law_leaf", top 10, ["deck", "kind", "scope"], ["deck", "kind", "scope", "some", "name", "one", "k"], f_law_leaf x⟩,
  ⟨"_law_done_of", top 11, ["deck", "kind", "scope", "calls", "deep"], ["deck", "kind", "scope", "calls", "deep", "words", "word", "kinds", "inner", "one"], f_law_done_of x⟩,
  ⟨"_law_tree", top 12, ["deck", "kind", "scope", "calls", "deep"], ["deck", "kind", "scope", "calls", "deep", "way", "some", "parts", "other", "name", "first", "inner", "args", "one", "pair"], f_law_tree x⟩,
  ⟨"_law_program", top 13, ["deck"], ["deck", "found", "at", "name", "calls", "scope", "body", "kinds", "told"], f_law_program x⟩,
  ⟨"_law_walked", top 14, ["x"], ["x", "found", "inner", "part"], f_law_walked x⟩,
  ⟨"law", top 15, ["script"], ["script", "cell", "deck", "program", "rows", "function", "told", "due", "k"], f_law x⟩]
abbrev P : List Fn := table.map (·.fn)
set_option maxRecDepth 100000 in
theorem table_ok : table.all (Def.ok (heads table) gls bl) = true := by decide +kernel
theorem binds_ok : ∀ d ∈ table, BindsOk d := by
  unfold table
  refine List.forall_mem_cons.mpr ⟨fun _ _ _ _ _ _ us hl => match us, hl with | [_], _ => rfl, ?_⟩
  refine List.forall_mem_cons.mpr ⟨fun _ _ _ _ _ _ us hl => match us, hl with | [_], _ => rfl, ?_⟩
  refine List.forall_mem_cons.mpr ⟨fun _ _ _ _ _ _ us hl => match us, hl with | [_], _ => rfl, ?_⟩
  refine List.forall_mem_cons.mpr ⟨fun _ _ _ _ _ _ us hl => match us, hl with | [_], _ => rfl, ?_⟩
  refine List.forall_mem_cons.mpr ⟨fun _ _ _ _ _ _ us hl => match us, hl with | [_], _ => rfl, ?_⟩
  refine List.forall_mem_cons.mpr ⟨fun _ _ _ _ _ _ us hl => match us, hl with | [_], _ => rfl, ?_⟩
  refine List.forall_mem_cons.mpr ⟨fun _ _ _ _ _ _ us hl => match us, hl with | [_], _ => rfl, ?_⟩
  refine List.forall_mem_cons.mpr ⟨fun _ _ _ _ _ _ us hl => match us, hl with | [_, _], _ => rfl, ?_⟩
  refine List.forall_mem_cons.mpr ⟨fun _ _ _ _ _ _ us hl => match us, hl with | [_, _], _ => rfl, ?_⟩
  refine List.forall_mem_cons.mpr ⟨fun _ _ _ _ _ _ us hl => match us, hl with | [], _ => rfl, ?_⟩
  refine List.forall_mem_cons.mpr ⟨fun _ _ _ _ _ _ us hl => match us, hl with | [_, _, _], _ => rfl, ?_⟩
  refine List.forall_mem_cons.mpr ⟨fun _ _ _ _ _ _ us hl => match us, hl with | [_, _, _, _, _], _ => rfl, ?_⟩
  refine List.forall_mem_cons.mpr ⟨fun _ _ _ _ _ _ us hl => match us, hl with | [_, _, _, _, _], _ => rfl, ?_⟩
  refine List.forall_mem_cons.mpr ⟨fun _ _ _ _ _ _ us hl => match us, hl with | [_], _ => rfl, ?_⟩
  refine List.forall_mem_cons.mpr ⟨fun _ _ _ _ _ _ us hl => match us, hl with | [_], _ => rfl, ?_⟩
  refine List.forall_mem_cons.mpr ⟨fun _ _ _ _ _ _ us hl => match us, hl with | [_], _ => rfl, ?_⟩
  intro d hd
  cases hd
theorem defs_ok {K : PySem.W.Frag} (h0 : DefK K "straight" (top 1)) (h1 : DefK K "spots_from" (top 2)) (h2 : DefK K "spots_from" (top 2)) (h3 : DefK K "spots" (top 3)) (h4 : DefK K "spots" (top 3)) (h5 : DefK K "all_spots" (top 5)) (h6 : DefK K "all_spots" (top 5)) (h7 : DefK K "_law_deck" (top 7)) (h8 : DefK K "_law_pick" (top 8)) (h9 : DefK K "_law_signs" (top 9)) (h10 : DefK K "_law_leaf" (top 10)) (h11 : DefK K "_law_done_of" (top 11)) (h12 : DefK K "_law_tree" (top 12)) (h13 : DefK K "_law_program" (top 13)) (h14 : DefK K "_law_walked" (top 14)) (h15 : DefK K "law" (top 15)) : ∀ d ∈ table, DefK K d.x d.st := by
  unfold table
  refine List.forall_mem_cons.mpr ⟨h0, ?_⟩
  refine List.forall_mem_cons.mpr ⟨h1, ?_⟩
  refine List.forall_mem_cons.mpr ⟨h2, ?_⟩
  refine List.forall_mem_cons.mpr ⟨h3, ?_⟩
  refine List.forall_mem_cons.mpr ⟨h4, ?_⟩
  refine List.forall_mem_cons.mpr ⟨h5, ?_⟩
  refine List.forall_mem_cons.mpr ⟨h6, ?_⟩
  refine List.forall_mem_cons.mpr ⟨h7, ?_⟩
  refine List.forall_mem_cons.mpr ⟨h8, ?_⟩
  refine List.forall_mem_cons.mpr ⟨h9, ?_⟩
  refine List.forall_mem_cons.mpr ⟨h10, ?_⟩
  refine List.forall_mem_cons.mpr ⟨h11, ?_⟩
  refine List.forall_mem_cons.mpr ⟨h12, ?_⟩
  refine List.forall_mem_cons.mpr ⟨h13, ?_⟩
  refine List.forall_mem_cons.mpr ⟨h14, ?_⟩
  refine List.forall_mem_cons.mpr ⟨h15, ?_⟩
  intro d hd
  cases hd
theorem bl_ok {K : PySem.W.Frag} (h0 : PySem.W.nsIn K mainGlobals "list" = some none) (h1 : PySem.W.nsIn K mainGlobals "range" = some none) (h2 : PySem.W.nsIn K mainGlobals "len" = some none) (h3 : PySem.W.nsIn K mainGlobals "int" = some none) (h4 : PySem.W.nsIn K mainGlobals "tuple" = some none) (h5 : PySem.W.nsIn K mainGlobals "enumerate" = some none) (h6 : PySem.W.nsIn K mainGlobals "zip" = some none) (h7 : PySem.W.nsIn K mainGlobals "isinstance" = some none) (h8 : PySem.W.nsIn K mainGlobals "sorted" = some none) : ∀ y ∈ bl, PySem.W.nsIn K mainGlobals y = some none := by
  unfold bl
  refine List.forall_mem_cons.mpr ⟨h0, ?_⟩
  refine List.forall_mem_cons.mpr ⟨h1, ?_⟩
  refine List.forall_mem_cons.mpr ⟨h2, ?_⟩
  refine List.forall_mem_cons.mpr ⟨h3, ?_⟩
  refine List.forall_mem_cons.mpr ⟨h4, ?_⟩
  refine List.forall_mem_cons.mpr ⟨h5, ?_⟩
  refine List.forall_mem_cons.mpr ⟨h6, ?_⟩
  refine List.forall_mem_cons.mpr ⟨h7, ?_⟩
  refine List.forall_mem_cons.mpr ⟨h8, ?_⟩
  intro d hd
  cases hd
theorem at_straight : P[x n_straight]? = some (f_straight x) := rfl
theorem at_spots_from : P[x n_spots_from]? = some (f_spots_from x) := rfl
theorem at_spots_from_K : P[x n_spots_from_K]? = some (f_spots_from_K x) := rfl
theorem at_spots : P[x n_spots]? = some (f_spots x) := rfl
theorem at_spots_K : P[x n_spots_K]? = some (f_spots_K x) := rfl
theorem at_all_spots : P[x n_all_spots]? = some (f_all_spots x) := rfl
theorem at_all_spots_K : P[x n_all_spots_K]? = some (f_all_spots_K x) := rfl
theorem at_law_deck : P[x n_law_deck]? = some (f_law_deck x) := rfl
theorem at_law_pick : P[x n_law_pick]? = some (f_law_pick x) := rfl
theorem at_law_signs : P[x n_law_signs]? = some (f_law_signs x) := rfl
theorem at_law_leaf : P[x n_law_leaf]? = some (f_law_leaf x) := rfl
theorem at_law_done_of : P[x n_law_done_of]? = some (f_law_done_of x) := rfl
theorem at_law_tree : P[x n_law_tree]? = some (f_law_tree x) := rfl
theorem at_law_program : P[x n_law_program]? = some (f_law_program x) := rfl
theorem at_law_walked : P[x n_law_walked]? = some (f_law_walked x) := rfl
theorem at_law : P[15]? = some (f_law x) := rfl
theorem ok_straight : N_straight P gs x := ⟨at_straight⟩
theorem ok_spots_from : N_spots_from P gs x := ⟨at_spots_from, ok_straight⟩
theorem ok_spots_from_K : N_spots_from_K P gs x := ⟨at_spots_from_K, ok_straight, ok_spots_from⟩
theorem ok_spots : N_spots P gs x := ⟨at_spots, ok_spots_from⟩
theorem ok_spots_K : N_spots_K P gs x := ⟨at_spots_K, ok_spots_from_K⟩
theorem ok_all_spots : N_all_spots P gs x := ⟨at_all_spots, ok_spots⟩
theorem ok_all_spots_K : N_all_spots_K P gs x := ⟨at_all_spots_K, ok_spots⟩
theorem ok_law_deck : N_law_deck P gs x := ⟨at_law_deck⟩
theorem ok_law_pick : N_law_pick P gs x := ⟨at_law_pick⟩
theorem ok_law_signs : N_law_signs P gs x := ⟨at_law_signs⟩
theorem ok_law_leaf : N_law_leaf P gs x := ⟨at_law_leaf, ok_law_pick⟩
theorem ok_law_done_of : N_law_done_of P gs x := ⟨at_law_done_of, at_law_tree, ok_law_pick, ok_law_leaf, ok_law_signs⟩
theorem ok_law_program : N_law_program P gs x := ⟨at_law_program, ok_law_pick, ok_law_signs, ok_law_done_of⟩
theorem ok_law_walked : N_law_walked P gs x := ⟨at_law_walked⟩
structure N_law (P : List Fn) (gs : List T) (x : Nat → Nat) (li : Nat) : Prop where
  f_law : P[li]? = some (f_law x)
  s_law_deck : N_law_deck P gs x
  s_law_program : N_law_program P gs x
  s_law_walked : N_law_walked P gs x
  s_spots_K : N_spots_K P gs x
  s_spots : N_spots P gs x
  s_all_spots_K : N_all_spots_K P gs x
  s_all_spots : N_all_spots P gs x
theorem ok_law : N_law P gs x 15 := ⟨at_law, ok_law_deck, ok_law_program, ok_law_walked, ok_spots_K, ok_spots, ok_all_spots_K, ok_all_spots⟩
end K03

set_option maxHeartbeats 1000000
namespace Lib
open PySem PySem.Spec PyProof.Rows L2 Den
variable {P : List Fn} {gs : List T} {x : Nat → Nat}
/-! ### the rows of spots are in order -/
theorem row_le (a b : Str) (i j : Nat) (h : (a = b ∧ i ≤ j) ∨ (a ≠ b ∧ PySem.W.dataLt (.str b) (.str a) = false)) : PySem.W.dataLe false id (.tuple [.str a, .int (i : Int)]) (.tuple [.str b, .int (j : Int)]) = true := by
  rw [PySem.W.dataLe_eq]
  show (!PySem.W.dataLt (.tuple [.str b, .int (j : Int)]) (.tuple [.str a, .int (i : Int)])) = true
  rw [PySem.W.dataLt_pair rfl rfl]
  rcases h with ⟨rfl, h⟩ | ⟨hn, h⟩
  · have e : PyData.eqv (.str a) (.str a) = true := by simp
    rw [if_pos e, PySem.W.dataLt_int]
    split
    · rfl
    · rw [decide_eq_false (by omega)]; rfl
  · have e : ¬ PyData.eqv (.str b) (.str a) = true := by simp; exact fun z => hn z.symm
    rw [if_neg e, h]
    rfl
theorem FS_up : FS.Pairwise fun a b => a ≠ b ∧ PySem.W.dataLt (.str b) (.str a) = false := by
  unfold FS
  decide +kernel
theorem rows_sorted {ps : List (Str × Ex)} (h : ps.map (·.1) = FS) : sortT (ps.flatMap rowsOf) = ps.flatMap rowsOf := by
  unfold sortT
  refine List.mergeSort_of_pairwise ?_
  rw [List.pairwise_flatMap]
  refine ⟨fun p _ => ?_, ?_⟩
  · unfold rowsOf
    rw [List.pairwise_map]
    exact List.Pairwise.imp (fun {i j} (hij : i < j) => row_le p.1 p.1 i j (.inl ⟨rfl, by omega⟩)) List.pairwise_lt_range
  · have := FS_up
    rw [← h, List.pairwise_map] at this
    refine this.imp fun {p q} hpq y hy z hz => ?_
    obtain ⟨i, _, rfl⟩ := List.mem_map.mp hy
    obtain ⟨j, _, rfl⟩ := List.mem_map.mp hz
    exact row_le p.1 q.1 i j (.inr hpq)
theorem rows_shape {ps : List (Str × Ex)} : ∀ y ∈ ps.flatMap rowsOf, ∃ (a : Str) (i : Nat), y = .tuple [.str a, .int (i : Int)] := fun y m => by
  obtain ⟨p, _, m⟩ := List.mem_flatMap.mp m
  obtain ⟨i, _, rfl⟩ := List.mem_map.mp m
  exact ⟨p.1, i, rfl⟩
theorem rows_plain {ps : List (Str × Ex)} : PyData.plainAll (ps.flatMap rowsOf) = true := plain_of fun y m => by obtain ⟨a, i, rfl⟩ := rows_shape y m; rfl
theorem depth_all {B : Nat} : ∀ {ys : List T}, (∀ y ∈ ys, y.depth ≤ B) → PyData.depthAll ys ≤ B
  | [], _ => Nat.zero_le _
  | y :: ys, h => by
    have h1 := h y List.mem_cons_self
    have h2 := depth_all fun z m => h z (List.mem_cons_of_mem _ m)
    rw [PyData.depthAll]
    omega
theorem rows_depth {ps : List (Str × Ex)} : PyData.depthAll (ps.flatMap rowsOf) ≤ 1 := depth_all fun y m => by obtain ⟨a, i, rfl⟩ := rows_shape y m; exact Nat.le_refl _
theorem rows_ok {ps : List (Str × Ex)} : sortOk (ps.flatMap rowsOf) = true := by
  unfold sortOk
  simp only [Bool.and_eq_true, Bool.or_eq_true, List.all_eq_true, decide_eq_true_eq]
  refine ⟨⟨fun y hy z hz => ?_, .inl fun y hy => ?_⟩, fun y hy => ?_⟩
  · obtain ⟨a, i, rfl⟩ := rows_shape y hy
    obtain ⟨b, j, rfl⟩ := rows_shape z hz
    rfl
  · obtain ⟨a, i, rfl⟩ := rows_shape y hy
    rfl
  · obtain ⟨a, i, rfl⟩ := rows_shape y hy
    exact ⟨rfl, by show 1 ≤ 100; decide⟩
theorem srt_rows {S : Store} {ps : List (Str × Ex)} (h : ps.map (·.1) = FS) : srtD S (.t (.list (ps.flatMap rowsOf))) = some (.t (.list (ps.flatMap rowsOf))) := by
  show (guardB (sortOk (ps.flatMap rowsOf)) (D.t (.list (sortT (ps.flatMap rowsOf))))) = _
  rw [rows_ok, rows_sorted h]
  rfl
theorem rows_len {ps : List (Str × Ex)} (hw : ∀ p ∈ ps, p.2.wf (parsOf p.1) FS ∧ p.2.dep ≤ 4) : (ps.flatMap rowsOf).length ≤ ps.length * 256 := by
  induction ps with
  | nil => simp
  | cons p r ih =>
    have h1 : p.2.pre.length ≤ 256 := pre_len 4 (hw p List.mem_cons_self).1 (hw p List.mem_cons_self).2
    have h2 := ih fun q m => hw q (List.mem_cons_of_mem _ m)
    rw [List.flatMap_cons, List.length_append, List.length_cons, Nat.add_mul, Nat.one_mul]
    have : (rowsOf p).length = p.2.pre.length := by simp [rowsOf]
    omega
/-- [(function[0], k) for k in range(len(due))] -/
theorem rows_comp {cf : CF} {b : Nat} {S : Store} {w0 w1 w2 w3 w4 w6 w8 : Option D} (p : Str × Ex) (h : p.2.pre.length ≤ 256) :
    evE cf gs b (.comp false (.v 8) (.rng1 (.blt .len (.cons (.v 7) .nil))) .nil (.tup (.cons (.idx (.v 5) (.c (.int 0))) (.cons (.v 8) .nil)))) [w0, w1, w2, w3, w4, some (.t (fnT p)), w6, some (.t (.list (encs p.2.pre))), w8] S = .ok (.t (.list (rowsOf p))) S := by
  rw [evE_comp]
  unfold compD
  rw [rng_len (xs := encs p.2.pre) (by simp) (by rw [encs_len]; omega), Res.bind_ok, encs_len]
  have := collect_pure (F := turnD (evTg cf gs b (.v 8)) (evTs cf gs b .nil) (evE cf gs b (.tup (.cons (.idx (.v 5) (.c (.int 0))) (.cons (.v 8) .nil)))) (wipeD [w0, w1, w2, w3, w4, some (.t (fnT p)), w6, some (.t (.list (encs p.2.pre))), w8] (Tg.v 8).slots)) (f := fun u => [match u with | .t y => .t (.tuple [.str p.1, y]) | _ => u]) (S := S) (us := rangeD 0 (p.2.pre.length : Int)) fun u hu => by
    obtain ⟨k, hk, rfl⟩ := List.mem_map.mp hu
    simp [turnD, wipeD, Tg.slots, fnT, mkTup]
  rw [this, Res.bind_ok]
  have e : (rangeD 0 (p.2.pre.length : Int)).flatMap (fun u => [match u with | .t y => D.t (.tuple [.str p.1, y]) | _ => u]) = (rowsOf p).map .t := by
    simp [rangeD, rowsOf, List.flatMap_map, ← List.map_eq_flatMap]
  rw [e, List.length_map, if_pos]
  · simp [mkLst]
  · have : (rowsOf p).length = p.2.pre.length := by simp [rowsOf]
    rw [szl]
    omega
theorem all_spots_ok (H : N_all_spots P gs x) (k b : Nat) (S : Store) (ps : List (Str × Ex)) (hk : 7 ≤ k) (hw : ∀ p ∈ ps, p.2.wf (parsOf p.1) FS ∧ p.2.dep ≤ 4) (hl : ps.length ≤ 5) : callF P gs k (x n_all_spots) b [.t (prog ps)] S = .ok (.t (.list (ps.flatMap rowsOf))) S := by
  obtain ⟨j, rfl⟩ : ∃ j, k = j + 1 := ⟨k - 1, by omega⟩
  rw [callF_eq H.f_all_spots]
  have := run_ret (cf := callF P gs j) (gs := gs) (fn := f_all_spots x) (b := b) (as := [.t (prog ps)]) (S := S) (S' := S) (d := .t (.list (ps.flatMap rowsOf))) rfl rfl (by
    simp only [f_all_spots, evSs_then, evS_ret, List.map_cons, List.map_nil, List.cons_append, List.nil_append, List.replicate]
    rw [all_spots_eq H.s_spots false j _ S ps (by omega) hw hl]
    simp) rfl
  rw [take_all] at this
  exact this
theorem all_spots_K_ok (H : N_all_spots_K P gs x) (k b : Nat) (S : Store) (ps : List (Str × Ex)) (hk : 7 ≤ k) (hw : ∀ p ∈ ps, p.2.wf (parsOf p.1) FS ∧ p.2.dep ≤ 4) (hl : ps.length ≤ 5) : callF P gs k (x n_all_spots_K) b [.t (prog ps)] S = .ok (.ref S.length) (S ++ [.lst ((ps.flatMap rowsOf).map .t)]) := by
  obtain ⟨j, rfl⟩ : ∃ j, k = j + 1 := ⟨k - 1, by omega⟩
  rw [callF_eq H.f_all_spots_K]
  exact run_keep (cf := callF P gs j) (gs := gs) (fn := f_all_spots_K x) (b := b) (as := [.t (prog ps)]) (S := S) (S' := S ++ [.lst ((ps.flatMap rowsOf).map .t)]) (d := .ref S.length) rfl rfl (by
    simp only [f_all_spots_K, evSs_then, evS_ret, List.map_cons, List.map_nil, List.cons_append, List.nil_append, List.replicate]
    rw [all_spots_eq H.s_spots true j _ S ps (by omega) hw hl]
    simp)
end Lib

set_option maxHeartbeats 1000000
namespace K03
open PySem PySem.Spec PyProof.Rows L2 Den Lib
section
variable {P : List Fn} {gs : List T} {x : Nat → Nat} {li : Nat}
theorem turn_ok (H : N_law P gs x li) {k b : Nat} {S : Store} {q : SQ} {w0 w1 w2 w3 w5 w6 w7 w8 : Option D} (hk : 12 ≤ k) (rows : List T) (p : Str × Ex) (hw : p.2.wf (parsOf p.1) FS ∧ p.2.dep ≤ 4) (hl : rows.length ≤ 2000)
    (hq : ∀ w6 w7 w8 S, q.nx [w0, w1, w2, w3, some (.t (.list (rows ++ rowsOf p))), some (.t (fnT p)), w6, w7, w8] S) : (fBd (callF P gs k) gs b (.v 5) (l0_law x) (.t (fnT p)) [w0, w1, w2, w3, some (.t (.list rows)), w5, w6, w7, w8] S).Wp q := by
  have h1 : p.2.pre.length ≤ 256 := pre_len 4 hw.1 hw.2
  have e1 := walked_ok H.s_law_walked 4 (by decide) k b S p.2 (by omega) hw.1 hw.2
  have e2 := spots_K_ok H.s_spots_K k b S p (by omega) hw.1 hw.2
  have hd : PyData.depthAll (encs p.2.pre) ≤ 90 := by
    have := pres_depth (pre_dep 4 p.2 hw.1 hw.2)
    omega
  have hc : (S ++ [Cell.lst ((encs p.2.pre).map .t)])[S.length]? = some (.lst ((encs p.2.pre).map .t)) := by simp
  have e5 := ne_refL hc (encs_plain _) hd
  have e6 := isi_refL hc
  have e7 := app_lst (b := b) (v := .none) hc (by rw [List.length_map, encs_len, szl]; omega)
  have e8 := isLst_lst hc
  have f2 : fnT p = .tuple [.str p.1, .tuple ((parsOf p.1).map .str), p.2.enc] := rfl
  generalize S ++ [Cell.lst ((encs p.2.pre).map .t)] = S1 at *
  simp only [fBd_ap, evTg_v, Res.noexc_ok, thenS_ok, List.set, kSs_ap]
  refine sp_cut (fun ds S' => ds = [w0, w1, w2, w3, some (.t (.list rows)), some (.t (fnT p)), w6, some (.t (.list (encs p.2.pre))), w8] ∧ S = S') ?_ ?_
  · simp [l0_law, f2]
    rw [e1]
    simp
  rintro ds S' ⟨rfl, rfl⟩
  refine sp_cut (fun ds S' => ds = [w0, w1, w2, w3, some (.t (.list rows)), some (.t (fnT p)), some (.ref S.length), some (.t (.list (encs p.2.pre))), w8] ∧ S1 = S') ?_ ?_
  · simp [e2]
  rintro ds S' ⟨rfl, rfl⟩
  refine sp_cut (fun ds S' => ds = [w0, w1, w2, w3, some (.t (.list rows)), some (.t (fnT p)), some (.ref S.length), some (.t (.list (encs p.2.pre))), w8] ∧ S1 = S') ?_ ?_
  · simp [e5, e6]
  rintro ds S' ⟨rfl, rfl⟩
  refine sp_cut (fun ds S' => ds = [w0, w1, w2, w3, some (.t (.list rows)), some (.t (fnT p)), some (.ref S.length), some (.t (.list (encs p.2.pre))), w8]) ?_ ?_
  · simp [e7, e8]
  rintro ds S' rfl
  refine sp_cut (fun ds S' => ds = [w0, w1, w2, w3, some (.t (.list rows)), some (.t (fnT p)), some (.ref S.length), some (.t (.list (encs p.2.pre))), w8]) ?_ ?_
  · have e3 := spots_ok H.s_spots k b S' p (by omega) hw.1 hw.2
    have e4 := ne_self (S := S') (y := .list (encs p.2.pre)) (by rw [PyData.plain]; exact encs_plain _) (by rw [PyData.depth]; omega)
    simp [e3, e4]
  rintro ds S' rfl
  have hr : (rowsOf p).length ≤ 256 := by simp [rowsOf]; exact h1
  have e9 : ∀ S', evE (callF P gs k) gs b (.bin .Add (.v 4) (.comp false (.v 8) (.rng1 (.blt .len (.cons (.v 7) .nil))) .nil (.tup (.cons (.idx (.v 5) (.c (.int 0))) (.cons (.v 8) .nil))))) [w0, w1, w2, w3, some (.t (.list rows)), some (.t (fnT p)), some (.ref S.length), some (.t (.list (encs p.2.pre))), w8] S' = .ok (.t (.list (rows ++ rowsOf p))) S' := fun S' => by
    rw [evE_bin]
    have : evE (callF P gs k) gs b (.v 4) [w0, w1, w2, w3, some (.t (.list rows)), some (.t (fnT p)), some (.ref S.length), some (.t (.list (encs p.2.pre))), w8] S' = .ok (.t (.list rows)) S' := by rw [evE_v]; rfl
    rw [this, Res.bind_ok, kBin1_ap, rows_comp p h1, Res.bind_ok, kBin2_ap, bin_lists (by rw [szl]; omega), lift_some]
  rw [evSs_then, sp_andThen, evS_asg, sp_then]
  rw [e9 S', wp_ok]
  rw [ThS_ap, kAsg_ap, evTg_v, Res.noexc_ok, thenS_ok, kNx_ap, sp_nx, seq_nx, evSs_nil, sp_nx]
  exact hq _ _ _ _
theorem cell_ok (H : N_law P gs x li) (sd : D) {k b : Nat} (hk : 15 ≤ k) (c : Int) (ds : Sl) (S : Store) (h : ∃ w1 w2 w3 w4 w5 w6 w7 w8, ds = [some sd, w1, w2, w3, w4, w5, w6, w7, w8]) (q : SQ) (hq : ∀ ds S, (∃ w1 w2 w3 w4 w5 w6 w7 w8, ds = [some sd, w1, w2, w3, w4, w5, w6, w7, w8]) → q.nx ds S) :
    (fBd (callF P gs k) gs b (.v 1) (l1_law x) (.t (.int c)) ds S).Wp q := by
  obtain ⟨w1, w2, w3, w4, w5, w6, w7, w8, rfl⟩ := h
  simp [l1_law]
  refine deck_wp H.s_law_deck (by omega) fun cc h0 => ?_
  generalize S ++ [cc] = S0 at *
  generalize S.length = n at *
  simp
  refine program_wp H.s_law_program (by omega) h0 (by decide) fun ps S1 ok u1 h1 => ?_
  have hw : ∀ p ∈ ps, p.2.wf (parsOf p.1) FS ∧ p.2.dep ≤ 4 := fun p m => ⟨ok.wf p m, ok.dp p m⟩
  have hlp : ps.length = 5 := by have := congrArg List.length ok.nm; simpa [FS] using this
  refine sp_cut (fun ds S' => ds = [some sd, some (.t (.int c)), some (.ref n), some (.t (prog ps)), some (.t (.list [])), w5, w6, w7, w8] ∧ S1 = S') ?_ ?_
  · simp [mkLst]
  rintro ds S' ⟨rfl, rfl⟩
  refine sp_cut (fun ds S' => ∃ w5 w6 w7 w8, ds = [some sd, some (.t (.int c)), some (.ref n), some (.t (prog ps)), some (.t (.list (ps.flatMap rowsOf))), w5, w6, w7, w8]) ?_ ?_
  · rw [evS_fr, sp_then, evIt_seq, evE_v]
    have e : seqI (.t (prog ps)) S1 = .ok ((ps.map fnT).map .t) S1 := rfl
    simp [e]
    rw [kFor_ap]
    refine for_wp (fun us ds S' => ∃ done rest w5 w6 w7 w8, done ++ rest = ps ∧ us = (rest.map fnT).map .t ∧ ds = [some sd, some (.t (.int c)), some (.ref n), some (.t (prog ps)), some (.t (.list (done.flatMap rowsOf))), w5, w6, w7, w8]) ?_ ?_ ?_
    · rintro ds S' ⟨done, rest, w5, w6, w7, w8, hd, hu, rfl⟩
      cases rest with
      | cons _ _ => cases hu
      | nil =>
        rw [List.append_nil] at hd
        subst hd
        exact ⟨w5, w6, w7, w8, rfl⟩
    · rintro u r ds S' ⟨done, rest, w5, w6, w7, w8, hd, hu, rfl⟩
      cases rest with
      | nil => cases hu
      | cons p rest =>
        cases hu
        have hp : p ∈ ps := by rw [← hd]; simp
        have hdl : done.length ≤ 5 := by have := congrArg List.length hd; simp at this; omega
        have hrl := rows_len (ps := done) fun q m => hw q (by rw [← hd]; exact List.mem_append_left _ m)
        refine turn_ok H (by omega) (done.flatMap rowsOf) p (hw p hp) (by omega) fun w6 w7 w8 S => ?_
        refine ⟨done ++ [p], rest, some (.t (fnT p)), w6, w7, w8, by rw [List.append_assoc]; exact hd, rfl, ?_⟩
        rw [List.flatMap_append, List.flatMap_cons, List.flatMap_nil, List.append_nil]
    · exact ⟨[], ps, _, _, _, _, rfl, by simp, rfl⟩
  rintro ds S2 ⟨w5, w6, w7, w8, rfl⟩
  have hA := all_spots_K_ok H.s_all_spots_K k b S2 ps (by omega) hw (by omega)
  have hc : (S2 ++ [Cell.lst ((ps.flatMap rowsOf).map .t)])[S2.length]? = some (.lst ((ps.flatMap rowsOf).map .t)) := by simp
  have e5 := ne_refL hc rows_plain (Nat.le_trans rows_depth (by decide))
  have e6 := isi_refL hc
  have e7 := srt_rows (S := S2 ++ [Cell.lst ((ps.flatMap rowsOf).map .t)]) ok.nm
  generalize S2 ++ [Cell.lst ((ps.flatMap rowsOf).map .t)] = S3 at *
  refine sp_cut (fun ds S' => ds = [some sd, some (.t (.int c)), some (.ref n), some (.t (prog ps)), some (.t (.list (ps.flatMap rowsOf))), w5, some (.ref S2.length), w7, w8] ∧ S3 = S') ?_ ?_
  · simp [hA]
  rintro ds S' ⟨rfl, rfl⟩
  simp [e5, e6, e7]
  exact hq _ _ ⟨_, _, _, _, _, _, _, _, rfl⟩
theorem law_wp (H : N_law P gs x li) (ns : List Int) (hl : ns.length ≤ 63) {k : Nat} (hk : 16 ≤ k) : (callF P gs k li 0 [scriptD ns] []).Wp (fun d _ => d = .t (.bool true)) NX := by
  refine call_wp H.f_law (by omega) ?_
  refine run_wp rfl rfl ?_
  have e0 : prog [] = .tuple [] := rfl
  have e1 : ∀ S, callF P gs (k - 1) (x n_all_spots) ([] : Store).length [.t (.tuple [])] S = .ok (.t (.list [])) S := fun S => by
    have := all_spots_ok H.s_all_spots (k - 1) ([] : Store).length S [] (by omega) (fun _ m => (nomatch m)) (by simp)
    rw [e0] at this
    exact this
  have e2 : ∀ S, cmpD .Eq S (.t (.list [])) (.t (.list [])) = some true := fun S => rfl
  simp [f_law, -evS_fr]
  refine cells_wp (fun ds _ => ∃ w1 w2 w3 w4 w5 w6 w7 w8, ds = [some (scriptD ns), w1, w2, w3, w4, w5, w6, w7, w8]) hl ⟨_, _, _, _, _, _, _, _, rfl⟩ ?_ (fun c ds S hs => ?_) rfl
  · rintro ds S' ⟨w1, w2, w3, w4, w5, w6, w7, w8, rfl⟩
    simp [mkTup, mkLst, e1, e2] at e1 ⊢
  · exact cell_ok H _ (by omega) c ds S hs _ fun ds S hs => hs
theorem law_out (H : N_law P gs x li) (ns : List Int) (hl : ns.length ≤ 63) {k : Nat} (hk : 16 ≤ k) : ∃ S, callF P gs k li 0 [scriptD ns] [] = .ok (.t (.bool true)) S := by
  obtain ⟨a, S, e, h⟩ := wp_out (law_wp H ns hl hk)
  exact ⟨S, by rw [e, h]⟩
end
end K03

namespace K03
open PySem PySem.Spec PyProof.Rows L2 Den Lib
theorem law_ok (ns : List Int) (hl : ns.length ≤ 63) : ∃ S, callF P gs 16 15 0 [scriptD ns] [] = .ok (.t (.bool true)) S := law_out ok_law ns hl (by decide)
end K03
namespace K03
open PySem PySem.Spec PyProof.Rows L2 Den
theorem walk {l : PySem.W.OpenLaw} {q : Program} {loose : List Str} {XP : (Str → Option Value) → Heap → Prop} {YP : World → Heap → Prop} {d : DefRec} {K : Params → PySem.W.Frag} (hn : l.most = some 63) (hdf : d.params.defaults = [])
    (hY : ∀ (w : World) (h : Heap), YP w h → (K w.params).In h)
    (F : ∀ (w : World) (mg : Str → Option Value) (fa : Addr) (h : Heap), (K w.params).In h → h.Ns mainGlobals mg → mg d.name = some (.ref fa) →
      ∃ fd : FuncData, (∀ (s : Shared) (u : Value), BindsTo s fd ⟨[u], []⟩ [("script", u)]) ∧ ∀ base : Heap, (K w.params).In base → base.Ns mainGlobals mg → FnOk l.prog w (K w.params) mg base (L2.CX l.prog w) 16 fa fd ["script"] (spD [] (K w.params) (callF P gs 16) 1 15)) :
    PySem.W.WalkO q loose XP YP l.row.toRowW d [] (fun f vs => PySem.call f vs) :=
  L2.walk_of (n := 63) (k := 16) (x := "script") (CX := fun w => L2.CX l.prog w) (sp := fun w => spD [] (K w.params) (callF P gs 16) 1 15) hn (by decide) hdf ⟨rfl, by decide, by decide⟩ hY F
    (fun w H a ns hl _ hS => law_sp hS (law_ok ns hl)) fun w H s e s' ⟨_, _, _, _, _, _, _, _, _, _, _, _, z⟩ => z
end K03
open PySem PySem.W PyProof.Rows
set_option maxRecDepth 100000 in
set_option maxHeartbeats 0 in
theorem PySem.Challenge.cw_trialmill_k03_spots_of_functions_holds : PySem.Challenge.rw_trialmill_k03_spots_of_functions.Holds := by
  w_on; o_law; k_head; (case hw => w_witness2)
  k_fill
  refine K03.walk (l := PySem.Challenge.rw_trialmill_k03_spots_of_functions) rfl rfl (fun w h Y => PySem.W.kIn_of Y) ?F
  case F =>
    intro w mg fa h KX G hmg
    refine Den.law_ok (t := K03.table) (gls := K03.gls) (bl := K03.bl) (i := 15) KX G hmg rfl rfl K03.table_ok (K03.defs_ok ?d0 ?d1 ?d2 ?d3 ?d4 ?d5 ?d6 ?d7 ?d8 ?d9 ?d10 ?d11 ?d12 ?d13 ?d14 ?d15) K03.binds_ok Den.no_gls (K03.bl_ok ?z0 ?z1 ?z2 ?z3 ?z4 ?z5 ?z6 ?z7 ?z8)
    (case d0 => refine' Den.defK_of ?a ?l ?c ?k; (case a => k_is); (case l => k_is); (case c => k_is); (case k => k_is))
    (case d1 => refine' Den.defK_of ?a ?l ?c ?k; (case a => k_is); (case l => k_is); (case c => k_is); (case k => k_is))
    (case d2 => refine' Den.defK_of ?a ?l ?c ?k; (case a => k_is); (case l => k_is); (case c => k_is); (case k => k_is))
    (case d3 => refine' Den.defK_of ?a ?l ?c ?k; (case a => k_is); (case l => k_is); (case c => k_is); (case k => k_is))
    (case d4 => refine' Den.defK_of ?a ?l ?c ?k; (case a => k_is); (case l => k_is); (case c => k_is); (case k => k_is))
    (case d5 => refine' Den.defK_of ?a ?l ?c ?k; (case a => k_is); (case l => k_is); (case c => k_is); (case k => k_is))
    (case d6 => refine' Den.defK_of ?a ?l ?c ?k; (case a => k_is); (case l => k_is); (case c => k_is); (case k => k_is))
    (case d7 => refine' Den.defK_of ?a ?l ?c ?k; (case a => k_is); (case l => k_is); (case c => k_is); (case k => k_is))
    (case d8 => refine' Den.defK_of ?a ?l ?c ?k; (case a => k_is); (case l => k_is); (case c => k_is); (case k => k_is))
    (case d9 => refine' Den.defK_of ?a ?l ?c ?k; (case a => k_is); (case l => k_is); (case c => k_is); (case k => k_is))
    (case d10 => refine' Den.defK_of ?a ?l ?c ?k; (case a => k_is); (case l => k_is); (case c => k_is); (case k => k_is))
    (case d11 => refine' Den.defK_of ?a ?l ?c ?k; (case a => k_is); (case l => k_is); (case c => k_is); (case k => k_is))
    (case d12 => refine' Den.defK_of ?a ?l ?c ?k; (case a => k_is); (case l => k_is); (case c => k_is); (case k => k_is))
    (case d13 => refine' Den.defK_of ?a ?l ?c ?k; (case a => k_is); (case l => k_is); (case c => k_is); (case k => k_is))
    (case d14 => refine' Den.defK_of ?a ?l ?c ?k; (case a => k_is); (case l => k_is); (case c => k_is); (case k => k_is))
    (case d15 => refine' Den.defK_of ?a ?l ?c ?k; (case a => k_is); (case l => k_is); (case c => k_is); (case k => k_is))
    (case z0 => k_is)
    (case z1 => k_is)
    (case z2 => k_is)
    (case z3 => k_is)
    (case z4 => k_is)
    (case z5 => k_is)
    (case z6 => k_is)
    (case z7 => k_is)
    (case z8 => k_is)
