import PyProof.Rows.All
import Wide.All
import OpenK.AllK
import Wide.FinOn
import KE.KEqDict
import KE.KDictOf
import PySem.Challenge.RW_uf050040_04
set_option Elab.async false
set_option autoImplicit false
set_option linter.unusedVariables false
namespace Mine
open PySem PySem.Calls PyProof.Rows

/-- abstract values -/
inductive V where
  | none
  | bool (b : Bool)
  | int (i : Int)
  | str (s : Str)
  | tup (xs : List V)
  | ref (k : Nat)
  | raw (v : Value)
  | exc (C : Addr)
  | rng (a b c : Int)

/-- keys of dicts -/
inductive Key where
  | s (x : Str)
  | i (n : Int)
  deriving DecidableEq

/-- abstract objects -/
inductive AObj where
  | list (xs : List V)
  | dict (es : List (Key × V)) (ep : Option Nat)
  | inst (C : Addr) (k : Nat)
  | ns (as : List (Str × V))

mutual
def Val (φ : List Addr) (h : Heap) : V → Value → Prop
  | .none, v => v = .none
  | .bool b, v => v = .bool b
  | .int i, v => ∃ t, v = .int i t
  | .str s, v => ∃ t, v = .str s t
  | .tup xs, v => ∃ a vs, v = .ref a ∧ IsTup h a vs ∧ Vals φ h xs vs.toList
  | .ref k, v => ∃ a, v = .ref a ∧ φ[k]? = some a
  | .raw u, v => v = u
  | .exc C, v => ∃ a o vs, v = .ref a ∧ h.get? a = some o ∧ o.cls = .ref C ∧ o.data = .fields vs
  | .rng a b c, v => ∃ r t u k, v = .ref r ∧ h.get? r = some { cls := .type "range", data := .fields #[.int a t, .int b u, .int c k] }
def Vals (φ : List Addr) (h : Heap) : List V → List Value → Prop
  | [], vs => vs = []
  | x :: xs, vs => ∃ v r, vs = v :: r ∧ Val φ h x v ∧ Vals φ h xs r
end

/-- objects that never change but in their slots -/
def Still (o : Obj) : Prop := (o.cls = .type "tuple" ∧ ∃ vs n, o.data = .seq vs n) ∨ (∃ C vs, o.cls = .ref C ∧ o.data = .fields vs) ∨ (o.cls = .type "range" ∧ ∃ vs, o.data = .fields vs)

mutual
theorem Val.mono {φ φ' : List Addr} {h h' : Heap} (hp : φ <+: φ')
    (hk : ∀ a o, h.get? a = some o → Still o → h'.get? a = some o) :
    ∀ (x : V) {v : Value}, Val φ h x v → Val φ' h' x v
  | .none, _, e => by simpa [Val] using e
  | .bool _, _, e => by simpa [Val] using e
  | .int _, _, e => by simpa [Val] using e
  | .str _, _, e => by simpa [Val] using e
  | .tup xs, v, e => by
    rw [Val] at e ⊢
    obtain ⟨a, vs, rfl, ⟨o, ho, hc, n, hd⟩, hv⟩ := e
    exact ⟨a, vs, rfl, ⟨o, hk a o ho (.inl ⟨hc, vs, n, hd⟩), hc, n, hd⟩, Vals.mono hp hk xs hv⟩
  | .ref k, _, e => by
    rw [Val] at e ⊢
    obtain ⟨a, rfl, ha⟩ := e
    refine ⟨a, rfl, ?_⟩
    obtain ⟨r, rfl⟩ := hp
    rw [List.getElem?_append_left (List.getElem?_eq_some_iff.mp ha).1]; exact ha
  | .raw _, _, e => by simpa [Val] using e
  | .exc C, _, e => by
    rw [Val] at e ⊢
    obtain ⟨a, o, vs, rfl, ho, hc, hd⟩ := e
    exact ⟨a, o, vs, rfl, hk a o ho (.inr (.inl ⟨C, vs, hc, hd⟩)), hc, hd⟩
  | .rng a b c, _, e => by
    rw [Val] at e ⊢
    obtain ⟨r, t, u, k, rfl, ho⟩ := e
    exact ⟨r, t, u, k, rfl, hk r _ ho (.inr (.inr ⟨rfl, _, rfl⟩))⟩
theorem Vals.mono {φ φ' : List Addr} {h h' : Heap} (hp : φ <+: φ')
    (hk : ∀ a o, h.get? a = some o → Still o → h'.get? a = some o) :
    ∀ (xs : List V) {vs : List Value}, Vals φ h xs vs → Vals φ' h' xs vs
  | [], _, e => by simpa [Vals] using e
  | x :: xs, _, e => by
    rw [Vals] at e ⊢
    obtain ⟨v, r, rfl, h1, h2⟩ := e
    exact ⟨v, r, rfl, Val.mono hp hk x h1, Vals.mono hp hk xs h2⟩
end

theorem Vals.length {φ : List Addr} {h : Heap} : ∀ {xs : List V} {vs : List Value}, Vals φ h xs vs → vs.length = xs.length
  | [], _, e => by rw [Vals] at e; subst e; rfl
  | _ :: _, _, e => by
    rw [Vals] at e
    obtain ⟨v, r, rfl, _, h2⟩ := e
    simp [Vals.length h2]

theorem Vals.nil {φ : List Addr} {h : Heap} : Vals φ h [] [] := by rw [Vals]
theorem Vals.cons {φ : List Addr} {h : Heap} {x : V} {xs : List V} {v : Value} {vs : List Value} (h1 : Val φ h x v) (h2 : Vals φ h xs vs) : Vals φ h (x :: xs) (v :: vs) := by
  rw [Vals]; exact ⟨v, vs, rfl, h1, h2⟩

theorem Vals.get {φ : List Addr} {h : Heap} : ∀ {xs : List V} {vs : List Value}, Vals φ h xs vs → ∀ {i : Nat} {x : V}, xs[i]? = some x → ∃ v, vs[i]? = some v ∧ Val φ h x v
  | [], _, _, i, x, hx => by simp at hx
  | y :: ys, _, e, i, x, hx => by
    rw [Vals] at e
    obtain ⟨v, r, rfl, h1, h2⟩ := e
    cases i with
    | zero => simp at hx; subst hx; exact ⟨v, rfl, h1⟩
    | succ i => simpa using Vals.get h2 (by simpa using hx)

theorem Vals.append {φ : List Addr} {h : Heap} : ∀ {xs ys : List V} {vs ws : List Value}, Vals φ h xs vs → Vals φ h ys ws → Vals φ h (xs ++ ys) (vs ++ ws)
  | [], _, _, _, e, f => by rw [Vals] at e; subst e; exact f
  | x :: xs, _, _, _, e, f => by
    rw [Vals] at e
    obtain ⟨v, r, rfl, h1, h2⟩ := e
    exact .cons h1 (Vals.append h2 f)

theorem Vals.split {φ : List Addr} {h : Heap} : ∀ {xs ys : List V} {vs : List Value}, Vals φ h (xs ++ ys) vs → ∃ a b, vs = a ++ b ∧ Vals φ h xs a ∧ Vals φ h ys b
  | [], _, vs, e => ⟨[], vs, rfl, .nil, e⟩
  | x :: xs, _, _, e => by
    rw [List.cons_append, Vals] at e
    obtain ⟨v, r, rfl, h1, h2⟩ := e
    obtain ⟨a, b, rfl, h3, h4⟩ := Vals.split h2
    exact ⟨v :: a, b, rfl, .cons h1 h3, h4⟩

section kk
variable (prog : Program) (w : World)

theorem eqBool_str_int {A : Around} {E : Value → Shared → Prop} {s : Shared} {x : Str} {n : Int} {t u : Tok} {Q : Bool → Shared → Prop} (h : Q false s) :
    wpAny (model prog w) A (PySem.eqBool (.str x t) (.int n u)) Q E s := by
  unfold PySem.eqBool
  refine wpAny_holding ?_
  rw [if_neg (show ¬ ((Value.str x t == Value.int n u) = true) from Bool.false_ne_true)]
  show wpAny _ _ (richCompare .Eq _ _ >>= fun r => truthOfDropped r) Q E s
  exact wpAny_bind (show wpAny _ _ (compareOp .Eq _ _) _ _ _ from EqMixed.eq_str_int (wpAny_truthy_bool h))
theorem eqBool_int_str {A : Around} {E : Value → Shared → Prop} {s : Shared} {x : Str} {n : Int} {t u : Tok} {Q : Bool → Shared → Prop} (h : Q false s) :
    wpAny (model prog w) A (PySem.eqBool (.int n u) (.str x t)) Q E s := by
  unfold PySem.eqBool
  refine wpAny_holding ?_
  rw [if_neg (show ¬ ((Value.int n u == Value.str x t) = true) from Bool.false_ne_true)]
  show wpAny _ _ (richCompare .Eq _ _ >>= fun r => truthOfDropped r) Q E s
  exact wpAny_bind (show wpAny _ _ (compareOp .Eq _ _) _ _ _ from EqMixed.eq_int_str (wpAny_truthy_bool h))

def Key.is : Key → Value → Bool
  | .s x, v => Value.isStrOf x v
  | .i n, v => Value.isInt n v
def Key.hash (w : World) : Key → Int
  | .s x => hashStr w x
  | .i n => hashInt n
theorem Key.is_shape {k : Key} {v : Value} (h : k.is v = true) : (∃ x t, k = .s x ∧ v = .str x t) ∨ ∃ n t, k = .i n ∧ v = .int n t := by
  cases k with
  | s x => obtain ⟨t, rfl⟩ := Value.isStrOf_shape h; exact .inl ⟨x, t, rfl, rfl⟩
  | i n => obtain ⟨t, rfl⟩ := Value.isInt_shape h; exact .inr ⟨n, t, rfl, rfl⟩

def kk : KeyKind prog w Key where
  is := Key.is
  hash := Key.hash w
  inj := fun v a b ha hb => by
    rcases Key.is_shape ha with ⟨x, t, rfl, rfl⟩ | ⟨x, t, rfl, rfl⟩ <;> rcases Key.is_shape hb with ⟨y, u, rfl, e⟩ | ⟨y, u, rfl, e⟩ <;> cases e <;> rfl
  byValue := fun k v h => by rcases Key.is_shape h with ⟨x, t, rfl, rfl⟩ | ⟨x, t, rfl, rfl⟩ <;> rfl
  pyHash := fun hv h => by
    rcases Key.is_shape hv with ⟨x, t, rfl, rfl⟩ | ⟨x, t, rfl, rfl⟩
    · exact wpAny_pyHash_str h
    · exact wpAny_pyHash_int h
  eqBool := fun {A E s a b u v Q} hu hv h => by
    rcases Key.is_shape hu with ⟨x, t, rfl, rfl⟩ | ⟨x, t, rfl, rfl⟩ <;> rcases Key.is_shape hv with ⟨y, u, rfl, rfl⟩ | ⟨y, u, rfl, rfl⟩
    · refine wpAny_eqBool_str ?_
      have : decide (Key.s x = Key.s y) = decide (x = y) := by simp
      rwa [this] at h
    · refine eqBool_str_int prog w ?_
      simpa using h
    · refine eqBool_int_str prog w ?_
      simpa using h
    · refine wpAny_eqBool_int ?_
      have : decide (Key.i x = Key.i y) = (x == y) := by simp; rfl
      rwa [this] at h
  «strs» := fun k x t v h => by
    rcases Key.is_shape h with ⟨y, u, rfl, e⟩ | ⟨y, u, rfl, e⟩
    · cases e; cases v <;> rfl
    · cases e
end kk

def Key.v : Key → V
  | .s x => .str x
  | .i n => .int n

/-- the entries of a dict -/
inductive Ents (φ : List Addr) (h : Heap) : List (Key × V) → List (Key × Value) → Prop
  | nil : Ents φ h [] []
  | cons {k : Key} {x : V} {v : Value} {es : List (Key × V)} {kvs : List (Key × Value)} : Val φ h x v → Ents φ h es kvs → Ents φ h ((k, x) :: es) ((k, v) :: kvs)

theorem Ents.mono {φ φ' : List Addr} {h h' : Heap} (hp : φ <+: φ')
    (hk : ∀ a o, h.get? a = some o → Still o → h'.get? a = some o) {es : List (Key × V)} {kvs : List (Key × Value)} (e : Ents φ h es kvs) : Ents φ' h' es kvs := by
  induction e with
  | nil => exact .nil
  | cons h1 _ ih => exact .cons (Val.mono hp hk _ h1) ih
theorem Ents.keys {φ : List Addr} {h : Heap} {es : List (Key × V)} {kvs : List (Key × Value)} (e : Ents φ h es kvs) : kvs.map (·.1) = es.map (·.1) := by
  induction e with
  | nil => rfl
  | cons _ _ ih => simp [ih]
theorem Ents.length {φ : List Addr} {h : Heap} {es : List (Key × V)} {kvs : List (Key × Value)} (e : Ents φ h es kvs) : kvs.length = es.length := by
  induction e with
  | nil => rfl
  | cons _ _ ih => simp [ih]

/-- what a dict says of a key -/
def at? (es : List (Key × V)) (k : Key) : Option V := (es.find? fun e => e.1 = k).map (·.2)
/-- a dict with a key put -/
def put (es : List (Key × V)) (k : Key) (x : V) : List (Key × V) :=
  if es.any (fun e => e.1 = k) then es.map (fun e => if e.1 = k then (e.1, x) else e) else es ++ [(k, x)]

theorem Ents.at? {φ : List Addr} {h : Heap} {es : List (Key × V)} {kvs : List (Key × Value)} (e : Ents φ h es kvs) (k : Key) :
    (∃ x v, at? es k = some x ∧ valueAt kvs k = some v ∧ Val φ h x v) ∨ (at? es k = none ∧ valueAt kvs k = none) := by
  induction e with
  | nil => exact .inr ⟨rfl, rfl⟩
  | @cons k' x v es kvs h1 _ ih =>
    by_cases hk : k' = k
    · subst hk; exact .inl ⟨x, v, by simp [Mine.at?], by simp [valueAt], h1⟩
    · simpa [Mine.at?, valueAt, hk] using ih
theorem Ents.append {φ : List Addr} {h : Heap} {es es' : List (Key × V)} {kvs kvs' : List (Key × Value)} (e : Ents φ h es kvs) (e' : Ents φ h es' kvs') : Ents φ h (es ++ es') (kvs ++ kvs') := by
  induction e with
  | nil => exact e'
  | cons h1 _ ih => exact .cons h1 ih
theorem Ents.any {φ : List Addr} {h : Heap} {es : List (Key × V)} {kvs : List (Key × Value)} (e : Ents φ h es kvs) (k : Key) : (kvs.any fun e => e.1 = k) = es.any fun e => e.1 = k := by
  induction e with
  | nil => rfl
  | cons _ _ ih => simp only [List.any_cons, ih]
theorem Ents.put {φ : List Addr} {h : Heap} {es : List (Key × V)} {kvs : List (Key × Value)} (e : Ents φ h es kvs) (k : Key) {x : V} {v : Value} (hx : Val φ h x v) : Ents φ h (put es k x) (stored kvs k v) := by
  unfold Mine.put stored
  rw [e.any k]
  split
  · rename_i hany; clear hany
    induction e with
    | nil => exact .nil
    | @cons k' x' v' es kvs h1 _ ih =>
      simp only [List.map_cons]
      by_cases hk : k' = k
      · simp only [hk, if_true]; exact .cons hx ih
      · simp only [hk, if_false]; exact .cons h1 ih
  · exact e.append (.cons hx .nil)

section st
variable (prog : Program) (w : World)

/-- how an abstract object lies -/
def ObjR (φ : List Addr) (h : Heap) (a : Addr) : AObj → Prop
  | .list xs => ∃ vs n, h.get? a = some { cls := .type "list", data := .seq vs n } ∧ Vals φ h xs vs.toList
  | .dict es e => ∃ kvs ep, h.DictAt (kk prog w) a kvs ep ∧ Ents φ h es kvs ∧ ∀ n, e = some n → ep = n
  | .inst C k => ∃ d, h.get? a = some { cls := .ref C, dict := some d, data := .plain } ∧ φ[k]? = some d
  | .ns as => ∃ es n, h.get? a = some { cls := .type "dict", data := .dict es n } ∧ StrKeys es ∧ es.size ≤ as.length ∧
      ∀ x, match as.lookup x with
        | some v => ∃ val, nsFind es x = some val ∧ Val φ h v val
        | none => nsFind es x = none

/-- the state: what the call has made (at φ) is σ; the base stands -/
structure St (B : Shared) (φ : List Addr) (σ : List AObj) (s : Shared) : Prop where
  base : ∀ b o, B.heap.get? b = some o → s.heap.get? b = some o
  new : ∀ a ∈ φ, B.heap.get? a = none
  nodup : φ.Nodup
  len : φ.length = σ.length
  objs : ∀ (k : Nat) (a : Addr) (ob : AObj), φ[k]? = some a → σ[k]? = some ob → ObjR prog w φ s.heap a ob
  gens : s.gens = B.gens
  os : s.os = B.os
  sys : (∃ o, B.heap.get? cStatics = some o) ∧ sysModules ∉ φ

/-- the same object, but for a frame's slots -/
def Sim (o o' : Obj) : Prop := o' = o ∨ (o.cls = .type "frame" ∧ o'.cls = o.cls ∧ o'.dict = o.dict ∧ o'.data = o.data)
theorem Sim.refl (o : Obj) : Sim o o := .inl rfl
theorem Sim.cls {o o' : Obj} (h : Sim o o') : o'.cls = o.cls := h.elim (fun e => by rw [e]) fun h => h.2.1
theorem Sim.dict {o o' : Obj} (h : Sim o o') : o'.dict = o.dict := h.elim (fun e => by rw [e]) fun h => h.2.2.1
theorem Sim.data {o o' : Obj} (h : Sim o o') : o'.data = o.data := h.elim (fun e => by rw [e]) fun h => h.2.2.2
theorem Sim.trans {a b c : Obj} (h : Sim a b) (g : Sim b c) : Sim a c := by
  rcases h with rfl | h
  · exact g
  · exact .inr ⟨h.1, g.cls.trans h.2.1, g.dict.trans h.2.2.1, g.data.trans h.2.2.2⟩
theorem Sim.same {o o' : Obj} (h : Sim o o') (hc : o.cls ≠ .type "frame") : o' = o := by
  rcases h with h | h
  · exact h
  · exact absurd h.1 hc

/-- from one state to a later one; D: what else may change -/
structure Step (D φ : List Addr) (h : Heap) (φ' : List Addr) (h' : Heap) : Prop where
  pre : φ <+: φ'
  fresh : ∀ a ∈ φ', a ∈ φ ∨ h.get? a = none
  keep : ∀ b o, h.get? b = some o → b ∉ φ → b ∉ D → ∃ o', h'.get? b = some o' ∧ Sim o o'

theorem Step.refl (D φ : List Addr) (h : Heap) : Step D φ h φ h := ⟨List.prefix_refl _, fun _ ha => .inl ha, fun _ o e _ _ => ⟨o, e, .refl o⟩⟩
theorem Step.mono {D D' φ φ' : List Addr} {h h' : Heap} (s : Step D φ h φ' h') (hd : ∀ a ∈ D, a ∈ D') : Step D' φ h φ' h' :=
  ⟨s.pre, s.fresh, fun b o e h1 h2 => s.keep b o e h1 fun hb => h2 (hd b hb)⟩
theorem Step.nilD {D φ φ' : List Addr} {h h' : Heap} (s : Step [] φ h φ' h') : Step D φ h φ' h' := s.mono fun _ h => nomatch h
theorem Step.trans {D φ φ₁ φ₂ : List Addr} {h h₁ h₂ : Heap} (s : Step D φ h φ₁ h₁) (t : Step D φ₁ h₁ φ₂ h₂) (hD : ∀ a ∈ D, a ∉ φ₁ ∧ a ∉ φ₂ ∨ h.get? a = none) : Step D φ h φ₂ h₂ := by
  refine ⟨s.pre.trans t.pre, fun a ha => ?_, fun b o e h1 h2 => ?_⟩
  · rcases t.fresh a ha with h3 | h3
    · exact s.fresh a h3
    · by_cases h4 : a ∈ φ
      · exact .inl h4
      · cases e : h.get? a with
        | none => exact .inr rfl
        | some o =>
          by_cases h5 : a ∈ D
          · rcases hD a h5 with h6 | h6
            · exact absurd ha h6.2
            · rw [h6] at e; cases e
          · obtain ⟨o', h6, _⟩ := s.keep a o e h4 h5
            rw [h6] at h3; cases h3
  · obtain ⟨o₁, e₁, a1⟩ := s.keep b o e h1 h2
    have h3 : b ∉ φ₁ := fun hb => by
      rcases s.fresh b hb with h4 | h4
      · exact h1 h4
      · rw [h4] at e; cases e
    obtain ⟨o₂, e₂, b1⟩ := t.keep b o₁ e₁ h3 h2
    exact ⟨o₂, e₂, a1.trans b1⟩
theorem Step.trans0 {φ φ₁ φ₂ : List Addr} {h h₁ h₂ : Heap} (s : Step [] φ h φ₁ h₁) (t : Step [] φ₁ h₁ φ₂ h₂) : Step [] φ h φ₂ h₂ := s.trans t fun _ h => nomatch h

theorem Step.of_keeps {φ : List Addr} {h h' : Heap} (hk : ∀ b o, h.get? b = some o → h'.get? b = some o) : Step [] φ h φ h' :=
  ⟨List.prefix_refl _, fun _ ha => .inl ha, fun b o e _ _ => ⟨o, hk b o e, .refl o⟩⟩

variable {prog w}
variable {B : Shared} {φ φ' : List Addr} {σ σ' : List AObj} {s : Shared}

theorem notStill_dict {o : Obj} {es : Array DictEntry} {n : Nat} (h : o.data = .dict es n) : ¬ Still o := by
  rintro (⟨_, vs, m, h'⟩ | ⟨_, vs, _, h'⟩ | ⟨_, vs, h'⟩) <;> rw [h] at h' <;> cases h'
theorem notStill_cell {o : Obj} {v : Option Value} (h : o.data = .cell v) : ¬ Still o := by
  rintro (⟨_, vs, m, h'⟩ | ⟨_, vs, _, h'⟩ | ⟨_, vs, h'⟩) <;> rw [h] at h' <;> cases h'
theorem notStill_type {o : Obj} {T : String} (h : o.cls = .type T) (h1 : T ≠ "tuple") (h2 : T ≠ "range") : ¬ Still o := by
  rintro (⟨h', _⟩ | ⟨C, vs, h', _⟩ | ⟨h', _⟩)
  · rw [h] at h'; exact h1 (by injection h')
  · rw [h] at h'; cases h'
  · rw [h] at h'; exact h2 (by injection h')
theorem ObjR.notStill {h : Heap} {a : Addr} {o : Obj} {ob : AObj} (r : ObjR prog w φ h a ob) (ho : h.get? a = some o) : ¬ Still o := by
  cases ob with
  | list xs =>
    obtain ⟨vs, n, e, _⟩ := r
    rw [e] at ho; cases ho
    exact notStill_type rfl (by decide) (by decide)
  | dict es e =>
    obtain ⟨kvs, ep, ⟨o', es', e, hx, hd, _⟩, _⟩ := r
    rw [e] at ho; cases ho
    exact notStill_type hx.1 (by decide) (by decide)
  | inst C k =>
    obtain ⟨d, e, _⟩ := r
    rw [e] at ho; cases ho
    rintro (⟨h, _⟩ | ⟨C, vs, _, h⟩ | ⟨h, _⟩) <;> cases h
  | ns as =>
    obtain ⟨es, n, e, _⟩ := r
    rw [e] at ho; cases ho
    exact notStill_type rfl (by decide) (by decide)

theorem St.notStill (G : St prog w B φ σ s) {a : Addr} {o : Obj} (ha : a ∈ φ) (ho : s.heap.get? a = some o) : ¬ Still o := by
  obtain ⟨k, hk, rfl⟩ := List.mem_iff_getElem.mp ha
  have hk' : k < σ.length := G.len ▸ hk
  exact (G.objs k _ σ[k] (List.getElem?_eq_getElem hk) (List.getElem?_eq_getElem hk')).notStill ho

/-- what stands still stays through a step, if the changed frames are no still objects -/
theorem Step.still {D : List Addr} {h' : Heap} (G : St prog w B φ σ s) (t : Step D φ s.heap φ' h') (hD : ∀ a ∈ D, ∀ o, s.heap.get? a = some o → ¬ Still o) :
    ∀ a o, s.heap.get? a = some o → Still o → h'.get? a = some o := fun a o e hs => by
  obtain ⟨o', h1, h2⟩ := t.keep a o e (fun ha => G.notStill ha e hs) fun ha => hD a ha o e hs
  obtain rfl := h2.same fun hc => by
    rcases hs with ⟨h, _⟩ | ⟨C, vs, h, _⟩ | ⟨h, _⟩ <;> rw [h] at hc
    · exact absurd hc (by simp)
    · cases hc
    · exact absurd hc (by simp)
  exact h1
theorem Val.step {h' : Heap} {x : V} {v : Value} (hv : Val φ s.heap x v) (G : St prog w B φ σ s) (t : Step [] φ s.heap φ' h') : Val φ' h' x v :=
  Val.mono t.pre (t.still G fun _ h => nomatch h) x hv
theorem Vals.step {h' : Heap} {xs : List V} {vs : List Value} (hv : Vals φ s.heap xs vs) (G : St prog w B φ σ s) (t : Step [] φ s.heap φ' h') : Vals φ' h' xs vs :=
  Vals.mono t.pre (t.still G fun _ h => nomatch h) xs hv

/-- an object of the abstract heap through a change elsewhere -/
theorem ObjR.mono {h h' : Heap} {a : Addr} {ob : AObj} (r : ObjR prog w φ h a ob) (hp : φ <+: φ')
    (hk : ∀ a o, h.get? a = some o → Still o → h'.get? a = some o) (ha : ∀ o, h.get? a = some o → h'.get? a = some o) : ObjR prog w φ' h' a ob := by
  have hidx : ∀ {k d : Nat}, φ[k]? = some d → φ'[k]? = some d := fun {k d} e => by
    obtain ⟨r, rfl⟩ := hp
    rw [List.getElem?_append_left (List.getElem?_eq_some_iff.mp e).1]; exact e
  cases ob with
  | list xs => obtain ⟨vs, n, e, hv⟩ := r; exact ⟨vs, n, ha _ e, Vals.mono hp hk xs hv⟩
  | dict es e =>
    obtain ⟨kvs, ep, ⟨o, es', e, r⟩, hv, hn⟩ := r
    exact ⟨kvs, ep, ⟨o, es', ha _ e, r⟩, hv.mono hp hk, hn⟩
  | inst C k => obtain ⟨d, e, hd⟩ := r; exact ⟨d, ha _ e, hidx hd⟩
  | ns as =>
    obtain ⟨es, n, e, h1, h2, h3⟩ := r
    refine ⟨es, n, ha _ e, h1, h2, fun x => ?_⟩
    have := h3 x
    cases hx : as.lookup x with
    | none => rw [hx] at this; exact this
    | some v => rw [hx] at this; obtain ⟨val, e1, e2⟩ := this; exact ⟨val, e1, Val.mono hp hk v e2⟩

/-- a state through a change that keeps all -/
theorem St.keeps {s' : Shared} (G : St prog w B φ σ s) (hk : ∀ b o, s.heap.get? b = some o → s'.heap.get? b = some o) (hg : s'.gens = s.gens := by rfl) (ho : s'.os = s.os := by rfl) : St prog w B φ σ s' :=
  ⟨fun b o e => hk b o (G.base b o e), G.new, G.nodup, G.len, fun k a ob h1 h2 => (G.objs k a ob h1 h2).mono (List.prefix_refl _) (fun a o e _ => hk a o e) fun o e => hk a o e, hg.trans G.gens, ho.trans G.os, G.sys⟩
/-- a state through a change of one object that is not the call's and not still -/
theorem St.sameBut {s' : Shared} {c : Addr} (G : St prog w B φ σ s) (hs : Heap.SameBut c s.heap s'.heap) (hc : c ∉ φ) (hb : B.heap.get? c = none) (hn : ∀ o, s.heap.get? c = some o → ¬ Still o)
    (hg : s'.gens = s.gens := by rfl) (ho : s'.os = s.os := by rfl) : St prog w B φ σ s' := by
  refine ⟨fun b o e => hs.extBut b o (fun h => by rw [h, hb] at e; cases e) (G.base b o e), G.new, G.nodup, G.len, fun k a ob h1 h2 => ?_, hg.trans G.gens, ho.trans G.os, G.sys⟩
  refine (G.objs k a ob h1 h2).mono (List.prefix_refl _) (fun a o e hst => hs.extBut a o (fun h => hn o (h ▸ e) hst) e) fun o e => hs.extBut a o (fun h => hc (h ▸ List.mem_of_getElem? h1)) e
theorem Val.sameBut {h h' : Heap} {c : Addr} {x : V} {v : Value} (hv : Val φ h x v) (hs : Heap.SameBut c h h') (hn : ∀ o, h.get? c = some o → ¬ Still o) : Val φ h' x v :=
  Val.mono (List.prefix_refl _) (fun a o e hst => hs.extBut a o (fun h => hn o (h ▸ e) hst) e) x hv

theorem St.sub (G : St prog w B φ σ s) {b : Addr} {o : Obj} (hb : B.heap.get? b = some o) : b ∉ φ := fun h => by rw [G.new b h] at hb; cases hb
theorem St.fresh (G : St prog w B φ σ s) : s.heap.objs.size ∉ φ := fun h => by
  obtain ⟨k, hk, e⟩ := List.mem_iff_getElem.mp h
  have hk' : k < σ.length := G.len ▸ hk
  have r := G.objs k _ σ[k] (List.getElem?_eq_getElem hk) (List.getElem?_eq_getElem hk')
  have : ∃ o, s.heap.get? φ[k] = some o := by
    cases hob : σ[k] with
    | list xs => rw [hob] at r; obtain ⟨vs, n, e, _⟩ := r; exact ⟨_, e⟩
    | dict es e => rw [hob] at r; obtain ⟨kvs, ep, ⟨o, es', e, _⟩, _⟩ := r; exact ⟨_, e⟩
    | inst C k => rw [hob] at r; obtain ⟨d, e, _⟩ := r; exact ⟨_, e⟩
    | ns as => rw [hob] at r; obtain ⟨es, n, e, _⟩ := r; exact ⟨_, e⟩
  obtain ⟨o, ho⟩ := this
  rw [e] at ho
  exact absurd (Heap.lt_size ho) (Nat.lt_irrefl _)
theorem get?_size (h : Heap) : h.get? h.objs.size = none := by
  cases e : h.get? h.objs.size with
  | none => rfl
  | some o => exact absurd (Heap.lt_size e) (Nat.lt_irrefl _)
theorem get?_of_ge {h : Heap} {a : Addr} (ha : h.objs.size ≤ a) : h.get? a = none := by
  cases e : h.get? a with
  | none => rfl
  | some o => exact absurd (Heap.lt_size e) (Nat.not_lt.mpr ha)
theorem St.baseSize (G : St prog w B φ σ s) {a : Addr} (ha : s.heap.get? a = none) : B.heap.get? a = none := by
  cases e : B.heap.get? a with
  | none => rfl
  | some o => rw [G.base a o e] at ha; cases ha

theorem St.sizeNe (G : St prog w B φ σ s) : s.heap.objs.size ≠ sysModules := fun e => by
  obtain ⟨⟨o, ho⟩, _⟩ := G.sys
  have := Heap.lt_size (G.base _ _ ho)
  rw [e] at this
  exact absurd this (by decide)

/-- a new object onto the heap -/
theorem St.alloc {s' : Shared} {ob : AObj} {c : Addr} (G : St prog w B φ σ s) (hc : s.heap.get? c = none) (hk : ∀ b o, s.heap.get? b = some o → s'.heap.get? b = some o) (r : ObjR prog w (φ ++ [c]) s'.heap c ob)
    (hcφ : c ∉ φ) (hcs : c ≠ sysModules) (hg : s'.gens = s.gens := by rfl) (ho : s'.os = s.os := by rfl) : St prog w B (φ ++ [c]) (σ ++ [ob]) s' := by
  refine ⟨fun b o e => hk b o (G.base b o e), fun a ha => ?_, ?_, by simp [G.len], fun k a ob' h1 h2 => ?_, hg.trans G.gens, ho.trans G.os, G.sys.1, fun h => (List.mem_append.mp h).elim G.sys.2 fun h => hcs (List.mem_singleton.mp h).symm⟩
  · rcases List.mem_append.mp ha with h | h
    · exact G.new a h
    · obtain rfl := List.mem_singleton.mp h; exact G.baseSize hc
  · exact List.nodup_append.mpr ⟨G.nodup, by simp, fun a ha b hb e => hcφ (by obtain rfl := List.mem_singleton.mp hb; exact e ▸ ha)⟩
  · by_cases hlt : k < φ.length
    · rw [List.getElem?_append_left hlt] at h1
      rw [List.getElem?_append_left (G.len ▸ hlt)] at h2
      exact (G.objs k a ob' h1 h2).mono (List.prefix_append _ _) (fun a o e _ => hk a o e) fun o e => hk a o e
    · have h3 : k = φ.length := by
        have := (List.getElem?_eq_some_iff.mp h1).1
        simp at this; omega
      subst h3
      rw [List.getElem?_append_right (Nat.le_refl _)] at h1
      rw [G.len, List.getElem?_append_right (Nat.le_refl _)] at h2
      simp at h1 h2
      subst h1 h2
      exact r
theorem Step.alloc {s' : Shared} {c : Addr} {D : List Addr} (hc : s.heap.get? c = none) (hk : ∀ b o, s.heap.get? b = some o → s'.heap.get? b = some o) : Step D φ s.heap (φ ++ [c]) s'.heap :=
  ⟨List.prefix_append _ _, fun a ha => (List.mem_append.mp ha).imp id fun h => by obtain rfl := List.mem_singleton.mp h; exact hc, fun b o e _ _ => ⟨o, hk b o e, .refl o⟩⟩

/-- an object of the call's changed -/
theorem St.update {s' : Shared} {k : Nat} {c : Addr} {ob : AObj} (G : St prog w B φ σ s) (hc : φ[k]? = some c) (hs : Heap.SameBut c s.heap s'.heap) (r : ObjR prog w φ s'.heap c ob)
    (hg : s'.gens = s.gens := by rfl) (ho : s'.os = s.os := by rfl) : St prog w B φ (σ.set k ob) s' := by
  have hcm := List.mem_of_getElem? hc
  refine ⟨fun b o e => hs.extBut b o (fun h => G.sub e (h ▸ hcm)) (G.base b o e), G.new, G.nodup, by simp [G.len], fun j a ob' h1 h2 => ?_, hg.trans G.gens, ho.trans G.os, G.sys⟩
  by_cases hj : j = k
  · subst hj
    rw [hc] at h1; cases h1
    have hlt : j < σ.length := G.len ▸ (List.getElem?_eq_some_iff.mp hc).1
    rw [List.getElem?_set_self hlt] at h2; cases h2
    exact r
  · rw [List.getElem?_set_ne (Ne.symm hj)] at h2
    refine (G.objs j a ob' h1 h2).mono (List.prefix_refl _) (fun a o e hst => hs.extBut a o (fun h => ?_) e) fun o e => hs.extBut a o (fun h => hj ?_) e
    · exact G.notStill (h ▸ hcm) e hst
    · subst h
      have e1 := List.getElem?_eq_some_iff.mp h1
      have e2 := List.getElem?_eq_some_iff.mp hc
      obtain ⟨l1, e1⟩ := e1
      obtain ⟨l2, e2⟩ := e2
      exact (List.getElem_inj G.nodup).mp (e1.trans e2.symm)
theorem Step.update {D : List Addr} {h h' : Heap} {c : Addr} (hs : Heap.SameBut c h h') (hc : c ∈ φ) : Step D φ h φ h' :=
  ⟨List.prefix_refl _, fun _ ha => .inl ha, fun b o e hb _ => ⟨o, hs.extBut b o (fun h => hb (h ▸ hc)) e, .refl o⟩⟩
end st

end Mine

set_option autoImplicit false
set_option linter.unusedVariables false
namespace Mine
open PySem PySem.Calls PyProof.Rows

/-- a name of the frame has this value -/
def Bnd (env : Env) (h : Heap) (x : Str) (val : Value) : Prop :=
  (env.kindOf x = some .local ∧ ∃ m, h.Ns env.locals m ∧ m x = some val) ∨
  ((env.kindOf x = some .cell ∨ env.kindOf x = some .free) ∧ ∃ c, env.cells.lookup x = some c ∧ h.IsCell c (some val))

/-- what a frame's own statements may change beside the call's objects -/
def fr (env : Env) : List Addr := env.locals :: env.cells.map (·.2)

structure Loc (B : Shared) (env : Env) (ρ : List (Str × V)) (φ : List Addr) (h : Heap) : Prop where
  kind : env.scope.kind = .function
  glob : env.globals = mainGlobals
  blt : env.builtins = builtinsNs
  ns : ∃ m, h.Ns env.locals m
  own : ∀ a ∈ fr env, a ∉ φ ∧ B.heap.get? a = none
  cells : ∀ x c, (x, c) ∈ env.cells → ∃ v, h.IsCell c v
  apart : env.cells.Pairwise fun x y => x.2 ≠ y.2
  val : ∀ x v, ρ.lookup x = some v → ∃ val, Bnd env h x val ∧ Val φ h v val

section
variable {prog : Program} {w : World} {B : Shared} {φ φ' : List Addr} {σ σ' : List AObj} {s s' : Shared} {env : Env} {ρ ρ' : List (Str × V)}

theorem Ns.upTo {h h' : Heap} {a : Addr} {m : Str → Option Value} (n : h.Ns a m) (hk : ∀ o, h.get? a = some o → ∃ o', h'.get? a = some o' ∧ Sim o o') : h'.Ns a m := by
  obtain ⟨o, es, ep, e, hd, r⟩ := n
  obtain ⟨o', e', hs⟩ := hk o e
  exact ⟨o', es, ep, e', hs.data.trans hd, r⟩
theorem IsCell.upTo {h h' : Heap} {a : Addr} {v : Option Value} (n : h.IsCell a v) (hk : ∀ o, h.get? a = some o → ∃ o', h'.get? a = some o' ∧ Sim o o') : h'.IsCell a v := by
  obtain ⟨o, e, hd⟩ := n
  obtain ⟨o', e', hs⟩ := hk o e
  exact ⟨o', e', hs.data.trans hd⟩
theorem mem_fr_cell {x : Str} {c : Addr} (h : (x, c) ∈ env.cells) : c ∈ fr env := List.mem_cons_of_mem _ (List.mem_map.mpr ⟨(x, c), h, rfl⟩)
theorem lookup_mem' {α : Type} {l : List (Str × α)} {n : Str} {c : α} (h : l.lookup n = some c) : (n, c) ∈ l := mem_of_lookup h

/-- the frame's own objects lie in the heap -/
theorem Loc.there {h : Heap} (L : Loc B env ρ φ h) {a : Addr} (ha : a ∈ fr env) : ∃ o, h.get? a = some o ∧ ¬ Still o := by
  rcases List.mem_cons.mp ha with rfl | ha
  · obtain ⟨m, o, es, ep, e, hd, _⟩ := L.ns
    exact ⟨o, e, notStill_dict hd⟩
  · obtain ⟨⟨x, c⟩, hm, rfl⟩ := List.mem_map.mp ha
    obtain ⟨v, o, e, hd⟩ := L.cells x c hm
    exact ⟨o, e, notStill_cell hd⟩

theorem Loc.step {h' : Heap} (L : Loc B env ρ φ s.heap) (G : St prog w B φ σ s) (t : Step [] φ s.heap φ' h') : Loc B env ρ φ' h' := by
  have hk : ∀ a ∈ fr env, ∀ o, s.heap.get? a = some o → ∃ o', h'.get? a = some o' ∧ Sim o o' := fun a ha o e => t.keep a o e (L.own a ha).1 (fun h => nomatch h)
  refine ⟨L.kind, L.glob, L.blt, ?_, fun a ha => ⟨fun h => ?_, (L.own a ha).2⟩, fun x c hm => ?_, L.apart, fun x v hx => ?_⟩
  · obtain ⟨m, n⟩ := L.ns; exact ⟨m, Ns.upTo n (hk _ (.head _))⟩
  · rcases t.fresh a h with h1 | h1
    · exact (L.own a ha).1 h1
    · obtain ⟨o, e, _⟩ := L.there ha; rw [e] at h1; cases h1
  · obtain ⟨v, n⟩ := L.cells x c hm; exact ⟨v, IsCell.upTo n (hk _ (mem_fr_cell hm))⟩
  · obtain ⟨val, hb, hv⟩ := L.val x v hx
    refine ⟨val, ?_, hv.step G t⟩
    rcases hb with ⟨k, m, n, e⟩ | ⟨k, c, e, n⟩
    · exact .inl ⟨k, m, Ns.upTo n (hk _ (.head _)), e⟩
    · exact .inr ⟨k, c, e, IsCell.upTo n (hk _ (mem_fr_cell (mem_of_lookup e)))⟩
theorem Loc.weaken {h : Heap} (L : Loc B env ρ φ h) (hs : ∀ x v, ρ'.lookup x = some v → ρ.lookup x = some v) : Loc B env ρ' φ h :=
  ⟨L.kind, L.glob, L.blt, L.ns, L.own, L.cells, L.apart, fun x v hx => L.val x v (hs x v hx)⟩

theorem fr_notStill {h : Heap} (L : Loc B env ρ φ h) : ∀ a ∈ fr env, ∀ o, h.get? a = some o → ¬ Still o := fun a ha o e => by
  obtain ⟨o', e', hs⟩ := L.there ha
  rw [e'] at e; cases e; exact hs
end

abbrev XT := Value → List Addr → List AObj → Shared → Prop

section
variable (prog : Program) (w : World) (B : Shared)
def Post {α : Type} (D φ : List Addr) (s : Shared) (Q : α → List Addr → List AObj → Shared → Prop) : α → Shared → Prop :=
  fun a s' => ∃ φ' σ', Step D φ s.heap φ' s'.heap ∧ St prog w B φ' σ' s' ∧ Q a φ' σ' s'
def vQ (Q : V → List AObj → Prop) : Value → List Addr → List AObj → Shared → Prop := fun v φ' σ' s' => ∃ x, Val φ' s'.heap x v ∧ Q x σ'
def bQ {α : Type} (Q : α → List AObj → Prop) : α → List Addr → List AObj → Shared → Prop := fun b _ σ' _ => Q b σ'

/-- a computation from a state -/
def W {α : Type} (A : Around) (t : Sem α) (φ : List Addr) (s : Shared) (Q : α → List Addr → List AObj → Shared → Prop) (X : XT) : Prop :=
  wpAny (model prog w) A t (Post prog w B [] φ s Q) (Post prog w B [] φ s X) s
/-- an expression -/
def WE (A : Around) (env : Env) (e : Expr) (ρ : List (Str × V)) (σ : List AObj) (Q : V → List AObj → Prop) (X : XT) : Prop :=
  ∀ φ s, St prog w B φ σ s → Loc B env ρ φ s.heap → W prog w B A (eval e env) φ s (vQ Q) X
/-- a test -/
def WT (A : Around) (env : Env) (e : Expr) (ρ : List (Str × V)) (σ : List AObj) (Q : Bool → List AObj → Prop) (X : XT) : Prop :=
  ∀ φ s, St prog w B φ σ s → Loc B env ρ φ s.heap → W prog w B A (isTrue e env (eval e env)) φ s (bQ Q) X
/-- a row of expressions -/
def WEs (A : Around) (env : Env) (es : List Expr) (ρ : List (Str × V)) (σ : List AObj) (Q : List V → List AObj → Prop) (X : XT) : Prop :=
  ∀ pos φ s, St prog w B φ σ s → Loc B env ρ φ s.heap → W prog w B A (spliced (backTo pos (starEach es env))) φ s (fun vs φ' σ' s' => ∃ xs, Vals φ' s'.heap xs vs ∧ Q xs σ') X
def W1 {α : Type} (A : Around) (t : Value → Sem α) (x : V) (σ : List AObj) (Q : α → List Addr → List AObj → Shared → Prop) (X : XT) : Prop :=
  ∀ φ s v, St prog w B φ σ s → Val φ s.heap x v → W prog w B A (t v) φ s Q X
def W2 (A : Around) (t : Value → Value → Sem Value) (x y : V) (σ : List AObj) (Q : V → List AObj → Prop) (X : XT) : Prop :=
  ∀ φ s v u, St prog w B φ σ s → Val φ s.heap x v → Val φ s.heap y u → W prog w B A (t v u) φ s (vQ Q) X
/-- a call -/
def WC (A : Around) (f : Value) (xs : List V) (σ : List AObj) (Q : V → List AObj → Prop) (X : XT) : Prop :=
  ∀ φ s vs, St prog w B φ σ s → Vals φ s.heap xs vs → W prog w B A (call f vs) φ s (vQ Q) X
end

section
variable {prog : Program} {w : World} {B : Shared} {φ φ₁ : List Addr} {σ : List AObj} {s s₁ : Shared} {env : Env} {ρ : List (Str × V)} {A : Around} {X : XT}

theorem Post.trans {α : Type} {Q : α → List Addr → List AObj → Shared → Prop} {a : α} {s' : Shared} (t : Step [] φ s.heap φ₁ s₁.heap) (h : Post prog w B [] φ₁ s₁ Q a s') : Post prog w B [] φ s Q a s' := by
  obtain ⟨φ', σ', t', G', q⟩ := h
  exact ⟨φ', σ', t.trans0 t', G', q⟩
/-- use of a computation in a later state -/
theorem W.use {α : Type} {t : Sem α} {Q : α → List Addr → List AObj → Shared → Prop} {R : α → Shared → Prop} (h : W prog w B A t φ₁ s₁ Q X) (t₁ : Step [] φ s.heap φ₁ s₁.heap)
    (k : ∀ a s₂ φ₂ σ₂, Step [] φ₁ s₁.heap φ₂ s₂.heap → Step [] φ s.heap φ₂ s₂.heap → St prog w B φ₂ σ₂ s₂ → Q a φ₂ σ₂ s₂ → R a s₂) : wpAny (model prog w) A t R (Post prog w B [] φ s X) s₁ :=
  wpAny_mono h (fun a s₂ ⟨φ₂, σ₂, t₂, G₂, q⟩ => k a s₂ φ₂ σ₂ t₂ (t₁.trans0 t₂) G₂ q) fun e s' hx => hx.trans t₁
theorem W.last {α : Type} {t : Sem α} {Q : α → List Addr → List AObj → Shared → Prop} (h : W prog w B A t φ₁ s₁ Q X) (t₁ : Step [] φ s.heap φ₁ s₁.heap) : wpAny (model prog w) A t (Post prog w B [] φ s Q) (Post prog w B [] φ s X) s₁ :=
  h.use t₁ fun _ _ _ _ _ t G q => ⟨_, _, t, G, q⟩
/-- an end without a change -/
theorem Post.here {α : Type} {Q : α → List Addr → List AObj → Shared → Prop} {a : α} (G : St prog w B φ σ s) (q : Q a φ σ s) : Post prog w B [] φ s Q a s := ⟨φ, σ, .refl .., G, q⟩
theorem St.toks (G : St prog w B φ σ s) (t : Nat) : St prog w B φ σ { s with toks := t } := G.keeps fun _ _ e => e
theorem Post.tok {α : Type} {Q : α → List Addr → List AObj → Shared → Prop} {a : α} {t : Nat} (G : St prog w B φ σ s) (q : Q a φ σ { s with toks := t }) : Post prog w B [] φ s Q a { s with toks := t } := ⟨φ, σ, .refl .., G.toks t, q⟩

theorem W.mono {α : Type} {t : Sem α} {Q Q' : α → List Addr → List AObj → Shared → Prop} (h : W prog w B A t φ s Q X) (hq : ∀ a φ' σ' s', Q a φ' σ' s' → Q' a φ' σ' s') : W prog w B A t φ s Q' X :=
  wpAny_mono h (fun _ _ ⟨φ', σ', t, G, q⟩ => ⟨φ', σ', t, G, hq _ _ _ _ q⟩) fun _ _ x => x
theorem WC.mono {f : Value} {xs : List V} {Q Q' : V → List AObj → Prop} (h : WC prog w B A f xs σ Q X) (hq : ∀ x σ', Q x σ' → Q' x σ') : WC prog w B A f xs σ Q' X :=
  fun φ s vs G hv => (h φ s vs G hv).mono fun _ _ _ _ ⟨x, hx, q⟩ => ⟨x, hx, hq _ _ q⟩
theorem WE.mono {e : Expr} {Q Q' : V → List AObj → Prop} (h : WE prog w B A env e ρ σ Q X) (hq : ∀ x σ', Q x σ' → Q' x σ') : WE prog w B A env e ρ σ Q' X :=
  fun φ s G L => (h φ s G L).mono fun _ _ _ _ ⟨x, hx, q⟩ => ⟨x, hx, hq _ _ q⟩

/-! expressions -/
theorem E_int {i : Int} {k : Nat} {pos : Pos} {Q : V → List AObj → Prop} (q : Q (.int i) σ) : WE prog w B A env (.Constant (.int i) k pos) ρ σ Q X :=
  fun φ s G _ => wpAny_Constant_int (Post.tok G ⟨.int i, by rw [Val]; exact ⟨_, rfl⟩, q⟩)
theorem E_str {x : Str} {k : Nat} {pos : Pos} {Q : V → List AObj → Prop} (q : Q (.str x) σ) : WE prog w B A env (.Constant (.str x) k pos) ρ σ Q X :=
  fun φ s G _ => Calls.Constant_str (Post.tok G ⟨.str x, by rw [Val]; exact ⟨_, rfl⟩, q⟩)
theorem E_bool {b : Bool} {k : Nat} {pos : Pos} {Q : V → List AObj → Prop} (q : Q (.bool b) σ) : WE prog w B A env (.Constant (.bool b) k pos) ρ σ Q X :=
  fun φ s G _ => wpAny_Constant_bool (Post.here G ⟨.bool b, by rw [Val], q⟩)
theorem E_none {k : Nat} {pos : Pos} {Q : V → List AObj → Prop} (q : Q .none σ) : WE prog w B A env (.Constant .none k pos) ρ σ Q X :=
  fun φ s G _ => fun _ _ _ => (Post.here G ⟨.none, by rw [Val], q⟩ : Post prog w B [] φ s (vQ Q) .none s)

theorem loadName_Bnd {x : Str} {val : Value} {Q : Value → Shared → Prop} {E : Value → Shared → Prop} {M : Model} (hk : env.scope.kind = .function) (hb : Bnd env s.heap x val) (q : Q val s) (hn : (x == ("__classdict__" : Str)) = false := by decide) :
    wpAny M A (loadName env x) Q E s := by
  rcases hb with ⟨k, m, n, e⟩ | ⟨k | k, c, e, n⟩
  · exact wpAny_loadName_local hk k n e q
  · exact wpAny_loadName_cell hk k e n q
  · exact wpAny_loadName_free hk k e n q hn
theorem E_name {x : Str} {pos : Pos} {v : V} {Q : V → List AObj → Prop} (hx : ρ.lookup x = some v) (q : Q v σ) (hd : (x == ("__debug__" : Str)) = false := by decide) (hn : (x == ("__classdict__" : Str)) = false := by decide) :
    WE prog w B A env (.Name x pos) ρ σ Q X := fun φ s G L => by
  obtain ⟨val, hb, hv⟩ := L.val x v hx
  exact wpAny_Name (loadName_Bnd L.kind hb (Post.here G ⟨v, hv, q⟩) hn) hd
theorem E_global {x : Str} {pos : Pos} {mg : Str → Option Value} {v : Value} {y : V} {Q : V → List AObj → Prop} (hg : B.heap.Ns mainGlobals mg) (hv : mg x = some v) (hy : Val [] B.heap y v) (hx : env.kindOf x = some .globalImplicit) (q : Q y σ)
    (hd : (x == ("__debug__" : Str)) = false := by decide) : WE prog w B A env (.Name x pos) ρ σ Q X := fun φ s G L => by
  refine Name_function_global L.kind hx (loadGlobal_global (mg := mg) (L.glob ▸ hg.keeps G.base) hv (Post.here G ⟨y, ?_, q⟩)) hd
  exact Val.mono (List.nil_prefix) (fun a o e _ => G.base a o e) y hy
theorem E_builtin {x : Str} {pos : Pos} {mg mb : Str → Option Value} {v : Value} {Q : V → List AObj → Prop} (hg : B.heap.Ns mainGlobals mg) (hmiss : mg x = none) (hb : B.heap.Ns builtinsNs mb) (hv : mb x = some v) (hx : env.kindOf x = some .globalImplicit) (q : Q (.raw v) σ)
    (hd : (x == ("__debug__" : Str)) = false := by decide) : WE prog w B A env (.Name x pos) ρ σ Q X := fun φ s G L => by
  refine Name_function_global L.kind hx (loadGlobal_builtin (mg := mg) (mb := mb) (L.glob ▸ hg.keeps G.base) hmiss (L.blt ▸ hb.keeps G.base) hv (Post.here G ⟨.raw v, by rw [Val], q⟩)) hd

theorem E_bin {l r : Expr} {op : Operator} {pos : Pos} {Q : V → List AObj → Prop}
    (h : WE prog w B A env l ρ σ (fun x σ₁ => WE prog w B A env r ρ σ₁ (fun y σ₂ => W2 prog w B A (binaryOp op) x y σ₂ Q X) X) X) : WE prog w B A env (.BinOp l op r pos) ρ σ Q X := fun φ s G L =>
  wpAny_BinOp ((h φ s G L).use (.refl ..) fun a s₁ φ₁ σ₁ t₁ _ G₁ ⟨x, hx, h₁⟩ => (h₁ φ₁ s₁ G₁ (L.step G t₁)).use t₁ fun b s₂ φ₂ σ₂ t₂ t G₂ ⟨y, hy, h₂⟩ => (h₂ φ₂ s₂ a b G₂ (hx.step G₁ t₂) hy).last t)
theorem E_cmp1 {l r : Expr} {op : CmpOp} {pos : Pos} {Q : V → List AObj → Prop}
    (h : WE prog w B A env l ρ σ (fun x σ₁ => WE prog w B A env r ρ σ₁ (fun y σ₂ => W2 prog w B A (compareOp op) x y σ₂ Q X) X) X) (hm : behindInMarks op r = false := by with_unfolding_all rfl) :
    WE prog w B A env (.Compare l [op] [r] pos) ρ σ Q X := fun φ s G L =>
  wpAny_Compare1 ((h φ s G L).use (.refl ..) fun a s₁ φ₁ σ₁ t₁ _ G₁ ⟨x, hx, h₁⟩ => (h₁ φ₁ s₁ G₁ (L.step G t₁)).use t₁ fun b s₂ φ₂ σ₂ t₂ t G₂ ⟨y, hy, h₂⟩ => (h₂ φ₂ s₂ a b G₂ (hx.step G₁ t₂) hy).last t) hm
theorem E_un {x : Expr} {op : UnaryOp} {pos : Pos} {Q : V → List AObj → Prop}
    (h : WE prog w B A env x ρ σ (fun x σ₁ => W1 prog w B A (unaryOp op) x σ₁ (vQ Q) X) X) : WE prog w B A env (.UnaryOp op x pos) ρ σ Q X := fun φ s G L =>
  wpAny_UnaryOp ((h φ s G L).use (.refl ..) fun a s₁ φ₁ σ₁ t₁ _ G₁ ⟨x, hx, h₁⟩ => (h₁ φ₁ s₁ a G₁ hx).last t₁)
theorem E_ifexp {test body orelse : Expr} {pos : Pos} {Q : V → List AObj → Prop}
    (h : WT prog w B A env test ρ σ (fun b σ₁ => if b then WE prog w B A env body ρ σ₁ Q X else WE prog w B A env orelse ρ σ₁ Q X) X) : WE prog w B A env (.IfExp test body orelse pos) ρ σ Q X := fun φ s G L =>
  wpAny_IfExp ((h φ s G L).use (.refl ..) fun b s₁ φ₁ σ₁ t₁ _ G₁ h₁ => by
    cases b
    · exact (h₁ φ₁ s₁ G₁ (L.step G t₁)).last t₁
    · exact (h₁ φ₁ s₁ G₁ (L.step G t₁)).last t₁)
theorem E_and2 {x y : Expr} {pos : Pos} {Q : V → List AObj → Prop}
    (h : WE prog w B A env x ρ σ (fun v σ₁ => W1 prog w B A truthy v σ₁ (bQ fun b σ₂ => if b then WE prog w B A env y ρ σ₂ Q X else Q v σ₂) X) X) : WE prog w B A env (.BoolOp .And [x, y] pos) ρ σ Q X := fun φ s G L =>
  wpAny_And2 ((h φ s G L).use (.refl ..) fun a s₁ φ₁ σ₁ t₁ _ G₁ ⟨x, hx, h₁⟩ => (h₁ φ₁ s₁ a G₁ hx).use t₁ fun b s₂ φ₂ σ₂ t₂ t G₂ h₂ => by
    cases b
    · exact ⟨_, _, t, G₂, x, hx.step G₁ t₂, h₂⟩
    · exact (h₂ φ₂ s₂ G₂ (L.step G t)).last t)
theorem E_or2 {x y : Expr} {pos : Pos} {Q : V → List AObj → Prop}
    (h : WE prog w B A env x ρ σ (fun v σ₁ => W1 prog w B A truthy v σ₁ (bQ fun b σ₂ => if b then Q v σ₂ else WE prog w B A env y ρ σ₂ Q X) X) X) : WE prog w B A env (.BoolOp .Or [x, y] pos) ρ σ Q X := fun φ s G L =>
  wpAny_Or2 ((h φ s G L).use (.refl ..) fun a s₁ φ₁ σ₁ t₁ _ G₁ ⟨x, hx, h₁⟩ => (h₁ φ₁ s₁ a G₁ hx).use t₁ fun b s₂ φ₂ σ₂ t₂ t G₂ h₂ => by
    cases b
    · exact (h₂ φ₂ s₂ G₂ (L.step G t)).last t
    · exact ⟨_, _, t, G₂, x, hx.step G₁ t₂, h₂⟩)

/-! tests -/
theorem T_value {e : Expr} {Q : Bool → List AObj → Prop} (h : WE prog w B A env e ρ σ (fun v σ₁ => W1 prog w B A truthy v σ₁ (bQ Q) X) X)
    (he : ∀ whole, isTrue e env whole = (do let v ← whole; standAt e.pos; holding [v] (truthy v)) := by intro _; with_unfolding_all rfl) : WT prog w B A env e ρ σ Q X := fun φ s G L =>
  wpAny_isTrue_value ((h φ s G L).use (.refl ..) fun a s₁ φ₁ σ₁ t₁ _ G₁ ⟨x, hx, h₁⟩ => (h₁ φ₁ s₁ a G₁ hx).last t₁) (he _)
theorem T_not {e : Expr} {pos : Pos} {Q : Bool → List AObj → Prop} (h : WT prog w B A env e ρ σ (fun b σ₁ => Q (!b) σ₁) X) : WT prog w B A env (.UnaryOp .Not e pos) ρ σ Q X := fun φ s G L =>
  wpAny_isTrue_Not ((h φ s G L).use (.refl ..) fun b s₁ φ₁ σ₁ t₁ _ G₁ h₁ => ⟨_, _, t₁, G₁, h₁⟩)
theorem T_cmp1 {l r : Expr} {op : CmpOp} {pos : Pos} {Q : Bool → List AObj → Prop}
    (h : WE prog w B A env l ρ σ (fun x σ₁ => WE prog w B A env r ρ σ₁ (fun y σ₂ => W2 prog w B A (compareOp op) x y σ₂ (fun z σ₃ => W1 prog w B A truthy z σ₃ (bQ Q) X) X) X) X) (hm : behindInMarks op r = false := by with_unfolding_all rfl) :
    WT prog w B A env (.Compare l [op] [r] pos) ρ σ Q X := fun φ s G L =>
  wpAny_isTrue_Compare1 ((h φ s G L).use (.refl ..) fun a s₁ φ₁ σ₁ t₁ _ G₁ ⟨x, hx, h₁⟩ => (h₁ φ₁ s₁ G₁ (L.step G t₁)).use t₁ fun b s₂ φ₂ σ₂ t₂ t G₂ ⟨y, hy, h₂⟩ => (h₂ φ₂ s₂ a b G₂ (hx.step G₁ t₂) hy).use t
    fun c s₃ φ₃ σ₃ t₃ t' G₃ ⟨z, hz, h₃⟩ => (h₃ φ₃ s₃ c G₃ hz).last t') hm
/-- all | any of a row of tests -/
def WTs (prog : Program) (w : World) (B : Shared) (A : Around) (env : Env) (op : BoolOp) (es : List Expr) (ρ : List (Str × V)) (σ : List AObj) (Q : Bool → List AObj → Prop) (X : XT) : Prop :=
  ∀ φ s, St prog w B φ σ s → Loc B env ρ φ s.heap → W prog w B A (allTrue op es env) φ s (bQ Q) X
theorem T_bool {op : BoolOp} {es : List Expr} {pos : Pos} {Q : Bool → List AObj → Prop} (h : WTs prog w B A env op es ρ σ Q X) : WT prog w B A env (.BoolOp op es pos) ρ σ Q X := fun φ s G L => wpAny_isTrue_BoolOp (h φ s G L)
theorem Ts_and_nil {Q : Bool → List AObj → Prop} (q : Q true σ) : WTs prog w B A env .And [] ρ σ Q X := fun φ s G _ => wpAny_allTrue_And_nil (Post.here G q)
theorem Ts_or_nil {Q : Bool → List AObj → Prop} (q : Q false σ) : WTs prog w B A env .Or [] ρ σ Q X := fun φ s G _ => wpAny_allTrue_Or_nil (Post.here G q)
theorem Ts_and {e : Expr} {es : List Expr} {Q : Bool → List AObj → Prop} (h : WT prog w B A env e ρ σ (fun b σ₁ => if b then WTs prog w B A env .And es ρ σ₁ Q X else Q false σ₁) X) : WTs prog w B A env .And (e :: es) ρ σ Q X := fun φ s G L =>
  wpAny_allTrue_And_cons ((h φ s G L).use (.refl ..) fun b s₁ φ₁ σ₁ t₁ _ G₁ h₁ => by
    cases b
    · exact ⟨_, _, t₁, G₁, h₁⟩
    · exact (h₁ φ₁ s₁ G₁ (L.step G t₁)).last t₁)
theorem Ts_or {e : Expr} {es : List Expr} {Q : Bool → List AObj → Prop} (h : WT prog w B A env e ρ σ (fun b σ₁ => if b then Q true σ₁ else WTs prog w B A env .Or es ρ σ₁ Q X) X) : WTs prog w B A env .Or (e :: es) ρ σ Q X := fun φ s G L =>
  wpAny_allTrue_Or_cons ((h φ s G L).use (.refl ..) fun b s₁ φ₁ σ₁ t₁ _ G₁ h₁ => by
    cases b
    · exact (h₁ φ₁ s₁ G₁ (L.step G t₁)).last t₁
    · exact ⟨_, _, t₁, G₁, h₁⟩)

/-! rows of expressions -/
theorem Es_nil {Q : List V → List AObj → Prop} (q : Q [] σ) : WEs prog w B A env [] ρ σ Q X := fun pos φ s G _ => spliced_nil (Post.here G ⟨[], .nil, q⟩)
theorem Es_cons {e : Expr} {es : List Expr} {Q : List V → List AObj → Prop} (h : WE prog w B A env e ρ σ (fun x σ₁ => WEs prog w B A env es ρ σ₁ (fun xs σ₂ => Q (x :: xs) σ₂) X) X)
    (hs : ∀ r, starEach (e :: r) env = (false, eval e env) :: starEach r env := by intro _; with_unfolding_all rfl) : WEs prog w B A env (e :: es) ρ σ Q X := fun pos φ s G L => by
  rw [hs]
  show wpAny _ _ (spliced ((false, _) :: backTo pos (starEach es env))) _ _ _
  refine spliced_cons ?_
  show wpAny _ _ (eval e env) _ _ _
  refine (h φ s G L).use (.refl ..) fun a s₁ φ₁ σ₁ t₁ _ G₁ ⟨x, hx, h₁⟩ => ?_
  exact (h₁ pos φ₁ s₁ G₁ (L.step G t₁)).use t₁ fun vs s₂ φ₂ σ₂ t₂ t G₂ ⟨xs, hxs, q⟩ => ⟨_, _, t, G₂, x :: xs, .cons (hx.step G₁ t₂) hxs, q⟩

/-- a new tuple -/
theorem E_tuple {es : List Expr} {k : Nat} {pos : Pos} {Q : V → List AObj → Prop} (h : WEs prog w B A env es ρ σ (fun xs σ₁ => xs.length ≤ sizeLine ∧ Q (.tup xs) σ₁) X) : WE prog w B A env (.Tuple es k pos) ρ σ Q X := fun φ s G L =>
  wpAny_Tuple_spliced ((h pos φ s G L).use (.refl ..) fun vs s₁ φ₁ σ₁ t₁ _ G₁ ⟨xs, hxs, hl, q⟩ => ⟨hxs.length ▸ hl, by
    have hk : ∀ b o, s₁.heap.get? b = some o → (s₁.heap.push { cls := .type "tuple", data := .seq vs.toArray }).get? b = some o := fun b o e => Heap.get?_push_of_some _ e
    refine ⟨φ₁, σ₁, t₁.trans0 (.of_keeps hk), G₁.keeps hk, .tup xs, ?_, q⟩
    rw [Val]
    exact ⟨_, vs.toArray, rfl, ⟨_, Heap.get?_push_size _ rfl, rfl, _, rfl⟩, by simpa using hxs.step G₁ (.of_keeps hk)⟩⟩)
/-- a new list -/
theorem E_list {es : List Expr} {pos : Pos} {Q : V → List AObj → Prop} (h : WEs prog w B A env es ρ σ (fun xs σ₁ => xs.length ≤ sizeLine ∧ Q (.ref σ₁.length) (σ₁ ++ [.list xs])) X) : WE prog w B A env (.List es pos) ρ σ Q X := fun φ s G L =>
  wpAny_List_spliced ((h pos φ s G L).use (.refl ..) fun vs s₁ φ₁ σ₁ t₁ _ G₁ ⟨xs, hxs, hl, q⟩ => ⟨hxs.length ▸ hl, by
    have hk : ∀ b o, s₁.heap.get? b = some o → (s₁.heap.push { cls := .type "list", data := .seq vs.toArray }).get? b = some o := fun b o e => Heap.get?_push_of_some _ e
    have hc := get?_size s₁.heap
    have t₂ : Step [] φ₁ s₁.heap (φ₁ ++ [s₁.heap.objs.size]) (s₁.heap.push { cls := .type "list", data := .seq vs.toArray }) := Step.alloc (s' := { s₁ with heap := s₁.heap.push { cls := .type "list", data := .seq vs.toArray } }) hc hk
    refine ⟨φ₁ ++ [s₁.heap.objs.size], σ₁ ++ [.list xs], t₁.trans0 t₂, G₁.alloc (ob := .list xs) hc hk ⟨vs.toArray, 0, Heap.get?_push_size _ rfl, by simpa using hxs.step G₁ t₂⟩ G₁.fresh G₁.sizeNe, .ref σ₁.length, ?_, q⟩
    rw [Val, ← G₁.len]
    exact ⟨_, rfl, by simp⟩⟩)
end
end Mine

set_option autoImplicit false
set_option linter.unusedVariables false
namespace Mine
open PySem PySem.Calls PyProof.Rows

inductive Fl where
  | next
  | brk
  | cont
  | ret (x : V)

def FlR (φ : List Addr) (h : Heap) : Fl → Flow → Prop
  | .next, f => f = .next
  | .brk, f => f = .brk
  | .cont, f => f = .cont
  | .ret x, f => ∃ v, f = .ret v ∧ Val φ h x v

section
variable (prog : Program) (w : World) (B : Shared)
def fQ (env : Env) (Q : Fl → List (Str × V) → List AObj → Prop) : Flow → List Addr → List AObj → Shared → Prop :=
  fun f φ' σ' s' => ∃ fl ρ', FlR φ' s'.heap fl f ∧ Loc B env ρ' φ' s'.heap ∧ Q fl ρ' σ'
/-- a statement -/
def WX1 (A : Around) (env : Env) (st : Stmt) (ρ : List (Str × V)) (σ : List AObj) (Q : Fl → List (Str × V) → List AObj → Prop) (X : XT) : Prop :=
  ∀ φ s, St prog w B φ σ s → Loc B env ρ φ s.heap → wpAny (model prog w) A (exec st env) (Post prog w B (fr env) φ s (fQ B env Q)) (Post prog w B (fr env) φ s X) s
/-- a row of statements -/
def WX (A : Around) (env : Env) (ss : List Stmt) (ρ : List (Str × V)) (σ : List AObj) (Q : Fl → List (Str × V) → List AObj → Prop) (X : XT) : Prop :=
  ∀ φ s, St prog w B φ σ s → Loc B env ρ φ s.heap → wpAny (model prog w) A (execs ss env) (Post prog w B (fr env) φ s (fQ B env Q)) (Post prog w B (fr env) φ s X) s
end

section
variable {prog : Program} {w : World} {B : Shared} {φ φ₁ φ₂ : List Addr} {σ : List AObj} {s s₁ : Shared} {env : Env} {ρ ρ₁ : List (Str × V)} {A : Around} {X : XT}

theorem Step.transF {h h₁ h₂ : Heap} (t : Step (fr env) φ h φ₁ h₁) (u : Step (fr env) φ₁ h₁ φ₂ h₂) (L : Loc B env ρ₁ φ₁ h₁) : Step (fr env) φ h φ₂ h₂ :=
  t.trans u fun a ha => .inl ⟨(L.own a ha).1, fun h => by
    rcases u.fresh a h with h1 | h1
    · exact (L.own a ha).1 h1
    · obtain ⟨o, e, _⟩ := L.there ha; rw [e] at h1; cases h1⟩

/-- behind an expression: the rest of a statement -/
theorem WE.then {e : Expr} {Q : V → List AObj → Prop} {R : Value → Shared → Prop} (h : WE prog w B A env e ρ σ Q X) (G : St prog w B φ σ s) (L : Loc B env ρ φ s.heap)
    (k : ∀ v s₁ φ₁ σ₁ x, Step [] φ s.heap φ₁ s₁.heap → St prog w B φ₁ σ₁ s₁ → Loc B env ρ φ₁ s₁.heap → Val φ₁ s₁.heap x v → Q x σ₁ → R v s₁) :
    wpAny (model prog w) A (eval e env) R (Post prog w B (fr env) φ s X) s :=
  wpAny_mono (h φ s G L) (fun v s₁ ⟨φ₁, σ₁, t, G₁, x, hx, q⟩ => k v s₁ φ₁ σ₁ x t G₁ (L.step G t) hx q) fun e s' ⟨φ', σ', t, G', x⟩ => ⟨φ', σ', t.nilD, G', x⟩
theorem WT.then {e : Expr} {Q : Bool → List AObj → Prop} {R : Bool → Shared → Prop} (h : WT prog w B A env e ρ σ Q X) (G : St prog w B φ σ s) (L : Loc B env ρ φ s.heap)
    (k : ∀ b s₁ φ₁ σ₁, Step [] φ s.heap φ₁ s₁.heap → St prog w B φ₁ σ₁ s₁ → Loc B env ρ φ₁ s₁.heap → Q b σ₁ → R b s₁) :
    wpAny (model prog w) A (isTrue e env (eval e env)) R (Post prog w B (fr env) φ s X) s :=
  wpAny_mono (h φ s G L) (fun v s₁ ⟨φ₁, σ₁, t, G₁, q⟩ => k v s₁ φ₁ σ₁ t G₁ (L.step G t) q) fun e s' ⟨φ', σ', t, G', x⟩ => ⟨φ', σ', t.nilD, G', x⟩

theorem Post.transF {α : Type} {Q : α → List Addr → List AObj → Shared → Prop} {a : α} {s' : Shared} (t : Step (fr env) φ s.heap φ₁ s₁.heap) (L : Loc B env ρ₁ φ₁ s₁.heap) (h : Post prog w B (fr env) φ₁ s₁ Q a s') : Post prog w B (fr env) φ s Q a s' := by
  obtain ⟨φ', σ', t', G', q⟩ := h
  exact ⟨φ', σ', t.transF t' L, G', q⟩
theorem WX.last {ss : List Stmt} {Q : Fl → List (Str × V) → List AObj → Prop} {σ₁ : List AObj} (h : WX prog w B A env ss ρ₁ σ₁ Q X) (G₁ : St prog w B φ₁ σ₁ s₁) (L₁ : Loc B env ρ₁ φ₁ s₁.heap) (t : Step (fr env) φ s.heap φ₁ s₁.heap) :
    wpAny (model prog w) A (execs ss env) (Post prog w B (fr env) φ s (fQ B env Q)) (Post prog w B (fr env) φ s X) s₁ :=
  wpAny_mono (h φ₁ s₁ G₁ L₁) (fun _ _ p => p.transF t L₁) fun _ _ p => p.transF t L₁

/-! statements -/
theorem X_nil {Q : Fl → List (Str × V) → List AObj → Prop} (q : Q .next ρ σ) : WX prog w B A env [] ρ σ Q X :=
  fun φ s G L => wpAny_execs_nil ⟨φ, σ, .refl .., G, .next, ρ, rfl, L, q⟩
/-- the rest behind a statement -/
def seqQ (prog : Program) (w : World) (B : Shared) (A : Around) (env : Env) (rest : List Stmt) (Q : Fl → List (Str × V) → List AObj → Prop) (X : XT) : Fl → List (Str × V) → List AObj → Prop
  | .next, ρ', σ' => WX prog w B A env rest ρ' σ' Q X
  | f, ρ', σ' => Q f ρ' σ'
theorem X_cons {st : Stmt} {rest : List Stmt} {Q : Fl → List (Str × V) → List AObj → Prop} (h : WX1 prog w B A env st ρ σ (seqQ prog w B A env rest Q X) X) : WX prog w B A env (st :: rest) ρ σ Q X :=
  fun φ s G L => wpAny_execs_cons (wpAny_mono (h φ s G L) (fun f s₁ ⟨φ₁, σ₁, t₁, G₁, fl, ρ₁, hf, L₁, q⟩ => by
    cases fl with
    | next => obtain rfl : f = .next := hf; exact WX.last q G₁ L₁ t₁
    | brk => obtain rfl : f = .brk := hf; exact ⟨φ₁, σ₁, t₁, G₁, .brk, ρ₁, rfl, L₁, q⟩
    | cont => obtain rfl : f = .cont := hf; exact ⟨φ₁, σ₁, t₁, G₁, .cont, ρ₁, rfl, L₁, q⟩
    | ret x => obtain ⟨v, rfl, hv⟩ := hf; exact ⟨φ₁, σ₁, t₁, G₁, .ret x, ρ₁, ⟨v, rfl, hv⟩, L₁, q⟩) fun _ _ x => x)
theorem X_return {e : Expr} {pos : Pos} {Q : Fl → List (Str × V) → List AObj → Prop} (h : WE prog w B A env e ρ σ (fun x σ₁ => Q (.ret x) ρ σ₁) X) : WX1 prog w B A env (.Return (some e) pos) ρ σ Q X :=
  fun φ s G L => wpAny_Return_some (h.then G L fun v s₁ φ₁ σ₁ x t G₁ L₁ hx q => ⟨φ₁, σ₁, t.nilD, G₁, .ret x, ρ, ⟨v, rfl, hx⟩, L₁, q⟩)
theorem X_expr {e : Expr} {pos : Pos} {Q : Fl → List (Str × V) → List AObj → Prop} (h : WE prog w B A env e ρ σ (fun _ σ₁ => Q .next ρ σ₁) X)
    (hi : interactive env = false := by with_unfolding_all rfl) (hs : swapsWith e none pos.line env = pure false := by with_unfolding_all rfl) : WX1 prog w B A env (.Expr e pos) ρ σ Q X :=
  fun φ s G L => wpAny_Expr_any (h.then G L fun v s₁ φ₁ σ₁ x t G₁ L₁ hx q => ⟨φ₁, σ₁, t.nilD, G₁, .next, ρ, rfl, L₁, q⟩) hi hs
theorem X_pass {pos : Pos} {Q : Fl → List (Str × V) → List AObj → Prop} (q : Q .next ρ σ) : WX1 prog w B A env (.Pass pos) ρ σ Q X :=
  fun φ s G L => wpAny_Pass ⟨φ, σ, .refl .., G, .next, ρ, rfl, L, q⟩
theorem X_if {test : Expr} {body orelse : List Stmt} {pos : Pos} {Q : Fl → List (Str × V) → List AObj → Prop}
    (h : WT prog w B A env test ρ σ (fun b σ₁ => if b then WX prog w B A env body ρ σ₁ Q X else WX prog w B A env orelse ρ σ₁ Q X) X) : WX1 prog w B A env (.If test body orelse pos) ρ σ Q X :=
  fun φ s G L => wpAny_If (h.then G L fun b s₁ φ₁ σ₁ t G₁ L₁ q => by
    cases b
    · exact WX.last q G₁ L₁ t.nilD
    · exact WX.last q G₁ L₁ t.nilD)

theorem Bnd.sameBut {h h' : Heap} {c : Addr} {y : Str} {val : Value} (hb : Bnd env h y val) (hs : Heap.SameBut c h h') (hl : env.kindOf y = some .local → c ≠ env.locals) (hc : ∀ d, (y, d) ∈ env.cells → d ≠ c) : Bnd env h' y val := by
  rcases hb with ⟨k, m, n, e⟩ | ⟨k, d, e, n⟩
  · exact .inl ⟨k, m, n.sameBut hs (Ne.symm (hl k)), e⟩
  · exact .inr ⟨k, d, e, n.sameBut hs (hc d (mem_of_lookup e))⟩

theorem locals_ne_cell {h : Heap} (L : Loc B env ρ φ h) {x : Str} {c : Addr} (hm : (x, c) ∈ env.cells) : c ≠ env.locals := fun e => by
  obtain ⟨m, o, es, ep, e1, hd, _⟩ := L.ns
  obtain ⟨v, o', e2, hd'⟩ := L.cells x c hm
  rw [e, e1] at e2; cases e2
  rw [hd] at hd'; cases hd'

theorem lookup_cons_ne {ρ : List (Str × V)} {x y : Str} {v : V} (h : y ≠ x) : ((x, v) :: ρ).lookup y = ρ.lookup y := by
  rw [List.lookup_cons]
  have : (y == x) = false := by simpa using h
  rw [this]

/-- a local name stored -/
theorem store_local {x : Str} {v : Value} {y : V} {Q : Unit → Shared → Prop} {E : Value → Shared → Prop} (G : St prog w B φ σ s) (L : Loc B env ρ φ s.heap) (hv : Val φ s.heap y v)
    (hx : env.kindOf x = some .local)
    (k : ∀ h' tk, Heap.SameBut env.locals s.heap h' → St prog w B φ σ { s with heap := h', toks := tk } → Loc B env ((x, y) :: ρ) φ h' → Q () { s with heap := h', toks := tk }) :
    wpAny (model prog w) A (storeName env x v) Q E s := by
  obtain ⟨m, hm⟩ := L.ns
  refine wpAny_storeName_local hx hm (fun h' hn hs => ?_) (by rw [L.kind]; rfl)
  have hns : ∀ o, s.heap.get? env.locals = some o → ¬ Still o := fr_notStill L _ (.head _)
  have hown := L.own _ (List.mem_cons_self (l := env.cells.map (·.2)) (a := env.locals))
  refine k h' _ hs (G.sameBut (s' := { s with heap := h', toks := s.toks + 1 }) hs hown.1 hown.2 hns) ⟨L.kind, L.glob, L.blt, ⟨_, hn⟩, L.own, fun z c hz => ?_, L.apart, fun z u hz => ?_⟩
  · obtain ⟨v', n'⟩ := L.cells z c hz
    exact ⟨v', n'.sameBut hs (locals_ne_cell L hz)⟩
  · by_cases hzx : z = x
    · subst hzx
      rw [List.lookup_cons_self] at hz; cases hz
      exact ⟨v, .inl ⟨hx, _, hn, by simp⟩, hv.sameBut hs hns⟩
    · rw [lookup_cons_ne hzx] at hz
      obtain ⟨val, hb, hv'⟩ := L.val z u hz
      refine ⟨val, ?_, hv'.sameBut hs hns⟩
      rcases hb with ⟨k', m', n', e'⟩ | ⟨k', d, e', n'⟩
      · refine .inl ⟨k', _, hn, ?_⟩
        obtain ⟨o1, es1, ep1, a1, a2, a3, a4⟩ := hm
        obtain ⟨o2, es2, ep2, b1, b2, b3, b4⟩ := n'
        rw [a1] at b1; cases b1; rw [a2] at b2; cases b2
        rw [if_neg hzx, ← a4 z, b4 z]; exact e'
      · exact .inr ⟨k', d, e', n'.sameBut hs (locals_ne_cell L (mem_of_lookup e'))⟩

/-- a name stored -/
theorem store_name {x : Str} {v : Value} {y : V} {Q : Unit → Shared → Prop} {E : Value → Shared → Prop} (G : St prog w B φ σ s) (L : Loc B env ρ φ s.heap) (hv : Val φ s.heap y v)
    (hx : env.kindOf x = some .local ∨ env.kindOf x = some .cell ∧ (env.cells.lookup x).isSome = true)
    (k : ∀ h' tk, Step (fr env) φ s.heap φ h' → St prog w B φ σ { s with heap := h', toks := tk } → Loc B env ((x, y) :: ρ) φ h' → Q () { s with heap := h', toks := tk }) :
    wpAny (model prog w) A (storeName env x v) Q E s := by
  rcases hx with hx | ⟨hx, hc⟩
  · exact store_local G L hv hx fun h' tk hs G' L' => k h' tk ⟨List.prefix_refl _, fun _ h => .inl h, fun b o e h1 h2 => ⟨o, hs.extBut b o (fun h => h2 (h ▸ .head _)) e, .refl o⟩⟩ G' L'
  · obtain ⟨c, hc⟩ := Option.isSome_iff_exists.mp hc
    have hcm := mem_of_lookup hc
    obtain ⟨v₀, hc0⟩ := L.cells x c hcm
    refine wpAny_storeName_cell L.kind hx hc hc0 fun h' hn hs => ?_
    have hns : ∀ o, s.heap.get? c = some o → ¬ Still o := fr_notStill L _ (mem_fr_cell hcm)
    have hown := L.own _ (mem_fr_cell hcm)
    refine k h' s.toks ⟨List.prefix_refl _, fun _ h => .inl h, fun b o e h1 h2 => ⟨o, hs.extBut b o (fun h => h2 (h ▸ mem_fr_cell hcm)) e, .refl o⟩⟩ (G.sameBut (s' := { s with heap := h' }) hs hown.1 hown.2 hns) ⟨L.kind, L.glob, L.blt, ?_, L.own, fun z d hz => ?_, L.apart, fun z u hz => ?_⟩
    · obtain ⟨m, hm⟩ := L.ns; exact ⟨m, hm.sameBut hs (Ne.symm (locals_ne_cell L hcm))⟩
    · by_cases hdc : d = c
      · subst hdc; exact ⟨_, hn⟩
      · obtain ⟨v', n'⟩ := L.cells z d hz; exact ⟨v', n'.sameBut hs hdc⟩
    · by_cases hzx : z = x
      · subst hzx
        rw [List.lookup_cons_self] at hz; cases hz
        exact ⟨v, .inr ⟨.inl hx, c, hc, hn⟩, hv.sameBut hs hns⟩
      · rw [lookup_cons_ne hzx] at hz
        obtain ⟨val, hb, hv'⟩ := L.val z u hz
        refine ⟨val, hb.sameBut hs (fun _ => locals_ne_cell L hcm) fun d hd e => hzx ?_, hv'.sameBut hs hns⟩
        exact name_of_addr L.apart hd (e ▸ hcm)

theorem X_assign {x : Str} {e : Expr} {px pos : Pos} {Q : Fl → List (Str × V) → List AObj → Prop} (h : WE prog w B A env e ρ σ (fun y σ₁ => Q .next ((x, y) :: ρ) σ₁) X)
    (hx : env.kindOf x = some .local ∨ env.kindOf x = some .cell ∧ (env.cells.lookup x).isSome = true)
    (hs : swapsWith e (some (.Name x px)) pos.line env = pure false := by with_unfolding_all rfl) : WX1 prog w B A env (.Assign [.Name x px] e pos) ρ σ Q X :=
  fun φ s G L => wpAny_Assign_Name (h.then G L fun v s₁ φ₁ σ₁ y t G₁ L₁ hy q => store_name G₁ L₁ hy hx fun h' tk t' G' L' => ⟨φ₁, σ₁, Step.transF t.nilD t' L₁, G', .next, _, rfl, L', q⟩) hs
end
end Mine

set_option autoImplicit false
set_option linter.unusedVariables false
namespace Mine
open PySem PySem.Calls PyProof.Rows

/-! what a value names of the heap -/
mutual
def V.lt (n : Nat) : V → Prop
  | .ref k => k < n
  | .tup xs => Vs.lt n xs
  | _ => True
def Vs.lt (n : Nat) : List V → Prop
  | [] => True
  | x :: xs => V.lt n x ∧ Vs.lt n xs
end
mutual
theorem Val.isLt {φ : List Addr} {h : Heap} : ∀ (x : V) {v : Value}, Val φ h x v → x.lt φ.length
  | .none, _, _ | .bool _, _, _ | .int _, _, _ | .str _, _, _ | .raw _, _, _ | .exc _, _, _ | .rng .., _, _ => by simp [V.lt]
  | .ref k, _, e => by rw [Val] at e; obtain ⟨a, _, ha⟩ := e; rw [V.lt]; exact (List.getElem?_eq_some_iff.mp ha).1
  | .tup xs, _, e => by rw [Val] at e; obtain ⟨a, vs, _, _, hv⟩ := e; rw [V.lt]; exact Vals.isLt xs hv
theorem Vals.isLt {φ : List Addr} {h : Heap} : ∀ (xs : List V) {vs : List Value}, Vals φ h xs vs → Vs.lt φ.length xs
  | [], _, _ => by simp [Vs.lt]
  | x :: xs, _, e => by rw [Vals] at e; obtain ⟨v, r, _, h1, h2⟩ := e; rw [Vs.lt]; exact ⟨Val.isLt x h1, Vals.isLt xs h2⟩
end
mutual
theorem Val.cut {φ φ' : List Addr} {h : Heap} (hp : φ <+: φ') : ∀ (x : V) {v : Value}, x.lt φ.length → Val φ' h x v → Val φ h x v
  | .none, _, _, e | .bool _, _, _, e | .int _, _, _, e | .str _, _, _, e | .raw _, _, _, e | .exc _, _, _, e | .rng .., _, _, e => by simpa [Val] using e
  | .ref k, _, hl, e => by
    rw [Val] at e ⊢
    rw [V.lt] at hl
    obtain ⟨a, rfl, ha⟩ := e
    obtain ⟨r, rfl⟩ := hp
    rw [List.getElem?_append_left hl] at ha
    exact ⟨a, rfl, ha⟩
  | .tup xs, _, hl, e => by
    rw [Val] at e ⊢
    rw [V.lt] at hl
    obtain ⟨a, vs, h1, h2, hv⟩ := e
    exact ⟨a, vs, h1, h2, Vals.cut hp xs hl hv⟩
theorem Vals.cut {φ φ' : List Addr} {h : Heap} (hp : φ <+: φ') : ∀ (xs : List V) {vs : List Value}, Vs.lt φ.length xs → Vals φ' h xs vs → Vals φ h xs vs
  | [], _, _, e => by simpa [Vals] using e
  | x :: xs, _, hl, e => by
    rw [Vals] at e ⊢
    rw [Vs.lt] at hl
    obtain ⟨v, r, h0, h1, h2⟩ := e
    exact ⟨v, r, h0, Val.cut hp x hl.1 h1, Vals.cut hp xs hl.2 h2⟩
end

def AObj.lt (n : Nat) : AObj → Prop
  | .list xs => Vs.lt n xs
  | .dict es _ => ∀ e ∈ es, e.2.lt n
  | .inst _ k => k < n
  | .ns as => ∀ x v, as.lookup x = some v → v.lt n

theorem Ents.isLt {φ : List Addr} {h : Heap} {es : List (Key × V)} {kvs : List (Key × Value)} (e : Ents φ h es kvs) : ∀ p ∈ es, p.2.lt φ.length := by
  induction e with
  | nil => intro p hp; cases hp
  | cons h1 _ ih => intro p hp; rcases List.mem_cons.mp hp with rfl | hp; exact Val.isLt _ h1; exact ih p hp
theorem Ents.cut {φ φ' : List Addr} {h : Heap} (hp : φ <+: φ') {es : List (Key × V)} {kvs : List (Key × Value)} (e : Ents φ' h es kvs) (hl : ∀ p ∈ es, p.2.lt φ.length) : Ents φ h es kvs := by
  induction e with
  | nil => exact .nil
  | cons h1 _ ih => exact .cons (Val.cut hp _ (hl _ (.head _)) h1) (ih fun p hp => hl p (.tail _ hp))

section
variable {prog : Program} {w : World} {B : Shared} {φ φ' φ₁ : List Addr} {σ σ' : List AObj} {s s' s₁ : Shared} {env : Env} {ρ : List (Str × V)} {A : Around} {X : XT}

theorem ObjR.isLt {h : Heap} {a : Addr} {ob : AObj} (r : ObjR prog w φ h a ob) : ob.lt φ.length := by
  cases ob with
  | list xs => obtain ⟨vs, n, _, hv⟩ := r; exact Vals.isLt _ hv
  | dict es e => obtain ⟨kvs, ep, _, hv, _⟩ := r; exact hv.isLt
  | inst C k => obtain ⟨d, _, hd⟩ := r; exact (List.getElem?_eq_some_iff.mp hd).1
  | ns as =>
    obtain ⟨es, n, _, _, _, h3⟩ := r
    intro x v hx
    have := h3 x
    rw [hx] at this
    obtain ⟨val, _, hv⟩ := this
    exact Val.isLt _ hv
theorem ObjR.cut {h : Heap} {a : Addr} {ob : AObj} (hp : φ <+: φ') (r : ObjR prog w φ' h a ob) (hl : ob.lt φ.length) : ObjR prog w φ h a ob := by
  cases ob with
  | list xs => obtain ⟨vs, n, e, hv⟩ := r; exact ⟨vs, n, e, Vals.cut hp _ hl hv⟩
  | dict es e => obtain ⟨kvs, ep, h1, hv, h2⟩ := r; exact ⟨kvs, ep, h1, hv.cut hp hl, h2⟩
  | inst C k =>
    obtain ⟨d, e, hd⟩ := r
    obtain ⟨r, rfl⟩ := hp
    rw [List.getElem?_append_left hl] at hd
    exact ⟨d, e, hd⟩
  | ns as =>
    obtain ⟨es, n, e, h1, h2, h3⟩ := r
    refine ⟨es, n, e, h1, h2, fun x => ?_⟩
    have := h3 x
    cases hx : as.lookup x with
    | none => rw [hx] at this; exact this
    | some v => rw [hx] at this; obtain ⟨val, e1, e2⟩ := this; exact ⟨val, e1, Val.cut hp v (hl x v hx) e2⟩

theorem St.closed (G : St prog w B φ σ s) : ∀ ob ∈ σ, ob.lt σ.length := fun ob ho => by
  obtain ⟨k, hk, rfl⟩ := List.mem_iff_getElem.mp ho
  rw [← G.len]
  exact (G.objs k _ σ[k] (List.getElem?_eq_getElem (G.len ▸ hk)) (List.getElem?_eq_getElem hk)).isLt

/-- what is behind is forgotten -/
theorem St.trunc {σ₁ junk : List AObj} (G : St prog w B φ' (σ₁ ++ junk) s) (hp : φ <+: φ') (hn : φ.length = σ₁.length) (hc : ∀ ob ∈ σ₁, ob.lt σ₁.length) : St prog w B φ σ₁ s := by
  refine ⟨G.base, fun a ha => G.new a (hp.subset ha), G.nodup.sublist hp.sublist, hn, fun k a ob h1 h2 => ?_, G.gens, G.os, G.sys.1, fun h => G.sys.2 (hp.subset h)⟩
  have hk := (List.getElem?_eq_some_iff.mp h1).1
  obtain ⟨r, rfl⟩ := hp
  refine (G.objs k a ob (by rw [List.getElem?_append_left hk]; exact h1) (by rw [List.getElem?_append_left (hn ▸ hk)]; exact h2)).cut (List.prefix_append _ _) (hn ▸ hc ob (List.mem_of_getElem? h2))
/-- one object of what is behind is kept -/
theorem St.pick {j1 j2 : List AObj} {ob : AObj} (G : St prog w B φ' (σ ++ j1 ++ ob :: j2) s') (hp : φ <+: φ') (hn : φ.length = σ.length) (hc : ∀ ob ∈ σ, ob.lt σ.length) (ho : ob.lt σ.length) :
    ∃ c, φ'[σ.length + j1.length]? = some c ∧ c ∉ φ ∧ St prog w B (φ ++ [c]) (σ ++ [ob]) s' := by
  have hl : σ.length + j1.length < φ'.length := by rw [G.len]; simp
  have hidx := List.getElem?_eq_getElem hl
  refine ⟨φ'[σ.length + j1.length], hidx, fun hm => ?_, ?_⟩
  · obtain ⟨i, hi, e⟩ := List.mem_iff_getElem.mp hm
    have h1 : φ'[i]'(Nat.lt_of_lt_of_le hi hp.length_le) = φ'[σ.length + j1.length] := by
      rw [← e]
      exact (hp.getElem hi).symm
    have := (List.getElem_inj G.nodup).mp h1
    omega
  · have hc' : φ'[σ.length + j1.length] ∉ φ := fun hm => by
      obtain ⟨i, hi, e⟩ := List.mem_iff_getElem.mp hm
      have h1 : φ'[i]'(Nat.lt_of_lt_of_le hi hp.length_le) = φ'[σ.length + j1.length] := by
        rw [← e]
        exact (hp.getElem hi).symm
      have := (List.getElem_inj G.nodup).mp h1
      omega
    have r := G.objs _ _ ob hidx (by rw [List.append_assoc, List.getElem?_append_right (by omega), List.getElem?_append_right (by omega)]; simp)
    have r' := r.cut hp (hn ▸ ho)
    refine ⟨G.base, fun a ha => ?_, ?_, by simp [hn], fun k a ob' h1 h2 => ?_, G.gens, G.os, G.sys.1, fun h => (List.mem_append.mp h).elim (fun h => G.sys.2 (hp.subset h)) fun h => G.sys.2 ((List.mem_singleton.mp h) ▸ List.getElem_mem _)⟩
    · rcases List.mem_append.mp ha with h | h
      · exact G.new a (hp.subset h)
      · obtain rfl := List.mem_singleton.mp h; exact G.new _ (List.getElem_mem _)
    · exact List.nodup_append.mpr ⟨G.nodup.sublist hp.sublist, by simp, fun a ha b hb e => hc' (by obtain rfl := List.mem_singleton.mp hb; exact e ▸ ha)⟩
    · by_cases hk : k < φ.length
      · rw [List.getElem?_append_left hk] at h1
        rw [List.getElem?_append_left (hn ▸ hk)] at h2
        have h3 : φ'[k]? = some a := by obtain ⟨r, rfl⟩ := hp; rw [List.getElem?_append_left hk]; exact h1
        refine ((G.objs k a ob' h3 (by rw [List.append_assoc, List.getElem?_append_left (hn ▸ hk)]; exact h2)).cut hp (hn ▸ hc ob' (List.mem_of_getElem? h2))).mono (List.prefix_append _ _) (fun _ _ e _ => e) fun _ e => e
      · have hk' : k = φ.length := by
          have := (List.getElem?_eq_some_iff.mp h1).1
          simp at this; omega
        subst hk'
        rw [List.getElem?_append_right (Nat.le_refl _)] at h1
        rw [hn, List.getElem?_append_right (Nat.le_refl _)] at h2
        simp at h1 h2
        subst h1 h2
        exact r'.mono (List.prefix_append _ _) (fun _ _ e _ => e) fun _ e => e

/-- what may be forgotten behind a call -/
inductive Clean (σ : List AObj) (Q : V → List AObj → Prop) : V → List AObj → Prop
  | all {x : V} {σ' : List AObj} : Q x σ' → Clean σ Q x σ'
  | none {x : V} {junk : List AObj} : x.lt σ.length → Q x σ → Clean σ Q x (σ ++ junk)
  | one {j1 j2 : List AObj} {ob : AObj} {k : Nat} : k = σ.length + j1.length → ob.lt σ.length → Q (.ref σ.length) (σ ++ [ob]) → Clean σ Q (.ref k) (σ ++ j1 ++ ob :: j2)

theorem WC.clean {f : Value} {xs : List V} {Q : V → List AObj → Prop} (h : WC prog w B A f xs σ (Clean σ Q) X) : WC prog w B A f xs σ Q X := fun φ s vs G hv =>
  wpAny_mono (h φ s vs G hv) (fun v s' ⟨φ', σ', t, G', x, hx, c⟩ => by
    cases c with
    | all q => exact ⟨φ', σ', t, G', x, hx, q⟩
    | none hl q =>
      refine ⟨φ, σ, ⟨List.prefix_refl _, fun _ h => .inl h, t.keep⟩, G'.trunc t.pre G.len G.closed, x, Val.cut t.pre x (G.len ▸ hl) hx, q⟩
    | @one j1 j2 ob k hk hl q =>
      obtain ⟨c, hc, hcφ, G''⟩ := G'.pick t.pre G.len G.closed hl
      have hcm : c ∈ φ' := List.mem_of_getElem? hc
      refine ⟨φ ++ [c], σ ++ [ob], ⟨List.prefix_append _ _, fun a ha => (List.mem_append.mp ha).imp id fun h => ?_, t.keep⟩, G'', .ref σ.length, ?_, q⟩
      · obtain rfl := List.mem_singleton.mp h
        exact (t.fresh a hcm).resolve_left hcφ
      · rw [Val] at hx ⊢
        obtain ⟨a, rfl, ha⟩ := hx
        rw [hk, hc] at ha; cases ha
        exact ⟨c, rfl, by rw [← G.len]; simp⟩) fun _ _ x => x

theorem St.there (G : St prog w B φ σ s) {a : Addr} (ha : a ∈ φ) : ∃ o, s.heap.get? a = some o := by
  obtain ⟨k, hk, rfl⟩ := List.mem_iff_getElem.mp ha
  have hk' : k < σ.length := G.len ▸ hk
  have r := G.objs k _ σ[k] (List.getElem?_eq_getElem hk) (List.getElem?_eq_getElem hk')
  cases hob : σ[k] with
  | list xs => rw [hob] at r; obtain ⟨vs, n, e, _⟩ := r; exact ⟨_, e⟩
  | dict es e => rw [hob] at r; obtain ⟨kvs, ep, ⟨o, es', e, _⟩, _⟩ := r; exact ⟨_, e⟩
  | inst C k => rw [hob] at r; obtain ⟨d, e, _⟩ := r; exact ⟨_, e⟩
  | ns as => rw [hob] at r; obtain ⟨es, n, e, _⟩ := r; exact ⟨_, e⟩

/-! calls of the text's own defs -/
theorem cellsFrom_has : ∀ (names : List (Str × NameKind)) (n : Nat) (acc : List (Str × Addr)) (x : Str), ((acc.lookup x).isSome = true ∨ names.lookup x = some .cell) → ((cellsFrom n names acc).lookup x).isSome = true
  | [], n, acc, x, h => by
    rcases h with h | h
    · exact h
    · cases h
  | (y, k) :: r, n, acc, x, h => by
    unfold cellsFrom
    by_cases hk : (k == NameKind.cell) = true
    · rw [if_pos hk]
      refine cellsFrom_has r (n + 1) _ x ?_
      by_cases hx : x = y
      · subst hx; left; simp
      · rcases h with h | h
        · left; rw [List.lookup_cons]; rw [show (x == y) = false from by simpa using hx]; exact h
        · right; rw [List.lookup_cons, show (x == y) = false from by simpa using hx] at h; exact h
    · rw [if_neg hk]
      refine cellsFrom_has r n _ x ?_
      rcases h with h | h
      · exact .inl h
      · by_cases hx : x = y
        · subst hx; rw [List.lookup_cons_self] at h; cases h; exact absurd rfl hk
        · rw [List.lookup_cons, show (x == y) = false from by simpa using hx] at h; exact .inr h
theorem cellsFrom_keys : ∀ (names : List (Str × NameKind)) (n : Nat) (acc : List (Str × Addr)), ((names.map (·.1)) ++ acc.map (·.1)).Nodup → ((cellsFrom n names acc).map (·.1)).Nodup
  | [], n, acc, h => by unfold cellsFrom; simpa using h
  | (y, k) :: r, n, acc, h => by
    unfold cellsFrom
    split
    · refine cellsFrom_keys r (n + 1) _ ?_
      simp only [List.map_cons]
      exact (List.perm_middle.nodup_iff).mpr (by simpa using h)
    · refine cellsFrom_keys r n _ ?_
      simp only [List.map_cons, List.cons_append, List.nodup_cons] at h
      exact h.2
theorem lookup_of_mem {α : Type} : ∀ {l : List (Str × α)} {x : Str} {c : α}, (l.map (·.1)).Nodup → (x, c) ∈ l → l.lookup x = some c
  | (y, d) :: r, x, c, hn, hm => by
    rcases List.mem_cons.mp hm with e | hm
    · cases e; simp
    · simp only [List.map_cons, List.nodup_cons] at hn
      have hxy : x ≠ y := fun e => hn.1 (e ▸ List.mem_map.mpr ⟨(x, c), hm, rfl⟩)
      rw [List.lookup_cons, show (x == y) = false from by simpa using hxy]
      exact lookup_of_mem hn.2 hm

/-- a def of the text: its names, its body -/
structure Fn (B : Shared) (a : Addr) (names : List Str) (fd : FuncData) (body : List Stmt) : Prop where
  at_ : ∃ o, B.heap.get? a = some o ∧ o.data = .func fd
  lim : B.heap.NoLimit
  code : B.heap.CodeRec fd.code fd.qualname
  body : fd.body = .stmts body
  clo : fd.closure = []
  glob : fd.globals = mainGlobals
  blt : fd.builtins = builtinsNs
  bind : ∀ vals : List Value, vals.length = names.length → bindArgs fd ⟨vals, []⟩ = pure (names.zip vals)
  kinds : ∀ n ∈ names, fd.scope.names.lookup n = some .local ∨ fd.scope.names.lookup n = some .cell
  nodup : names.Nodup
  cnodup : (fd.scope.names.map (·.1)).Nodup
  co : fd.scope.isCoroutine = false
  gen : fd.scope.isGenerator = false
  kind : fd.scope.kind = .function

def retV : Fl → V
  | .ret x => x
  | _ => .none

theorem bindL_at (kindOf : Str → Option NameKind) : ∀ (binds : List (Str × Value)) (m : Str → Option Value) (x : Str), kindOf x = some .local →
    bindL kindOf binds m x = (binds.reverse.lookup x).or (m x)
  | [], m, x, _ => by simp [bindL]
  | (n, v) :: r, m, x, hx => by
    rw [bindL, bindL_at kindOf r _ x hx, List.reverse_cons, List.lookup_append]
    by_cases hn : kindOf n = some .local
    · rw [if_pos hn]
      by_cases hxn : x = n
      · subst hxn; simp
      · simp [hxn, List.lookup_cons, show (x == n) = false from by simpa using hxn]
    · rw [if_neg hn]
      have hxn : x ≠ n := fun e => hn (e ▸ hx)
      simp [List.lookup_cons, show (x == n) = false from by simpa using hxn]
theorem bindC_at (kindOf : Str → Option NameKind) : ∀ (binds : List (Str × Value)) (m : Str → Option Value) (x : Str), kindOf x = some .cell →
    bindC kindOf binds m x = (binds.reverse.lookup x).or (m x)
  | [], m, x, _ => by simp [bindC]
  | (n, v) :: r, m, x, hx => by
    rw [bindC, bindC_at kindOf r _ x hx, List.reverse_cons, List.lookup_append]
    by_cases hn : kindOf n = some .local
    · rw [if_pos hn]
      have hxn : x ≠ n := fun e => by rw [e] at hx; rw [hx] at hn; cases hn
      simp [List.lookup_cons, show (x == n) = false from by simpa using hxn]
    · rw [if_neg hn]
      by_cases hxn : x = n
      · subst hxn; simp
      · simp [hxn, List.lookup_cons, show (x == n) = false from by simpa using hxn]
theorem lookup_reverse_of_nodup {α : Type} {l : List (Str × α)} (h : (l.map (·.1)).Nodup) (x : Str) : l.reverse.lookup x = l.lookup x := by
  cases e : l.lookup x with
  | some v =>
    exact lookup_of_mem (by rw [List.map_reverse]; exact (List.reverse_perm _).nodup_iff.mpr h) (List.mem_reverse.mpr (mem_of_lookup e))
  | none =>
    cases e' : l.reverse.lookup x with
    | none => rfl
    | some v => rw [lookup_of_mem h (List.mem_reverse.mp (mem_of_lookup e'))] at e; cases e
theorem zip_lookup_vals {h : Heap} : ∀ {names : List Str} {xs : List V} {vs : List Value}, Vals φ h xs vs → ∀ {x : Str} {v : V}, (names.zip xs).lookup x = some v → ∃ val, (names.zip vs).lookup x = some val ∧ Val φ h v val
  | [], _, _, _, x, v, hx => by simp at hx
  | n :: ns, [], _, _, x, v, hx => by simp at hx
  | n :: ns, y :: ys, _, e, x, v, hx => by
    rw [Vals] at e
    obtain ⟨u, r, rfl, h1, h2⟩ := e
    rw [List.zip_cons_cons, List.lookup_cons] at hx ⊢
    cases hb : x == n with
    | true => rw [hb] at hx; cases hx; exact ⟨u, rfl, h1⟩
    | false => rw [hb] at hx; exact zip_lookup_vals h2 hx
theorem zip_keys_mem {α : Type} : ∀ {names : List Str} {xs : List α} {x : Str} {v : α}, (names.zip xs).lookup x = some v → x ∈ names := fun {names xs x v} h => (List.of_mem_zip (mem_of_lookup h)).1

theorem C_fn_code {a : Addr} {names : List Str} {fd : FuncData} {body : List Stmt} {xs : List V} {Q : V → List AObj → Prop} (F : Fn B a names fd body) (hlen : xs.length = names.length) (hroom : A.depth < recursionLimit)
    (h : ∀ L, WX prog w B (A.deeper (callEnvC fd L a)) (callEnvC fd L a) body (names.zip xs) σ (fun fl _ σ' => Q (retV fl) σ') (fun _ _ _ _ => False)) :
    ∀ φ s vs, St prog w B φ σ s → Vals φ s.heap xs vs → codeAny (model prog w) A (.call (.ref a) ⟨vs, []⟩) (fun r s' => match r with | .ok (.ret v) => Post prog w B [] φ s (vQ Q) v s' | .ok _ => False | .error e => Post prog w B [] φ s X e s') s := fun φ s vs G hv => by
  obtain ⟨o, ho, hd⟩ := F.at_
  have hvl : vs.length = names.length := hv.length.trans hlen
  refine codeAny_call_cells hroom (G.base _ _ ho) hd (F.lim.keeps G.base) (F.code.keeps G.base) F.body (F.bind vs hvl) F.clo (fun p hp => ?_) (fun s₁ ic => ?_) F.co F.gen F.kind
  · have hn : p.1 ∈ names := (List.of_mem_zip hp).1
    rcases F.kinds _ hn with h1 | h1
    · exact .inl h1
    · exact .inr ⟨h1, cellsFrom_has _ _ _ _ (.inr h1)⟩
  · have hk := ic.toInCall.keep
    obtain ⟨h₁, tk, rfl⟩ := ic.toInCall.same
    have G₁ : St prog w B φ σ { s with heap := h₁, toks := tk } := G.keeps hk
    have hL : s.heap.get? s.heap.objs.size = none := get?_size _
    have hcl : ((callEnvC fd s.heap.objs.size a).cells.map (·.1)).Nodup := cellsFrom_keys _ _ _ (by simpa using F.cnodup)
    have hnew : ∀ c ∈ fr (callEnvC fd s.heap.objs.size a), s.heap.get? c = none := fun c hc => by
      rcases List.mem_cons.mp hc with rfl | hc
      · exact hL
      · obtain ⟨⟨x, d⟩, hm, rfl⟩ := List.mem_map.mp hc
        exact get?_of_ge (Nat.le_of_lt (ic.above x d hm))
    have L₁ : Loc B (callEnvC fd s.heap.objs.size a) (names.zip xs) φ h₁ := by
      refine ⟨F.kind, F.glob, F.blt, ⟨_, ic.toInCall.ns⟩, fun c hc => ⟨fun hm => ?_, G.baseSize (hnew c hc)⟩, fun x c hm => ⟨_, ic.cell x c (lookup_of_mem hcl hm)⟩, ic.apart, fun x v hx => ?_⟩
      · obtain ⟨o', e'⟩ := G.there hm
        rw [hnew c hc] at e'; cases e'
      · have hn := zip_keys_mem hx
        obtain ⟨val, hval, hvv⟩ := zip_lookup_vals (hv.step G (.of_keeps hk)) hx
        have hbl : (names.zip vs).reverse.lookup x = some val := by
          rw [lookup_reverse_of_nodup]; exact hval
          rw [List.map_fst_zip (by omega)]; exact F.nodup
        refine ⟨val, ?_, hvv⟩
        rcases F.kinds x hn with h1 | h1
        · exact .inl ⟨h1, _, ic.toInCall.ns, by rw [bindL_at _ _ _ _ h1, hbl]; rfl⟩
        · obtain ⟨c, hc⟩ := Option.isSome_iff_exists.mp (cellsFrom_has fd.scope.names (s.heap.objs.size + 1) [] x (.inr h1))
          refine .inr ⟨.inl h1, c, hc, ?_⟩
          have := ic.cell x c hc
          rw [bindC_at _ _ _ _ h1, hbl] at this
          exact this
    have tt : Step [] φ s.heap φ h₁ := .of_keeps hk
    refine wpAny_mono (h s.heap.objs.size φ _ G₁ L₁) (fun f s' ⟨φ', σ', t, G', fl, ρ', hf, L', q⟩ => ?_) (fun e s' ⟨_, _, _, _, x⟩ => x.elim)
    have t' : Step [] φ s.heap φ' s'.heap := by
      refine ⟨t.pre, fun b hb => ?_, fun b o e h1 _ => t.keep b o (hk b o e) h1 fun hb => ?_⟩
      · rcases t.fresh b hb with h1 | h1
        · exact .inl h1
        · right
          cases e : s.heap.get? b with
          | none => rfl
          | some o => rw [hk b o e] at h1; cases h1
      · rw [hnew b hb] at e; cases e
    refine ⟨φ', σ', t', G', retV fl, ?_, q⟩
    cases fl with
    | next => obtain rfl : f = .next := hf; simp [retV, Val]
    | brk => obtain rfl : f = .brk := hf; simp [retV, Val]
    | cont => obtain rfl : f = .cont := hf; simp [retV, Val]
    | ret x => obtain ⟨v, rfl, hv⟩ := hf; exact hv
theorem C_fn {a : Addr} {names : List Str} {fd : FuncData} {body : List Stmt} {xs : List V} {Q : V → List AObj → Prop} (F : Fn B a names fd body) (hlen : xs.length = names.length) (hroom : A.depth < recursionLimit)
    (h : ∀ L, WX prog w B (A.deeper (callEnvC fd L a)) (callEnvC fd L a) body (names.zip xs) σ (fun fl _ σ' => Q (retV fl) σ') (fun _ _ _ _ => False)) :
    WC prog w B A (.ref a) xs σ Q X := fun φ s vs G hv => wpAny_call (C_fn_code F hlen hroom h φ s vs G hv)
end
end Mine

set_option autoImplicit false
set_option linter.unusedVariables false
namespace Mine
open PySem PySem.Calls PyProof.Rows

section
variable {prog : Program} {w : World} {B : Shared} {φ : List Addr} {σ : List AObj} {s : Shared} {env : Env} {ρ : List (Str × V)} {A : Around} {X : XT} {Q : V → List AObj → Prop}

theorem Val.int_ {h : Heap} (i : Int) (t : Tok) : Val φ h (.int i) (.int i t) := by rw [Val]; exact ⟨t, rfl⟩
theorem Val.str_ {h : Heap} (x : Str) (t : Tok) : Val φ h (.str x) (.str x t) := by rw [Val]; exact ⟨t, rfl⟩
theorem Val.bool_ {h : Heap} (b : Bool) : Val φ h (.bool b) (.bool b) := by rw [Val]
theorem Val.none_ {h : Heap} : Val φ h .none .none := by rw [Val]
theorem Val.of_int {h : Heap} {i : Int} {v : Value} (e : Val φ h (.int i) v) : ∃ t, v = .int i t := by rw [Val] at e; exact e
theorem Val.of_str {h : Heap} {x : Str} {v : Value} (e : Val φ h (.str x) v) : ∃ t, v = .str x t := by rw [Val] at e; exact e
theorem Val.of_bool {h : Heap} {b : Bool} {v : Value} (e : Val φ h (.bool b) v) : v = .bool b := by rw [Val] at e; exact e
theorem Val.of_none {h : Heap} {v : Value} (e : Val φ h .none v) : v = .none := by rw [Val] at e; exact e
theorem Val.of_raw {h : Heap} {u v : Value} (e : Val φ h (.raw u) v) : v = u := by rw [Val] at e; exact e
theorem Val.of_ref {h : Heap} {k : Nat} {v : Value} (e : Val φ h (.ref k) v) : ∃ a, v = .ref a ∧ φ[k]? = some a := by rw [Val] at e; exact e
theorem Val.of_tup {h : Heap} {xs : List V} {v : Value} (e : Val φ h (.tup xs) v) : ∃ a vs, v = .ref a ∧ IsTup h a vs ∧ Vals φ h xs vs.toList := by rw [Val] at e; exact e
theorem Val.raw_ {h : Heap} (v : Value) : Val φ h (.raw v) v := by rw [Val]

theorem beqD {α : Type} [DecidableEq α] (a b : α) : (a == b) = decide (a = b) := by rw [Bool.eq_iff_iff]; simp

/-! ints -/
theorem O_add {a b : Int} (q : Q (.int (a + b)) σ) : W2 prog w B A (binaryOp .Add) (.int a) (.int b) σ Q X := fun φ s v u G hv hu => by
  obtain ⟨t, rfl⟩ := hv.of_int; obtain ⟨t', rfl⟩ := hu.of_int
  exact wpAny_add_int (Post.tok G ⟨_, .int_ _ _, q⟩)
theorem O_sub {a b : Int} (q : Q (.int (a - b)) σ) : W2 prog w B A (binaryOp .Sub) (.int a) (.int b) σ Q X := fun φ s v u G hv hu => by
  obtain ⟨t, rfl⟩ := hv.of_int; obtain ⟨t', rfl⟩ := hu.of_int
  exact P.sub_int (Post.tok G ⟨_, .int_ _ _, q⟩)
theorem O_mul {a b : Int} (q : Q (.int (a * b)) σ) (hm : a.natAbs < 2 ^ 63 ∨ b.natAbs < 2 ^ 63) : W2 prog w B A (binaryOp .Mult) (.int a) (.int b) σ Q X := fun φ s v u G hv hu => by
  obtain ⟨t, rfl⟩ := hv.of_int; obtain ⟨t', rfl⟩ := hu.of_int
  exact P.mul_int (Post.tok G ⟨_, .int_ _ _, q⟩) (hm.elim (fun h => IntMulOk.of_left (intBits_le_64 (by omega) (by omega))) fun h => IntMulOk.of_right (intBits_le_64 (by omega) (by omega)))
theorem O_div {a b : Int} (q : Q (.int (a / b)) σ) (hb : 0 < b) (hs : b.natAbs.log2 < 9000) : W2 prog w B A (binaryOp .FloorDiv) (.int a) (.int b) σ Q X := fun φ s v u G hv hu => by
  obtain ⟨t, rfl⟩ := hv.of_int; obtain ⟨t', rfl⟩ := hu.of_int
  refine floordiv_int (by omega) ?_ (.inl (PyProof.noPylong_of_log2 hs))
  rw [Int.fdiv_eq_ediv_of_nonneg _ (by omega)]
  exact Post.tok G ⟨_, .int_ _ _, q⟩
theorem O_mod {a b : Int} (q : Q (.int (a % b)) σ) (hb : 0 < b) : W2 prog w B A (binaryOp .Mod) (.int a) (.int b) σ Q X := fun φ s v u G hv hu => by
  obtain ⟨t, rfl⟩ := hv.of_int; obtain ⟨t', rfl⟩ := hu.of_int
  refine mod_int' (by omega) ?_
  rw [Int.fmod_eq_emod_of_nonneg _ (by omega)]
  exact Post.tok G ⟨_, .int_ _ _, q⟩
theorem O_pow {a : Int} {n : Int} (q : Q (.int (a ^ n.toNat)) σ) (hn : 0 ≤ n) (hn2 : n ≤ 1000000) (ha : a.natAbs < 2 ^ 64) : W2 prog w B A (binaryOp .Pow) (.int a) (.int n) σ Q X := fun φ s v u G hv hu => by
  obtain ⟨t, rfl⟩ := hv.of_int; obtain ⟨t', rfl⟩ := hu.of_int
  exact pow_int_small hn hn2 ha (Post.tok G ⟨_, .int_ _ _, q⟩)
theorem O_neg {a : Int} (q : Q (.int (-a)) σ) : W1 prog w B A (unaryOp .USub) (.int a) σ (vQ Q) X := fun φ s v G hv => by
  obtain ⟨t, rfl⟩ := hv.of_int
  exact P.neg_int (Post.tok G ⟨_, .int_ _ _, q⟩)
theorem O_lt {a b : Int} (q : Q (.bool (decide (a < b))) σ) : W2 prog w B A (compareOp .Lt) (.int a) (.int b) σ Q X := fun φ s v u G hv hu => by
  obtain ⟨t, rfl⟩ := hv.of_int; obtain ⟨t', rfl⟩ := hu.of_int
  exact P.lt_int (Post.here G ⟨_, .bool_ _, q⟩)
theorem O_le {a b : Int} (q : Q (.bool (decide (a ≤ b))) σ) : W2 prog w B A (compareOp .LtE) (.int a) (.int b) σ Q X := fun φ s v u G hv hu => by
  obtain ⟨t, rfl⟩ := hv.of_int; obtain ⟨t', rfl⟩ := hu.of_int
  exact P.le_int (Post.here G ⟨_, .bool_ _, q⟩)
theorem O_gt {a b : Int} (q : Q (.bool (decide (b < a))) σ) : W2 prog w B A (compareOp .Gt) (.int a) (.int b) σ Q X := fun φ s v u G hv hu => by
  obtain ⟨t, rfl⟩ := hv.of_int; obtain ⟨t', rfl⟩ := hu.of_int
  exact P.gt_int (Post.here G ⟨_, .bool_ _, q⟩)
theorem O_ge {a b : Int} (q : Q (.bool (decide (b ≤ a))) σ) : W2 prog w B A (compareOp .GtE) (.int a) (.int b) σ Q X := fun φ s v u G hv hu => by
  obtain ⟨t, rfl⟩ := hv.of_int; obtain ⟨t', rfl⟩ := hu.of_int
  exact P.ge_int (Post.here G ⟨_, .bool_ _, q⟩)
theorem O_eq {a b : Int} (q : Q (.bool (decide (a = b))) σ) : W2 prog w B A (compareOp .Eq) (.int a) (.int b) σ Q X := fun φ s v u G hv hu => by
  obtain ⟨t, rfl⟩ := hv.of_int; obtain ⟨t', rfl⟩ := hu.of_int
  exact P.eq_int (Post.here G ⟨_, .bool_ _, by rw [beqD]; exact q⟩)
theorem O_ne {a b : Int} (q : Q (.bool (!decide (a = b))) σ) : W2 prog w B A (compareOp .NotEq) (.int a) (.int b) σ Q X := fun φ s v u G hv hu => by
  obtain ⟨t, rfl⟩ := hv.of_int; obtain ⟨t', rfl⟩ := hu.of_int
  exact P.ne_int (Post.here G ⟨_, .bool_ _, by rw [bne, beqD]; exact q⟩)

/-! strs -/
theorem O_adds {x y : Str} (q : Q (.str (x ++ y)) σ) (hsz : x.length + y.length ≤ sizeLine) : W2 prog w B A (binaryOp .Add) (.str x) (.str y) σ Q X := fun φ s v u G hv hu => by
  obtain ⟨t, rfl⟩ := hv.of_str; obtain ⟨t', rfl⟩ := hu.of_str
  exact PyProof.Rows.add_str (fun t' tk => Post.tok G ⟨_, .str_ _ _, q⟩) hsz
theorem O_eqs {x y : Str} (q : Q (.bool (decide (x = y))) σ) : W2 prog w B A (compareOp .Eq) (.str x) (.str y) σ Q X := fun φ s v u G hv hu => by
  obtain ⟨t, rfl⟩ := hv.of_str; obtain ⟨t', rfl⟩ := hu.of_str
  exact PyProof.Rows.eq_str (Post.here G ⟨_, .bool_ _, by rw [beqD]; exact q⟩)
theorem O_nes {x y : Str} (q : Q (.bool (!decide (x = y))) σ) : W2 prog w B A (compareOp .NotEq) (.str x) (.str y) σ Q X := fun φ s v u G hv hu => by
  obtain ⟨t, rfl⟩ := hv.of_str; obtain ⟨t', rfl⟩ := hu.of_str
  exact PyProof.Rows.ne_str (Post.here G ⟨_, .bool_ _, by rw [bne, beqD]; exact q⟩)
theorem O_les {x y : Str} (q : Q (.bool (!decide (y.cps.toList < x.cps.toList))) σ) : W2 prog w B A (compareOp .LtE) (.str x) (.str y) σ Q X := fun φ s v u G hv hu => by
  obtain ⟨t, rfl⟩ := hv.of_str; obtain ⟨t', rfl⟩ := hu.of_str
  exact P.le_str (Post.here G ⟨_, .bool_ _, q⟩)
/-- a text in a text -/
def inS (x y : Str) : Bool := !(Builtin.Str.occurrences x y 0 x.length 1).isEmpty
theorem O_ins {x y : Str} (q : Q (.bool (inS x y)) σ) : W2 prog w B A (compareOp .In) (.str y) (.str x) σ Q X := fun φ s v u G hv hu => by
  obtain ⟨t, rfl⟩ := hv.of_str; obtain ⟨t', rfl⟩ := hu.of_str
  exact PyProof.Rows.in_str (Post.here G ⟨_, .bool_ _, q⟩)
theorem O_notins {x y : Str} (q : Q (.bool (!inS x y)) σ) : W2 prog w B A (compareOp .NotIn) (.str y) (.str x) σ Q X := fun φ s v u G hv hu => by
  obtain ⟨t, rfl⟩ := hv.of_str; obtain ⟨t', rfl⟩ := hu.of_str
  exact PyProof.Rows.notIn_str (Post.here G ⟨_, .bool_ _, q⟩)

/-! bools -/
theorem O_eqb {a b : Bool} (q : Q (.bool (a == b)) σ) : W2 prog w B A (compareOp .Eq) (.bool a) (.bool b) σ Q X := fun φ s v u G hv hu => by
  obtain rfl := hv.of_bool; obtain rfl := hu.of_bool
  exact PyProof.Rows.eq_bool (Post.here G ⟨_, .bool_ _, q⟩)

/-! is -/
/-- values that «is» sees plainly -/
def plainV : V → Option Value
  | .none => some .none
  | .bool b => some (.bool b)
  | _ => none
theorem O_is {x y : V} {b : Bool} (h : ∀ (φ : List Addr) (hp : Heap) v u, Val φ hp x v → Val φ hp y u → plainIs v u = true ∧ (v == u) = b) (q : Q (.bool b) σ) : W2 prog w B A (compareOp .Is) x y σ Q X := fun φ s v u G hv hu => by
  obtain ⟨h1, h2⟩ := h _ _ v u hv hu
  exact wpAny_is_plain h1 (Post.here G ⟨_, .bool_ _, h2 ▸ q⟩)
theorem O_isnot {x y : V} {b : Bool} (h : ∀ (φ : List Addr) (hp : Heap) v u, Val φ hp x v → Val φ hp y u → plainIs v u = true ∧ (v == u) = b) (q : Q (.bool (!b)) σ) : W2 prog w B A (compareOp .IsNot) x y σ Q X := fun φ s v u G hv hu => by
  obtain ⟨h1, h2⟩ := h _ _ v u hv hu
  exact wpAny_isNot_plain h1 (Post.here G ⟨_, .bool_ _, h2 ▸ q⟩)
theorem is_bools (a b : Bool) : ∀ (φ : List Addr) (hp : Heap) v u, Val φ hp (.bool a) v → Val φ hp (.bool b) u → plainIs v u = true ∧ (v == u) = (a == b) := fun φ hp v u hv hu => by
  obtain rfl := hv.of_bool; obtain rfl := hu.of_bool
  refine ⟨rfl, ?_⟩
  cases a <;> cases b <;> decide
theorem is_none_none : ∀ (φ : List Addr) (hp : Heap) v u, Val φ hp .none v → Val φ hp .none u → plainIs v u = true ∧ (v == u) = true := fun φ hp v u hv hu => by
  obtain rfl := hv.of_none; obtain rfl := hu.of_none
  exact ⟨rfl, by decide⟩
theorem is_ref_none (k : Nat) : ∀ (φ : List Addr) (hp : Heap) v u, Val φ hp (.ref k) v → Val φ hp .none u → plainIs v u = true ∧ (v == u) = false := fun φ hp v u hv hu => by
  obtain ⟨a, rfl, _⟩ := hv.of_ref; obtain rfl := hu.of_none
  exact ⟨rfl, rfl⟩
theorem O_is_bool {a b : Bool} (q : Q (.bool (a == b)) σ) : W2 prog w B A (compareOp .Is) (.bool a) (.bool b) σ Q X := O_is (is_bools a b) q
theorem O_isnot_bool {a b : Bool} (q : Q (.bool (!(a == b))) σ) : W2 prog w B A (compareOp .IsNot) (.bool a) (.bool b) σ Q X := O_isnot (is_bools a b) q
theorem O_is_none (q : Q (.bool true) σ) : W2 prog w B A (compareOp .Is) .none .none σ Q X := O_is is_none_none q
theorem O_isnot_none (q : Q (.bool false) σ) : W2 prog w B A (compareOp .IsNot) .none .none σ Q X := O_isnot is_none_none q
theorem O_is_ref_none {k : Nat} (q : Q (.bool false) σ) : W2 prog w B A (compareOp .Is) (.ref k) .none σ Q X := O_is (is_ref_none k) q
theorem O_isnot_ref_none {k : Nat} (q : Q (.bool true) σ) : W2 prog w B A (compareOp .IsNot) (.ref k) .none σ Q X := O_isnot (is_ref_none k) q

/-! truth -/
theorem T_b {b : Bool} {Q : Bool → List AObj → Prop} (q : Q b σ) : W1 prog w B A truthy (.bool b) σ (bQ Q) X := fun φ s v G hv => by
  obtain rfl := hv.of_bool
  exact wpAny_truthy_bool (Post.here G q)
theorem T_none {Q : Bool → List AObj → Prop} (q : Q false σ) : W1 prog w B A truthy .none σ (bQ Q) X := fun φ s v G hv => by
  obtain rfl := hv.of_none
  exact fun _ _ _ => Post.here (Q := bQ Q) G q
theorem O_not {b : Bool} (q : Q (.bool (!b)) σ) : W1 prog w B A (unaryOp .Not) (.bool b) σ (vQ Q) X := fun φ s v G hv => by
  obtain rfl := hv.of_bool
  exact not_of (wpAny_truthy_bool (Post.here G ⟨_, .bool_ _, q⟩))

/-! chains of comparisons -/
theorem E_cmp2 {l r₁ r₂ : Expr} {op₁ op₂ : CmpOp} {pos : Pos}
    (h : WE prog w B A env l ρ σ (fun x σ₁ => WE prog w B A env r₁ ρ σ₁ (fun y σ₂ => W2 prog w B A (compareOp op₁) x y σ₂ (fun c σ₃ => W1 prog w B A truthy c σ₃ (bQ fun b σ₄ =>
      if b then WE prog w B A env r₂ ρ σ₄ (fun z σ₅ => W2 prog w B A (compareOp op₂) y z σ₅ Q X) X else Q c σ₄) X) X) X) X)
    (hm : lastMarks [op₁, op₂] [r₁, r₂] = false := by with_unfolding_all rfl) : WE prog w B A env (.Compare l [op₁, op₂] [r₁, r₂] pos) ρ σ Q X := fun φ s G L =>
  Compare_chain ((h φ s G L).use (.refl ..) fun a s₁ φ₁ σ₁ t₁ _ G₁ ⟨x, hx, h₁⟩ => chain_link ((h₁ φ₁ s₁ G₁ (L.step G t₁)).use t₁ fun b s₂ φ₂ σ₂ t₂ t G₂ ⟨y, hy, h₂⟩ =>
    (h₂ φ₂ s₂ a b G₂ (hx.step G₁ t₂) hy).use t fun c s₃ φ₃ σ₃ t₃ t' G₃ ⟨z, hz, h₃⟩ => (h₃ φ₃ s₃ c G₃ hz).use t' fun d s₄ φ₄ σ₄ t₄ t'' G₄ h₄ => by
      cases d
      · exact ⟨_, _, t'', G₄, z, hz.step G₃ t₄, h₄⟩
      · exact chain_last ((h₄ φ₄ s₄ G₄ (L.step G t'')).use t'' fun e s₅ φ₅ σ₅ t₅ t5 G₅ ⟨z', hz', h₅⟩ => (h₅ φ₅ s₅ b e G₅ (hy.step G₂ (t₃.trans0 (t₄.trans0 t₅))) hz').last t5))) hm
theorem T_cmp2 {l r₁ r₂ : Expr} {op₁ op₂ : CmpOp} {pos : Pos} {Q : Bool → List AObj → Prop}
    (h : WE prog w B A env l ρ σ (fun x σ₁ => WE prog w B A env r₁ ρ σ₁ (fun y σ₂ => W2 prog w B A (compareOp op₁) x y σ₂ (fun c σ₃ => W1 prog w B A truthy c σ₃ (bQ fun b σ₄ =>
      if b then WE prog w B A env r₂ ρ σ₄ (fun z σ₅ => W2 prog w B A (compareOp op₂) y z σ₅ (fun c' σ₆ => W1 prog w B A truthy c' σ₆ (bQ Q) X) X) X else Q false σ₄) X) X) X) X)
    (hm : lastMarks [op₁, op₂] [r₁, r₂] = false := by with_unfolding_all rfl) : WT prog w B A env (.Compare l [op₁, op₂] [r₁, r₂] pos) ρ σ Q X := fun φ s G L =>
  isTrue_chain ((h φ s G L).use (.refl ..) fun a s₁ φ₁ σ₁ t₁ _ G₁ ⟨x, hx, h₁⟩ => test_link ((h₁ φ₁ s₁ G₁ (L.step G t₁)).use t₁ fun b s₂ φ₂ σ₂ t₂ t G₂ ⟨y, hy, h₂⟩ =>
    (h₂ φ₂ s₂ a b G₂ (hx.step G₁ t₂) hy).use t fun c s₃ φ₃ σ₃ t₃ t' G₃ ⟨z, hz, h₃⟩ => (h₃ φ₃ s₃ c G₃ hz).use t' fun d s₄ φ₄ σ₄ t₄ t'' G₄ h₄ => by
      cases d
      · exact ⟨_, _, t'', G₄, h₄⟩
      · exact test_last ((h₄ φ₄ s₄ G₄ (L.step G t'')).use t'' fun e s₅ φ₅ σ₅ t₅ t5 G₅ ⟨z', hz', h₅⟩ => (h₅ φ₅ s₅ b e G₅ (hy.step G₂ (t₃.trans0 (t₄.trans0 t₅))) hz').use t5
          fun c' s₆ φ₆ σ₆ t₆ t6 G₆ ⟨y', hy', h₆⟩ => (h₆ φ₆ s₆ c' G₆ hy').last t6))) hm

/-! and, or of any number, as values -/
def WBo (prog : Program) (w : World) (B : Shared) (A : Around) (env : Env) (op : BoolOp) (es : List Expr) (ρ : List (Str × V)) (σ : List AObj) (Q : V → List AObj → Prop) (X : XT) : Prop :=
  ∀ pos φ s, St prog w B φ σ s → Loc B env ρ φ s.heap → W prog w B A (boolOp pos op (evalEach es env)) φ s (vQ Q) X
theorem E_boolop {op : BoolOp} {es : List Expr} {pos : Pos} (h : WBo prog w B A env op es ρ σ Q X) : WE prog w B A env (.BoolOp op es pos) ρ σ Q X := fun φ s G L => h pos φ s G L
theorem Bo_one {op : BoolOp} {e : Expr} (h : WE prog w B A env e ρ σ Q X) : WBo prog w B A env op [e] ρ σ Q X := fun pos φ s G L => h φ s G L
theorem Bo_and {e e' : Expr} {es : List Expr} (h : WE prog w B A env e ρ σ (fun v σ₁ => W1 prog w B A truthy v σ₁ (bQ fun b σ₂ => if b then WBo prog w B A env .And (e' :: es) ρ σ₂ Q X else Q v σ₂) X) X) : WBo prog w B A env .And (e :: e' :: es) ρ σ Q X := fun pos φ s G L => by
  show wpAny _ _ (do
    let v ← eval e env
    standAt pos
    let t ← holding [v] (truthy v)
    match BoolOp.And, t with
    | .And, false | .Or, true => pure v
    | _, _ => boolOp pos .And (evalEach (e' :: es) env)) _ _ _
  refine wpAny_bind ((h φ s G L).use (.refl ..) fun a s₁ φ₁ σ₁ t₁ _ G₁ ⟨x, hx, h₁⟩ => wpAny_bind (wpAny_standAt (wpAny_bind (wpAny_holding ((h₁ φ₁ s₁ a G₁ hx).use t₁ fun b s₂ φ₂ σ₂ t₂ t G₂ h₂ => ?_)))))
  cases b
  · exact wpAny_pure ⟨_, _, t, G₂, x, hx.step G₁ t₂, h₂⟩
  · exact (h₂ pos φ₂ s₂ G₂ (L.step G t)).last t
theorem Bo_or {e e' : Expr} {es : List Expr} (h : WE prog w B A env e ρ σ (fun v σ₁ => W1 prog w B A truthy v σ₁ (bQ fun b σ₂ => if b then Q v σ₂ else WBo prog w B A env .Or (e' :: es) ρ σ₂ Q X) X) X) : WBo prog w B A env .Or (e :: e' :: es) ρ σ Q X := fun pos φ s G L => by
  show wpAny _ _ (do
    let v ← eval e env
    standAt pos
    let t ← holding [v] (truthy v)
    match BoolOp.Or, t with
    | .And, false | .Or, true => pure v
    | _, _ => boolOp pos .Or (evalEach (e' :: es) env)) _ _ _
  refine wpAny_bind ((h φ s G L).use (.refl ..) fun a s₁ φ₁ σ₁ t₁ _ G₁ ⟨x, hx, h₁⟩ => wpAny_bind (wpAny_standAt (wpAny_bind (wpAny_holding ((h₁ φ₁ s₁ a G₁ hx).use t₁ fun b s₂ φ₂ σ₂ t₂ t G₂ h₂ => ?_)))))
  cases b
  · exact (h₂ pos φ₂ s₂ G₂ (L.step G t)).last t
  · exact wpAny_pure ⟨_, _, t, G₂, x, hx.step G₁ t₂, h₂⟩

/-! built-ins of ints -/
theorem C_max {a b : Int} (hh : A.handled = none) (q : Q (.int (max a b)) σ) : WC prog w B A (.builtin "max") [.int a, .int b] σ Q X := fun φ s vs G hv => by
  rw [Vals] at hv; obtain ⟨v, r, rfl, h1, hv⟩ := hv
  rw [Vals] at hv; obtain ⟨u, r, rfl, h2, hv⟩ := hv
  rw [Vals] at hv; subst hv
  obtain ⟨t, rfl⟩ := h1.of_int; obtain ⟨t', rfl⟩ := h2.of_int
  refine max_two_ints hh fun h' tk hk => ⟨φ, σ, .of_keeps hk, G.keeps hk, .int (max a b), ?_, q⟩
  split
  · rw [Int.max_eq_right (by omega)]; exact .int_ _ _
  · rw [Int.max_eq_left (by omega)]; exact .int_ _ _
theorem C_min {a b : Int} (hh : A.handled = none) (q : Q (.int (min a b)) σ) : WC prog w B A (.builtin "min") [.int a, .int b] σ Q X := fun φ s vs G hv => by
  rw [Vals] at hv; obtain ⟨v, r, rfl, h1, hv⟩ := hv
  rw [Vals] at hv; obtain ⟨u, r, rfl, h2, hv⟩ := hv
  rw [Vals] at hv; subst hv
  obtain ⟨t, rfl⟩ := h1.of_int; obtain ⟨t', rfl⟩ := h2.of_int
  refine min_two_ints hh fun h' tk hk => ⟨φ, σ, .of_keeps hk, G.keeps hk, .int (min a b), ?_, q⟩
  split
  · rw [Int.min_eq_right (by omega)]; exact .int_ _ _
  · rw [Int.min_eq_left (by omega)]; exact .int_ _ _
end
end Mine

set_option autoImplicit false
set_option linter.unusedVariables false
namespace Mine
open PySem PySem.W PySem.Calls PyProof.Rows

/-- what may be called plainly -/
def Keep (B : Shared) (f : Value) : Prop :=
  ∀ (M : Model) (h : Heap), (∀ b o, B.heap.get? b = some o → h.get? b = some o) → ∃ k, (k = Keeper.frame ∨ k = Keeper.machine ∨ k = Keeper.boundFrame) ∧ Looks M h (keeperOf f) k

section
variable {prog : Program} {w : World} {B : Shared} {φ : List Addr} {σ : List AObj} {s : Shared} {env : Env} {ρ : List (Str × V)} {A : Around} {X : XT} {Q : V → List AObj → Prop}

theorem Keep.builtin (id : String) : Keep B (.builtin id) := fun M h _ => ⟨.machine, .inr (.inl rfl), .now⟩
theorem Keep.type (T : String) : Keep B (.type T) := fun M h _ => ⟨.machine, .inr (.inl rfl), .now⟩
theorem Keep.fn {a : Addr} {names : List Str} {fd : FuncData} {body : List Stmt} (F : Fn B a names fd body) : Keep B (.ref a) := fun M h hk => by
  obtain ⟨o, ho, hd⟩ := F.at_
  refine ⟨.frame, .inl rfl, (Looks.ld (part := none) (hk _ _ ho)).andThen ?_⟩
  rw [hd]; exact .now
theorem Keep.frag {K : Frag} {f : Value} (X : K.In B.heap) (e : keepIn K f = true) : Keep B f := fun M h hk => keeps_K e h (fun a o q => hk a o (X a o q))

theorem evalArgs_any {M : Model} {E : Value → Shared → Prop} {f : Value} {args : List (Bool × Sem Value)} {R : Args → Shared → Prop} (hp : args.any (·.1) = false) (h : wpAny M A (spliced args) (fun vs s' => R ⟨vs, []⟩ s') E s) :
    wpAny M A (evalArgs f true args []) R E s := by
  match args, hp, h with
  | [], _, h =>
    unfold evalArgs
    show wpAny M A (spliced [] >>= _) R E s
    refine wpAny_bind (wpAny_mono h (fun vs s' h' => ?_) fun _ _ x => x)
    refine wpAny_holding ?_
    exact wpAny_bind (wpAny_pure (wpAny_bind (wpAny_pure (wpAny_pure h'))))
  | (false, x) :: rest, _, h => exact evalArgs_plain h
  | (true, x) :: rest, hp, _ => simp at hp

theorem E_call {f : Value} {x : Str} {px pos : Pos} {es : List Expr} (hf : WE prog w B A env (.Name x px) ρ σ (fun y σ₁ => y = .raw f ∧ WEs prog w B A env es ρ σ₁ (fun xs σ₂ => WC prog w B A f xs σ₂ Q X) X) X) (hk : Keep B f)
    (hp : ∀ pos, (backTo pos (starEach es env)).any (·.1) = false := by intro _; with_unfolding_all rfl) :
    WE prog w B A env (.Call (.Name x px) es [] pos) ρ σ Q X := fun φ s G L => by
  refine wpAny_Call_NameR ((hf φ s G L).use (.refl ..) fun v s₁ φ₁ σ₁ t₁ _ G₁ ⟨y, hy, e, h₁⟩ => ?_)
  subst e
  have hv := hy.of_raw
  subst hv
  refine callWith_of (P := fun h => ∀ b o, B.heap.get? b = some o → h.get? b = some o) (by rw [hp pos]; rfl) (fun h hb => hk _ h hb) ?_
  have main := (h₁ pos φ₁ s₁ G₁ (L.step G t₁)).use t₁ (R := fun vs s₂ => (∀ b o, B.heap.get? b = some o → s₂.heap.get? b = some o) ∧ wpAny (model prog w) A (call v ([] ++ vs)) (Post prog w B [] φ s (vQ Q)) (Post prog w B [] φ s X) s₂) fun vs s₂ φ₂ σ₂ t₂ t G₂ ⟨xs, hxs, h₂⟩ => ⟨G₂.base, (h₂ φ₂ s₂ vs G₂ hxs).last t⟩
  exact evalArgs_any (hp pos) main
end
end Mine

set_option autoImplicit false
set_option linter.unusedVariables false
namespace Mine
open PySem PySem.W PySem.Calls PyProof.Rows

section
variable {prog : Program} {w : World} {B : Shared} {φ φ' : List Addr} {σ σ' : List AObj} {s s' : Shared} {env : Env} {ρ : List (Str × V)} {A : Around} {X : XT} {Q : V → List AObj → Prop}

/-- an iterator at I that hands out n values -/
structure Itr (prog : Program) (w : World) (B : Shared) (A : Around) (I : Addr) (n : Nat) (el : Nat → V) (C : List AObj → Prop) (Ss : Nat → List Addr → Heap → Prop) : Prop where
  obj : ∀ i φ h, Ss i φ h → ∃ o, h.get? I = some o ∧ o.cls ≠ .type "frame" ∧ ¬ Still o
  frame : ∀ i φ φ' h h', Ss i φ h → φ <+: φ' → (∀ o, h.get? I = some o → h'.get? I = some o) → (∀ a o, h.get? a = some o → Still o → h'.get? a = some o) → Ss i φ' h'
  item : ∀ i φ σ s (Q : Option Value → Shared → Prop) (E : Value → Shared → Prop), i < n → St prog w B φ σ s → C σ → Ss i φ s.heap →
    (∀ v h' tk, Val φ h' (el i) v → Ss (i + 1) φ h' → (∀ b o, b ≠ I → s.heap.get? b = some o → h'.get? b = some o) → Q (some v) { s with heap := h', toks := tk }) → wpAny (model prog w) A (pyNext (.ref I)) Q E s
  done : ∀ φ σ s (Q : Option Value → Shared → Prop) (E : Value → Shared → Prop), St prog w B φ σ s → C σ → Ss n φ s.heap →
    (∀ h' tk, (∀ b o, b ≠ I → s.heap.get? b = some o → h'.get? b = some o) → Q none { s with heap := h', toks := tk }) → wpAny (model prog w) A (pyNext (.ref I)) Q E s
  self : ∀ i φ s (Q : Value → Shared → Prop) (E : Value → Shared → Prop), Ss i φ s.heap → Q (.ref I) s → wpAny (model prog w) A (pyIter (.ref I)) Q E s

/-- a value that can be walked; σ₁: the heap while it is walked -/
def WIt (prog : Program) (w : World) (B : Shared) (A : Around) (x : V) (σ σ₁ : List AObj) (n : Nat) (el : Nat → V) (C : List AObj → Prop) : Prop :=
  ∀ φ s v (R : Value → Shared → Prop) (E : Value → Shared → Prop), St prog w B φ σ s → Val φ s.heap x v →
    (∀ I h₁ Ss, (∀ b o, s.heap.get? b = some o → h₁.get? b = some o) → s.heap.get? I = none → I ∉ φ → Itr prog w B A I n el C Ss → Ss 0 φ h₁ → St prog w B φ σ₁ { s with heap := h₁ } → R (.ref I) { s with heap := h₁ }) →
    wpAny (model prog w) A (pyIter v) R E s

theorem St.but {s' : Shared} {c : Addr} (G : St prog w B φ σ s) (hs : ∀ b o, b ≠ c → s.heap.get? b = some o → s'.heap.get? b = some o) (hc : c ∉ φ) (hb : B.heap.get? c = none) (hn : ∀ o, s.heap.get? c = some o → ¬ Still o)
    (hg : s'.gens = s.gens := by rfl) (ho : s'.os = s.os := by rfl) : St prog w B φ σ s' := by
  refine ⟨fun b o e => hs b o (fun h => by rw [h, hb] at e; cases e) (G.base b o e), G.new, G.nodup, G.len, fun k a ob h1 h2 => ?_, hg.trans G.gens, ho.trans G.os, G.sys⟩
  refine (G.objs k a ob h1 h2).mono (List.prefix_refl _) (fun a o e hst => hs a o (fun h => hn o (h ▸ e) hst) e) fun o e => hs a o (fun h => hc (h ▸ List.mem_of_getElem? h1)) e
theorem Loc.but {h h' : Heap} {c : Addr} (L : Loc B env ρ φ h) (hs : ∀ b o, b ≠ c → h.get? b = some o → h'.get? b = some o) (hc : c ∉ fr env) (hn : ∀ o, h.get? c = some o → ¬ Still o) : Loc B env ρ φ h' := by
  have hk : ∀ a ∈ fr env, ∀ o, h.get? a = some o → ∃ o', h'.get? a = some o' ∧ Sim o o' := fun a ha o e => ⟨o, hs a o (fun h => hc (h ▸ ha)) e, .refl o⟩
  refine ⟨L.kind, L.glob, L.blt, ?_, L.own, fun x d hm => ?_, L.apart, fun x v hx => ?_⟩
  · obtain ⟨m, n⟩ := L.ns; exact ⟨m, Ns.upTo n (hk _ (.head _))⟩
  · obtain ⟨v, n⟩ := L.cells x d hm; exact ⟨v, IsCell.upTo n (hk _ (mem_fr_cell hm))⟩
  · obtain ⟨val, hb, hv⟩ := L.val x v hx
    refine ⟨val, ?_, Val.mono (List.prefix_refl _) (fun a o e hst => hs a o (fun h => hn o (h ▸ e) hst) e) v hv⟩
    rcases hb with ⟨k, m, n, e⟩ | ⟨k, d, e, n⟩
    · exact .inl ⟨k, m, Ns.upTo n (hk _ (.head _)), e⟩
    · exact .inr ⟨k, d, e, IsCell.upTo n (hk _ (mem_fr_cell (mem_of_lookup e)))⟩

/-- what a turn of a loop leaves -/
def turnQ (Iv : List (Str × V) → List AObj → Prop) (C : List AObj → Prop) (Q : Fl → List (Str × V) → List AObj → Prop) : Fl → List (Str × V) → List AObj → Prop
  | .next, ρ', σ' => C σ' ∧ Iv ρ' σ'
  | .cont, ρ', σ' => C σ' ∧ Iv ρ' σ'
  | .brk, ρ', σ' => Q .next ρ' σ'
  | .ret x, ρ', σ' => Q (.ret x) ρ' σ'

theorem X_for {x : Str} {px pos : Pos} {iter : Expr} {body : List Stmt} {Q : Fl → List (Str × V) → List AObj → Prop} 
    (h : WE prog w B A env iter ρ σ (fun v σ' => ∃ σ₁ n el C, ∃ Iv : Nat → List (Str × V) → List AObj → Prop, WIt prog w B A v σ' σ₁ n el C ∧ C σ₁ ∧ Iv 0 ρ σ₁ ∧
      (∀ i ρ₂ σ₂, i < n → C σ₂ → Iv i ρ₂ σ₂ → WX prog w B A env body ((x, el i) :: ρ₂) σ₂ (turnQ (Iv (i + 1)) C Q) (fun _ _ _ _ => False)) ∧
      (∀ ρ₂ σ₂, C σ₂ → Iv n ρ₂ σ₂ → Q .next ρ₂ σ₂)) X)
    (hx : env.kindOf x = some .local ∨ env.kindOf x = some .cell ∧ (env.cells.lookup x).isSome = true)
    (hs : ∀ v, foldedSetIterable iter env v = pure v := by intro _; with_unfolding_all rfl) (hl : ∀ it v, letOwnedTupleGo (.Name x px) it v = pure () := by intro _ _; with_unfolding_all rfl) :
    WX1 prog w B A env (.For (.Name x px) iter body [] pos) ρ σ Q X := fun φ s G L => by
  refine wpAny_For (h.then G L fun v s₁ φ₁ σ' y t₁ G₁ L₁ hy hq => ?_) hs
  obtain ⟨σ₁, n, el, C, Iv, hit, hC, hI, hbody, hend⟩ := hq
  refine hit φ₁ s₁ v _ _ G₁ hy fun I h₁ Ss hk hI0 hIφ W hS G₂ => ?_
  have tk0 : Step [] φ₁ s₁.heap φ₁ h₁ := .of_keeps hk
  have L₂ : Loc B env ρ φ₁ h₁ := L₁.step G₁ tk0
  have hIfr : I ∉ fr env := fun hm => by obtain ⟨o, e, _⟩ := L₁.there hm; rw [hI0] at e; cases e
  have hIB : B.heap.get? I = none := G₁.baseSize hI0
  have hI0' : s.heap.get? I = none := by
    cases e : s.heap.get? I with
    | none => rfl
    | some o =>
      by_cases hm : I ∈ φ
      · exact absurd (t₁.pre.subset hm) hIφ
      · obtain ⟨o', e', _⟩ := t₁.keep I o e hm (fun h => nomatch h); rw [hI0] at e'; cases e'
  have t₂ : Step (fr env) φ s.heap φ₁ h₁ := Step.nilD (t₁.trans0 tk0)
  -- the loop
  refine codeAny_forLoop_any (fun k s' => ∃ i φ' σ' ρ', k = n - i ∧ i ≤ n ∧ Step (fr env) φ s.heap φ' s'.heap ∧ St prog w B φ' σ' s' ∧ Loc B env ρ' φ' s'.heap ∧ I ∉ φ' ∧ Ss i φ' s'.heap ∧ C σ' ∧ Iv i ρ' σ') ?_ n
    ⟨0, φ₁, σ₁, ρ, rfl, Nat.zero_le _, t₂, G₂, L₂, hIφ, hS, hC, hI⟩
  rintro k s' ⟨i, φ', σ', ρ', rfl, hin, tt, G', L', hIφ', hS', hC', hI'⟩
  by_cases hlt : i < n
  · refine W.item i φ' σ' s' _ _ hlt G' hC' hS' fun v h₃ tk hv hS₃ hk₃ => ?_
    refine wpAny_of_eq (hl _ _) ?_
    obtain ⟨oI, heI, hcI, hnI⟩ := W.obj _ _ _ hS'
    have hnI' : ∀ o, s'.heap.get? I = some o → ¬ Still o := fun o e => by rw [heI] at e; cases e; exact hnI
    have G₃ : St prog w B φ' σ' { s' with heap := h₃, toks := tk } := G'.but (s' := { s' with heap := h₃, toks := tk }) hk₃ hIφ' hIB hnI'
    have L₃ : Loc B env ρ' φ' h₃ := L'.but hk₃ hIfr hnI'
    refine wpAny_assign_Name (store_name (s := { s' with heap := h₃, toks := tk }) G₃ L₃ hv hx fun h₄ tk₄ t₄ G₄ L₄ => ?_)
    refine wpAny_mono (hbody i ρ' σ' hlt hC' hI' φ' _ G₄ L₄) (fun f s₅ ⟨φ₅, σ₅, t₅, G₅, fl, ρ₅, hf, L₅, q⟩ => ?_) (fun e s₅ ⟨_, _, _, _, x⟩ => x.elim)
    have t3 : Step (fr env) φ s.heap φ' h₃ := by
      refine ⟨tt.pre, tt.fresh, fun b o e h1 h2 => ?_⟩
      obtain ⟨o', e', hs'⟩ := tt.keep b o e h1 h2
      exact ⟨o', hk₃ b o' (fun h => by rw [h, hI0'] at e; cases e) e', hs'⟩
    have t5 : Step (fr env) φ s.heap φ₅ s₅.heap := (t3.transF t₄ L₃).transF t₅ L₄
    have hS₄ : Ss (i + 1) φ' h₄ := by
      obtain ⟨oJ, heJ, hcJ, hnJ⟩ := W.obj _ _ _ hS₃
      refine W.frame _ _ _ _ _ hS₃ (List.prefix_refl _) (fun o e => ?_) (t₄.still G₃ (fr_notStill L₃))
      rw [heJ] at e; cases e
      obtain ⟨o', e', hs'⟩ := t₄.keep I oJ heJ hIφ' hIfr
      rw [hs'.same hcJ] at e'; exact e'
    have hIφ₅ : I ∉ φ₅ := fun hm => by
      obtain ⟨oJ, heJ, hcJ, hnJ⟩ := W.obj _ _ _ hS₄
      rcases t₅.fresh I hm with h | h
      · exact hIφ' h
      · rw [heJ] at h; cases h
    have hS₅ : Ss (i + 1) φ₅ s₅.heap := by
      obtain ⟨oJ, heJ, hcJ, hnJ⟩ := W.obj _ _ _ hS₄
      refine W.frame _ _ _ _ _ hS₄ t₅.pre (fun o e => ?_) (t₅.still G₄ (fr_notStill L₄))
      rw [heJ] at e; cases e
      obtain ⟨o', e', hs'⟩ := t₅.keep I oJ heJ hIφ' hIfr
      rw [hs'.same hcJ] at e'; exact e'
    cases fl with
    | next => obtain rfl : f = .next := hf; exact ⟨n - (i + 1), by omega, i + 1, φ₅, σ₅, ρ₅, rfl, hlt, t5, G₅, L₅, hIφ₅, hS₅, q.1, q.2⟩
    | cont => obtain rfl : f = .cont := hf; exact ⟨n - (i + 1), by omega, i + 1, φ₅, σ₅, ρ₅, rfl, hlt, t5, G₅, L₅, hIφ₅, hS₅, q.1, q.2⟩
    | brk => obtain rfl : f = .brk := hf; exact ⟨φ₅, σ₅, t5, G₅, .next, ρ₅, rfl, L₅, q⟩
    | ret y => obtain ⟨u, rfl, hu⟩ := hf; exact ⟨φ₅, σ₅, t5, G₅, .ret y, ρ₅, ⟨u, rfl, hu⟩, L₅, q⟩
  · have hin' : i = n := by omega
    subst hin'
    refine W.done φ' σ' s' _ _ G' hC' hS' fun h₃ tk hk₃ => ?_
    obtain ⟨oI, heI, hcI, hnI⟩ := W.obj _ _ _ hS'
    have hnI' : ∀ o, s'.heap.get? I = some o → ¬ Still o := fun o e => by rw [heI] at e; cases e; exact hnI
    have G₃ : St prog w B φ' σ' { s' with heap := h₃, toks := tk } := G'.but (s' := { s' with heap := h₃, toks := tk }) hk₃ hIφ' hIB hnI'
    have L₃ : Loc B env ρ' φ' h₃ := L'.but hk₃ hIfr hnI'
    have t3 : Step (fr env) φ s.heap φ' h₃ := by
      refine ⟨tt.pre, tt.fresh, fun b o e h1 h2 => ?_⟩
      obtain ⟨o', e', hs'⟩ := tt.keep b o e h1 h2
      exact ⟨o', hk₃ b o' (fun h => by rw [h, hI0'] at e; cases e) e', hs'⟩
    exact wpAny_execs_nil ⟨φ', σ', t3, G₃, .next, ρ', rfl, L₃, hend ρ' σ' hC' hI'⟩
end
end Mine

set_option autoImplicit false
set_option linter.unusedVariables false
namespace Mine
open PySem PySem.W PySem.Calls PyProof.Rows

section
variable {prog : Program} {w : World} {B : Shared} {φ φ' : List Addr} {σ σ' : List AObj} {s s' : Shared} {env : Env} {ρ : List (Str × V)} {A : Around} {X : XT} {Q : V → List AObj → Prop}

theorem St.get (G : St prog w B φ σ s) {k : Nat} {ob : AObj} (h : σ[k]? = some ob) : ∃ a, φ[k]? = some a ∧ ObjR prog w φ s.heap a ob := by
  have hk := (List.getElem?_eq_some_iff.mp h).1
  have e := List.getElem?_eq_getElem (l := φ) (i := k) (G.len ▸ hk)
  exact ⟨_, e, G.objs k _ ob e h⟩
theorem idx_mono {k : Nat} {a : Addr} (hp : φ <+: φ') (h : φ[k]? = some a) : φ'[k]? = some a := by
  obtain ⟨r, rfl⟩ := hp
  rw [List.getElem?_append_left (List.getElem?_eq_some_iff.mp h).1]; exact h

/-- from the library's walks: sources that the call's objects do not touch -/
theorem Itr.ofWalks {I : Addr} {n : Nat} {el : Nat → V} {P : Nat → Value → Prop} {Sw : Nat → Heap → Prop} (W : Walks prog w A I [I] [I] n P Sw)
    (hobj : ∀ i h, Sw i h → ∃ o, h.get? I = some o ∧ o.cls ≠ .type "frame" ∧ ¬ Still o) (hel : ∀ (φ : List Addr) h i v, P i v → Val φ h (el i) v) :
    Itr prog w B A I n el (fun _ => True) (fun i _ h => Sw i h) where
  obj := fun i _ h hs => hobj i h hs
  frame := fun i _ _ h h' hs _ hk _ => W.frame i h h' hs fun b hb o e => by simp at hb; subst hb; exact hk o e
  item := fun i φ σ s Q E hi _ _ hs hq => W.item i s Q E hi hs fun v h' tk hP hS hk => hq v h' tk (hel _ _ _ _ hP) hS fun b o hb e => hk b o (by simpa using hb) e
  done := fun φ σ s Q E _ _ hs hq => W.done s Q E hs fun h' tk hk => hq h' tk fun b o hb e => hk b o (by simpa using hb) e
  self := fun i φ s Q E hs hq => W.self i s Q E hs hq

theorem small_of {a b c : Int} (h1 : -(2 ^ 62) ≤ a) (h2 : a < 2 ^ 62) (h3 : -(2 ^ 62) ≤ b) (h4 : b < 2 ^ 62) : Builtin.Range.small a b 1 = true := small_one h1 h2 h3 h4

/-- range(a, b) -/
theorem It_range {a b : Int} (hh : A.handled = none) (h1 : -(2 ^ 62) ≤ a) (h2 : a < 2 ^ 62) (h3 : -(2 ^ 62) ≤ b) (h4 : b < 2 ^ 62) :
    WIt prog w B A (.rng a b 1) σ σ (b - a).toNat (fun i => .int (a + i)) (fun _ => True) := fun φ s v R E G hv k => by
  rw [Val] at hv
  obtain ⟨r, t, u, kk, rfl, ho⟩ := hv
  refine wpAny_pyIter_range ho (small_one h1 h2 h3 h4) ?_
  have hsz : Builtin.Range.rangeSize a b 1 = ((b - a).toNat : Int) := by rw [rangeSize_one]; split <;> omega
  have hk : ∀ (c : Addr) (o : Obj), s.heap.get? c = some o → (s.heap.push { cls := .type "range_iterator", data := .fields #[rawInt a, rawInt (Builtin.Range.rangeSize a b 1), rawInt 1] }).get? c = some o := fun c o e => Heap.get?_push_of_some _ e
  refine k s.heap.objs.size _ _ hk (get?_size _) G.fresh (Itr.ofWalks (Walks.range hh s.heap.objs.size a 1 (b - a).toNat) (fun i h hs => ⟨_, hs, by simp, notStill_type rfl (by decide) (by decide)⟩) fun φ h i v ⟨t, e⟩ => by subst e; simpa using Val.int_ _ _) ?_ (G.keeps hk)
  show IsRangeIter _ _ (a + ((0 : Nat) : Int) * 1) (((b - a).toNat : Int) - ((0 : Nat) : Int)) 1
  have e1 : (a + ((0 : Nat) : Int) * 1) = a := by simp
  have e2 : (((b - a).toNat : Int) - ((0 : Nat) : Int)) = Builtin.Range.rangeSize a b 1 := by rw [hsz]; simp
  rw [e1, e2]
  exact Heap.get?_push_size _ rfl

/-- the signs of a text -/
def signAt (x : Str) (i : Nat) : Str := ⟨#[x.cps.getD i 0]⟩
theorem It_str {x : Str} (hh : A.handled = none) : WIt prog w B A (.str x) σ σ x.cps.size (fun i => .str (signAt x i)) (fun _ => True) := fun φ s v R E G hv k => by
  obtain ⟨t, rfl⟩ := hv.of_str
  have hk : ∀ (ob : Obj) (c : Addr) (o : Obj), s.heap.get? c = some o → (s.heap.push ob).get? c = some o := fun ob c o e => Heap.get?_push_of_some _ e
  have hel : ∀ (φ : List Addr) (h : Heap) (i : Nat) (v : Value), SignAt x i v → Val φ h (.str (signAt x i)) v := fun φ h i v ⟨c, u, hc, e⟩ => by
    subst e
    have : signAt x i = ⟨#[c]⟩ := by unfold signAt; rw [Array.getD_eq_getD_getElem?, hc]; rfl
    rw [this]; exact .str_ _ _
  cases ha : x.cps.all (· < 128)
  · refine wpAny_pyIter_wide ha (k s.heap.objs.size _ _ (hk _) (get?_size _) G.fresh (Itr.ofWalks (Walks.strWide hh s.heap.objs.size x t) (fun i h hs => ?_) hel) ⟨_, Heap.get?_push_size _ rfl, rfl, rfl⟩ (G.keeps (hk _)))
    obtain ⟨o, ho, hc, hd⟩ := hs
    exact ⟨o, ho, by rw [hc]; simp, notStill_type hc (by decide) (by decide)⟩
  · refine wpAny_pyIter_ascii ha (k s.heap.objs.size _ _ (hk _) (get?_size _) G.fresh (Itr.ofWalks (Walks.strAscii hh s.heap.objs.size x t) (fun i h hs => ?_) hel) ⟨_, Heap.get?_push_size _ rfl, rfl, rfl⟩ (G.keeps (hk _)))
    obtain ⟨o, ho, hc, hd⟩ := hs
    exact ⟨o, ho, by rw [hc]; simp, notStill_type hc (by decide) (by decide)⟩

/-- the items of a list of the call's -/
theorem It_list {k : Nat} {xs : List V} (hh : A.handled = none) (hσ : σ[k]? = some (.list xs)) : WIt prog w B A (.ref k) σ σ xs.length (fun i => xs.getD i .none) (fun σ' => σ'[k]? = some (.list xs)) := fun φ s v R E G hv kont => by
  obtain ⟨a, rfl, ha⟩ := hv.of_ref
  obtain ⟨a', ha', vs, n, ho, hvs⟩ := G.get hσ
  rw [ha] at ha'; cases ha'
  have hk : ∀ (c : Addr) (o : Obj), s.heap.get? c = some o → (s.heap.push { cls := .type "list_iterator", data := .fields #[.ref a, .int 0 0] }).get? c = some o := fun c o e => Heap.get?_push_of_some _ e
  refine wpAny_pyIter_list ⟨_, ho, rfl, n, rfl⟩ (kont s.heap.objs.size _ (fun i φ h => ∃ a, φ[k]? = some a ∧ a ≠ s.heap.objs.size ∧ h.IsListIter s.heap.objs.size a i) hk (get?_size _) G.fresh ?_ ⟨a, ha, fun e => ?_, ⟨_, Heap.get?_push_size _ rfl, rfl, rfl⟩⟩ (G.keeps hk))
  · refine ⟨fun i φ h ⟨a, _, _, o, ho, hc, _⟩ => ⟨o, ho, by rw [hc]; simp, notStill_type hc (by decide) (by decide)⟩, fun i φ φ' h h' ⟨a, ha, hne, o, ho, r⟩ hp hk _ => ⟨a, idx_mono hp ha, hne, o, hk o ho, r⟩, ?_, ?_, fun i φ s Q E ⟨a, _, _, hs⟩ hq => wpAny_pyIter_listiter hs hq⟩
    · intro i φ' σ' s' Q E hi G' hC ⟨a, ha, hne, hs⟩ hq
      obtain ⟨a', ha', vs, n, ho, hvs⟩ := G'.get hC
      rw [ha] at ha'; cases ha'
      obtain ⟨v, hv, hvv⟩ := hvs.get (i := i) (x := xs.getD i .none) (by rw [List.getD_eq_getElem?_getD, List.getElem?_eq_getElem hi]; rfl)
      refine wpAny_pyNext_list_item hs ⟨_, ho, rfl, n, rfl⟩ (by rw [← Array.getElem?_toList]; exact hv) fun h' hs' hsb => ?_
      obtain ⟨oI, heI, hcI, _⟩ := hs
      exact hq v h' _ (hvv.sameBut hsb fun o e => by rw [heI] at e; cases e; exact notStill_type hcI (by decide) (by decide)) ⟨a, ha, hne, hs'⟩ fun b o hb e => hsb.extBut b o hb e
    · intro φ' σ' s' Q E G' hC ⟨a, ha, hne, hs⟩ hq
      obtain ⟨a', ha', vs, n, ho, hvs⟩ := G'.get hC
      rw [ha] at ha'; cases ha'
      refine wpAny_pyNext_list_end hh hs ⟨_, ho, rfl, n, rfl⟩ ?_ fun h' hx => hq h' _ fun b o hb e => hx b o hb e
      have := hvs.length
      rw [← Array.getElem?_toList, List.getElem?_eq_none]; omega
  · rw [e, get?_size] at ho; cases ho

theorem St.notSys (G : St prog w B φ σ s) {a : Addr} (ha : a ∈ φ) : (a == sysModules) = false := by
  cases e : a == sysModules with
  | false => rfl
  | true => exact absurd (eq_of_beq e ▸ ha) G.sys.2

/-- a dict with its epoch held -/
def pin (σ : List AObj) (k : Nat) (es : List (Key × V)) (ep : Nat) : List AObj := σ.set k (.dict es (some ep))
theorem St.pin {k : Nat} {es : List (Key × V)} {e : Option Nat} (G : St prog w B φ σ s) (hσ : σ[k]? = some (.dict es e)) : ∃ ep, (∀ n, e = some n → ep = n) ∧ St prog w B φ (pin σ k es ep) s ∧
    ∃ a kvs, φ[k]? = some a ∧ s.heap.DictAt (kk prog w) a kvs ep ∧ Ents φ s.heap es kvs := by
  obtain ⟨a, ha, kvs, ep, h1, h2, h3⟩ := G.get hσ
  refine ⟨ep, h3, ?_, a, kvs, ha, h1, h2⟩
  have hk := (List.getElem?_eq_some_iff.mp hσ).1
  refine ⟨G.base, G.new, G.nodup, by simp [Mine.pin, G.len], fun j b ob j1 j2 => ?_, G.gens, G.os, G.sys⟩
  by_cases hj : j = k
  · subst hj
    rw [Mine.pin, List.getElem?_set_self hk] at j2; cases j2
    rw [ha] at j1; cases j1
    exact ⟨kvs, ep, h1, h2, fun n e => by cases e; rfl⟩
  · rw [Mine.pin, List.getElem?_set_ne (Ne.symm hj)] at j2
    exact G.objs j b ob j1 j2
theorem St.unpin {k : Nat} {es : List (Key × V)} {e : Option Nat} {ep : Nat} (G : St prog w B φ σ s) (hσ : σ[k]? = some (.dict es (some ep))) (he : ∀ n, e = some n → ep = n) : St prog w B φ (σ.set k (.dict es e)) s := by
  have hk := (List.getElem?_eq_some_iff.mp hσ).1
  refine ⟨G.base, G.new, G.nodup, by simp [G.len], fun j b ob j1 j2 => ?_, G.gens, G.os, G.sys⟩
  by_cases hj : j = k
  · subst hj
    rw [List.getElem?_set_self hk] at j2; cases j2
    obtain ⟨a, ha, kvs, ep', h1, h2, h3⟩ := G.get hσ
    rw [ha] at j1; cases j1
    have := h3 ep rfl
    subst this
    exact ⟨kvs, ep', h1, h2, he⟩
  · rw [List.getElem?_set_ne (Ne.symm hj)] at j2
    exact G.objs j b ob j1 j2

theorem Ents.get {h : Heap} : ∀ {es : List (Key × V)} {kvs : List (Key × Value)}, Ents φ h es kvs → ∀ {i : Nat} {p : Key × V}, es[i]? = some p → ∃ v, kvs[i]? = some (p.1, v) ∧ Val φ h p.2 v
  | _, _, .nil, i, p, hp => by simp at hp
  | _, _, .cons h1 h2, 0, p, hp => by simp at hp; subst hp; exact ⟨_, rfl, h1⟩
  | _, _, .cons h1 h2, i + 1, p, hp => by simpa using Ents.get h2 (by simpa using hp)
theorem Key.val {h : Heap} {k : Key} {v : Value} (e : k.is v = true) : Val φ h k.v v := by
  rcases Key.is_shape e with ⟨x, t, rfl, rfl⟩ | ⟨n, t, rfl, rfl⟩
  · exact .str_ _ _
  · exact .int_ _ _
def keyAt (es : List (Key × V)) (i : Nat) : V := (es.getD i (.i 0, .none)).1.v

/-- the keys of a dict of the call's -/
theorem It_dict {k : Nat} {es : List (Key × V)} {e : Option Nat} {ep : Nat} (hh : A.handled = none) (hσ : σ[k]? = some (.dict es (some ep)))   :
    WIt prog w B A (.ref k) σ σ es.length (keyAt es) (fun σ' => σ'[k]? = some (.dict es (some ep))) := fun φ s v R E G hv kont => by
  obtain ⟨a, rfl, ha⟩ := hv.of_ref
  obtain ⟨a', ha', kvs, ep', hd, hvs, hep⟩ := G.get hσ
  rw [ha] at ha'; cases ha'
  obtain rfl := hep ep rfl
  have hlen := hvs.length
  have hk : ∀ (c : Addr) (o : Obj), s.heap.get? c = some o → (s.heap.push { cls := .type "dict_keyiterator", data := .fields #[.ref a, .int 0 0, .int kvs.length 0, .int ep' 0] }).get? c = some o := fun c o e => Heap.get?_push_of_some _ e
  refine wpAny_pyIter_dict (G.notSys (List.mem_of_getElem? ha)) hd (kont s.heap.objs.size _ (fun i φ h => ∃ a, φ[k]? = some a ∧ a ≠ s.heap.objs.size ∧ h.IsKeyIter s.heap.objs.size a i es.length ep') hk (get?_size _) G.fresh ?_ ⟨a, ha, fun e => ?_, ⟨_, Heap.get?_push_size _ rfl, rfl, by rw [hlen]; rfl⟩⟩ (G.keeps hk))
  · refine ⟨fun i φ h ⟨a, _, _, o, ho, hc, _⟩ => ⟨o, ho, by rw [hc]; simp, notStill_type hc (by decide) (by decide)⟩, fun i φ φ' h h' ⟨a, ha, hne, o, ho, r⟩ hp hk _ => ⟨a, idx_mono hp ha, hne, o, hk o ho, r⟩, ?_, ?_, fun i φ s Q E ⟨a, _, _, hs⟩ hq => wpAny_pyIter_keyiter hs hq⟩
    · intro i φ' σ' s' Q E hi G' hC ⟨a, ha, hne, hs⟩ hq
      obtain ⟨a', ha', kvs, ep2, hd2, hvs2, hep2⟩ := G'.get hC
      rw [ha] at ha'; cases ha'
      have hee := hep2 _ rfl
      subst hee
      obtain ⟨v, hv, hvv⟩ := hvs2.get (i := i) (p := es[i]) (List.getElem?_eq_getElem hi)
      refine wpAny_pyNext_dict_item (by rw [hvs2.length]; exact hs) hd2 hv fun key h' hkey hs' hsb => ?_
      rw [hvs2.length] at hs'
      refine hq key h' _ ?_ ⟨a, ha, hne, hs'⟩ fun b o hb e => hsb.extBut b o hb e
      have : keyAt es i = (es[i]).1.v := by unfold keyAt; rw [List.getD_eq_getElem?_getD, List.getElem?_eq_getElem hi]; rfl
      rw [this]; exact Key.val hkey
    · intro φ' σ' s' Q E G' hC ⟨a, ha, hne, hs⟩ hq
      obtain ⟨a', ha', kvs, ep2, hd2, hvs2, hep2⟩ := G'.get hC
      rw [ha] at ha'; cases ha'
      have hee := hep2 _ rfl
      subst hee
      refine wpAny_pyNext_dict_end hh (by rw [hvs2.length]; exact hs) hd2 ?_ fun h' hx => hq h' _ fun b o hb e => hx b o hb e
      rw [List.getElem?_eq_none]; rw [hvs2.length]; exact Nat.le_refl _
  · have := hd.lt_size; rw [e] at this; exact Nat.lt_irrefl _ this
end
end Mine

set_option autoImplicit false
set_option linter.unusedVariables false
namespace Mine
open PySem PySem.W PySem.Calls PyProof.Rows

/-- the names that a comprehension sees of its frame -/
def sub (ρ : List (Str × V)) (fv : List Str) : List (Str × V) := fv.filterMap fun x => (ρ.lookup x).map fun v => (x, v)
theorem sub_lookup {ρ : List (Str × V)} : ∀ {fv : List Str} {x : Str} {v : V}, (sub ρ fv).lookup x = some v → x ∈ fv ∧ ρ.lookup x = some v
  | [], x, v, h => by simp [sub] at h
  | y :: r, x, v, h => by
    unfold sub at h
    rw [List.filterMap_cons] at h
    cases e : ρ.lookup y with
    | none => rw [e] at h; simp only [Option.map_none] at h; obtain ⟨h1, h2⟩ := sub_lookup (fv := r) h; exact ⟨.tail _ h1, h2⟩
    | some u =>
      rw [e] at h
      simp only [Option.map_some, List.lookup_cons] at h
      cases hb : x == y with
      | true => rw [hb] at h; cases h; have := eq_of_beq hb; subst this; exact ⟨.head _, e⟩
      | false => rw [hb] at h; obtain ⟨h1, h2⟩ := sub_lookup (fv := r) h; exact ⟨.tail _ h1, h2⟩

section
variable {prog : Program} {w : World} {B : Shared} {φ φ' : List Addr} {σ σ' : List AObj} {s s' : Shared} {env : Env} {ρ : List (Str × V)} {A : Around} {X : XT} {Q : V → List AObj → Prop}

/-- what a comprehension's names must be -/
structure CompOk (env : Env) (scope : Scope) (cl : List (Str × Addr)) (x : Str) (fv : List Str) : Prop where
  clos : closureFor scope env = pure cl
  cell : ∀ y ∈ scope.names, y.2 ≠ .cell
  kind : scope.kind = .function
  names : ∀ y ∈ scope.names, y.2 = .local → scope.names.lookup y.1 = some .local
  x : scope.names.lookup x = some .local
  mem : ∀ p ∈ cl, p ∈ env.cells
  apart : cl.Pairwise fun x y => x.2 ≠ y.2
  fv : ∀ y ∈ fv, (relabel scope env).names.lookup y = some .cell ∧ env.kindOf y = some .cell ∧ cl.lookup y = env.cells.lookup y

/-- a list through its own changes -/
theorem St.setList {k : Nat} {c : Addr} {ys : List V} {s' : Shared} {items : Array Value} {n : Nat} (G : St prog w B φ σ s) (hc : φ[k]? = some c) (hs : Heap.SameBut c s.heap s'.heap) (ho : s'.heap.get? c = some { cls := .type "list", data := .seq items n })
    (hv : Vals φ s.heap ys items.toList) (hn : ∀ o, s.heap.get? c = some o → ¬ Still o) (hg : s'.gens = s.gens := by rfl) (hos : s'.os = s.os := by rfl) : St prog w B φ (σ.set k (.list ys)) s' :=
  G.update hc hs ⟨items, n, ho, Vals.mono (List.prefix_refl _) (fun a o e hst => hs.extBut a o (fun h => hn o (h ▸ e) hst) e) ys hv⟩ hg hos

theorem list_append {k : Nat} {a : Addr} {ys : List V} {y : V} {v : Value} {R : Value → Shared → Prop} {E : Value → Shared → Prop} (G : St prog w B φ σ s) (hk : φ[k]? = some a) (hσ : σ[k]? = some (.list ys)) (hy : Val φ s.heap y v) (hl : ys.length ≤ sizeLine)
    (h : ∀ h', Heap.SameBut a s.heap h' → St prog w B φ (σ.set k (.list (ys ++ [y]))) { s with heap := h' } → R .none { s with heap := h' }) :
    wpAny (model prog w) A (call (.builtin "list.append") [.ref a, v]) R E s := by
  obtain ⟨a', ha', vs, n, ho, hvs⟩ := G.get hσ
  rw [hk] at ha'; cases ha'
  have hn : ∀ o, s.heap.get? a = some o → ¬ Still o := fun o e => G.notStill (List.mem_of_getElem? hk) e
  refine wpAny_list_append_plain (hsz := by have := hvs.length; simp at this; omega) ⟨n, ho⟩ fun h' ⟨n', ho'⟩ hs => h h' hs (G.setList (s' := { s with heap := h' }) hk hs ho' ?_ hn)
  simpa using hvs.append (Vals.cons hy .nil)

/-- the walk of a comprehension: what it leaves in acc -/
theorem comp_core {elt iter : Expr} {x : Str} {px : Pos} {scope : Scope} {cl : List (Str × Addr)} {pos : Pos} {fv : List Str} {I : Addr} {n : Nat} {el : Nat → V} {C : List AObj → Prop} {Ss : Nat → List Addr → Heap → Prop} {RR : Value → Addr → Result → Shared → Prop} {E : Value → Shared → Prop}
    (K : CompOk env scope cl x fv) (W : Itr prog w B A I n el C Ss) (G : St prog w B φ σ s) (L : Loc B env ρ φ s.heap) (hIφ : I ∉ φ) (hIB : B.heap.get? I = none) (hIfr : I ∉ fr env) (hS : Ss 0 φ s.heap)
    (Iv : Nat → List AObj → Prop) (hC : C (σ ++ [.list []])) (hI : Iv 0 (σ ++ [.list []]))
    (helt : ∀ D i σ₂, i < n → C σ₂ → Iv i σ₂ → WE prog w B A (compEnvC scope cl D env) elt ((x, el i) :: sub ρ fv) σ₂ (fun y σ₃ => ∃ ys, σ₃[σ.length]? = some (.list ys) ∧ ys.length ≤ sizeLine ∧ C (σ₃.set σ.length (.list (ys ++ [y]))) ∧ Iv (i + 1) (σ₃.set σ.length (.list (ys ++ [y])))) (fun _ _ _ _ => False))
    (hRR : ∀ a D φ' σ' h' tk gs dr os, φ'[σ.length]? = some a → s.heap.get? D = none → D ∉ φ' → B.heap.get? D = none → (∃ m, h'.Ns D m) → (∀ b o, b ≠ I → s.heap.get? b = some o → b ∉ φ → ∃ o', h'.get? b = some o' ∧ Sim o o') → φ <+: φ' → (∀ b ∈ φ', b ∈ φ ∨ s.heap.get? b = none) →
      St prog w B φ' σ' ⟨h', gs, dr, tk, os⟩ → C σ' → Iv n σ' → RR (.ref a) D (.ok .next) ⟨h', gs, dr, tk, os⟩) :
    wpAny (model prog w) A (newList []) (fun acc s₃ => wpAny (model prog w) A (newFunctionEnv scope env.globals cl [] env.qual none .none (some env)) (fun cenv s₄ =>
      codeAny (model prog w) A (.compStart (.ListComp elt [⟨.Name x px, iter, [], 0⟩] scope pos) 0 (.ref I) acc { cenv with scope := relabel scope env }) (RR acc cenv.locals) s₄) E s₃) E s := by
  refine wpAny_newList ?_ (by simp)
  -- the list
  have hk1 : ∀ b o, s.heap.get? b = some o → (s.heap.push { cls := .type "list", data := .seq ([] : List Value).toArray }).get? b = some o := fun b o e => Heap.get?_push_of_some _ e
  have t1 : Step [] φ s.heap (φ ++ [s.heap.objs.size]) (s.heap.push { cls := .type "list", data := .seq ([] : List Value).toArray }) := Step.alloc (s' := { s with heap := s.heap.push { cls := .type "list", data := .seq ([] : List Value).toArray } }) (get?_size _) hk1
  have G1 : St prog w B (φ ++ [s.heap.objs.size]) (σ ++ [.list []]) { s with heap := s.heap.push { cls := .type "list", data := .seq ([] : List Value).toArray } } :=
    G.alloc (ob := .list []) (get?_size _) hk1 ⟨_, 0, Heap.get?_push_size _ rfl, by simpa using Vals.nil⟩ G.fresh G.sizeNe
  -- the frame of the comprehension
  refine wpAny_newFunctionEnv K.cell (by intro y hy; simp at hy) (fun h2 hns2 hsb2 => ?_) K.kind
  dsimp only at hns2 hsb2 ⊢
  generalize hH : s.heap.push { cls := .type "list", dict := none, data := .seq ([] : List Value).toArray } = H at hk1 t1 G1 hns2 hsb2 ⊢
  have hHs : H.objs.size = s.heap.objs.size + 1 := by rw [← hH, Heap.size_push]
  have hD0 : H.get? H.objs.size = none := get?_size _
  have hk2 : ∀ b o, H.get? b = some o → h2.get? b = some o := fun b o e => hsb2.extBut b o (Nat.ne_of_lt (Heap.lt_size e)) (Heap.get?_push_of_some _ e)
  have G2 : St prog w B (φ ++ [s.heap.objs.size]) (σ ++ [.list []]) { s with heap := h2, toks := s.toks + ([] : List (Str × Value)).length } := G1.keeps (s' := { s with heap := h2, toks := s.toks + ([] : List (Str × Value)).length }) hk2
  have hkk : ∀ b o, s.heap.get? b = some o → h2.get? b = some o := fun b o e => hk2 b o (hk1 b o e)
  have hDφ : H.objs.size ∉ φ ++ [s.heap.objs.size] := G1.fresh
  have hDB : B.heap.get? H.objs.size = none := G1.baseSize hD0
  have hDs : s.heap.get? H.objs.size = none := get?_of_ge (by omega)
  have hla : (φ ++ [s.heap.objs.size])[σ.length]? = some s.heap.objs.size := by rw [← G.len]; simp
  have hIs : ∃ o, s.heap.get? I = some o ∧ o.cls ≠ .type "frame" ∧ ¬ Still o := W.obj _ _ _ hS
  have hIlt : I < s.heap.objs.size := let ⟨_, e, _⟩ := hIs; Heap.lt_size e
  have hID : I ≠ H.objs.size := Nat.ne_of_lt (by rw [hHs]; exact Nat.lt_succ_of_lt hIlt)
  have hIφ1 : I ∉ φ ++ [s.heap.objs.size] := fun h => (List.mem_append.mp h).elim hIφ fun h => Nat.ne_of_lt hIlt (List.mem_singleton.mp h)
  have hS2 : Ss 0 (φ ++ [s.heap.objs.size]) h2 := W.frame _ _ _ _ _ hS (List.prefix_append _ _) (fun o e => hkk _ _ e) fun a o e _ => hkk _ _ e
  -- the names in it
  have hIfr2 : I ∉ fr (compEnvC scope cl H.objs.size env) := fun h => by
    rcases List.mem_cons.mp h with h | h
    · exact hID h
    · obtain ⟨p, hp, e⟩ := List.mem_map.mp h
      exact hIfr (e ▸ mem_fr_cell (x := p.1) (c := p.2) (K.mem p hp))
  have L2 : Loc B (compEnvC scope cl H.objs.size env) (sub ρ fv) (φ ++ [s.heap.objs.size]) h2 := by
    have Le := (L.step G t1)
    refine ⟨K.kind, L.glob, L.blt, ⟨_, hns2⟩, fun a ha => ?_, fun y c hm => ?_, K.apart, fun y v hy => ?_⟩
    · rcases List.mem_cons.mp ha with rfl | ha
      · exact ⟨hDφ, hDB⟩
      · obtain ⟨p, hp, e⟩ := List.mem_map.mp ha
        exact Le.own a (e ▸ mem_fr_cell (x := p.1) (c := p.2) (K.mem p hp))
    · obtain ⟨v, hv⟩ := L.cells y c (K.mem _ hm)
      exact ⟨v, hv.keeps hkk⟩
    · obtain ⟨hyf, hyl⟩ := sub_lookup hy
      obtain ⟨hy1, hy2, hy3⟩ := K.fv y hyf
      obtain ⟨val, hb, hv⟩ := L.val y v hyl
      refine ⟨val, ?_, (hv.step G t1).step G1 (.of_keeps hk2)⟩
      rcases hb with ⟨k, _⟩ | ⟨k, c, e, hc⟩
      · rw [hy2] at k; cases k
      · exact .inr ⟨.inl hy1, c, hy3.trans e, hc.keeps hkk⟩
  -- the loop
  have loop : codeAny (model prog w) A (.compLoop (.ListComp elt [⟨.Name x px, iter, [], 0⟩] scope pos) 0 (.ref I) (.ref s.heap.objs.size) (compEnvC scope cl H.objs.size env)) (RR (.ref s.heap.objs.size) H.objs.size) { s with heap := h2, toks := s.toks + ([] : List (Str × Value)).length } := by
    refine codeAny_compLoop_list (fun k s' => ∃ i φ' σ', k = n - i ∧ i ≤ n ∧ φ ++ [s.heap.objs.size] <+: φ' ∧ (∀ b ∈ φ', b ∈ φ ++ [s.heap.objs.size] ∨ h2.get? b = none) ∧
      (∀ b o, b ≠ I → h2.get? b = some o → b ∉ φ ++ [s.heap.objs.size] → b ≠ H.objs.size → ∃ o', s'.heap.get? b = some o' ∧ Sim o o') ∧
      St prog w B φ' σ' s' ∧ Loc B (compEnvC scope cl H.objs.size env) (sub ρ fv) φ' s'.heap ∧ I ∉ φ' ∧ Ss i φ' s'.heap ∧ C σ' ∧ Iv i σ') ?_ n
      ⟨0, _, _, rfl, Nat.zero_le _, List.prefix_refl _, fun b h => .inl h, fun b o _ e _ _ => ⟨o, e, .refl o⟩, G2, L2, hIφ1, hS2, hC, hI⟩
    rintro k s' ⟨i, φ', σ', rfl, hin, hp, hfr, hkp, G', L', hIφ', hS', hC', hI'⟩
    obtain ⟨oI, heI, hcI, hnI⟩ := W.obj _ _ _ hS'
    have hnI' : ∀ o, s'.heap.get? I = some o → ¬ Still o := fun o e => by rw [heI] at e; cases e; exact hnI
    by_cases hlt : i < n
    · refine W.item i φ' σ' s' _ _ hlt G' hC' hS' fun v h₃ tk hv hS₃ hk₃ => ?_
      have G₃ : St prog w B φ' σ' { s' with heap := h₃, toks := tk } := G'.but (s' := { s' with heap := h₃, toks := tk }) hk₃ hIφ' hIB hnI'
      have L₃ : Loc B (compEnvC scope cl H.objs.size env) (sub ρ fv) φ' h₃ := L'.but hk₃ hIfr2 hnI'
      obtain ⟨oJ, heJ, hcJ, hnJ⟩ := W.obj _ _ _ hS₃
      refine wpAny_assign_Name (store_local (s := { s' with heap := h₃, toks := tk }) (y := el i) G₃ L₃ hv (lookup_relabel_local K.x) fun h₄ tk₄ hs₄ G₄ L₄ => ?_)
      have hD4 : (compEnvC scope cl H.objs.size env).locals = H.objs.size := rfl
      rw [hD4] at hs₄
      refine wpAny_mono (helt H.objs.size i σ' hlt hC' hI' φ' _ G₄ L₄) (fun y s₅ ⟨φ₅, σ₅, t₅, G₅, yv, hyv, ys, hys, hyl, hC5, hI5⟩ => ?_) (fun e s₅ ⟨_, _, _, _, x⟩ => x.elim)
      have hla' : φ₅[σ.length]? = some s.heap.objs.size := idx_mono t₅.pre (idx_mono hp hla)
      have ham : s.heap.objs.size ∈ φ ++ [s.heap.objs.size] := List.mem_append_right _ (.head _)
      refine list_append G₅ hla' hys hyv hyl fun h₆ hs₆ G₆ => ?_
      have eI4 : h₄.get? I = some oJ := hs₄.extBut I oJ hID heJ
      have hIφ₅ : I ∉ φ₅ := fun hm => by
        rcases t₅.fresh I hm with h | h
        · exact hIφ' h
        · rw [eI4] at h; cases h
      have eI5 : s₅.heap.get? I = some oJ := by
        obtain ⟨o', e', hs'⟩ := t₅.keep I oJ eI4 hIφ' (fun h => nomatch h)
        rw [hs'.same hcJ] at e'; exact e'
      have hIa : I ≠ s.heap.objs.size := Nat.ne_of_lt hIlt
      have eI6 : h₆.get? I = some oJ := hs₆.extBut I oJ hIa eI5
      have hS₄ : Ss (i + 1) φ' h₄ := W.frame _ _ _ _ _ hS₃ (List.prefix_refl _) (fun o e => by rw [heJ] at e; cases e; exact eI4) fun a o e hst => hs₄.extBut a o (fun h => fr_notStill L₃ _ (.head _) o (by rw [h] at e; exact e) hst) e
      have hS₅ : Ss (i + 1) φ₅ s₅.heap := W.frame _ _ _ _ _ hS₄ t₅.pre (fun o e => by rw [eI4] at e; cases e; exact eI5) (t₅.still G₄ fun _ h => nomatch h)
      have ham5 : s.heap.objs.size ∈ φ₅ := List.mem_of_getElem? hla'
      have hS₆ : Ss (i + 1) φ₅ h₆ := W.frame _ _ _ _ _ hS₅ (List.prefix_refl _) (fun o e => by rw [eI5] at e; cases e; exact eI6) fun a o e hst => hs₆.extBut a o (fun h => G₅.notStill (h ▸ ham5) e hst) e
      refine ⟨n - (i + 1), by omega, i + 1, φ₅, _, rfl, hlt, hp.trans t₅.pre, fun b hb => ?_, fun b o hb e h1 h2 => ?_, G₆, ?_, hIφ₅, hS₆, hC5, hI5⟩
      · rcases t₅.fresh b hb with h | h
        · exact hfr b h
        · by_cases hbH : b = H.objs.size
          · subst hbH
            obtain ⟨o, e, _⟩ := L₄.there (.head _)
            rw [hD4, h] at e; cases e
          · by_cases hbI : b = I
            · subst hbI; rw [eI4] at h; cases h
            · cases e : h2.get? b with
              | none => exact .inr rfl
              | some o =>
                by_cases hbφ : b ∈ φ ++ [s.heap.objs.size]
                · exact .inl hbφ
                · obtain ⟨o', e', _⟩ := hkp b o hbI e hbφ hbH
                  have := hs₄.extBut b o' hbH (hk₃ b o' hbI e')
                  rw [h] at this; cases this
      · obtain ⟨o', e', hs'⟩ := hkp b o hb e h1 h2
        have e4 := hs₄.extBut b o' h2 (hk₃ b o' hb e')
        have hbφ' : b ∉ φ' := fun hm => by
          rcases hfr b hm with h | h
          · exact h1 h
          · rw [e] at h; cases h
        obtain ⟨o5, e5, hs5⟩ := t₅.keep b o' e4 hbφ' (fun h => nomatch h)
        exact ⟨o5, hs₆.extBut b o5 (fun h => h1 (h ▸ ham)) e5, hs'.trans hs5⟩
      · have L5 := (L₄.weaken (ρ' := sub ρ fv) fun z v hz => by
          by_cases hzx : z = x
          · subst hzx
            obtain ⟨hzf, _⟩ := sub_lookup hz
            have h1 := (K.fv z hzf).1
            have h2 : (relabel scope env).names.lookup z = some .local := lookup_relabel_local K.x
            rw [h2] at h1; cases h1
          · rw [lookup_cons_ne hzx]; exact hz).step G₄ t₅
        refine L5.but (c := s.heap.objs.size) (fun b o hb e => hs₆.extBut b o hb e) (fun hm => (L5.own _ hm).1 ham5) fun o e => G₅.notStill ham5 e
    · have hin' : i = n := by omega
      subst hin'
      refine W.done φ' σ' s' _ _ G' hC' hS' fun h₃ tk hk₃ => ?_
      have G₃ : St prog w B φ' σ' { s' with heap := h₃, toks := tk } := G'.but (s' := { s' with heap := h₃, toks := tk }) hk₃ hIφ' hIB hnI'
      have L₃ : Loc B (compEnvC scope cl H.objs.size env) (sub ρ fv) φ' h₃ := L'.but hk₃ hIfr2 hnI'
      refine hRR s.heap.objs.size H.objs.size φ' σ' h₃ tk _ _ _ (idx_mono hp hla) hDs (L₃.own _ (.head _)).1 hDB L₃.ns (fun b o hb e h1 => ?_) ((List.prefix_append _ _).trans hp) (fun b hb => ?_) G₃ hC' hI'
      · have hbs : b ≠ s.heap.objs.size := fun h => by rw [h, get?_size] at e; cases e
        have hbH : b ≠ H.objs.size := fun h => by rw [h, hDs] at e; cases e
        obtain ⟨o', e', hs'⟩ := hkp b o hb (hkk b o e) (fun h => (List.mem_append.mp h).elim h1 fun h => hbs (List.mem_singleton.mp h)) hbH
        exact ⟨o', hk₃ b o' hb e', hs'⟩
      · rcases hfr b hb with h | h
        · rcases List.mem_append.mp h with h | h
          · exact .inl h
          · obtain rfl := List.mem_singleton.mp h; exact .inr (get?_size _)
        · right
          cases e : s.heap.get? b with
          | none => rfl
          | some o => rw [hkk b o e] at h; cases h
  exact codeAny_compStart_list loop (W.self 0 _ _ _ _ hS2 loop)

/-- a comprehension, as a value -/
theorem E_comp {elt iter : Expr} {x : Str} {px : Pos} {scope : Scope} {cl : List (Str × Addr)} {pos : Pos} {fv : List Str} (K : CompOk env scope cl x fv)
    (h : WE prog w B A env iter ρ σ (fun v σ' => ∃ σ₁ n el C, ∃ Iv : Nat → List AObj → Prop, WIt prog w B A v σ' σ₁ n el C ∧ C (σ₁ ++ [.list []]) ∧ Iv 0 (σ₁ ++ [.list []]) ∧
      (∀ D i σ₂, i < n → C σ₂ → Iv i σ₂ → WE prog w B A (compEnvC scope cl D env) elt ((x, el i) :: sub ρ fv) σ₂ (fun y σ₃ => ∃ ys, σ₃[σ₁.length]? = some (.list ys) ∧ ys.length ≤ sizeLine ∧ C (σ₃.set σ₁.length (.list (ys ++ [y]))) ∧ Iv (i + 1) (σ₃.set σ₁.length (.list (ys ++ [y])))) (fun _ _ _ _ => False)) ∧
      (∀ σ₂, C σ₂ → Iv n σ₂ → Q (.ref σ₁.length) σ₂)) X)
    (hs : ∀ v, foldedSetIterable iter env v = pure v := by intro _; with_unfolding_all rfl) :
    WE prog w B A env (.ListComp elt [⟨.Name x px, iter, [], 0⟩] scope pos) ρ σ Q X := fun φ s G L => by
  show wpAny _ _ _ _ _ _
  rw [eval_ListComp]
  refine wpAny_comprehension_free (use := none) rfl hs K.clos K.kind K.names ((h φ s G L).use (.refl ..) fun v s₁ φ₁ σ' t₁ _ G₁ ⟨y, hy, hq⟩ => ?_)
  obtain ⟨σ₁, n, el, C, Iv, hit, hC, hI, helt, hend⟩ := hq
  have L₁ := L.step G t₁
  refine hit φ₁ s₁ v _ _ G₁ hy fun I h₁ Ss hk hI0 hIφ W hS G₂ => ?_
  have tk0 : Step [] φ₁ s₁.heap φ₁ h₁ := .of_keeps hk
  have L₂ : Loc B env ρ φ₁ h₁ := L₁.step G₁ tk0
  have hIfr : I ∉ fr env := fun hm => by obtain ⟨o, e, _⟩ := L₁.there hm; rw [hI0] at e; cases e
  refine comp_core (RR := fun acc D => compPost (model prog w) A (Post prog w B [] φ s X) none (Post prog w B [] φ s (vQ Q)) acc D) (s := { s₁ with heap := h₁ }) K W G₂ L₂ hIφ (G₁.baseSize hI0) hIfr hS Iv hC hI helt ?_
  intro a D φ' σ₂ h' tk gs dr os ha hD hDφ hDB hns hkp hpre hfr G' hC' hI'
  obtain ⟨m, hm⟩ := hns
  refine ⟨m, hm, fun h'' hsb => ?_⟩
  have hnD : ∀ o, h'.get? D = some o → ¬ Still o := fun o e => by
    obtain ⟨o', es, ep, e', hd, _⟩ := hm
    rw [e] at e'; cases e'; exact notStill_dict hd
  have G'' : St prog w B φ' σ₂ ⟨h'', gs, dr, tk, os⟩ := G'.sameBut (s' := ⟨h'', gs, dr, tk, os⟩) hsb hDφ hDB hnD
  have t' : Step [] φ₁ s₁.heap φ' h'' := by
    refine ⟨hpre, fun b hb => (hfr b hb).imp id fun h => ?_, fun b o e h1 _ => ?_⟩
    · cases e : s₁.heap.get? b with
      | none => rfl
      | some o => rw [hk b o e] at h; cases h
    · obtain ⟨o', e', hs'⟩ := hkp b o (fun h => by rw [h, hI0] at e; cases e) (hk b o e) h1
      exact ⟨o', hsb.extBut b o' (fun h => by rw [h] at e; have := hk _ _ e; rw [hD] at this; cases this) e', hs'⟩
  refine ⟨φ', σ₂, t₁.trans0 t', G'', .ref σ₁.length, ?_, hend σ₂ hC' hI'⟩
  rw [Val]; exact ⟨a, rfl, ha⟩

/-- a comprehension stored under a name of the frame on the same line -/
theorem X_comp {elt iter : Expr} {x y : Str} {px py : Pos} {scope : Scope} {cl : List (Str × Addr)} {pos spos : Pos} {fv : List Str} {Q : Fl → List (Str × V) → List AObj → Prop} (K : CompOk env scope cl x fv)
    (h : WE prog w B A env iter ρ σ (fun v σ' => ∃ σ₁ n el C, ∃ Iv : Nat → List AObj → Prop, WIt prog w B A v σ' σ₁ n el C ∧ C (σ₁ ++ [.list []]) ∧ Iv 0 (σ₁ ++ [.list []]) ∧
      (∀ D i σ₂, i < n → C σ₂ → Iv i σ₂ → WE prog w B A (compEnvC scope cl D env) elt ((x, el i) :: sub ρ fv) σ₂ (fun y σ₃ => ∃ ys, σ₃[σ₁.length]? = some (.list ys) ∧ ys.length ≤ sizeLine ∧ C (σ₃.set σ₁.length (.list (ys ++ [y]))) ∧ Iv (i + 1) (σ₃.set σ₁.length (.list (ys ++ [y])))) (fun _ _ _ _ => False)) ∧
      (∀ σ₂, C σ₂ → Iv n σ₂ → Q .next ((y, .ref σ₁.length) :: ρ) σ₂)) X)
    (hy : env.kindOf y = some .local)
    (hsw : swapsWith (.ListComp elt [⟨.Name x px, iter, [], 0⟩] scope pos) (some (.Name y py)) spos.line env = pure true := by rfl)
    (hs : ∀ v, foldedSetIterable iter env v = pure v := by intro _; with_unfolding_all rfl) :
    WX1 prog w B A env (.Assign [.Name y py] (.ListComp elt [⟨.Name x px, iter, [], 0⟩] scope pos) spos) ρ σ Q X := fun φ s G L => by
  show wpAny _ _ _ _ _ _
  rw [exec_Assign_Name_used _ _ _ _ hsw]
  refine wpAny_bind (wpAny_standAt (wpAny_bind ?_))
  show wpAny _ A (do let _ ← comprehension (.ListComp elt [⟨.Name x px, iter, [], 0⟩] scope pos) scope env _ (newList []) false (eval iter env) (some (assign (.Name y py) env))) _ _ s
  refine wpAny_bind (wpAny_mono (wpAny_comprehension_free (use := some (assign (.Name y py) env)) (Q := fun _ s' => Post prog w B (fr env) φ s (fQ B env Q) .next s') rfl hs K.clos K.kind K.names ?_) (fun _ s' hq => wpAny_pure (wpAny_pure hq)) fun _ _ e => e)
  refine h.then G L fun v s₁ φ₁ σ' vx t₁ G₁ L₁ hvx hq => ?_
  obtain ⟨σ₁, n, el, C, Iv, hit, hC, hI, helt, hend⟩ := hq
  refine hit φ₁ s₁ v _ _ G₁ hvx fun I h₁ Ss hk hI0 hIφ W hS G₂ => ?_
  have tk0 : Step [] φ₁ s₁.heap φ₁ h₁ := .of_keeps hk
  have L₂ : Loc B env ρ φ₁ h₁ := L₁.step G₁ tk0
  have hIfr : I ∉ fr env := fun hm => by obtain ⟨o, e, _⟩ := L₁.there hm; rw [hI0] at e; cases e
  refine comp_core (RR := fun acc D => compPost (model prog w) A (Post prog w B (fr env) φ s X) (some (assign (.Name y py) env)) (fun _ s' => Post prog w B (fr env) φ s (fQ B env Q) .next s') acc D) (s := { s₁ with heap := h₁ }) K W G₂ L₂ hIφ (G₁.baseSize hI0) hIfr hS Iv hC hI helt ?_
  intro a D φ' σ₂ h' tk gs dr os ha hD hDφ hDB hns hkp hpre hfr G' hC' hI'
  have hnD : ∀ o, h'.get? D = some o → ¬ Still o := fun o e => by
    obtain ⟨m, o', es, ep, e', hd, _⟩ := hns
    rw [e] at e'; cases e'; exact notStill_dict hd
  have t' : Step [] φ₁ s₁.heap φ' h' := by
    refine ⟨hpre, fun b hb => (hfr b hb).imp id fun h => ?_, fun b o e h1 _ => hkp b o (fun h => by rw [h, hI0] at e; cases e) (hk b o e) h1⟩
    cases e : s₁.heap.get? b with
    | none => rfl
    | some o => rw [hk b o e] at h; cases h
  have L' : Loc B env ρ φ' h' := L₁.step G₁ t'
  have hDfr : D ∉ fr env := fun hm => by obtain ⟨o, e, _⟩ := L₁.there hm; have := hk _ _ e; rw [hD] at this; cases this
  show wpAny _ A (assign (.Name y py) env (.ref a)) _ _ _
  refine wpAny_assign_Name (store_local (s := ⟨h', gs, dr, tk, os⟩) (y := .ref σ₁.length) G' L' (by rw [Val]; exact ⟨a, rfl, ha⟩) hy fun h₅ tk₅ hs₅ G₅ L₅ => ?_)
  obtain ⟨m, hm⟩ := hns
  have hLD : D ≠ env.locals := fun h => hDfr (h ▸ .head _)
  refine ⟨m, hm.sameBut hs₅ hLD, fun h'' hsb => ?_⟩
  have hnD5 : ∀ o, h₅.get? D = some o → ¬ Still o := fun o e => by
    obtain ⟨o', es, ep, e', hd, _⟩ := hm.sameBut hs₅ hLD
    rw [e] at e'; cases e'; exact notStill_dict hd
  have G'' : St prog w B φ' σ₂ ⟨h'', gs, dr, tk₅, os⟩ := G₅.sameBut (s' := ⟨h'', gs, dr, tk₅, os⟩) hsb hDφ hDB hnD5
  have L'' : Loc B env ((y, .ref σ₁.length) :: ρ) φ' h'' := L₅.but (fun b o hb e => hsb.extBut b o hb e) hDfr hnD5
  have t'' : Step (fr env) φ₁ s₁.heap φ' h'' := by
    refine ⟨t'.pre, t'.fresh, fun b o e h1 h2 => ?_⟩
    obtain ⟨o', e', hs'⟩ := t'.keep b o e h1 (fun h => nomatch h)
    exact ⟨o', hsb.extBut b o' (fun h => by rw [h] at e; have := hk _ _ e; rw [hD] at this; cases this) (hs₅.extBut b o' (fun h => h2 (h ▸ .head _)) e'), hs'⟩
  exact ⟨φ', σ₂, Step.transF t₁.nilD t'' L₁, G'', .next, _, rfl, L'', hend σ₂ hC' hI'⟩
end
end Mine

set_option autoImplicit false
set_option linter.unusedVariables false
set_option maxRecDepth 100000
namespace Mine
open PySem PySem.W PySem.Calls PyProof.Rows

section
variable {prog : Program} {w : World} {B : Shared} {φ φ' : List Addr} {σ σ' : List AObj} {s s' : Shared} {env : Env} {ρ : List (Str × V)} {A : Around} {X : XT} {Q : V → List AObj → Prop}

/-- an item of a plain list stored -/
theorem setItem_plain {l : Addr} {items : Array Value} {n : Nat} {k : Int} {t : Tok} {v : Value} {R : Unit → Shared → Prop} {E : Value → Shared → Prop} (ho : s.heap.get? l = some { cls := .type "list", data := .seq items n }) (h0 : 0 ≤ k) (hf : k < 2 ^ 63) (hj : k < items.size)
    (h : ∀ h' n', h'.get? l = some { cls := .type "list", data := .seq (items.setIfInBounds k.toNat v) n' } → Heap.SameBut l s.heap h' → R () { s with heap := h' }) :
    wpAny (model prog w) A (setItem (.ref l) (.int k t) v) R E s := by
  have hT : s.TypeIs (.ref l) "list" := ⟨_, ho, rfl⟩
  unfold setItem
  try with_reducible refine wpAny_holding ?_
  first | refine wpAny_bind (wpAny_pure ?_) | skip
  refine wpAny_bind (wpAny_sequenceKey hT (by decide) ?_)
  refine wpAny_bind (wpAny_callSpecial?_slot (name := Str.ofString "__setitem__") hT slot_list_setitem
    (wpAny_call_entry slot_list_setitem hT entry_list_setitem ?_ (args_list_setitem _ _ _)))
  show wpAny _ _ (Builtin.List.listSubscript? (.int k t) >>= _) _ _ s
  refine wpAny_bind (wpAny_listSubscript_int (fitsIndex_of h0 hf) ?_)
  clear hf
  obtain ⟨j, rfl⟩ := Int.eq_ofNat_of_zero_le h0
  have hj' : j < items.size := by omega
  show wpAny _ _ ((seqItemAt l j >>= fun r => pure (r.map (j, ·))) >>= _) _ _ s
  refine wpAny_bind (wpAny_bind (wpAny_seqItemAt ho rfl (wpAny_pure ?_)))
  rw [Array.getElem?_eq_getElem hj']
  show wpAny _ _ (setSeqItemAt l j v >>= _) _ _ s
  have hfin : (s.heap.update l (Obj.mapSeq (·.setIfInBounds j v))).get? l = some { cls := .type "list", data := .seq (items.setIfInBounds j v) n } := by
    rw [Heap.get?_update_self _ ho rfl]
    simp [Obj.mapSeq]
  refine wpAny_bind (wpAny_setSeqItemAt ho rfl ?_)
  exact wpAny_pure ⟨.none, rfl, wpAny_pure (h _ _ hfin (Heap.SameBut.update ..))⟩

/-! subscripts -/
def WSub (prog : Program) (w : World) (B : Shared) (A : Around) (value slice : Expr) (x y : V) (σ : List AObj) (Q : V → List AObj → Prop) (X : XT) : Prop :=
  ∀ φ s v u, St prog w B φ σ s → Val φ s.heap x v → Val φ s.heap y u → W prog w B A (subscriptTail value slice v u) φ s (vQ Q) X
theorem E_sub {value slice : Expr} {pos : Pos} (h : WE prog w B A env value ρ σ (fun x σ₁ => WE prog w B A env slice ρ σ₁ (fun y σ₂ => WSub prog w B A value slice x y σ₂ Q X) X) X) : WE prog w B A env (.Subscript value slice pos) ρ σ Q X := fun φ s G L =>
  Subscript_ ((h φ s G L).use (.refl ..) fun a s₁ φ₁ σ₁ t₁ _ G₁ ⟨x, hx, h₁⟩ => (h₁ φ₁ s₁ G₁ (L.step G t₁)).use t₁ fun b s₂ φ₂ σ₂ t₂ t G₂ ⟨y, hy, h₂⟩ => (h₂ φ₂ s₂ a b G₂ (hx.step G₁ t₂) hy).last t)

/-- a slice's expression is no Slice -/
def PlainSlice (slice : Expr) : Prop := ∀ o i, subscripted slice false o i = operate [o, i] (getItem o i)

theorem S_list {value slice : Expr} {k : Nat} {xs : List V} {i : Int} (hσ : σ[k]? = some (.list xs)) (h0 : 0 ≤ i) (hi : i < xs.length) (hf : i < 2 ^ 63) (q : Q (xs.getD i.toNat .none) σ)
    (hs : PlainSlice slice := by with_unfolding_all exact fun _ _ => rfl) : WSub prog w B A value slice (.ref k) (.int i) σ Q X := fun φ s v u G hv hu => by
  obtain ⟨a, rfl, ha⟩ := hv.of_ref; obtain ⟨t, rfl⟩ := hu.of_int
  obtain ⟨a', ha', vs, n, ho, hvs⟩ := G.get hσ
  rw [ha] at ha'; cases ha'
  have hi' : i.toNat < xs.length := by omega
  obtain ⟨y, hy, hyv⟩ := hvs.get (i := i.toNat) (x := xs.getD i.toNat .none) (by rw [List.getD_eq_getElem?_getD, List.getElem?_eq_getElem hi']; rfl)
  have hl : s.heap.IsList a vs := ⟨_, ho, rfl, n, rfl⟩
  exact tail_any hl.typeIs slot_list_getitem.lookup (wpAny_getItem_list hl h0 hf (by rw [← Array.getElem?_toList]; exact hy) (Post.here G ⟨_, hyv, q⟩)) (hs _ _)
theorem S_tup {value slice : Expr} {xs : List V} {i : Int} (h0 : 0 ≤ i) (hi : i < xs.length) (hf : i < 2 ^ 63) (q : Q (xs.getD i.toNat .none) σ)
    (hs : PlainSlice slice := by with_unfolding_all exact fun _ _ => rfl) : WSub prog w B A value slice (.tup xs) (.int i) σ Q X := fun φ s v u G hv hu => by
  obtain ⟨a, vs, rfl, ht, hvs⟩ := hv.of_tup; obtain ⟨t, rfl⟩ := hu.of_int
  have hi' : i.toNat < xs.length := by omega
  obtain ⟨y, hy, hyv⟩ := hvs.get (i := i.toNat) (x := xs.getD i.toNat .none) (by rw [List.getD_eq_getElem?_getD, List.getElem?_eq_getElem hi']; rfl)
  have hlen := hvs.length
  have hsz : vs.size = xs.length := by simpa using hlen
  refine tail_any ht.typeIs slot_tuple_getitem.lookup (getItem_tuple ht (by omega) hf (j := i.toNat) ?_ (by rw [← Array.getElem?_toList]; exact hy) (Post.here G ⟨_, hyv, q⟩)) (hs _ _)
  unfold seqIndex?
  rw [hsz]
  simp only [show ¬ (i < 0) by omega, if_false]
  simp; omega
theorem S_t0 {value slice : Expr} {x : V} {xs : List V} (q : Q x σ) (hs : PlainSlice slice := by with_unfolding_all exact fun _ _ => rfl) : WSub prog w B A value slice (.tup (x :: xs)) (.int 0) σ Q X :=
  S_tup (by decide) (by simp only [List.length_cons]; omega) (by decide) q hs
theorem S_t1 {value slice : Expr} {x y : V} {xs : List V} (q : Q y σ) (hs : PlainSlice slice := by with_unfolding_all exact fun _ _ => rfl) : WSub prog w B A value slice (.tup (x :: y :: xs)) (.int 1) σ Q X :=
  S_tup (by decide) (by simp only [List.length_cons]; omega) (by decide) q hs
theorem S_str {value slice : Expr} {x : Str} {i : Int} (h0 : 0 ≤ i) (hi : i < x.cps.size) (hf : i < 2 ^ 63) (q : Q (.str (signAt x i.toNat)) σ)
    (hs : PlainSlice slice := by with_unfolding_all exact fun _ _ => rfl) : WSub prog w B A value slice (.str x) (.int i) σ Q X := fun φ s v u G hv hu => by
  obtain ⟨t, rfl⟩ := hv.of_str; obtain ⟨t', rfl⟩ := hu.of_int
  have hi' : i.toNat < x.cps.size := by omega
  refine tail_any (typeIs_str s x t) F.slot_str_getitem.lookup (P.getItem_str (c := x.cps.getD i.toNat 0) (by simp; omega) ?_ (Post.tok G ⟨_, .str_ _ _, q⟩)) (hs _ _)
  unfold seqIndex?
  have hl : x.length = x.cps.size := rfl
  simp only [show ¬ (i < 0) by omega, if_false, hl]
  simp [Array.getD_eq_getD_getElem?, hi', h0, hi]
theorem S_dict {value slice : Expr} {k : Nat} {es : List (Key × V)} {e : Option Nat} {key : Key} {x : V} (hσ : σ[k]? = some (.dict es e)) (hx : at? es key = some x) (q : Q x σ)
    (hs : PlainSlice slice := by with_unfolding_all exact fun _ _ => rfl) : WSub prog w B A value slice (.ref k) key.v σ Q X := fun φ s v u G hv hu => by
  obtain ⟨a, rfl, ha⟩ := hv.of_ref
  obtain ⟨a', ha', kvs, ep, hd, hvs, _⟩ := G.get hσ
  rw [ha] at ha'; cases ha'
  have hkey : (kk prog w).is key u = true := by
    cases key with
    | s y => obtain ⟨t, rfl⟩ := hu.of_str; simp [kk, Key.is, Value.isStrOf]
    | i n => obtain ⟨t, rfl⟩ := hu.of_int; simp [kk, Key.is, Value.isInt]
  rcases hvs.at? key with ⟨y, z, h1, h2, h3⟩ | ⟨h1, _⟩
  · rw [hx] at h1; cases h1
    have hm := hd.dictOf.mapOf
    exact tail_any hm.typeIs slot_dict_getitem.lookup (wpAny_getItem_of hkey hm h2 (Post.tok G ⟨_, h3, q⟩)) (hs _ _)
  · rw [hx] at h1; cases h1

/-! stores -/
def WSet (prog : Program) (w : World) (B : Shared) (A : Around) (x y z : V) (σ : List AObj) (Q : List AObj → Prop) (X : XT) : Prop :=
  ∀ φ s v u t, St prog w B φ σ s → Val φ s.heap x v → Val φ s.heap y u → Val φ s.heap z t → W prog w B A (setItem v u t) φ s (bQ fun _ σ' => Q σ') X
theorem X_setitem {o i value : Expr} {p pos : Pos} {Q : Fl → List (Str × V) → List AObj → Prop}
    (h : WE prog w B A env value ρ σ (fun z σ₁ => WE prog w B A env o ρ σ₁ (fun x σ₂ => WE prog w B A env i ρ σ₂ (fun y σ₃ => WSet prog w B A x y z σ₃ (fun σ₄ => Q .next ρ σ₄) X) X) X) X)
    (hs : swapsWith value (some (.Subscript o i p)) pos.line env = pure false := by with_unfolding_all rfl) : WX1 prog w B A env (.Assign [.Subscript o i p] value pos) ρ σ Q X := fun φ s G L => by
  refine wpAny_Assign_Subscript ?_ hs
  refine h.then G L fun vz s₁ φ₁ σ₁ z t₁ G₁ L₁ hz h₁ => ?_
  refine wpAny_mono (h₁ φ₁ s₁ G₁ L₁) (fun vx s₂ ⟨φ₂, σ₂, t₂, G₂, x, hx, h₂⟩ => ?_) fun e s' ⟨φ', σ', t', G', x⟩ => ⟨φ', σ', (t₁.trans0 t').nilD, G', x⟩
  refine wpAny_mono (h₂ φ₂ s₂ G₂ (L₁.step G₁ t₂)) (fun vy s₃ ⟨φ₃, σ₃, t₃, G₃, y, hy, h₃⟩ => ?_) fun e s' ⟨φ', σ', t', G', x⟩ => ⟨φ', σ', (t₁.trans0 (t₂.trans0 t')).nilD, G', x⟩
  have L₃ := (L₁.step G₁ t₂).step G₂ t₃
  refine wpAny_mono (h₃ φ₃ s₃ vx vy vz G₃ (hx.step G₂ t₃) hy (hz.step G₁ (t₂.trans0 t₃))) (fun _ s₄ ⟨φ₄, σ₄, t₄, G₄, q⟩ => ?_) fun e s' ⟨φ', σ', t', G', x⟩ => ⟨φ', σ', (t₁.trans0 (t₂.trans0 (t₃.trans0 t'))).nilD, G', x⟩
  exact ⟨φ₄, σ₄, (t₁.trans0 (t₂.trans0 (t₃.trans0 t₄))).nilD, G₄, .next, ρ, rfl, L₃.step G₃ t₄, q⟩
theorem P_list {k : Nat} {xs : List V} {i : Int} {z : V} {Q : List AObj → Prop} (hσ : σ[k]? = some (.list xs)) (h0 : 0 ≤ i) (hi : i < xs.length) (hf : i < 2 ^ 63) (q : Q (σ.set k (.list (xs.set i.toNat z)))) : WSet prog w B A (.ref k) (.int i) z σ Q X := fun φ s v u t G hv hu hz => by
  obtain ⟨a, rfl, ha⟩ := hv.of_ref; obtain ⟨tk, rfl⟩ := hu.of_int
  obtain ⟨a', ha', vs, n, ho, hvs⟩ := G.get hσ
  rw [ha] at ha'; cases ha'
  have hlen : vs.size = xs.length := by simpa using hvs.length
  have hn : ∀ o, s.heap.get? a = some o → ¬ Still o := fun o e => G.notStill (List.mem_of_getElem? ha) e
  refine setItem_plain ho h0 hf (by omega) fun h' n' ho' hsb => ⟨φ, _, Step.update hsb (List.mem_of_getElem? ha), G.setList (s' := { s with heap := h' }) (ys := xs.set i.toNat z) ha hsb ho' ?_ hn, q⟩
  rw [Array.toList_setIfInBounds]
  clear q hσ hlen ho ho'
  generalize vs.toList = l at hvs
  generalize i.toNat = j
  clear h0 hi hf hu
  induction xs generalizing l j with
  | nil => rw [Vals] at hvs; subst hvs; simpa using Vals.nil
  | cons x xs ih =>
    rw [Vals] at hvs
    obtain ⟨v, r, rfl, h1, h2⟩ := hvs
    cases j with
    | zero => simpa using Vals.cons hz h2
    | succ j => simpa using Vals.cons h1 (ih r h2 j)
theorem P_dict {k : Nat} {es : List (Key × V)} {key : Key} {z : V} {Q : List AObj → Prop} (hσ : σ[k]? = some (.dict es none)) (hl : es.length ≤ sizeLine) (q : Q (σ.set k (.dict (put es key z) none))) : WSet prog w B A (.ref k) key.v z σ Q X := fun φ s v u t G hv hu hz => by
  obtain ⟨a, rfl, ha⟩ := hv.of_ref
  obtain ⟨a', ha', kvs, ep, hd, hvs, _⟩ := G.get hσ
  rw [ha] at ha'; cases ha'
  have hkey : (kk prog w).is key u = true := by
    cases key with
    | s y => obtain ⟨t, rfl⟩ := hu.of_str; simp [kk, Key.is, Value.isStrOf]
    | i n => obtain ⟨t, rfl⟩ := hu.of_int; simp [kk, Key.is, Value.isInt]
  have hn : ∀ o, s.heap.get? a = some o → ¬ Still o := fun o e => G.notStill (List.mem_of_getElem? ha) e
  refine wpAny_setItem_pairs hkey hd.dictOf (fun h' hd' hsb => ?_) (by rw [hvs.length]; exact hl)
  obtain ⟨ep', hd''⟩ := hd'.dictAt
  refine ⟨φ, _, Step.update hsb (List.mem_of_getElem? ha), G.update (s' := { s with heap := h', toks := s.toks + 1 }) (ob := .dict (put es key z) none) ha hsb ⟨_, ep', hd'', ?_, fun n e => by cases e⟩, q⟩
  exact (hvs.put key hz).mono (List.prefix_refl _) fun a o e hst => hsb.extBut a o (fun h => hn o (h ▸ e) hst) e

/-! a key in a dict -/
theorem O_in_dict {k : Nat} {es : List (Key × V)} {e : Option Nat} {key : Key} (hσ : σ[k]? = some (.dict es e)) (q : Q (.bool (at? es key).isSome) σ) : W2 prog w B A (compareOp .In) key.v (.ref k) σ Q X := fun φ s u v G hu hv => by
  obtain ⟨a, rfl, ha⟩ := hv.of_ref
  obtain ⟨a', ha', kvs, ep, hd, hvs, _⟩ := G.get hσ
  rw [ha] at ha'; cases ha'
  have hkey : (kk prog w).is key u = true := by
    cases key with
    | s y => obtain ⟨t, rfl⟩ := hu.of_str; simp [kk, Key.is, Value.isStrOf]
    | i n => obtain ⟨t, rfl⟩ := hu.of_int; simp [kk, Key.is, Value.isInt]
  refine wpAny_in_of hkey (G.notSys (List.mem_of_getElem? ha)) hd.dictOf.mapOf (Post.tok G ⟨_, .bool_ _, ?_⟩)
  rcases hvs.at? key with ⟨y, z, h1, h2, _⟩ | ⟨h1, h2⟩ <;> rw [h1] at q <;> rw [h2] <;> exact q
theorem O_notin_dict {k : Nat} {es : List (Key × V)} {e : Option Nat} {key : Key} (hσ : σ[k]? = some (.dict es e)) (q : Q (.bool (!(at? es key).isSome)) σ) : W2 prog w B A (compareOp .NotIn) key.v (.ref k) σ Q X := fun φ s u v G hu hv => by
  obtain ⟨a, rfl, ha⟩ := hv.of_ref
  obtain ⟨a', ha', kvs, ep, hd, hvs, _⟩ := G.get hσ
  rw [ha] at ha'; cases ha'
  have hkey : (kk prog w).is key u = true := by
    cases key with
    | s y => obtain ⟨t, rfl⟩ := hu.of_str; simp [kk, Key.is, Value.isStrOf]
    | i n => obtain ⟨t, rfl⟩ := hu.of_int; simp [kk, Key.is, Value.isInt]
  refine wpAny_notIn_of hkey (G.notSys (List.mem_of_getElem? ha)) hd.dictOf.mapOf (Post.tok G ⟨_, .bool_ _, ?_⟩)
  rcases hvs.at? key with ⟨y, z, h1, h2, _⟩ | ⟨h1, h2⟩ <;> rw [h1] at q <;> rw [h2] <;> exact q

/-! len -/
theorem Vals.one {h : Heap} {x : V} {vs : List Value} (hv : Vals φ h [x] vs) : ∃ v, vs = [v] ∧ Val φ h x v := by
  rw [Vals] at hv; obtain ⟨v, r, rfl, h1, hv⟩ := hv
  rw [Vals] at hv; subst hv
  exact ⟨v, rfl, h1⟩
theorem Vals.two {h : Heap} {x y : V} {vs : List Value} (hv : Vals φ h [x, y] vs) : ∃ v u, vs = [v, u] ∧ Val φ h x v ∧ Val φ h y u := by
  rw [Vals] at hv; obtain ⟨v, r, rfl, h1, hv⟩ := hv
  obtain ⟨u, rfl, h2⟩ := hv.one
  exact ⟨v, u, rfl, h1, h2⟩
theorem Vals.three {h : Heap} {x y z : V} {vs : List Value} (hv : Vals φ h [x, y, z] vs) : ∃ v u t, vs = [v, u, t] ∧ Val φ h x v ∧ Val φ h y u ∧ Val φ h z t := by
  rw [Vals] at hv; obtain ⟨v, r, rfl, h1, hv⟩ := hv
  obtain ⟨u, t, rfl, h2, h3⟩ := hv.two
  exact ⟨v, u, t, rfl, h1, h2, h3⟩
theorem C_len_list {k : Nat} {xs : List V} (hσ : σ[k]? = some (.list xs)) (hf : (xs.length : Int) < 2 ^ 63) (q : Q (.int xs.length) σ) : WC prog w B A (.builtin "len") [.ref k] σ Q X := fun φ s vs G hv => by
  obtain ⟨v, rfl, hx⟩ := hv.one
  obtain ⟨a, rfl, ha⟩ := hx.of_ref
  obtain ⟨a', ha', vs, n, ho, hvs⟩ := G.get hσ
  rw [ha] at ha'; cases ha'
  have hlen : vs.size = xs.length := by simpa using hvs.length
  exact call_len_list ⟨_, ho, rfl, n, rfl⟩ (by rw [hlen]; exact hf) (Post.tok G ⟨_, .int_ _ _, by rw [hlen]; exact q⟩)
theorem C_len_dict {k : Nat} {es : List (Key × V)} {e : Option Nat} (hσ : σ[k]? = some (.dict es e)) (hf : (es.length : Int) < 2 ^ 63) (q : Q (.int es.length) σ) : WC prog w B A (.builtin "len") [.ref k] σ Q X := fun φ s vs G hv => by
  obtain ⟨v, rfl, hx⟩ := hv.one
  obtain ⟨a, rfl, ha⟩ := hx.of_ref
  obtain ⟨a', ha', kvs, ep, hd, hvs, _⟩ := G.get hσ
  rw [ha] at ha'; cases ha'
  exact call_len_dict (G.notSys (List.mem_of_getElem? ha)) hd.dictOf (by rw [hvs.length]; exact hf) (Post.tok G ⟨_, .int_ _ _, by rw [hvs.length]; exact q⟩)
theorem C_len_str {x : Str} (hf : (x.length : Int) < 2 ^ 63) (q : Q (.int x.length) σ) : WC prog w B A (.builtin "len") [.str x] σ Q X := fun φ s vs G hv => by
  obtain ⟨v, rfl, hx⟩ := hv.one
  obtain ⟨t, rfl⟩ := hx.of_str
  exact PyProof.Rows.len_str (by omega) (Post.tok G ⟨_, .int_ _ _, q⟩)
theorem C_len_tup {xs : List V} (hf : (xs.length : Int) < 2 ^ 63) (q : Q (.int xs.length) σ) : WC prog w B A (.builtin "len") [.tup xs] σ Q X := fun φ s vs G hv => by
  obtain ⟨v, rfl, hx⟩ := hv.one
  obtain ⟨a, vs, rfl, ht, hvs⟩ := hx.of_tup
  have hlen : vs.size = xs.length := by simpa using hvs.length
  exact len_tuple ht (by rw [hlen]; exact hf) (Post.tok G ⟨_, .int_ _ _, by rw [hlen]; exact q⟩)
end
end Mine

set_option autoImplicit false
set_option linter.unusedVariables false
set_option maxRecDepth 100000
namespace Mine
open PySem PySem.W PySem.Calls PyProof.Rows

structure AOk (n : Nat) (A : Around) : Prop where
  handled : A.handled = none
  depth : A.depth + n ≤ 900
  units : A.units + 10 * n ≤ 9000
theorem AOk.deeper {n : Nat} {A : Around} {env : Env} (h : AOk (n + 1) A) : AOk n (A.deeper env) :=
  ⟨h.handled, by have := h.depth; show A.depth + 1 + n ≤ 900; omega, by have := h.units; show A.units + 3 + 10 * n ≤ 9000; omega⟩
theorem AOk.le {n m : Nat} {A : Around} (h : AOk n A) (hm : m ≤ n) : AOk m A := ⟨h.handled, by have := h.depth; omega, by have := h.units; omega⟩
theorem AOk.room {n : Nat} {A : Around} (h : AOk n A) : A.depth < recursionLimit := by have := h.depth; show A.depth < 1000; omega

/-- the globals and the built-ins -/
structure Gl (B : Shared) (mg mb : Str → Option Value) : Prop where
  g : B.heap.Ns mainGlobals mg
  b : B.heap.Ns builtinsNs mb
  lim : B.heap.NoLimit

section
variable (prog : Program) (w : World) (B : Shared) (mg mb : Str → Option Value)
/-- a contract of a global function -/
def CF (x : Str) (n : Nat) (P : List V → List AObj → (V → List AObj → Prop) → XT → Prop) : Prop :=
  B.heap.Ns mainGlobals mg ∧ ∃ v, mg x = some v ∧ Keep B v ∧ ∀ A xs σ Q X, AOk n A → P xs σ Q X → WC prog w B A v xs σ Q X
/-- a built-in name -/
def Bi (x : Str) (v : Value) : Prop := B.heap.Ns mainGlobals mg ∧ B.heap.Ns builtinsNs mb ∧ mg x = none ∧ mb x = some v
end

section
variable {prog : Program} {w : World} {B : Shared} {mg mb : Str → Option Value} {φ φ' : List Addr} {σ σ' : List AObj} {s s' : Shared} {env : Env} {ρ : List (Str × V)} {A : Around} {X : XT} {Q : V → List AObj → Prop}

theorem E_cf {x : Str} {px pos : Pos} {es : List Expr} {n : Nat} {P : List V → List AObj → (V → List AObj → Prop) → XT → Prop} (C : CF prog w B mg x n P) (hA : AOk n A)
    (h : WEs prog w B A env es ρ σ (fun xs σ₁ => P xs σ₁ Q X) X)
    (hx : env.kindOf x = some .globalImplicit := by kernel_rfl!)
    (hp : ∀ pos, (backTo pos (starEach es env)).any (·.1) = false := by intro _; with_unfolding_all rfl)
    (hd : (x == ("__debug__" : Str)) = false := by decide +kernel) :
    WE prog w B A env (.Call (.Name x px) es [] pos) ρ σ Q X := by
  obtain ⟨hg, v, hv, hk, hP⟩ := C
  refine E_call (f := v) (E_global hg hv (Val.raw_ v) hx ⟨rfl, ?_⟩ hd) hk hp
  exact fun p φ s G L => (h p φ s G L).mono fun a φ' σ' s' ⟨xs, hxs, q⟩ => ⟨xs, hxs, hP A xs σ' Q X hA q⟩
theorem E_bi {x : Str} {px pos : Pos} {es : List Expr} {v : Value} (C : Bi B mg mb x v) (hk : Keep B v)
    (h : WEs prog w B A env es ρ σ (fun xs σ₁ => WC prog w B A v xs σ₁ Q X) X)
    (hx : env.kindOf x = some .globalImplicit := by kernel_rfl!)
    (hp : ∀ pos, (backTo pos (starEach es env)).any (·.1) = false := by intro _; with_unfolding_all rfl)
    (hd : (x == ("__debug__" : Str)) = false := by decide +kernel) :
    WE prog w B A env (.Call (.Name x px) es [] pos) ρ σ Q X :=
  E_call (f := v) (E_builtin C.1 C.2.2.1 C.2.1 C.2.2.2 hx ⟨rfl, h⟩ hd) hk hp
theorem E_bn {x : Str} {px : Pos} {v : Value} (C : Bi B mg mb x v) (q : Q (.raw v) σ)
    (hx : env.kindOf x = some .globalImplicit := by kernel_rfl!)
    (hd : (x == ("__debug__" : Str)) = false := by decide +kernel) :
    WE prog w B A env (.Name x px) ρ σ Q X := E_builtin C.1 C.2.2.1 C.2.1 C.2.2.2 hx q hd

/-! statements in a row -/
theorem X_ret {e : Expr} {pos : Pos} {rest : List Stmt} {Q : Fl → List (Str × V) → List AObj → Prop} (h : WE prog w B A env e ρ σ (fun x σ₁ => Q (.ret x) ρ σ₁) X) : WX prog w B A env (.Return (some e) pos :: rest) ρ σ Q X :=
  X_cons (X_return h)
theorem X_let {x : Str} {e : Expr} {px pos : Pos} {rest : List Stmt} {Q : Fl → List (Str × V) → List AObj → Prop} (h : WE prog w B A env e ρ σ (fun y σ₁ => WX prog w B A env rest ((x, y) :: ρ) σ₁ Q X) X)
    (hx : env.kindOf x = some .local := by kernel_rfl!)
    (hs : swapsWith e (some (.Name x px)) pos.line env = pure false := by with_unfolding_all rfl) : WX prog w B A env (.Assign [.Name x px] e pos :: rest) ρ σ Q X :=
  X_cons (X_assign h (.inl hx) hs)
theorem X_letc {x : Str} {e : Expr} {px pos : Pos} {rest : List Stmt} {Q : Fl → List (Str × V) → List AObj → Prop} (h : WE prog w B A env e ρ σ (fun y σ₁ => WX prog w B A env rest ((x, y) :: ρ) σ₁ Q X) X)
    (hx : env.kindOf x = some .cell := by kernel_rfl!) (hc : (env.cells.lookup x).isSome = true := by kernel_rfl!)
    (hs : swapsWith e (some (.Name x px)) pos.line env = pure false := by with_unfolding_all rfl) : WX prog w B A env (.Assign [.Name x px] e pos :: rest) ρ σ Q X :=
  X_cons (X_assign h (.inr ⟨hx, hc⟩) hs)
theorem X_do {e : Expr} {pos : Pos} {rest : List Stmt} {Q : Fl → List (Str × V) → List AObj → Prop} (h : WE prog w B A env e ρ σ (fun _ σ₁ => WX prog w B A env rest ρ σ₁ Q X) X)
    (hi : interactive env = false := by with_unfolding_all rfl) (hs : swapsWith e none pos.line env = pure false := by with_unfolding_all rfl) : WX prog w B A env (.Expr e pos :: rest) ρ σ Q X := X_cons (X_expr h hi hs)
theorem X_ifs {test : Expr} {body orelse : List Stmt} {pos : Pos} {rest : List Stmt} {Q : Fl → List (Str × V) → List AObj → Prop}
    (h : WT prog w B A env test ρ σ (fun b σ₁ => if b then WX prog w B A env body ρ σ₁ (seqQ prog w B A env rest Q X) X else WX prog w B A env orelse ρ σ₁ (seqQ prog w B A env rest Q X) X) X) : WX prog w B A env (.If test body orelse pos :: rest) ρ σ Q X := X_cons (X_if h)
theorem X_end {rest : List Stmt} {Q : Fl → List (Str × V) → List AObj → Prop} (h : WX prog w B A env rest ρ σ Q X) : WX prog w B A env [] ρ σ (seqQ prog w B A env rest Q X) X := X_nil h
theorem X_set {o i value : Expr} {p pos : Pos} {rest : List Stmt} {Q : Fl → List (Str × V) → List AObj → Prop}
    (h : WE prog w B A env value ρ σ (fun z σ₁ => WE prog w B A env o ρ σ₁ (fun x σ₂ => WE prog w B A env i ρ σ₂ (fun y σ₃ => WSet prog w B A x y z σ₃ (fun σ₄ => WX prog w B A env rest ρ σ₄ Q X) X) X) X) X)
    (hs : swapsWith value (some (.Subscript o i p)) pos.line env = pure false := by with_unfolding_all rfl) : WX prog w B A env (.Assign [.Subscript o i p] value pos :: rest) ρ σ Q X := X_cons (X_setitem h hs)
theorem X_loop {x : Str} {px pos : Pos} {iter : Expr} {body rest : List Stmt} {Q : Fl → List (Str × V) → List AObj → Prop} 
    (h : WE prog w B A env iter ρ σ (fun v σ' => ∃ σ₁ n el C, ∃ Iv : Nat → List (Str × V) → List AObj → Prop, WIt prog w B A v σ' σ₁ n el C ∧ C σ₁ ∧ Iv 0 ρ σ₁ ∧
      (∀ i ρ₂ σ₂, i < n → C σ₂ → Iv i ρ₂ σ₂ → WX prog w B A env body ((x, el i) :: ρ₂) σ₂ (turnQ (Iv (i + 1)) C (seqQ prog w B A env rest Q X)) (fun _ _ _ _ => False)) ∧
      (∀ ρ₂ σ₂, C σ₂ → Iv n ρ₂ σ₂ → WX prog w B A env rest ρ₂ σ₂ Q X)) X)
    (hx : env.kindOf x = some .local := by kernel_rfl!)
    (hs : ∀ v, foldedSetIterable iter env v = pure v := by intro _; with_unfolding_all rfl) (hl : ∀ it v, letOwnedTupleGo (.Name x px) it v = pure () := by intro _ _; with_unfolding_all rfl) :
    WX prog w B A env (.For (.Name x px) iter body [] pos :: rest) ρ σ Q X := X_cons (X_for h (.inl hx) hs hl)

/-! ends of rows -/
theorem sq_ret {rest : List Stmt} {Q : Fl → List (Str × V) → List AObj → Prop} {x : V} (q : Q (.ret x) ρ σ) : seqQ prog w B A env rest Q X (.ret x) ρ σ := q
theorem sq_brk {rest : List Stmt} {Q : Fl → List (Str × V) → List AObj → Prop} (q : Q .brk ρ σ) : seqQ prog w B A env rest Q X .brk ρ σ := q
theorem sq_cont {rest : List Stmt} {Q : Fl → List (Str × V) → List AObj → Prop} (q : Q .cont ρ σ) : seqQ prog w B A env rest Q X .cont ρ σ := q
theorem sq_next {rest : List Stmt} {Q : Fl → List (Str × V) → List AObj → Prop} (q : WX prog w B A env rest ρ σ Q X) : seqQ prog w B A env rest Q X .next ρ σ := q
theorem tq_ret {Iv : List (Str × V) → List AObj → Prop} {C : List AObj → Prop} {Q : Fl → List (Str × V) → List AObj → Prop} {x : V} (q : Q (.ret x) ρ σ) : turnQ Iv C Q (.ret x) ρ σ := q
theorem tq_brk {Iv : List (Str × V) → List AObj → Prop} {C : List AObj → Prop} {Q : Fl → List (Str × V) → List AObj → Prop} (q : Q .next ρ σ) : turnQ Iv C Q .brk ρ σ := q
theorem tq_next {Iv : List (Str × V) → List AObj → Prop} {C : List AObj → Prop} {Q : Fl → List (Str × V) → List AObj → Prop} (q : C σ ∧ Iv ρ σ) : turnQ Iv C Q .next ρ σ := q
theorem tq_cont {Iv : List (Str × V) → List AObj → Prop} {C : List AObj → Prop} {Q : Fl → List (Str × V) → List AObj → Prop} (q : C σ ∧ Iv ρ σ) : turnQ Iv C Q .cont ρ σ := q
/-- the end of a def -/
def retQ (σ : List AObj) (Q : V → List AObj → Prop) : Fl → List (Str × V) → List AObj → Prop := fun fl _ σ' => Clean σ Q (retV fl) σ'
theorem R_all {σ₀ : List AObj} {x : V} (q : Q x σ) : retQ σ₀ Q (.ret x) ρ σ := .all q
theorem R_next {σ₀ : List AObj} (q : Q .none σ) : retQ σ₀ Q .next ρ σ := .all q
theorem R_none {σ₀ junk : List AObj} {x : V} (hx : x.lt σ₀.length) (q : Q x σ₀) : retQ σ₀ Q (.ret x) ρ (σ₀ ++ junk) := .none hx q
theorem R_one {σ₀ j1 j2 : List AObj} {ob : AObj} {k : Nat} (hk : k = σ₀.length + j1.length) (ho : ob.lt σ₀.length) (q : Q (.ref σ₀.length) (σ₀ ++ [ob])) : retQ σ₀ Q (.ret (.ref k)) ρ (σ₀ ++ j1 ++ ob :: j2) := .one hk ho q
theorem O_pow60 (q : Q (.int (10 ^ 60)) σ) : W2 prog w B A (binaryOp .Pow) (.int 10) (.int 60) σ Q X := O_pow q (by decide) (by decide) (by decide)

/-! names -/
theorem look_here {x y : Str} {v : V} {ρ : List (Str × V)} (h : x = y) : ((y, v) :: ρ).lookup x = some v := by subst h; simp
theorem look_there {x y : Str} {u v : V} {ρ : List (Str × V)} (h : (x == y) = false) (hr : ρ.lookup x = some v) : ((y, u) :: ρ).lookup x = some v := by rw [List.lookup_cons, h]; exact hr

def LookQ (ρ : List (Str × V)) (x : Str) (P : V → Prop) (R : Prop) : Prop := (∃ v, ρ.lookup x = some v ∧ P v) ∨ R
theorem LQ_here {x : Str} {v : V} {ρ : List (Str × V)} {P : V → Prop} {R : Prop} (p : P v) : LookQ ((x, v) :: ρ) x P R := .inl ⟨v, look_here rfl, p⟩
theorem LQ_there {x y : Str} {u : V} {ρ : List (Str × V)} {P : V → Prop} {R : Prop} (h : (x == y) = false) (p : LookQ ρ x P R) : LookQ ((y, u) :: ρ) x P R := p.imp (fun ⟨v, h1, h2⟩ => ⟨v, look_there h h1, h2⟩) id
theorem LQ_nil {x : Str} {P : V → Prop} {R : Prop} (r : R) : LookQ [] x P R := .inr r
/-- a global name -/
def NG (prog : Program) (w : World) (B : Shared) (A : Around) (env : Env) (x : Str) (ρ : List (Str × V)) (σ : List AObj) (Q : V → List AObj → Prop) (X : XT) : Prop := ∀ pos, WE prog w B A env (.Name x pos) ρ σ Q X
theorem E_nm {x : Str} {pos : Pos} (h : LookQ ρ x (fun v => Q v σ) (NG prog w B A env x ρ σ Q X)) (hd : (x == ("__debug__" : Str)) = false := by decide +kernel) (hn : (x == ("__classdict__" : Str)) = false := by decide +kernel) :
    WE prog w B A env (.Name x pos) ρ σ Q X := h.elim (fun ⟨v, h1, h2⟩ => E_name h1 h2 hd hn) fun h => h pos
theorem N_bi {x : Str} {v : Value} (C : Bi B mg mb x v) (q : Q (.raw v) σ)
    (hx : env.kindOf x = some .globalImplicit := by kernel_rfl!)
    (hd : (x == ("__debug__" : Str)) = false := by decide +kernel) :
    NG prog w B A env x ρ σ Q X := fun pos => E_builtin C.1 C.2.2.1 C.2.1 C.2.2.2 hx q hd
/-- a global constant -/
def GC (B : Shared) (mg : Str → Option Value) (x : Str) (y : V) : Prop := B.heap.Ns mainGlobals mg ∧ ∃ v, mg x = some v ∧ Val [] B.heap y v
theorem N_gc {x : Str} {y : V} (C : GC B mg x y) (q : Q y σ)
    (hx : env.kindOf x = some .globalImplicit := by kernel_rfl!)
    (hd : (x == ("__debug__" : Str)) = false := by decide +kernel) :
    NG prog w B A env x ρ σ Q X := fun pos => let ⟨h1, _, h2, h3⟩ := C; E_global h1 h2 h3 hx q hd

/-! branches -/
theorem iteD {c : Prop} [Decidable c] {P P' : Prop} (h1 : c → P) (h2 : ¬ c → P') : if (decide c) = true then P else P' := by
  by_cases hc : c
  · rw [if_pos (decide_eq_true hc)]; exact h1 hc
  · rw [if_neg (by simpa using hc)]; exact h2 hc
theorem iteDn {c : Prop} [Decidable c] {P P' : Prop} (h1 : ¬ c → P) (h2 : c → P') : if (!decide c) = true then P else P' := by
  by_cases hc : c
  · rw [if_neg (by simpa using hc)]; exact h2 hc
  · rw [if_pos (by simpa using hc)]; exact h1 hc
theorem iteB {b : Bool} {P P' : Prop} (h1 : b = true → P) (h2 : b = false → P') : if b = true then P else P' := by
  cases b
  · exact h2 rfl
  · exact h1 rfl
theorem iteT {P P' : Prop} (h1 : P) : if true = true then P else P' := h1
theorem iteF {P P' : Prop} (h1 : P') : if false = true then P else P' := h1

/-! isinstance -/
def Isi (Tx T : String) (b : Bool) : Prop := typeOf (.type T) = pure (.type "type") ∧ isSubtype (.type Tx) (.type T) = pure b ∧ (Value.type Tx == Value.type T) = (Tx == T) ∧ (b = false → (Tx == T) = false)
theorem Isi.ne {Tx T : String} (h : Isi Tx T false) : (Value.type Tx == Value.type T) = false := h.2.2.1.trans (h.2.2.2 rfl)

theorem isi_yes {x : V} {Tx T : String} (h : Isi Tx T true) (ht : ∀ φ s v, St prog w B φ σ s → Val φ s.heap x v → s.TypeIs v Tx) (q : Q (.bool true) σ) : WC prog w B A (.builtin "isinstance") [x, .raw (.type T)] σ Q X := fun φ s vs G hv => by
  obtain ⟨v, u, rfl, hx, hu⟩ := hv.two
  obtain rfl := hu.of_raw
  exact call_isinstance_yes (ht φ s v G hx) h.1 h.2.1 (Post.here G ⟨_, .bool_ _, q⟩)

theorem isi_int {i : Int} {T : String} {b : Bool} (h : Isi "int" T b) (q : Q (.bool b) σ) : WC prog w B A (.builtin "isinstance") [.int i, .raw (.type T)] σ Q X := by
  cases b
  · intro φ s vs G hv
    obtain ⟨v, u, rfl, hx, hu⟩ := hv.two
    obtain rfl := hu.of_raw
    obtain ⟨t, rfl⟩ := hx.of_int
    exact call_isinstance (isinstance_false_int h.ne h.1 h.2.1) (Post.tok G ⟨_, .bool_ _, q⟩)
  · exact isi_yes h (fun φ s v G hx => by obtain ⟨t, rfl⟩ := hx.of_int; exact rfl) q
theorem isi_str {i : Str} {T : String} {b : Bool} (h : Isi "str" T b) (q : Q (.bool b) σ) : WC prog w B A (.builtin "isinstance") [.str i, .raw (.type T)] σ Q X := by
  cases b
  · intro φ s vs G hv
    obtain ⟨v, u, rfl, hx, hu⟩ := hv.two
    obtain rfl := hu.of_raw
    obtain ⟨t, rfl⟩ := hx.of_str
    exact call_isinstance (isinstance_false_str h.ne h.1 h.2.1) (Post.tok G ⟨_, .bool_ _, q⟩)
  · exact isi_yes h (fun φ s v G hx => by obtain ⟨t, rfl⟩ := hx.of_str; exact typeIs_str s i t) q
theorem isi_bool {i : Bool} {T : String} {b : Bool} (h : Isi "bool" T b) (q : Q (.bool b) σ) : WC prog w B A (.builtin "isinstance") [.bool i, .raw (.type T)] σ Q X := by
  cases b
  · intro φ s vs G hv
    obtain ⟨v, u, rfl, hx, hu⟩ := hv.two
    obtain rfl := hu.of_raw
    obtain rfl := hx.of_bool
    exact call_isinstance (isinstance_false_bool h.ne h.1 h.2.1) (Post.tok G ⟨_, .bool_ _, q⟩)
  · exact isi_yes h (fun φ s v G hx => by obtain rfl := hx.of_bool; exact rfl) q
theorem isi_none {T : String} (h : Isi "NoneType" T false) (q : Q (.bool false) σ) : WC prog w B A (.builtin "isinstance") [.none, .raw (.type T)] σ Q X := fun φ s vs G hv => by
    obtain ⟨v, u, rfl, hx, hu⟩ := hv.two
    obtain rfl := hu.of_raw
    obtain rfl := hx.of_none
    exact call_isinstance (isinstance_false_none h.ne h.1 h.2.1) (Post.tok G ⟨_, .bool_ _, q⟩)
theorem isi_tup {xs : List V} {T : String} {b : Bool} (h : Isi "tuple" T b) (q : Q (.bool b) σ) : WC prog w B A (.builtin "isinstance") [.tup xs, .raw (.type T)] σ Q X := by
  cases b
  · intro φ s vs G hv
    obtain ⟨v, u, rfl, hx, hu⟩ := hv.two
    obtain rfl := hu.of_raw
    obtain ⟨a, vs, rfl, ⟨o, ho, hc, _⟩, _⟩ := hx.of_tup
    exact call_isinstance (isinstance_false_tuple h.ne h.1 h.2.1) ⟨⟨o, ho, hc⟩, Post.tok G ⟨_, .bool_ _, q⟩⟩
  · exact isi_yes h (fun φ s v G hx => by obtain ⟨a, vs, rfl, ht, _⟩ := hx.of_tup; exact ht.typeIs) q
theorem isi_list {k : Nat} {xs : List V} {T : String} {b : Bool} (hσ : σ[k]? = some (.list xs)) (h : Isi "list" T b) (q : Q (.bool b) σ) : WC prog w B A (.builtin "isinstance") [.ref k, .raw (.type T)] σ Q X := by
  cases b
  · intro φ s vs G hv
    obtain ⟨v, u, rfl, hx, hu⟩ := hv.two
    obtain rfl := hu.of_raw
    obtain ⟨a, rfl, ha⟩ := hx.of_ref
    obtain ⟨a', ha', vs, n, ho, hvs⟩ := G.get hσ
    rw [ha] at ha'; cases ha'
    exact call_isinstance (isinstance_false_list h.ne h.1 h.2.1) ⟨⟨_, ho, rfl⟩, Post.tok G ⟨_, .bool_ _, q⟩⟩
  · refine isi_yes h (fun φ s v G hx => ?_) q
    obtain ⟨a, rfl, ha⟩ := hx.of_ref
    obtain ⟨a', ha', vs, n, ho, hvs⟩ := G.get hσ
    rw [ha] at ha'; cases ha'
    exact ⟨_, ho, rfl⟩
theorem isi_dict {k : Nat} {es : List (Key × V)} {e : Option Nat} {T : String} {b : Bool} (hσ : σ[k]? = some (.dict es e)) (h : Isi "dict" T b) (q : Q (.bool b) σ) : WC prog w B A (.builtin "isinstance") [.ref k, .raw (.type T)] σ Q X := by
  cases b
  · intro φ s vs G hv
    obtain ⟨v, u, rfl, hx, hu⟩ := hv.two
    obtain rfl := hu.of_raw
    obtain ⟨a, rfl, ha⟩ := hx.of_ref
    obtain ⟨a', ha', kvs, ep, hd, hvs, _⟩ := G.get hσ
    rw [ha] at ha'; cases ha'
    have ⟨o, ho, hc⟩ := hd.dictOf.mapOf.typeIs
    exact call_isinstance (isinstance_false_dict h.ne h.1 h.2.1) ⟨⟨o, ho, hc⟩, Post.tok G ⟨_, .bool_ _, q⟩⟩
  · refine isi_yes h (fun φ s v G hx => ?_) q
    obtain ⟨a, rfl, ha⟩ := hx.of_ref
    obtain ⟨a', ha', kvs, ep, hd, hvs, _⟩ := G.get hσ
    rw [ha] at ha'; cases ha'
    exact hd.dictOf.mapOf.typeIs

end
end Mine

set_option autoImplicit false
set_option linter.unusedVariables false
set_option maxRecDepth 100000
namespace Mine
open PySem PySem.W PySem.Calls PyProof.Rows

theorem sub_of {Tx : String} {mro : List Value} {base : Value} {b : Bool} (h : fastBuiltinMro Tx = some mro) (hc : mro.contains base = b) : isSubtype (.type Tx) base = pure b := by
  rw [isSubtype_type, h]; show pure _ = _; rw [hc]
theorem mro_int : fastBuiltinMro "int" = some [.type "int", .type "object"] := by kernel_rfl
theorem mro_bool : fastBuiltinMro "bool" = some [.type "bool", .type "int", .type "object"] := by kernel_rfl
theorem mro_str : fastBuiltinMro "str" = some [.type "str", .type "object"] := by kernel_rfl
theorem mro_tuple : fastBuiltinMro "tuple" = some [.type "tuple", .type "object"] := by kernel_rfl
theorem mro_list : fastBuiltinMro "list" = some [.type "list", .type "object"] := by kernel_rfl
theorem mro_dict : fastBuiltinMro "dict" = some [.type "dict", .type "object"] := by kernel_rfl
theorem mro_NoneType : fastBuiltinMro "NoneType" = some [.type "NoneType", .type "object"] := by kernel_rfl
theorem ty_int : typeOf (.type "int") = pure (.type "type") := by kernel_rfl
theorem ty_bool : typeOf (.type "bool") = pure (.type "type") := by kernel_rfl
theorem ty_str : typeOf (.type "str") = pure (.type "type") := by kernel_rfl
theorem ty_tuple : typeOf (.type "tuple") = pure (.type "type") := by kernel_rfl
theorem ty_list : typeOf (.type "list") = pure (.type "type") := by kernel_rfl
theorem ty_dict : typeOf (.type "dict") = pure (.type "type") := by kernel_rfl
theorem isi_int_int : Isi "int" "int" true := ⟨ty_int, sub_of mro_int (by decide +kernel), by decide +kernel, by decide +kernel⟩
theorem isi_int_bool : Isi "int" "bool" false := ⟨ty_bool, sub_of mro_int (by decide +kernel), by decide +kernel, by decide +kernel⟩
theorem isi_int_str : Isi "int" "str" false := ⟨ty_str, sub_of mro_int (by decide +kernel), by decide +kernel, by decide +kernel⟩
theorem isi_int_tuple : Isi "int" "tuple" false := ⟨ty_tuple, sub_of mro_int (by decide +kernel), by decide +kernel, by decide +kernel⟩
theorem isi_int_list : Isi "int" "list" false := ⟨ty_list, sub_of mro_int (by decide +kernel), by decide +kernel, by decide +kernel⟩
theorem isi_int_dict : Isi "int" "dict" false := ⟨ty_dict, sub_of mro_int (by decide +kernel), by decide +kernel, by decide +kernel⟩
theorem isi_bool_int : Isi "bool" "int" true := ⟨ty_int, sub_of mro_bool (by decide +kernel), by decide +kernel, by decide +kernel⟩
theorem isi_bool_bool : Isi "bool" "bool" true := ⟨ty_bool, sub_of mro_bool (by decide +kernel), by decide +kernel, by decide +kernel⟩
theorem isi_bool_str : Isi "bool" "str" false := ⟨ty_str, sub_of mro_bool (by decide +kernel), by decide +kernel, by decide +kernel⟩
theorem isi_bool_tuple : Isi "bool" "tuple" false := ⟨ty_tuple, sub_of mro_bool (by decide +kernel), by decide +kernel, by decide +kernel⟩
theorem isi_bool_list : Isi "bool" "list" false := ⟨ty_list, sub_of mro_bool (by decide +kernel), by decide +kernel, by decide +kernel⟩
theorem isi_bool_dict : Isi "bool" "dict" false := ⟨ty_dict, sub_of mro_bool (by decide +kernel), by decide +kernel, by decide +kernel⟩
theorem isi_str_int : Isi "str" "int" false := ⟨ty_int, sub_of mro_str (by decide +kernel), by decide +kernel, by decide +kernel⟩
theorem isi_str_bool : Isi "str" "bool" false := ⟨ty_bool, sub_of mro_str (by decide +kernel), by decide +kernel, by decide +kernel⟩
theorem isi_str_str : Isi "str" "str" true := ⟨ty_str, sub_of mro_str (by decide +kernel), by decide +kernel, by decide +kernel⟩
theorem isi_str_tuple : Isi "str" "tuple" false := ⟨ty_tuple, sub_of mro_str (by decide +kernel), by decide +kernel, by decide +kernel⟩
theorem isi_str_list : Isi "str" "list" false := ⟨ty_list, sub_of mro_str (by decide +kernel), by decide +kernel, by decide +kernel⟩
theorem isi_str_dict : Isi "str" "dict" false := ⟨ty_dict, sub_of mro_str (by decide +kernel), by decide +kernel, by decide +kernel⟩
theorem isi_tuple_int : Isi "tuple" "int" false := ⟨ty_int, sub_of mro_tuple (by decide +kernel), by decide +kernel, by decide +kernel⟩
theorem isi_tuple_bool : Isi "tuple" "bool" false := ⟨ty_bool, sub_of mro_tuple (by decide +kernel), by decide +kernel, by decide +kernel⟩
theorem isi_tuple_str : Isi "tuple" "str" false := ⟨ty_str, sub_of mro_tuple (by decide +kernel), by decide +kernel, by decide +kernel⟩
theorem isi_tuple_tuple : Isi "tuple" "tuple" true := ⟨ty_tuple, sub_of mro_tuple (by decide +kernel), by decide +kernel, by decide +kernel⟩
theorem isi_tuple_list : Isi "tuple" "list" false := ⟨ty_list, sub_of mro_tuple (by decide +kernel), by decide +kernel, by decide +kernel⟩
theorem isi_tuple_dict : Isi "tuple" "dict" false := ⟨ty_dict, sub_of mro_tuple (by decide +kernel), by decide +kernel, by decide +kernel⟩
theorem isi_list_int : Isi "list" "int" false := ⟨ty_int, sub_of mro_list (by decide +kernel), by decide +kernel, by decide +kernel⟩
theorem isi_list_bool : Isi "list" "bool" false := ⟨ty_bool, sub_of mro_list (by decide +kernel), by decide +kernel, by decide +kernel⟩
theorem isi_list_str : Isi "list" "str" false := ⟨ty_str, sub_of mro_list (by decide +kernel), by decide +kernel, by decide +kernel⟩
theorem isi_list_tuple : Isi "list" "tuple" false := ⟨ty_tuple, sub_of mro_list (by decide +kernel), by decide +kernel, by decide +kernel⟩
theorem isi_list_list : Isi "list" "list" true := ⟨ty_list, sub_of mro_list (by decide +kernel), by decide +kernel, by decide +kernel⟩
theorem isi_list_dict : Isi "list" "dict" false := ⟨ty_dict, sub_of mro_list (by decide +kernel), by decide +kernel, by decide +kernel⟩
theorem isi_dict_int : Isi "dict" "int" false := ⟨ty_int, sub_of mro_dict (by decide +kernel), by decide +kernel, by decide +kernel⟩
theorem isi_dict_bool : Isi "dict" "bool" false := ⟨ty_bool, sub_of mro_dict (by decide +kernel), by decide +kernel, by decide +kernel⟩
theorem isi_dict_str : Isi "dict" "str" false := ⟨ty_str, sub_of mro_dict (by decide +kernel), by decide +kernel, by decide +kernel⟩
theorem isi_dict_tuple : Isi "dict" "tuple" false := ⟨ty_tuple, sub_of mro_dict (by decide +kernel), by decide +kernel, by decide +kernel⟩
theorem isi_dict_list : Isi "dict" "list" false := ⟨ty_list, sub_of mro_dict (by decide +kernel), by decide +kernel, by decide +kernel⟩
theorem isi_dict_dict : Isi "dict" "dict" true := ⟨ty_dict, sub_of mro_dict (by decide +kernel), by decide +kernel, by decide +kernel⟩
theorem isi_NoneType_int : Isi "NoneType" "int" false := ⟨ty_int, sub_of mro_NoneType (by decide +kernel), by decide +kernel, by decide +kernel⟩
theorem isi_NoneType_bool : Isi "NoneType" "bool" false := ⟨ty_bool, sub_of mro_NoneType (by decide +kernel), by decide +kernel, by decide +kernel⟩
theorem isi_NoneType_str : Isi "NoneType" "str" false := ⟨ty_str, sub_of mro_NoneType (by decide +kernel), by decide +kernel, by decide +kernel⟩
theorem isi_NoneType_tuple : Isi "NoneType" "tuple" false := ⟨ty_tuple, sub_of mro_NoneType (by decide +kernel), by decide +kernel, by decide +kernel⟩
theorem isi_NoneType_list : Isi "NoneType" "list" false := ⟨ty_list, sub_of mro_NoneType (by decide +kernel), by decide +kernel, by decide +kernel⟩
theorem isi_NoneType_dict : Isi "NoneType" "dict" false := ⟨ty_dict, sub_of mro_NoneType (by decide +kernel), by decide +kernel, by decide +kernel⟩

/-- the built-in names -/
structure Blt (B : Shared) (mg mb : Str → Option Value) : Prop where
  len_ : Bi B mg mb "len" (.builtin "len")
  isinstance_ : Bi B mg mb "isinstance" (.builtin "isinstance")
  max_ : Bi B mg mb "max" (.builtin "max")
  min_ : Bi B mg mb "min" (.builtin "min")
  sum_ : Bi B mg mb "sum" (.builtin "sum")
  sorted_ : Bi B mg mb "sorted" (.builtin "sorted")
  int_ : Bi B mg mb "int" (.type "int")
  bool_ : Bi B mg mb "bool" (.type "bool")
  str_ : Bi B mg mb "str" (.type "str")
  tuple_ : Bi B mg mb "tuple" (.type "tuple")
  list_ : Bi B mg mb "list" (.type "list")
  dict_ : Bi B mg mb "dict" (.type "dict")
  set_ : Bi B mg mb "set" (.type "set")
  range_ : Bi B mg mb "range" (.type "range")
  enumerate_ : Bi B mg mb "enumerate" (.type "enumerate")

/-- the def at a place of the text -/
def dr (p : Program) (i : Nat) : DefRec := match p.main.body[i]? with
  | some (.FunctionDef name args body _ _ _ scope _ _ pos) => ⟨name, args, body, scope, pos⟩
  | _ => ⟨"", { posonlyargs := [], args := [], vararg := none, kwonlyargs := [], kw_defaults := [], kwarg := none, defaults := [] }, [], { kind := .function, names := [], isGenerator := false, isCoroutine := false, more := [] }, ⟨0, 0, 0, 0⟩⟩
def HasF (B : Shared) (mg : Str → Option Value) (d : DefRec) : Prop :=
  ∃ a o pm code doc, mg d.name = some (.ref a) ∧ B.heap.get? a = some o ∧ o.data = .func (docDef d.name d.params d.body d.scope pm code doc) ∧ B.heap.CodeRec code d.name

/-- what a def must be -/
structure Good (d : DefRec) (names : List Str) : Prop where
  bind : ∀ (pm code doc : Value) (vals : List Value), vals.length = names.length → bindArgs (docDef d.name d.params d.body d.scope pm code doc) ⟨vals, []⟩ = pure (names.zip vals)
  kinds : ∀ n ∈ names, d.scope.names.lookup n = some .local ∨ d.scope.names.lookup n = some .cell
  nodup : names.Nodup
  cnodup : (d.scope.names.map (·.1)).Nodup
  co : d.scope.isCoroutine = false
  gen : d.scope.isGenerator = false
  kind : d.scope.kind = .function

section
variable {prog : Program} {w : World} {B : Shared} {mg mb : Str → Option Value} {φ φ' : List Addr} {σ σ' : List AObj} {s s' : Shared} {env : Env} {ρ : List (Str × V)} {A : Around} {X : XT} {Q : V → List AObj → Prop}

theorem HasF.fn {d : DefRec} {names : List Str} (H : HasF B mg d) (lim : B.heap.NoLimit) (g : Good d names) : ∃ a pm code doc, mg d.name = some (.ref a) ∧ Fn B a names (docDef d.name d.params d.body d.scope pm code doc) d.body := by
  obtain ⟨a, o, pm, code, doc, h1, h2, h3, h4⟩ := H
  exact ⟨a, pm, code, doc, h1, ⟨o, h2, h3⟩, lim, h4, rfl, rfl, rfl, rfl, g.bind pm code doc, g.kinds, g.nodup, g.cnodup, g.co, g.gen, g.kind⟩

/-- the contract of a def by a walk of its body -/
theorem CF_of {d : DefRec} {names : List Str} {n : Nat} {P : List V → List AObj → (V → List AObj → Prop) → XT → Prop} (gl : Gl B mg mb) (H : HasF B mg d) (g : Good d names)
    (h : ∀ A pm code doc L a xs σ Q X, AOk n A → P xs σ Q X → xs.length = names.length ∧ WX prog w B A (callEnvC (docDef d.name d.params d.body d.scope pm code doc) L a) d.body (names.zip xs) σ (retQ σ Q) (fun _ _ _ _ => False)) :
    CF prog w B mg d.name (n + 1) P := by
  obtain ⟨a, pm, code, doc, h1, F⟩ := H.fn gl.lim g
  refine ⟨gl.g, .ref a, h1, Keep.fn F, fun A xs σ Q X hA hP => WC.clean (C_fn F ?_ hA.room fun L => ?_)⟩
  · exact (h A pm code doc 0 a xs σ Q X (hA.le (Nat.le_succ n)) hP).1
  · exact (h _ pm code doc L a xs σ Q X hA.deeper hP).2

/-! the script -/
structure Scr (B : Shared) (scr : Addr) (nums : List Int) : Prop where
  list : ∃ vs : Array Value, B.heap.IsList scr vs ∧ IntsAre vs.toList nums
  len : nums.length ≤ 63

theorem C_len_scr {scr : Addr} {nums : List Int} (S : Scr B scr nums) (q : Q (.int nums.length) σ) : WC prog w B A (.builtin "len") [.raw (.ref scr)] σ Q X := fun φ s vs G hv => by
  obtain ⟨v, rfl, hx⟩ := hv.one
  obtain rfl := hx.of_raw
  obtain ⟨vs, ⟨o, ho, hc, n, hd⟩, hI⟩ := S.list
  have hl : vs.size = nums.length := by simpa using hI.length
  have := S.len
  exact call_len_list ⟨o, G.base _ _ ho, hc, n, hd⟩ (by omega) (Post.tok G ⟨_, .int_ _ _, by rw [hl]; exact q⟩)
theorem S_scr {value slice : Expr} {scr : Addr} {nums : List Int} {i : Int} (S : Scr B scr nums) (h0 : 0 ≤ i) (hi : i < nums.length) (q : Q (.int (nums.getD i.toNat 0)) σ)
    (hs : PlainSlice slice := by with_unfolding_all exact fun _ _ => rfl) : WSub prog w B A value slice (.raw (.ref scr)) (.int i) σ Q X := fun φ s v u G hv hu => by
  obtain rfl := hv.of_raw; obtain ⟨t, rfl⟩ := hu.of_int
  obtain ⟨vs, ⟨o, ho, hc, n, hd⟩, hI⟩ := S.list
  have hl : s.heap.IsList scr vs := ⟨o, G.base _ _ ho, hc, n, hd⟩
  have hi' : i.toNat < nums.length := by omega
  have := S.len
  have hsz : vs.size = nums.length := by simpa using hI.length
  have hv' : vs.toList[i.toNat]? = some (vs.toList[i.toNat]'(by simp; omega)) := List.getElem?_eq_getElem _
  obtain ⟨t', e⟩ := hI.int_at i.toNat _ hv'
  refine tail_any hl.typeIs slot_list_getitem.lookup (wpAny_getItem_list hl h0 (by omega) (by rw [← Array.getElem?_toList]; exact hv') ?_) (hs _ _)
  rw [e]
  exact Post.here G ⟨_, .int_ _ _, q⟩

theorem gWX {ss : List Stmt} {Q : Fl → List (Str × V) → List AObj → Prop} (h : WX prog w B A env ss ρ σ Q X) : WX prog w B A env ss ρ σ Q X := h
theorem gWE {e : Expr} (h : WE prog w B A env e ρ σ Q X) : WE prog w B A env e ρ σ Q X := h
theorem gWT {e : Expr} {Q : Bool → List AObj → Prop} (h : WT prog w B A env e ρ σ Q X) : WT prog w B A env e ρ σ Q X := h
theorem gW2 {t : Value → Value → Sem Value} {x y : V} (h : W2 prog w B A t x y σ Q X) : W2 prog w B A t x y σ Q X := h
theorem gW1 {α : Type} {t : Value → Sem α} {x : V} {Q : α → List Addr → List AObj → Shared → Prop} (h : W1 prog w B A t x σ Q X) : W1 prog w B A t x σ Q X := h
theorem gWC {f : Value} {xs : List V} (h : WC prog w B A f xs σ Q X) : WC prog w B A f xs σ Q X := h
theorem gCall {f : Expr} {es : List Expr} {ks : List Keyword} {pos : Pos} (h : WE prog w B A env (.Call f es ks pos) ρ σ Q X) : WE prog w B A env (.Call f es ks pos) ρ σ Q X := h
theorem gWSub {value slice : Expr} {x y : V} (h : WSub prog w B A value slice x y σ Q X) : WSub prog w B A value slice x y σ Q X := h
end
end Mine

set_option autoImplicit false
set_option linter.unusedVariables false
set_option maxRecDepth 100000
namespace Mine
open PySem PySem.W PySem.Calls PyProof.Rows

/-- the names of l stand in ρ -/
def Sub (l ρ : List (Str × V)) : Prop := ∀ x v, l.lookup x = some v → ρ.lookup x = some v
theorem Sub.refl (l : List (Str × V)) : Sub l l := fun _ _ h => h
theorem Sub.nil {ρ : List (Str × V)} : Sub [] ρ := fun _ _ h => by cases h
theorem Sub.cons {l ρ : List (Str × V)} {x : Str} {v : V} (h : LookQ ρ x (fun u => u = v ∧ Sub l ρ) False) : Sub ((x, v) :: l) ρ := by
  rcases h with ⟨u, h1, rfl, h2⟩ | h
  · intro y z hy
    by_cases e : y = x
    · subst e; rw [List.lookup_cons_self] at hy; cases hy; exact h1
    · rw [lookup_cons_ne e] at hy; exact h2 y z hy
  · exact h.elim

section
variable {prog : Program} {w : World} {B : Shared} {mg mb : Str → Option Value} {φ φ' : List Addr} {σ σ' : List AObj} {s s' : Shared} {env : Env} {ρ l : List (Str × V)} {A : Around} {X : XT} {Q : V → List AObj → Prop}

theorem Loc.sub {h : Heap} (L : Loc B env ρ φ h) (hs : Sub l ρ) : Loc B env l φ h :=
  ⟨L.kind, L.glob, L.blt, L.ns, L.own, L.cells, L.apart, fun x v hx => L.val x v (hs x v hx)⟩
theorem X_weak {ss : List Stmt} {Q : Fl → List (Str × V) → List AObj → Prop} (hs : Sub l ρ) (h : WX prog w B A env ss l σ Q X) : WX prog w B A env ss ρ σ Q X := fun φ s G L => h φ s G (L.sub hs)

/-- what the arms of an «if» leave -/
def joinQ {ι : Type} (C : ι → Prop) (l : ι → List (Str × V)) (f : ι → List AObj) (Q : Fl → List (Str × V) → List AObj → Prop) : Fl → List (Str × V) → List AObj → Prop
  | .next, ρ', σ' => ∃ i, C i ∧ σ' = f i ∧ Sub (l i) ρ'
  | fl, ρ', σ' => Q fl ρ' σ'
theorem J_next {ι : Type} {C : ι → Prop} {l : ι → List (Str × V)} {f : ι → List AObj} {Q : Fl → List (Str × V) → List AObj → Prop} (i : ι) (hC : C i) (hσ : σ = f i) (hs : Sub (l i) ρ) : joinQ C l f Q .next ρ σ := ⟨i, hC, hσ, hs⟩
theorem J_ret {ι : Type} {C : ι → Prop} {l : ι → List (Str × V)} {f : ι → List AObj} {Q : Fl → List (Str × V) → List AObj → Prop} {x : V} (q : Q (.ret x) ρ σ) : joinQ C l f Q (.ret x) ρ σ := q
theorem J_brk {ι : Type} {C : ι → Prop} {l : ι → List (Str × V)} {f : ι → List AObj} {Q : Fl → List (Str × V) → List AObj → Prop} (q : Q .brk ρ σ) : joinQ C l f Q .brk ρ σ := q
theorem J_cont {ι : Type} {C : ι → Prop} {l : ι → List (Str × V)} {f : ι → List AObj} {Q : Fl → List (Str × V) → List AObj → Prop} (q : Q .cont ρ σ) : joinQ C l f Q .cont ρ σ := q
theorem X_ifj {ι : Type} (C : ι → Prop) (l : ι → List (Str × V)) (f : ι → List AObj) {test : Expr} {body orelse : List Stmt} {pos : Pos} {rest : List Stmt} {Q : Fl → List (Str × V) → List AObj → Prop}
    (h : WT prog w B A env test ρ σ (fun b σ₁ => if b then WX prog w B A env body ρ σ₁ (joinQ C l f Q) X else WX prog w B A env orelse ρ σ₁ (joinQ C l f Q) X) X)
    (k : ∀ i, C i → WX prog w B A env rest (l i) (f i) Q X) : WX prog w B A env (.If test body orelse pos :: rest) ρ σ Q X := by
  have mono : ∀ (ss : List Stmt) (σ₁ : List AObj), WX prog w B A env ss ρ σ₁ (joinQ C l f Q) X → WX prog w B A env ss ρ σ₁ (seqQ prog w B A env rest Q X) X := fun ss σ₁ hw φ s G L =>
    wpAny_mono (hw φ s G L) (fun v s₁ ⟨φ₁, σ₂, t₁, G₁, fl, ρ', hf, L₁, q⟩ => by
      refine ⟨φ₁, σ₂, t₁, G₁, fl, ρ', hf, L₁, ?_⟩
      cases fl with
      | next => obtain ⟨i, hC, rfl, hs⟩ := q; exact X_weak hs (k i hC)
      | brk => exact q
      | cont => exact q
      | ret x => exact q) fun _ _ x => x
  refine X_cons (X_if fun φ s G L => (h φ s G L).mono fun b φ' σ' s' hb => ?_)
  cases b
  · exact mono _ _ hb
  · exact mono _ _ hb

/-- an expression that leaves the heap and gives a known value -/
theorem E_as {e : Expr} (x : V) (h : WE prog w B A env e ρ σ (fun y σ' => y = x ∧ σ' = σ) X) (q : Q x σ) : WE prog w B A env e ρ σ Q X := h.mono fun y σ' ⟨h1, h2⟩ => by subst h1 h2; exact q
theorem T_as {e : Expr} {Q : Bool → List AObj → Prop} (b : Bool) (h : WT prog w B A env e ρ σ (fun y σ' => y = b ∧ σ' = σ) X) (q : Q b σ) : WT prog w B A env e ρ σ Q X := fun φ s G L => (h φ s G L).mono fun y φ' σ' s' ⟨h1, h2⟩ => by subst h1 h2; exact q

theorem C_len_t0 (q : Q (.int 0) σ) : WC prog w B A (.builtin "len") [.tup []] σ Q X := C_len_tup (by decide) q
theorem C_len_t1 {x : V} (q : Q (.int 1) σ) : WC prog w B A (.builtin "len") [.tup [x]] σ Q X := C_len_tup (by simp only [List.length_cons, List.length_nil]; decide) q
theorem C_len_t2 {x y : V} (q : Q (.int 2) σ) : WC prog w B A (.builtin "len") [.tup [x, y]] σ Q X := C_len_tup (by simp only [List.length_cons, List.length_nil]; decide) q
theorem C_len_t3 {x y z : V} (q : Q (.int 3) σ) : WC prog w B A (.builtin "len") [.tup [x, y, z]] σ Q X := C_len_tup (by simp only [List.length_cons, List.length_nil]; decide) q
theorem iteYes {b : Bool} {P P' : Prop} (h : b = true) (p : P) : if b = true then P else P' := by rw [if_pos h]; exact p
theorem iteNo {b : Bool} {P P' : Prop} (h : b = false) (p : P') : if b = true then P else P' := by rw [if_neg (by simp [h])]; exact p
end
end Mine

set_option autoImplicit false
set_option linter.unusedVariables false
set_option maxRecDepth 100000
namespace Mine
open PySem PySem.W PySem.Calls PyProof.Rows

section
variable {prog : Program} {w : World} {B : Shared} {mg mb : Str → Option Value} {φ φ' : List Addr} {σ σ' : List AObj} {s s' : Shared} {env : Env} {ρ l : List (Str × V)} {A : Around} {X : XT} {Q : V → List AObj → Prop}

/-! calls of methods -/
def GM (prog : Program) (w : World) (B : Shared) (A : Around) (x : V) (name : Str) (σ : List AObj) (id : String) : Prop :=
  ∀ φ s v (pl : Sem Bool) (R : Value × List Value → Shared → Prop) (E : Value → Shared → Prop), St prog w B φ σ s → Val φ s.heap x v → R (.builtin id, [v]) s → wpAny (model prog w) A (getMethod v name pl) R E s
theorem GM_str {x : Str} {name : Str} {id : String} (slot : Slot "str" name id) (hty : typeOf (.builtin id) = pure (.type "method_descriptor")) : GM prog w B A (.str x) name σ id := fun φ s v pl R E G hv h => by
  obtain ⟨t, rfl⟩ := hv.of_str
  exact getMethod_builtin (typeIs_str _ _ _) F.plainAttrs_str slot hty (fun a e => nomatch e) h
theorem GM_list {k : Nat} {xs : List V} {name : Str} {id : String} (hσ : σ[k]? = some (.list xs)) (slot : Slot "list" name id) (hty : typeOf (.builtin id) = pure (.type "method_descriptor")) : GM prog w B A (.ref k) name σ id := fun φ s v pl R E G hv h => by
  obtain ⟨a, rfl, ha⟩ := hv.of_ref
  obtain ⟨a', ha', vs, n, ho, hvs⟩ := G.get hσ
  rw [ha] at ha'; cases ha'
  exact getMethod_builtin ⟨_, ho, rfl⟩ F.plainAttrs_list slot hty (fun a e => by cases e; exact ⟨_, ho, rfl⟩) h
theorem GM_dict {k : Nat} {es : List (Key × V)} {ep : Option Nat} {name : Str} {id : String} (hσ : σ[k]? = some (.dict es ep)) (slot : Slot "dict" name id) (hty : typeOf (.builtin id) = pure (.type "method_descriptor")) : GM prog w B A (.ref k) name σ id := fun φ s v pl R E G hv h => by
  obtain ⟨a, rfl, ha⟩ := hv.of_ref
  obtain ⟨a', ha', kvs, ep, hd, hvs, _⟩ := G.get hσ
  rw [ha] at ha'; cases ha'
  exact getMethod_builtin hd.dictOf.mapOf.typeIs F.plainAttrs_dict slot hty hd.dictOf.mapOf.noDict h

theorem E_mcall {o : Expr} {name : Str} {id : String} {apos pos : Pos} {es : List Expr} {pl : Sem Bool}
    (h : WE prog w B A env o ρ σ (fun x σ₁ => GM prog w B A x name σ₁ id ∧ WEs prog w B A env es ρ σ₁ (fun xs σ₂ => WC prog w B A (.builtin id) (x :: xs) σ₂ Q X) X) X)
    (he : eval (.Call (.Attribute o name apos) es [] pos) env = (do
      let ov ← eval o env
      standAt apos.atName
      let (f, first) ← holding [ov] (getMethod ov name pl)
      callWith pos f first (backTo pos (starEach es env)) []) := by with_unfolding_all rfl)
    (hp : ∀ pos, (backTo pos (starEach es env)).any (·.1) = false := by intro _; with_unfolding_all rfl) :
    WE prog w B A env (.Call (.Attribute o name apos) es [] pos) ρ σ Q X := fun φ s G L => by
  refine MethodCall_ ((h φ s G L).use (.refl ..) fun v s₁ φ₁ σ₁ t₁ _ G₁ ⟨x, hx, gm, h₁⟩ => ?_) he
  refine gm φ₁ s₁ v pl _ _ G₁ hx ?_
  refine callWith_builtin (by rw [hp pos]) ?_
  have main := (h₁ pos φ₁ s₁ G₁ (L.step G t₁)).use t₁ (R := fun vs s₂ => wpAny (model prog w) A (call (.builtin id) ([v] ++ vs)) (Post prog w B [] φ s (vQ Q)) (Post prog w B [] φ s X) s₂) fun vs s₂ φ₂ σ₂ t₂ t G₂ ⟨xs, hxs, h₂⟩ => (h₂ φ₂ s₂ (v :: vs) G₂ (.cons (hx.step G₁ t₂) hxs)).last t
  exact evalArgs_any (hp pos) main

/-! str.join -/
theorem vals_strs : ∀ {texts : List Str} {vs : List Value} {h : Heap}, Vals φ h (texts.map V.str) vs → ∃ l : List (Str × Tok), vs = strValues l ∧ l.map (·.1) = texts
  | [], vs, h, e => by rw [List.map_nil, Vals] at e; subst e; exact ⟨[], rfl, rfl⟩
  | x :: r, vs, h, e => by
    rw [List.map_cons, Vals] at e
    obtain ⟨v, r', rfl, h1, h2⟩ := e
    obtain ⟨t, rfl⟩ := h1.of_str
    obtain ⟨l, rfl, rfl⟩ := vals_strs h2
    exact ⟨(x, t) :: l, rfl, rfl⟩
theorem C_join {sep : Str} {k : Nat} {texts : List Str} (hσ : σ[k]? = some (.list (texts.map V.str))) (hok : JoinOk sep texts = true) (q : Q (.str (Txt.join sep texts)) σ) : WC prog w B A (.builtin "str.join") [.str sep, .ref k] σ Q X := fun φ s vs G hv => by
  obtain ⟨v, u, rfl, h1, h2⟩ := hv.two
  obtain ⟨t, rfl⟩ := h1.of_str
  obtain ⟨a, rfl, ha⟩ := h2.of_ref
  obtain ⟨a', ha', vs, n, ho, hvs⟩ := G.get hσ
  rw [ha] at ha'; cases ha'
  obtain ⟨l, hl, ht⟩ := vals_strs hvs
  refine SC.join (D := a) (l := l) ⟨_, ho, rfl, n, ?_⟩ ht hok fun t' k => Post.tok G ⟨_, .str_ _ _, q⟩
  rw [← hl]
theorem join_fold : ∀ (l : List Nat) (acc : Array Nat), (l.map fun c => (⟨#[c]⟩ : Str)).foldl (fun acc p => acc ++ (#[] : Array Nat) ++ p.cps) acc = acc ++ l.toArray
  | [], acc => by simp
  | c :: r, acc => by
    rw [List.map_cons, List.foldl_cons, join_fold r]
    simp
theorem join_empty (l : List Nat) : Txt.join ⟨#[]⟩ (l.map fun c => ⟨#[c]⟩) = ⟨l.toArray⟩ := by
  unfold Txt.join Builtin.Str.glued
  cases l with
  | nil => rfl
  | cons c r =>
    have := join_fold r #[c]
    simp only [List.map_cons, List.drop_succ_cons, List.drop_zero, List.headD_cons]
    rw [this]
    simp
theorem joinOk_small {sep : Str} {texts : List Str} (h : ∀ y ∈ texts, y.length ≤ 1000) (hn : texts.length ≤ 1000) (hs : sep.length ≤ 1000) : JoinOk sep texts = true := by
  unfold JoinOk
  rw [StrLaws.joinFits h (by have : texts.length * sep.length ≤ 1000 * 1000 := Nat.mul_le_mul hn hs; omega)]
  rfl

/-! list.append, dict.get -/
theorem C_append {k : Nat} {xs : List V} {x : V} (hσ : σ[k]? = some (.list xs)) (hl : xs.length ≤ sizeLine) (q : Q .none (σ.set k (.list (xs ++ [x])))) : WC prog w B A (.builtin "list.append") [.ref k, x] σ Q X := fun φ s vs G hv => by
  obtain ⟨v, u, rfl, h1, h2⟩ := hv.two
  obtain ⟨a, rfl, ha⟩ := h1.of_ref
  exact list_append G ha hσ h2 hl fun h' hs G' => ⟨φ, _, Step.update hs (List.mem_of_getElem? ha), G', .none, .none_, q⟩
theorem key_is {key : Key} {h : Heap} {u : Value} (hu : Val φ h key.v u) : (kk prog w).is key u = true := by
  cases key with
  | s y => obtain ⟨t, rfl⟩ := hu.of_str; simp [kk, Key.is, Value.isStrOf]
  | i n => obtain ⟨t, rfl⟩ := hu.of_int; simp [kk, Key.is, Value.isInt]
theorem C_get {k : Nat} {es : List (Key × V)} {e : Option Nat} {key : Key} {d : V} (hσ : σ[k]? = some (.dict es e)) (q : Q ((at? es key).getD d) σ) : WC prog w B A (.builtin "dict.get") [.ref k, key.v, d] σ Q X := fun φ s vs G hv => by
  obtain ⟨v, u, t, rfl, h1, h2, h3⟩ := hv.three
  obtain ⟨a, rfl, ha⟩ := h1.of_ref
  obtain ⟨a', ha', kvs, ep, hd, hvs, _⟩ := G.get hσ
  rw [ha] at ha'; cases ha'
  have hkey : (kk prog w).is key u = true := key_is h2
  refine call_meetsIn F.slot_dict_get hd.dictOf.mapOf.typeIs F.entry_dict_get (F.args_dict_get_3 _ _ _) (meets_dict_get_default (kk prog w) a hkey (G.notSys (List.mem_of_getElem? ha)) t) ⟨_, hd.dictOf.mapOf, ?_⟩
  rcases hvs.at? key with ⟨y, z, e1, e2, e3⟩ | ⟨e1, e2⟩
  · rw [e1] at q; exact Post.tok G ⟨_, by rw [e2]; exact e3, q⟩
  · rw [e1] at q; exact Post.tok G ⟨_, by rw [e2]; exact h3, q⟩
theorem C_get_s {k : Nat} {es : List (Key × V)} {e : Option Nat} {x : Str} {d : V} (hσ : σ[k]? = some (.dict es e)) (q : Q ((at? es (.s x)).getD d) σ) : WC prog w B A (.builtin "dict.get") [.ref k, .str x, d] σ Q X := C_get (key := .s x) hσ q
theorem C_get1 {k : Nat} {es : List (Key × V)} {e : Option Nat} {key : Key} (hσ : σ[k]? = some (.dict es e)) (q : Q ((at? es key).getD .none) σ) : WC prog w B A (.builtin "dict.get") [.ref k, key.v] σ Q X := fun φ s vs G hv => by
  obtain ⟨v, u, rfl, h1, h2⟩ := hv.two
  obtain ⟨a, rfl, ha⟩ := h1.of_ref
  obtain ⟨a', ha', kvs, ep, hd, hvs, _⟩ := G.get hσ
  rw [ha] at ha'; cases ha'
  have hkey : (kk prog w).is key u = true := key_is h2
  refine call_meetsIn F.slot_dict_get hd.dictOf.mapOf.typeIs F.entry_dict_get (F.args_dict_get_2 _ _) (meets_dict_get (kk prog w) a hkey (G.notSys (List.mem_of_getElem? ha))) ⟨_, hd.dictOf.mapOf, ?_⟩
  rcases hvs.at? key with ⟨y, z, e1, e2, e3⟩ | ⟨e1, e2⟩
  · rw [e1] at q; exact Post.tok G ⟨_, by rw [e2]; exact e3, q⟩
  · rw [e1] at q; exact Post.tok G ⟨_, by rw [e2]; exact .none_, q⟩
theorem C_get1_s {k : Nat} {es : List (Key × V)} {e : Option Nat} {x : Str} (hσ : σ[k]? = some (.dict es e)) (q : Q ((at? es (.s x)).getD .none) σ) : WC prog w B A (.builtin "dict.get") [.ref k, .str x] σ Q X := C_get1 (key := .s x) hσ q

/-! range -/
theorem C_range1 {n : Int} (q : Q (.rng 0 n 1) σ) : WC prog w B A (.type "range") [.int n] σ Q X := fun φ s vs G hv => by
  obtain ⟨v, rfl, h1⟩ := hv.one
  obtain ⟨t, rfl⟩ := h1.of_int
  have hk : ∀ (ob : Obj) (b : Addr) (o : Obj), s.heap.get? b = some o → (s.heap.push ob).get? b = some o := fun ob b o e => Heap.get?_push_of_some _ e
  exact call_range_1 ⟨φ, σ, .of_keeps (hk _), (G.keeps (s' := { s with heap := _, toks := _ }) (hk _)), .rng 0 n 1, by rw [Val]; exact ⟨_, _, _, _, rfl, Heap.get?_push_size _ rfl⟩, q⟩
theorem C_range2 {a b : Int} (q : Q (.rng a b 1) σ) : WC prog w B A (.type "range") [.int a, .int b] σ Q X := fun φ s vs G hv => by
  obtain ⟨v, u, rfl, h1, h2⟩ := hv.two
  obtain ⟨t, rfl⟩ := h1.of_int
  obtain ⟨t', rfl⟩ := h2.of_int
  have hk : ∀ (ob : Obj) (b : Addr) (o : Obj), s.heap.get? b = some o → (s.heap.push ob).get? b = some o := fun ob b o e => Heap.get?_push_of_some _ e
  exact call_range_2 ⟨φ, σ, .of_keeps (hk _), (G.keeps (s' := { s with heap := _, toks := _ }) (hk _)), .rng a b 1, by rw [Val]; exact ⟨_, _, _, _, rfl, Heap.get?_push_size _ rfl⟩, q⟩

/-! new dicts -/
theorem St.newDict {h' : Heap} {tk : Nat} {kvs : List (Key × Value)} {es : List (Key × V)} (G : St prog w B φ σ s) (hk : ∀ b o, s.heap.get? b = some o → h'.get? b = some o) (hd : h'.DictOf (kk prog w) s.heap.objs.size kvs) (he : Ents φ s.heap es kvs) :
    Step [] φ s.heap (φ ++ [s.heap.objs.size]) h' ∧ St prog w B (φ ++ [s.heap.objs.size]) (σ ++ [.dict es none]) { s with heap := h', toks := tk } ∧ Val (φ ++ [s.heap.objs.size]) h' (.ref σ.length) (.ref s.heap.objs.size) := by
  obtain ⟨ep, hd'⟩ := hd.dictAt
  refine ⟨Step.alloc (s' := { s with heap := h' }) (get?_size _) hk, G.alloc (s' := { s with heap := h', toks := tk }) (ob := .dict es none) (get?_size _) hk ⟨kvs, ep, hd', he.mono (List.prefix_append _ _) (fun a o e _ => hk a o e), fun n e => by cases e⟩ G.fresh G.sizeNe, ?_⟩
  rw [Val, ← G.len]
  exact ⟨_, rfl, by simp⟩
theorem E_dict0 {pos : Pos} (q : Q (.ref σ.length) (σ ++ [.dict [] none])) : WE prog w B A env (.Dict [] [] pos) ρ σ Q X := fun φ s G L => by
  refine wpAny_Dict_empty ?_
  have hk : ∀ (b : Addr) (o : Obj), s.heap.get? b = some o → (s.heap.push { cls := .type "dict", data := .dict #[] }).get? b = some o := fun b o e => Heap.get?_push_of_some _ e
  obtain ⟨t, G', hv⟩ := G.newDict (tk := s.toks) (kvs := []) hk (Heap.DictOf.new ..) .nil
  exact ⟨_, _, t, G', _, hv, q⟩

theorem E_dict1 {ke ve : Expr} {pos : Pos} (h : WE prog w B A env ke ρ (σ ++ [.dict [] none]) (fun x σ₁ => WE prog w B A env ve ρ σ₁ (fun y σ₂ => ∃ key : Key, x = key.v ∧ σ₂[σ.length]? = some (.dict [] none) ∧ Q (.ref σ.length) (σ₂.set σ.length (.dict [(key, y)] none))) X) X) :
    WE prog w B A env (.Dict [some ke] [ve] pos) ρ σ Q X := fun φ s G L => by
  refine wpAny_Dict_walk (knd := kk prog w) (by rfl) rfl (by simp) (Nat.le_of_ble_eq_true rfl) ?_
  have hk : ∀ (b : Addr) (o : Obj), s.heap.get? b = some o → (s.heap.push { cls := .type "dict", data := .dict #[] }).get? b = some o := fun b o e => Heap.get?_push_of_some _ e
  obtain ⟨t, G', hv⟩ := G.newDict (tk := s.toks) (kvs := []) hk (Heap.DictOf.new ..) .nil
  refine pairTrees_cons_walk ((h _ _ G' (L.step G t)).use t fun a s₁ φ₁ σ₁ t₁ tt₁ G₁ ⟨x, hx, h₁⟩ => (h₁ φ₁ s₁ G₁ (L.step G tt₁)).use tt₁ fun b s₂ φ₂ σ₂ t₂ tt₂ G₂ ⟨y, hy, key, hkey, hσ, q⟩ => pairTrees_nil_walk ?_)
  subst hkey
  have hk2 : (kk prog w).is key a = true := key_is hx
  have hpre : φ₂[σ.length]? = some s.heap.objs.size := by
    have : (φ ++ [s.heap.objs.size])[σ.length]? = some s.heap.objs.size := by rw [← G.len]; simp
    exact idx_mono (t₁.trans0 t₂).pre this
  obtain ⟨a', ha', kvs, ep, hd, hvs, _⟩ := G₂.get hσ
  rw [hpre] at ha'; cases ha'
  have hkv : kvs = [] := by cases hvs; rfl
  subst hkv
  refine ⟨[(key, b)], ⟨hk2, rfl, trivial⟩, hd.dictOf, fun h' hd' hsb => ?_⟩
  obtain ⟨ep', hd''⟩ := hd'.dictAt
  have hn : ∀ o, s₂.heap.get? s.heap.objs.size = some o → ¬ Still o := fun o e => G₂.notStill (List.mem_of_getElem? hpre) e
  have hy' : Val φ₂ h' y b := hy.sameBut hsb hn
  refine ⟨φ₂, _, tt₂.trans0 (Step.update hsb (List.mem_of_getElem? hpre)), G₂.update (s' := { s₂ with heap := h', toks := _ }) (ob := .dict [(key, y)] none) hpre hsb ⟨_, ep', hd'', .cons hy' .nil, fun n e => by cases e⟩, .ref σ.length, ?_, q⟩
  rw [Val]
  exact ⟨_, rfl, hpre⟩
theorem inS_one (x : Str) (c : Nat) : inS x ⟨#[c]⟩ = decide (c ∈ x.cps.toList) := StrLaws.found_one x c

theorem Sub.both {l ρ : List (Str × V)} {x : Str} {v : V} (h : Sub l ρ) : Sub ((x, v) :: l) ((x, v) :: ρ) := fun y z hy => by
  by_cases e : y = x
  · subst e; rw [List.lookup_cons_self] at hy ⊢; exact hy
  · rw [lookup_cons_ne e] at hy ⊢; exact h y z hy
/-- what a turn leaves -/
def turnJ {ι : Type} (D : ι → Prop) (l : ι → List (Str × V)) (f : ι → List AObj) (C : List AObj → Prop) (Q : Fl → List (Str × V) → List AObj → Prop) : Fl → List (Str × V) → List AObj → Prop
  | .next, ρ', σ' => ∃ g, D g ∧ σ' = f g ∧ C σ' ∧ Sub (l g) ρ'
  | .cont, ρ', σ' => ∃ g, D g ∧ σ' = f g ∧ C σ' ∧ Sub (l g) ρ'
  | .brk, ρ', σ' => Q .next ρ' σ'
  | .ret x, ρ', σ' => Q (.ret x) ρ' σ'
theorem TJ_next {ι : Type} {D : ι → Prop} {l : ι → List (Str × V)} {f : ι → List AObj} {C : List AObj → Prop} {Q : Fl → List (Str × V) → List AObj → Prop} (g : ι) (hD : D g) (hσ : σ = f g) (hC : C σ) (hs : Sub (l g) ρ) : turnJ D l f C Q .next ρ σ := ⟨g, hD, hσ, hC, hs⟩
theorem TJ_cont {ι : Type} {D : ι → Prop} {l : ι → List (Str × V)} {f : ι → List AObj} {C : List AObj → Prop} {Q : Fl → List (Str × V) → List AObj → Prop} (g : ι) (hD : D g) (hσ : σ = f g) (hC : C σ) (hs : Sub (l g) ρ) : turnJ D l f C Q .cont ρ σ := ⟨g, hD, hσ, hC, hs⟩
theorem TJ_ret {ι : Type} {D : ι → Prop} {l : ι → List (Str × V)} {f : ι → List AObj} {C : List AObj → Prop} {Q : Fl → List (Str × V) → List AObj → Prop} {x : V} (q : Q (.ret x) ρ σ) : turnJ D l f C Q (.ret x) ρ σ := q
theorem TJ_brk {ι : Type} {D : ι → Prop} {l : ι → List (Str × V)} {f : ι → List AObj} {C : List AObj → Prop} {Q : Fl → List (Str × V) → List AObj → Prop} (q : Q .next ρ σ) : turnJ D l f C Q .brk ρ σ := q

/-- a loop by an invariant with a ghost -/
def ForG (prog : Program) (w : World) (B : Shared) (A : Around) (env : Env) (x : Str) (body rest : List Stmt) (ρ : List (Str × V)) (Q : Fl → List (Str × V) → List AObj → Prop) (X : XT) (v : V) (σ' : List AObj) : Prop :=
  ∃ (ι : Type) (D : Nat → ι → Prop) (l : Nat → ι → List (Str × V)) (f : Nat → ι → List AObj) (σ₁ : List AObj) (n : Nat) (el : Nat → V) (C : List AObj → Prop), WIt prog w B A v σ' σ₁ n el C ∧ (∃ g, D 0 g ∧ σ₁ = f 0 g ∧ C σ₁ ∧ Sub (l 0 g) ρ) ∧
    (∀ i g, i < n → D i g → C (f i g) → WX prog w B A env body ((x, el i) :: l i g) (f i g) (turnJ (D (i + 1)) (l (i + 1)) (f (i + 1)) C (seqQ prog w B A env rest Q X)) (fun _ _ _ _ => False)) ∧
    (∀ g, D n g → C (f n g) → WX prog w B A env rest (l n g) (f n g) Q X)
theorem ForG.mk {x : Str} {body rest : List Stmt} {Q : Fl → List (Str × V) → List AObj → Prop} {v : V} {ι : Type} (D : Nat → ι → Prop) (l : Nat → ι → List (Str × V)) (f : Nat → ι → List AObj) {σ₁ : List AObj} {n : Nat} {el : Nat → V} {C : List AObj → Prop}
    (hit : WIt prog w B A v σ' σ₁ n el C) (g : ι) (h1 : D 0 g) (h2 : σ₁ = f 0 g) (h3 : C σ₁) (h4 : Sub (l 0 g) ρ)
    (hb : ∀ i g, i < n → D i g → C (f i g) → WX prog w B A env body ((x, el i) :: l i g) (f i g) (turnJ (D (i + 1)) (l (i + 1)) (f (i + 1)) C (seqQ prog w B A env rest Q X)) (fun _ _ _ _ => False))
    (he : ∀ g, D n g → C (f n g) → WX prog w B A env rest (l n g) (f n g) Q X) : ForG prog w B A env x body rest ρ Q X v σ' := ⟨ι, D, l, f, σ₁, n, el, C, hit, ⟨g, h1, h2, h3, h4⟩, hb, he⟩
theorem X_fors {x : Str} {px pos : Pos} {iter : Expr} {body rest : List Stmt} {Q : Fl → List (Str × V) → List AObj → Prop} (h : WE prog w B A env iter ρ σ (fun v σ' => ForG prog w B A env x body rest ρ Q X v σ') X)
    (hx : env.kindOf x = some .local := by kernel_rfl!)
    (hs : ∀ v, foldedSetIterable iter env v = pure v := by intro _; with_unfolding_all rfl) (hl : ∀ it v, letOwnedTupleGo (.Name x px) it v = pure () := by intro _ _; with_unfolding_all rfl) :
    WX prog w B A env (.For (.Name x px) iter body [] pos :: rest) ρ σ Q X := by
  refine X_loop (h.mono fun v σ' ⟨ι, D, l, f, σ₁, n, el, C, hit, ⟨g, h1, h2, h3, h4⟩, hb, he⟩ => ?_) hx hs hl
  refine ⟨σ₁, n, el, C, fun i ρ' σ' => ∃ g, D i g ∧ σ' = f i g ∧ Sub (l i g) ρ', hit, h3, ⟨g, h1, h2, h4⟩, ?_, ?_⟩
  · rintro i ρ₂ σ₂ hi hC ⟨g, hD, rfl, hs⟩
    refine X_weak hs.both fun φ s G L => wpAny_mono (hb i g hi hD hC φ s G L) (fun v s₁ ⟨φ₁, σ₃, t₁, G₁, fl, ρ', hf, L₁, q⟩ => ?_) fun _ _ x => x
    refine ⟨φ₁, σ₃, t₁, G₁, fl, ρ', hf, L₁, ?_⟩
    cases fl with
    | next => obtain ⟨g, q1, q2, q3, q4⟩ := q; exact ⟨q3, g, q1, q2, q4⟩
    | cont => obtain ⟨g, q1, q2, q3, q4⟩ := q; exact ⟨q3, g, q1, q2, q4⟩
    | brk => exact q
    | ret y => exact q
  · rintro ρ₂ σ₂ hC ⟨g, hD, rfl, hs⟩
    exact X_weak hs (he g hD hC)

/-! kinds of values -/
inductive TyV (σ : List AObj) : V → String → Prop
  | int (i : Int) : TyV σ (.int i) "int"
  | bool (b : Bool) : TyV σ (.bool b) "bool"
  | str (x : Str) : TyV σ (.str x) "str"
  | none : TyV σ .none "NoneType"
  | tup (xs : List V) : TyV σ (.tup xs) "tuple"
  | list {k : Nat} {xs : List V} : σ[k]? = some (.list xs) → TyV σ (.ref k) "list"
  | dict {k : Nat} {es : List (Key × V)} {e : Option Nat} : σ[k]? = some (.dict es e) → TyV σ (.ref k) "dict"
theorem isi_any {x : V} {Tx T : String} {b : Bool} (h : TyV σ x Tx) (hi : Isi Tx T b) (q : Q (.bool b) σ) (hn : (Tx == "NoneType") = true → b = false) : WC prog w B A (.builtin "isinstance") [x, .raw (.type T)] σ Q X := by
  cases h with
  | int => exact isi_int hi q
  | bool => exact isi_bool hi q
  | str => exact isi_str hi q
  | none => obtain rfl := hn (by decide); exact isi_none hi q
  | tup => exact isi_tup hi q
  | list h => exact isi_list h hi q
  | dict h => exact isi_dict h hi q
/-- no text | no whole number -/
def NonStr (σ : List AObj) (x : V) : Prop := ∃ Tx, TyV σ x Tx ∧ Isi Tx "str" false
def NonInt (σ : List AObj) (x : V) : Prop := (∃ b, x = .bool b) ∨ ∃ Tx, TyV σ x Tx ∧ Isi Tx "int" false
def NonDict (σ : List AObj) (x : V) : Prop := ∃ Tx, TyV σ x Tx ∧ Isi Tx "dict" false
def NonTup (σ : List AObj) (x : V) : Prop := ∃ Tx, TyV σ x Tx ∧ Isi Tx "tuple" false
theorem isi_non {x : V} {T : String} (h : ∃ Tx, TyV σ x Tx ∧ Isi Tx T false) (q : Q (.bool false) σ) : WC prog w B A (.builtin "isinstance") [x, .raw (.type T)] σ Q X := let ⟨_, h1, h2⟩ := h; isi_any h1 h2 q fun _ => rfl
end
end Mine

set_option autoImplicit false
set_option linter.unusedVariables false
set_option maxRecDepth 100000
namespace Mine
open PySem PySem.W PySem.Calls PyProof.Rows

def clOf (scope : Scope) (env : Env) : List (Str × Addr) := (scope.names.filter fun p => p.2 == .free).reverse.map fun p => (p.1, (env.cells.lookup p.1).getD 0)

section
variable {prog : Program} {w : World} {B : Shared} {mg mb : Str → Option Value} {φ φ' : List Addr} {σ σ' : List AObj} {s s' : Shared} {env : Env} {ρ l : List (Str × V)} {A : Around} {X : XT} {Q : V → List AObj → Prop}

theorem cellOf_of {x : Str} (h : (env.cells.lookup x).isSome = true) : cellOf env x = pure ((env.cells.lookup x).getD 0) := by
  unfold cellOf
  cases e : env.cells.lookup x with
  | some a => rfl
  | none => rw [e] at h; cases h
theorem clos_loop : ∀ (names : List (Str × NameKind)) (acc : List (Str × Addr)), (∀ p ∈ names, (p.2 == .free) = true → (env.cells.lookup p.1).isSome = true) →
    (forIn names acc fun (x : Str × NameKind) (r : List (Str × Addr)) => (match x with
      | (name, kind) => if (kind == NameKind.free) = true then (do let a ← cellOf env name; pure (ForInStep.yield ((name, a) :: r))) else pure (ForInStep.yield r) : Sem (ForInStep (List (Str × Addr))))) =
    pure ((names.filter fun p => p.2 == .free).reverse.map (fun p => (p.1, (env.cells.lookup p.1).getD 0)) ++ acc)
  | [], acc, _ => by simp
  | (n, k) :: r, acc, h => by
    rw [List.forIn_cons]
    have hr : ∀ p ∈ r, (p.2 == .free) = true → (env.cells.lookup p.1).isSome = true := fun p hp => h p (.tail _ hp)
    cases hk : k == NameKind.free with
    | true =>
      simp only [hk, if_true]
      rw [cellOf_of (h (n, k) (.head _) hk)]
      simp only [pure_bind]
      rw [clos_loop r _ hr]
      simp [hk]
    | false =>
      simp only [hk, Bool.false_eq_true, if_false, pure_bind]
      rw [clos_loop r _ hr]
      simp [hk]
theorem closureFor_of {scope : Scope} (h : ∀ p ∈ scope.names, (p.2 == .free) = true → (env.cells.lookup p.1).isSome = true) : closureFor scope env = pure (clOf scope env) := by
  have := clos_loop (env := env) scope.names [] h
  rw [List.append_nil] at this
  unfold closureFor
  simp only [pure_bind, bind_pure]
  exact this

theorem clOf_lookup_aux : ∀ (names : List (Str × NameKind)) (y : Str), (names.map (·.1)).Nodup → (y, NameKind.free) ∈ names → (env.cells.lookup y).isSome = true →
    ((names.filter fun p => p.2 == .free).reverse.map fun p => (p.1, (env.cells.lookup p.1).getD 0)).lookup y = env.cells.lookup y := fun names y hn hm hs => by
  obtain ⟨a, ha⟩ := Option.isSome_iff_exists.mp hs
  rw [ha]
  refine lookup_of_mem ?_ ?_
  · rw [List.map_map]
    have : ((fun x => x.1) ∘ fun p : Str × NameKind => (p.1, (env.cells.lookup p.1).getD 0)) = (fun p => p.1) := rfl
    rw [this, List.map_reverse]
    refine (List.reverse_perm _).nodup_iff.mpr (hn.sublist (List.Sublist.map _ List.filter_sublist))
  · refine List.mem_map.mpr ⟨(y, .free), List.mem_reverse.mpr (List.mem_filter.mpr ⟨hm, rfl⟩), ?_⟩
    simp [ha]

theorem pair_of_name {l : List (Str × Addr)} (h : l.Pairwise fun x y => x.2 ≠ y.2) {x y : Str} {a b : Addr} (hx : (x, a) ∈ l) (hy : (y, b) ∈ l) (hne : x ≠ y) : a ≠ b := fun e => hne (name_of_addr h hx (e ▸ hy))

/-- the check of a comprehension's names -/
def compB (env : Env) (scope : Scope) (x : Str) : Bool :=
  scope.names.all (fun p => p.2 != .cell) && decide (scope.kind = .function) && scope.names.all (fun p => p.2 != .local || scope.names.lookup p.1 == some .local) && (scope.names.lookup x == some .local) &&
  scope.names.all (fun p => p.2 != .free || (env.cells.lookup p.1).isSome && env.kindOf p.1 == some .cell && (relabel scope env).names.lookup p.1 == some .cell) && decide ((scope.names.map (·.1)).Nodup)

def freeOf (scope : Scope) : List Str := (scope.names.filter fun p => p.2 == .free).map (·.1)
theorem CompOk.of {scope : Scope} {x : Str} (hc : env.cells.Pairwise fun x y => x.2 ≠ y.2) (h : compB env scope x = true) : CompOk env scope (clOf scope env) x (freeOf scope) := by
  unfold compB at h
  simp only [Bool.and_eq_true, List.all_eq_true, Bool.or_eq_true, decide_eq_true_eq, bne_iff_ne, ne_eq, beq_iff_eq] at h
  obtain ⟨⟨⟨⟨⟨h1, h2⟩, h3⟩, h4⟩, h5⟩, h6⟩ := h
  have hf : ∀ p ∈ scope.names, (p.2 == .free) = true → (env.cells.lookup p.1).isSome = true := fun p hp he => by
    rcases h5 p hp with h | h
    · exact absurd (by simpa using he) h
    · exact h.1.1
  refine ⟨closureFor_of hf, h1, h2, fun y hy he => ?_, h4, fun p hp => ?_, ?_, fun y hy => ?_⟩
  · rcases h3 y hy with h | h
    · exact absurd he h
    · exact h
  · obtain ⟨⟨n, k⟩, hq, rfl⟩ := List.mem_map.mp hp
    have hq' := List.mem_filter.mp (List.mem_reverse.mp hq)
    obtain ⟨a, ha⟩ := Option.isSome_iff_exists.mp (hf _ hq'.1 hq'.2)
    have := mem_of_lookup ha
    simpa [ha] using this
  · unfold clOf
    rw [List.pairwise_map]
    have hn : ((scope.names.filter fun p => p.2 == .free).reverse.map (·.1)).Nodup := by
      rw [List.map_reverse]
      exact (List.reverse_perm _).nodup_iff.mpr (h6.sublist (List.Sublist.map _ List.filter_sublist))
    rw [List.Nodup, List.pairwise_map] at hn
    refine hn.imp_of_mem fun {a b} ha hb hne => ?_
    have ha' := List.mem_filter.mp (List.mem_reverse.mp ha)
    have hb' := List.mem_filter.mp (List.mem_reverse.mp hb)
    obtain ⟨u, hu⟩ := Option.isSome_iff_exists.mp (hf _ ha'.1 ha'.2)
    obtain ⟨v, hv⟩ := Option.isSome_iff_exists.mp (hf _ hb'.1 hb'.2)
    simp only [hu, hv, Option.getD_some]
    exact pair_of_name hc (mem_of_lookup hu) (mem_of_lookup hv) hne
  · obtain ⟨⟨n, k⟩, hq, rfl⟩ := List.mem_map.mp hy
    have hq' := List.mem_filter.mp hq
    have hk : k = .free := by simpa using hq'.2
    subst hk
    rcases h5 _ hq'.1 with h | h
    · exact absurd rfl h
    · exact ⟨h.2, h.1.2, clOf_lookup_aux _ _ h6 hq'.1 h.1.1⟩

theorem cellsFrom_apart : ∀ (names : List (Str × NameKind)) (n : Nat) (acc : List (Str × Addr)), (acc.Pairwise fun x y => x.2 ≠ y.2) → (∀ p ∈ acc, p.2 < n) → (cellsFrom n names acc).Pairwise fun x y => x.2 ≠ y.2
  | [], n, acc, h, _ => h
  | (y, k) :: r, n, acc, h, hb => by
    unfold cellsFrom
    split
    · refine cellsFrom_apart r (n + 1) _ (List.pairwise_cons.mpr ⟨fun p hp => ?_, h⟩) fun p hp => ?_
      · exact fun (e : n = p.2) => absurd (e ▸ hb p hp) (Nat.lt_irrefl _)
      · rcases List.mem_cons.mp hp with rfl | hp
        · exact Nat.lt_succ_self _
        · exact Nat.lt_succ_of_lt (hb p hp)
    · exact cellsFrom_apart r n acc h hb
theorem env_apart {fd : FuncData} {L a : Addr} : (callEnvC fd L a).cells.Pairwise fun x y => x.2 ≠ y.2 := cellsFrom_apart _ _ _ .nil (fun _ h => nomatch h)

theorem sub_has {fv : List Str} {y : Str} {v : V} (hy : y ∈ fv) (hv : ρ.lookup y = some v) : (sub ρ fv).lookup y = some v := by
  induction fv with
  | nil => cases hy
  | cons z r ih =>
    unfold sub
    rw [List.filterMap_cons]
    by_cases e : y = z
    · subst e; rw [hv]; simp
    · have hr := ih ((List.mem_cons.mp hy).resolve_left e)
      cases hz : ρ.lookup z with
      | none => exact hr
      | some u =>
        simp only [Option.map_some]
        rw [List.lookup_cons, show (y == z) = false from by simpa using e]
        exact hr
theorem Sub.sub {fv : List Str} (hl : l.all (fun p => fv.contains p.1) = true) (hs : Sub l ρ) : Sub l (Mine.sub ρ fv) := fun y v hy => by
  refine sub_has ?_ (hs y v hy)
  have := List.all_eq_true.mp hl _ (mem_of_lookup hy)
  simpa using this
theorem E_weak {e : Expr} (hs : Sub l ρ) (h : WE prog w B A env e l σ Q X) : WE prog w B A env e ρ σ Q X := fun φ s G L => h φ s G (L.sub hs)

/-- a comprehension whose items leave the heap as it is -/
def CompG (prog : Program) (w : World) (B : Shared) (A : Around) (env cenv : Env) (x : Str) (elt : Expr) (v : V) (σ' : List AObj) (K : Nat → List AObj → List V → Prop) (l : List (Str × V)) : Prop :=
  ∃ σ₁ n el C, ∃ y : Nat → V, WIt prog w B A v σ' σ₁ n el C ∧ n ≤ sizeLine ∧ (∀ i, C (σ₁ ++ [.list ((List.range i).map y)])) ∧
    (∀ D i, i < n → WE prog w B A { cenv with locals := D } elt ((x, el i) :: l) (σ₁ ++ [.list ((List.range i).map y)]) (fun v σ₃ => v = y i ∧ σ₃ = σ₁ ++ [.list ((List.range i).map y)]) (fun _ _ _ _ => False)) ∧
    K σ₁.length σ₁ ((List.range n).map y)
theorem X_compl {elt iter : Expr} {x y : Str} {px py : Pos} {scope : Scope} {pos spos : Pos} {rest : List Stmt} {Q : Fl → List (Str × V) → List AObj → Prop} (l : List (Str × V)) (hl : l.all (fun p => (freeOf scope).contains p.1) = true) (hs : Sub l ρ) (hb : compB env scope x = true) (hc : env.cells.Pairwise fun x y => x.2 ≠ y.2)
    (h : WE prog w B A env iter ρ σ (fun v σ' => CompG prog w B A env (compEnvC scope (clOf scope env) 0 env) x elt v σ' (fun k σ₁ ys => WX prog w B A env rest ((y, .ref k) :: ρ) (σ₁ ++ [.list ys]) Q X) l) X)
    (hy : env.kindOf y = some .local := by kernel_rfl!)
    (hsw : swapsWith (.ListComp elt [⟨.Name x px, iter, [], 0⟩] scope pos) (some (.Name y py)) spos.line env = pure true := by with_unfolding_all rfl)
    (hs' : ∀ v, foldedSetIterable iter env v = pure v := by intro _; with_unfolding_all rfl) :
    WX prog w B A env (.Assign [.Name y py] (.ListComp elt [⟨.Name x px, iter, [], 0⟩] scope pos) spos :: rest) ρ σ Q X := by
  refine X_cons (X_comp (CompOk.of hc hb) (h.mono fun v σ' ⟨σ₁, n, el, C, y, hit, hn, hC, helt, hK⟩ => ?_) hy hsw hs')
  refine ⟨σ₁, n, el, C, fun i σ₂ => σ₂ = σ₁ ++ [.list ((List.range i).map y)], hit, hC 0, rfl, ?_, ?_⟩
  · rintro D i _ hi hCi rfl
    refine (E_weak (Sub.both (hs.sub hl)) (helt D i hi)).mono ?_
    rintro _ _ ⟨rfl, rfl⟩
    have e : (σ₁ ++ [AObj.list ((List.range i).map y)]).set σ₁.length (.list ((List.range i).map y ++ [y i])) = σ₁ ++ [.list ((List.range (i + 1)).map y)] := by
      rw [List.set_append_right _ _ (Nat.le_refl _)]
      simp [List.range_succ]
    refine ⟨(List.range i).map y, by simp, by simp; omega, ?_, ?_⟩
    · rw [e]; exact hC (i + 1)
    · exact e
  · rintro _ _ rfl
    exact hK
theorem E_compl {elt iter : Expr} {x : Str} {px : Pos} {scope : Scope} {pos : Pos} (l : List (Str × V)) (hl : l.all (fun p => (freeOf scope).contains p.1) = true) (hs : Sub l ρ) (hb : compB env scope x = true) (hc : env.cells.Pairwise fun x y => x.2 ≠ y.2)
    (h : WE prog w B A env iter ρ σ (fun v σ' => CompG prog w B A env (compEnvC scope (clOf scope env) 0 env) x elt v σ' (fun k σ₁ ys => Q (.ref k) (σ₁ ++ [.list ys])) l) X)
    (hs' : ∀ v, foldedSetIterable iter env v = pure v := by intro _; with_unfolding_all rfl) :
    WE prog w B A env (.ListComp elt [⟨.Name x px, iter, [], 0⟩] scope pos) ρ σ Q X := by
  refine E_comp (CompOk.of hc hb) (h.mono fun v σ' ⟨σ₁, n, el, C, y, hit, hn, hC, helt, hK⟩ => ?_) hs'
  refine ⟨σ₁, n, el, C, fun i σ₂ => σ₂ = σ₁ ++ [.list ((List.range i).map y)], hit, hC 0, rfl, ?_, ?_⟩
  · rintro D i _ hi hCi rfl
    refine (E_weak (Sub.both (hs.sub hl)) (helt D i hi)).mono ?_
    rintro _ _ ⟨rfl, rfl⟩
    have e : (σ₁ ++ [AObj.list ((List.range i).map y)]).set σ₁.length (.list ((List.range i).map y ++ [y i])) = σ₁ ++ [.list ((List.range (i + 1)).map y)] := by
      rw [List.set_append_right _ _ (Nat.le_refl _)]
      simp [List.range_succ]
    refine ⟨(List.range i).map y, by simp, by simp; omega, ?_, ?_⟩
    · rw [e]; exact hC (i + 1)
    · exact e
  · rintro _ _ rfl
    exact hK
theorem small_size {n : Nat} (h : n ≤ 100000) : n ≤ sizeLine := Nat.le_trans h (by decide +kernel)
theorem log2_small {b : Int} (h : b.natAbs < 2 ^ 64) : b.natAbs.log2 < 9000 := by
  by_cases h0 : b.natAbs = 0
  · rw [h0]; decide
  · exact Nat.lt_of_lt_of_le ((Nat.log2_lt h0).mpr h) (by decide)
theorem at_end {ob : AObj} : (σ ++ [ob])[σ.length]? = some ob := by simp
theorem set_end {ob ob' : AObj} : (σ ++ [ob]).set σ.length ob' = σ ++ [ob'] := by rw [List.set_append_right _ _ (Nat.le_refl _)]; simp
end
end Mine

set_option autoImplicit false
set_option linter.unusedVariables false
set_option maxRecDepth 100000
namespace Mine
open PySem PySem.W PySem.Calls PyProof.Rows

mutual
inductive Dat (σ : List AObj) : V → PyData → Prop
  | none : Dat σ .none .none
  | bool (b : Bool) : Dat σ (.bool b) (.bool b)
  | int (i : Int) : Dat σ (.int i) (.int i)
  | str (x : Str) : Dat σ (.str x) (.str x)
  | tup {xs : List V} {ds : List PyData} : Dats σ xs ds → Dat σ (.tup xs) (.tuple ds)
  | list {k : Nat} {xs : List V} {ds : List PyData} : σ[k]? = some (.list xs) → Dats σ xs ds → Dat σ (.ref k) (.list ds)
inductive Dats (σ : List AObj) : List V → List PyData → Prop
  | nil : Dats σ [] []
  | cons {x : V} {d : PyData} {xs : List V} {ds : List PyData} : Dat σ x d → Dats σ xs ds → Dats σ (x :: xs) (d :: ds)
end

section
variable {prog : Program} {w : World} {B : Shared} {mg mb : Str → Option Value} {φ φ' : List Addr} {σ σ' : List AObj} {s s' : Shared} {env : Env} {ρ l : List (Str × V)} {A : Around} {X : XT} {Q : V → List AObj → Prop}

mutual
theorem Dat.reads (G : St prog w B φ σ s) : ∀ {x : V} {d : PyData} {v : Value}, Dat σ x d → Val φ s.heap x v → ∃ as, Reads s.heap v d as
  | _, _, _, .none, hv => by obtain rfl := hv.of_none; exact ⟨_, .none⟩
  | _, _, _, .bool b, hv => by obtain rfl := hv.of_bool; exact ⟨_, .bool _⟩
  | _, _, _, .int i, hv => by obtain ⟨t, rfl⟩ := hv.of_int; exact ⟨_, .int _ _⟩
  | _, _, _, .str x, hv => by obtain ⟨t, rfl⟩ := hv.of_str; exact ⟨_, .str _ _⟩
  | _, _, _, .tup hs, hv => by
    obtain ⟨a, vs, rfl, ⟨o, ho, hc, n, hd⟩, hvs⟩ := hv.of_tup
    obtain ⟨as, r⟩ := Dats.reads G hs hvs
    exact ⟨_, .tuple ho hc hd r⟩
  | _, _, _, .list hσ hs, hv => by
    obtain ⟨a, rfl, ha⟩ := hv.of_ref
    obtain ⟨a', ha', vs, n, ho, hvs⟩ := G.get hσ
    rw [ha] at ha'; cases ha'
    obtain ⟨as, r⟩ := Dats.reads G hs hvs
    exact ⟨_, .list ho rfl rfl r⟩
theorem Dats.reads (G : St prog w B φ σ s) : ∀ {xs : List V} {ds : List PyData} {vs : List Value}, Dats σ xs ds → Vals φ s.heap xs vs → ∃ as, ReadsAll s.heap vs ds as
  | _, _, _, .nil, hv => by rw [Vals] at hv; subst hv; exact ⟨_, .nil⟩
  | _, _, _, .cons h1 h2, hv => by
    rw [Vals] at hv
    obtain ⟨v, r, rfl, hv1, hv2⟩ := hv
    obtain ⟨as, r1⟩ := Dat.reads G h1 hv1
    obtain ⟨bs, r2⟩ := Dats.reads G h2 hv2
    exact ⟨_, .cons r1 r2⟩
end

theorem O_eqd {x y : V} {d e : PyData} (h1 : Dat σ x d) (h2 : Dat σ y e) (c1 : d.canLay0 = true) (c2 : e.canLay0 = true) (hu : A.units + min d.depth e.depth < cLine) (q : Q (.bool (PyData.eqv d e)) σ) : W2 prog w B A (compareOp .Eq) x y σ Q X := fun φ s v u G hv hu' => by
  obtain ⟨as, r1⟩ := h1.reads G hv
  obtain ⟨bs, r2⟩ := h2.reads G hu'
  exact SeqAt.compareEq_reads r1 r2 c1 c2 hu (Post.here G ⟨_, .bool_ _, q⟩)
theorem O_ned {x y : V} {d e : PyData} (h1 : Dat σ x d) (h2 : Dat σ y e) (c1 : d.canLay0 = true) (c2 : e.canLay0 = true) (hu : A.units + min d.depth e.depth < cLine) (q : Q (.bool (!PyData.eqv d e)) σ) : W2 prog w B A (compareOp .NotEq) x y σ Q X := fun φ s v u G hv hu' => by
  obtain ⟨as, r1⟩ := h1.reads G hv
  obtain ⟨bs, r2⟩ := h2.reads G hu'
  exact SeqAt.compareNe_reads r1 r2 c1 c2 hu (Post.here G ⟨_, .bool_ _, q⟩)

/-! equality of dicts -/
def sameB (veq : V → V → Bool) (es es' : List (Key × V)) : Bool := es.all fun p => match at? es' p.1 with | some y => veq p.2 y | none => false
/-- where veq tells of values as == does -/
def VeqOk (σ : List AObj) (veq : V → V → Bool) (es es' : List (Key × V)) : Prop :=
  ∀ p ∈ es, ∀ y, at? es' p.1 = some y → ∃ d e, Dat σ p.2 d ∧ Dat σ y e ∧ d.canLay0 = true ∧ e.canLay0 = true ∧ d.depth ≤ 100 ∧ PyData.eqv d e = veq p.2 y
theorem hits_of {veq : V → V → Bool} {es es' : List (Key × V)} {kvs kvs' : List (Key × Value)} (G : St prog w B φ σ s) (hu : A.units + 100 < cLine) (h' : Ents φ s.heap es' kvs') : ∀ {es : List (Key × V)} {kvs : List (Key × Value)}, Ents φ s.heap es kvs → VeqOk σ veq es es' → KeqHits A s kvs' kvs (sameB veq es es')
  | _, _, .nil, _ => .nil
  | _, _, @Ents.cons _ _ k x v es kvs hx hr, hv => by
    have ih := hits_of (veq := veq) (es := es) (kvs := kvs) G hu h' hr fun p hp => hv p (.tail _ hp)
    rcases h'.at? k with ⟨y, u, e1, e2, e3⟩ | ⟨e1, e2⟩
    · obtain ⟨d, e, d1, d2, c1, c2, hdep, he⟩ := hv (k, x) (.head _) y e1
      obtain ⟨as, r1⟩ := d1.reads G hx
      obtain ⟨bs, r2⟩ := d2.reads G e3
      have := SeqAt.eqAt_reads d e A s v u as bs r1 r2 c1 c2 (by have := Nat.min_le_left d.depth e.depth; omega)
      have h := KeqHits.hit e2 this ih
      have es' : sameB veq ((k, x) :: es) es' = (PyData.eqv d e && sameB veq es es') := by simp [sameB, e1, he]
      rw [es']; exact h
    · have es' : sameB veq ((k, x) :: es) es' = false := by simp [sameB, e1]
      rw [es']; exact .miss e2
theorem O_eq_dict {j k : Nat} {veq : V → V → Bool} {es es' : List (Key × V)} {e e' : Option Nat} (h1 : σ[j]? = some (.dict es e)) (h2 : σ[k]? = some (.dict es' e')) (hv : VeqOk σ veq es es') (hu : A.units + 200 < cLine) (q : Q (.bool (es.length == es'.length && sameB veq es es')) σ) :
    W2 prog w B A (compareOp .Eq) (.ref j) (.ref k) σ Q X := fun φ s v u G hv' hu' => by
  obtain ⟨a, rfl, ha⟩ := hv'.of_ref
  obtain ⟨b, rfl, hb⟩ := hu'.of_ref
  obtain ⟨a', ha', kvs, ep, hd, hvs, _⟩ := G.get h1
  rw [ha] at ha'; cases ha'
  obtain ⟨b', hb', kvs', ep', hd', hvs', _⟩ := G.get h2
  rw [hb] at hb'; cases hb'
  refine keq_eq (G.notSys (List.mem_of_getElem? ha)) (G.notSys (List.mem_of_getElem? hb)) hd.dictOf hd'.dictOf (by omega) (fun _ => hits_of (es := es) (kvs := kvs) G (A := A.in1) (by show A.units + 1 + 100 < cLine; omega) hvs' hvs hv) (Post.here G ⟨_, .bool_ _, ?_⟩)
  rw [hvs.length, hvs'.length]; exact q
theorem O_ne_dict {j k : Nat} {veq : V → V → Bool} {es es' : List (Key × V)} {e e' : Option Nat} (h1 : σ[j]? = some (.dict es e)) (h2 : σ[k]? = some (.dict es' e')) (hv : VeqOk σ veq es es') (hu : A.units + 200 < cLine) (q : Q (.bool (!(es.length == es'.length && sameB veq es es'))) σ) :
    W2 prog w B A (compareOp .NotEq) (.ref j) (.ref k) σ Q X := fun φ s v u G hv' hu' => by
  obtain ⟨a, rfl, ha⟩ := hv'.of_ref
  obtain ⟨b, rfl, hb⟩ := hu'.of_ref
  obtain ⟨a', ha', kvs, ep, hd, hvs, _⟩ := G.get h1
  rw [ha] at ha'; cases ha'
  obtain ⟨b', hb', kvs', ep', hd', hvs', _⟩ := G.get h2
  rw [hb] at hb'; cases hb'
  refine keq_ne (G.notSys (List.mem_of_getElem? ha)) (G.notSys (List.mem_of_getElem? hb)) hd.dictOf hd'.dictOf (by omega) (fun _ => hits_of (es := es) (kvs := kvs) G (A := A.in1) (by show A.units + 1 + 100 < cLine; omega) hvs' hvs hv) (Post.here G ⟨_, .bool_ _, ?_⟩)
  rw [hvs.length, hvs'.length]; exact q

/-! dict(d), list + list -/
theorem C_dict_copy {k : Nat} {es : List (Key × V)} {e : Option Nat} (hσ : σ[k]? = some (.dict es e)) (hl : es.length ≤ sizeLine) (q : Q (.ref σ.length) (σ ++ [.dict es none])) : WC prog w B A (.type "dict") [.ref k] σ Q X := fun φ s vs G hv => by
  obtain ⟨v, rfl, hx⟩ := hv.one
  obtain ⟨a, rfl, ha⟩ := hx.of_ref
  obtain ⟨a', ha', kvs, ep, hd, hvs, _⟩ := G.get hσ
  rw [ha] at ha'; cases ha'
  refine kt_call_dict (knd := kk prog w) (G.notSys (List.mem_of_getElem? ha)) hd.dictOf (by rw [hvs.length]; exact hl) fun h' hd' hs => ?_
  have hk : ∀ b o, s.heap.get? b = some o → h'.get? b = some o := fun b o eo => hs.extBut b o (fun h => by rw [h, get?_size] at eo; cases eo) (Heap.get?_push_of_some _ eo)
  obtain ⟨t, G', hv'⟩ := G.newDict (tk := s.toks) hk hd' hvs
  exact ⟨_, _, t, G', _, hv', q⟩
theorem O_addl {j k : Nat} {xs ys : List V} (h1 : σ[j]? = some (.list xs)) (h2 : σ[k]? = some (.list ys)) (hl : xs.length + ys.length ≤ sizeLine) (q : Q (.ref σ.length) (σ ++ [.list (xs ++ ys)])) : W2 prog w B A (binaryOp .Add) (.ref j) (.ref k) σ Q X := fun φ s v u G hv hu => by
  obtain ⟨a, rfl, ha⟩ := hv.of_ref
  obtain ⟨b, rfl, hb⟩ := hu.of_ref
  obtain ⟨a', ha', vs, n, ho, hvs⟩ := G.get h1
  rw [ha] at ha'; cases ha'
  obtain ⟨b', hb', ws, m, ho', hws⟩ := G.get h2
  rw [hb] at hb'; cases hb'
  have e1 : vs.size = xs.length := by simpa using hvs.length
  have e2 : ws.size = ys.length := by simpa using hws.length
  have hk : ∀ (b : Addr) (o : Obj), s.heap.get? b = some o → (s.heap.push { cls := .type "list", data := .seq (vs ++ ws) }).get? b = some o := fun b o e => Heap.get?_push_of_some _ e
  have t₂ : Step [] φ s.heap (φ ++ [s.heap.objs.size]) (s.heap.push { cls := .type "list", data := .seq (vs ++ ws) }) := Step.alloc (s' := { s with heap := s.heap.push { cls := .type "list", data := .seq (vs ++ ws) } }) (get?_size _) hk
  refine P.add_list ho ho' ⟨φ ++ [s.heap.objs.size], σ ++ [.list (xs ++ ys)], t₂, G.alloc (s' := { s with heap := _ }) (ob := .list (xs ++ ys)) (get?_size _) hk ⟨vs ++ ws, 0, Heap.get?_push_size _ rfl, ?_⟩ G.fresh G.sizeNe, .ref σ.length, ?_, q⟩ (by omega)
  · rw [Array.toList_append]
    exact (hvs.append hws).step G t₂
  · rw [Val, ← G.len]
    exact ⟨_, rfl, by simp⟩

/-! a loop over a dict's keys -/
def turnD {ι : Type} (k : Nat) (es : List (Key × V)) (e : Option Nat) (ep : Nat) (D : ι → Prop) (l : ι → List (Str × V)) (f : ι → List AObj) (Q : Fl → List (Str × V) → List AObj → Prop) : Fl → List (Str × V) → List AObj → Prop
  | .next, ρ', σ' => ∃ g, D g ∧ σ' = pin (f g) k es ep ∧ Sub (l g) ρ'
  | .cont, ρ', σ' => ∃ g, D g ∧ σ' = pin (f g) k es ep ∧ Sub (l g) ρ'
  | .brk, ρ', σ' => σ'[k]? = some (.dict es (some ep)) ∧ Q .next ρ' (σ'.set k (.dict es e))
  | .ret x, ρ', σ' => σ'[k]? = some (.dict es (some ep)) ∧ Q (.ret x) ρ' (σ'.set k (.dict es e))
theorem TD_next {ι : Type} {k : Nat} {es : List (Key × V)} {e : Option Nat} {ep : Nat} {D : ι → Prop} {l : ι → List (Str × V)} {f : ι → List AObj} {Q : Fl → List (Str × V) → List AObj → Prop} (g : ι) (hD : D g) (hσ : σ = pin (f g) k es ep) (hs : Sub (l g) ρ) : turnD k es e ep D l f Q .next ρ σ := ⟨g, hD, hσ, hs⟩
theorem TD_ret {ι : Type} {k : Nat} {es : List (Key × V)} {e : Option Nat} {ep : Nat} {D : ι → Prop} {l : ι → List (Str × V)} {f : ι → List AObj} {Q : Fl → List (Str × V) → List AObj → Prop} {x : V} (hσ : σ[k]? = some (.dict es (some ep))) (q : Q (.ret x) ρ (σ.set k (.dict es e))) : turnD k es e ep D l f Q (.ret x) ρ σ := ⟨hσ, q⟩
theorem pin_at {k : Nat} {es es₀ : List (Key × V)} {e₀ : Option Nat} {ep : Nat} (h : σ[k]? = some (.dict es₀ e₀)) : (pin σ k es ep)[k]? = some (.dict es (some ep)) := by
  rw [pin, List.getElem?_set_self (List.getElem?_eq_some_iff.mp h).1]
theorem pin_set {k : Nat} {es : List (Key × V)} {e : Option Nat} {ep : Nat} (h : σ[k]? = some (.dict es e)) : (pin σ k es ep).set k (.dict es e) = σ := by
  rw [pin, List.set_set]
  obtain ⟨hk, he⟩ := List.getElem?_eq_some_iff.mp h
  rw [← he]; simp
theorem pin_ne {j k : Nat} {es : List (Key × V)} {ep : Nat} (h : j ≠ k) : (pin σ k es ep)[j]? = σ[j]? := by rw [pin, List.getElem?_set_ne (Ne.symm h)]

theorem X_ford {x : Str} {px pos : Pos} {iter : Expr} {body rest : List Stmt} {Q : Fl → List (Str × V) → List AObj → Prop} {k : Nat} {es : List (Key × V)} {e : Option Nat} {ι : Type} (D : Nat → ι → Prop) (l : Nat → ι → List (Str × V)) (f : Nat → ι → List AObj) (g₀ : ι)
    (hh : A.handled = none) (hσ : σ[k]? = some (.dict es e))
    (hi : ∀ ep, WE prog w B A env iter ρ (pin σ k es ep) (fun v σ' => v = .ref k ∧ σ' = pin σ k es ep) X)
    (h1 : D 0 g₀) (h2 : σ = f 0 g₀) (h4 : Sub (l 0 g₀) ρ) (hf : ∀ i g, D i g → (f i g)[k]? = some (.dict es e))
    (hb : ∀ ep i g, i < es.length → D i g → WX prog w B A env body ((x, keyAt es i) :: l i g) (pin (f i g) k es ep) (turnD k es e ep (D (i + 1)) (l (i + 1)) (f (i + 1)) (seqQ prog w B A env rest Q X)) (fun _ _ _ _ => False))
    (he : ∀ g, D es.length g → WX prog w B A env rest (l es.length g) (f es.length g) Q X)
    (hx : env.kindOf x = some .local := by kernel_rfl!)
    (hs : ∀ v, foldedSetIterable iter env v = pure v := by intro _; with_unfolding_all rfl) (hl : ∀ it v, letOwnedTupleGo (.Name x px) it v = pure () := by intro _ _; with_unfolding_all rfl) :
    WX prog w B A env (.For (.Name x px) iter body [] pos :: rest) ρ σ Q X := by
  refine X_cons fun φ s G L => ?_
  obtain ⟨ep, hep, G', _⟩ := G.pin hσ
  have main : WX1 prog w B A env (.For (.Name x px) iter body [] pos) ρ (pin σ k es ep) (fun fl ρ' σ' => σ'[k]? = some (.dict es (some ep)) ∧ seqQ prog w B A env rest Q X fl ρ' (σ'.set k (.dict es e))) X := by
    refine X_for ((hi ep).mono fun v σ' ⟨e1, e2⟩ => ?_) (.inl hx) hs hl
    subst e1 e2
    refine ⟨pin σ k es ep, es.length, keyAt es, fun σ' => σ'[k]? = some (.dict es (some ep)), fun i ρ' σ' => ∃ g, D i g ∧ σ' = pin (f i g) k es ep ∧ Sub (l i g) ρ', It_dict (e := none) hh (pin_at hσ), pin_at hσ, ⟨g₀, h1, by rw [← h2], h4⟩, ?_, ?_⟩
    · rintro i ρ₂ σ₂ hi' hC ⟨g, hD, rfl, hs'⟩
      refine X_weak hs'.both fun φ s G L => wpAny_mono (hb ep i g hi' hD φ s G L) (fun v s₁ ⟨φ₁, σ₃, t₁, G₁, fl, ρ', hf', L₁, q⟩ => ?_) fun _ _ x => x
      refine ⟨φ₁, σ₃, t₁, G₁, fl, ρ', hf', L₁, ?_⟩
      cases fl with
      | next => obtain ⟨g', q1, q2, q4⟩ := q; exact ⟨by rw [q2]; exact pin_at (hf _ _ q1), g', q1, q2, q4⟩
      | cont => obtain ⟨g', q1, q2, q4⟩ := q; exact ⟨by rw [q2]; exact pin_at (hf _ _ q1), g', q1, q2, q4⟩
      | brk => exact q
      | ret y => exact q
    · rintro ρ₂ σ₂ hC ⟨g, hD, rfl, hs'⟩
      refine ⟨hC, ?_⟩
      rw [pin_set (hf _ _ hD)]
      exact X_weak hs' (he g hD)
  refine wpAny_mono (main φ s G' L) (fun v s₁ ⟨φ₁, σ₁, t₁, G₁, fl, ρ₁, hf', L₁, q1, q2⟩ => ⟨φ₁, σ₁.set k (.dict es e), t₁, G₁.unpin q1 hep, fl, ρ₁, hf', L₁, q2⟩) fun _ _ x => x

/-! slices of texts -/
theorem E_slice_to {value upper : Expr} {p pos : Pos} (h : WE prog w B A env value ρ σ (fun x σ₁ => ∃ y : Str, x = .str y ∧ y.length ≤ sizeLine ∧ WE prog w B A env upper ρ σ₁ (fun u σ₂ => ∃ j : Int, u = .int j ∧ Q (.str (Txt.slice y none (some j))) σ₂) X) X)
    : WE prog w B A env (.Subscript value (.Slice none (some upper) none p) pos) ρ σ Q X := fun φ s G L => by
  refine Subscript_ ((h φ s G L).use (.refl ..) fun a s₁ φ₁ σ₁ t₁ _ G₁ ⟨x, hx, y, ey, hy, h₁⟩ => ?_)
  subst ey
  obtain ⟨t, rfl⟩ := hx.of_str
  refine wpAny_Slice ?_
  show wpAny _ _ (pure Value.none) _ _ _
  refine wpAny_pure ?_
  show wpAny _ _ (eval upper env) _ _ _
  refine (h₁ φ₁ s₁ G₁ (L.step G t₁)).use t₁ fun b s₂ φ₂ σ₂ t₂ tt G₂ ⟨u, hu, j, ej, q⟩ => ?_
  subst ej
  obtain ⟨t', rfl⟩ := hu.of_int
  show wpAny _ _ (pure Value.none) _ _ _
  refine wpAny_pure ?_
  have it := SBH.sliceItem_ns (prog := prog) (w := w) (A := A) (E := Post prog w B [] φ s X) (P := fun h => ∀ b o, s₂.heap.get? b = some o → h.get? b = some o) (s := s₂) (x := y) (t := t) (j := j) (uj := t') (Q := Post prog w B [] φ s (vQ Q))
    (fun h ob hk b o e => Heap.get?_push_of_some _ (hk b o e)) (fun _ _ e => e) (fun h' t'' kk hk => ⟨φ₂, σ₂, tt.trans0 (.of_keeps hk), G₂.keeps (s' := { s₂ with heap := h', toks := kk }) hk, _, .str_ _ _, q⟩) hy
  obtain ⟨T, id, h1, h2, h3⟩ := it
  exact tail_any (ops := [_, _]) h2 h1 h3 rfl
theorem E_slice_from {value lower : Expr} {p pos : Pos} (h : WE prog w B A env value ρ σ (fun x σ₁ => ∃ y : Str, x = .str y ∧ y.length ≤ sizeLine ∧ WE prog w B A env lower ρ σ₁ (fun u σ₂ => ∃ j : Int, u = .int j ∧ Q (.str (Txt.slice y (some j) none)) σ₂) X) X)
    : WE prog w B A env (.Subscript value (.Slice (some lower) none none p) pos) ρ σ Q X := fun φ s G L => by
  refine Subscript_ ((h φ s G L).use (.refl ..) fun a s₁ φ₁ σ₁ t₁ _ G₁ ⟨x, hx, y, ey, hy, h₁⟩ => ?_)
  subst ey
  obtain ⟨t, rfl⟩ := hx.of_str
  refine wpAny_Slice ?_
  show wpAny _ _ (eval lower env) _ _ _
  refine (h₁ φ₁ s₁ G₁ (L.step G t₁)).use t₁ fun b s₂ φ₂ σ₂ t₂ tt G₂ ⟨u, hu, j, ej, q⟩ => ?_
  subst ej
  obtain ⟨t', rfl⟩ := hu.of_int
  show wpAny _ _ (pure Value.none) _ _ _
  refine wpAny_pure ?_
  show wpAny _ _ (pure Value.none) _ _ _
  refine wpAny_pure ?_
  have it := SBH.sliceItem_sn (prog := prog) (w := w) (A := A) (E := Post prog w B [] φ s X) (P := fun h => ∀ b o, s₂.heap.get? b = some o → h.get? b = some o) (s := s₂) (x := y) (t := t) (i := j) (ui := t') (Q := Post prog w B [] φ s (vQ Q))
    (fun h ob hk b o e => Heap.get?_push_of_some _ (hk b o e)) (fun _ _ e => e) (fun h' t'' kk hk => ⟨φ₂, σ₂, tt.trans0 (.of_keeps hk), G₂.keeps (s' := { s₂ with heap := h', toks := kk }) hk, _, .str_ _ _, q⟩) hy
  obtain ⟨T, id, h1, h2, h3⟩ := it
  exact tail_any (ops := [_, _]) h2 h1 h3 rfl
theorem R_one0 {σ₀ j2 : List AObj} {ob : AObj} (ho : ob.lt σ₀.length) (q : Q (.ref σ₀.length) (σ₀ ++ [ob])) : retQ σ₀ Q (.ret (.ref σ₀.length)) ρ (σ₀ ++ ob :: j2) := by
  have r := R_one (ρ := ρ) (j1 := ([] : List AObj)) (j2 := j2) (k := σ₀.length) (by simp) ho q
  rw [List.append_nil] at r
  exact r
theorem set_prev {a b c : AObj} : (σ ++ [a] ++ [b]).set σ.length c = σ ++ [c] ++ [b] := by rw [List.set_append_left _ _ (by simp), set_end]
theorem at_prev {a b : AObj} : (σ ++ [a] ++ [b])[σ.length]? = some a := by rw [List.getElem?_append_left (by simp)]; simp
theorem slice_to {x : Str} {j : Int} (h0 : 0 ≤ j) : Txt.slice x none (some j) = ⟨(x.cps.toList.take j.toNat).toArray⟩ := by
  by_cases hj : j ≤ x.cps.toList.length
  · have := eq_of_beq (slice_closes_to (x := x) ⟨h0, hj⟩)
    rw [this]; simp
  · have hlen : (x.length : Int) < j := by simp [Str.length] at hj ⊢; omega
    unfold Txt.slice
    have hi : (Builtin.Str.strSliceIndices none (some j) 1 x.length).length = x.length := by
      unfold Builtin.Str.strSliceIndices sliceRange
      have h1 : ¬ (j < 0) := by omega
      have e2 : max (0 : Int) (min j (x.length : Int)) = x.length := by omega
      simp only [h1, if_false, e2, show ((1 : Int) > 0) = True from by simp, if_true, List.length_map, List.length_range]
      split <;> omega
    rw [if_pos (by rw [hi]; simp)]
    have : x.cps.toList.take j.toNat = x.cps.toList := List.take_of_length_le (by simp [Str.length] at hlen ⊢; omega)
    rw [this]
theorem slice_from {x : Str} {j : Int} (h0 : 0 ≤ j) (hj : j ≤ x.length) : Txt.slice x (some j) none = ⟨(x.cps.toList.drop j.toNat).toArray⟩ := by
  have := eq_of_beq (slice_closes_fromL (x := x) h0 hj rfl)
  rw [this]
  congr 2
  refine List.take_of_length_le ?_
  simp [Str.length] at hj ⊢; omega
theorem St.nodupKeys {k : Nat} {es : List (Key × V)} {e : Option Nat} (G : St prog w B φ σ s) (hσ : σ[k]? = some (.dict es e)) : (es.map (·.1)).Nodup := by
  obtain ⟨a, ha, kvs, ep, hd, hvs, _⟩ := G.get hσ
  obtain ⟨_, _, _, _, _, _, _, _, hn⟩ := hd.dictOf
  rw [← hvs.keys]; exact hn
theorem X_keys {ss : List Stmt} {Q : Fl → List (Str × V) → List AObj → Prop} {k : Nat} {es : List (Key × V)} {e : Option Nat} (hσ : σ[k]? = some (.dict es e)) (h : (es.map (·.1)).Nodup → WX prog w B A env ss ρ σ Q X) : WX prog w B A env ss ρ σ Q X := fun φ s G L => h (G.nodupKeys hσ) φ s G L
theorem at_get {es : List (Key × V)} (hn : (es.map (·.1)).Nodup) {i : Nat} (hi : i < es.length) : at? es (es[i]).1 = some (es[i]).2 := by
  induction es generalizing i with
  | nil => simp at hi
  | cons p r ih =>
    cases i with
    | zero => simp [at?]
    | succ i =>
      simp only [List.map_cons, List.nodup_cons] at hn
      have hi' : i < r.length := by simpa using hi
      have hne : p.1 ≠ (r[i]).1 := fun e => hn.1 (e ▸ List.mem_map.mpr ⟨r[i], List.getElem_mem _, rfl⟩)
      have := ih hn.2 hi'
      simpa [at?, hne] using this
theorem keyAt_get {es : List (Key × V)} {i : Nat} (hi : i < es.length) : keyAt es i = (es[i]).1.v := by unfold keyAt; rw [List.getD_eq_getElem?_getD, List.getElem?_eq_getElem hi]; rfl
theorem TyV.pin {k : Nat} {es : List (Key × V)} {e : Option Nat} {ep : Nat} {x : V} {T : String} (hσ : σ[k]? = some (.dict es e)) (h : TyV σ x T) : TyV (Mine.pin σ k es ep) x T := by
  cases h with
  | int => exact .int _
  | bool => exact .bool _
  | str => exact .str _
  | none => exact .none
  | tup => exact .tup _
  | @list j xs h => exact .list (xs := xs) (by rw [pin_ne (fun e => by rw [e, hσ] at h; cases h)]; exact h)
  | @dict j es' e' h =>
    by_cases e : j = k
    · subst e; exact .dict (pin_at hσ)
    · exact .dict (es := es') (e := e') (by rw [pin_ne e]; exact h)
theorem TyV.append {x : V} {T : String} (more : List AObj) (h : TyV σ x T) : TyV (σ ++ more) x T := by
  cases h with
  | int => exact .int _
  | bool => exact .bool _
  | str => exact .str _
  | none => exact .none
  | tup => exact .tup _
  | @list j xs h => exact .list (xs := xs) (by rw [List.getElem?_append_left (List.getElem?_eq_some_iff.mp h).1]; exact h)
  | @dict j es' e' h => exact .dict (es := es') (e := e') (by rw [List.getElem?_append_left (List.getElem?_eq_some_iff.mp h).1]; exact h)
end
end Mine

set_option autoImplicit false
set_option linter.unusedVariables false
set_option maxRecDepth 100000
namespace Mine
open PySem PySem.W PySem.Calls PyProof.Rows

section
variable {p : Program} {loose : List Str} {mean : ExcName → Option Value} {mg mb : Str → Option Value} {B : Shared}
theorem has_of (T : Top p loose mean mg mb B.heap) (d : DefRec) {i : Nat} (hi : (recsOf p)[i]? = some d) : HasF B mg d := by
  obtain ⟨a, o, pm, code, doc, h1, h2, h3, h4⟩ := T.fn d (List.mem_of_getElem? hi)
  exact ⟨a, o, pm, code, doc, h1, h2, h3, h4⟩
def topHas (p : Program) (loose : List Str) (x : Str) : Bool := startupNames.contains x || loose.contains x || ((recsOf p).map (·.name)).contains x || ((litsOf p).map (·.1)).contains x || ((clssOf p loose).map (·.name)).contains x
theorem bi_of (T : Top p loose mean mg mb B.heap) {x : Str} {v : Value} (hb : bootBuiltins x = some v) (hx : topHas p loose x = false) (hn : (x == ("__name__" : Str)) = false) : Bi B mg mb x v := by
  unfold topHas at hx
  simp only [Bool.or_eq_false_iff] at hx
  obtain ⟨⟨⟨⟨h1, h2⟩, h3⟩, h4⟩, h5⟩ := hx
  refine ⟨T.g, T.b, T.free x ?_ ?_ ?_ ?_ ?_, by rw [T.builtins x (by simpa using hn)]; exact hb⟩ <;> (intro hm; simp_all)
def bltNames : List Str := ["len", "isinstance", "max", "min", "sum", "sorted", "int", "bool", "str", "tuple", "list", "dict", "set", "range", "enumerate"]
theorem blt_of (T : Top p loose mean mg mb B.heap) (h : bltNames.all (fun x => !topHas p loose x) = true) : Blt B mg mb := by
  have hx : ∀ x ∈ bltNames, topHas p loose x = false := fun x hx => by simpa using List.all_eq_true.mp h x hx
  refine ⟨?_, ?_, ?_, ?_, ?_, ?_, ?_, ?_, ?_, ?_, ?_, ?_, ?_, ?_, ?_⟩
  · exact bi_of T (by kernel_rfl) (hx _ (List.mem_of_getElem? (i := 0) rfl)) (by decide +kernel)
  · exact bi_of T (by kernel_rfl) (hx _ (List.mem_of_getElem? (i := 1) rfl)) (by decide +kernel)
  · exact bi_of T (by kernel_rfl) (hx _ (List.mem_of_getElem? (i := 2) rfl)) (by decide +kernel)
  · exact bi_of T (by kernel_rfl) (hx _ (List.mem_of_getElem? (i := 3) rfl)) (by decide +kernel)
  · exact bi_of T (by kernel_rfl) (hx _ (List.mem_of_getElem? (i := 4) rfl)) (by decide +kernel)
  · exact bi_of T (by kernel_rfl) (hx _ (List.mem_of_getElem? (i := 5) rfl)) (by decide +kernel)
  · exact bi_of T (by kernel_rfl) (hx _ (List.mem_of_getElem? (i := 6) rfl)) (by decide +kernel)
  · exact bi_of T (by kernel_rfl) (hx _ (List.mem_of_getElem? (i := 7) rfl)) (by decide +kernel)
  · exact bi_of T (by kernel_rfl) (hx _ (List.mem_of_getElem? (i := 8) rfl)) (by decide +kernel)
  · exact bi_of T (by kernel_rfl) (hx _ (List.mem_of_getElem? (i := 9) rfl)) (by decide +kernel)
  · exact bi_of T (by kernel_rfl) (hx _ (List.mem_of_getElem? (i := 10) rfl)) (by decide +kernel)
  · exact bi_of T (by kernel_rfl) (hx _ (List.mem_of_getElem? (i := 11) rfl)) (by decide +kernel)
  · exact bi_of T (by kernel_rfl) (hx _ (List.mem_of_getElem? (i := 12) rfl)) (by decide +kernel)
  · exact bi_of T (by kernel_rfl) (hx _ (List.mem_of_getElem? (i := 13) rfl)) (by decide +kernel)
  · exact bi_of T (by kernel_rfl) (hx _ (List.mem_of_getElem? (i := 14) rfl)) (by decide +kernel)

theorem st_nil {prog : Program} {w : World} {o : Obj} (hs : B.heap.get? cStatics = some o) : St prog w B [] [] B :=
  ⟨fun _ _ e => e, fun _ h => (nomatch h), .nil, rfl, fun k a ob h => by simp at h, rfl, rfl, ⟨o, hs⟩, fun h => (nomatch h)⟩
theorem law_end {prog : Program} {w : World} {d : DefRec} {fa scr : Addr} {c : ClaimW} {cl : Str → Option Addr} {mean' : ExcName → Option Value} {args : List WData} (T : Top p loose mean mg mb B.heap) (H : HasF B mg d) (hfa : mg d.name = some (.ref fa))
    (g : Good d ["_law_script"]) (hg : B.gens = #[]) (hr : ∀ cls, c.raises args cls = false) (hrd : ∀ h, ReadsW c.records cl h (.bool true) (.bool true) []) (hp : c.post args (.bool true) args = true)
    (h : ∀ A pm code doc L a, AOk 50 A → WX prog w B A (callEnvC (docDef d.name d.params d.body d.scope pm code doc) L a) d.body [("_law_script", .raw (.ref scr))] [] (fun fl _ _ => retV fl = .bool true) (fun _ _ _ _ => False)) :
    codeAny (model prog w) callerA (.call (.ref fa) ⟨[.ref scr], []⟩) (GoodWG c cl mean' args B) B := by
  obtain ⟨a, pm, code, doc, h1, F⟩ := H.fn T.nolimit g
  rw [hfa] at h1; cases h1
  obtain ⟨mc, ⟨o, _, _, ho, _⟩, _⟩ := T.nodigits
  have hA : AOk 51 callerA := ⟨rfl, by decide, by decide⟩
  refine codeAny_mono (C_fn_code (X := fun _ _ _ _ => False) (xs := [.raw (.ref scr)]) (Q := fun x _ => x = .bool true) F rfl hA.room (fun L => h _ pm code doc L fa hA.deeper) [] B [.ref scr] (st_nil ho) (Vals.cons (.raw_ _) .nil)) fun r s' hr' => ?_
  match r, hr' with
  | .ok (.ret v), ⟨φ', σ', t, G', x, hx, hx'⟩ =>
    subst hx'
    obtain rfl := hx.of_bool
    exact ⟨.inl ⟨.bool true, .bool true, [], rfl, hr, hrd _, hp, fun _ => ⟨.nil, fun _ h => nomatch h⟩⟩, .of_keep G'.base, G'.os, .of_eq (G'.gens.trans hg)⟩
  | .error e, ⟨_, _, _, _, hf⟩ => exact hf.elim
theorem gc_str {x y : Str} (T : Top p loose mean mg mb B.heap) (h : valOf p x = some (.str y)) : GC B mg x (.str y) := by
  obtain ⟨v, h1, h2⟩ := T.const x _ h
  refine ⟨T.g, v, h1, ?_⟩
  have := h2 B.heap
  cases this
  exact .str_ _ _
theorem gc_int {x : Str} {n : Int} (T : Top p loose mean mg mb B.heap) (h : valOf p x = some (.int n)) : GC B mg x (.int n) := by
  obtain ⟨v, h1, h2⟩ := T.const x _ h
  refine ⟨T.g, v, h1, ?_⟩
  have := h2 B.heap
  cases this
  exact .int_ _ _
end
end Mine

set_option autoImplicit false
set_option linter.unusedVariables false
set_option maxRecDepth 100000
namespace Mine
open PySem PySem.W PySem.Calls PyProof.Rows PySem.Challenge

local macro_rules | `(tactic| walk_at "bi") => `(tactic| first
  | exact Blt.len_ (by assumption)
  | exact Blt.isinstance_ (by assumption)
  | exact Blt.max_ (by assumption)
  | exact Blt.min_ (by assumption)
  | exact Blt.sum_ (by assumption)
  | exact Blt.sorted_ (by assumption)
  | exact Blt.int_ (by assumption)
  | exact Blt.bool_ (by assumption)
  | exact Blt.str_ (by assumption)
  | exact Blt.tuple_ (by assumption)
  | exact Blt.list_ (by assumption)
  | exact Blt.dict_ (by assumption)
  | exact Blt.set_ (by assumption)
  | exact Blt.range_ (by assumption)
  | exact Blt.enumerate_ (by assumption))
local macro_rules | `(tactic| walk_at "isi") => `(tactic| first
  | exact isi_int_int
  | exact isi_int_bool
  | exact isi_int_str
  | exact isi_int_tuple
  | exact isi_int_list
  | exact isi_int_dict
  | exact isi_bool_int
  | exact isi_bool_bool
  | exact isi_bool_str
  | exact isi_bool_tuple
  | exact isi_bool_list
  | exact isi_bool_dict
  | exact isi_str_int
  | exact isi_str_bool
  | exact isi_str_str
  | exact isi_str_tuple
  | exact isi_str_list
  | exact isi_str_dict
  | exact isi_tuple_int
  | exact isi_tuple_bool
  | exact isi_tuple_str
  | exact isi_tuple_tuple
  | exact isi_tuple_list
  | exact isi_tuple_dict
  | exact isi_list_int
  | exact isi_list_bool
  | exact isi_list_str
  | exact isi_list_tuple
  | exact isi_list_list
  | exact isi_list_dict
  | exact isi_dict_int
  | exact isi_dict_bool
  | exact isi_dict_str
  | exact isi_dict_tuple
  | exact isi_dict_list
  | exact isi_dict_dict
  | exact isi_NoneType_int
  | exact isi_NoneType_bool
  | exact isi_NoneType_str
  | exact isi_NoneType_tuple
  | exact isi_NoneType_list
  | exact isi_NoneType_dict)
local macro_rules | `(tactic| walk_at "m") => `(tactic| with_reducible first
  | refine LQ_here ?_
  | refine LQ_there (by decide +kernel) ?_
  | refine LQ_nil ?_
  | (refine gWE ?_; first
    | refine E_nm ?_
    | refine E_int ?_
    | (refine gCall ?_; first
      | refine E_bi (by walk_at "bi") (by first | exact Keep.builtin _ | exact Keep.type _) ?_
      | refine E_mcall (name := Str.ofString "join") (id := "str.join") ?_
      | refine E_mcall (name := Str.ofString "append") (id := "list.append") ?_
      | refine E_mcall (name := Str.ofString "get") (id := "dict.get") ?_
      | refine E_cf (by assumption) (AOk.le (by assumption) (by decide)) ?_)
    | refine E_bin ?_
    | refine E_slice_to ?_
    | refine E_slice_from ?_
    | refine E_sub ?_
    | refine E_str ?_
    | refine E_tuple ?_
    | refine E_bool ?_
    | refine E_none ?_
    | refine E_cmp1 ?_
    | refine E_un ?_
    | refine E_ifexp ?_
    | refine E_list ?_
    | refine E_dict0 ?_)
  | refine Es_cons ?_
  | refine Es_nil ?_
  | (refine gWX ?_; first
    | refine X_let ?_
    | refine X_ret ?_
    | refine X_letc ?_
    | refine X_do ?_
    | refine X_set ?_
    | refine X_nil ?_)
  | (refine gW2 ?_; first
    | refine O_add ?_
    | refine O_sub ?_
    | refine O_mod ?_ (by omega)
    | refine O_div ?_ (by omega) (by decide +kernel)
    | refine O_div ?_ (by omega) (log2_small (by omega))
    | refine O_mul ?_ (by first | exact .inl (by omega) | exact .inr (by omega))
    | refine O_pow60 ?_
    | refine O_lt ?_
    | refine O_le ?_
    | refine O_gt ?_
    | refine O_ge ?_
    | refine O_eq ?_
    | refine O_ne ?_
    | refine O_eqb ?_
    | refine O_eqs ?_
    | refine O_nes ?_
    | refine O_is_bool ?_
    | refine O_isnot_bool ?_)
  | (refine gW1 ?_; first
    | refine T_b ?_
    | refine O_not ?_
    | refine O_neg ?_
    | refine T_none ?_)
  | (refine gWC ?_; first
    | refine isi_int (by walk_at "isi") ?_
    | refine isi_str (by walk_at "isi") ?_
    | refine isi_bool (by walk_at "isi") ?_
    | refine isi_none (by walk_at "isi") ?_
    | refine isi_tup (by walk_at "isi") ?_
    | refine C_len_scr (by assumption) ?_
    | refine C_len_t2 ?_
    | refine C_len_t1 ?_
    | refine C_len_t3 ?_
    | refine C_len_t0 ?_
    | refine C_range1 ?_
    | refine C_range2 ?_
    | refine C_max (AOk.handled (by assumption)) ?_
    | refine C_min (AOk.handled (by assumption)) ?_)
  | (refine gWT ?_; first
    | refine T_not ?_
    | refine T_cmp1 ?_
    | refine T_bool ?_
    | refine T_value ?_)
  | (refine gWSub ?_; first
    | refine S_t0 ?_
    | refine S_t1 ?_)
  | refine iteT ?_
  | refine iteF ?_
  | refine iteYes (by decide) ?_
  | refine iteNo (by decide) ?_
  | refine sq_ret ?_
  | refine sq_next ?_
  | refine sq_cont ?_
  | refine sq_brk ?_
  | refine tq_ret ?_
  | refine tq_brk ?_
  | refine J_ret ?_
  | refine J_brk ?_
  | refine J_cont ?_
  | refine Ts_and ?_
  | refine Ts_or ?_
  | refine Ts_and_nil ?_
  | refine Ts_or_nil ?_
  | refine Bo_one ?_
  | refine Bo_and ?_
  | refine Bo_or ?_
  | refine N_bi (by walk_at "bi") ?_
  | refine N_gc (by assumption) ?_
  | refine ⟨rfl, ?_⟩
  | refine ⟨GM_str F.slot_str_join F.type_str_join, ?_⟩
  | refine TJ_ret ?_
  | refine TJ_brk ?_
  | refine ⟨_, rfl, ?_⟩
  | refine ⟨_, _, rfl, ?_⟩
  | refine ⟨_, _, _, rfl, ?_⟩
  | refine ⟨_, _, _, _, rfl, ?_⟩
  | refine ⟨by first | omega | with_unfolding_all exact Nat.le_of_ble_eq_true rfl, ?_⟩)
local macro_rules | `(tactic| walk_at "sub") => `(tactic| first
  | exact Sub.nil
  | (with_reducible refine Sub.cons ?_; (repeat (with_reducible first | refine LQ_here ?_ | refine LQ_there (by decide +kernel) ?_)); refine ⟨by first | rfl | assumption | (simp; done), ?_⟩; walk_at "sub"))


section
variable {prog : Program} {w : World} {B : Shared} {mg mb : Str → Option Value} {scr : Addr} {nums : List Int}

def isL (c : Nat) : Bool := decide (97 ≤ c ∧ c ≤ 122)
def isNameS (s : Str) : Bool := decide (1 ≤ s.length ∧ s.length ≤ 8) && s.cps.toList.all isL
def letters : Str := Str.ofString "abcdefghijklmnopqrstuvwxyz"
theorem letters_list : letters.cps.toList = List.range' 97 26 := by decide +kernel
theorem in_letters (x : Str) (i : Nat) : inS letters (signAt x i) = isL (x.cps.getD i 0) := by
  unfold signAt isL
  rw [inS_one, letters_list]
  congr 1
  simp only [List.mem_range'_1, eq_iff_iff]
  omega
theorem take_all_succ (x : Str) (i : Nat) (hi : i < x.cps.size) : (x.cps.toList.take (i + 1)).all isL = ((x.cps.toList.take i).all isL && isL (x.cps.getD i 0)) := by
  rw [List.take_add_one, List.all_append]
  have : x.cps.toList[i]? = some (x.cps.getD i 0) := by simp [Array.getD_eq_getD_getElem?, hi]
  rw [this]
  simp

theorem good_is_name : Good (dr pw_uf050040_04 2) ["thing"] :=
  ⟨fun pm code doc vals h => (by match vals, h with | [a], _ => rfl), by decide +kernel, by decide +kernel, by decide +kernel, rfl, rfl, rfl⟩
theorem cf_is_name (gl : Gl B mg mb) (bl : Blt B mg mb) (S : Scr B scr nums) (H : HasF B mg (dr pw_uf050040_04 2)) (g_L : GC B mg "LETTERS" (.str letters)) :
    CF prog w B mg "is_name" 1 (fun xs σ Q X => (∃ s, xs = [.str s] ∧ s.length < 10 ^ 9 ∧ Q (.bool (isNameS s)) σ) ∨ (∃ x, xs = [x] ∧ NonStr σ x ∧ Q (.bool false) σ)) := by
  refine CF_of gl H good_is_name ?_
  rintro A pm code doc L a₀ _ σ Q X hA (⟨x, rfl, hx, q⟩ | ⟨x, rfl, hx, q⟩)
  all_goals refine ⟨rfl, ?_⟩

  · change WX _ _ _ _ _ (_ :: _) ((_, _) :: []) _ _ _
    refine X_ifs ?_
    repeat walk_at "m"
    refine T_as (decide (1 ≤ x.length ∧ x.length ≤ 8)) ?_ ?_
    · refine T_cmp2 ?_
      repeat walk_at "m"
      refine C_len_str (by omega) ?_
      repeat walk_at "m"
      refine iteD (fun h => ?_) (fun h => ?_)
      · repeat walk_at "m"
        exact ⟨by congr 1; simp; omega, rfl⟩
      · repeat walk_at "m"
        exact ⟨by symm; simp; omega, rfl⟩
    unfold isNameS at q
    refine iteDn (fun h => ?_) (fun h => ?_)
    · repeat walk_at "m"
      refine R_all ?_
      simpa [h] using q
    · repeat walk_at "m"
      refine X_fors ?_
      repeat walk_at "m"
      refine ForG.mk (ι := Unit) (fun i _ => (x.cps.toList.take i).all isL = true) (fun _ _ => [("thing", .str x)]) (fun _ _ => σ) (It_str hA.handled) () (by simp) rfl trivial (by walk_at "sub") ?_ ?_
      · rintro i ⟨⟩ hi hD -
        refine X_ifs ?_
        repeat walk_at "m"
        refine O_notins ?_
        repeat walk_at "m"
        rw [in_letters]
        refine iteB (fun hl => ?_) (fun hl => ?_)
        · repeat walk_at "m"
          refine R_all ?_
          have : x.cps.toList.all isL = false := by
            rw [List.all_eq_false]
            exact ⟨x.cps.getD i 0, by simp [Array.getD_eq_getD_getElem?, hi], by simpa using hl⟩
          simpa [this] using q
        · repeat walk_at "m"
          exact TJ_next () (by rw [take_all_succ x i hi, hD]; simpa using hl) rfl trivial (by walk_at "sub")
      · rintro ⟨⟩ hD -
        repeat walk_at "m"
        refine R_all ?_
        have e : x.cps.toList.take x.cps.size = x.cps.toList := List.take_of_length_le (by simp)
        rw [e] at hD
        simpa [h, hD] using q
  · change WX _ _ _ _ _ (_ :: _) ((_, _) :: []) _ _ _
    refine X_ifs ?_
    repeat walk_at "m"
    refine isi_non hx ?_
    repeat walk_at "m"
    exact R_all q

theorem good_is_part : Good (dr pw_uf050040_04 5) ["thing"] :=
  ⟨fun pm code doc vals h => (by match vals, h with | [a], _ => rfl), by decide +kernel, by decide +kernel, by decide +kernel, rfl, rfl, rfl⟩
theorem cf_is_part (gl : Gl B mg mb) (bl : Blt B mg mb) (S : Scr B scr nums) (H : HasF B mg (dr pw_uf050040_04 5)) :
    CF prog w B mg "is_part" 1 (fun xs σ Q X => (∃ n, xs = [.int n] ∧ Q (.bool (decide (0 ≤ n ∧ n < 10 ^ 60))) σ) ∨ (∃ x, xs = [x] ∧ NonInt σ x ∧ Q (.bool false) σ)) := by
  refine CF_of gl H good_is_part ?_
  rintro A pm code doc L a₀ _ σ Q X hA (⟨n, rfl, q⟩ | ⟨x, rfl, (⟨b, rfl⟩ | hx), q⟩)
  all_goals refine ⟨rfl, ?_⟩

  · change WX _ _ _ _ _ (_ :: _) ((_, _) :: []) _ _ _
    repeat walk_at "m"
    refine E_boolop ?_
    repeat walk_at "m"
    refine E_cmp2 ?_
    repeat walk_at "m"
    refine iteD (fun h => ?_) (fun h => ?_)
    · repeat walk_at "m"
      refine R_all ?_
      simpa only [h, true_and] using q
    · refine R_all ?_
      simpa only [h, false_and] using q
  · change WX _ _ _ _ _ (_ :: _) ((_, _) :: []) _ _ _
    repeat walk_at "m"
    refine E_boolop ?_
    repeat walk_at "m"
    exact R_all q
  · change WX _ _ _ _ _ (_ :: _) ((_, _) :: []) _ _ _
    repeat walk_at "m"
    refine E_boolop ?_
    repeat walk_at "m"
    refine isi_non hx ?_
    repeat walk_at "m"
    exact R_all q

def shareB : V → Bool
  | .tup [.int a, .int b] => decide ((0 ≤ a ∧ a < 10 ^ 60) ∧ (0 ≤ b ∧ b < 10 ^ 60) ∧ 0 < a + b)
  | _ => false
/-- what is_share tells of a thing -/
inductive ShareR (σ : List AObj) : V → Prop
  | good (a b : Int) : ShareR σ (.tup [.int a, .int b])
  | left (x y : V) : NonInt σ x → ShareR σ (.tup [x, y])
  | right (a : Int) (y : V) : NonInt σ y → ShareR σ (.tup [.int a, y])
  | one (x : V) : ShareR σ (.tup [x])
  | three (x y z : V) : ShareR σ (.tup [x, y, z])
  | non (x : V) : NonTup σ x → ShareR σ x
theorem NonInt.map {σ σ' : List AObj} {x : V} (f : ∀ T, TyV σ x T → TyV σ' x T) (h : NonInt σ x) : NonInt σ' x := h.imp id fun ⟨T, h1, h2⟩ => ⟨T, f T h1, h2⟩
theorem ShareR.map {σ σ' : List AObj} {x : V} (f : ∀ y T, TyV σ y T → TyV σ' y T) (h : ShareR σ x) : ShareR σ' x := by
  cases h with
  | good a b => exact .good a b
  | left x y h => exact .left x y (h.map (f x))
  | right a y h => exact .right a y (h.map (f y))
  | one x => exact .one x
  | three x y z => exact .three x y z
  | non x h => obtain ⟨T, h1, h2⟩ := h; exact .non x ⟨T, f x T h1, h2⟩
theorem nonInt_not {σ : List AObj} {a : Int} (h : NonInt σ (.int a)) : False := by
  rcases h with ⟨b, e⟩ | ⟨T, h1, h2⟩
  · cases e
  · cases h1
    have := h2.2.2.2 rfl
    revert this; decide
theorem shareB_left {σ : List AObj} {x y : V} (h : NonInt σ x) : shareB (.tup [x, y]) = false := by
  unfold shareB
  split
  · rename_i a b e
    cases e
    exact (nonInt_not h).elim
  · rfl
theorem shareB_right {σ : List AObj} {x y : V} (h : NonInt σ y) : shareB (.tup [x, y]) = false := by
  unfold shareB
  split
  · rename_i a b e
    cases e
    exact (nonInt_not h).elim
  · rfl
theorem shareB_non {σ : List AObj} {x : V} (h : NonTup σ x) : shareB x = false := by
  unfold shareB
  split
  · obtain ⟨T, h1, h2⟩ := h
    cases h1
    exact absurd (h2.2.2.2 rfl) (by decide)
  · rfl
theorem shareB_one (x : V) : shareB (.tup [x]) = false := by
  unfold shareB
  split
  · rename_i e; cases e
  · rfl
theorem shareB_three (x y z : V) : shareB (.tup [x, y, z]) = false := by
  unfold shareB
  split
  · rename_i e; cases e
  · rfl

theorem good_is_share : Good (dr pw_uf050040_04 6) ["thing"] :=
  ⟨fun pm code doc vals h => (by match vals, h with | [a], _ => rfl), by decide +kernel, by decide +kernel, by decide +kernel, rfl, rfl, rfl⟩
theorem cf_is_share (gl : Gl B mg mb) (bl : Blt B mg mb) (S : Scr B scr nums) (H : HasF B mg (dr pw_uf050040_04 6))
    (c_is_part : CF prog w B mg "is_part" 1 (fun xs σ Q X => (∃ n, xs = [.int n] ∧ Q (.bool (decide (0 ≤ n ∧ n < 10 ^ 60))) σ) ∨ (∃ x, xs = [x] ∧ NonInt σ x ∧ Q (.bool false) σ))) :
    CF prog w B mg "is_share" 2 (fun xs σ Q X => ∃ x, xs = [x] ∧ ShareR σ x ∧ Q (.bool (shareB x)) σ) := by
  refine CF_of gl H good_is_share ?_
  rintro A pm code doc L a₀ _ σ Q X hA ⟨x, rfl, hx, q⟩
  all_goals refine ⟨rfl, ?_⟩

  cases hx with
  | good a b =>
    change WX _ _ _ _ _ (_ :: _) ((_, _) :: []) _ _ _
    refine X_ifs ?_
    repeat walk_at "m"
    refine E_boolop ?_
    repeat walk_at "m"
    refine .inl ⟨_, rfl, ?_⟩
    repeat walk_at "m"
    unfold shareB at q
    refine iteD (fun h => ?_) (fun h => ?_)
    · repeat walk_at "m"
      refine .inl ⟨_, rfl, ?_⟩
      repeat walk_at "m"
      refine iteD (fun h' => ?_) (fun h' => ?_)
      · repeat walk_at "m"
        refine R_all ?_
        simpa only [h, h', true_and] using q
      · refine R_all ?_
        simpa only [h, h', true_and, false_and] using q
    · refine R_all ?_
      simpa only [h, false_and] using q
  | left x y h =>
    change WX _ _ _ _ _ (_ :: _) ((_, _) :: []) _ _ _
    rw [shareB_left h] at q
    refine X_ifs ?_
    repeat walk_at "m"
    refine E_boolop ?_
    repeat walk_at "m"
    refine .inr ⟨_, rfl, h, ?_⟩
    repeat walk_at "m"
    exact R_all q
  | right a y h =>
    change WX _ _ _ _ _ (_ :: _) ((_, _) :: []) _ _ _
    rw [shareB_right h] at q
    refine X_ifs ?_
    repeat walk_at "m"
    refine E_boolop ?_
    repeat walk_at "m"
    refine .inl ⟨_, rfl, ?_⟩
    repeat walk_at "m"
    refine iteD (fun h' => ?_) (fun h' => ?_)
    · repeat walk_at "m"
      refine .inr ⟨_, rfl, h, ?_⟩
      repeat walk_at "m"
      exact R_all q
    · refine R_all ?_
      rw [decide_eq_false h']
      exact q
  | one x =>
    change WX _ _ _ _ _ (_ :: _) ((_, _) :: []) _ _ _
    rw [shareB_one] at q
    refine X_ifs ?_
    repeat walk_at "m"
    exact R_all q
  | three x y z =>
    change WX _ _ _ _ _ (_ :: _) ((_, _) :: []) _ _ _
    rw [shareB_three] at q
    refine X_ifs ?_
    repeat walk_at "m"
    exact R_all q
  | non x h =>
    change WX _ _ _ _ _ (_ :: _) ((_, _) :: []) _ _ _
    rw [shareB_non h] at q
    refine X_ifs ?_
    repeat walk_at "m"
    refine isi_non h ?_
    repeat walk_at "m"
    exact R_all q

def keyB : Key → Bool
  | .s x => isNameS x
  | .i _ => false
def keyLen : Key → Prop
  | .s x => x.length < 10 ^ 9
  | .i _ => True
def pageB (es : List (Key × V)) : Bool := decide (es.length ≤ 200) && es.all fun p => keyB p.1 && shareB p.2
theorem all_take_succ {α : Type} (f : α → Bool) (l : List α) (i : Nat) (hi : i < l.length) : (l.take (i + 1)).all f = ((l.take i).all f && f l[i]) := by
  rw [List.take_add_one, List.all_append, List.getElem?_eq_getElem hi]
  simp

theorem good_is_page : Good (dr pw_uf050040_04 7) ["thing"] :=
  ⟨fun pm code doc vals h => (by match vals, h with | [a], _ => rfl), by decide +kernel, by decide +kernel, by decide +kernel, rfl, rfl, rfl⟩
theorem cf_is_page (gl : Gl B mg mb) (bl : Blt B mg mb) (S : Scr B scr nums) (H : HasF B mg (dr pw_uf050040_04 7)) (g_M : GC B mg "MOST_NAMES" (.int 200))
    (c_is_name : CF prog w B mg "is_name" 1 (fun xs σ Q X => (∃ s, xs = [.str s] ∧ s.length < 10 ^ 9 ∧ Q (.bool (isNameS s)) σ) ∨ (∃ x, xs = [x] ∧ NonStr σ x ∧ Q (.bool false) σ)))
    (c_is_share : CF prog w B mg "is_share" 2 (fun xs σ Q X => ∃ x, xs = [x] ∧ ShareR σ x ∧ Q (.bool (shareB x)) σ)) :
    CF prog w B mg "is_page" 3 (fun xs σ Q X => (∃ k es e, xs = [.ref k] ∧ σ[k]? = some (.dict es e) ∧ es.length ≤ 100000 ∧ (∀ p ∈ es, keyLen p.1 ∧ ShareR σ p.2) ∧ Q (.bool (pageB es)) σ) ∨ (∃ x, xs = [x] ∧ NonDict σ x ∧ Q (.bool false) σ)) := by
  refine CF_of gl H good_is_page ?_
  rintro A pm code doc L a₀ _ σ Q X hA (⟨k, es, e, rfl, hk, hlen, hes, q⟩ | ⟨x, rfl, hx, q⟩)
  all_goals refine ⟨rfl, ?_⟩

  · change WX _ _ _ _ _ (_ :: _) ((_, _) :: []) _ _ _
    refine X_keys hk fun hnd => ?_
    refine X_ifs ?_
    repeat walk_at "m"
    refine isi_dict hk isi_dict_dict ?_
    repeat walk_at "m"
    refine C_len_dict hk (by omega) ?_
    repeat walk_at "m"
    unfold pageB at q
    refine iteD (fun h => ?_) (fun h => ?_)
    · repeat walk_at "m"
      refine R_all ?_
      rw [decide_eq_false (by omega)] at q
      exact q
    · repeat walk_at "m"
      rw [decide_eq_true (by omega), Bool.true_and] at q
      refine X_ford (ι := Unit) (fun i _ => (es.take i).all (fun p => keyB p.1 && shareB p.2) = true) (fun _ _ => [("thing", .ref k)]) (fun _ _ => σ) () hA.handled hk (fun ep => ?_) (by simp) rfl (by walk_at "sub") (fun _ _ _ => hk) ?_ ?_
      · repeat walk_at "m"
        first | exact ⟨rfl, rfl⟩ | rfl
      · rintro ep i ⟨⟩ hi hD
        have hmem : es[i] ∈ es := List.getElem_mem hi
        obtain ⟨hkl, hsh⟩ := hes _ hmem
        have hall := all_take_succ (fun p : Key × V => keyB p.1 && shareB p.2) es i hi
        rw [hD, Bool.true_and] at hall
        have bad : (keyB es[i].1 && shareB es[i].2) = false → es.all (fun p => keyB p.1 && shareB p.2) = false := fun hb => by
          rw [List.all_eq_false]; exact ⟨_, hmem, by rw [hb]; decide⟩
        have hat := at_get hnd hi
        rw [keyAt_get hi]
        generalize es[i] = p at *
        obtain ⟨key, v⟩ := p
        dsimp only at *
        refine X_ifs ?_
        refine T_as (!(keyB key && shareB v)) ?_ ?_
        · have hsh' : ShareR (pin σ k es ep) v := hsh.map fun y T h => h.pin hk
          cases key with
          | s x =>
            repeat walk_at "m"
            refine .inl ⟨x, rfl, hkl, ?_⟩
            repeat walk_at "m"
            refine iteB (fun hb => ?_) (fun hb => ?_)
            · have e : isNameS x = false := by simpa using hb
              repeat walk_at "m"
              exact ⟨by simp [keyB, e], rfl⟩
            · have e : isNameS x = true := by simpa using hb
              repeat walk_at "m"
              refine S_dict (key := .s x) (pin_at hk) hat ?_
              repeat walk_at "m"
              try (refine ⟨hsh', ?_⟩; repeat walk_at "m")
              refine iteB (fun hb' => ?_) (fun hb' => ?_)
              · have e' : shareB v = false := by simpa using hb'
                repeat walk_at "m"
                exact ⟨by simp [e'], rfl⟩
              · have e' : shareB v = true := by simpa using hb'
                repeat walk_at "m"
                exact ⟨by simp [keyB, e, e'], rfl⟩
          | i n =>
            repeat walk_at "m"
            refine .inr ⟨_, rfl, ⟨_, .int _, isi_int_str⟩, ?_⟩
            repeat walk_at "m"
            first | rfl | exact ⟨by simp [keyB], rfl⟩
        refine iteB (fun hb => ?_) (fun hb => ?_)
        · repeat walk_at "m"
          refine TD_ret (pin_at hk) ?_
          rw [pin_set hk]
          repeat walk_at "m"
          rw [bad ((Bool.not_eq_true' _).mp hb)] at q
          exact R_all q
        · repeat walk_at "m"
          exact TD_next () (by rw [hall]; simpa using hb) rfl (by walk_at "sub")
      · rintro ⟨⟩ hD
        repeat walk_at "m"
        refine R_all ?_
        rw [List.take_length] at hD
        rw [hD] at q
        exact q
  · change WX _ _ _ _ _ (_ :: _) ((_, _) :: []) _ _ _
    refine X_ifs ?_
    repeat walk_at "m"
    refine isi_non hx ?_
    repeat walk_at "m"
    exact R_all q

def cellAt (nums : List Int) (k : Int) : Int := if k < nums.length then nums.getD k.toNat 0 else 0

theorem good_cell_at : Good (dr pw_uf050040_04 9) ["_law_script", "_law_k"] :=
  ⟨fun pm code doc vals h => (by match vals, h with | [a, b], _ => rfl), by decide +kernel, by decide +kernel, by decide +kernel, rfl, rfl, rfl⟩
theorem cf_cell_at (gl : Gl B mg mb) (bl : Blt B mg mb) (S : Scr B scr nums) (H : HasF B mg (dr pw_uf050040_04 9)) :
    CF prog w B mg "_law_cell_at" 1 (fun xs σ Q X => ∃ k, xs = [.raw (.ref scr), .int k] ∧ 0 ≤ k ∧ Q (.int (cellAt nums k)) σ) := by
  refine CF_of gl H good_cell_at ?_
  rintro A pm code doc L a₀ _ σ Q X hA ⟨k, rfl, hk, q⟩
  refine ⟨rfl, ?_⟩
  change WX _ _ _ _ _ (_ :: _) ((_, _) :: (_, _) :: []) _ _ _

  refine X_ifs ?_
  repeat walk_at "m"
  refine iteD (fun h => ?_) (fun h => ?_)
  · repeat walk_at "m"
    refine S_scr S hk h ?_
    repeat walk_at "m"
    refine R_all ?_
    simpa [cellAt, h] using q
  · repeat walk_at "m"
    refine R_all ?_
    simpa [cellAt, h] using q

def numBy (c : Int) : Int := if c % 5 < 2 then c / 5 % 3 * (c % 5) else if c % 5 = 2 then c / 5 % 1000 else if c % 5 = 3 then c / 5 % 10 ^ 60 else 10 ^ 60 - 1 - c / 5 % 1000

theorem good_number_by : Good (dr pw_uf050040_04 10) ["_law_cell"] :=
  ⟨fun pm code doc vals h => (by match vals, h with | [a], _ => rfl), by decide +kernel, by decide +kernel, by decide +kernel, rfl, rfl, rfl⟩
theorem cf_number_by (gl : Gl B mg mb) (bl : Blt B mg mb) (S : Scr B scr nums) (H : HasF B mg (dr pw_uf050040_04 10)) :
    CF prog w B mg "_law_number_by" 1 (fun xs σ Q X => ∃ c, xs = [.int c] ∧ Q (.int (numBy c)) σ) := by
  refine CF_of gl H good_number_by ?_
  rintro A pm code doc L a₀ _ σ Q X hA ⟨c, rfl, q⟩
  refine ⟨rfl, ?_⟩
  change WX _ _ _ _ _ (_ :: _) ((_, _) :: []) _ _ _

  unfold numBy at q
  repeat walk_at "m"
  refine X_ifs ?_
  repeat walk_at "m"
  refine iteD (fun h => ?_) (fun h => ?_)
  · rw [if_pos h] at q
    repeat walk_at "m"
    exact R_all q
  · rw [if_neg h] at q
    repeat walk_at "m"
    refine X_ifs ?_
    repeat walk_at "m"
    refine iteD (fun h => ?_) (fun h => ?_)
    · rw [if_pos h] at q
      repeat walk_at "m"
      exact R_all q
    · rw [if_neg h] at q
      repeat walk_at "m"
      refine X_ifs ?_
      repeat walk_at "m"
      refine iteD (fun h => ?_) (fun h => ?_)
      · rw [if_pos h] at q
        repeat walk_at "m"
        exact R_all q
      · rw [if_neg h] at q
        repeat walk_at "m"
        exact R_all q

def sg (c : Nat) : Str := ⟨#[c]⟩
theorem join_sg (l : List Nat) : Txt.join (Str.ofString "") (l.map sg) = ⟨l.toArray⟩ := by
  have : Str.ofString "" = ⟨#[]⟩ := by decide +kernel
  rw [this]; exact join_empty l
theorem joinOk_sg (l : List Nat) (h : l.length ≤ 1000) : JoinOk (Str.ofString "") (l.map sg) = true := by
  refine joinOk_small (fun y hy => ?_) (by simpa using h) (by decide +kernel)
  obtain ⟨c, _, rfl⟩ := List.mem_map.mp hy
  show 1 ≤ 1000
  decide

theorem letters_get {i : Nat} (h : i < 26) : letters.cps.getD i 0 = 97 + i := by
  have e : letters.cps = (List.range' 97 26).toArray := by rw [← letters_list]
  rw [e, Array.getD_eq_getD_getElem?, List.getElem?_toArray, List.getElem?_range' (by simpa using h)]
  simp
theorem letters_size : letters.cps.size = 26 := by decide +kernel
theorem letters_sign {i : Nat} (h : i < 26) : signAt letters i = sg (97 + i) := by unfold signAt sg; rw [letters_get h]
def nameL0 (c : Int) : List Nat := (List.range (1 + c % 8 - 0).toNat).map fun (k : Nat) => 97 + ((c / 8 + (0 + (k : Int)) * (1 + c / 208 % 25)) % 26).toNat
def nameL (c : Int) : List Nat := if c / 5200 % 2 = 1 then (nameL0 c).set (c / 10400 % ((nameL0 c).length : Int)).toNat (97 + (c / 83200 % 26).toNat) else nameL0 c
def nameBy (c : Int) : Str := ⟨(nameL c).toArray⟩
theorem nameL0_length (c : Int) : (nameL0 c).length = (1 + c % 8).toNat := by simp [nameL0]
theorem nameL_length (c : Int) : (nameL c).length = (1 + c % 8).toNat := by unfold nameL; split <;> simp [nameL0_length]
theorem nameL_ok (c : Int) : ∀ x ∈ nameL c, 97 ≤ x ∧ x ≤ 122 := by
  have h0 : ∀ x ∈ nameL0 c, 97 ≤ x ∧ x ≤ 122 := fun x hx => by
    obtain ⟨k, _, rfl⟩ := List.mem_map.mp hx
    omega
  intro x hx
  unfold nameL at hx
  split at hx
  · rcases List.mem_or_eq_of_mem_set hx with h | rfl
    · exact h0 x h
    · omega
  · exact h0 x hx
theorem nameBy_ok (c : Int) : isNameS (nameBy c) = true := by
  unfold isNameS nameBy
  have h1 := nameL_length c
  have h2 := nameL_ok c
  simp only [Str.length, List.size_toArray, Bool.and_eq_true, decide_eq_true_eq, List.all_eq_true]
  refine ⟨by omega, fun x hx => ?_⟩
  unfold isL
  exact decide_eq_true (h2 x (by simpa using hx))

theorem good_name_by : Good (dr pw_uf050040_04 11) ["_law_cell"] :=
  ⟨fun pm code doc vals h => (by match vals, h with | [a], _ => rfl), by decide +kernel, by decide +kernel, by decide +kernel, rfl, rfl, rfl⟩
theorem cf_name_by (gl : Gl B mg mb) (bl : Blt B mg mb) (S : Scr B scr nums) (H : HasF B mg (dr pw_uf050040_04 11)) :
    CF prog w B mg "_law_name_by" 2 (fun xs σ Q X => ∃ c, xs = [.int c] ∧ Q (.str (nameBy c)) σ) := by
  refine CF_of gl H good_name_by ?_
  rintro A pm code doc L a₀ _ σ Q X hA ⟨c, rfl, q⟩
  refine ⟨rfl, ?_⟩
  change WX _ _ _ _ _ (_ :: _) ((_, _) :: []) _ _ _

  repeat walk_at "m"
  refine X_compl [("_law_signs", .str (Str.ofString "abcdefghijklmnopqrstuvwxyz")), ("_law_step", .int (1 + c / 208 % 25)), ("_law_cell", .int c)] (by kernel_rfl!) (by walk_at "sub") (by kernel_rfl!) env_apart ?_
  repeat walk_at "m"
  refine ⟨σ, _, _, _, fun i => .str (sg (97 + ((c / 8 + (0 + (i : Int)) * (1 + c / 208 % 25)) % 26).toNat)), It_range hA.handled (by omega) (by omega) (by omega) (by omega), small_size (by omega), fun _ => trivial, fun D i hi => ?_, ?_⟩
  · repeat walk_at "m"
    refine S_str (by omega) (by rw [show (Str.ofString "abcdefghijklmnopqrstuvwxyz").cps.size = 26 from letters_size]; omega) (by omega) ?_
    exact ⟨congrArg V.str (letters_sign (by omega)), rfl⟩
  have e0 : (List.range (1 + c % 8 - 0).toNat).map (fun (i : Nat) => V.str (sg (97 + ((c / 8 + (0 + (i : Int)) * (1 + c / 208 % 25)) % 26).toNat))) = ((nameL0 c).map sg).map V.str := by simp [nameL0, List.map_map, Function.comp_def]
  rw [e0]
  have hl := nameL0_length c
  have hl2 := nameL_length c
  have fin : ∀ ρ, retQ σ Q (.ret (.str (Txt.join (Str.ofString "") ((nameL c).map sg)))) ρ (σ ++ [.list (((nameL c).map sg).map V.str)]) := fun ρ => by
    rw [join_sg]
    exact R_none (by simp [V.lt]) q
  refine X_ifs ?_
  repeat walk_at "m"
  refine iteD (fun h1 => ?_) (fun h1 => ?_)
  · repeat walk_at "m"
    refine S_str (by omega) (by rw [show (Str.ofString "abcdefghijklmnopqrstuvwxyz").cps.size = 26 from letters_size]; omega) (by omega) ?_
    rw [show signAt (Str.ofString "abcdefghijklmnopqrstuvwxyz") (c / 83200 % 26).toNat = _ from letters_sign (by omega)]
    repeat walk_at "m"
    refine C_len_list at_end (by simp; omega) ?_
    repeat walk_at "m"
    have hlp : (0 : Int) < ((((nameL0 c).map sg).map V.str).length : Int) := by simp; omega
    refine O_mod ?_ hlp
    have hm := Int.emod_lt_of_pos (c / 10400) hlp
    have hm0 := Int.emod_nonneg (c / 10400) (Int.ne_of_gt hlp)
    refine P_list at_end hm0 hm (by simp at hm ⊢; omega) ?_
    rw [set_end]
    have e : (((nameL0 c).map sg).map V.str).set (c / 10400 % ((((nameL0 c).map sg).map V.str).length : Int)).toNat (V.str (sg (97 + (c / 83200 % 26).toNat))) = ((nameL c).map sg).map V.str := by
      unfold nameL; rw [if_pos h1]; simp [List.map_set]
    rw [e]
    repeat walk_at "m"
    refine C_join at_end (joinOk_sg _ (by omega)) ?_
    exact fin _
  · have e : ((nameL0 c).map sg).map V.str = ((nameL c).map sg).map V.str := by unfold nameL; rw [if_neg h1]
    rw [e]
    repeat walk_at "m"
    refine C_join at_end (joinOk_sg _ (by omega)) ?_
    exact fin _

def mixed (c k : Int) : Int := (c % 1000000007 + 7919 * k + 11) * 48271 % 2147483647

theorem good_mixed : Good (dr pw_uf050040_04 12) ["_law_cell", "_law_k"] :=
  ⟨fun pm code doc vals h => (by match vals, h with | [a, b], _ => rfl), by decide +kernel, by decide +kernel, by decide +kernel, rfl, rfl, rfl⟩
theorem cf_mixed (gl : Gl B mg mb) (bl : Blt B mg mb) (S : Scr B scr nums) (H : HasF B mg (dr pw_uf050040_04 12)) :
    CF prog w B mg "_law_mixed" 1 (fun xs σ Q X => ∃ c k, xs = [.int c, .int k] ∧ Q (.int (mixed c k)) σ) := by
  refine CF_of gl H good_mixed ?_
  rintro A pm code doc L a₀ _ σ Q X hA ⟨c, k, rfl, q⟩
  refine ⟨rfl, ?_⟩
  change WX _ _ _ _ _ (_ :: _) ((_, _) :: (_, _) :: []) _ _ _

  repeat walk_at "m"
  exact R_all q

theorem good_truth : Good (dr pw_uf050040_04 13) ["_law_found", "_law_due"] :=
  ⟨fun pm code doc vals h => (by match vals, h with | [a, b], _ => rfl), by decide +kernel, by decide +kernel, by decide +kernel, rfl, rfl, rfl⟩
theorem cf_truth (gl : Gl B mg mb) (bl : Blt B mg mb) (S : Scr B scr nums) (H : HasF B mg (dr pw_uf050040_04 13)) :
    CF prog w B mg "_law_truth" 1 (fun xs σ Q X => ∃ a b, xs = [.bool a, .bool b] ∧ Q (.bool (a == b)) σ) := by
  refine CF_of gl H good_truth ?_
  rintro A pm code doc L a₀ _ σ Q X hA ⟨c, d, rfl, q⟩
  refine ⟨rfl, ?_⟩
  change WX _ _ _ _ _ (_ :: _) ((_, _) :: (_, _) :: []) _ _ _

  repeat walk_at "m"
  refine E_boolop ?_
  repeat walk_at "m"
  exact R_all q

theorem numBy_ok (c : Int) : 0 ≤ numBy c ∧ numBy c < 10 ^ 60 := by
  unfold numBy
  split
  · rename_i h
    have h1 : c % 5 = 0 ∨ c % 5 = 1 := by omega
    rcases h1 with h1 | h1 <;> rw [h1] <;> omega
  · split
    · omega
    · split
      · exact ⟨Int.emod_nonneg _ (by decide), Int.emod_lt_of_pos _ (by decide)⟩
      · omega

def rowV (r : Str × Int × Int) : V := .tup [.str r.1, .tup [.int r.2.1, .int r.2.2]]
def RowOk (r : Str × Int × Int) : Prop := isNameS r.1 = true ∧ (0 ≤ r.2.1 ∧ r.2.1 < 10 ^ 60) ∧ (0 ≤ r.2.2 ∧ r.2.2 < 10 ^ 60) ∧ 0 < r.2.1 + r.2.2
theorem isNameS_len {x : Str} (h : isNameS x = true) : x.length ≤ 8 := by
  unfold isNameS at h
  simp only [Bool.and_eq_true, decide_eq_true_eq] at h
  exact h.1.2
theorem isNameS_of {l : List Nat} (h1 : 1 ≤ l.length) (h2 : l.length ≤ 8) (h : ∀ c ∈ l, isL c = true) : isNameS ⟨l.toArray⟩ = true := by
  unfold isNameS
  simp only [Str.length, List.size_toArray, Bool.and_eq_true, decide_eq_true_eq, List.all_eq_true]
  exact ⟨⟨h1, h2⟩, h⟩
theorem isNameS_all {x : Str} (h : isNameS x = true) : ∀ c ∈ x.cps.toList, isL c = true := by
  unfold isNameS at h
  simp only [Bool.and_eq_true, List.all_eq_true] at h
  exact h.2
theorem marked_ok {x : Str} (h : isNameS x = true) (a b : Nat) (ha : a < 26) (hb : b < 26) : isNameS (sg (97 + a) ++ sg (97 + b) ++ ⟨(x.cps.toList.take 6).toArray⟩) = true := by
  have e : sg (97 + a) ++ sg (97 + b) ++ ⟨(x.cps.toList.take 6).toArray⟩ = (⟨((97 + a) :: (97 + b) :: x.cps.toList.take 6).toArray⟩ : Str) := by
    show (⟨#[97 + a] ++ #[97 + b] ++ (x.cps.toList.take 6).toArray⟩ : Str) = _
    simp
  rw [e]
  refine isNameS_of (by simp) (by simp; omega) fun c hc => ?_
  rcases List.mem_cons.mp hc with rfl | hc
  · unfold isL; exact decide_eq_true (by omega)
  · rcases List.mem_cons.mp hc with rfl | hc
    · unfold isL; exact decide_eq_true (by omega)
    · exact isNameS_all h c (List.mem_of_mem_take hc)

theorem good_rows_by : Good (dr pw_uf050040_04 14) ["_law_names", "_law_shares", "_law_size"] :=
  ⟨fun pm code doc vals h => (by match vals, h with | [a, b, c], _ => rfl), by decide +kernel, by decide +kernel, by decide +kernel, rfl, rfl, rfl⟩
theorem cf_rows_by (gl : Gl B mg mb) (bl : Blt B mg mb) (S : Scr B scr nums) (H : HasF B mg (dr pw_uf050040_04 14))
    (c_number_by : CF prog w B mg "_law_number_by" 1 (fun xs σ Q X => ∃ c, xs = [.int c] ∧ Q (.int (numBy c)) σ))
    (c_mixed : CF prog w B mg "_law_mixed" 1 (fun xs σ Q X => ∃ c k, xs = [.int c, .int k] ∧ Q (.int (mixed c k)) σ))
    (c_name_by : CF prog w B mg "_law_name_by" 2 (fun xs σ Q X => ∃ c, xs = [.int c] ∧ Q (.str (nameBy c)) σ)) :
    CF prog w B mg "_law_rows_by" 3 (fun xs σ Q X => ∃ a b n, xs = [.int a, .int b, .int n] ∧ (0 ≤ n ∧ n ≤ 201) ∧ ∀ rows : List (Str × Int × Int), rows.length = n.toNat → (∀ r ∈ rows, RowOk r) → Q (.ref σ.length) (σ ++ [.list (rows.map rowV)])) := by
  refine CF_of gl H good_rows_by ?_
  rintro A pm code doc L a₀ _ σ Q X hA ⟨a, b, n, rfl, ⟨hn0, hn⟩, q⟩
  refine ⟨rfl, ?_⟩
  change WX _ _ _ _ _ (_ :: _) ((_, _) :: (_, _) :: (_, _) :: []) _ _ _

  repeat walk_at "m"
  refine X_fors ?_
  repeat walk_at "m"
  refine ForG.mk (ι := List (Str × Int × Int)) (fun i g => g.length = i ∧ ∀ r ∈ g, RowOk r) (fun _ _ => [("_law_rows", .ref σ.length), ("_law_names", .int a), ("_law_shares", .int b), ("_law_size", .int n)]) (fun _ g => σ ++ [.list (g.map rowV)]) (It_range hA.handled (by omega) (by omega) (by omega) (by omega)) [] ⟨rfl, fun r hr => nomatch hr⟩ rfl trivial (by walk_at "sub") ?_ ?_
  · rintro i g hi ⟨hg, hok⟩ -
    repeat walk_at "m"
    refine X_ifj (ι := Str) (fun x => isNameS x = true) (fun x => [("_law_name", .str x), ("_law_share", .tup [.int (numBy (mixed b (2 * (0 + (i : Int))))), .int (1 + mixed b (2 * (0 + (i : Int)) + 1) % 9)]), ("_law_rows", .ref σ.length), ("_law_names", .int a), ("_law_shares", .int b), ("_law_size", .int n)]) (fun _ => σ ++ [.list (g.map rowV)]) ?_ ?_
    · repeat walk_at "m"
      refine iteD (fun h => ?_) (fun h => ?_)
      · repeat walk_at "m"
        refine S_str (by omega) (by rw [show (Str.ofString "abcdefghijklmnopqrstuvwxyz").cps.size = 26 from letters_size]; omega) (by omega) ?_
        rw [show signAt (Str.ofString "abcdefghijklmnopqrstuvwxyz") ((0 + (i : Int)) % 26).toNat = _ from letters_sign (by omega)]
        repeat walk_at "m"
        refine S_str (by omega) (by rw [show (Str.ofString "abcdefghijklmnopqrstuvwxyz").cps.size = 26 from letters_size]; omega) (by omega) ?_
        rw [show signAt (Str.ofString "abcdefghijklmnopqrstuvwxyz") ((0 + (i : Int)) / 26).toNat = _ from letters_sign (by omega)]
        repeat walk_at "m"
        refine O_adds ?_ (by show 1 + 1 ≤ sizeLine; decide +kernel)
        repeat walk_at "m"
        have hnm := nameBy_ok (mixed a (0 + (i : Int)))
        have hnl := isNameS_len hnm
        try refine ⟨small_size (by omega), ?_⟩
        repeat walk_at "m"
        rw [slice_to (by decide)]
        refine O_adds ?_ (small_size ?_)
        · repeat walk_at "m"
          exact J_next _ (marked_ok hnm ((0 + (i : Int)) % 26).toNat ((0 + (i : Int)) / 26).toNat (by omega) (by omega)) rfl (by walk_at "sub")
        · show 1 + 1 + _ ≤ 100000
          simp [Str.length]
          omega
      · repeat walk_at "m"
        exact J_next _ (nameBy_ok _) rfl (by walk_at "sub")
    · intro x hx
      repeat walk_at "m"
      refine ⟨GM_list at_end slot_list_append F.type_list_append, ?_⟩
      repeat walk_at "m"
      refine C_append at_end (small_size (by simp; omega)) ?_
      rw [set_end]
      repeat walk_at "m"
      have hnb := numBy_ok (mixed b (2 * (0 + (i : Int))))
      refine TJ_next (g ++ [(x, numBy (mixed b (2 * (0 + (i : Int)))), 1 + mixed b (2 * (0 + (i : Int)) + 1) % 9)]) ⟨by simp [hg], fun r hr => ?_⟩ (by simp [rowV]) trivial (by walk_at "sub")
      rcases List.mem_append.mp hr with h | h
      · exact hok r h
      · obtain rfl := List.mem_singleton.mp h
        exact ⟨hx, hnb, by dsimp only; omega, by dsimp only; omega⟩
  · rintro g ⟨hg, hok⟩ -
    repeat walk_at "m"
    exact R_all (q g (by omega) hok)

theorem odd2 (j : Nat) (h : j < 4) : isNameS (Str.ofString "ab" ++ signAt (Str.ofString " A1-") j) = false := by
  rcases j with _ | _ | _ | _ | j <;> first | decide +kernel | omega
theorem odd4 (j : Nat) (h : j < 8) : isNameS ⟨((Str.ofString "abcdefgh").cps.toList.take (j + 1)).toArray⟩ = true := by
  rcases j with _ | _ | _ | _ | _ | _ | _ | _ | j <;> first | decide +kernel | omega
inductive BadV : V → Prop
  | int (n : Int) : BadV (.int n)
  | one (x : Int) : BadV (.tup [.int x])
  | three (x y z : Int) : BadV (.tup [.int x, .int y, .int z])
  | two (a b : Int) : ¬ ((0 ≤ a ∧ a < 10 ^ 60) ∧ (0 ≤ b ∧ b < 10 ^ 60) ∧ 0 < a + b) → BadV (.tup [.int a, .int b])
  | bi (b : Bool) (x : Int) : BadV (.tup [.bool b, .int x])
  | ib (x : Int) (b : Bool) : BadV (.tup [.int x, .bool b])
  | is (x : Int) (s : Str) : PyData.strOk s = true → BadV (.tup [.int x, .str s])
  | si (s : Str) (x : Int) : PyData.strOk s = true → BadV (.tup [.str s, .int x])
  | ni (x : Int) : BadV (.tup [.none, .int x])
theorem BadV.lt {x : V} (h : BadV x) (n : Nat) : x.lt n := by cases h <;> simp [V.lt, Vs.lt]
theorem BadV.shareR {x : V} (h : BadV x) (σ : List AObj) : ShareR σ x ∧ shareB x = false := by
  cases h with
  | int n => exact ⟨.non _ ⟨_, .int _, isi_int_tuple⟩, rfl⟩
  | one x => exact ⟨.one _, rfl⟩
  | three x y z => exact ⟨.three _ _ _, rfl⟩
  | two a b h => exact ⟨.good a b, decide_eq_false h⟩
  | bi b x => exact ⟨.left _ _ (.inl ⟨_, rfl⟩), rfl⟩
  | ib x b => exact ⟨.right _ _ (.inl ⟨_, rfl⟩), rfl⟩
  | is x s => exact ⟨.right _ _ (.inr ⟨_, .str _, isi_str_int⟩), rfl⟩
  | si s x => exact ⟨.left _ _ (.inr ⟨_, .str _, isi_str_int⟩), rfl⟩
  | ni x => exact ⟨.left _ _ (.inr ⟨_, .none, isi_NoneType_int⟩), rfl⟩
/-- values that == may look at -/
def DatOk (σ : List AObj) (x : V) : Prop := ∃ d, Dat σ x d ∧ d.canLay0 = true ∧ d.depth ≤ 100 ∧ PyData.eqv d d = true
theorem BadV.dat {x : V} (h : BadV x) (σ : List AObj) : DatOk σ x := by
  cases h with
  | int n => exact ⟨_, .int _, rfl, by simp [PyData.depth], by simp [PyData.eqv]⟩
  | one x => exact ⟨_, .tup (.cons (.int _) .nil), rfl, by simp [PyData.depth, PyData.depthAll], by simp [PyData.eqv, PyData.eqvAll]⟩
  | three x y z => exact ⟨_, .tup (.cons (.int _) (.cons (.int _) (.cons (.int _) .nil))), rfl, by simp [PyData.depth, PyData.depthAll], by simp [PyData.eqv, PyData.eqvAll]⟩
  | two a b h => exact ⟨_, .tup (.cons (.int _) (.cons (.int _) .nil)), rfl, by simp [PyData.depth, PyData.depthAll], by simp [PyData.eqv, PyData.eqvAll]⟩
  | bi b x => exact ⟨_, .tup (.cons (.bool _) (.cons (.int _) .nil)), rfl, by simp [PyData.depth, PyData.depthAll], by simp [PyData.eqv, PyData.eqvAll]⟩
  | ib x b => exact ⟨_, .tup (.cons (.int _) (.cons (.bool _) .nil)), rfl, by simp [PyData.depth, PyData.depthAll], by simp [PyData.eqv, PyData.eqvAll]⟩
  | is x s hs => exact ⟨_, .tup (.cons (.int _) (.cons (.str _) .nil)), by simp [PyData.canLay0, PyData.canLayAll0, hs], by simp [PyData.depth, PyData.depthAll], by simp [PyData.eqv, PyData.eqvAll]⟩
  | si s x hs => exact ⟨_, .tup (.cons (.str _) (.cons (.int _) .nil)), by simp [PyData.canLay0, PyData.canLayAll0, hs], by simp [PyData.depth, PyData.depthAll], by simp [PyData.eqv, PyData.eqvAll]⟩
  | ni x => exact ⟨_, .tup (.cons .none (.cons (.int _) .nil)), rfl, by simp [PyData.depth, PyData.depthAll], by simp [PyData.eqv, PyData.eqvAll]⟩
mutual
theorem Dat.append {σ : List AObj} (more : List AObj) : ∀ {x : V} {d : PyData}, Dat σ x d → Dat (σ ++ more) x d
  | _, _, .none => .none
  | _, _, .bool b => .bool b
  | _, _, .int i => .int i
  | _, _, .str x => .str x
  | _, _, .tup h => .tup (Dats.append more h)
  | _, _, .list hk h => .list (by rw [List.getElem?_append_left (List.getElem?_eq_some_iff.mp hk).1]; exact hk) (Dats.append more h)
theorem Dats.append {σ : List AObj} (more : List AObj) : ∀ {xs : List V} {ds : List PyData}, Dats σ xs ds → Dats (σ ++ more) xs ds
  | _, _, .nil => .nil
  | _, _, .cons h1 h2 => .cons (Dat.append more h1) (Dats.append more h2)
end
theorem DatOk.append {σ : List AObj} {x : V} (more : List AObj) (h : DatOk σ x) : DatOk (σ ++ more) x := let ⟨d, h1, h2⟩ := h; ⟨d, h1.append more, h2⟩
theorem ShareR.append {σ : List AObj} {x : V} (more : List AObj) (h : ShareR σ x) : ShareR (σ ++ more) x := h.map fun _ _ h => h.append more

theorem good_odd_name : Good (dr pw_uf050040_04 15) ["_law_cell"] :=
  ⟨fun pm code doc vals h => (by match vals, h with | [a], _ => rfl), by decide +kernel, by decide +kernel, by decide +kernel, rfl, rfl, rfl⟩
theorem cf_odd_name (gl : Gl B mg mb) (bl : Blt B mg mb) (S : Scr B scr nums) (H : HasF B mg (dr pw_uf050040_04 15)) :
    CF prog w B mg "_law_odd_name" 1 (fun xs σ Q X => ∃ c, xs = [.int c] ∧ ∀ key : Key, keyLen key → keyB key = decide (3 < c % 6) → Q key.v σ) := by
  refine CF_of gl H good_odd_name ?_
  rintro A pm code doc L a₀ _ σ Q X hA ⟨c, rfl, q⟩
  refine ⟨rfl, ?_⟩
  change WX _ _ _ _ _ (_ :: _) ((_, _) :: []) _ _ _

  repeat walk_at "m"
  refine X_ifs ?_
  repeat walk_at "m"
  refine iteD (fun h => ?_) (fun h => ?_)
  · repeat walk_at "m"
    exact R_all (q (.s (Str.ofString "")) (by show 0 < 10 ^ 9; decide) (by rw [h]; decide +kernel))
  repeat walk_at "m"
  refine X_ifs ?_
  repeat walk_at "m"
  refine iteD (fun h1 => ?_) (fun h1 => ?_)
  · repeat walk_at "m"
    exact R_all (q (.s (Str.ofString "abcdefghi")) (by show (Str.ofString "abcdefghi").length < 10 ^ 9; decide +kernel) (by rw [h1]; decide +kernel))
  repeat walk_at "m"
  refine X_ifs ?_
  repeat walk_at "m"
  refine iteD (fun h2 => ?_) (fun h2 => ?_)
  · repeat walk_at "m"
    refine S_str (by omega) (by rw [show (Str.ofString " A1-").cps.size = 4 from by decide +kernel]; omega) (by omega) ?_
    repeat walk_at "m"
    have hl2 : (Str.ofString "ab").length = 2 := by decide +kernel
    refine O_adds ?_ (small_size (by rw [hl2]; show 2 + 1 ≤ 100000; decide))
    repeat walk_at "m"
    refine R_all (q (.s (Str.ofString "ab" ++ signAt (Str.ofString " A1-") (c / 6 % 4).toNat)) ?_ ?_)
    · show (Str.ofString "ab" ++ signAt (Str.ofString " A1-") (c / 6 % 4).toNat).cps.size < 10 ^ 9
      show ((Str.ofString "ab").cps ++ #[_]).size < 10 ^ 9
      have : (Str.ofString "ab").cps.size = 2 := by decide +kernel
      simp [this]
    · rw [decide_eq_false (by omega)]
      exact odd2 _ (by omega)
  repeat walk_at "m"
  refine X_ifs ?_
  repeat walk_at "m"
  refine iteD (fun h3 => ?_) (fun h3 => ?_)
  · repeat walk_at "m"
    exact R_all (q (.i (c / 6 % 9)) trivial (by rw [h3]; rfl))
  repeat walk_at "m"
  try (refine ⟨small_size (by decide +kernel), ?_⟩)
  repeat walk_at "m"
  rw [slice_to (by omega)]
  have e : (1 + c / 6 % 8).toNat = (c / 6 % 8).toNat + 1 := by omega
  rw [e]
  have ok := odd4 (c / 6 % 8).toNat (by omega)
  refine R_all (q (.s _) ?_ ?_)
  · show Str.length _ < 10 ^ 9
    have := isNameS_len ok
    omega
  · rw [decide_eq_true (by omega)]
    exact ok

theorem good_odd_share : Good (dr pw_uf050040_04 16) ["_law_cell"] :=
  ⟨fun pm code doc vals h => (by match vals, h with | [a], _ => rfl), by decide +kernel, by decide +kernel, by decide +kernel, rfl, rfl, rfl⟩
theorem cf_odd_share (gl : Gl B mg mb) (bl : Blt B mg mb) (S : Scr B scr nums) (H : HasF B mg (dr pw_uf050040_04 16)) :
    CF prog w B mg "_law_odd_share" 1 (fun xs σ Q X => ∃ c, xs = [.int c] ∧ (∀ x, BadV x → Q x σ) ∧ (∀ far : Int, Q (.ref σ.length) (σ ++ [.list [.int far, .int 1]]))) := by
  refine CF_of gl H good_odd_share ?_
  rintro A pm code doc L a₀ _ σ Q X hA ⟨c, rfl, q1, q2⟩
  refine ⟨rfl, ?_⟩
  change WX _ _ _ _ _ (_ :: _) ((_, _) :: []) _ _ _

  repeat walk_at "m"
  refine O_addl at_prev at_end (small_size (by simp)) ?_
  repeat walk_at "m"
  refine S_list at_end (by omega) (by simp only [List.length_append, List.length_cons, List.length_nil]; omega) (by omega) ?_
  have hlt : (c % 15).toNat < 15 := by omega
  generalize (c % 15).toNat = j at hlt
  have h5 : 0 ≤ c / 15 % 5 ∧ c / 15 % 5 < 5 := by omega
  generalize c / 15 % 5 = far at h5
  repeat walk_at "m"
  have bad : ∀ x ρ σ', BadV x → retQ σ Q (.ret x) ρ (σ ++ σ') := fun x ρ σ' h => R_none (h.lt _) (q1 x h)
  have e10 : (0 : Int) < 10 ^ 60 := by decide
  rcases j with _ | _ | _ | _ | _ | _ | _ | _ | _ | _ | _ | _ | _ | _ | _ | j
  · simp only [List.append_assoc]
    exact R_one0 (by simp [AObj.lt, Vs.lt, V.lt]) (q2 far)
  · simp only [List.append_assoc]; exact bad _ _ _ (.one _)
  · simp only [List.append_assoc]; exact bad _ _ _ (.three _ _ _)
  · simp only [List.append_assoc]; exact bad _ _ _ (.two _ _ (by omega))
  · simp only [List.append_assoc]; exact bad _ _ _ (.two _ _ (by omega))
  · simp only [List.append_assoc]; exact bad _ _ _ (.two _ _ (by omega))
  · simp only [List.append_assoc]; exact bad _ _ _ (.two _ _ (by omega))
  · simp only [List.append_assoc]; exact bad _ _ _ (.bi _ _)
  · simp only [List.append_assoc]; exact bad _ _ _ (.is _ _ (by decide +kernel))
  · simp only [List.append_assoc]; exact bad _ _ _ (.two _ _ (by omega))
  · simp only [List.append_assoc]; exact bad _ _ _ (.int _)
  · simp only [List.append_assoc]; exact bad _ _ _ (.ib _ _)
  · simp only [List.append_assoc]; exact bad _ _ _ (.ib _ _)
  · simp only [List.append_assoc]; exact bad _ _ _ (.si _ _ (by decide +kernel))
  · simp only [List.append_assoc]; exact bad _ _ _ (.ni _)
  · omega

def rowT (p : Key × V) : V := .tup [p.1.v, p.2]
theorem getD_map {α : Type} (f : α → V) (l : List α) (i : Nat) (h : i < l.length) : (l.map f).getD i .none = f l[i] := by
  rw [List.getD_eq_getElem?_getD, List.getElem?_map, List.getElem?_eq_getElem h]; rfl
def rowB (p : Key × V) : Bool := keyB p.1 && shareB p.2
/-- the rows of the law, their shares laid well -/
def RowsR (σ : List AObj) (rows : List (Key × V)) : Prop := ∀ p ∈ rows, keyLen p.1 ∧ ShareR σ p.2 ∧ DatOk σ p.2
theorem RowsR.append {σ : List AObj} {rows : List (Key × V)} (more : List AObj) (h : RowsR σ rows) : RowsR (σ ++ more) rows := fun p hp => ⟨(h p hp).1, (h p hp).2.1.append more, (h p hp).2.2.append more⟩
def toRow (r : Str × Int × Int) : Key × V := (.s r.1, .tup [.int r.2.1, .int r.2.2])
theorem rows_map (rows : List (Str × Int × Int)) : rows.map rowV = (rows.map toRow).map rowT := by simp [rowV, rowT, toRow, Key.v]
theorem datOk_pair (σ : List AObj) (a b : Int) : DatOk σ (.tup [.int a, .int b]) := ⟨_, .tup (.cons (.int _) (.cons (.int _) .nil)), rfl, by simp [PyData.depth, PyData.depthAll], by simp [PyData.eqv, PyData.eqvAll]⟩
theorem rows_ok {rows : List (Str × Int × Int)} (h : ∀ r ∈ rows, RowOk r) (σ : List AObj) : RowsR σ (rows.map toRow) ∧ (rows.map toRow).all rowB = true := by
  refine ⟨fun p hp => ?_, ?_⟩
  · obtain ⟨r, hr, rfl⟩ := List.mem_map.mp hp
    have := isNameS_len (h r hr).1
    exact ⟨by show r.1.length < 10 ^ 9; omega, .good _ _, datOk_pair _ _ _⟩
  · rw [List.all_eq_true]
    intro p hp
    obtain ⟨r, hr, rfl⟩ := List.mem_map.mp hp
    obtain ⟨h1, h2, h3, h4⟩ := h r hr
    show (isNameS r.1 && decide _) = true
    rw [h1, decide_eq_true ⟨h2, h3, h4⟩]; rfl
theorem all_set {rows : List (Key × V)} (h : rows.all rowB = true) {i : Nat} (hi : i < rows.length) (p : Key × V) : (rows.set i p).all rowB = rowB p := by
  cases hb : rowB p with
  | true =>
    rw [List.all_eq_true]
    intro q hq
    rcases List.mem_or_eq_of_mem_set hq with h' | rfl
    · exact List.all_eq_true.mp h q h'
    · exact hb
  | false =>
    rw [List.all_eq_false]
    exact ⟨p, List.mem_set hi p, by rw [hb]; decide⟩
theorem rowsR_set {σ : List AObj} {rows : List (Key × V)} (h : RowsR σ rows) {i : Nat} {p : Key × V} (hp : keyLen p.1 ∧ ShareR σ p.2 ∧ DatOk σ p.2) : RowsR σ (rows.set i p) := fun q hq => by
  rcases List.mem_or_eq_of_mem_set hq with h' | rfl
  · exact h q h'
  · exact hp

theorem good_law : Good (dr pw_uf050040_04 17) ["_law_script"] :=
  ⟨fun pm code doc vals h => (by match vals, h with | [a], _ => rfl), by decide +kernel, by decide +kernel, by decide +kernel, rfl, rfl, rfl⟩
theorem law_ok (bl : Blt B mg mb) (S : Scr B scr nums)
    (c_cell_at : CF prog w B mg "_law_cell_at" 1 (fun xs σ Q X => ∃ k, xs = [.raw (.ref scr), .int k] ∧ 0 ≤ k ∧ Q (.int (cellAt nums k)) σ))
    (c_rows_by : CF prog w B mg "_law_rows_by" 3 (fun xs σ Q X => ∃ a b n, xs = [.int a, .int b, .int n] ∧ (0 ≤ n ∧ n ≤ 201) ∧ ∀ rows : List (Str × Int × Int), rows.length = n.toNat → (∀ r ∈ rows, RowOk r) → Q (.ref σ.length) (σ ++ [.list (rows.map rowV)])))
    (c_odd_name : CF prog w B mg "_law_odd_name" 1 (fun xs σ Q X => ∃ c, xs = [.int c] ∧ ∀ key : Key, keyLen key → keyB key = decide (3 < c % 6) → Q key.v σ))
    (c_odd_share : CF prog w B mg "_law_odd_share" 1 (fun xs σ Q X => ∃ c, xs = [.int c] ∧ (∀ x, BadV x → Q x σ) ∧ (∀ far : Int, Q (.ref σ.length) (σ ++ [.list [.int far, .int 1]]))))
    (c_truth : CF prog w B mg "_law_truth" 1 (fun xs σ Q X => ∃ a b, xs = [.bool a, .bool b] ∧ Q (.bool (a == b)) σ))
    (c_is_page : CF prog w B mg "is_page" 3 (fun xs σ Q X => (∃ k es e, xs = [.ref k] ∧ σ[k]? = some (.dict es e) ∧ es.length ≤ 100000 ∧ (∀ p ∈ es, keyLen p.1 ∧ ShareR σ p.2) ∧ Q (.bool (pageB es)) σ) ∨ (∃ x, xs = [x] ∧ NonDict σ x ∧ Q (.bool false) σ)))
    {A : Around} (hA : AOk 10 A) (pm code doc : Value) (L a₀ : Addr) (σ : List AObj) (hσ : σ = []) :
    WX prog w B A (callEnvC (docDef (dr pw_uf050040_04 17).name (dr pw_uf050040_04 17).params (dr pw_uf050040_04 17).body (dr pw_uf050040_04 17).scope pm code doc) L a₀) (dr pw_uf050040_04 17).body [("_law_script", .raw (.ref scr))] σ (fun fl _ _ => retV fl = .bool true) (fun _ _ _ _ => False) := by
  change WX _ _ _ _ _ (_ :: _) _ _ _ _

  repeat walk_at "m"
  refine X_ifj (ι := Int) (fun n => 0 ≤ n ∧ n ≤ 201) (fun n => [("_law_size", .int n), ("_law_script", .raw (.ref scr))]) (fun _ => σ) ?_ ?_
  · repeat walk_at "m"
    refine iteD (fun h => ?_) (fun h => ?_)
    · repeat walk_at "m"
      exact J_next (198 + cellAt nums 0 / 30 % 4) (by omega) rfl (by walk_at "sub")
    · repeat walk_at "m"
      exact J_next (cellAt nums 0 % 5) (by omega) rfl (by walk_at "sub")
  rintro n hn
  repeat walk_at "m"
  intro rows hrl hrok
  repeat walk_at "m"
  rw [rows_map]
  have hR := fun τ => (rows_ok hrok τ).1
  have hall := (rows_ok hrok []).2
  have hlen : ((rows.map toRow).length : Int) = n := by rw [List.length_map]; omega
  generalize rows.map toRow = rk at hR hall hlen
  refine X_ifj (ι := List (Key × V) × List AObj × Bool) (fun i => (i.1.length : Int) = n ∧ RowsR (σ ++ [.list (i.1.map rowT)] ++ i.2.1) i.1 ∧ i.2.2 = (decide (n < 201) && i.1.all rowB)) (fun i => [("_law_good", .bool i.2.2), ("_law_rows", .ref σ.length), ("_law_script", .raw (.ref scr))]) (fun i => σ ++ [.list (i.1.map rowT)] ++ i.2.1) ?_ ?_
  · repeat walk_at "m"
    refine iteD (fun h => ?_) (fun h => ?_)
    · repeat walk_at "m"
      refine iteD (fun h2 => ?_) (fun h2 => ?_)
      · repeat walk_at "m"
        have hm := Int.emod_lt_of_pos (cellAt nums 3 / 4) h
        have hm0 := Int.emod_nonneg (cellAt nums 3 / 4) (Int.ne_of_gt h)
        have hi : (cellAt nums 3 / 4 % n).toNat < rk.length := by omega
        have hRi := fun τ => hR τ _ (List.getElem_mem hi)
        refine X_ifs ?_
        repeat walk_at "m"
        refine iteD (fun h3 => ?_) (fun h3 => ?_)
        · repeat walk_at "m"
          intro key hkl hkb
          repeat walk_at "m"
          refine S_list at_end hm0 (by rw [List.length_map]; omega) (by omega) ?_
          rw [getD_map _ _ _ hi]
          repeat walk_at "m"
          change WSub _ _ _ _ _ _ (.tup [_, _]) _ _ _ _
          repeat walk_at "m"
          refine P_list at_end hm0 (by rw [List.length_map]; omega) (by omega) ?_
          rw [set_end]
          repeat walk_at "m"
          have e : (rk.map rowT).set (cellAt nums 3 / 4 % n).toNat (.tup [key.v, rk[(cellAt nums 3 / 4 % n).toNat].2]) = (rk.set (cellAt nums 3 / 4 % n).toNat (key, rk[(cellAt nums 3 / 4 % n).toNat].2)).map rowT := by simp [List.map_set, rowT]
          rw [e]
          have hrow : rowB (key, rk[(cellAt nums 3 / 4 % n).toNat].2) = decide (3 < cellAt nums 4 % 6) := by
            have := List.all_eq_true.mp hall _ (List.getElem_mem hi)
            simp only [rowB, Bool.and_eq_true] at this
            simp only [rowB, hkb, this.2, Bool.and_true]
          refine E_as (.bool (decide (n < 201) && decide (3 < cellAt nums 4 % 6))) ?_ ?_
          · refine E_boolop ?_
            repeat walk_at "m"
            refine iteD (fun h4 => ?_) (fun h4 => ?_)
            · repeat walk_at "m"
              exact ⟨by simp [h4], rfl⟩
            · exact ⟨by simp [h4], rfl⟩
          repeat walk_at "m"
          exact J_next (rk.set (cellAt nums 3 / 4 % n).toNat (key, rk[(cellAt nums 3 / 4 % n).toNat].2), [], decide (n < 201) && decide (3 < cellAt nums 4 % 6)) ⟨by simpa using hlen, rowsR_set (hR _) ⟨hkl, (hRi _).2⟩, by dsimp only; rw [all_set hall hi, hrow]⟩ (by simp) (by walk_at "sub")
        · repeat walk_at "m"
          refine S_list at_end hm0 (by rw [List.length_map]; omega) (by omega) ?_
          rw [getD_map _ _ _ hi]
          repeat walk_at "m"
          change WSub _ _ _ _ _ _ (.tup [_, _]) _ _ _ _
          repeat walk_at "m"
          have hrow : ∀ x, shareB x = false → V.bool false = V.bool (decide (n < 201) && (rk.set (cellAt nums 3 / 4 % n).toNat (rk[(cellAt nums 3 / 4 % n).toNat].1, x)).all rowB) := fun x hx => by
            rw [all_set hall hi]; simp [rowB, hx]
          have e : ∀ x, (rk.map rowT).set (cellAt nums 3 / 4 % n).toNat (.tup [rk[(cellAt nums 3 / 4 % n).toNat].1.v, x]) = (rk.set (cellAt nums 3 / 4 % n).toNat (rk[(cellAt nums 3 / 4 % n).toNat].1, x)).map rowT := fun x => by simp [List.map_set, rowT]
          refine ⟨fun x hx => ?_, fun far => ?_⟩
          · repeat walk_at "m"
            refine P_list at_end hm0 (by rw [List.length_map]; omega) (by omega) ?_
            rw [set_end, e]
            repeat walk_at "m"
            exact J_next (rk.set (cellAt nums 3 / 4 % n).toNat (rk[(cellAt nums 3 / 4 % n).toNat].1, x), [], false) ⟨by simpa using hlen, rowsR_set (hR _) ⟨(hRi []).1, (hx.shareR _).1, hx.dat _⟩, by have := hrow x (hx.shareR []).2; injection this⟩ (by simp) (by walk_at "sub")
          · repeat walk_at "m"
            refine P_list at_prev hm0 (by rw [List.length_map]; omega) (by omega) ?_
            rw [set_prev, e]
            repeat walk_at "m"
            refine J_next (rk.set (cellAt nums 3 / 4 % n).toNat (rk[(cellAt nums 3 / 4 % n).toNat].1, .ref (σ ++ [AObj.list (rk.map rowT)]).length), [.list [.int far, .int 1]], false) ⟨by simpa using hlen, rowsR_set (hR _) ⟨(hRi []).1, ?_, ?_⟩, by have := hrow (.ref (σ ++ [AObj.list (rk.map rowT)]).length) rfl; injection this⟩ rfl (by walk_at "sub")
            · exact .non _ ⟨_, .list (xs := [.int far, .int 1]) (by simp), isi_list_tuple⟩
            · exact ⟨.list [.int far, .int 1], .list (xs := [.int far, .int 1]) (by simp) (.cons (.int _) (.cons (.int _) .nil)), rfl, by simp [PyData.depth, PyData.depthAll], by simp [PyData.eqv, PyData.eqvAll]⟩
      · repeat walk_at "m"
        exact J_next (rk, [], decide (n < 201)) ⟨hlen, hR _, by rw [hall, Bool.and_true]⟩ (by simp) (by walk_at "sub")
    · repeat walk_at "m"
      exact J_next (rk, [], decide (n < 201)) ⟨hlen, hR _, by rw [hall, Bool.and_true]⟩ (by simp) (by walk_at "sub")
  clear hR hall hlen rk hrok hrl rows
  rintro ⟨rk, more, good⟩ ⟨hlen, hR, hgood⟩
  dsimp only at hlen hR hgood ⊢
  generalize hτ : σ ++ [AObj.list (rk.map rowT)] ++ more = τ at *
  have hrows : τ[σ.length]? = some (.list (rk.map rowT)) := by subst hτ; rw [List.append_assoc, List.getElem?_append_right (Nat.le_refl _)]; simp
  have hrl : rk.length ≤ 201 := by omega
  clear hτ
  repeat walk_at "m"
  refine X_fors ?_
  repeat walk_at "m"
  have up : ∀ ob, (τ ++ [ob])[σ.length]? = some (.list (rk.map rowT)) := fun ob => by rw [List.getElem?_append_left (List.getElem?_eq_some_iff.mp hrows).1]; exact hrows
  refine ForG.mk (ι := List (Key × V)) (fun i es => (es = rk.take i ∨ es.length < i) ∧ es.length ≤ i) (fun _ _ => [("_law_page", .ref τ.length), ("_law_good", .bool good), ("_law_rows", .ref σ.length)]) (fun _ es => τ ++ [.dict es none]) (It_list hA.handled (up _)) [] ⟨.inl rfl, Nat.le_refl _⟩ rfl (up _) (by walk_at "sub") ?_ ?_
  · rintro i es hi ⟨hD, hle⟩ -
    rw [List.length_map] at hi
    rw [getD_map _ _ _ hi]
    repeat walk_at "m"
    change WSub _ _ _ _ _ _ (.tup [_, _]) _ _ _ _
    repeat walk_at "m"
    change WSub _ _ _ _ _ _ (.tup [_, _]) _ _ _ _
    repeat walk_at "m"
    refine P_dict at_end (small_size (by omega)) ?_
    rw [set_end]
    repeat walk_at "m"
    refine TJ_next (put es rk[i].1 rk[i].2) ?_ rfl (up _) (by walk_at "sub")
    unfold put
    split
    · refine ⟨.inr ?_, ?_⟩ <;> rw [List.length_map] <;> omega
    · rename_i hno
      refine ⟨?_, by simp; omega⟩
      rcases hD with rfl | hlt
      · left; rw [List.take_add_one, List.getElem?_eq_getElem hi]; rfl
      · right; simp; omega
  rintro es ⟨hD, hle⟩ -
  rw [List.length_map] at hD hle
  refine X_ifs ?_
  repeat walk_at "m"
  refine C_len_dict at_end (by omega) ?_
  repeat walk_at "m"
  refine C_len_list (up _) (by rw [List.length_map]; omega) ?_
  rw [List.length_map]
  repeat walk_at "m"
  refine iteD (fun h => ?_) (fun h => ?_)
  · repeat walk_at "m"
    rfl
  have hes : es = rk := by
    rcases hD with h' | h'
    · rw [h', List.take_length]
    · omega
  subst hes
  repeat walk_at "m"
  refine C_dict_copy at_end (small_size (by omega)) ?_
  repeat walk_at "m"
  refine X_keys at_end fun hnd => ?_
  refine X_ifs ?_
  repeat walk_at "m"
  have hR1 : RowsR (τ ++ [.dict es none] ++ [.dict es none]) es := (hR.append _).append _
  refine .inl ⟨_, _, _, rfl, at_end, by omega, fun p hp => ⟨(hR1 p hp).1, (hR1 p hp).2.1⟩, ?_⟩
  repeat walk_at "m"
  have hpg : pageB es = good := by
    rw [hgood]; unfold pageB rowB
    congr 1
    rw [← hlen]; congr 1
    apply propext; constructor <;> intro h' <;> omega
  rw [hpg]
  refine iteNo (by simp) ?_
  repeat walk_at "m"
  refine O_ne_dict (veq := fun _ _ => true) at_end at_prev (fun p hp y hy => ?_) (by have := hA.units; show _ < 9900; omega) ?_
  · obtain ⟨d, h1, h2, h3, h4⟩ := (hR1 p hp).2.2
    obtain ⟨i, hi, rfl⟩ := List.mem_iff_getElem.mp hp
    rw [at_get hnd hi] at hy; cases hy
    exact ⟨d, d, h1, h1, h2, h2, h3, h4⟩
  have hsame : sameB (fun _ _ => true) es es = true := by
    unfold sameB
    rw [List.all_eq_true]
    intro p hp
    obtain ⟨i, hi, rfl⟩ := List.mem_iff_getElem.mp hp
    rw [at_get hnd hi]
  rw [hsame]
  repeat walk_at "m"
  refine iteNo (by simp) ?_
  repeat walk_at "m"
  refine .inl ⟨_, [], none, rfl, at_end, by decide, fun p hp => (by cases hp), ?_⟩
  repeat walk_at "m"
  repeat walk_at "m"
  refine E_boolop ?_
  repeat walk_at "m"
  have up3 : (τ ++ [AObj.dict es none] ++ [AObj.dict es none] ++ [AObj.dict [] none])[σ.length]? = some (.list (es.map rowT)) := by
    rw [List.append_assoc, List.append_assoc, List.getElem?_append_left (List.getElem?_eq_some_iff.mp hrows).1]; exact hrows
  refine .inr ⟨_, rfl, ⟨_, .list up3, isi_list_dict⟩, ?_⟩
  repeat walk_at "m"
  refine .inr ⟨_, rfl, ⟨_, .str _, isi_str_dict⟩, ?_⟩
  repeat walk_at "m"
  refine .inr ⟨_, rfl, ⟨_, .none, isi_NoneType_dict⟩, ?_⟩
  repeat walk_at "m"
  refine C_len_list up3 (by rw [List.length_map]; omega) ?_
  repeat walk_at "m"
  refine .inr ⟨_, rfl, ⟨_, .int _, isi_int_dict⟩, ?_⟩
  repeat walk_at "m"
  rfl

end
end Mine

open PySem PySem.W PyProof.Rows PySem.Challenge
open Mine
set_option maxRecDepth 100000 in
set_option maxHeartbeats 8000000 in
theorem PySem.Challenge.cw_uf050040_04_holds : PySem.Challenge.rw_uf050040_04.Holds := by
  w_on
  o_law
  k_head
  (case hw => w_witness2)
  w_strict (
  k_fill
  intro w s₀ s₁ mg mb G Y fa o pm cd doc dV kV ho hd hcd hD hmg hg args vals as hpre hlay hrd hwl hlo
  refine Ground.open G ?_
  intro T B D TE TW
  try (refine guard_noD D (by decide +kernel) ?_; clear D)
  wrow_args hpre hlay hrd hwl hlo
  all_goals (first | refine enter_call ?_ | refine enter_callW ?_)
  clear hD hd hcd
  have bl : Blt s₁ mg mb := blt_of T (by decide +kernel)
  have gl : Gl s₁ mg mb := ⟨T.g, T.b, T.nolimit⟩
  rename_i hL _ _ _ hI _ hn _
  have S := Scr.mk ⟨_, hL, by simpa using hI⟩ (by omega)
  have g_L : GC s₁ mg "LETTERS" (.str letters) := gc_str T (by kernel_rfl!)
  have g_M : GC s₁ mg "MOST_NAMES" (.int 200) := gc_int T (by kernel_rfl!)
  have f_is_name := has_of T (dr Challenge.pw_uf050040_04 2) (i := 0) (by kernel_rfl)
  have f_is_part := has_of T (dr Challenge.pw_uf050040_04 5) (i := 1) (by kernel_rfl)
  have f_is_share := has_of T (dr Challenge.pw_uf050040_04 6) (i := 2) (by kernel_rfl)
  have f_is_page := has_of T (dr Challenge.pw_uf050040_04 7) (i := 3) (by kernel_rfl)
  have f_cell_at := has_of T (dr Challenge.pw_uf050040_04 9) (i := 4) (by kernel_rfl)
  have f_number_by := has_of T (dr Challenge.pw_uf050040_04 10) (i := 5) (by kernel_rfl)
  have f_name_by := has_of T (dr Challenge.pw_uf050040_04 11) (i := 6) (by kernel_rfl)
  have f_mixed := has_of T (dr Challenge.pw_uf050040_04 12) (i := 7) (by kernel_rfl)
  have f_truth := has_of T (dr Challenge.pw_uf050040_04 13) (i := 8) (by kernel_rfl)
  have f_rows_by := has_of T (dr Challenge.pw_uf050040_04 14) (i := 9) (by kernel_rfl)
  have f_odd_name := has_of T (dr Challenge.pw_uf050040_04 15) (i := 10) (by kernel_rfl)
  have f_odd_share := has_of T (dr Challenge.pw_uf050040_04 16) (i := 11) (by kernel_rfl)
  have f_law := has_of T (dr Challenge.pw_uf050040_04 17) (i := 12) (by kernel_rfl)
  have c_is_name := cf_is_name (prog := rw_uf050040_04.row.prog) (w := w) gl bl S f_is_name g_L 
  have c_is_part := cf_is_part (prog := rw_uf050040_04.row.prog) (w := w) gl bl S f_is_part  
  have c_is_share := cf_is_share (prog := rw_uf050040_04.row.prog) (w := w) gl bl S f_is_share  c_is_part
  have c_is_page := cf_is_page (prog := rw_uf050040_04.row.prog) (w := w) gl bl S f_is_page g_M c_is_name c_is_share
  have c_cell_at := cf_cell_at (prog := rw_uf050040_04.row.prog) (w := w) gl bl S f_cell_at  
  have c_number_by := cf_number_by (prog := rw_uf050040_04.row.prog) (w := w) gl bl S f_number_by  
  have c_name_by := cf_name_by (prog := rw_uf050040_04.row.prog) (w := w) gl bl S f_name_by  
  have c_mixed := cf_mixed (prog := rw_uf050040_04.row.prog) (w := w) gl bl S f_mixed  
  have c_truth := cf_truth (prog := rw_uf050040_04.row.prog) (w := w) gl bl S f_truth  
  have c_rows_by := cf_rows_by (prog := rw_uf050040_04.row.prog) (w := w) gl bl S f_rows_by  c_number_by c_mixed c_name_by
  have c_odd_name := cf_odd_name (prog := rw_uf050040_04.row.prog) (w := w) gl bl S f_odd_name  
  have c_odd_share := cf_odd_share (prog := rw_uf050040_04.row.prog) (w := w) gl bl S f_odd_share  
  refine law_end T f_law hmg good_law hg (fun _ => rfl) (fun _ => .bool _) (by first | rfl | kernel_rfl) fun A pm code doc L a hA => ?_
  exact law_ok bl S  c_cell_at c_rows_by c_odd_name c_odd_share c_truth c_is_page (hA.le (by decide)) pm code doc L a _ rfl)
