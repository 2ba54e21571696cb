import PyProof.Rows.All
import Wide.All
import Wide.FinOn
import Open.Line
import OpenK.KWalk
import OpenK.KMake
import KE.KDictOf
import PyProof.NeData
import PyProof.SetRoads
import PyProof.DictKinds
import PyProof.Rows.SetFrom
import PyProof.StrBlockH
import PyProof.CollectWalk
import PyProof.CollectIter
import PyProof.EqAt
import PyProof.ListNew
import PyProof.ListRange
import PyProof.Rows.SortStr
import PyProof.Rows.SortShellK
import PyProof.Rows.SortRuns
import PyProof.Rows.SortInsK
import PyProof.EnumMake
import PyProof.DictWalks
import PyProof.SumAny
import PySem.Challenge.RW_uf050040_05
set_option Elab.async false
set_option autoImplicit false
set_option linter.unusedVariables false
set_option maxRecDepth 100000
namespace Mine
open PySem

/-! sets of texts -/
def unS : Value → Str
  | .str x _ => x
  | _ => ⟨#[]⟩
def byText (w : World) : Bool := w.params.followText "set-order"
/-- the elements and the table of a set of texts -/
structure SetIn (w : World) (es : Array (Int × Value)) (t : SetTable) (ss : List Str) : Prop where
  txts : ∀ e ∈ es.toList, ∃ x k, e = (hashStr w x, Value.str x k)
  perm : (es.toList.map fun e => unS e.2).Perm ss
  small : es.size < scanBound
  fits : t.fits es.size = true
  led : t.led = !byText w
  plain : es.size = 0 ∨ t.plain = false
def SetS (w : World) (h : Heap) (a : Addr) (ss : List Str) : Prop :=
  ∃ o es ep t, h.get? a = some o ∧ o.ExactSet ∧ o.data = .set es ep t ∧ SetIn w es t ss
theorem SetS.at {w : World} {h h' : Heap} {a : Addr} {ss : List Str} (x : SetS w h a ss) (e : ∀ o, h.get? a = some o → h'.get? a = some o) : SetS w h' a ss :=
  let ⟨o, es, ep, t, ho, r⟩ := x; ⟨o, es, ep, t, e _ ho, r⟩
def addS (l : List Str) (x : Str) : List Str := if x ∈ l then l else l ++ [x]

theorem laid_led {mask finger moves : Nat} {led plain : Bool} {hs : Array Int} {t' : SetTable} {order : Array Nat} (h : SetTable.laid mask finger moves led plain hs = some (t', order)) : t'.led = led ∧ t'.plain = plain := by
  unfold SetTable.laid at h
  cases ho : SetTable.layClean mask hs with
  | none => rw [ho] at h; cases h
  | some owner => rw [ho] at h; injection h with h; injection h with h1 h2; rw [← h1]; exact ⟨rfl, rfl⟩
theorem relayAll_led (t : SetTable) (es : Array (Int × Value)) (n : Nat) : (relayAll t es n).2.1.led = t.led ∧ (t.plain = false → (relayAll t es n).2.1.plain = false) := by
  unfold relayAll
  split
  · rename_i t' order he
    have := laid_led he
    dsimp only
    split
    · exact ⟨this.1, fun h => this.2.trans h⟩
    · exact ⟨rfl, fun _ => rfl⟩
  · exact ⟨rfl, fun _ => rfl⟩
theorem layNew_led (t : SetTable) (es : Array (Int × Value)) (h : Int) (x : Value) : (layNew t es h x).2.1.led = t.led := by
  unfold layNew
  split
  · unfold SetTable.put SetTable.orStandIn
    dsimp only
    (repeat' split) <;> rfl
  · rfl

section
variable {prog : Program} {w : World} {A : Around} {E : Value → Shared → Prop} {s : Shared}

theorem SetIn.elems {es : Array (Int × Value)} {t : SetTable} {ss : List Str} (h : SetIn w es t ss) : ElemsOf (strKind prog w) es.toList := fun e he => by
  obtain ⟨x, k, rfl⟩ := h.txts e he
  exact ⟨⟨x, by simp [strKind, Value.isStrOf], rfl⟩, rfl⟩
theorem putSet_at {h : Heap} {a : Addr} {o : Obj} {es : Array (Int × Value)} {ep : Nat} {t : SetTable} (ho : h.get? a = some o) (hd : o.data = .set es ep t) (es' : Array (Int × Value)) (t' : SetTable) :
    (h.update a (Obj.putSet es' t')).get? a = some { o with data := .set es' (ep + 1) t' } := by
  have := Heap.get?_update_self (Obj.putSet es' t') ho (by rw [putSet_of es' t' hd]; rfl)
  rw [putSet_of es' t' hd] at this; exact this

theorem addTailS {g : Bool → Sem Unit} (hg : ∀ (b : Bool) (s₁ : Shared) (Q' : Unit → Shared → Prop), Q' () s₁ → wpAny (model prog w) A (g b) Q' E s₁)
    {a : Addr} {o : Obj} {es : Array (Int × Value)} {ep : Nat} {t : SetTable} (ho : s.heap.get? a = some o) (hex : o.ExactSet) (hd : o.data = .set es ep t)
    {es1 : Array (Int × Value)} {t2 : SetTable} {ss : List Str} (h1 : SetIn w es1 t2 ss) (hp2 : t2.plain = false) {wasDummy : Bool} {R : Option Bool → Shared → Prop}
    (h : ∀ h', Heap.SameBut a s.heap h' → SetS w h' a ss → R (some true) { s with heap := h' }) :
    wpAny (model prog w) A (do
        storeSet a es1 t2
        if (!wasDummy && t2.tooFull) = true then do
            g (relayAll t2 es1 (SetTable.grown es1.size)).2.2
            storeSet a (relayAll t2 es1 (SetTable.grown es1.size)).1 (relayAll t2 es1 (SetTable.grown es1.size)).2.1
            pure (some true)
          else pure (some true)) R E s := by
  refine wpAny_bind (wpAny_storeSet_of ho hd ?_ (fits_of_scanBound h1.small))
  have ho1 := putSet_at ho hd es1 t2
  have hsb1 := Heap.SameBut.update s.heap a (Obj.putSet es1 t2)
  split
  · have hp := relayAll_perm t2 es1 (SetTable.grown es1.size)
    have hfr := relayAll_fits t2 es1 (SetTable.grown es1.size)
    have hl := relayAll_led t2 es1 (SetTable.grown es1.size)
    generalize relayAll t2 es1 (SetTable.grown es1.size) = Rl at hp hfr hl ⊢
    obtain ⟨es2, t3, gave2⟩ := Rl
    dsimp only at hp hfr hl ⊢
    have hsz : es2.size = es1.size := by rw [← Array.length_toList, hp.length_eq, Array.length_toList]
    have h2 : SetIn w es2 t3 ss := ⟨fun e he => h1.txts e (hp.mem_iff.mp he), (hp.map _).trans h1.perm, by rw [hsz]; exact h1.small, hfr, hl.1.trans h1.led, .inr (hl.2 hp2)⟩
    refine wpAny_bind (hg _ _ _ (wpAny_bind (wpAny_storeSet_of ho1 rfl (wpAny_pure (h _ (hsb1.trans (Heap.SameBut.update _ a _)) ?_)) (fits_of_scanBound h2.small))))
    exact ⟨_, es2, _, t3, putSet_at ho1 rfl es2 t3, hex, rfl, h2⟩
  · exact wpAny_pure (h _ hsb1 ⟨_, es1, _, t2, ho1, hex, rfl, h1⟩)

theorem setAdd_S {a : Addr} {ss : List Str} {x : Str} {k : Tok} {Q : Bool → Shared → Prop} (hS : SetS w s.heap a ss) (hroom : ss.length + 1 < scanBound)
    (h : ∀ r h', Heap.SameBut a s.heap h' → SetS w h' a (addS ss x) → Q r { s with heap := h', toks := s.toks + 1 }) : wpAny (model prog w) A (setAdd a (.str x k)) Q E s := by
  obtain ⟨o, es, ep, t, ho, hex, hd, hin⟩ := hS
  have hkey : (strKind prog w).is x (.str x k) = true := by simp [strKind, Value.isStrOf]
  have hel := hin.elems (prog := prog)
  have hsz : es.size = ss.length := by rw [← hin.perm.length_eq, List.length_map, Array.length_toList]
  have hb1 : es.size + 1 < scanBound := by rw [hsz]; exact hroom
  unfold setAdd
  refine wpAny_holding (wpAny_bind ((strKind prog w).pyHash hkey ?_))
  unfold setAddHashed setAddHashedIn
  refine wpAny_holding (wpAny_bind (wpAny_setState_of (s := { s with toks := s.toks + 1 }) ho hd hin.fits ?_))
  dsimp only
  rw [byScan_of (x := .str x k) rfl hin.small hel]
  simp only [↓reduceIte]
  unfold setAddByScan
  refine wpAny_bind (wpAny_bind (wpAny_rule (wpAny_bind (wpAny_setScan_of (s := { s with toks := s.toks + 1 }) hkey ho hd hin.fits hel ?_))))
  have mem_iff : ∀ j (hj : j < es.toList.length), (strKind prog w).is x es.toList[j].2 = true → x ∈ ss := fun j hj hp => by
    obtain ⟨y, u, e⟩ := hin.txts _ (List.getElem_mem hj)
    rw [e] at hp
    obtain ⟨t', e'⟩ := Value.isStrOf_shape (show Value.isStrOf x (.str y u) = true from hp)
    injection e' with e1 e2
    subst e1
    exact hin.perm.mem_iff.mp (List.mem_map.mpr ⟨_, List.getElem_mem hj, by rw [e]; rfl⟩)
  cases hr : List.findIdx? (fun e => (strKind prog w).is x e.2) es.toList with
  | some j =>
    dsimp only
    obtain ⟨hj, hpj, _⟩ := List.findIdx?_eq_some_iff_getElem.mp hr
    have hx := mem_iff j hj hpj
    refine wpAny_pure (wpAny_pure (h _ s.heap (Heap.SameBut.refl a s.heap) ?_))
    unfold addS
    rw [if_pos hx]
    exact ⟨o, es, ep, t, ho, hex, hd, hin⟩
  | none =>
    dsimp only
    have hx : x ∉ ss := fun hm => by
      obtain ⟨e, he, hu⟩ := List.mem_map.mp (hin.perm.mem_iff.mpr hm)
      obtain ⟨y, u, rfl⟩ := hin.txts e he
      have hu' : y = x := hu
      subst hu'
      have := List.findIdx?_eq_none_iff.mp hr _ he
      simp [strKind, Value.isStrOf] at this
    have hperm := layNew_perm t es (hashStr w x) (.str x k)
    have hfits := layNew_fits t es (hashStr w x) (.str x k)
    have hled := layNew_led t es (hashStr w x) (.str x k)
    show wpAny (model prog w) A _ _ E _
    generalize hL : layNew t es ((strKind prog w).hash x) (.str x k) = L
    rw [show layNew t es (hashStr w x) (.str x k) = L from hL] at hperm hfits hled
    obtain ⟨es1, t1, wasDummy, gave⟩ := L
    dsimp only at hperm hfits hled ⊢
    rw [Array.toList_push] at hperm
    have hsz1 : es1.size = es.size + 1 := by rw [← Array.length_toList, hperm.length_eq, List.length_append, Array.length_toList]; rfl
    have hin1 : ∀ t2 : SetTable, t2.fits es1.size = true → t2.led = t1.led → t2.plain = false → SetIn w es1 t2 (addS ss x) := fun t2 f1 f2 f3 => by
      refine ⟨fun e he => ?_, ?_, by rw [hsz1]; exact hb1, f1, f2.trans (hled.trans hin.led), .inr f3⟩
      · rcases List.mem_append.mp (hperm.mem_iff.mp he) with he | he
        · exact hin.txts e he
        · rw [List.mem_singleton.mp he]; exact ⟨x, k, rfl⟩
      · unfold addS
        rw [if_neg hx]
        refine (hperm.map _).trans ?_
        rw [List.map_append]
        exact List.Perm.append_right _ hin.perm
    have hgw : ∀ (b : Bool) (s₁ : Shared) (Q' : Unit → Shared → Prop), Q' () s₁ → wpAny (model prog w) A (match b with | true => rule "set.scan.the-table-gave-way" | false => pure ()) Q' E s₁ :=
      fun b s₁ Q' hq => by cases b <;> first | exact wpAny_pure hq | exact wpAny_rule hq
    refine wpAny_bind (hgw _ _ _ ?_)
    have hend : ∀ h', Heap.SameBut a s.heap h' → SetS w h' a (addS ss x) → Q true { s with heap := h', toks := s.toks + 1 } := fun h' hsb hS' => h _ h' hsb hS'
    split
    · refine wpAny_bind ?_
      rw [hashByValue_scannable 8 (x := .str x k) rfl]
      refine wpAny_pure ?_
      refine addTailS (s := { s with toks := s.toks + 1 }) hgw ho hex hd (hin1 _ ?_ ?_ ?_) ?_ ?_
      · exact SetTable.fits_plain_off hfits
      · rfl
      · rfl
      · rfl
      · intro h' hsb hS'; dsimp only; exact wpAny_pure (hend h' hsb hS')
    · rename_i hpl
      refine wpAny_bind (wpAny_pure ?_)
      simp only [↓reduceIte]
      have hpl' : t1.plain = false := by simpa using hpl
      refine addTailS (s := { s with toks := s.toks + 1 }) hgw ho hex hd (hin1 _ hfits rfl hpl') hpl' ?_
      intro h' hsb hS'; dsimp only; exact wpAny_pure (hend h' hsb hS')
end

def firstS (val : Nat → Str) (i : Nat) : List Str := ((List.range i).map val).foldl addS []
theorem firstS_succ (val : Nat → Str) (i : Nat) : firstS val (i + 1) = addS (firstS val i) (val i) := by
  unfold firstS; rw [List.range_succ, List.map_append, List.foldl_append]; rfl
theorem addS_len (l : List Str) (x : Str) : (addS l x).length ≤ l.length + 1 := by unfold addS; split <;> simp
theorem firstS_len (val : Nat → Str) : ∀ i, (firstS val i).length ≤ i
  | 0 => Nat.le_refl _
  | i + 1 => by rw [firstS_succ]; exact Nat.le_trans (addS_len _ _) (Nat.succ_le_succ (firstS_len val i))

section
variable {prog : Program} {w : World} {A : Around} {R : Result → Shared → Prop} {I : Addr} {fp wr : List Addr} {G : Array GenState → Array GenState → Prop} {n : Nat} {P : Nat → Value → Prop} {St : Nat → Shared → Prop}
theorem set_update_S (W : WalksS prog w A.in1 I fp wr G n P St) (S : Addr) (hSf : S ∉ fp) (val : Nat → Str) (hval : ∀ i v, P i v → ∃ t, v = .str (val i) t) (hb : n + 1 < scanBound) :
    ∀ (k i : Nat) (s : Shared), n - i = k → i ≤ n → St i s → SetS w s.heap S (firstS val i) →
      (∀ s', Moved (S :: wr) G s s' → SetS w s'.heap S (firstS val n) → R (.ok (.ret .none)) s') →
      codeAny (model prog w) A (.builtin "set.update.loop" ⟨[.ref S, .ref I], []⟩) R s := by
  have hSw : S ∉ wr := fun h => hSf (W.sub _ h)
  have hsub : ∀ b ∈ wr, b ∈ S :: wr := fun b hb => List.mem_cons_of_mem _ hb
  intro k
  induction k with
  | zero =>
    intro i s hk hi hst hS hR
    have hin : i = n := by omega
    subst hin
    refine codeAny_builtin PyProof.Rows.F.entry_set_update_loop ?_
    rw [Around.under_plainId PyProof.Rows.F.plain_set_update_loop _]
    show wpAny _ A.in1 (pyNext (.ref I) >>= _) _ _ s
    refine wpAny_bind (W.done s _ _ hst fun s' hm => ?_)
    show wpAny _ A.in1 (ret Value.none) _ _ s'
    exact wpAny_pure (hR s' (hm.mono hsub) (hS.at fun o e => hm.heap S _ hSw e))
  | succ k ih =>
    intro i s hk hi hst hS hR
    have hlt : i < n := by omega
    refine codeAny_builtin PyProof.Rows.F.entry_set_update_loop ?_
    rw [Around.under_plainId PyProof.Rows.F.plain_set_update_loop _]
    show wpAny _ A.in1 (pyNext (.ref I) >>= _) _ _ s
    refine wpAny_bind (W.item i s _ _ hlt hst fun v s' hP hst' hm => ?_)
    obtain ⟨t, rfl⟩ := hval i v hP
    have hS' : SetS w s'.heap S (firstS val i) := hS.at fun o e => hm.heap S _ hSw e
    show wpAny _ A.in1 (holding [Value.str (val i) t] (setAdd S (.str (val i) t)) >>= _) _ _ s'
    refine wpAny_bind (wpAny_holding ?_)
    refine setAdd_S hS' (by have := firstS_len val i; omega) fun r h' hsb hS2 => ?_
    rw [← firstS_succ] at hS2
    refine wpAny_pure ⟨plainId_quiet PyProof.Rows.F.plain_set_update_loop _, ih (i + 1) _ (by omega) hlt (W.frame _ s' _ _ hst' (Nat.le_succ _) fun b hb o e => ?_) hS2 fun s'' hm'' hS'' => ?_⟩
    · rw [hsb.2 b (fun h : b = S => hSf (by rw [← h]; exact hb))]; exact e
    · refine hR s'' (Moved.trans W.gtrans ((hm.mono hsub).then_heap (Nat.le_succ _) fun b o hb e => ?_) hm'') hS''
      rw [hsb.2 b (fun h : b = S => hb (by rw [h]; exact List.mem_cons_self))]; exact e
end
end Mine

set_option autoImplicit false
set_option linter.unusedVariables false
namespace Mine
open PySem PySem.Calls PyProof.Rows

/-- abstract values -/
inductive V where
  | none
  | bool (b : Bool)
  | int (i : Int)
  | str (s : Str)
  | tup (xs : List V)
  | ref (k : Nat)
  | raw (v : Value)
  | exc (C : Addr)
  | rng (a b c : Int)

/-- keys of dicts -/
inductive Key where
  | s (x : Str)
  | i (n : Int)
  deriving DecidableEq

/-- abstract objects -/
inductive AObj where
  | list (xs : List V)
  | dict (es : List (Key × V)) (ep : Option Nat)
  | inst (C : Addr) (k : Nat)
  | ns (as : List (Str × V))
  | set (ss : List Str)

mutual
def Val (φ : List Addr) (h : Heap) : V → Value → Prop
  | .none, v => v = .none
  | .bool b, v => v = .bool b
  | .int i, v => ∃ t, v = .int i t
  | .str s, v => ∃ t, v = .str s t
  | .tup xs, v => ∃ a vs, v = .ref a ∧ IsTup h a vs ∧ Vals φ h xs vs.toList
  | .ref k, v => ∃ a, v = .ref a ∧ φ[k]? = some a
  | .raw u, v => v = u
  | .exc C, v => ∃ a o vs, v = .ref a ∧ h.get? a = some o ∧ o.cls = .ref C ∧ o.data = .fields vs
  | .rng a b c, v => ∃ r t u k, v = .ref r ∧ h.get? r = some { cls := .type "range", data := .fields #[.int a t, .int b u, .int c k] }
def Vals (φ : List Addr) (h : Heap) : List V → List Value → Prop
  | [], vs => vs = []
  | x :: xs, vs => ∃ v r, vs = v :: r ∧ Val φ h x v ∧ Vals φ h xs r
end

/-- objects that never change but in their slots -/
def Still (o : Obj) : Prop := (o.cls = .type "tuple" ∧ ∃ vs n, o.data = .seq vs n) ∨ (∃ C vs, o.cls = .ref C ∧ o.data = .fields vs) ∨ (o.cls = .type "range" ∧ ∃ vs, o.data = .fields vs)

mutual
theorem Val.mono {φ φ' : List Addr} {h h' : Heap} (hp : φ <+: φ')
    (hk : ∀ a o, h.get? a = some o → Still o → h'.get? a = some o) :
    ∀ (x : V) {v : Value}, Val φ h x v → Val φ' h' x v
  | .none, _, e => by simpa [Val] using e
  | .bool _, _, e => by simpa [Val] using e
  | .int _, _, e => by simpa [Val] using e
  | .str _, _, e => by simpa [Val] using e
  | .tup xs, v, e => by
    rw [Val] at e ⊢
    obtain ⟨a, vs, rfl, ⟨o, ho, hc, n, hd⟩, hv⟩ := e
    exact ⟨a, vs, rfl, ⟨o, hk a o ho (.inl ⟨hc, vs, n, hd⟩), hc, n, hd⟩, Vals.mono hp hk xs hv⟩
  | .ref k, _, e => by
    rw [Val] at e ⊢
    obtain ⟨a, rfl, ha⟩ := e
    refine ⟨a, rfl, ?_⟩
    obtain ⟨r, rfl⟩ := hp
    rw [List.getElem?_append_left (List.getElem?_eq_some_iff.mp ha).1]; exact ha
  | .raw _, _, e => by simpa [Val] using e
  | .exc C, _, e => by
    rw [Val] at e ⊢
    obtain ⟨a, o, vs, rfl, ho, hc, hd⟩ := e
    exact ⟨a, o, vs, rfl, hk a o ho (.inr (.inl ⟨C, vs, hc, hd⟩)), hc, hd⟩
  | .rng a b c, _, e => by
    rw [Val] at e ⊢
    obtain ⟨r, t, u, k, rfl, ho⟩ := e
    exact ⟨r, t, u, k, rfl, hk r _ ho (.inr (.inr ⟨rfl, _, rfl⟩))⟩
theorem Vals.mono {φ φ' : List Addr} {h h' : Heap} (hp : φ <+: φ')
    (hk : ∀ a o, h.get? a = some o → Still o → h'.get? a = some o) :
    ∀ (xs : List V) {vs : List Value}, Vals φ h xs vs → Vals φ' h' xs vs
  | [], _, e => by simpa [Vals] using e
  | x :: xs, _, e => by
    rw [Vals] at e ⊢
    obtain ⟨v, r, rfl, h1, h2⟩ := e
    exact ⟨v, r, rfl, Val.mono hp hk x h1, Vals.mono hp hk xs h2⟩
end

theorem Vals.length {φ : List Addr} {h : Heap} : ∀ {xs : List V} {vs : List Value}, Vals φ h xs vs → vs.length = xs.length
  | [], _, e => by rw [Vals] at e; subst e; rfl
  | _ :: _, _, e => by
    rw [Vals] at e
    obtain ⟨v, r, rfl, _, h2⟩ := e
    simp [Vals.length h2]

theorem Vals.nil {φ : List Addr} {h : Heap} : Vals φ h [] [] := by rw [Vals]
theorem Vals.cons {φ : List Addr} {h : Heap} {x : V} {xs : List V} {v : Value} {vs : List Value} (h1 : Val φ h x v) (h2 : Vals φ h xs vs) : Vals φ h (x :: xs) (v :: vs) := by
  rw [Vals]; exact ⟨v, vs, rfl, h1, h2⟩

theorem Vals.get {φ : List Addr} {h : Heap} : ∀ {xs : List V} {vs : List Value}, Vals φ h xs vs → ∀ {i : Nat} {x : V}, xs[i]? = some x → ∃ v, vs[i]? = some v ∧ Val φ h x v
  | [], _, _, i, x, hx => by simp at hx
  | y :: ys, _, e, i, x, hx => by
    rw [Vals] at e
    obtain ⟨v, r, rfl, h1, h2⟩ := e
    cases i with
    | zero => simp at hx; subst hx; exact ⟨v, rfl, h1⟩
    | succ i => simpa using Vals.get h2 (by simpa using hx)

theorem Vals.append {φ : List Addr} {h : Heap} : ∀ {xs ys : List V} {vs ws : List Value}, Vals φ h xs vs → Vals φ h ys ws → Vals φ h (xs ++ ys) (vs ++ ws)
  | [], _, _, _, e, f => by rw [Vals] at e; subst e; exact f
  | x :: xs, _, _, _, e, f => by
    rw [Vals] at e
    obtain ⟨v, r, rfl, h1, h2⟩ := e
    exact .cons h1 (Vals.append h2 f)

section kk
variable (prog : Program) (w : World)

theorem eqBool_str_int {A : Around} {E : Value → Shared → Prop} {s : Shared} {x : Str} {n : Int} {t u : Tok} {Q : Bool → Shared → Prop} (h : Q false s) :
    wpAny (model prog w) A (PySem.eqBool (.str x t) (.int n u)) Q E s := by
  unfold PySem.eqBool
  refine wpAny_holding ?_
  rw [if_neg (show ¬ ((Value.str x t == Value.int n u) = true) from Bool.false_ne_true)]
  show wpAny _ _ (richCompare .Eq _ _ >>= fun r => truthOfDropped r) Q E s
  exact wpAny_bind (show wpAny _ _ (compareOp .Eq _ _) _ _ _ from EqMixed.eq_str_int (wpAny_truthy_bool h))
theorem eqBool_int_str {A : Around} {E : Value → Shared → Prop} {s : Shared} {x : Str} {n : Int} {t u : Tok} {Q : Bool → Shared → Prop} (h : Q false s) :
    wpAny (model prog w) A (PySem.eqBool (.int n u) (.str x t)) Q E s := by
  unfold PySem.eqBool
  refine wpAny_holding ?_
  rw [if_neg (show ¬ ((Value.int n u == Value.str x t) = true) from Bool.false_ne_true)]
  show wpAny _ _ (richCompare .Eq _ _ >>= fun r => truthOfDropped r) Q E s
  exact wpAny_bind (show wpAny _ _ (compareOp .Eq _ _) _ _ _ from EqMixed.eq_int_str (wpAny_truthy_bool h))

def Key.is : Key → Value → Bool
  | .s x, v => Value.isStrOf x v
  | .i n, v => Value.isInt n v
def Key.hash (w : World) : Key → Int
  | .s x => hashStr w x
  | .i n => hashInt n
theorem Key.is_shape {k : Key} {v : Value} (h : k.is v = true) : (∃ x t, k = .s x ∧ v = .str x t) ∨ ∃ n t, k = .i n ∧ v = .int n t := by
  cases k with
  | s x => obtain ⟨t, rfl⟩ := Value.isStrOf_shape h; exact .inl ⟨x, t, rfl, rfl⟩
  | i n => obtain ⟨t, rfl⟩ := Value.isInt_shape h; exact .inr ⟨n, t, rfl, rfl⟩

def kk : KeyKind prog w Key where
  is := Key.is
  hash := Key.hash w
  inj := fun v a b ha hb => by
    rcases Key.is_shape ha with ⟨x, t, rfl, rfl⟩ | ⟨x, t, rfl, rfl⟩ <;> rcases Key.is_shape hb with ⟨y, u, rfl, e⟩ | ⟨y, u, rfl, e⟩ <;> cases e <;> rfl
  byValue := fun k v h => by rcases Key.is_shape h with ⟨x, t, rfl, rfl⟩ | ⟨x, t, rfl, rfl⟩ <;> rfl
  pyHash := fun hv h => by
    rcases Key.is_shape hv with ⟨x, t, rfl, rfl⟩ | ⟨x, t, rfl, rfl⟩
    · exact wpAny_pyHash_str h
    · exact wpAny_pyHash_int h
  eqBool := fun {A E s a b u v Q} hu hv h => by
    rcases Key.is_shape hu with ⟨x, t, rfl, rfl⟩ | ⟨x, t, rfl, rfl⟩ <;> rcases Key.is_shape hv with ⟨y, u, rfl, rfl⟩ | ⟨y, u, rfl, rfl⟩
    · refine wpAny_eqBool_str ?_
      have : decide (Key.s x = Key.s y) = decide (x = y) := by simp
      rwa [this] at h
    · refine eqBool_str_int prog w ?_
      simpa using h
    · refine eqBool_int_str prog w ?_
      simpa using h
    · refine wpAny_eqBool_int ?_
      have : decide (Key.i x = Key.i y) = (x == y) := by simp; rfl
      rwa [this] at h
  «strs» := fun k x t v h => by
    rcases Key.is_shape h with ⟨y, u, rfl, e⟩ | ⟨y, u, rfl, e⟩
    · cases e; cases v <;> rfl
    · cases e
end kk

def Key.v : Key → V
  | .s x => .str x
  | .i n => .int n

/-- the entries of a dict -/
inductive Ents (φ : List Addr) (h : Heap) : List (Key × V) → List (Key × Value) → Prop
  | nil : Ents φ h [] []
  | cons {k : Key} {x : V} {v : Value} {es : List (Key × V)} {kvs : List (Key × Value)} : Val φ h x v → Ents φ h es kvs → Ents φ h ((k, x) :: es) ((k, v) :: kvs)

theorem Ents.mono {φ φ' : List Addr} {h h' : Heap} (hp : φ <+: φ')
    (hk : ∀ a o, h.get? a = some o → Still o → h'.get? a = some o) {es : List (Key × V)} {kvs : List (Key × Value)} (e : Ents φ h es kvs) : Ents φ' h' es kvs := by
  induction e with
  | nil => exact .nil
  | cons h1 _ ih => exact .cons (Val.mono hp hk _ h1) ih
theorem Ents.keys {φ : List Addr} {h : Heap} {es : List (Key × V)} {kvs : List (Key × Value)} (e : Ents φ h es kvs) : kvs.map (·.1) = es.map (·.1) := by
  induction e with
  | nil => rfl
  | cons _ _ ih => simp [ih]
theorem Ents.length {φ : List Addr} {h : Heap} {es : List (Key × V)} {kvs : List (Key × Value)} (e : Ents φ h es kvs) : kvs.length = es.length := by
  induction e with
  | nil => rfl
  | cons _ _ ih => simp [ih]

/-- what a dict says of a key -/
def at? (es : List (Key × V)) (k : Key) : Option V := (es.find? fun e => e.1 = k).map (·.2)
/-- a dict with a key put -/
def put (es : List (Key × V)) (k : Key) (x : V) : List (Key × V) :=
  if es.any (fun e => e.1 = k) then es.map (fun e => if e.1 = k then (e.1, x) else e) else es ++ [(k, x)]

theorem Ents.at? {φ : List Addr} {h : Heap} {es : List (Key × V)} {kvs : List (Key × Value)} (e : Ents φ h es kvs) (k : Key) :
    (∃ x v, at? es k = some x ∧ valueAt kvs k = some v ∧ Val φ h x v) ∨ (at? es k = none ∧ valueAt kvs k = none) := by
  induction e with
  | nil => exact .inr ⟨rfl, rfl⟩
  | @cons k' x v es kvs h1 _ ih =>
    by_cases hk : k' = k
    · subst hk; exact .inl ⟨x, v, by simp [Mine.at?], by simp [valueAt], h1⟩
    · simpa [Mine.at?, valueAt, hk] using ih
theorem Ents.append {φ : List Addr} {h : Heap} {es es' : List (Key × V)} {kvs kvs' : List (Key × Value)} (e : Ents φ h es kvs) (e' : Ents φ h es' kvs') : Ents φ h (es ++ es') (kvs ++ kvs') := by
  induction e with
  | nil => exact e'
  | cons h1 _ ih => exact .cons h1 ih
theorem Ents.any {φ : List Addr} {h : Heap} {es : List (Key × V)} {kvs : List (Key × Value)} (e : Ents φ h es kvs) (k : Key) : (kvs.any fun e => e.1 = k) = es.any fun e => e.1 = k := by
  induction e with
  | nil => rfl
  | cons _ _ ih => simp only [List.any_cons, ih]
theorem Ents.put {φ : List Addr} {h : Heap} {es : List (Key × V)} {kvs : List (Key × Value)} (e : Ents φ h es kvs) (k : Key) {x : V} {v : Value} (hx : Val φ h x v) : Ents φ h (put es k x) (stored kvs k v) := by
  unfold Mine.put stored
  rw [e.any k]
  split
  · rename_i hany; clear hany
    induction e with
    | nil => exact .nil
    | @cons k' x' v' es kvs h1 _ ih =>
      simp only [List.map_cons]
      by_cases hk : k' = k
      · simp only [hk, if_true]; exact .cons hx ih
      · simp only [hk, if_false]; exact .cons h1 ih
  · exact e.append (.cons hx .nil)

section st
variable (prog : Program) (w : World)

/-- how an abstract object lies -/
def ObjR (φ : List Addr) (h : Heap) (a : Addr) : AObj → Prop
  | .list xs => ∃ vs n, h.get? a = some { cls := .type "list", data := .seq vs n } ∧ Vals φ h xs vs.toList
  | .dict es e => ∃ kvs ep, h.DictAt (kk prog w) a kvs ep ∧ Ents φ h es kvs ∧ ∀ n, e = some n → ep = n
  | .inst C k => ∃ d, h.get? a = some { cls := .ref C, dict := some d, data := .plain } ∧ φ[k]? = some d
  | .set ss => SetS w h a ss
  | .ns as => ∃ es n, h.get? a = some { cls := .type "dict", data := .dict es n } ∧ StrKeys es ∧ es.size ≤ as.length ∧
      ∀ x, match as.lookup x with
        | some v => ∃ val, nsFind es x = some val ∧ Val φ h v val
        | none => nsFind es x = none

/-- the state: what the call has made (at φ) is σ; the base stands -/
structure St (B : Shared) (φ : List Addr) (σ : List AObj) (s : Shared) : Prop where
  base : ∀ b o, B.heap.get? b = some o → s.heap.get? b = some o
  new : ∀ a ∈ φ, B.heap.get? a = none
  nodup : φ.Nodup
  len : φ.length = σ.length
  objs : ∀ (k : Nat) (a : Addr) (ob : AObj), φ[k]? = some a → σ[k]? = some ob → ObjR prog w φ s.heap a ob
  gens : s.gens = B.gens
  os : s.os = B.os
  sys : (∃ o, B.heap.get? cStatics = some o) ∧ sysModules ∉ φ

/-- the same object, but for a frame's slots -/
def Sim (o o' : Obj) : Prop := o' = o ∨ (o.cls = .type "frame" ∧ o'.cls = o.cls ∧ o'.dict = o.dict ∧ o'.data = o.data)
theorem Sim.refl (o : Obj) : Sim o o := .inl rfl
theorem Sim.cls {o o' : Obj} (h : Sim o o') : o'.cls = o.cls := h.elim (fun e => by rw [e]) fun h => h.2.1
theorem Sim.dict {o o' : Obj} (h : Sim o o') : o'.dict = o.dict := h.elim (fun e => by rw [e]) fun h => h.2.2.1
theorem Sim.data {o o' : Obj} (h : Sim o o') : o'.data = o.data := h.elim (fun e => by rw [e]) fun h => h.2.2.2
theorem Sim.trans {a b c : Obj} (h : Sim a b) (g : Sim b c) : Sim a c := by
  rcases h with rfl | h
  · exact g
  · exact .inr ⟨h.1, g.cls.trans h.2.1, g.dict.trans h.2.2.1, g.data.trans h.2.2.2⟩
theorem Sim.same {o o' : Obj} (h : Sim o o') (hc : o.cls ≠ .type "frame") : o' = o := by
  rcases h with h | h
  · exact h
  · exact absurd h.1 hc

/-- from one state to a later one; D: what else may change -/
structure Step (D φ : List Addr) (h : Heap) (φ' : List Addr) (h' : Heap) : Prop where
  pre : φ <+: φ'
  fresh : ∀ a ∈ φ', a ∈ φ ∨ h.get? a = none
  keep : ∀ b o, h.get? b = some o → b ∉ φ → b ∉ D → ∃ o', h'.get? b = some o' ∧ Sim o o'

theorem Step.refl (D φ : List Addr) (h : Heap) : Step D φ h φ h := ⟨List.prefix_refl _, fun _ ha => .inl ha, fun _ o e _ _ => ⟨o, e, .refl o⟩⟩
theorem Step.mono {D D' φ φ' : List Addr} {h h' : Heap} (s : Step D φ h φ' h') (hd : ∀ a ∈ D, a ∈ D') : Step D' φ h φ' h' :=
  ⟨s.pre, s.fresh, fun b o e h1 h2 => s.keep b o e h1 fun hb => h2 (hd b hb)⟩
theorem Step.nilD {D φ φ' : List Addr} {h h' : Heap} (s : Step [] φ h φ' h') : Step D φ h φ' h' := s.mono fun _ h => nomatch h
theorem Step.trans {D φ φ₁ φ₂ : List Addr} {h h₁ h₂ : Heap} (s : Step D φ h φ₁ h₁) (t : Step D φ₁ h₁ φ₂ h₂) (hD : ∀ a ∈ D, a ∉ φ₁ ∧ a ∉ φ₂ ∨ h.get? a = none) : Step D φ h φ₂ h₂ := by
  refine ⟨s.pre.trans t.pre, fun a ha => ?_, fun b o e h1 h2 => ?_⟩
  · rcases t.fresh a ha with h3 | h3
    · exact s.fresh a h3
    · by_cases h4 : a ∈ φ
      · exact .inl h4
      · cases e : h.get? a with
        | none => exact .inr rfl
        | some o =>
          by_cases h5 : a ∈ D
          · rcases hD a h5 with h6 | h6
            · exact absurd ha h6.2
            · rw [h6] at e; cases e
          · obtain ⟨o', h6, _⟩ := s.keep a o e h4 h5
            rw [h6] at h3; cases h3
  · obtain ⟨o₁, e₁, a1⟩ := s.keep b o e h1 h2
    have h3 : b ∉ φ₁ := fun hb => by
      rcases s.fresh b hb with h4 | h4
      · exact h1 h4
      · rw [h4] at e; cases e
    obtain ⟨o₂, e₂, b1⟩ := t.keep b o₁ e₁ h3 h2
    exact ⟨o₂, e₂, a1.trans b1⟩
theorem Step.trans0 {φ φ₁ φ₂ : List Addr} {h h₁ h₂ : Heap} (s : Step [] φ h φ₁ h₁) (t : Step [] φ₁ h₁ φ₂ h₂) : Step [] φ h φ₂ h₂ := s.trans t fun _ h => nomatch h

theorem Step.of_keeps {φ : List Addr} {h h' : Heap} (hk : ∀ b o, h.get? b = some o → h'.get? b = some o) : Step [] φ h φ h' :=
  ⟨List.prefix_refl _, fun _ ha => .inl ha, fun b o e _ _ => ⟨o, hk b o e, .refl o⟩⟩

variable {prog w}
variable {B : Shared} {φ φ' : List Addr} {σ σ' : List AObj} {s : Shared}

theorem notStill_dict {o : Obj} {es : Array DictEntry} {n : Nat} (h : o.data = .dict es n) : ¬ Still o := by
  rintro (⟨_, vs, m, h'⟩ | ⟨_, vs, _, h'⟩ | ⟨_, vs, h'⟩) <;> rw [h] at h' <;> cases h'
theorem notStill_cell {o : Obj} {v : Option Value} (h : o.data = .cell v) : ¬ Still o := by
  rintro (⟨_, vs, m, h'⟩ | ⟨_, vs, _, h'⟩ | ⟨_, vs, h'⟩) <;> rw [h] at h' <;> cases h'
theorem notStill_type {o : Obj} {T : String} (h : o.cls = .type T) (h1 : T ≠ "tuple") (h2 : T ≠ "range") : ¬ Still o := by
  rintro (⟨h', _⟩ | ⟨C, vs, h', _⟩ | ⟨h', _⟩)
  · rw [h] at h'; exact h1 (by injection h')
  · rw [h] at h'; cases h'
  · rw [h] at h'; exact h2 (by injection h')
theorem ObjR.notStill {h : Heap} {a : Addr} {o : Obj} {ob : AObj} (r : ObjR prog w φ h a ob) (ho : h.get? a = some o) : ¬ Still o := by
  cases ob with
  | list xs =>
    obtain ⟨vs, n, e, _⟩ := r
    rw [e] at ho; cases ho
    exact notStill_type rfl (by decide) (by decide)
  | dict es e =>
    obtain ⟨kvs, ep, ⟨o', es', e, hx, hd, _⟩, _⟩ := r
    rw [e] at ho; cases ho
    exact notStill_type hx.1 (by decide) (by decide)
  | inst C k =>
    obtain ⟨d, e, _⟩ := r
    rw [e] at ho; cases ho
    rintro (⟨h, _⟩ | ⟨C, vs, _, h⟩ | ⟨h, _⟩) <;> cases h
  | ns as =>
    obtain ⟨es, n, e, _⟩ := r
    rw [e] at ho; cases ho
    exact notStill_type rfl (by decide) (by decide)
  | set ss =>
    obtain ⟨o', es, ep, t, e, hx, _⟩ := r
    rw [e] at ho; cases ho
    exact notStill_type hx.1 (by decide) (by decide)

theorem St.notStill (G : St prog w B φ σ s) {a : Addr} {o : Obj} (ha : a ∈ φ) (ho : s.heap.get? a = some o) : ¬ Still o := by
  obtain ⟨k, hk, rfl⟩ := List.mem_iff_getElem.mp ha
  have hk' : k < σ.length := G.len ▸ hk
  exact (G.objs k _ σ[k] (List.getElem?_eq_getElem hk) (List.getElem?_eq_getElem hk')).notStill ho

/-- what stands still stays through a step, if the changed frames are no still objects -/
theorem Step.still {D : List Addr} {h' : Heap} (G : St prog w B φ σ s) (t : Step D φ s.heap φ' h') (hD : ∀ a ∈ D, ∀ o, s.heap.get? a = some o → ¬ Still o) :
    ∀ a o, s.heap.get? a = some o → Still o → h'.get? a = some o := fun a o e hs => by
  obtain ⟨o', h1, h2⟩ := t.keep a o e (fun ha => G.notStill ha e hs) fun ha => hD a ha o e hs
  obtain rfl := h2.same fun hc => by
    rcases hs with ⟨h, _⟩ | ⟨C, vs, h, _⟩ | ⟨h, _⟩ <;> rw [h] at hc
    · exact absurd hc (by simp)
    · cases hc
    · exact absurd hc (by simp)
  exact h1
theorem Val.step {h' : Heap} {x : V} {v : Value} (hv : Val φ s.heap x v) (G : St prog w B φ σ s) (t : Step [] φ s.heap φ' h') : Val φ' h' x v :=
  Val.mono t.pre (t.still G fun _ h => nomatch h) x hv
theorem Vals.step {h' : Heap} {xs : List V} {vs : List Value} (hv : Vals φ s.heap xs vs) (G : St prog w B φ σ s) (t : Step [] φ s.heap φ' h') : Vals φ' h' xs vs :=
  Vals.mono t.pre (t.still G fun _ h => nomatch h) xs hv

/-- an object of the abstract heap through a change elsewhere -/
theorem ObjR.mono {h h' : Heap} {a : Addr} {ob : AObj} (r : ObjR prog w φ h a ob) (hp : φ <+: φ')
    (hk : ∀ a o, h.get? a = some o → Still o → h'.get? a = some o) (ha : ∀ o, h.get? a = some o → h'.get? a = some o) : ObjR prog w φ' h' a ob := by
  have hidx : ∀ {k d : Nat}, φ[k]? = some d → φ'[k]? = some d := fun {k d} e => by
    obtain ⟨r, rfl⟩ := hp
    rw [List.getElem?_append_left (List.getElem?_eq_some_iff.mp e).1]; exact e
  cases ob with
  | list xs => obtain ⟨vs, n, e, hv⟩ := r; exact ⟨vs, n, ha _ e, Vals.mono hp hk xs hv⟩
  | dict es e =>
    obtain ⟨kvs, ep, ⟨o, es', e, r⟩, hv, hn⟩ := r
    exact ⟨kvs, ep, ⟨o, es', ha _ e, r⟩, hv.mono hp hk, hn⟩
  | inst C k => obtain ⟨d, e, hd⟩ := r; exact ⟨d, ha _ e, hidx hd⟩
  | set ss => exact SetS.at r ha
  | ns as =>
    obtain ⟨es, n, e, h1, h2, h3⟩ := r
    refine ⟨es, n, ha _ e, h1, h2, fun x => ?_⟩
    have := h3 x
    cases hx : as.lookup x with
    | none => rw [hx] at this; exact this
    | some v => rw [hx] at this; obtain ⟨val, e1, e2⟩ := this; exact ⟨val, e1, Val.mono hp hk v e2⟩

/-- a state through a change that keeps all -/
theorem St.keeps {s' : Shared} (G : St prog w B φ σ s) (hk : ∀ b o, s.heap.get? b = some o → s'.heap.get? b = some o) (hg : s'.gens = s.gens := by rfl) (ho : s'.os = s.os := by rfl) : St prog w B φ σ s' :=
  ⟨fun b o e => hk b o (G.base b o e), G.new, G.nodup, G.len, fun k a ob h1 h2 => (G.objs k a ob h1 h2).mono (List.prefix_refl _) (fun a o e _ => hk a o e) fun o e => hk a o e, hg.trans G.gens, ho.trans G.os, G.sys⟩
/-- a state through a change of one object that is not the call's and not still -/
theorem St.sameBut {s' : Shared} {c : Addr} (G : St prog w B φ σ s) (hs : Heap.SameBut c s.heap s'.heap) (hc : c ∉ φ) (hb : B.heap.get? c = none) (hn : ∀ o, s.heap.get? c = some o → ¬ Still o)
    (hg : s'.gens = s.gens := by rfl) (ho : s'.os = s.os := by rfl) : St prog w B φ σ s' := by
  refine ⟨fun b o e => hs.extBut b o (fun h => by rw [h, hb] at e; cases e) (G.base b o e), G.new, G.nodup, G.len, fun k a ob h1 h2 => ?_, hg.trans G.gens, ho.trans G.os, G.sys⟩
  refine (G.objs k a ob h1 h2).mono (List.prefix_refl _) (fun a o e hst => hs.extBut a o (fun h => hn o (h ▸ e) hst) e) fun o e => hs.extBut a o (fun h => hc (h ▸ List.mem_of_getElem? h1)) e
theorem Val.sameBut {h h' : Heap} {c : Addr} {x : V} {v : Value} (hv : Val φ h x v) (hs : Heap.SameBut c h h') (hn : ∀ o, h.get? c = some o → ¬ Still o) : Val φ h' x v :=
  Val.mono (List.prefix_refl _) (fun a o e hst => hs.extBut a o (fun h => hn o (h ▸ e) hst) e) x hv

theorem St.sub (G : St prog w B φ σ s) {b : Addr} {o : Obj} (hb : B.heap.get? b = some o) : b ∉ φ := fun h => by rw [G.new b h] at hb; cases hb
theorem St.fresh (G : St prog w B φ σ s) : s.heap.objs.size ∉ φ := fun h => by
  obtain ⟨k, hk, e⟩ := List.mem_iff_getElem.mp h
  have hk' : k < σ.length := G.len ▸ hk
  have r := G.objs k _ σ[k] (List.getElem?_eq_getElem hk) (List.getElem?_eq_getElem hk')
  have : ∃ o, s.heap.get? φ[k] = some o := by
    cases hob : σ[k] with
    | list xs => rw [hob] at r; obtain ⟨vs, n, e, _⟩ := r; exact ⟨_, e⟩
    | dict es e => rw [hob] at r; obtain ⟨kvs, ep, ⟨o, es', e, _⟩, _⟩ := r; exact ⟨_, e⟩
    | inst C k => rw [hob] at r; obtain ⟨d, e, _⟩ := r; exact ⟨_, e⟩
    | ns as => rw [hob] at r; obtain ⟨es, n, e, _⟩ := r; exact ⟨_, e⟩
    | set ss => rw [hob] at r; obtain ⟨o', es, ep, t, e, _⟩ := r; exact ⟨_, e⟩
  obtain ⟨o, ho⟩ := this
  rw [e] at ho
  exact absurd (Heap.lt_size ho) (Nat.lt_irrefl _)
theorem get?_size (h : Heap) : h.get? h.objs.size = none := by
  cases e : h.get? h.objs.size with
  | none => rfl
  | some o => exact absurd (Heap.lt_size e) (Nat.lt_irrefl _)
theorem get?_of_ge {h : Heap} {a : Addr} (ha : h.objs.size ≤ a) : h.get? a = none := by
  cases e : h.get? a with
  | none => rfl
  | some o => exact absurd (Heap.lt_size e) (Nat.not_lt.mpr ha)
theorem St.baseSize (G : St prog w B φ σ s) {a : Addr} (ha : s.heap.get? a = none) : B.heap.get? a = none := by
  cases e : B.heap.get? a with
  | none => rfl
  | some o => rw [G.base a o e] at ha; cases ha

theorem St.sizeNe (G : St prog w B φ σ s) : s.heap.objs.size ≠ sysModules := fun e => by
  obtain ⟨⟨o, ho⟩, _⟩ := G.sys
  have := Heap.lt_size (G.base _ _ ho)
  rw [e] at this
  exact absurd this (by decide)

/-- a new object onto the heap -/
theorem St.alloc {s' : Shared} {ob : AObj} {c : Addr} (G : St prog w B φ σ s) (hc : s.heap.get? c = none) (hk : ∀ b o, s.heap.get? b = some o → s'.heap.get? b = some o) (r : ObjR prog w (φ ++ [c]) s'.heap c ob)
    (hcφ : c ∉ φ) (hcs : c ≠ sysModules) (hg : s'.gens = s.gens := by rfl) (ho : s'.os = s.os := by rfl) : St prog w B (φ ++ [c]) (σ ++ [ob]) s' := by
  refine ⟨fun b o e => hk b o (G.base b o e), fun a ha => ?_, ?_, by simp [G.len], fun k a ob' h1 h2 => ?_, hg.trans G.gens, ho.trans G.os, G.sys.1, fun h => (List.mem_append.mp h).elim G.sys.2 fun h => hcs (List.mem_singleton.mp h).symm⟩
  · rcases List.mem_append.mp ha with h | h
    · exact G.new a h
    · obtain rfl := List.mem_singleton.mp h; exact G.baseSize hc
  · exact List.nodup_append.mpr ⟨G.nodup, by simp, fun a ha b hb e => hcφ (by obtain rfl := List.mem_singleton.mp hb; exact e ▸ ha)⟩
  · by_cases hlt : k < φ.length
    · rw [List.getElem?_append_left hlt] at h1
      rw [List.getElem?_append_left (G.len ▸ hlt)] at h2
      exact (G.objs k a ob' h1 h2).mono (List.prefix_append _ _) (fun a o e _ => hk a o e) fun o e => hk a o e
    · have h3 : k = φ.length := by
        have := (List.getElem?_eq_some_iff.mp h1).1
        simp at this; omega
      subst h3
      rw [List.getElem?_append_right (Nat.le_refl _)] at h1
      rw [G.len, List.getElem?_append_right (Nat.le_refl _)] at h2
      simp at h1 h2
      subst h1 h2
      exact r
theorem Step.alloc {s' : Shared} {c : Addr} {D : List Addr} (hc : s.heap.get? c = none) (hk : ∀ b o, s.heap.get? b = some o → s'.heap.get? b = some o) : Step D φ s.heap (φ ++ [c]) s'.heap :=
  ⟨List.prefix_append _ _, fun a ha => (List.mem_append.mp ha).imp id fun h => by obtain rfl := List.mem_singleton.mp h; exact hc, fun b o e _ _ => ⟨o, hk b o e, .refl o⟩⟩

/-- an object of the call's changed -/
theorem St.update {s' : Shared} {k : Nat} {c : Addr} {ob : AObj} (G : St prog w B φ σ s) (hc : φ[k]? = some c) (hs : Heap.SameBut c s.heap s'.heap) (r : ObjR prog w φ s'.heap c ob)
    (hg : s'.gens = s.gens := by rfl) (ho : s'.os = s.os := by rfl) : St prog w B φ (σ.set k ob) s' := by
  have hcm := List.mem_of_getElem? hc
  refine ⟨fun b o e => hs.extBut b o (fun h => G.sub e (h ▸ hcm)) (G.base b o e), G.new, G.nodup, by simp [G.len], fun j a ob' h1 h2 => ?_, hg.trans G.gens, ho.trans G.os, G.sys⟩
  by_cases hj : j = k
  · subst hj
    rw [hc] at h1; cases h1
    have hlt : j < σ.length := G.len ▸ (List.getElem?_eq_some_iff.mp hc).1
    rw [List.getElem?_set_self hlt] at h2; cases h2
    exact r
  · rw [List.getElem?_set_ne (Ne.symm hj)] at h2
    refine (G.objs j a ob' h1 h2).mono (List.prefix_refl _) (fun a o e hst => hs.extBut a o (fun h => ?_) e) fun o e => hs.extBut a o (fun h => hj ?_) e
    · exact G.notStill (h ▸ hcm) e hst
    · subst h
      have e1 := List.getElem?_eq_some_iff.mp h1
      have e2 := List.getElem?_eq_some_iff.mp hc
      obtain ⟨l1, e1⟩ := e1
      obtain ⟨l2, e2⟩ := e2
      exact (List.getElem_inj G.nodup).mp (e1.trans e2.symm)
theorem Step.update {D : List Addr} {h h' : Heap} {c : Addr} (hs : Heap.SameBut c h h') (hc : c ∈ φ) : Step D φ h φ h' :=
  ⟨List.prefix_refl _, fun _ ha => .inl ha, fun b o e hb _ => ⟨o, hs.extBut b o (fun h => hb (h ▸ hc)) e, .refl o⟩⟩
end st

end Mine

set_option autoImplicit false
set_option linter.unusedVariables false
namespace Mine
open PySem PySem.Calls PyProof.Rows

/-- a name of the frame has this value -/
def Bnd (env : Env) (h : Heap) (x : Str) (val : Value) : Prop :=
  (env.kindOf x = some .local ∧ ∃ m, h.Ns env.locals m ∧ m x = some val) ∨
  ((env.kindOf x = some .cell ∨ env.kindOf x = some .free) ∧ ∃ c, env.cells.lookup x = some c ∧ h.IsCell c (some val))

/-- what a frame's own statements may change beside the call's objects -/
def fr (env : Env) : List Addr := env.locals :: env.cells.map (·.2)

structure Loc (B : Shared) (env : Env) (ρ : List (Str × V)) (φ : List Addr) (h : Heap) : Prop where
  kind : env.scope.kind = .function
  glob : env.globals = mainGlobals
  blt : env.builtins = builtinsNs
  ns : ∃ m, h.Ns env.locals m
  own : ∀ a ∈ fr env, a ∉ φ ∧ B.heap.get? a = none
  cells : ∀ x c, (x, c) ∈ env.cells → ∃ v, h.IsCell c v
  apart : env.cells.Pairwise fun x y => x.2 ≠ y.2
  val : ∀ x v, ρ.lookup x = some v → ∃ val, Bnd env h x val ∧ Val φ h v val

section
variable {prog : Program} {w : World} {B : Shared} {φ φ' : List Addr} {σ σ' : List AObj} {s s' : Shared} {env : Env} {ρ ρ' : List (Str × V)}

theorem Ns.upTo {h h' : Heap} {a : Addr} {m : Str → Option Value} (n : h.Ns a m) (hk : ∀ o, h.get? a = some o → ∃ o', h'.get? a = some o' ∧ Sim o o') : h'.Ns a m := by
  obtain ⟨o, es, ep, e, hd, r⟩ := n
  obtain ⟨o', e', hs⟩ := hk o e
  exact ⟨o', es, ep, e', hs.data.trans hd, r⟩
theorem IsCell.upTo {h h' : Heap} {a : Addr} {v : Option Value} (n : h.IsCell a v) (hk : ∀ o, h.get? a = some o → ∃ o', h'.get? a = some o' ∧ Sim o o') : h'.IsCell a v := by
  obtain ⟨o, e, hd⟩ := n
  obtain ⟨o', e', hs⟩ := hk o e
  exact ⟨o', e', hs.data.trans hd⟩
theorem mem_fr_cell {x : Str} {c : Addr} (h : (x, c) ∈ env.cells) : c ∈ fr env := List.mem_cons_of_mem _ (List.mem_map.mpr ⟨(x, c), h, rfl⟩)
/-- the frame's own objects lie in the heap -/
theorem Loc.there {h : Heap} (L : Loc B env ρ φ h) {a : Addr} (ha : a ∈ fr env) : ∃ o, h.get? a = some o ∧ ¬ Still o := by
  rcases List.mem_cons.mp ha with rfl | ha
  · obtain ⟨m, o, es, ep, e, hd, _⟩ := L.ns
    exact ⟨o, e, notStill_dict hd⟩
  · obtain ⟨⟨x, c⟩, hm, rfl⟩ := List.mem_map.mp ha
    obtain ⟨v, o, e, hd⟩ := L.cells x c hm
    exact ⟨o, e, notStill_cell hd⟩

theorem Loc.step {h' : Heap} (L : Loc B env ρ φ s.heap) (G : St prog w B φ σ s) (t : Step [] φ s.heap φ' h') : Loc B env ρ φ' h' := by
  have hk : ∀ a ∈ fr env, ∀ o, s.heap.get? a = some o → ∃ o', h'.get? a = some o' ∧ Sim o o' := fun a ha o e => t.keep a o e (L.own a ha).1 (fun h => nomatch h)
  refine ⟨L.kind, L.glob, L.blt, ?_, fun a ha => ⟨fun h => ?_, (L.own a ha).2⟩, fun x c hm => ?_, L.apart, fun x v hx => ?_⟩
  · obtain ⟨m, n⟩ := L.ns; exact ⟨m, Ns.upTo n (hk _ (.head _))⟩
  · rcases t.fresh a h with h1 | h1
    · exact (L.own a ha).1 h1
    · obtain ⟨o, e, _⟩ := L.there ha; rw [e] at h1; cases h1
  · obtain ⟨v, n⟩ := L.cells x c hm; exact ⟨v, IsCell.upTo n (hk _ (mem_fr_cell hm))⟩
  · obtain ⟨val, hb, hv⟩ := L.val x v hx
    refine ⟨val, ?_, hv.step G t⟩
    rcases hb with ⟨k, m, n, e⟩ | ⟨k, c, e, n⟩
    · exact .inl ⟨k, m, Ns.upTo n (hk _ (.head _)), e⟩
    · exact .inr ⟨k, c, e, IsCell.upTo n (hk _ (mem_fr_cell (mem_of_lookup e)))⟩
theorem Loc.weaken {h : Heap} (L : Loc B env ρ φ h) (hs : ∀ x v, ρ'.lookup x = some v → ρ.lookup x = some v) : Loc B env ρ' φ h :=
  ⟨L.kind, L.glob, L.blt, L.ns, L.own, L.cells, L.apart, fun x v hx => L.val x v (hs x v hx)⟩

theorem fr_notStill {h : Heap} (L : Loc B env ρ φ h) : ∀ a ∈ fr env, ∀ o, h.get? a = some o → ¬ Still o := fun a ha o e => by
  obtain ⟨o', e', hs⟩ := L.there ha
  rw [e'] at e; cases e; exact hs
end

abbrev XT := Value → List Addr → List AObj → Shared → Prop

section
variable (prog : Program) (w : World) (B : Shared)
def Post {α : Type} (D φ : List Addr) (s : Shared) (Q : α → List Addr → List AObj → Shared → Prop) : α → Shared → Prop :=
  fun a s' => ∃ φ' σ', Step D φ s.heap φ' s'.heap ∧ St prog w B φ' σ' s' ∧ Q a φ' σ' s'
def vQ (Q : V → List AObj → Prop) : Value → List Addr → List AObj → Shared → Prop := fun v φ' σ' s' => ∃ x, Val φ' s'.heap x v ∧ Q x σ'
def bQ {α : Type} (Q : α → List AObj → Prop) : α → List Addr → List AObj → Shared → Prop := fun b _ σ' _ => Q b σ'

/-- a computation from a state -/
def W {α : Type} (A : Around) (t : Sem α) (φ : List Addr) (s : Shared) (Q : α → List Addr → List AObj → Shared → Prop) (X : XT) : Prop :=
  wpAny (model prog w) A t (Post prog w B [] φ s Q) (Post prog w B [] φ s X) s
/-- an expression -/
def WE (A : Around) (env : Env) (e : Expr) (ρ : List (Str × V)) (σ : List AObj) (Q : V → List AObj → Prop) (X : XT) : Prop :=
  ∀ φ s, St prog w B φ σ s → Loc B env ρ φ s.heap → W prog w B A (eval e env) φ s (vQ Q) X
/-- a test -/
def WT (A : Around) (env : Env) (e : Expr) (ρ : List (Str × V)) (σ : List AObj) (Q : Bool → List AObj → Prop) (X : XT) : Prop :=
  ∀ φ s, St prog w B φ σ s → Loc B env ρ φ s.heap → W prog w B A (isTrue e env (eval e env)) φ s (bQ Q) X
/-- a row of expressions -/
def WEs (A : Around) (env : Env) (es : List Expr) (ρ : List (Str × V)) (σ : List AObj) (Q : List V → List AObj → Prop) (X : XT) : Prop :=
  ∀ pos φ s, St prog w B φ σ s → Loc B env ρ φ s.heap → W prog w B A (spliced (backTo pos (starEach es env))) φ s (fun vs φ' σ' s' => ∃ xs, Vals φ' s'.heap xs vs ∧ Q xs σ') X
def W1 {α : Type} (A : Around) (t : Value → Sem α) (x : V) (σ : List AObj) (Q : α → List Addr → List AObj → Shared → Prop) (X : XT) : Prop :=
  ∀ φ s v, St prog w B φ σ s → Val φ s.heap x v → W prog w B A (t v) φ s Q X
def W2 (A : Around) (t : Value → Value → Sem Value) (x y : V) (σ : List AObj) (Q : V → List AObj → Prop) (X : XT) : Prop :=
  ∀ φ s v u, St prog w B φ σ s → Val φ s.heap x v → Val φ s.heap y u → W prog w B A (t v u) φ s (vQ Q) X
/-- a call -/
def WC (A : Around) (f : Value) (xs : List V) (σ : List AObj) (Q : V → List AObj → Prop) (X : XT) : Prop :=
  ∀ φ s vs, St prog w B φ σ s → Vals φ s.heap xs vs → W prog w B A (call f vs) φ s (vQ Q) X
end

section
variable {prog : Program} {w : World} {B : Shared} {φ φ₁ : List Addr} {σ : List AObj} {s s₁ : Shared} {env : Env} {ρ : List (Str × V)} {A : Around} {X : XT}

theorem Post.trans {α : Type} {Q : α → List Addr → List AObj → Shared → Prop} {a : α} {s' : Shared} (t : Step [] φ s.heap φ₁ s₁.heap) (h : Post prog w B [] φ₁ s₁ Q a s') : Post prog w B [] φ s Q a s' := by
  obtain ⟨φ', σ', t', G', q⟩ := h
  exact ⟨φ', σ', t.trans0 t', G', q⟩
/-- use of a computation in a later state -/
theorem W.use {α : Type} {t : Sem α} {Q : α → List Addr → List AObj → Shared → Prop} {R : α → Shared → Prop} (h : W prog w B A t φ₁ s₁ Q X) (t₁ : Step [] φ s.heap φ₁ s₁.heap)
    (k : ∀ a s₂ φ₂ σ₂, Step [] φ₁ s₁.heap φ₂ s₂.heap → Step [] φ s.heap φ₂ s₂.heap → St prog w B φ₂ σ₂ s₂ → Q a φ₂ σ₂ s₂ → R a s₂) : wpAny (model prog w) A t R (Post prog w B [] φ s X) s₁ :=
  wpAny_mono h (fun a s₂ ⟨φ₂, σ₂, t₂, G₂, q⟩ => k a s₂ φ₂ σ₂ t₂ (t₁.trans0 t₂) G₂ q) fun e s' hx => hx.trans t₁
theorem W.last {α : Type} {t : Sem α} {Q : α → List Addr → List AObj → Shared → Prop} (h : W prog w B A t φ₁ s₁ Q X) (t₁ : Step [] φ s.heap φ₁ s₁.heap) : wpAny (model prog w) A t (Post prog w B [] φ s Q) (Post prog w B [] φ s X) s₁ :=
  h.use t₁ fun _ _ _ _ _ t G q => ⟨_, _, t, G, q⟩
/-- an end without a change -/
theorem Post.here {α : Type} {Q : α → List Addr → List AObj → Shared → Prop} {a : α} (G : St prog w B φ σ s) (q : Q a φ σ s) : Post prog w B [] φ s Q a s := ⟨φ, σ, .refl .., G, q⟩
theorem St.toks (G : St prog w B φ σ s) (t : Nat) : St prog w B φ σ { s with toks := t } := G.keeps fun _ _ e => e
theorem Post.tok {α : Type} {Q : α → List Addr → List AObj → Shared → Prop} {a : α} {t : Nat} (G : St prog w B φ σ s) (q : Q a φ σ { s with toks := t }) : Post prog w B [] φ s Q a { s with toks := t } := ⟨φ, σ, .refl .., G.toks t, q⟩

theorem W.mono {α : Type} {t : Sem α} {Q Q' : α → List Addr → List AObj → Shared → Prop} (h : W prog w B A t φ s Q X) (hq : ∀ a φ' σ' s', Q a φ' σ' s' → Q' a φ' σ' s') : W prog w B A t φ s Q' X :=
  wpAny_mono h (fun _ _ ⟨φ', σ', t, G, q⟩ => ⟨φ', σ', t, G, hq _ _ _ _ q⟩) fun _ _ x => x
theorem WC.mono {f : Value} {xs : List V} {Q Q' : V → List AObj → Prop} (h : WC prog w B A f xs σ Q X) (hq : ∀ x σ', Q x σ' → Q' x σ') : WC prog w B A f xs σ Q' X :=
  fun φ s vs G hv => (h φ s vs G hv).mono fun _ _ _ _ ⟨x, hx, q⟩ => ⟨x, hx, hq _ _ q⟩
theorem WE.mono {e : Expr} {Q Q' : V → List AObj → Prop} (h : WE prog w B A env e ρ σ Q X) (hq : ∀ x σ', Q x σ' → Q' x σ') : WE prog w B A env e ρ σ Q' X :=
  fun φ s G L => (h φ s G L).mono fun _ _ _ _ ⟨x, hx, q⟩ => ⟨x, hx, hq _ _ q⟩

/-! expressions -/
theorem E_int {i : Int} {k : Nat} {pos : Pos} {Q : V → List AObj → Prop} (q : Q (.int i) σ) : WE prog w B A env (.Constant (.int i) k pos) ρ σ Q X :=
  fun φ s G _ => wpAny_Constant_int (Post.tok G ⟨.int i, by rw [Val]; exact ⟨_, rfl⟩, q⟩)
theorem E_str {x : Str} {k : Nat} {pos : Pos} {Q : V → List AObj → Prop} (q : Q (.str x) σ) : WE prog w B A env (.Constant (.str x) k pos) ρ σ Q X :=
  fun φ s G _ => Calls.Constant_str (Post.tok G ⟨.str x, by rw [Val]; exact ⟨_, rfl⟩, q⟩)
theorem E_bool {b : Bool} {k : Nat} {pos : Pos} {Q : V → List AObj → Prop} (q : Q (.bool b) σ) : WE prog w B A env (.Constant (.bool b) k pos) ρ σ Q X :=
  fun φ s G _ => wpAny_Constant_bool (Post.here G ⟨.bool b, by rw [Val], q⟩)
theorem loadName_Bnd {x : Str} {val : Value} {Q : Value → Shared → Prop} {E : Value → Shared → Prop} {M : Model} (hk : env.scope.kind = .function) (hb : Bnd env s.heap x val) (q : Q val s) (hn : (x == ("__classdict__" : Str)) = false := by decide) :
    wpAny M A (loadName env x) Q E s := by
  rcases hb with ⟨k, m, n, e⟩ | ⟨k | k, c, e, n⟩
  · exact wpAny_loadName_local hk k n e q
  · exact wpAny_loadName_cell hk k e n q
  · exact wpAny_loadName_free hk k e n q hn
theorem E_name {x : Str} {pos : Pos} {v : V} {Q : V → List AObj → Prop} (hx : ρ.lookup x = some v) (q : Q v σ) (hd : (x == ("__debug__" : Str)) = false := by decide) (hn : (x == ("__classdict__" : Str)) = false := by decide) :
    WE prog w B A env (.Name x pos) ρ σ Q X := fun φ s G L => by
  obtain ⟨val, hb, hv⟩ := L.val x v hx
  exact wpAny_Name (loadName_Bnd L.kind hb (Post.here G ⟨v, hv, q⟩) hn) hd
theorem E_global {x : Str} {pos : Pos} {mg : Str → Option Value} {v : Value} {y : V} {Q : V → List AObj → Prop} (hg : B.heap.Ns mainGlobals mg) (hv : mg x = some v) (hy : Val [] B.heap y v) (hx : env.kindOf x = some .globalImplicit) (q : Q y σ)
    (hd : (x == ("__debug__" : Str)) = false := by decide) : WE prog w B A env (.Name x pos) ρ σ Q X := fun φ s G L => by
  refine Name_function_global L.kind hx (loadGlobal_global (mg := mg) (L.glob ▸ hg.keeps G.base) hv (Post.here G ⟨y, ?_, q⟩)) hd
  exact Val.mono (List.nil_prefix) (fun a o e _ => G.base a o e) y hy
theorem E_builtin {x : Str} {pos : Pos} {mg mb : Str → Option Value} {v : Value} {Q : V → List AObj → Prop} (hg : B.heap.Ns mainGlobals mg) (hmiss : mg x = none) (hb : B.heap.Ns builtinsNs mb) (hv : mb x = some v) (hx : env.kindOf x = some .globalImplicit) (q : Q (.raw v) σ)
    (hd : (x == ("__debug__" : Str)) = false := by decide) : WE prog w B A env (.Name x pos) ρ σ Q X := fun φ s G L => by
  refine Name_function_global L.kind hx (loadGlobal_builtin (mg := mg) (mb := mb) (L.glob ▸ hg.keeps G.base) hmiss (L.blt ▸ hb.keeps G.base) hv (Post.here G ⟨.raw v, by rw [Val], q⟩)) hd

theorem E_bin {l r : Expr} {op : Operator} {pos : Pos} {Q : V → List AObj → Prop}
    (h : WE prog w B A env l ρ σ (fun x σ₁ => WE prog w B A env r ρ σ₁ (fun y σ₂ => W2 prog w B A (binaryOp op) x y σ₂ Q X) X) X) : WE prog w B A env (.BinOp l op r pos) ρ σ Q X := fun φ s G L =>
  wpAny_BinOp ((h φ s G L).use (.refl ..) fun a s₁ φ₁ σ₁ t₁ _ G₁ ⟨x, hx, h₁⟩ => (h₁ φ₁ s₁ G₁ (L.step G t₁)).use t₁ fun b s₂ φ₂ σ₂ t₂ t G₂ ⟨y, hy, h₂⟩ => (h₂ φ₂ s₂ a b G₂ (hx.step G₁ t₂) hy).last t)
theorem E_cmp1 {l r : Expr} {op : CmpOp} {pos : Pos} {Q : V → List AObj → Prop}
    (h : WE prog w B A env l ρ σ (fun x σ₁ => WE prog w B A env r ρ σ₁ (fun y σ₂ => W2 prog w B A (compareOp op) x y σ₂ Q X) X) X) (hm : behindInMarks op r = false := by with_unfolding_all rfl) :
    WE prog w B A env (.Compare l [op] [r] pos) ρ σ Q X := fun φ s G L =>
  wpAny_Compare1 ((h φ s G L).use (.refl ..) fun a s₁ φ₁ σ₁ t₁ _ G₁ ⟨x, hx, h₁⟩ => (h₁ φ₁ s₁ G₁ (L.step G t₁)).use t₁ fun b s₂ φ₂ σ₂ t₂ t G₂ ⟨y, hy, h₂⟩ => (h₂ φ₂ s₂ a b G₂ (hx.step G₁ t₂) hy).last t) hm
theorem E_un {x : Expr} {op : UnaryOp} {pos : Pos} {Q : V → List AObj → Prop}
    (h : WE prog w B A env x ρ σ (fun x σ₁ => W1 prog w B A (unaryOp op) x σ₁ (vQ Q) X) X) : WE prog w B A env (.UnaryOp op x pos) ρ σ Q X := fun φ s G L =>
  wpAny_UnaryOp ((h φ s G L).use (.refl ..) fun a s₁ φ₁ σ₁ t₁ _ G₁ ⟨x, hx, h₁⟩ => (h₁ φ₁ s₁ a G₁ hx).last t₁)
theorem E_ifexp {test body orelse : Expr} {pos : Pos} {Q : V → List AObj → Prop}
    (h : WT prog w B A env test ρ σ (fun b σ₁ => if b then WE prog w B A env body ρ σ₁ Q X else WE prog w B A env orelse ρ σ₁ Q X) X) : WE prog w B A env (.IfExp test body orelse pos) ρ σ Q X := fun φ s G L =>
  wpAny_IfExp ((h φ s G L).use (.refl ..) fun b s₁ φ₁ σ₁ t₁ _ G₁ h₁ => by
    cases b
    · exact (h₁ φ₁ s₁ G₁ (L.step G t₁)).last t₁
    · exact (h₁ φ₁ s₁ G₁ (L.step G t₁)).last t₁)
/-! tests -/
theorem T_value {e : Expr} {Q : Bool → List AObj → Prop} (h : WE prog w B A env e ρ σ (fun v σ₁ => W1 prog w B A truthy v σ₁ (bQ Q) X) X)
    (he : ∀ whole, isTrue e env whole = (do let v ← whole; standAt e.pos; holding [v] (truthy v)) := by intro _; with_unfolding_all rfl) : WT prog w B A env e ρ σ Q X := fun φ s G L =>
  wpAny_isTrue_value ((h φ s G L).use (.refl ..) fun a s₁ φ₁ σ₁ t₁ _ G₁ ⟨x, hx, h₁⟩ => (h₁ φ₁ s₁ a G₁ hx).last t₁) (he _)
theorem T_not {e : Expr} {pos : Pos} {Q : Bool → List AObj → Prop} (h : WT prog w B A env e ρ σ (fun b σ₁ => Q (!b) σ₁) X) : WT prog w B A env (.UnaryOp .Not e pos) ρ σ Q X := fun φ s G L =>
  wpAny_isTrue_Not ((h φ s G L).use (.refl ..) fun b s₁ φ₁ σ₁ t₁ _ G₁ h₁ => ⟨_, _, t₁, G₁, h₁⟩)
theorem T_cmp1 {l r : Expr} {op : CmpOp} {pos : Pos} {Q : Bool → List AObj → Prop}
    (h : WE prog w B A env l ρ σ (fun x σ₁ => WE prog w B A env r ρ σ₁ (fun y σ₂ => W2 prog w B A (compareOp op) x y σ₂ (fun z σ₃ => W1 prog w B A truthy z σ₃ (bQ Q) X) X) X) X) (hm : behindInMarks op r = false := by with_unfolding_all rfl) :
    WT prog w B A env (.Compare l [op] [r] pos) ρ σ Q X := fun φ s G L =>
  wpAny_isTrue_Compare1 ((h φ s G L).use (.refl ..) fun a s₁ φ₁ σ₁ t₁ _ G₁ ⟨x, hx, h₁⟩ => (h₁ φ₁ s₁ G₁ (L.step G t₁)).use t₁ fun b s₂ φ₂ σ₂ t₂ t G₂ ⟨y, hy, h₂⟩ => (h₂ φ₂ s₂ a b G₂ (hx.step G₁ t₂) hy).use t
    fun c s₃ φ₃ σ₃ t₃ t' G₃ ⟨z, hz, h₃⟩ => (h₃ φ₃ s₃ c G₃ hz).last t') hm
/-- all | any of a row of tests -/
def WTs (prog : Program) (w : World) (B : Shared) (A : Around) (env : Env) (op : BoolOp) (es : List Expr) (ρ : List (Str × V)) (σ : List AObj) (Q : Bool → List AObj → Prop) (X : XT) : Prop :=
  ∀ φ s, St prog w B φ σ s → Loc B env ρ φ s.heap → W prog w B A (allTrue op es env) φ s (bQ Q) X
theorem T_bool {op : BoolOp} {es : List Expr} {pos : Pos} {Q : Bool → List AObj → Prop} (h : WTs prog w B A env op es ρ σ Q X) : WT prog w B A env (.BoolOp op es pos) ρ σ Q X := fun φ s G L => wpAny_isTrue_BoolOp (h φ s G L)
theorem Ts_and_nil {Q : Bool → List AObj → Prop} (q : Q true σ) : WTs prog w B A env .And [] ρ σ Q X := fun φ s G _ => wpAny_allTrue_And_nil (Post.here G q)
theorem Ts_or_nil {Q : Bool → List AObj → Prop} (q : Q false σ) : WTs prog w B A env .Or [] ρ σ Q X := fun φ s G _ => wpAny_allTrue_Or_nil (Post.here G q)
theorem Ts_and {e : Expr} {es : List Expr} {Q : Bool → List AObj → Prop} (h : WT prog w B A env e ρ σ (fun b σ₁ => if b then WTs prog w B A env .And es ρ σ₁ Q X else Q false σ₁) X) : WTs prog w B A env .And (e :: es) ρ σ Q X := fun φ s G L =>
  wpAny_allTrue_And_cons ((h φ s G L).use (.refl ..) fun b s₁ φ₁ σ₁ t₁ _ G₁ h₁ => by
    cases b
    · exact ⟨_, _, t₁, G₁, h₁⟩
    · exact (h₁ φ₁ s₁ G₁ (L.step G t₁)).last t₁)
theorem Ts_or {e : Expr} {es : List Expr} {Q : Bool → List AObj → Prop} (h : WT prog w B A env e ρ σ (fun b σ₁ => if b then Q true σ₁ else WTs prog w B A env .Or es ρ σ₁ Q X) X) : WTs prog w B A env .Or (e :: es) ρ σ Q X := fun φ s G L =>
  wpAny_allTrue_Or_cons ((h φ s G L).use (.refl ..) fun b s₁ φ₁ σ₁ t₁ _ G₁ h₁ => by
    cases b
    · exact (h₁ φ₁ s₁ G₁ (L.step G t₁)).last t₁
    · exact ⟨_, _, t₁, G₁, h₁⟩)

/-! rows of expressions -/
theorem Es_nil {Q : List V → List AObj → Prop} (q : Q [] σ) : WEs prog w B A env [] ρ σ Q X := fun pos φ s G _ => spliced_nil (Post.here G ⟨[], .nil, q⟩)
theorem Es_cons {e : Expr} {es : List Expr} {Q : List V → List AObj → Prop} (h : WE prog w B A env e ρ σ (fun x σ₁ => WEs prog w B A env es ρ σ₁ (fun xs σ₂ => Q (x :: xs) σ₂) X) X)
    (hs : ∀ r, starEach (e :: r) env = (false, eval e env) :: starEach r env := by intro _; with_unfolding_all rfl) : WEs prog w B A env (e :: es) ρ σ Q X := fun pos φ s G L => by
  rw [hs]
  show wpAny _ _ (spliced ((false, _) :: backTo pos (starEach es env))) _ _ _
  refine spliced_cons ?_
  show wpAny _ _ (eval e env) _ _ _
  refine (h φ s G L).use (.refl ..) fun a s₁ φ₁ σ₁ t₁ _ G₁ ⟨x, hx, h₁⟩ => ?_
  exact (h₁ pos φ₁ s₁ G₁ (L.step G t₁)).use t₁ fun vs s₂ φ₂ σ₂ t₂ t G₂ ⟨xs, hxs, q⟩ => ⟨_, _, t, G₂, x :: xs, .cons (hx.step G₁ t₂) hxs, q⟩

/-- a new tuple -/
theorem E_tuple {es : List Expr} {k : Nat} {pos : Pos} {Q : V → List AObj → Prop} (h : WEs prog w B A env es ρ σ (fun xs σ₁ => xs.length ≤ sizeLine ∧ Q (.tup xs) σ₁) X) : WE prog w B A env (.Tuple es k pos) ρ σ Q X := fun φ s G L =>
  wpAny_Tuple_spliced ((h pos φ s G L).use (.refl ..) fun vs s₁ φ₁ σ₁ t₁ _ G₁ ⟨xs, hxs, hl, q⟩ => ⟨hxs.length ▸ hl, by
    have hk : ∀ b o, s₁.heap.get? b = some o → (s₁.heap.push { cls := .type "tuple", data := .seq vs.toArray }).get? b = some o := fun b o e => Heap.get?_push_of_some _ e
    refine ⟨φ₁, σ₁, t₁.trans0 (.of_keeps hk), G₁.keeps hk, .tup xs, ?_, q⟩
    rw [Val]
    exact ⟨_, vs.toArray, rfl, ⟨_, Heap.get?_push_size _ rfl, rfl, _, rfl⟩, by simpa using hxs.step G₁ (.of_keeps hk)⟩⟩)
/-- a new list -/
theorem E_list {es : List Expr} {pos : Pos} {Q : V → List AObj → Prop} (h : WEs prog w B A env es ρ σ (fun xs σ₁ => xs.length ≤ sizeLine ∧ Q (.ref σ₁.length) (σ₁ ++ [.list xs])) X) : WE prog w B A env (.List es pos) ρ σ Q X := fun φ s G L =>
  wpAny_List_spliced ((h pos φ s G L).use (.refl ..) fun vs s₁ φ₁ σ₁ t₁ _ G₁ ⟨xs, hxs, hl, q⟩ => ⟨hxs.length ▸ hl, by
    have hk : ∀ b o, s₁.heap.get? b = some o → (s₁.heap.push { cls := .type "list", data := .seq vs.toArray }).get? b = some o := fun b o e => Heap.get?_push_of_some _ e
    have hc := get?_size s₁.heap
    have t₂ : Step [] φ₁ s₁.heap (φ₁ ++ [s₁.heap.objs.size]) (s₁.heap.push { cls := .type "list", data := .seq vs.toArray }) := Step.alloc (s' := { s₁ with heap := s₁.heap.push { cls := .type "list", data := .seq vs.toArray } }) hc hk
    refine ⟨φ₁ ++ [s₁.heap.objs.size], σ₁ ++ [.list xs], t₁.trans0 t₂, G₁.alloc (ob := .list xs) hc hk ⟨vs.toArray, 0, Heap.get?_push_size _ rfl, by simpa using hxs.step G₁ t₂⟩ G₁.fresh G₁.sizeNe, .ref σ₁.length, ?_, q⟩
    rw [Val, ← G₁.len]
    exact ⟨_, rfl, by simp⟩⟩)
end
end Mine

set_option autoImplicit false
set_option linter.unusedVariables false
namespace Mine
open PySem PySem.Calls PyProof.Rows

inductive Fl where
  | next
  | brk
  | cont
  | ret (x : V)

def FlR (φ : List Addr) (h : Heap) : Fl → Flow → Prop
  | .next, f => f = .next
  | .brk, f => f = .brk
  | .cont, f => f = .cont
  | .ret x, f => ∃ v, f = .ret v ∧ Val φ h x v

section
variable (prog : Program) (w : World) (B : Shared)
def fQ (env : Env) (Q : Fl → List (Str × V) → List AObj → Prop) : Flow → List Addr → List AObj → Shared → Prop :=
  fun f φ' σ' s' => ∃ fl ρ', FlR φ' s'.heap fl f ∧ Loc B env ρ' φ' s'.heap ∧ Q fl ρ' σ'
/-- a statement -/
def WX1 (A : Around) (env : Env) (st : Stmt) (ρ : List (Str × V)) (σ : List AObj) (Q : Fl → List (Str × V) → List AObj → Prop) (X : XT) : Prop :=
  ∀ φ s, St prog w B φ σ s → Loc B env ρ φ s.heap → wpAny (model prog w) A (exec st env) (Post prog w B (fr env) φ s (fQ B env Q)) (Post prog w B (fr env) φ s X) s
/-- a row of statements -/
def WX (A : Around) (env : Env) (ss : List Stmt) (ρ : List (Str × V)) (σ : List AObj) (Q : Fl → List (Str × V) → List AObj → Prop) (X : XT) : Prop :=
  ∀ φ s, St prog w B φ σ s → Loc B env ρ φ s.heap → wpAny (model prog w) A (execs ss env) (Post prog w B (fr env) φ s (fQ B env Q)) (Post prog w B (fr env) φ s X) s
end

section
variable {prog : Program} {w : World} {B : Shared} {φ φ₁ φ₂ : List Addr} {σ : List AObj} {s s₁ : Shared} {env : Env} {ρ ρ₁ : List (Str × V)} {A : Around} {X : XT}

theorem Step.transF {h h₁ h₂ : Heap} (t : Step (fr env) φ h φ₁ h₁) (u : Step (fr env) φ₁ h₁ φ₂ h₂) (L : Loc B env ρ₁ φ₁ h₁) : Step (fr env) φ h φ₂ h₂ :=
  t.trans u fun a ha => .inl ⟨(L.own a ha).1, fun h => by
    rcases u.fresh a h with h1 | h1
    · exact (L.own a ha).1 h1
    · obtain ⟨o, e, _⟩ := L.there ha; rw [e] at h1; cases h1⟩

/-- behind an expression: the rest of a statement -/
theorem WE.then {e : Expr} {Q : V → List AObj → Prop} {R : Value → Shared → Prop} (h : WE prog w B A env e ρ σ Q X) (G : St prog w B φ σ s) (L : Loc B env ρ φ s.heap)
    (k : ∀ v s₁ φ₁ σ₁ x, Step [] φ s.heap φ₁ s₁.heap → St prog w B φ₁ σ₁ s₁ → Loc B env ρ φ₁ s₁.heap → Val φ₁ s₁.heap x v → Q x σ₁ → R v s₁) :
    wpAny (model prog w) A (eval e env) R (Post prog w B (fr env) φ s X) s :=
  wpAny_mono (h φ s G L) (fun v s₁ ⟨φ₁, σ₁, t, G₁, x, hx, q⟩ => k v s₁ φ₁ σ₁ x t G₁ (L.step G t) hx q) fun e s' ⟨φ', σ', t, G', x⟩ => ⟨φ', σ', t.nilD, G', x⟩
theorem WT.then {e : Expr} {Q : Bool → List AObj → Prop} {R : Bool → Shared → Prop} (h : WT prog w B A env e ρ σ Q X) (G : St prog w B φ σ s) (L : Loc B env ρ φ s.heap)
    (k : ∀ b s₁ φ₁ σ₁, Step [] φ s.heap φ₁ s₁.heap → St prog w B φ₁ σ₁ s₁ → Loc B env ρ φ₁ s₁.heap → Q b σ₁ → R b s₁) :
    wpAny (model prog w) A (isTrue e env (eval e env)) R (Post prog w B (fr env) φ s X) s :=
  wpAny_mono (h φ s G L) (fun v s₁ ⟨φ₁, σ₁, t, G₁, q⟩ => k v s₁ φ₁ σ₁ t G₁ (L.step G t) q) fun e s' ⟨φ', σ', t, G', x⟩ => ⟨φ', σ', t.nilD, G', x⟩

theorem Post.transF {α : Type} {Q : α → List Addr → List AObj → Shared → Prop} {a : α} {s' : Shared} (t : Step (fr env) φ s.heap φ₁ s₁.heap) (L : Loc B env ρ₁ φ₁ s₁.heap) (h : Post prog w B (fr env) φ₁ s₁ Q a s') : Post prog w B (fr env) φ s Q a s' := by
  obtain ⟨φ', σ', t', G', q⟩ := h
  exact ⟨φ', σ', t.transF t' L, G', q⟩
theorem WX.last {ss : List Stmt} {Q : Fl → List (Str × V) → List AObj → Prop} {σ₁ : List AObj} (h : WX prog w B A env ss ρ₁ σ₁ Q X) (G₁ : St prog w B φ₁ σ₁ s₁) (L₁ : Loc B env ρ₁ φ₁ s₁.heap) (t : Step (fr env) φ s.heap φ₁ s₁.heap) :
    wpAny (model prog w) A (execs ss env) (Post prog w B (fr env) φ s (fQ B env Q)) (Post prog w B (fr env) φ s X) s₁ :=
  wpAny_mono (h φ₁ s₁ G₁ L₁) (fun _ _ p => p.transF t L₁) fun _ _ p => p.transF t L₁

/-! statements -/
theorem X_nil {Q : Fl → List (Str × V) → List AObj → Prop} (q : Q .next ρ σ) : WX prog w B A env [] ρ σ Q X :=
  fun φ s G L => wpAny_execs_nil ⟨φ, σ, .refl .., G, .next, ρ, rfl, L, q⟩
/-- the rest behind a statement -/
def seqQ (prog : Program) (w : World) (B : Shared) (A : Around) (env : Env) (rest : List Stmt) (Q : Fl → List (Str × V) → List AObj → Prop) (X : XT) : Fl → List (Str × V) → List AObj → Prop
  | .next, ρ', σ' => WX prog w B A env rest ρ' σ' Q X
  | f, ρ', σ' => Q f ρ' σ'
theorem X_cons {st : Stmt} {rest : List Stmt} {Q : Fl → List (Str × V) → List AObj → Prop} (h : WX1 prog w B A env st ρ σ (seqQ prog w B A env rest Q X) X) : WX prog w B A env (st :: rest) ρ σ Q X :=
  fun φ s G L => wpAny_execs_cons (wpAny_mono (h φ s G L) (fun f s₁ ⟨φ₁, σ₁, t₁, G₁, fl, ρ₁, hf, L₁, q⟩ => by
    cases fl with
    | next => obtain rfl : f = .next := hf; exact WX.last q G₁ L₁ t₁
    | brk => obtain rfl : f = .brk := hf; exact ⟨φ₁, σ₁, t₁, G₁, .brk, ρ₁, rfl, L₁, q⟩
    | cont => obtain rfl : f = .cont := hf; exact ⟨φ₁, σ₁, t₁, G₁, .cont, ρ₁, rfl, L₁, q⟩
    | ret x => obtain ⟨v, rfl, hv⟩ := hf; exact ⟨φ₁, σ₁, t₁, G₁, .ret x, ρ₁, ⟨v, rfl, hv⟩, L₁, q⟩) fun _ _ x => x)
theorem X_return {e : Expr} {pos : Pos} {Q : Fl → List (Str × V) → List AObj → Prop} (h : WE prog w B A env e ρ σ (fun x σ₁ => Q (.ret x) ρ σ₁) X) : WX1 prog w B A env (.Return (some e) pos) ρ σ Q X :=
  fun φ s G L => wpAny_Return_some (h.then G L fun v s₁ φ₁ σ₁ x t G₁ L₁ hx q => ⟨φ₁, σ₁, t.nilD, G₁, .ret x, ρ, ⟨v, rfl, hx⟩, L₁, q⟩)
theorem X_if {test : Expr} {body orelse : List Stmt} {pos : Pos} {Q : Fl → List (Str × V) → List AObj → Prop}
    (h : WT prog w B A env test ρ σ (fun b σ₁ => if b then WX prog w B A env body ρ σ₁ Q X else WX prog w B A env orelse ρ σ₁ Q X) X) : WX1 prog w B A env (.If test body orelse pos) ρ σ Q X :=
  fun φ s G L => wpAny_If (h.then G L fun b s₁ φ₁ σ₁ t G₁ L₁ q => by
    cases b
    · exact WX.last q G₁ L₁ t.nilD
    · exact WX.last q G₁ L₁ t.nilD)

theorem Bnd.sameBut {h h' : Heap} {c : Addr} {y : Str} {val : Value} (hb : Bnd env h y val) (hs : Heap.SameBut c h h') (hl : env.kindOf y = some .local → c ≠ env.locals) (hc : ∀ d, (y, d) ∈ env.cells → d ≠ c) : Bnd env h' y val := by
  rcases hb with ⟨k, m, n, e⟩ | ⟨k, d, e, n⟩
  · exact .inl ⟨k, m, n.sameBut hs (Ne.symm (hl k)), e⟩
  · exact .inr ⟨k, d, e, n.sameBut hs (hc d (mem_of_lookup e))⟩

theorem locals_ne_cell {h : Heap} (L : Loc B env ρ φ h) {x : Str} {c : Addr} (hm : (x, c) ∈ env.cells) : c ≠ env.locals := fun e => by
  obtain ⟨m, o, es, ep, e1, hd, _⟩ := L.ns
  obtain ⟨v, o', e2, hd'⟩ := L.cells x c hm
  rw [e, e1] at e2; cases e2
  rw [hd] at hd'; cases hd'

theorem lookup_cons_ne {ρ : List (Str × V)} {x y : Str} {v : V} (h : y ≠ x) : ((x, v) :: ρ).lookup y = ρ.lookup y := by
  rw [List.lookup_cons]
  have : (y == x) = false := by simpa using h
  rw [this]

/-- a local name stored -/
theorem store_local {x : Str} {v : Value} {y : V} {Q : Unit → Shared → Prop} {E : Value → Shared → Prop} (G : St prog w B φ σ s) (L : Loc B env ρ φ s.heap) (hv : Val φ s.heap y v)
    (hx : env.kindOf x = some .local)
    (k : ∀ h' tk, Heap.SameBut env.locals s.heap h' → St prog w B φ σ { s with heap := h', toks := tk } → Loc B env ((x, y) :: ρ) φ h' → Q () { s with heap := h', toks := tk }) :
    wpAny (model prog w) A (storeName env x v) Q E s := by
  obtain ⟨m, hm⟩ := L.ns
  refine wpAny_storeName_local hx hm (fun h' hn hs => ?_) (by rw [L.kind]; rfl)
  have hns : ∀ o, s.heap.get? env.locals = some o → ¬ Still o := fr_notStill L _ (.head _)
  have hown := L.own _ (List.mem_cons_self (l := env.cells.map (·.2)) (a := env.locals))
  refine k h' _ hs (G.sameBut (s' := { s with heap := h', toks := s.toks + 1 }) hs hown.1 hown.2 hns) ⟨L.kind, L.glob, L.blt, ⟨_, hn⟩, L.own, fun z c hz => ?_, L.apart, fun z u hz => ?_⟩
  · obtain ⟨v', n'⟩ := L.cells z c hz
    exact ⟨v', n'.sameBut hs (locals_ne_cell L hz)⟩
  · by_cases hzx : z = x
    · subst hzx
      rw [List.lookup_cons_self] at hz; cases hz
      exact ⟨v, .inl ⟨hx, _, hn, by simp⟩, hv.sameBut hs hns⟩
    · rw [lookup_cons_ne hzx] at hz
      obtain ⟨val, hb, hv'⟩ := L.val z u hz
      refine ⟨val, ?_, hv'.sameBut hs hns⟩
      rcases hb with ⟨k', m', n', e'⟩ | ⟨k', d, e', n'⟩
      · refine .inl ⟨k', _, hn, ?_⟩
        obtain ⟨o1, es1, ep1, a1, a2, a3, a4⟩ := hm
        obtain ⟨o2, es2, ep2, b1, b2, b3, b4⟩ := n'
        rw [a1] at b1; cases b1; rw [a2] at b2; cases b2
        rw [if_neg hzx, ← a4 z, b4 z]; exact e'
      · exact .inr ⟨k', d, e', n'.sameBut hs (locals_ne_cell L (mem_of_lookup e'))⟩

/-- a name stored -/
theorem store_name {x : Str} {v : Value} {y : V} {Q : Unit → Shared → Prop} {E : Value → Shared → Prop} (G : St prog w B φ σ s) (L : Loc B env ρ φ s.heap) (hv : Val φ s.heap y v)
    (hx : env.kindOf x = some .local ∨ env.kindOf x = some .cell ∧ (env.cells.lookup x).isSome = true)
    (k : ∀ h' tk, Step (fr env) φ s.heap φ h' → St prog w B φ σ { s with heap := h', toks := tk } → Loc B env ((x, y) :: ρ) φ h' → Q () { s with heap := h', toks := tk }) :
    wpAny (model prog w) A (storeName env x v) Q E s := by
  rcases hx with hx | ⟨hx, hc⟩
  · exact store_local G L hv hx fun h' tk hs G' L' => k h' tk ⟨List.prefix_refl _, fun _ h => .inl h, fun b o e h1 h2 => ⟨o, hs.extBut b o (fun h => h2 (h ▸ .head _)) e, .refl o⟩⟩ G' L'
  · obtain ⟨c, hc⟩ := Option.isSome_iff_exists.mp hc
    have hcm := mem_of_lookup hc
    obtain ⟨v₀, hc0⟩ := L.cells x c hcm
    refine wpAny_storeName_cell L.kind hx hc hc0 fun h' hn hs => ?_
    have hns : ∀ o, s.heap.get? c = some o → ¬ Still o := fr_notStill L _ (mem_fr_cell hcm)
    have hown := L.own _ (mem_fr_cell hcm)
    refine k h' s.toks ⟨List.prefix_refl _, fun _ h => .inl h, fun b o e h1 h2 => ⟨o, hs.extBut b o (fun h => h2 (h ▸ mem_fr_cell hcm)) e, .refl o⟩⟩ (G.sameBut (s' := { s with heap := h' }) hs hown.1 hown.2 hns) ⟨L.kind, L.glob, L.blt, ?_, L.own, fun z d hz => ?_, L.apart, fun z u hz => ?_⟩
    · obtain ⟨m, hm⟩ := L.ns; exact ⟨m, hm.sameBut hs (Ne.symm (locals_ne_cell L hcm))⟩
    · by_cases hdc : d = c
      · subst hdc; exact ⟨_, hn⟩
      · obtain ⟨v', n'⟩ := L.cells z d hz; exact ⟨v', n'.sameBut hs hdc⟩
    · by_cases hzx : z = x
      · subst hzx
        rw [List.lookup_cons_self] at hz; cases hz
        exact ⟨v, .inr ⟨.inl hx, c, hc, hn⟩, hv.sameBut hs hns⟩
      · rw [lookup_cons_ne hzx] at hz
        obtain ⟨val, hb, hv'⟩ := L.val z u hz
        refine ⟨val, hb.sameBut hs (fun _ => locals_ne_cell L hcm) fun d hd e => hzx ?_, hv'.sameBut hs hns⟩
        exact name_of_addr L.apart hd (e ▸ hcm)

theorem X_assign {x : Str} {e : Expr} {px pos : Pos} {Q : Fl → List (Str × V) → List AObj → Prop} (h : WE prog w B A env e ρ σ (fun y σ₁ => Q .next ((x, y) :: ρ) σ₁) X)
    (hx : env.kindOf x = some .local ∨ env.kindOf x = some .cell ∧ (env.cells.lookup x).isSome = true)
    (hs : swapsWith e (some (.Name x px)) pos.line env = pure false := by with_unfolding_all rfl) : WX1 prog w B A env (.Assign [.Name x px] e pos) ρ σ Q X :=
  fun φ s G L => wpAny_Assign_Name (h.then G L fun v s₁ φ₁ σ₁ y t G₁ L₁ hy q => store_name G₁ L₁ hy hx fun h' tk t' G' L' => ⟨φ₁, σ₁, Step.transF t.nilD t' L₁, G', .next, _, rfl, L', q⟩) hs
end
end Mine

set_option autoImplicit false
set_option linter.unusedVariables false
namespace Mine
open PySem PySem.Calls PyProof.Rows

/-! what a value names of the heap -/
mutual
def V.lt (n : Nat) : V → Prop
  | .ref k => k < n
  | .tup xs => Vs.lt n xs
  | _ => True
def Vs.lt (n : Nat) : List V → Prop
  | [] => True
  | x :: xs => V.lt n x ∧ Vs.lt n xs
end
mutual
theorem Val.isLt {φ : List Addr} {h : Heap} : ∀ (x : V) {v : Value}, Val φ h x v → x.lt φ.length
  | .none, _, _ | .bool _, _, _ | .int _, _, _ | .str _, _, _ | .raw _, _, _ | .exc _, _, _ | .rng .., _, _ => by simp [V.lt]
  | .ref k, _, e => by rw [Val] at e; obtain ⟨a, _, ha⟩ := e; rw [V.lt]; exact (List.getElem?_eq_some_iff.mp ha).1
  | .tup xs, _, e => by rw [Val] at e; obtain ⟨a, vs, _, _, hv⟩ := e; rw [V.lt]; exact Vals.isLt xs hv
theorem Vals.isLt {φ : List Addr} {h : Heap} : ∀ (xs : List V) {vs : List Value}, Vals φ h xs vs → Vs.lt φ.length xs
  | [], _, _ => by simp [Vs.lt]
  | x :: xs, _, e => by rw [Vals] at e; obtain ⟨v, r, _, h1, h2⟩ := e; rw [Vs.lt]; exact ⟨Val.isLt x h1, Vals.isLt xs h2⟩
end
mutual
theorem Val.cut {φ φ' : List Addr} {h : Heap} (hp : φ <+: φ') : ∀ (x : V) {v : Value}, x.lt φ.length → Val φ' h x v → Val φ h x v
  | .none, _, _, e | .bool _, _, _, e | .int _, _, _, e | .str _, _, _, e | .raw _, _, _, e | .exc _, _, _, e | .rng .., _, _, e => by simpa [Val] using e
  | .ref k, _, hl, e => by
    rw [Val] at e ⊢
    rw [V.lt] at hl
    obtain ⟨a, rfl, ha⟩ := e
    obtain ⟨r, rfl⟩ := hp
    rw [List.getElem?_append_left hl] at ha
    exact ⟨a, rfl, ha⟩
  | .tup xs, _, hl, e => by
    rw [Val] at e ⊢
    rw [V.lt] at hl
    obtain ⟨a, vs, h1, h2, hv⟩ := e
    exact ⟨a, vs, h1, h2, Vals.cut hp xs hl hv⟩
theorem Vals.cut {φ φ' : List Addr} {h : Heap} (hp : φ <+: φ') : ∀ (xs : List V) {vs : List Value}, Vs.lt φ.length xs → Vals φ' h xs vs → Vals φ h xs vs
  | [], _, _, e => by simpa [Vals] using e
  | x :: xs, _, hl, e => by
    rw [Vals] at e ⊢
    rw [Vs.lt] at hl
    obtain ⟨v, r, h0, h1, h2⟩ := e
    exact ⟨v, r, h0, Val.cut hp x hl.1 h1, Vals.cut hp xs hl.2 h2⟩
end

def AObj.lt (n : Nat) : AObj → Prop
  | .list xs => Vs.lt n xs
  | .dict es _ => ∀ e ∈ es, e.2.lt n
  | .inst _ k => k < n
  | .ns as => ∀ x v, as.lookup x = some v → v.lt n
  | .set _ => True

theorem Ents.isLt {φ : List Addr} {h : Heap} {es : List (Key × V)} {kvs : List (Key × Value)} (e : Ents φ h es kvs) : ∀ p ∈ es, p.2.lt φ.length := by
  induction e with
  | nil => intro p hp; cases hp
  | cons h1 _ ih => intro p hp; rcases List.mem_cons.mp hp with rfl | hp; exact Val.isLt _ h1; exact ih p hp
theorem Ents.cut {φ φ' : List Addr} {h : Heap} (hp : φ <+: φ') {es : List (Key × V)} {kvs : List (Key × Value)} (e : Ents φ' h es kvs) (hl : ∀ p ∈ es, p.2.lt φ.length) : Ents φ h es kvs := by
  induction e with
  | nil => exact .nil
  | cons h1 _ ih => exact .cons (Val.cut hp _ (hl _ (.head _)) h1) (ih fun p hp => hl p (.tail _ hp))

section
variable {prog : Program} {w : World} {B : Shared} {φ φ' φ₁ : List Addr} {σ σ' : List AObj} {s s' s₁ : Shared} {env : Env} {ρ : List (Str × V)} {A : Around} {X : XT}

theorem ObjR.isLt {h : Heap} {a : Addr} {ob : AObj} (r : ObjR prog w φ h a ob) : ob.lt φ.length := by
  cases ob with
  | list xs => obtain ⟨vs, n, _, hv⟩ := r; exact Vals.isLt _ hv
  | dict es e => obtain ⟨kvs, ep, _, hv, _⟩ := r; exact hv.isLt
  | inst C k => obtain ⟨d, _, hd⟩ := r; exact (List.getElem?_eq_some_iff.mp hd).1
  | set ss => trivial
  | ns as =>
    obtain ⟨es, n, _, _, _, h3⟩ := r
    intro x v hx
    have := h3 x
    rw [hx] at this
    obtain ⟨val, _, hv⟩ := this
    exact Val.isLt _ hv
theorem ObjR.cut {h : Heap} {a : Addr} {ob : AObj} (hp : φ <+: φ') (r : ObjR prog w φ' h a ob) (hl : ob.lt φ.length) : ObjR prog w φ h a ob := by
  cases ob with
  | list xs => obtain ⟨vs, n, e, hv⟩ := r; exact ⟨vs, n, e, Vals.cut hp _ hl hv⟩
  | dict es e => obtain ⟨kvs, ep, h1, hv, h2⟩ := r; exact ⟨kvs, ep, h1, hv.cut hp hl, h2⟩
  | set ss => exact r
  | inst C k =>
    obtain ⟨d, e, hd⟩ := r
    obtain ⟨r, rfl⟩ := hp
    rw [List.getElem?_append_left hl] at hd
    exact ⟨d, e, hd⟩
  | ns as =>
    obtain ⟨es, n, e, h1, h2, h3⟩ := r
    refine ⟨es, n, e, h1, h2, fun x => ?_⟩
    have := h3 x
    cases hx : as.lookup x with
    | none => rw [hx] at this; exact this
    | some v => rw [hx] at this; obtain ⟨val, e1, e2⟩ := this; exact ⟨val, e1, Val.cut hp v (hl x v hx) e2⟩

theorem St.closed (G : St prog w B φ σ s) : ∀ ob ∈ σ, ob.lt σ.length := fun ob ho => by
  obtain ⟨k, hk, rfl⟩ := List.mem_iff_getElem.mp ho
  rw [← G.len]
  exact (G.objs k _ σ[k] (List.getElem?_eq_getElem (G.len ▸ hk)) (List.getElem?_eq_getElem hk)).isLt

/-- what is behind is forgotten -/
theorem St.trunc {σ₁ junk : List AObj} (G : St prog w B φ' (σ₁ ++ junk) s) (hp : φ <+: φ') (hn : φ.length = σ₁.length) (hc : ∀ ob ∈ σ₁, ob.lt σ₁.length) : St prog w B φ σ₁ s := by
  refine ⟨G.base, fun a ha => G.new a (hp.subset ha), G.nodup.sublist hp.sublist, hn, fun k a ob h1 h2 => ?_, G.gens, G.os, G.sys.1, fun h => G.sys.2 (hp.subset h)⟩
  have hk := (List.getElem?_eq_some_iff.mp h1).1
  obtain ⟨r, rfl⟩ := hp
  refine (G.objs k a ob (by rw [List.getElem?_append_left hk]; exact h1) (by rw [List.getElem?_append_left (hn ▸ hk)]; exact h2)).cut (List.prefix_append _ _) (hn ▸ hc ob (List.mem_of_getElem? h2))
/-- one object of what is behind is kept -/
theorem St.pick {j1 j2 : List AObj} {ob : AObj} (G : St prog w B φ' (σ ++ j1 ++ ob :: j2) s') (hp : φ <+: φ') (hn : φ.length = σ.length) (hc : ∀ ob ∈ σ, ob.lt σ.length) (ho : ob.lt σ.length) :
    ∃ c, φ'[σ.length + j1.length]? = some c ∧ c ∉ φ ∧ St prog w B (φ ++ [c]) (σ ++ [ob]) s' := by
  have hl : σ.length + j1.length < φ'.length := by rw [G.len]; simp
  have hidx := List.getElem?_eq_getElem hl
  refine ⟨φ'[σ.length + j1.length], hidx, fun hm => ?_, ?_⟩
  · obtain ⟨i, hi, e⟩ := List.mem_iff_getElem.mp hm
    have h1 : φ'[i]'(Nat.lt_of_lt_of_le hi hp.length_le) = φ'[σ.length + j1.length] := by
      rw [← e]
      exact (hp.getElem hi).symm
    have := (List.getElem_inj G.nodup).mp h1
    omega
  · have hc' : φ'[σ.length + j1.length] ∉ φ := fun hm => by
      obtain ⟨i, hi, e⟩ := List.mem_iff_getElem.mp hm
      have h1 : φ'[i]'(Nat.lt_of_lt_of_le hi hp.length_le) = φ'[σ.length + j1.length] := by
        rw [← e]
        exact (hp.getElem hi).symm
      have := (List.getElem_inj G.nodup).mp h1
      omega
    have r := G.objs _ _ ob hidx (by rw [List.append_assoc, List.getElem?_append_right (by omega), List.getElem?_append_right (by omega)]; simp)
    have r' := r.cut hp (hn ▸ ho)
    refine ⟨G.base, fun a ha => ?_, ?_, by simp [hn], fun k a ob' h1 h2 => ?_, G.gens, G.os, G.sys.1, fun h => (List.mem_append.mp h).elim (fun h => G.sys.2 (hp.subset h)) fun h => G.sys.2 ((List.mem_singleton.mp h) ▸ List.getElem_mem _)⟩
    · rcases List.mem_append.mp ha with h | h
      · exact G.new a (hp.subset h)
      · obtain rfl := List.mem_singleton.mp h; exact G.new _ (List.getElem_mem _)
    · exact List.nodup_append.mpr ⟨G.nodup.sublist hp.sublist, by simp, fun a ha b hb e => hc' (by obtain rfl := List.mem_singleton.mp hb; exact e ▸ ha)⟩
    · by_cases hk : k < φ.length
      · rw [List.getElem?_append_left hk] at h1
        rw [List.getElem?_append_left (hn ▸ hk)] at h2
        have h3 : φ'[k]? = some a := by obtain ⟨r, rfl⟩ := hp; rw [List.getElem?_append_left hk]; exact h1
        refine ((G.objs k a ob' h3 (by rw [List.append_assoc, List.getElem?_append_left (hn ▸ hk)]; exact h2)).cut hp (hn ▸ hc ob' (List.mem_of_getElem? h2))).mono (List.prefix_append _ _) (fun _ _ e _ => e) fun _ e => e
      · have hk' : k = φ.length := by
          have := (List.getElem?_eq_some_iff.mp h1).1
          simp at this; omega
        subst hk'
        rw [List.getElem?_append_right (Nat.le_refl _)] at h1
        rw [hn, List.getElem?_append_right (Nat.le_refl _)] at h2
        simp at h1 h2
        subst h1 h2
        exact r'.mono (List.prefix_append _ _) (fun _ _ e _ => e) fun _ e => e

/-- what may be forgotten behind a call -/
inductive Clean (σ : List AObj) (Q : V → List AObj → Prop) : V → List AObj → Prop
  | all {x : V} {σ' : List AObj} : Q x σ' → Clean σ Q x σ'
  | none {x : V} {junk : List AObj} : x.lt σ.length → Q x σ → Clean σ Q x (σ ++ junk)
  | one {j1 j2 : List AObj} {ob : AObj} {k : Nat} : k = σ.length + j1.length → ob.lt σ.length → Q (.ref σ.length) (σ ++ [ob]) → Clean σ Q (.ref k) (σ ++ j1 ++ ob :: j2)

theorem WC.clean {f : Value} {xs : List V} {Q : V → List AObj → Prop} (h : WC prog w B A f xs σ (Clean σ Q) X) : WC prog w B A f xs σ Q X := fun φ s vs G hv =>
  wpAny_mono (h φ s vs G hv) (fun v s' ⟨φ', σ', t, G', x, hx, c⟩ => by
    cases c with
    | all q => exact ⟨φ', σ', t, G', x, hx, q⟩
    | none hl q =>
      refine ⟨φ, σ, ⟨List.prefix_refl _, fun _ h => .inl h, t.keep⟩, G'.trunc t.pre G.len G.closed, x, Val.cut t.pre x (G.len ▸ hl) hx, q⟩
    | @one j1 j2 ob k hk hl q =>
      obtain ⟨c, hc, hcφ, G''⟩ := G'.pick t.pre G.len G.closed hl
      have hcm : c ∈ φ' := List.mem_of_getElem? hc
      refine ⟨φ ++ [c], σ ++ [ob], ⟨List.prefix_append _ _, fun a ha => (List.mem_append.mp ha).imp id fun h => ?_, t.keep⟩, G'', .ref σ.length, ?_, q⟩
      · obtain rfl := List.mem_singleton.mp h
        exact (t.fresh a hcm).resolve_left hcφ
      · rw [Val] at hx ⊢
        obtain ⟨a, rfl, ha⟩ := hx
        rw [hk, hc] at ha; cases ha
        exact ⟨c, rfl, by rw [← G.len]; simp⟩) fun _ _ x => x

theorem St.there (G : St prog w B φ σ s) {a : Addr} (ha : a ∈ φ) : ∃ o, s.heap.get? a = some o := by
  obtain ⟨k, hk, rfl⟩ := List.mem_iff_getElem.mp ha
  have hk' : k < σ.length := G.len ▸ hk
  have r := G.objs k _ σ[k] (List.getElem?_eq_getElem hk) (List.getElem?_eq_getElem hk')
  cases hob : σ[k] with
  | list xs => rw [hob] at r; obtain ⟨vs, n, e, _⟩ := r; exact ⟨_, e⟩
  | dict es e => rw [hob] at r; obtain ⟨kvs, ep, ⟨o, es', e, _⟩, _⟩ := r; exact ⟨_, e⟩
  | inst C k => rw [hob] at r; obtain ⟨d, e, _⟩ := r; exact ⟨_, e⟩
  | ns as => rw [hob] at r; obtain ⟨es, n, e, _⟩ := r; exact ⟨_, e⟩
  | set ss => rw [hob] at r; obtain ⟨o', es, ep, t, e, _⟩ := r; exact ⟨_, e⟩

/-! calls of the text's own defs -/
theorem cellsFrom_has : ∀ (names : List (Str × NameKind)) (n : Nat) (acc : List (Str × Addr)) (x : Str), ((acc.lookup x).isSome = true ∨ names.lookup x = some .cell) → ((cellsFrom n names acc).lookup x).isSome = true
  | [], n, acc, x, h => by
    rcases h with h | h
    · exact h
    · cases h
  | (y, k) :: r, n, acc, x, h => by
    unfold cellsFrom
    by_cases hk : (k == NameKind.cell) = true
    · rw [if_pos hk]
      refine cellsFrom_has r (n + 1) _ x ?_
      by_cases hx : x = y
      · subst hx; left; simp
      · rcases h with h | h
        · left; rw [List.lookup_cons]; rw [show (x == y) = false from by simpa using hx]; exact h
        · right; rw [List.lookup_cons, show (x == y) = false from by simpa using hx] at h; exact h
    · rw [if_neg hk]
      refine cellsFrom_has r n _ x ?_
      rcases h with h | h
      · exact .inl h
      · by_cases hx : x = y
        · subst hx; rw [List.lookup_cons_self] at h; cases h; exact absurd rfl hk
        · rw [List.lookup_cons, show (x == y) = false from by simpa using hx] at h; exact .inr h
theorem cellsFrom_keys : ∀ (names : List (Str × NameKind)) (n : Nat) (acc : List (Str × Addr)), ((names.map (·.1)) ++ acc.map (·.1)).Nodup → ((cellsFrom n names acc).map (·.1)).Nodup
  | [], n, acc, h => by unfold cellsFrom; simpa using h
  | (y, k) :: r, n, acc, h => by
    unfold cellsFrom
    split
    · refine cellsFrom_keys r (n + 1) _ ?_
      simp only [List.map_cons]
      exact (List.perm_middle.nodup_iff).mpr (by simpa using h)
    · refine cellsFrom_keys r n _ ?_
      simp only [List.map_cons, List.cons_append, List.nodup_cons] at h
      exact h.2
theorem lookup_of_mem {α : Type} : ∀ {l : List (Str × α)} {x : Str} {c : α}, (l.map (·.1)).Nodup → (x, c) ∈ l → l.lookup x = some c
  | (y, d) :: r, x, c, hn, hm => by
    rcases List.mem_cons.mp hm with e | hm
    · cases e; simp
    · simp only [List.map_cons, List.nodup_cons] at hn
      have hxy : x ≠ y := fun e => hn.1 (e ▸ List.mem_map.mpr ⟨(x, c), hm, rfl⟩)
      rw [List.lookup_cons, show (x == y) = false from by simpa using hxy]
      exact lookup_of_mem hn.2 hm

/-- a def of the text: its names, its body -/
structure Fn (B : Shared) (a : Addr) (names : List Str) (fd : FuncData) (body : List Stmt) : Prop where
  at_ : ∃ o, B.heap.get? a = some o ∧ o.data = .func fd
  lim : B.heap.NoLimit
  code : B.heap.CodeRec fd.code fd.qualname
  body : fd.body = .stmts body
  clo : fd.closure = []
  glob : fd.globals = mainGlobals
  blt : fd.builtins = builtinsNs
  bind : ∀ vals : List Value, vals.length = names.length → bindArgs fd ⟨vals, []⟩ = pure (names.zip vals)
  kinds : ∀ n ∈ names, fd.scope.names.lookup n = some .local ∨ fd.scope.names.lookup n = some .cell
  nodup : names.Nodup
  cnodup : (fd.scope.names.map (·.1)).Nodup
  co : fd.scope.isCoroutine = false
  gen : fd.scope.isGenerator = false
  kind : fd.scope.kind = .function

def retV : Fl → V
  | .ret x => x
  | _ => .none

theorem bindL_at (kindOf : Str → Option NameKind) : ∀ (binds : List (Str × Value)) (m : Str → Option Value) (x : Str), kindOf x = some .local →
    bindL kindOf binds m x = (binds.reverse.lookup x).or (m x)
  | [], m, x, _ => by simp [bindL]
  | (n, v) :: r, m, x, hx => by
    rw [bindL, bindL_at kindOf r _ x hx, List.reverse_cons, List.lookup_append]
    by_cases hn : kindOf n = some .local
    · rw [if_pos hn]
      by_cases hxn : x = n
      · subst hxn; simp
      · simp [hxn, List.lookup_cons, show (x == n) = false from by simpa using hxn]
    · rw [if_neg hn]
      have hxn : x ≠ n := fun e => hn (e ▸ hx)
      simp [List.lookup_cons, show (x == n) = false from by simpa using hxn]
theorem bindC_at (kindOf : Str → Option NameKind) : ∀ (binds : List (Str × Value)) (m : Str → Option Value) (x : Str), kindOf x = some .cell →
    bindC kindOf binds m x = (binds.reverse.lookup x).or (m x)
  | [], m, x, _ => by simp [bindC]
  | (n, v) :: r, m, x, hx => by
    rw [bindC, bindC_at kindOf r _ x hx, List.reverse_cons, List.lookup_append]
    by_cases hn : kindOf n = some .local
    · rw [if_pos hn]
      have hxn : x ≠ n := fun e => by rw [e] at hx; rw [hx] at hn; cases hn
      simp [List.lookup_cons, show (x == n) = false from by simpa using hxn]
    · rw [if_neg hn]
      by_cases hxn : x = n
      · subst hxn; simp
      · simp [hxn, List.lookup_cons, show (x == n) = false from by simpa using hxn]
theorem lookup_reverse_of_nodup {α : Type} {l : List (Str × α)} (h : (l.map (·.1)).Nodup) (x : Str) : l.reverse.lookup x = l.lookup x := by
  cases e : l.lookup x with
  | some v =>
    exact lookup_of_mem (by rw [List.map_reverse]; exact (List.reverse_perm _).nodup_iff.mpr h) (List.mem_reverse.mpr (mem_of_lookup e))
  | none =>
    cases e' : l.reverse.lookup x with
    | none => rfl
    | some v => rw [lookup_of_mem h (List.mem_reverse.mp (mem_of_lookup e'))] at e; cases e
theorem zip_lookup_vals {h : Heap} : ∀ {names : List Str} {xs : List V} {vs : List Value}, Vals φ h xs vs → ∀ {x : Str} {v : V}, (names.zip xs).lookup x = some v → ∃ val, (names.zip vs).lookup x = some val ∧ Val φ h v val
  | [], _, _, _, x, v, hx => by simp at hx
  | n :: ns, [], _, _, x, v, hx => by simp at hx
  | n :: ns, y :: ys, _, e, x, v, hx => by
    rw [Vals] at e
    obtain ⟨u, r, rfl, h1, h2⟩ := e
    rw [List.zip_cons_cons, List.lookup_cons] at hx ⊢
    cases hb : x == n with
    | true => rw [hb] at hx; cases hx; exact ⟨u, rfl, h1⟩
    | false => rw [hb] at hx; exact zip_lookup_vals h2 hx
theorem zip_keys_mem {α : Type} : ∀ {names : List Str} {xs : List α} {x : Str} {v : α}, (names.zip xs).lookup x = some v → x ∈ names := fun {names xs x v} h => (List.of_mem_zip (mem_of_lookup h)).1

theorem C_fn_code {a : Addr} {names : List Str} {fd : FuncData} {body : List Stmt} {xs : List V} {Q : V → List AObj → Prop} (F : Fn B a names fd body) (hlen : xs.length = names.length) (hroom : A.depth < recursionLimit)
    (h : ∀ L, WX prog w B (A.deeper (callEnvC fd L a)) (callEnvC fd L a) body (names.zip xs) σ (fun fl _ σ' => Q (retV fl) σ') (fun _ _ _ _ => False)) :
    ∀ φ s vs, St prog w B φ σ s → Vals φ s.heap xs vs → codeAny (model prog w) A (.call (.ref a) ⟨vs, []⟩) (fun r s' => match r with | .ok (.ret v) => Post prog w B [] φ s (vQ Q) v s' | .ok _ => False | .error e => Post prog w B [] φ s X e s') s := fun φ s vs G hv => by
  obtain ⟨o, ho, hd⟩ := F.at_
  have hvl : vs.length = names.length := hv.length.trans hlen
  refine codeAny_call_cells hroom (G.base _ _ ho) hd (F.lim.keeps G.base) (F.code.keeps G.base) F.body (F.bind vs hvl) F.clo (fun p hp => ?_) (fun s₁ ic => ?_) F.co F.gen F.kind
  · have hn : p.1 ∈ names := (List.of_mem_zip hp).1
    rcases F.kinds _ hn with h1 | h1
    · exact .inl h1
    · exact .inr ⟨h1, cellsFrom_has _ _ _ _ (.inr h1)⟩
  · have hk := ic.toInCall.keep
    obtain ⟨h₁, tk, rfl⟩ := ic.toInCall.same
    have G₁ : St prog w B φ σ { s with heap := h₁, toks := tk } := G.keeps hk
    have hL : s.heap.get? s.heap.objs.size = none := get?_size _
    have hcl : ((callEnvC fd s.heap.objs.size a).cells.map (·.1)).Nodup := cellsFrom_keys _ _ _ (by simpa using F.cnodup)
    have hnew : ∀ c ∈ fr (callEnvC fd s.heap.objs.size a), s.heap.get? c = none := fun c hc => by
      rcases List.mem_cons.mp hc with rfl | hc
      · exact hL
      · obtain ⟨⟨x, d⟩, hm, rfl⟩ := List.mem_map.mp hc
        exact get?_of_ge (Nat.le_of_lt (ic.above x d hm))
    have L₁ : Loc B (callEnvC fd s.heap.objs.size a) (names.zip xs) φ h₁ := by
      refine ⟨F.kind, F.glob, F.blt, ⟨_, ic.toInCall.ns⟩, fun c hc => ⟨fun hm => ?_, G.baseSize (hnew c hc)⟩, fun x c hm => ⟨_, ic.cell x c (lookup_of_mem hcl hm)⟩, ic.apart, fun x v hx => ?_⟩
      · obtain ⟨o', e'⟩ := G.there hm
        rw [hnew c hc] at e'; cases e'
      · have hn := zip_keys_mem hx
        obtain ⟨val, hval, hvv⟩ := zip_lookup_vals (hv.step G (.of_keeps hk)) hx
        have hbl : (names.zip vs).reverse.lookup x = some val := by
          rw [lookup_reverse_of_nodup]; exact hval
          rw [List.map_fst_zip (by omega)]; exact F.nodup
        refine ⟨val, ?_, hvv⟩
        rcases F.kinds x hn with h1 | h1
        · exact .inl ⟨h1, _, ic.toInCall.ns, by rw [bindL_at _ _ _ _ h1, hbl]; rfl⟩
        · obtain ⟨c, hc⟩ := Option.isSome_iff_exists.mp (cellsFrom_has fd.scope.names (s.heap.objs.size + 1) [] x (.inr h1))
          refine .inr ⟨.inl h1, c, hc, ?_⟩
          have := ic.cell x c hc
          rw [bindC_at _ _ _ _ h1, hbl] at this
          exact this
    have tt : Step [] φ s.heap φ h₁ := .of_keeps hk
    refine wpAny_mono (h s.heap.objs.size φ _ G₁ L₁) (fun f s' hx => ?_) (fun e s' hx => by obtain ⟨_, _, _, _, x⟩ := hx; exact x.elim)
    obtain ⟨φ', σ', t, G', fl, ρ', hf, L', q⟩ := hx
    have t' : Step [] φ s.heap φ' s'.heap := by
      refine ⟨t.pre, fun b hb => ?_, fun b o e h1 _ => t.keep b o (hk b o e) h1 fun hb => ?_⟩
      · rcases t.fresh b hb with h1 | h1
        · exact .inl h1
        · right
          cases e : s.heap.get? b with
          | none => rfl
          | some o => rw [hk b o e] at h1; cases h1
      · rw [hnew b hb] at e; cases e
    refine ⟨φ', σ', t', G', retV fl, ?_, q⟩
    cases fl with
    | next => obtain rfl : f = .next := hf; simp [retV, Val]
    | brk => obtain rfl : f = .brk := hf; simp [retV, Val]
    | cont => obtain rfl : f = .cont := hf; simp [retV, Val]
    | ret x => obtain ⟨v, rfl, hv⟩ := hf; exact hv
theorem C_fn {a : Addr} {names : List Str} {fd : FuncData} {body : List Stmt} {xs : List V} {Q : V → List AObj → Prop} (F : Fn B a names fd body) (hlen : xs.length = names.length) (hroom : A.depth < recursionLimit)
    (h : ∀ L, WX prog w B (A.deeper (callEnvC fd L a)) (callEnvC fd L a) body (names.zip xs) σ (fun fl _ σ' => Q (retV fl) σ') (fun _ _ _ _ => False)) :
    WC prog w B A (.ref a) xs σ Q X := fun φ s vs G hv => wpAny_call (C_fn_code F hlen hroom h φ s vs G hv)
end
end Mine

set_option autoImplicit false
set_option linter.unusedVariables false
namespace Mine
open PySem PySem.Calls PyProof.Rows

section
variable {prog : Program} {w : World} {B : Shared} {φ : List Addr} {σ : List AObj} {s : Shared} {env : Env} {ρ : List (Str × V)} {A : Around} {X : XT} {Q : V → List AObj → Prop}

theorem Val.int_ {h : Heap} (i : Int) (t : Tok) : Val φ h (.int i) (.int i t) := by rw [Val]; exact ⟨t, rfl⟩
theorem Val.str_ {h : Heap} (x : Str) (t : Tok) : Val φ h (.str x) (.str x t) := by rw [Val]; exact ⟨t, rfl⟩
theorem Val.bool_ {h : Heap} (b : Bool) : Val φ h (.bool b) (.bool b) := by rw [Val]
theorem Val.of_int {h : Heap} {i : Int} {v : Value} (e : Val φ h (.int i) v) : ∃ t, v = .int i t := by rw [Val] at e; exact e
theorem Val.of_str {h : Heap} {x : Str} {v : Value} (e : Val φ h (.str x) v) : ∃ t, v = .str x t := by rw [Val] at e; exact e
theorem Val.of_bool {h : Heap} {b : Bool} {v : Value} (e : Val φ h (.bool b) v) : v = .bool b := by rw [Val] at e; exact e
theorem Val.of_none {h : Heap} {v : Value} (e : Val φ h .none v) : v = .none := by rw [Val] at e; exact e
theorem Val.of_raw {h : Heap} {u v : Value} (e : Val φ h (.raw u) v) : v = u := by rw [Val] at e; exact e
theorem Val.of_ref {h : Heap} {k : Nat} {v : Value} (e : Val φ h (.ref k) v) : ∃ a, v = .ref a ∧ φ[k]? = some a := by rw [Val] at e; exact e
theorem Val.of_tup {h : Heap} {xs : List V} {v : Value} (e : Val φ h (.tup xs) v) : ∃ a vs, v = .ref a ∧ IsTup h a vs ∧ Vals φ h xs vs.toList := by rw [Val] at e; exact e
theorem Val.raw_ {h : Heap} (v : Value) : Val φ h (.raw v) v := by rw [Val]

theorem beqD {α : Type} [DecidableEq α] (a b : α) : (a == b) = decide (a = b) := by rw [Bool.eq_iff_iff]; simp

/-! ints -/
theorem O_add {a b : Int} (q : Q (.int (a + b)) σ) : W2 prog w B A (binaryOp .Add) (.int a) (.int b) σ Q X := fun φ s v u G hv hu => by
  obtain ⟨t, rfl⟩ := hv.of_int; obtain ⟨t', rfl⟩ := hu.of_int
  exact wpAny_add_int (Post.tok G ⟨_, .int_ _ _, q⟩)
theorem O_sub {a b : Int} (q : Q (.int (a - b)) σ) : W2 prog w B A (binaryOp .Sub) (.int a) (.int b) σ Q X := fun φ s v u G hv hu => by
  obtain ⟨t, rfl⟩ := hv.of_int; obtain ⟨t', rfl⟩ := hu.of_int
  exact P.sub_int (Post.tok G ⟨_, .int_ _ _, q⟩)
theorem O_mul {a b : Int} (q : Q (.int (a * b)) σ) (hm : a.natAbs < 2 ^ 63 ∨ b.natAbs < 2 ^ 63) : W2 prog w B A (binaryOp .Mult) (.int a) (.int b) σ Q X := fun φ s v u G hv hu => by
  obtain ⟨t, rfl⟩ := hv.of_int; obtain ⟨t', rfl⟩ := hu.of_int
  exact P.mul_int (Post.tok G ⟨_, .int_ _ _, q⟩) (hm.elim (fun h => IntMulOk.of_left (intBits_le_64 (by omega) (by omega))) fun h => IntMulOk.of_right (intBits_le_64 (by omega) (by omega)))
theorem O_div {a b : Int} (q : Q (.int (a / b)) σ) (hb : 0 < b) (hs : b.natAbs.log2 < 9000) : W2 prog w B A (binaryOp .FloorDiv) (.int a) (.int b) σ Q X := fun φ s v u G hv hu => by
  obtain ⟨t, rfl⟩ := hv.of_int; obtain ⟨t', rfl⟩ := hu.of_int
  refine floordiv_int (by omega) ?_ (.inl (PyProof.noPylong_of_log2 hs))
  rw [Int.fdiv_eq_ediv_of_nonneg _ (by omega)]
  exact Post.tok G ⟨_, .int_ _ _, q⟩
theorem O_mod {a b : Int} (q : Q (.int (a % b)) σ) (hb : 0 < b) : W2 prog w B A (binaryOp .Mod) (.int a) (.int b) σ Q X := fun φ s v u G hv hu => by
  obtain ⟨t, rfl⟩ := hv.of_int; obtain ⟨t', rfl⟩ := hu.of_int
  refine mod_int' (by omega) ?_
  rw [Int.fmod_eq_emod_of_nonneg _ (by omega)]
  exact Post.tok G ⟨_, .int_ _ _, q⟩
theorem O_pow {a : Int} {n : Int} (q : Q (.int (a ^ n.toNat)) σ) (hn : 0 ≤ n) (hn2 : n ≤ 1000000) (ha : a.natAbs < 2 ^ 64) : W2 prog w B A (binaryOp .Pow) (.int a) (.int n) σ Q X := fun φ s v u G hv hu => by
  obtain ⟨t, rfl⟩ := hv.of_int; obtain ⟨t', rfl⟩ := hu.of_int
  exact pow_int_small hn hn2 ha (Post.tok G ⟨_, .int_ _ _, q⟩)
theorem O_lt {a b : Int} (q : Q (.bool (decide (a < b))) σ) : W2 prog w B A (compareOp .Lt) (.int a) (.int b) σ Q X := fun φ s v u G hv hu => by
  obtain ⟨t, rfl⟩ := hv.of_int; obtain ⟨t', rfl⟩ := hu.of_int
  exact P.lt_int (Post.here G ⟨_, .bool_ _, q⟩)
theorem O_gt {a b : Int} (q : Q (.bool (decide (b < a))) σ) : W2 prog w B A (compareOp .Gt) (.int a) (.int b) σ Q X := fun φ s v u G hv hu => by
  obtain ⟨t, rfl⟩ := hv.of_int; obtain ⟨t', rfl⟩ := hu.of_int
  exact P.gt_int (Post.here G ⟨_, .bool_ _, q⟩)
theorem O_eq {a b : Int} (q : Q (.bool (decide (a = b))) σ) : W2 prog w B A (compareOp .Eq) (.int a) (.int b) σ Q X := fun φ s v u G hv hu => by
  obtain ⟨t, rfl⟩ := hv.of_int; obtain ⟨t', rfl⟩ := hu.of_int
  exact P.eq_int (Post.here G ⟨_, .bool_ _, by rw [beqD]; exact q⟩)
theorem O_ne {a b : Int} (q : Q (.bool (!decide (a = b))) σ) : W2 prog w B A (compareOp .NotEq) (.int a) (.int b) σ Q X := fun φ s v u G hv hu => by
  obtain ⟨t, rfl⟩ := hv.of_int; obtain ⟨t', rfl⟩ := hu.of_int
  exact P.ne_int (Post.here G ⟨_, .bool_ _, by rw [bne, beqD]; exact q⟩)

/-! strs -/
theorem O_adds {x y : Str} (q : Q (.str (x ++ y)) σ) (hsz : x.length + y.length ≤ sizeLine) : W2 prog w B A (binaryOp .Add) (.str x) (.str y) σ Q X := fun φ s v u G hv hu => by
  obtain ⟨t, rfl⟩ := hv.of_str; obtain ⟨t', rfl⟩ := hu.of_str
  exact PyProof.Rows.add_str (fun t' tk => Post.tok G ⟨_, .str_ _ _, q⟩) hsz
/-! bools -/
/-! is -/
/-! truth -/
theorem T_b {b : Bool} {Q : Bool → List AObj → Prop} (q : Q b σ) : W1 prog w B A truthy (.bool b) σ (bQ Q) X := fun φ s v G hv => by
  obtain rfl := hv.of_bool
  exact wpAny_truthy_bool (Post.here G q)
theorem O_not {b : Bool} (q : Q (.bool (!b)) σ) : W1 prog w B A (unaryOp .Not) (.bool b) σ (vQ Q) X := fun φ s v G hv => by
  obtain rfl := hv.of_bool
  exact not_of (wpAny_truthy_bool (Post.here G ⟨_, .bool_ _, q⟩))

/-! chains of comparisons -/
/-! and, or of any number, as values -/
def WBo (prog : Program) (w : World) (B : Shared) (A : Around) (env : Env) (op : BoolOp) (es : List Expr) (ρ : List (Str × V)) (σ : List AObj) (Q : V → List AObj → Prop) (X : XT) : Prop :=
  ∀ pos φ s, St prog w B φ σ s → Loc B env ρ φ s.heap → W prog w B A (boolOp pos op (evalEach es env)) φ s (vQ Q) X
theorem E_boolop {op : BoolOp} {es : List Expr} {pos : Pos} (h : WBo prog w B A env op es ρ σ Q X) : WE prog w B A env (.BoolOp op es pos) ρ σ Q X := fun φ s G L => h pos φ s G L
theorem Bo_one {op : BoolOp} {e : Expr} (h : WE prog w B A env e ρ σ Q X) : WBo prog w B A env op [e] ρ σ Q X := fun pos φ s G L => h φ s G L
theorem Bo_and {e e' : Expr} {es : List Expr} (h : WE prog w B A env e ρ σ (fun v σ₁ => W1 prog w B A truthy v σ₁ (bQ fun b σ₂ => if b then WBo prog w B A env .And (e' :: es) ρ σ₂ Q X else Q v σ₂) X) X) : WBo prog w B A env .And (e :: e' :: es) ρ σ Q X := fun pos φ s G L => by
  show wpAny _ _ (do
    let v ← eval e env
    standAt pos
    let t ← holding [v] (truthy v)
    match BoolOp.And, t with
    | .And, false | .Or, true => pure v
    | _, _ => boolOp pos .And (evalEach (e' :: es) env)) _ _ _
  refine wpAny_bind ((h φ s G L).use (.refl ..) fun a s₁ φ₁ σ₁ t₁ _ G₁ ⟨x, hx, h₁⟩ => wpAny_bind (wpAny_standAt (wpAny_bind (wpAny_holding ((h₁ φ₁ s₁ a G₁ hx).use t₁ fun b s₂ φ₂ σ₂ t₂ t G₂ h₂ => ?_)))))
  cases b
  · exact wpAny_pure ⟨_, _, t, G₂, x, hx.step G₁ t₂, h₂⟩
  · exact (h₂ pos φ₂ s₂ G₂ (L.step G t)).last t
/-! built-ins of ints -/
theorem C_max {a b : Int} (hh : A.handled = none) (q : Q (.int (max a b)) σ) : WC prog w B A (.builtin "max") [.int a, .int b] σ Q X := fun φ s vs G hv => by
  rw [Vals] at hv; obtain ⟨v, r, rfl, h1, hv⟩ := hv
  rw [Vals] at hv; obtain ⟨u, r, rfl, h2, hv⟩ := hv
  rw [Vals] at hv; subst hv
  obtain ⟨t, rfl⟩ := h1.of_int; obtain ⟨t', rfl⟩ := h2.of_int
  refine max_two_ints hh fun h' tk hk => ⟨φ, σ, .of_keeps hk, G.keeps hk, .int (max a b), ?_, q⟩
  split
  · rw [Int.max_eq_right (by omega)]; exact .int_ _ _
  · rw [Int.max_eq_left (by omega)]; exact .int_ _ _
theorem C_min {a b : Int} (hh : A.handled = none) (q : Q (.int (min a b)) σ) : WC prog w B A (.builtin "min") [.int a, .int b] σ Q X := fun φ s vs G hv => by
  rw [Vals] at hv; obtain ⟨v, r, rfl, h1, hv⟩ := hv
  rw [Vals] at hv; obtain ⟨u, r, rfl, h2, hv⟩ := hv
  rw [Vals] at hv; subst hv
  obtain ⟨t, rfl⟩ := h1.of_int; obtain ⟨t', rfl⟩ := h2.of_int
  refine min_two_ints hh fun h' tk hk => ⟨φ, σ, .of_keeps hk, G.keeps hk, .int (min a b), ?_, q⟩
  split
  · rw [Int.min_eq_right (by omega)]; exact .int_ _ _
  · rw [Int.min_eq_left (by omega)]; exact .int_ _ _
end
end Mine

set_option autoImplicit false
set_option linter.unusedVariables false
namespace Mine
open PySem PySem.W PySem.Calls PyProof.Rows

/-- what may be called plainly -/
def Keep (B : Shared) (f : Value) : Prop :=
  ∀ (M : Model) (h : Heap), (∀ b o, B.heap.get? b = some o → h.get? b = some o) → ∃ k, (k = Keeper.frame ∨ k = Keeper.machine ∨ k = Keeper.boundFrame) ∧ Looks M h (keeperOf f) k

section
variable {prog : Program} {w : World} {B : Shared} {φ : List Addr} {σ : List AObj} {s : Shared} {env : Env} {ρ : List (Str × V)} {A : Around} {X : XT} {Q : V → List AObj → Prop}

theorem Keep.builtin (id : String) : Keep B (.builtin id) := fun M h _ => ⟨.machine, .inr (.inl rfl), .now⟩
theorem Keep.type (T : String) : Keep B (.type T) := fun M h _ => ⟨.machine, .inr (.inl rfl), .now⟩
theorem Keep.fn {a : Addr} {names : List Str} {fd : FuncData} {body : List Stmt} (F : Fn B a names fd body) : Keep B (.ref a) := fun M h hk => by
  obtain ⟨o, ho, hd⟩ := F.at_
  refine ⟨.frame, .inl rfl, (Looks.ld (part := none) (hk _ _ ho)).andThen ?_⟩
  rw [hd]; exact .now
theorem evalArgs_any {M : Model} {E : Value → Shared → Prop} {f : Value} {args : List (Bool × Sem Value)} {R : Args → Shared → Prop} (hp : args.any (·.1) = false) (h : wpAny M A (spliced args) (fun vs s' => R ⟨vs, []⟩ s') E s) :
    wpAny M A (evalArgs f true args []) R E s := by
  match args, hp, h with
  | [], _, h =>
    unfold evalArgs
    show wpAny M A (spliced [] >>= _) R E s
    refine wpAny_bind (wpAny_mono h (fun vs s' h' => ?_) fun _ _ x => x)
    refine wpAny_holding ?_
    exact wpAny_bind (wpAny_pure (wpAny_bind (wpAny_pure (wpAny_pure h'))))
  | (false, x) :: rest, _, h => exact evalArgs_plain h
  | (true, x) :: rest, hp, _ => simp at hp

theorem E_call {f : Value} {x : Str} {px pos : Pos} {es : List Expr} (hf : WE prog w B A env (.Name x px) ρ σ (fun y σ₁ => y = .raw f ∧ WEs prog w B A env es ρ σ₁ (fun xs σ₂ => WC prog w B A f xs σ₂ Q X) X) X) (hk : Keep B f)
    (hp : ∀ pos, (backTo pos (starEach es env)).any (·.1) = false := by intro _; with_unfolding_all rfl) :
    WE prog w B A env (.Call (.Name x px) es [] pos) ρ σ Q X := fun φ s G L => by
  refine wpAny_Call_NameR ((hf φ s G L).use (.refl ..) fun v s₁ φ₁ σ₁ t₁ _ G₁ ⟨y, hy, e, h₁⟩ => ?_)
  subst e
  have hv := hy.of_raw
  subst hv
  refine callWith_of (P := fun h => ∀ b o, B.heap.get? b = some o → h.get? b = some o) (by rw [hp pos]; rfl) (fun h hb => hk _ h hb) ?_
  have main := (h₁ pos φ₁ s₁ G₁ (L.step G t₁)).use t₁ (R := fun vs s₂ => (∀ b o, B.heap.get? b = some o → s₂.heap.get? b = some o) ∧ wpAny (model prog w) A (call v ([] ++ vs)) (Post prog w B [] φ s (vQ Q)) (Post prog w B [] φ s X) s₂) fun vs s₂ φ₂ σ₂ t₂ t G₂ ⟨xs, hxs, h₂⟩ => ⟨G₂.base, (h₂ φ₂ s₂ vs G₂ hxs).last t⟩
  exact evalArgs_any (hp pos) main
end
end Mine

set_option autoImplicit false
set_option linter.unusedVariables false
namespace Mine
open PySem PySem.W PySem.Calls PyProof.Rows

section
variable {prog : Program} {w : World} {B : Shared} {φ φ' : List Addr} {σ σ' : List AObj} {s s' : Shared} {env : Env} {ρ : List (Str × V)} {A : Around} {X : XT} {Q : V → List AObj → Prop}

/-- an iterator at I that hands out n values -/
structure Itr (prog : Program) (w : World) (B : Shared) (A : Around) (I : Addr) (n : Nat) (el : Nat → V) (C : List AObj → Prop) (Ss : Nat → List Addr → Heap → Prop) : Prop where
  obj : ∀ i φ h, Ss i φ h → ∃ o, h.get? I = some o ∧ o.cls ≠ .type "frame" ∧ ¬ Still o
  frame : ∀ i φ φ' h h', Ss i φ h → φ <+: φ' → (∀ o, h.get? I = some o → h'.get? I = some o) → (∀ a o, h.get? a = some o → Still o → h'.get? a = some o) → Ss i φ' h'
  item : ∀ i φ σ s (Q : Option Value → Shared → Prop) (E : Value → Shared → Prop), i < n → St prog w B φ σ s → C σ → Ss i φ s.heap →
    (∀ v h' tk, Val φ h' (el i) v → Ss (i + 1) φ h' → (∀ b o, b ≠ I → s.heap.get? b = some o → h'.get? b = some o) → Q (some v) { s with heap := h', toks := tk }) → wpAny (model prog w) A (pyNext (.ref I)) Q E s
  done : ∀ φ σ s (Q : Option Value → Shared → Prop) (E : Value → Shared → Prop), St prog w B φ σ s → C σ → Ss n φ s.heap →
    (∀ h' tk, (∀ b o, b ≠ I → s.heap.get? b = some o → h'.get? b = some o) → Q none { s with heap := h', toks := tk }) → wpAny (model prog w) A (pyNext (.ref I)) Q E s
  self : ∀ i φ s (Q : Value → Shared → Prop) (E : Value → Shared → Prop), Ss i φ s.heap → Q (.ref I) s → wpAny (model prog w) A (pyIter (.ref I)) Q E s

/-- a value that can be walked; σ₁: the heap while it is walked -/
def WIt (prog : Program) (w : World) (B : Shared) (A : Around) (x : V) (σ σ₁ : List AObj) (n : Nat) (el : Nat → V) (C : List AObj → Prop) : Prop :=
  ∀ φ s v (R : Value → Shared → Prop) (E : Value → Shared → Prop), St prog w B φ σ s → Val φ s.heap x v →
    (∀ I h₁ Ss, (∀ b o, s.heap.get? b = some o → h₁.get? b = some o) → s.heap.get? I = none → I ∉ φ → Itr prog w B A I n el C Ss → Ss 0 φ h₁ → St prog w B φ σ₁ { s with heap := h₁ } → R (.ref I) { s with heap := h₁ }) →
    wpAny (model prog w) A (pyIter v) R E s

theorem St.but {s' : Shared} {c : Addr} (G : St prog w B φ σ s) (hs : ∀ b o, b ≠ c → s.heap.get? b = some o → s'.heap.get? b = some o) (hc : c ∉ φ) (hb : B.heap.get? c = none) (hn : ∀ o, s.heap.get? c = some o → ¬ Still o)
    (hg : s'.gens = s.gens := by rfl) (ho : s'.os = s.os := by rfl) : St prog w B φ σ s' := by
  refine ⟨fun b o e => hs b o (fun h => by rw [h, hb] at e; cases e) (G.base b o e), G.new, G.nodup, G.len, fun k a ob h1 h2 => ?_, hg.trans G.gens, ho.trans G.os, G.sys⟩
  refine (G.objs k a ob h1 h2).mono (List.prefix_refl _) (fun a o e hst => hs a o (fun h => hn o (h ▸ e) hst) e) fun o e => hs a o (fun h => hc (h ▸ List.mem_of_getElem? h1)) e
theorem Loc.but {h h' : Heap} {c : Addr} (L : Loc B env ρ φ h) (hs : ∀ b o, b ≠ c → h.get? b = some o → h'.get? b = some o) (hc : c ∉ fr env) (hn : ∀ o, h.get? c = some o → ¬ Still o) : Loc B env ρ φ h' := by
  have hk : ∀ a ∈ fr env, ∀ o, h.get? a = some o → ∃ o', h'.get? a = some o' ∧ Sim o o' := fun a ha o e => ⟨o, hs a o (fun h => hc (h ▸ ha)) e, .refl o⟩
  refine ⟨L.kind, L.glob, L.blt, ?_, L.own, fun x d hm => ?_, L.apart, fun x v hx => ?_⟩
  · obtain ⟨m, n⟩ := L.ns; exact ⟨m, Ns.upTo n (hk _ (.head _))⟩
  · obtain ⟨v, n⟩ := L.cells x d hm; exact ⟨v, IsCell.upTo n (hk _ (mem_fr_cell hm))⟩
  · obtain ⟨val, hb, hv⟩ := L.val x v hx
    refine ⟨val, ?_, Val.mono (List.prefix_refl _) (fun a o e hst => hs a o (fun h => hn o (h ▸ e) hst) e) v hv⟩
    rcases hb with ⟨k, m, n, e⟩ | ⟨k, d, e, n⟩
    · exact .inl ⟨k, m, Ns.upTo n (hk _ (.head _)), e⟩
    · exact .inr ⟨k, d, e, IsCell.upTo n (hk _ (mem_fr_cell (mem_of_lookup e)))⟩

/-- what a turn of a loop leaves -/
def turnQ (Iv : List (Str × V) → List AObj → Prop) (C : List AObj → Prop) (Q : Fl → List (Str × V) → List AObj → Prop) : Fl → List (Str × V) → List AObj → Prop
  | .next, ρ', σ' => C σ' ∧ Iv ρ' σ'
  | .cont, ρ', σ' => C σ' ∧ Iv ρ' σ'
  | .brk, ρ', σ' => Q .next ρ' σ'
  | .ret x, ρ', σ' => Q (.ret x) ρ' σ'

theorem X_for {x : Str} {px pos : Pos} {iter : Expr} {body : List Stmt} {Q : Fl → List (Str × V) → List AObj → Prop} 
    (h : WE prog w B A env iter ρ σ (fun v σ' => ∃ σ₁ n el C, ∃ Iv : Nat → List (Str × V) → List AObj → Prop, WIt prog w B A v σ' σ₁ n el C ∧ C σ₁ ∧ Iv 0 ρ σ₁ ∧
      (∀ i ρ₂ σ₂, i < n → C σ₂ → Iv i ρ₂ σ₂ → WX prog w B A env body ((x, el i) :: ρ₂) σ₂ (turnQ (Iv (i + 1)) C Q) (fun _ _ _ _ => False)) ∧
      (∀ ρ₂ σ₂, C σ₂ → Iv n ρ₂ σ₂ → Q .next ρ₂ σ₂)) X)
    (hx : env.kindOf x = some .local ∨ env.kindOf x = some .cell ∧ (env.cells.lookup x).isSome = true)
    (hs : ∀ v, foldedSetIterable iter env v = pure v := by intro _; with_unfolding_all rfl) (hl : ∀ it v, letOwnedTupleGo (.Name x px) it v = pure () := by intro _ _; with_unfolding_all rfl) :
    WX1 prog w B A env (.For (.Name x px) iter body [] pos) ρ σ Q X := fun φ s G L => by
  refine wpAny_For (h.then G L fun v s₁ φ₁ σ' y t₁ G₁ L₁ hy hq => ?_) hs
  obtain ⟨σ₁, n, el, C, Iv, hit, hC, hI, hbody, hend⟩ := hq
  refine hit φ₁ s₁ v _ _ G₁ hy fun I h₁ Ss hk hI0 hIφ W hS G₂ => ?_
  have tk0 : Step [] φ₁ s₁.heap φ₁ h₁ := .of_keeps hk
  have L₂ : Loc B env ρ φ₁ h₁ := L₁.step G₁ tk0
  have hIfr : I ∉ fr env := fun hm => by obtain ⟨o, e, _⟩ := L₁.there hm; rw [hI0] at e; cases e
  have hIB : B.heap.get? I = none := G₁.baseSize hI0
  have hI0' : s.heap.get? I = none := by
    cases e : s.heap.get? I with
    | none => rfl
    | some o =>
      by_cases hm : I ∈ φ
      · exact absurd (t₁.pre.subset hm) hIφ
      · obtain ⟨o', e', _⟩ := t₁.keep I o e hm (fun h => nomatch h); rw [hI0] at e'; cases e'
  have t₂ : Step (fr env) φ s.heap φ₁ h₁ := Step.nilD (t₁.trans0 tk0)
  -- the loop
  refine codeAny_forLoop_any (fun k s' => ∃ i φ' σ' ρ', k = n - i ∧ i ≤ n ∧ Step (fr env) φ s.heap φ' s'.heap ∧ St prog w B φ' σ' s' ∧ Loc B env ρ' φ' s'.heap ∧ I ∉ φ' ∧ Ss i φ' s'.heap ∧ C σ' ∧ Iv i ρ' σ') ?_ n
    ⟨0, φ₁, σ₁, ρ, rfl, Nat.zero_le _, t₂, G₂, L₂, hIφ, hS, hC, hI⟩
  rintro k s' ⟨i, φ', σ', ρ', rfl, hin, tt, G', L', hIφ', hS', hC', hI'⟩
  by_cases hlt : i < n
  · refine W.item i φ' σ' s' _ _ hlt G' hC' hS' fun v h₃ tk hv hS₃ hk₃ => ?_
    refine wpAny_of_eq (hl _ _) ?_
    obtain ⟨oI, heI, hcI, hnI⟩ := W.obj _ _ _ hS'
    have hnI' : ∀ o, s'.heap.get? I = some o → ¬ Still o := fun o e => by rw [heI] at e; cases e; exact hnI
    have G₃ : St prog w B φ' σ' { s' with heap := h₃, toks := tk } := G'.but (s' := { s' with heap := h₃, toks := tk }) hk₃ hIφ' hIB hnI'
    have L₃ : Loc B env ρ' φ' h₃ := L'.but hk₃ hIfr hnI'
    refine wpAny_assign_Name (store_name (s := { s' with heap := h₃, toks := tk }) G₃ L₃ hv hx fun h₄ tk₄ t₄ G₄ L₄ => ?_)
    refine wpAny_mono (hbody i ρ' σ' hlt hC' hI' φ' _ G₄ L₄) (fun f s₅ hx => ?_) (fun e s₅ hx => by obtain ⟨_, _, _, _, x⟩ := hx; exact x.elim)
    obtain ⟨φ₅, σ₅, t₅, G₅, fl, ρ₅, hf, L₅, q⟩ := hx
    have t3 : Step (fr env) φ s.heap φ' h₃ := by
      refine ⟨tt.pre, tt.fresh, fun b o e h1 h2 => ?_⟩
      obtain ⟨o', e', hs'⟩ := tt.keep b o e h1 h2
      exact ⟨o', hk₃ b o' (fun h => by rw [h, hI0'] at e; cases e) e', hs'⟩
    have t5 : Step (fr env) φ s.heap φ₅ s₅.heap := (t3.transF t₄ L₃).transF t₅ L₄
    have hS₄ : Ss (i + 1) φ' h₄ := by
      obtain ⟨oJ, heJ, hcJ, hnJ⟩ := W.obj _ _ _ hS₃
      refine W.frame _ _ _ _ _ hS₃ (List.prefix_refl _) (fun o e => ?_) (t₄.still G₃ (fr_notStill L₃))
      rw [heJ] at e; cases e
      obtain ⟨o', e', hs'⟩ := t₄.keep I oJ heJ hIφ' hIfr
      rw [hs'.same hcJ] at e'; exact e'
    have hIφ₅ : I ∉ φ₅ := fun hm => by
      obtain ⟨oJ, heJ, hcJ, hnJ⟩ := W.obj _ _ _ hS₄
      rcases t₅.fresh I hm with h | h
      · exact hIφ' h
      · rw [heJ] at h; cases h
    have hS₅ : Ss (i + 1) φ₅ s₅.heap := by
      obtain ⟨oJ, heJ, hcJ, hnJ⟩ := W.obj _ _ _ hS₄
      refine W.frame _ _ _ _ _ hS₄ t₅.pre (fun o e => ?_) (t₅.still G₄ (fr_notStill L₄))
      rw [heJ] at e; cases e
      obtain ⟨o', e', hs'⟩ := t₅.keep I oJ heJ hIφ' hIfr
      rw [hs'.same hcJ] at e'; exact e'
    cases fl with
    | next => obtain rfl : f = .next := hf; exact ⟨n - (i + 1), by omega, i + 1, φ₅, σ₅, ρ₅, rfl, hlt, t5, G₅, L₅, hIφ₅, hS₅, q.1, q.2⟩
    | cont => obtain rfl : f = .cont := hf; exact ⟨n - (i + 1), by omega, i + 1, φ₅, σ₅, ρ₅, rfl, hlt, t5, G₅, L₅, hIφ₅, hS₅, q.1, q.2⟩
    | brk => obtain rfl : f = .brk := hf; exact ⟨φ₅, σ₅, t5, G₅, .next, ρ₅, rfl, L₅, q⟩
    | ret y => obtain ⟨u, rfl, hu⟩ := hf; exact ⟨φ₅, σ₅, t5, G₅, .ret y, ρ₅, ⟨u, rfl, hu⟩, L₅, q⟩
  · have hin' : i = n := by omega
    subst hin'
    refine W.done φ' σ' s' _ _ G' hC' hS' fun h₃ tk hk₃ => ?_
    obtain ⟨oI, heI, hcI, hnI⟩ := W.obj _ _ _ hS'
    have hnI' : ∀ o, s'.heap.get? I = some o → ¬ Still o := fun o e => by rw [heI] at e; cases e; exact hnI
    have G₃ : St prog w B φ' σ' { s' with heap := h₃, toks := tk } := G'.but (s' := { s' with heap := h₃, toks := tk }) hk₃ hIφ' hIB hnI'
    have L₃ : Loc B env ρ' φ' h₃ := L'.but hk₃ hIfr hnI'
    have t3 : Step (fr env) φ s.heap φ' h₃ := by
      refine ⟨tt.pre, tt.fresh, fun b o e h1 h2 => ?_⟩
      obtain ⟨o', e', hs'⟩ := tt.keep b o e h1 h2
      exact ⟨o', hk₃ b o' (fun h => by rw [h, hI0'] at e; cases e) e', hs'⟩
    exact wpAny_execs_nil ⟨φ', σ', t3, G₃, .next, ρ', rfl, L₃, hend ρ' σ' hC' hI'⟩
end
end Mine

set_option autoImplicit false
set_option linter.unusedVariables false
namespace Mine
open PySem PySem.W PySem.Calls PyProof.Rows

section
variable {prog : Program} {w : World} {B : Shared} {φ φ' : List Addr} {σ σ' : List AObj} {s s' : Shared} {env : Env} {ρ : List (Str × V)} {A : Around} {X : XT} {Q : V → List AObj → Prop}

theorem St.get (G : St prog w B φ σ s) {k : Nat} {ob : AObj} (h : σ[k]? = some ob) : ∃ a, φ[k]? = some a ∧ ObjR prog w φ s.heap a ob := by
  have hk := (List.getElem?_eq_some_iff.mp h).1
  have e := List.getElem?_eq_getElem (l := φ) (i := k) (G.len ▸ hk)
  exact ⟨_, e, G.objs k _ ob e h⟩
theorem idx_mono {k : Nat} {a : Addr} (hp : φ <+: φ') (h : φ[k]? = some a) : φ'[k]? = some a := by
  obtain ⟨r, rfl⟩ := hp
  rw [List.getElem?_append_left (List.getElem?_eq_some_iff.mp h).1]; exact h

/-- from the library's walks: sources that the call's objects do not touch -/
theorem Itr.ofWalks {I : Addr} {n : Nat} {el : Nat → V} {P : Nat → Value → Prop} {Sw : Nat → Heap → Prop} (W : Walks prog w A I [I] [I] n P Sw)
    (hobj : ∀ i h, Sw i h → ∃ o, h.get? I = some o ∧ o.cls ≠ .type "frame" ∧ ¬ Still o) (hel : ∀ (φ : List Addr) h i v, P i v → Val φ h (el i) v) :
    Itr prog w B A I n el (fun _ => True) (fun i _ h => Sw i h) where
  obj := fun i _ h hs => hobj i h hs
  frame := fun i _ _ h h' hs _ hk _ => W.frame i h h' hs fun b hb o e => by simp at hb; subst hb; exact hk o e
  item := fun i φ σ s Q E hi _ _ hs hq => W.item i s Q E hi hs fun v h' tk hP hS hk => hq v h' tk (hel _ _ _ _ hP) hS fun b o hb e => hk b o (by simpa using hb) e
  done := fun φ σ s Q E _ _ hs hq => W.done s Q E hs fun h' tk hk => hq h' tk fun b o hb e => hk b o (by simpa using hb) e
  self := fun i φ s Q E hs hq => W.self i s Q E hs hq

/-- range(a, b) -/
theorem It_range {a b : Int} (hh : A.handled = none) (h1 : -(2 ^ 62) ≤ a) (h2 : a < 2 ^ 62) (h3 : -(2 ^ 62) ≤ b) (h4 : b < 2 ^ 62) :
    WIt prog w B A (.rng a b 1) σ σ (b - a).toNat (fun i => .int (a + i)) (fun _ => True) := fun φ s v R E G hv k => by
  rw [Val] at hv
  obtain ⟨r, t, u, kk, rfl, ho⟩ := hv
  refine wpAny_pyIter_range ho (small_one h1 h2 h3 h4) ?_
  have hsz : Builtin.Range.rangeSize a b 1 = ((b - a).toNat : Int) := by rw [rangeSize_one]; split <;> omega
  have hk : ∀ (c : Addr) (o : Obj), s.heap.get? c = some o → (s.heap.push { cls := .type "range_iterator", data := .fields #[rawInt a, rawInt (Builtin.Range.rangeSize a b 1), rawInt 1] }).get? c = some o := fun c o e => Heap.get?_push_of_some _ e
  refine k s.heap.objs.size _ _ hk (get?_size _) G.fresh (Itr.ofWalks (Walks.range hh s.heap.objs.size a 1 (b - a).toNat) (fun i h hs => ⟨_, hs, by simp, notStill_type rfl (by decide) (by decide)⟩) fun φ h i v ⟨t, e⟩ => by subst e; simpa using Val.int_ _ _) ?_ (G.keeps hk)
  show IsRangeIter _ _ (a + ((0 : Nat) : Int) * 1) (((b - a).toNat : Int) - ((0 : Nat) : Int)) 1
  have e1 : (a + ((0 : Nat) : Int) * 1) = a := by simp
  have e2 : (((b - a).toNat : Int) - ((0 : Nat) : Int)) = Builtin.Range.rangeSize a b 1 := by rw [hsz]; simp
  rw [e1, e2]
  exact Heap.get?_push_size _ rfl

/-- the signs of a text -/
def signAt (x : Str) (i : Nat) : Str := ⟨#[x.cps.getD i 0]⟩
/-- the items of a list of the call's -/
theorem It_list {k : Nat} {xs : List V} (hh : A.handled = none) (hσ : σ[k]? = some (.list xs)) : WIt prog w B A (.ref k) σ σ xs.length (fun i => xs.getD i .none) (fun σ' => σ'[k]? = some (.list xs)) := fun φ s v R E G hv kont => by
  obtain ⟨a, rfl, ha⟩ := hv.of_ref
  obtain ⟨a', ha', vs, n, ho, hvs⟩ := G.get hσ
  rw [ha] at ha'; cases ha'
  have hk : ∀ (c : Addr) (o : Obj), s.heap.get? c = some o → (s.heap.push { cls := .type "list_iterator", data := .fields #[.ref a, .int 0 0] }).get? c = some o := fun c o e => Heap.get?_push_of_some _ e
  refine wpAny_pyIter_list ⟨_, ho, rfl, n, rfl⟩ (kont s.heap.objs.size _ (fun i φ h => ∃ a, φ[k]? = some a ∧ a ≠ s.heap.objs.size ∧ h.IsListIter s.heap.objs.size a i) hk (get?_size _) G.fresh ?_ ⟨a, ha, fun e => ?_, ⟨_, Heap.get?_push_size _ rfl, rfl, rfl⟩⟩ (G.keeps hk))
  · refine ⟨fun i φ h ⟨a, _, _, o, ho, hc, _⟩ => ⟨o, ho, by rw [hc]; simp, notStill_type hc (by decide) (by decide)⟩, fun i φ φ' h h' ⟨a, ha, hne, o, ho, r⟩ hp hk _ => ⟨a, idx_mono hp ha, hne, o, hk o ho, r⟩, ?_, ?_, fun i φ s Q E ⟨a, _, _, hs⟩ hq => wpAny_pyIter_listiter hs hq⟩
    · intro i φ' σ' s' Q E hi G' hC ⟨a, ha, hne, hs⟩ hq
      obtain ⟨a', ha', vs, n, ho, hvs⟩ := G'.get hC
      rw [ha] at ha'; cases ha'
      obtain ⟨v, hv, hvv⟩ := hvs.get (i := i) (x := xs.getD i .none) (by rw [List.getD_eq_getElem?_getD, List.getElem?_eq_getElem hi]; rfl)
      refine wpAny_pyNext_list_item hs ⟨_, ho, rfl, n, rfl⟩ (by rw [← Array.getElem?_toList]; exact hv) fun h' hs' hsb => ?_
      obtain ⟨oI, heI, hcI, _⟩ := hs
      exact hq v h' _ (hvv.sameBut hsb fun o e => by rw [heI] at e; cases e; exact notStill_type hcI (by decide) (by decide)) ⟨a, ha, hne, hs'⟩ fun b o hb e => hsb.extBut b o hb e
    · intro φ' σ' s' Q E G' hC ⟨a, ha, hne, hs⟩ hq
      obtain ⟨a', ha', vs, n, ho, hvs⟩ := G'.get hC
      rw [ha] at ha'; cases ha'
      refine wpAny_pyNext_list_end hh hs ⟨_, ho, rfl, n, rfl⟩ ?_ fun h' hx => hq h' _ fun b o hb e => hx b o hb e
      have := hvs.length
      rw [← Array.getElem?_toList, List.getElem?_eq_none]; omega
  · rw [e, get?_size] at ho; cases ho

theorem St.notSys (G : St prog w B φ σ s) {a : Addr} (ha : a ∈ φ) : (a == sysModules) = false := by
  cases e : a == sysModules with
  | false => rfl
  | true => exact absurd (eq_of_beq e ▸ ha) G.sys.2

/-- a dict with its epoch held -/
def pin (σ : List AObj) (k : Nat) (es : List (Key × V)) (ep : Nat) : List AObj := σ.set k (.dict es (some ep))
theorem St.pin {k : Nat} {es : List (Key × V)} {e : Option Nat} (G : St prog w B φ σ s) (hσ : σ[k]? = some (.dict es e)) : ∃ ep, (∀ n, e = some n → ep = n) ∧ St prog w B φ (pin σ k es ep) s ∧
    ∃ a kvs, φ[k]? = some a ∧ s.heap.DictAt (kk prog w) a kvs ep ∧ Ents φ s.heap es kvs := by
  obtain ⟨a, ha, kvs, ep, h1, h2, h3⟩ := G.get hσ
  refine ⟨ep, h3, ?_, a, kvs, ha, h1, h2⟩
  have hk := (List.getElem?_eq_some_iff.mp hσ).1
  refine ⟨G.base, G.new, G.nodup, by simp [Mine.pin, G.len], fun j b ob j1 j2 => ?_, G.gens, G.os, G.sys⟩
  by_cases hj : j = k
  · subst hj
    rw [Mine.pin, List.getElem?_set_self hk] at j2; cases j2
    rw [ha] at j1; cases j1
    exact ⟨kvs, ep, h1, h2, fun n e => by cases e; rfl⟩
  · rw [Mine.pin, List.getElem?_set_ne (Ne.symm hj)] at j2
    exact G.objs j b ob j1 j2
theorem St.unpin {k : Nat} {es : List (Key × V)} {e : Option Nat} {ep : Nat} (G : St prog w B φ σ s) (hσ : σ[k]? = some (.dict es (some ep))) (he : ∀ n, e = some n → ep = n) : St prog w B φ (σ.set k (.dict es e)) s := by
  have hk := (List.getElem?_eq_some_iff.mp hσ).1
  refine ⟨G.base, G.new, G.nodup, by simp [G.len], fun j b ob j1 j2 => ?_, G.gens, G.os, G.sys⟩
  by_cases hj : j = k
  · subst hj
    rw [List.getElem?_set_self hk] at j2; cases j2
    obtain ⟨a, ha, kvs, ep', h1, h2, h3⟩ := G.get hσ
    rw [ha] at j1; cases j1
    have := h3 ep rfl
    subst this
    exact ⟨kvs, ep', h1, h2, he⟩
  · rw [List.getElem?_set_ne (Ne.symm hj)] at j2
    exact G.objs j b ob j1 j2

theorem Ents.get {h : Heap} : ∀ {es : List (Key × V)} {kvs : List (Key × Value)}, Ents φ h es kvs → ∀ {i : Nat} {p : Key × V}, es[i]? = some p → ∃ v, kvs[i]? = some (p.1, v) ∧ Val φ h p.2 v
  | _, _, .nil, i, p, hp => by simp at hp
  | _, _, .cons h1 h2, 0, p, hp => by simp at hp; subst hp; exact ⟨_, rfl, h1⟩
  | _, _, .cons h1 h2, i + 1, p, hp => by simpa using Ents.get h2 (by simpa using hp)
theorem Key.val {h : Heap} {k : Key} {v : Value} (e : k.is v = true) : Val φ h k.v v := by
  rcases Key.is_shape e with ⟨x, t, rfl, rfl⟩ | ⟨n, t, rfl, rfl⟩
  · exact .str_ _ _
  · exact .int_ _ _
def keyAt (es : List (Key × V)) (i : Nat) : V := (es.getD i (.i 0, .none)).1.v

/-- the keys of a dict of the call's -/
theorem It_dict {k : Nat} {es : List (Key × V)} {e : Option Nat} {ep : Nat} (hh : A.handled = none) (hσ : σ[k]? = some (.dict es (some ep)))   :
    WIt prog w B A (.ref k) σ σ es.length (keyAt es) (fun σ' => σ'[k]? = some (.dict es (some ep))) := fun φ s v R E G hv kont => by
  obtain ⟨a, rfl, ha⟩ := hv.of_ref
  obtain ⟨a', ha', kvs, ep', hd, hvs, hep⟩ := G.get hσ
  rw [ha] at ha'; cases ha'
  obtain rfl := hep ep rfl
  have hlen := hvs.length
  have hk : ∀ (c : Addr) (o : Obj), s.heap.get? c = some o → (s.heap.push { cls := .type "dict_keyiterator", data := .fields #[.ref a, .int 0 0, .int kvs.length 0, .int ep' 0] }).get? c = some o := fun c o e => Heap.get?_push_of_some _ e
  refine wpAny_pyIter_dict (G.notSys (List.mem_of_getElem? ha)) hd (kont s.heap.objs.size _ (fun i φ h => ∃ a, φ[k]? = some a ∧ a ≠ s.heap.objs.size ∧ h.IsKeyIter s.heap.objs.size a i es.length ep') hk (get?_size _) G.fresh ?_ ⟨a, ha, fun e => ?_, ⟨_, Heap.get?_push_size _ rfl, rfl, by rw [hlen]; rfl⟩⟩ (G.keeps hk))
  · refine ⟨fun i φ h ⟨a, _, _, o, ho, hc, _⟩ => ⟨o, ho, by rw [hc]; simp, notStill_type hc (by decide) (by decide)⟩, fun i φ φ' h h' ⟨a, ha, hne, o, ho, r⟩ hp hk _ => ⟨a, idx_mono hp ha, hne, o, hk o ho, r⟩, ?_, ?_, fun i φ s Q E ⟨a, _, _, hs⟩ hq => wpAny_pyIter_keyiter hs hq⟩
    · intro i φ' σ' s' Q E hi G' hC ⟨a, ha, hne, hs⟩ hq
      obtain ⟨a', ha', kvs, ep2, hd2, hvs2, hep2⟩ := G'.get hC
      rw [ha] at ha'; cases ha'
      have hee := hep2 _ rfl
      subst hee
      obtain ⟨v, hv, hvv⟩ := hvs2.get (i := i) (p := es[i]) (List.getElem?_eq_getElem hi)
      refine wpAny_pyNext_dict_item (by rw [hvs2.length]; exact hs) hd2 hv fun key h' hkey hs' hsb => ?_
      rw [hvs2.length] at hs'
      refine hq key h' _ ?_ ⟨a, ha, hne, hs'⟩ fun b o hb e => hsb.extBut b o hb e
      have : keyAt es i = (es[i]).1.v := by unfold keyAt; rw [List.getD_eq_getElem?_getD, List.getElem?_eq_getElem hi]; rfl
      rw [this]; exact Key.val hkey
    · intro φ' σ' s' Q E G' hC ⟨a, ha, hne, hs⟩ hq
      obtain ⟨a', ha', kvs, ep2, hd2, hvs2, hep2⟩ := G'.get hC
      rw [ha] at ha'; cases ha'
      have hee := hep2 _ rfl
      subst hee
      refine wpAny_pyNext_dict_end hh (by rw [hvs2.length]; exact hs) hd2 ?_ fun h' hx => hq h' _ fun b o hb e => hx b o hb e
      rw [List.getElem?_eq_none]; rw [hvs2.length]; exact Nat.le_refl _
  · have := hd.lt_size; rw [e] at this; exact Nat.lt_irrefl _ this
end
end Mine

set_option autoImplicit false
set_option linter.unusedVariables false
namespace Mine
open PySem PySem.W PySem.Calls PyProof.Rows

/-- the names that a comprehension sees of its frame -/
def sub (ρ : List (Str × V)) (fv : List Str) : List (Str × V) := fv.filterMap fun x => (ρ.lookup x).map fun v => (x, v)
theorem sub_lookup {ρ : List (Str × V)} : ∀ {fv : List Str} {x : Str} {v : V}, (sub ρ fv).lookup x = some v → x ∈ fv ∧ ρ.lookup x = some v
  | [], x, v, h => by simp [sub] at h
  | y :: r, x, v, h => by
    unfold sub at h
    rw [List.filterMap_cons] at h
    cases e : ρ.lookup y with
    | none => rw [e] at h; simp only [Option.map_none] at h; obtain ⟨h1, h2⟩ := sub_lookup (fv := r) h; exact ⟨.tail _ h1, h2⟩
    | some u =>
      rw [e] at h
      simp only [Option.map_some, List.lookup_cons] at h
      cases hb : x == y with
      | true => rw [hb] at h; cases h; have := eq_of_beq hb; subst this; exact ⟨.head _, e⟩
      | false => rw [hb] at h; obtain ⟨h1, h2⟩ := sub_lookup (fv := r) h; exact ⟨.tail _ h1, h2⟩

section
variable {prog : Program} {w : World} {B : Shared} {φ φ' : List Addr} {σ σ' : List AObj} {s s' : Shared} {env : Env} {ρ : List (Str × V)} {A : Around} {X : XT} {Q : V → List AObj → Prop}

/-- what a comprehension's names must be -/
structure CompOk (env : Env) (scope : Scope) (cl : List (Str × Addr)) (x : Str) (fv : List Str) : Prop where
  clos : closureFor scope env = pure cl
  cell : ∀ y ∈ scope.names, y.2 ≠ .cell
  kind : scope.kind = .function
  names : ∀ y ∈ scope.names, y.2 = .local → scope.names.lookup y.1 = some .local
  x : scope.names.lookup x = some .local
  mem : ∀ p ∈ cl, p ∈ env.cells
  apart : cl.Pairwise fun x y => x.2 ≠ y.2
  fv : ∀ y ∈ fv, (relabel scope env).names.lookup y = some .cell ∧ env.kindOf y = some .cell ∧ cl.lookup y = env.cells.lookup y

/-- a list through its own changes -/
theorem St.setList {k : Nat} {c : Addr} {ys : List V} {s' : Shared} {items : Array Value} {n : Nat} (G : St prog w B φ σ s) (hc : φ[k]? = some c) (hs : Heap.SameBut c s.heap s'.heap) (ho : s'.heap.get? c = some { cls := .type "list", data := .seq items n })
    (hv : Vals φ s.heap ys items.toList) (hn : ∀ o, s.heap.get? c = some o → ¬ Still o) (hg : s'.gens = s.gens := by rfl) (hos : s'.os = s.os := by rfl) : St prog w B φ (σ.set k (.list ys)) s' :=
  G.update hc hs ⟨items, n, ho, Vals.mono (List.prefix_refl _) (fun a o e hst => hs.extBut a o (fun h => hn o (h ▸ e) hst) e) ys hv⟩ hg hos

theorem list_append {k : Nat} {a : Addr} {ys : List V} {y : V} {v : Value} {R : Value → Shared → Prop} {E : Value → Shared → Prop} (G : St prog w B φ σ s) (hk : φ[k]? = some a) (hσ : σ[k]? = some (.list ys)) (hy : Val φ s.heap y v) (hl : ys.length ≤ sizeLine)
    (h : ∀ h', Heap.SameBut a s.heap h' → St prog w B φ (σ.set k (.list (ys ++ [y]))) { s with heap := h' } → R .none { s with heap := h' }) :
    wpAny (model prog w) A (call (.builtin "list.append") [.ref a, v]) R E s := by
  obtain ⟨a', ha', vs, n, ho, hvs⟩ := G.get hσ
  rw [hk] at ha'; cases ha'
  have hn : ∀ o, s.heap.get? a = some o → ¬ Still o := fun o e => G.notStill (List.mem_of_getElem? hk) e
  refine wpAny_list_append_plain (hsz := by have := hvs.length; simp at this; omega) ⟨n, ho⟩ fun h' ⟨n', ho'⟩ hs => h h' hs (G.setList (s' := { s with heap := h' }) hk hs ho' ?_ hn)
  simpa using hvs.append (Vals.cons hy .nil)

/-- the walk of a comprehension: what it leaves in acc -/
theorem comp_core {elt iter : Expr} {x : Str} {px : Pos} {scope : Scope} {cl : List (Str × Addr)} {pos : Pos} {fv : List Str} {I : Addr} {n : Nat} {el : Nat → V} {C : List AObj → Prop} {Ss : Nat → List Addr → Heap → Prop} {RR : Value → Addr → Result → Shared → Prop} {E : Value → Shared → Prop}
    (K : CompOk env scope cl x fv) (W : Itr prog w B A I n el C Ss) (G : St prog w B φ σ s) (L : Loc B env ρ φ s.heap) (hIφ : I ∉ φ) (hIB : B.heap.get? I = none) (hIfr : I ∉ fr env) (hS : Ss 0 φ s.heap)
    (Iv : Nat → List AObj → Prop) (hC : C (σ ++ [.list []])) (hI : Iv 0 (σ ++ [.list []]))
    (helt : ∀ D i σ₂, i < n → C σ₂ → Iv i σ₂ → WE prog w B A (compEnvC scope cl D env) elt ((x, el i) :: sub ρ fv) σ₂ (fun y σ₃ => ∃ ys, σ₃[σ.length]? = some (.list ys) ∧ ys.length ≤ sizeLine ∧ C (σ₃.set σ.length (.list (ys ++ [y]))) ∧ Iv (i + 1) (σ₃.set σ.length (.list (ys ++ [y])))) (fun _ _ _ _ => False))
    (hRR : ∀ a D φ' σ' h' tk gs dr os, φ'[σ.length]? = some a → s.heap.get? D = none → D ∉ φ' → B.heap.get? D = none → (∃ m, h'.Ns D m) → (∀ b o, b ≠ I → s.heap.get? b = some o → b ∉ φ → ∃ o', h'.get? b = some o' ∧ Sim o o') → φ <+: φ' → (∀ b ∈ φ', b ∈ φ ∨ s.heap.get? b = none) →
      St prog w B φ' σ' ⟨h', gs, dr, tk, os⟩ → C σ' → Iv n σ' → RR (.ref a) D (.ok .next) ⟨h', gs, dr, tk, os⟩) :
    wpAny (model prog w) A (newList []) (fun acc s₃ => wpAny (model prog w) A (newFunctionEnv scope env.globals cl [] env.qual none .none (some env)) (fun cenv s₄ =>
      codeAny (model prog w) A (.compStart (.ListComp elt [⟨.Name x px, iter, [], 0⟩] scope pos) 0 (.ref I) acc { cenv with scope := relabel scope env }) (RR acc cenv.locals) s₄) E s₃) E s := by
  refine wpAny_newList ?_ (by simp)
  -- the list
  have hk1 : ∀ b o, s.heap.get? b = some o → (s.heap.push { cls := .type "list", data := .seq ([] : List Value).toArray }).get? b = some o := fun b o e => Heap.get?_push_of_some _ e
  have t1 : Step [] φ s.heap (φ ++ [s.heap.objs.size]) (s.heap.push { cls := .type "list", data := .seq ([] : List Value).toArray }) := Step.alloc (s' := { s with heap := s.heap.push { cls := .type "list", data := .seq ([] : List Value).toArray } }) (get?_size _) hk1
  have G1 : St prog w B (φ ++ [s.heap.objs.size]) (σ ++ [.list []]) { s with heap := s.heap.push { cls := .type "list", data := .seq ([] : List Value).toArray } } :=
    G.alloc (ob := .list []) (get?_size _) hk1 ⟨_, 0, Heap.get?_push_size _ rfl, by simpa using Vals.nil⟩ G.fresh G.sizeNe
  -- the frame of the comprehension
  refine wpAny_newFunctionEnv K.cell (by intro y hy; simp at hy) (fun h2 hns2 hsb2 => ?_) K.kind
  dsimp only at hns2 hsb2 ⊢
  generalize hH : s.heap.push { cls := .type "list", dict := none, data := .seq ([] : List Value).toArray } = H at hk1 t1 G1 hns2 hsb2 ⊢
  have hHs : H.objs.size = s.heap.objs.size + 1 := by rw [← hH, Heap.size_push]
  have hD0 : H.get? H.objs.size = none := get?_size _
  have hk2 : ∀ b o, H.get? b = some o → h2.get? b = some o := fun b o e => hsb2.extBut b o (Nat.ne_of_lt (Heap.lt_size e)) (Heap.get?_push_of_some _ e)
  have G2 : St prog w B (φ ++ [s.heap.objs.size]) (σ ++ [.list []]) { s with heap := h2, toks := s.toks + ([] : List (Str × Value)).length } := G1.keeps (s' := { s with heap := h2, toks := s.toks + ([] : List (Str × Value)).length }) hk2
  have hkk : ∀ b o, s.heap.get? b = some o → h2.get? b = some o := fun b o e => hk2 b o (hk1 b o e)
  have hDφ : H.objs.size ∉ φ ++ [s.heap.objs.size] := G1.fresh
  have hDB : B.heap.get? H.objs.size = none := G1.baseSize hD0
  have hDs : s.heap.get? H.objs.size = none := get?_of_ge (by omega)
  have hla : (φ ++ [s.heap.objs.size])[σ.length]? = some s.heap.objs.size := by rw [← G.len]; simp
  have hIs : ∃ o, s.heap.get? I = some o ∧ o.cls ≠ .type "frame" ∧ ¬ Still o := W.obj _ _ _ hS
  have hIlt : I < s.heap.objs.size := let ⟨_, e, _⟩ := hIs; Heap.lt_size e
  have hID : I ≠ H.objs.size := Nat.ne_of_lt (by rw [hHs]; exact Nat.lt_succ_of_lt hIlt)
  have hIφ1 : I ∉ φ ++ [s.heap.objs.size] := fun h => (List.mem_append.mp h).elim hIφ fun h => Nat.ne_of_lt hIlt (List.mem_singleton.mp h)
  have hS2 : Ss 0 (φ ++ [s.heap.objs.size]) h2 := W.frame _ _ _ _ _ hS (List.prefix_append _ _) (fun o e => hkk _ _ e) fun a o e _ => hkk _ _ e
  -- the names in it
  have hIfr2 : I ∉ fr (compEnvC scope cl H.objs.size env) := fun h => by
    rcases List.mem_cons.mp h with h | h
    · exact hID h
    · obtain ⟨p, hp, e⟩ := List.mem_map.mp h
      exact hIfr (e ▸ mem_fr_cell (x := p.1) (c := p.2) (K.mem p hp))
  have L2 : Loc B (compEnvC scope cl H.objs.size env) (sub ρ fv) (φ ++ [s.heap.objs.size]) h2 := by
    have Le := (L.step G t1)
    refine ⟨K.kind, L.glob, L.blt, ⟨_, hns2⟩, fun a ha => ?_, fun y c hm => ?_, K.apart, fun y v hy => ?_⟩
    · rcases List.mem_cons.mp ha with rfl | ha
      · exact ⟨hDφ, hDB⟩
      · obtain ⟨p, hp, e⟩ := List.mem_map.mp ha
        exact Le.own a (e ▸ mem_fr_cell (x := p.1) (c := p.2) (K.mem p hp))
    · obtain ⟨v, hv⟩ := L.cells y c (K.mem _ hm)
      exact ⟨v, hv.keeps hkk⟩
    · obtain ⟨hyf, hyl⟩ := sub_lookup hy
      obtain ⟨hy1, hy2, hy3⟩ := K.fv y hyf
      obtain ⟨val, hb, hv⟩ := L.val y v hyl
      refine ⟨val, ?_, (hv.step G t1).step G1 (.of_keeps hk2)⟩
      rcases hb with ⟨k, _⟩ | ⟨k, c, e, hc⟩
      · rw [hy2] at k; cases k
      · exact .inr ⟨.inl hy1, c, hy3.trans e, hc.keeps hkk⟩
  -- the loop
  have loop : codeAny (model prog w) A (.compLoop (.ListComp elt [⟨.Name x px, iter, [], 0⟩] scope pos) 0 (.ref I) (.ref s.heap.objs.size) (compEnvC scope cl H.objs.size env)) (RR (.ref s.heap.objs.size) H.objs.size) { s with heap := h2, toks := s.toks + ([] : List (Str × Value)).length } := by
    refine codeAny_compLoop_list (fun k s' => ∃ i φ' σ', k = n - i ∧ i ≤ n ∧ φ ++ [s.heap.objs.size] <+: φ' ∧ (∀ b ∈ φ', b ∈ φ ++ [s.heap.objs.size] ∨ h2.get? b = none) ∧
      (∀ b o, b ≠ I → h2.get? b = some o → b ∉ φ ++ [s.heap.objs.size] → b ≠ H.objs.size → ∃ o', s'.heap.get? b = some o' ∧ Sim o o') ∧
      St prog w B φ' σ' s' ∧ Loc B (compEnvC scope cl H.objs.size env) (sub ρ fv) φ' s'.heap ∧ I ∉ φ' ∧ Ss i φ' s'.heap ∧ C σ' ∧ Iv i σ') ?_ n
      ⟨0, _, _, rfl, Nat.zero_le _, List.prefix_refl _, fun b h => .inl h, fun b o _ e _ _ => ⟨o, e, .refl o⟩, G2, L2, hIφ1, hS2, hC, hI⟩
    rintro k s' ⟨i, φ', σ', rfl, hin, hp, hfr, hkp, G', L', hIφ', hS', hC', hI'⟩
    obtain ⟨oI, heI, hcI, hnI⟩ := W.obj _ _ _ hS'
    have hnI' : ∀ o, s'.heap.get? I = some o → ¬ Still o := fun o e => by rw [heI] at e; cases e; exact hnI
    by_cases hlt : i < n
    · refine W.item i φ' σ' s' _ _ hlt G' hC' hS' fun v h₃ tk hv hS₃ hk₃ => ?_
      have G₃ : St prog w B φ' σ' { s' with heap := h₃, toks := tk } := G'.but (s' := { s' with heap := h₃, toks := tk }) hk₃ hIφ' hIB hnI'
      have L₃ : Loc B (compEnvC scope cl H.objs.size env) (sub ρ fv) φ' h₃ := L'.but hk₃ hIfr2 hnI'
      obtain ⟨oJ, heJ, hcJ, hnJ⟩ := W.obj _ _ _ hS₃
      refine wpAny_assign_Name (store_local (s := { s' with heap := h₃, toks := tk }) (y := el i) G₃ L₃ hv (lookup_relabel_local K.x) fun h₄ tk₄ hs₄ G₄ L₄ => ?_)
      have hD4 : (compEnvC scope cl H.objs.size env).locals = H.objs.size := rfl
      rw [hD4] at hs₄
      refine wpAny_mono (helt H.objs.size i σ' hlt hC' hI' φ' _ G₄ L₄) (fun y s₅ hx => ?_) (fun e s₅ hx => by obtain ⟨_, _, _, _, x⟩ := hx; exact x.elim)
      obtain ⟨φ₅, σ₅, t₅, G₅, yv, hyv, ys, hys, hyl, hC5, hI5⟩ := hx
      have hla' : φ₅[σ.length]? = some s.heap.objs.size := idx_mono t₅.pre (idx_mono hp hla)
      have ham : s.heap.objs.size ∈ φ ++ [s.heap.objs.size] := List.mem_append_right _ (.head _)
      refine list_append G₅ hla' hys hyv hyl fun h₆ hs₆ G₆ => ?_
      have eI4 : h₄.get? I = some oJ := hs₄.extBut I oJ hID heJ
      have hIφ₅ : I ∉ φ₅ := fun hm => by
        rcases t₅.fresh I hm with h | h
        · exact hIφ' h
        · rw [eI4] at h; cases h
      have eI5 : s₅.heap.get? I = some oJ := by
        obtain ⟨o', e', hs'⟩ := t₅.keep I oJ eI4 hIφ' (fun h => nomatch h)
        rw [hs'.same hcJ] at e'; exact e'
      have hIa : I ≠ s.heap.objs.size := Nat.ne_of_lt hIlt
      have eI6 : h₆.get? I = some oJ := hs₆.extBut I oJ hIa eI5
      have hS₄ : Ss (i + 1) φ' h₄ := W.frame _ _ _ _ _ hS₃ (List.prefix_refl _) (fun o e => by rw [heJ] at e; cases e; exact eI4) fun a o e hst => hs₄.extBut a o (fun h => fr_notStill L₃ _ (.head _) o (by rw [h] at e; exact e) hst) e
      have hS₅ : Ss (i + 1) φ₅ s₅.heap := W.frame _ _ _ _ _ hS₄ t₅.pre (fun o e => by rw [eI4] at e; cases e; exact eI5) (t₅.still G₄ fun _ h => nomatch h)
      have ham5 : s.heap.objs.size ∈ φ₅ := List.mem_of_getElem? hla'
      have hS₆ : Ss (i + 1) φ₅ h₆ := W.frame _ _ _ _ _ hS₅ (List.prefix_refl _) (fun o e => by rw [eI5] at e; cases e; exact eI6) fun a o e hst => hs₆.extBut a o (fun h => G₅.notStill (h ▸ ham5) e hst) e
      refine ⟨n - (i + 1), by omega, i + 1, φ₅, _, rfl, hlt, hp.trans t₅.pre, fun b hb => ?_, fun b o hb e h1 h2 => ?_, G₆, ?_, hIφ₅, hS₆, hC5, hI5⟩
      · rcases t₅.fresh b hb with h | h
        · exact hfr b h
        · by_cases hbH : b = H.objs.size
          · subst hbH
            obtain ⟨o, e, _⟩ := L₄.there (.head _)
            rw [hD4, h] at e; cases e
          · by_cases hbI : b = I
            · subst hbI; rw [eI4] at h; cases h
            · cases e : h2.get? b with
              | none => exact .inr rfl
              | some o =>
                by_cases hbφ : b ∈ φ ++ [s.heap.objs.size]
                · exact .inl hbφ
                · obtain ⟨o', e', _⟩ := hkp b o hbI e hbφ hbH
                  have := hs₄.extBut b o' hbH (hk₃ b o' hbI e')
                  rw [h] at this; cases this
      · obtain ⟨o', e', hs'⟩ := hkp b o hb e h1 h2
        have e4 := hs₄.extBut b o' h2 (hk₃ b o' hb e')
        have hbφ' : b ∉ φ' := fun hm => by
          rcases hfr b hm with h | h
          · exact h1 h
          · rw [e] at h; cases h
        obtain ⟨o5, e5, hs5⟩ := t₅.keep b o' e4 hbφ' (fun h => nomatch h)
        exact ⟨o5, hs₆.extBut b o5 (fun h => h1 (h ▸ ham)) e5, hs'.trans hs5⟩
      · have L5 := (L₄.weaken (ρ' := sub ρ fv) fun z v hz => by
          by_cases hzx : z = x
          · subst hzx
            obtain ⟨hzf, _⟩ := sub_lookup hz
            have h1 := (K.fv z hzf).1
            have h2 : (relabel scope env).names.lookup z = some .local := lookup_relabel_local K.x
            rw [h2] at h1; cases h1
          · rw [lookup_cons_ne hzx]; exact hz).step G₄ t₅
        refine L5.but (c := s.heap.objs.size) (fun b o hb e => hs₆.extBut b o hb e) (fun hm => (L5.own _ hm).1 ham5) fun o e => G₅.notStill ham5 e
    · have hin' : i = n := by omega
      subst hin'
      refine W.done φ' σ' s' _ _ G' hC' hS' fun h₃ tk hk₃ => ?_
      have G₃ : St prog w B φ' σ' { s' with heap := h₃, toks := tk } := G'.but (s' := { s' with heap := h₃, toks := tk }) hk₃ hIφ' hIB hnI'
      have L₃ : Loc B (compEnvC scope cl H.objs.size env) (sub ρ fv) φ' h₃ := L'.but hk₃ hIfr2 hnI'
      refine hRR s.heap.objs.size H.objs.size φ' σ' h₃ tk _ _ _ (idx_mono hp hla) hDs (L₃.own _ (.head _)).1 hDB L₃.ns (fun b o hb e h1 => ?_) ((List.prefix_append _ _).trans hp) (fun b hb => ?_) G₃ hC' hI'
      · have hbs : b ≠ s.heap.objs.size := fun h => by rw [h, get?_size] at e; cases e
        have hbH : b ≠ H.objs.size := fun h => by rw [h, hDs] at e; cases e
        obtain ⟨o', e', hs'⟩ := hkp b o hb (hkk b o e) (fun h => (List.mem_append.mp h).elim h1 fun h => hbs (List.mem_singleton.mp h)) hbH
        exact ⟨o', hk₃ b o' hb e', hs'⟩
      · rcases hfr b hb with h | h
        · rcases List.mem_append.mp h with h | h
          · exact .inl h
          · obtain rfl := List.mem_singleton.mp h; exact .inr (get?_size _)
        · right
          cases e : s.heap.get? b with
          | none => rfl
          | some o => rw [hkk b o e] at h; cases h
  exact codeAny_compStart_list loop (W.self 0 _ _ _ _ hS2 loop)

/-- a comprehension, as a value -/
theorem E_comp {elt iter : Expr} {x : Str} {px : Pos} {scope : Scope} {cl : List (Str × Addr)} {pos : Pos} {fv : List Str} (K : CompOk env scope cl x fv)
    (h : WE prog w B A env iter ρ σ (fun v σ' => ∃ σ₁ n el C, ∃ Iv : Nat → List AObj → Prop, WIt prog w B A v σ' σ₁ n el C ∧ C (σ₁ ++ [.list []]) ∧ Iv 0 (σ₁ ++ [.list []]) ∧
      (∀ D i σ₂, i < n → C σ₂ → Iv i σ₂ → WE prog w B A (compEnvC scope cl D env) elt ((x, el i) :: sub ρ fv) σ₂ (fun y σ₃ => ∃ ys, σ₃[σ₁.length]? = some (.list ys) ∧ ys.length ≤ sizeLine ∧ C (σ₃.set σ₁.length (.list (ys ++ [y]))) ∧ Iv (i + 1) (σ₃.set σ₁.length (.list (ys ++ [y])))) (fun _ _ _ _ => False)) ∧
      (∀ σ₂, C σ₂ → Iv n σ₂ → Q (.ref σ₁.length) σ₂)) X)
    (hs : ∀ v, foldedSetIterable iter env v = pure v := by intro _; with_unfolding_all rfl) :
    WE prog w B A env (.ListComp elt [⟨.Name x px, iter, [], 0⟩] scope pos) ρ σ Q X := fun φ s G L => by
  show wpAny _ _ _ _ _ _
  rw [eval_ListComp]
  refine wpAny_comprehension_free (use := none) rfl hs K.clos K.kind K.names ((h φ s G L).use (.refl ..) fun v s₁ φ₁ σ' t₁ _ G₁ ⟨y, hy, hq⟩ => ?_)
  obtain ⟨σ₁, n, el, C, Iv, hit, hC, hI, helt, hend⟩ := hq
  have L₁ := L.step G t₁
  refine hit φ₁ s₁ v _ _ G₁ hy fun I h₁ Ss hk hI0 hIφ W hS G₂ => ?_
  have tk0 : Step [] φ₁ s₁.heap φ₁ h₁ := .of_keeps hk
  have L₂ : Loc B env ρ φ₁ h₁ := L₁.step G₁ tk0
  have hIfr : I ∉ fr env := fun hm => by obtain ⟨o, e, _⟩ := L₁.there hm; rw [hI0] at e; cases e
  refine comp_core (RR := fun acc D => compPost (model prog w) A (Post prog w B [] φ s X) none (Post prog w B [] φ s (vQ Q)) acc D) (s := { s₁ with heap := h₁ }) K W G₂ L₂ hIφ (G₁.baseSize hI0) hIfr hS Iv hC hI helt ?_
  intro a D φ' σ₂ h' tk gs dr os ha hD hDφ hDB hns hkp hpre hfr G' hC' hI'
  obtain ⟨m, hm⟩ := hns
  refine ⟨m, hm, fun h'' hsb => ?_⟩
  have hnD : ∀ o, h'.get? D = some o → ¬ Still o := fun o e => by
    obtain ⟨o', es, ep, e', hd, _⟩ := hm
    rw [e] at e'; cases e'; exact notStill_dict hd
  have G'' : St prog w B φ' σ₂ ⟨h'', gs, dr, tk, os⟩ := G'.sameBut (s' := ⟨h'', gs, dr, tk, os⟩) hsb hDφ hDB hnD
  have t' : Step [] φ₁ s₁.heap φ' h'' := by
    refine ⟨hpre, fun b hb => (hfr b hb).imp id fun h => ?_, fun b o e h1 _ => ?_⟩
    · cases e : s₁.heap.get? b with
      | none => rfl
      | some o => rw [hk b o e] at h; cases h
    · obtain ⟨o', e', hs'⟩ := hkp b o (fun h => by rw [h, hI0] at e; cases e) (hk b o e) h1
      exact ⟨o', hsb.extBut b o' (fun h => by rw [h] at e; have := hk _ _ e; rw [hD] at this; cases this) e', hs'⟩
  refine ⟨φ', σ₂, t₁.trans0 t', G'', .ref σ₁.length, ?_, hend σ₂ hC' hI'⟩
  rw [Val]; exact ⟨a, rfl, ha⟩

/-- a comprehension stored under a name of the frame on the same line -/
theorem X_comp {elt iter : Expr} {x y : Str} {px py : Pos} {scope : Scope} {cl : List (Str × Addr)} {pos spos : Pos} {fv : List Str} {Q : Fl → List (Str × V) → List AObj → Prop} (K : CompOk env scope cl x fv)
    (h : WE prog w B A env iter ρ σ (fun v σ' => ∃ σ₁ n el C, ∃ Iv : Nat → List AObj → Prop, WIt prog w B A v σ' σ₁ n el C ∧ C (σ₁ ++ [.list []]) ∧ Iv 0 (σ₁ ++ [.list []]) ∧
      (∀ D i σ₂, i < n → C σ₂ → Iv i σ₂ → WE prog w B A (compEnvC scope cl D env) elt ((x, el i) :: sub ρ fv) σ₂ (fun y σ₃ => ∃ ys, σ₃[σ₁.length]? = some (.list ys) ∧ ys.length ≤ sizeLine ∧ C (σ₃.set σ₁.length (.list (ys ++ [y]))) ∧ Iv (i + 1) (σ₃.set σ₁.length (.list (ys ++ [y])))) (fun _ _ _ _ => False)) ∧
      (∀ σ₂, C σ₂ → Iv n σ₂ → Q .next ((y, .ref σ₁.length) :: ρ) σ₂)) X)
    (hy : env.kindOf y = some .local)
    (hsw : swapsWith (.ListComp elt [⟨.Name x px, iter, [], 0⟩] scope pos) (some (.Name y py)) spos.line env = pure true := by rfl)
    (hs : ∀ v, foldedSetIterable iter env v = pure v := by intro _; with_unfolding_all rfl) :
    WX1 prog w B A env (.Assign [.Name y py] (.ListComp elt [⟨.Name x px, iter, [], 0⟩] scope pos) spos) ρ σ Q X := fun φ s G L => by
  show wpAny _ _ _ _ _ _
  rw [exec_Assign_Name_used _ _ _ _ hsw]
  refine wpAny_bind (wpAny_standAt (wpAny_bind ?_))
  show wpAny _ A (do let _ ← comprehension (.ListComp elt [⟨.Name x px, iter, [], 0⟩] scope pos) scope env _ (newList []) false (eval iter env) (some (assign (.Name y py) env))) _ _ s
  refine wpAny_bind (wpAny_mono (wpAny_comprehension_free (use := some (assign (.Name y py) env)) (Q := fun _ s' => Post prog w B (fr env) φ s (fQ B env Q) .next s') rfl hs K.clos K.kind K.names ?_) (fun _ s' hq => wpAny_pure (wpAny_pure hq)) fun _ _ e => e)
  refine h.then G L fun v s₁ φ₁ σ' vx t₁ G₁ L₁ hvx hq => ?_
  obtain ⟨σ₁, n, el, C, Iv, hit, hC, hI, helt, hend⟩ := hq
  refine hit φ₁ s₁ v _ _ G₁ hvx fun I h₁ Ss hk hI0 hIφ W hS G₂ => ?_
  have tk0 : Step [] φ₁ s₁.heap φ₁ h₁ := .of_keeps hk
  have L₂ : Loc B env ρ φ₁ h₁ := L₁.step G₁ tk0
  have hIfr : I ∉ fr env := fun hm => by obtain ⟨o, e, _⟩ := L₁.there hm; rw [hI0] at e; cases e
  refine comp_core (RR := fun acc D => compPost (model prog w) A (Post prog w B (fr env) φ s X) (some (assign (.Name y py) env)) (fun _ s' => Post prog w B (fr env) φ s (fQ B env Q) .next s') acc D) (s := { s₁ with heap := h₁ }) K W G₂ L₂ hIφ (G₁.baseSize hI0) hIfr hS Iv hC hI helt ?_
  intro a D φ' σ₂ h' tk gs dr os ha hD hDφ hDB hns hkp hpre hfr G' hC' hI'
  have hnD : ∀ o, h'.get? D = some o → ¬ Still o := fun o e => by
    obtain ⟨m, o', es, ep, e', hd, _⟩ := hns
    rw [e] at e'; cases e'; exact notStill_dict hd
  have t' : Step [] φ₁ s₁.heap φ' h' := by
    refine ⟨hpre, fun b hb => (hfr b hb).imp id fun h => ?_, fun b o e h1 _ => hkp b o (fun h => by rw [h, hI0] at e; cases e) (hk b o e) h1⟩
    cases e : s₁.heap.get? b with
    | none => rfl
    | some o => rw [hk b o e] at h; cases h
  have L' : Loc B env ρ φ' h' := L₁.step G₁ t'
  have hDfr : D ∉ fr env := fun hm => by obtain ⟨o, e, _⟩ := L₁.there hm; have := hk _ _ e; rw [hD] at this; cases this
  show wpAny _ A (assign (.Name y py) env (.ref a)) _ _ _
  refine wpAny_assign_Name (store_local (s := ⟨h', gs, dr, tk, os⟩) (y := .ref σ₁.length) G' L' (by rw [Val]; exact ⟨a, rfl, ha⟩) hy fun h₅ tk₅ hs₅ G₅ L₅ => ?_)
  obtain ⟨m, hm⟩ := hns
  have hLD : D ≠ env.locals := fun h => hDfr (h ▸ .head _)
  refine ⟨m, hm.sameBut hs₅ hLD, fun h'' hsb => ?_⟩
  have hnD5 : ∀ o, h₅.get? D = some o → ¬ Still o := fun o e => by
    obtain ⟨o', es, ep, e', hd, _⟩ := hm.sameBut hs₅ hLD
    rw [e] at e'; cases e'; exact notStill_dict hd
  have G'' : St prog w B φ' σ₂ ⟨h'', gs, dr, tk₅, os⟩ := G₅.sameBut (s' := ⟨h'', gs, dr, tk₅, os⟩) hsb hDφ hDB hnD5
  have L'' : Loc B env ((y, .ref σ₁.length) :: ρ) φ' h'' := L₅.but (fun b o hb e => hsb.extBut b o hb e) hDfr hnD5
  have t'' : Step (fr env) φ₁ s₁.heap φ' h'' := by
    refine ⟨t'.pre, t'.fresh, fun b o e h1 h2 => ?_⟩
    obtain ⟨o', e', hs'⟩ := t'.keep b o e h1 (fun h => nomatch h)
    exact ⟨o', hsb.extBut b o' (fun h => by rw [h] at e; have := hk _ _ e; rw [hD] at this; cases this) (hs₅.extBut b o' (fun h => h2 (h ▸ .head _)) e'), hs'⟩
  exact ⟨φ', σ₂, Step.transF t₁.nilD t'' L₁, G'', .next, _, rfl, L'', hend σ₂ hC' hI'⟩
end
end Mine

set_option autoImplicit false
set_option linter.unusedVariables false
set_option maxRecDepth 100000
namespace Mine
open PySem PySem.W PySem.Calls PyProof.Rows

section
variable {prog : Program} {w : World} {B : Shared} {φ φ' : List Addr} {σ σ' : List AObj} {s s' : Shared} {env : Env} {ρ : List (Str × V)} {A : Around} {X : XT} {Q : V → List AObj → Prop}

/-- an item of a plain list stored -/
theorem setItem_plain {l : Addr} {items : Array Value} {n : Nat} {k : Int} {t : Tok} {v : Value} {R : Unit → Shared → Prop} {E : Value → Shared → Prop} (ho : s.heap.get? l = some { cls := .type "list", data := .seq items n }) (h0 : 0 ≤ k) (hf : k < 2 ^ 63) (hj : k < items.size)
    (h : ∀ h' n', h'.get? l = some { cls := .type "list", data := .seq (items.setIfInBounds k.toNat v) n' } → Heap.SameBut l s.heap h' → R () { s with heap := h' }) :
    wpAny (model prog w) A (setItem (.ref l) (.int k t) v) R E s := by
  have hT : s.TypeIs (.ref l) "list" := ⟨_, ho, rfl⟩
  unfold setItem
  try with_reducible refine wpAny_holding ?_
  first | refine wpAny_bind (wpAny_pure ?_) | skip
  refine wpAny_bind (wpAny_sequenceKey hT (by decide) ?_)
  refine wpAny_bind (wpAny_callSpecial?_slot (name := Str.ofString "__setitem__") hT slot_list_setitem
    (wpAny_call_entry slot_list_setitem hT entry_list_setitem ?_ (args_list_setitem _ _ _)))
  show wpAny _ _ (Builtin.List.listSubscript? (.int k t) >>= _) _ _ s
  refine wpAny_bind (wpAny_listSubscript_int (fitsIndex_of h0 hf) ?_)
  clear hf
  obtain ⟨j, rfl⟩ := Int.eq_ofNat_of_zero_le h0
  have hj' : j < items.size := by omega
  show wpAny _ _ ((seqItemAt l j >>= fun r => pure (r.map (j, ·))) >>= _) _ _ s
  refine wpAny_bind (wpAny_bind (wpAny_seqItemAt ho rfl (wpAny_pure ?_)))
  rw [Array.getElem?_eq_getElem hj']
  show wpAny _ _ (setSeqItemAt l j v >>= _) _ _ s
  have hfin : (s.heap.update l (Obj.mapSeq (·.setIfInBounds j v))).get? l = some { cls := .type "list", data := .seq (items.setIfInBounds j v) n } := by
    rw [Heap.get?_update_self _ ho rfl]
    simp [Obj.mapSeq]
  refine wpAny_bind (wpAny_setSeqItemAt ho rfl ?_)
  exact wpAny_pure ⟨.none, rfl, wpAny_pure (h _ _ hfin (Heap.SameBut.update ..))⟩

/-! subscripts -/
def WSub (prog : Program) (w : World) (B : Shared) (A : Around) (value slice : Expr) (x y : V) (σ : List AObj) (Q : V → List AObj → Prop) (X : XT) : Prop :=
  ∀ φ s v u, St prog w B φ σ s → Val φ s.heap x v → Val φ s.heap y u → W prog w B A (subscriptTail value slice v u) φ s (vQ Q) X
theorem E_sub {value slice : Expr} {pos : Pos} (h : WE prog w B A env value ρ σ (fun x σ₁ => WE prog w B A env slice ρ σ₁ (fun y σ₂ => WSub prog w B A value slice x y σ₂ Q X) X) X) : WE prog w B A env (.Subscript value slice pos) ρ σ Q X := fun φ s G L =>
  Subscript_ ((h φ s G L).use (.refl ..) fun a s₁ φ₁ σ₁ t₁ _ G₁ ⟨x, hx, h₁⟩ => (h₁ φ₁ s₁ G₁ (L.step G t₁)).use t₁ fun b s₂ φ₂ σ₂ t₂ t G₂ ⟨y, hy, h₂⟩ => (h₂ φ₂ s₂ a b G₂ (hx.step G₁ t₂) hy).last t)

/-- a slice's expression is no Slice -/
def PlainSlice (slice : Expr) : Prop := ∀ o i, subscripted slice false o i = operate [o, i] (getItem o i)

theorem S_list {value slice : Expr} {k : Nat} {xs : List V} {i : Int} (hσ : σ[k]? = some (.list xs)) (h0 : 0 ≤ i) (hi : i < xs.length) (hf : i < 2 ^ 63) (q : Q (xs.getD i.toNat .none) σ)
    (hs : PlainSlice slice := by with_unfolding_all exact fun _ _ => rfl) : WSub prog w B A value slice (.ref k) (.int i) σ Q X := fun φ s v u G hv hu => by
  obtain ⟨a, rfl, ha⟩ := hv.of_ref; obtain ⟨t, rfl⟩ := hu.of_int
  obtain ⟨a', ha', vs, n, ho, hvs⟩ := G.get hσ
  rw [ha] at ha'; cases ha'
  have hi' : i.toNat < xs.length := by omega
  obtain ⟨y, hy, hyv⟩ := hvs.get (i := i.toNat) (x := xs.getD i.toNat .none) (by rw [List.getD_eq_getElem?_getD, List.getElem?_eq_getElem hi']; rfl)
  have hl : s.heap.IsList a vs := ⟨_, ho, rfl, n, rfl⟩
  exact tail_any hl.typeIs slot_list_getitem.lookup (wpAny_getItem_list hl h0 hf (by rw [← Array.getElem?_toList]; exact hy) (Post.here G ⟨_, hyv, q⟩)) (hs _ _)
theorem S_tup {value slice : Expr} {xs : List V} {i : Int} (h0 : 0 ≤ i) (hi : i < xs.length) (hf : i < 2 ^ 63) (q : Q (xs.getD i.toNat .none) σ)
    (hs : PlainSlice slice := by with_unfolding_all exact fun _ _ => rfl) : WSub prog w B A value slice (.tup xs) (.int i) σ Q X := fun φ s v u G hv hu => by
  obtain ⟨a, vs, rfl, ht, hvs⟩ := hv.of_tup; obtain ⟨t, rfl⟩ := hu.of_int
  have hi' : i.toNat < xs.length := by omega
  obtain ⟨y, hy, hyv⟩ := hvs.get (i := i.toNat) (x := xs.getD i.toNat .none) (by rw [List.getD_eq_getElem?_getD, List.getElem?_eq_getElem hi']; rfl)
  have hlen := hvs.length
  have hsz : vs.size = xs.length := by simpa using hlen
  refine tail_any ht.typeIs slot_tuple_getitem.lookup (getItem_tuple ht (by omega) hf (j := i.toNat) ?_ (by rw [← Array.getElem?_toList]; exact hy) (Post.here G ⟨_, hyv, q⟩)) (hs _ _)
  unfold seqIndex?
  rw [hsz]
  simp only [show ¬ (i < 0) by omega, if_false]
  simp; omega
theorem S_t0 {value slice : Expr} {x : V} {xs : List V} (q : Q x σ) (hs : PlainSlice slice := by with_unfolding_all exact fun _ _ => rfl) : WSub prog w B A value slice (.tup (x :: xs)) (.int 0) σ Q X :=
  S_tup (by decide) (by simp only [List.length_cons]; omega) (by decide) q hs
theorem S_t1 {value slice : Expr} {x y : V} {xs : List V} (q : Q y σ) (hs : PlainSlice slice := by with_unfolding_all exact fun _ _ => rfl) : WSub prog w B A value slice (.tup (x :: y :: xs)) (.int 1) σ Q X :=
  S_tup (by decide) (by simp only [List.length_cons]; omega) (by decide) q hs
theorem S_str {value slice : Expr} {x : Str} {i : Int} (h0 : 0 ≤ i) (hi : i < x.cps.size) (hf : i < 2 ^ 63) (q : Q (.str (signAt x i.toNat)) σ)
    (hs : PlainSlice slice := by with_unfolding_all exact fun _ _ => rfl) : WSub prog w B A value slice (.str x) (.int i) σ Q X := fun φ s v u G hv hu => by
  obtain ⟨t, rfl⟩ := hv.of_str; obtain ⟨t', rfl⟩ := hu.of_int
  have hi' : i.toNat < x.cps.size := by omega
  refine tail_any (typeIs_str s x t) F.slot_str_getitem.lookup (P.getItem_str (c := x.cps.getD i.toNat 0) (by simp; omega) ?_ (Post.tok G ⟨_, .str_ _ _, q⟩)) (hs _ _)
  unfold seqIndex?
  have hl : x.length = x.cps.size := rfl
  simp only [show ¬ (i < 0) by omega, if_false, hl]
  simp [Array.getD_eq_getD_getElem?, hi', h0, hi]
theorem S_dict {value slice : Expr} {k : Nat} {es : List (Key × V)} {e : Option Nat} {key : Key} {x : V} (hσ : σ[k]? = some (.dict es e)) (hx : at? es key = some x) (q : Q x σ)
    (hs : PlainSlice slice := by with_unfolding_all exact fun _ _ => rfl) : WSub prog w B A value slice (.ref k) key.v σ Q X := fun φ s v u G hv hu => by
  obtain ⟨a, rfl, ha⟩ := hv.of_ref
  obtain ⟨a', ha', kvs, ep, hd, hvs, _⟩ := G.get hσ
  rw [ha] at ha'; cases ha'
  have hkey : (kk prog w).is key u = true := by
    cases key with
    | s y => obtain ⟨t, rfl⟩ := hu.of_str; simp [kk, Key.is, Value.isStrOf]
    | i n => obtain ⟨t, rfl⟩ := hu.of_int; simp [kk, Key.is, Value.isInt]
  rcases hvs.at? key with ⟨y, z, h1, h2, h3⟩ | ⟨h1, _⟩
  · rw [hx] at h1; cases h1
    have hm := hd.dictOf.mapOf
    exact tail_any hm.typeIs slot_dict_getitem.lookup (wpAny_getItem_of hkey hm h2 (Post.tok G ⟨_, h3, q⟩)) (hs _ _)
  · rw [hx] at h1; cases h1

/-! stores -/
def WSet (prog : Program) (w : World) (B : Shared) (A : Around) (x y z : V) (σ : List AObj) (Q : List AObj → Prop) (X : XT) : Prop :=
  ∀ φ s v u t, St prog w B φ σ s → Val φ s.heap x v → Val φ s.heap y u → Val φ s.heap z t → W prog w B A (setItem v u t) φ s (bQ fun _ σ' => Q σ') X
theorem X_setitem {o i value : Expr} {p pos : Pos} {Q : Fl → List (Str × V) → List AObj → Prop}
    (h : WE prog w B A env value ρ σ (fun z σ₁ => WE prog w B A env o ρ σ₁ (fun x σ₂ => WE prog w B A env i ρ σ₂ (fun y σ₃ => WSet prog w B A x y z σ₃ (fun σ₄ => Q .next ρ σ₄) X) X) X) X)
    (hs : swapsWith value (some (.Subscript o i p)) pos.line env = pure false := by with_unfolding_all rfl) : WX1 prog w B A env (.Assign [.Subscript o i p] value pos) ρ σ Q X := fun φ s G L => by
  refine wpAny_Assign_Subscript ?_ hs
  refine h.then G L fun vz s₁ φ₁ σ₁ z t₁ G₁ L₁ hz h₁ => ?_
  refine wpAny_mono (h₁ φ₁ s₁ G₁ L₁) (fun vx s₂ ⟨φ₂, σ₂, t₂, G₂, x, hx, h₂⟩ => ?_) fun e s' ⟨φ', σ', t', G', x⟩ => ⟨φ', σ', (t₁.trans0 t').nilD, G', x⟩
  refine wpAny_mono (h₂ φ₂ s₂ G₂ (L₁.step G₁ t₂)) (fun vy s₃ ⟨φ₃, σ₃, t₃, G₃, y, hy, h₃⟩ => ?_) fun e s' ⟨φ', σ', t', G', x⟩ => ⟨φ', σ', (t₁.trans0 (t₂.trans0 t')).nilD, G', x⟩
  have L₃ := (L₁.step G₁ t₂).step G₂ t₃
  refine wpAny_mono (h₃ φ₃ s₃ vx vy vz G₃ (hx.step G₂ t₃) hy (hz.step G₁ (t₂.trans0 t₃))) (fun _ s₄ ⟨φ₄, σ₄, t₄, G₄, q⟩ => ?_) fun e s' ⟨φ', σ', t', G', x⟩ => ⟨φ', σ', (t₁.trans0 (t₂.trans0 (t₃.trans0 t'))).nilD, G', x⟩
  exact ⟨φ₄, σ₄, (t₁.trans0 (t₂.trans0 (t₃.trans0 t₄))).nilD, G₄, .next, ρ, rfl, L₃.step G₃ t₄, q⟩
theorem P_list {k : Nat} {xs : List V} {i : Int} {z : V} {Q : List AObj → Prop} (hσ : σ[k]? = some (.list xs)) (h0 : 0 ≤ i) (hi : i < xs.length) (hf : i < 2 ^ 63) (q : Q (σ.set k (.list (xs.set i.toNat z)))) : WSet prog w B A (.ref k) (.int i) z σ Q X := fun φ s v u t G hv hu hz => by
  obtain ⟨a, rfl, ha⟩ := hv.of_ref; obtain ⟨tk, rfl⟩ := hu.of_int
  obtain ⟨a', ha', vs, n, ho, hvs⟩ := G.get hσ
  rw [ha] at ha'; cases ha'
  have hlen : vs.size = xs.length := by simpa using hvs.length
  have hn : ∀ o, s.heap.get? a = some o → ¬ Still o := fun o e => G.notStill (List.mem_of_getElem? ha) e
  refine setItem_plain ho h0 hf (by omega) fun h' n' ho' hsb => ⟨φ, _, Step.update hsb (List.mem_of_getElem? ha), G.setList (s' := { s with heap := h' }) (ys := xs.set i.toNat z) ha hsb ho' ?_ hn, q⟩
  rw [Array.toList_setIfInBounds]
  clear q hσ hlen ho ho'
  generalize vs.toList = l at hvs
  generalize i.toNat = j
  clear h0 hi hf hu
  induction xs generalizing l j with
  | nil => rw [Vals] at hvs; subst hvs; simpa using Vals.nil
  | cons x xs ih =>
    rw [Vals] at hvs
    obtain ⟨v, r, rfl, h1, h2⟩ := hvs
    cases j with
    | zero => simpa using Vals.cons hz h2
    | succ j => simpa using Vals.cons h1 (ih r h2 j)
theorem P_dict {k : Nat} {es : List (Key × V)} {key : Key} {z : V} {Q : List AObj → Prop} (hσ : σ[k]? = some (.dict es none)) (hl : es.length ≤ sizeLine) (q : Q (σ.set k (.dict (put es key z) none))) : WSet prog w B A (.ref k) key.v z σ Q X := fun φ s v u t G hv hu hz => by
  obtain ⟨a, rfl, ha⟩ := hv.of_ref
  obtain ⟨a', ha', kvs, ep, hd, hvs, _⟩ := G.get hσ
  rw [ha] at ha'; cases ha'
  have hkey : (kk prog w).is key u = true := by
    cases key with
    | s y => obtain ⟨t, rfl⟩ := hu.of_str; simp [kk, Key.is, Value.isStrOf]
    | i n => obtain ⟨t, rfl⟩ := hu.of_int; simp [kk, Key.is, Value.isInt]
  have hn : ∀ o, s.heap.get? a = some o → ¬ Still o := fun o e => G.notStill (List.mem_of_getElem? ha) e
  refine wpAny_setItem_pairs hkey hd.dictOf (fun h' hd' hsb => ?_) (by rw [hvs.length]; exact hl)
  obtain ⟨ep', hd''⟩ := hd'.dictAt
  refine ⟨φ, _, Step.update hsb (List.mem_of_getElem? ha), G.update (s' := { s with heap := h', toks := s.toks + 1 }) (ob := .dict (put es key z) none) ha hsb ⟨_, ep', hd'', ?_, fun n e => by cases e⟩, q⟩
  exact (hvs.put key hz).mono (List.prefix_refl _) fun a o e hst => hsb.extBut a o (fun h => hn o (h ▸ e) hst) e

/-! a key in a dict -/
/-! len -/
theorem Vals.one {h : Heap} {x : V} {vs : List Value} (hv : Vals φ h [x] vs) : ∃ v, vs = [v] ∧ Val φ h x v := by
  rw [Vals] at hv; obtain ⟨v, r, rfl, h1, hv⟩ := hv
  rw [Vals] at hv; subst hv
  exact ⟨v, rfl, h1⟩
theorem Vals.two {h : Heap} {x y : V} {vs : List Value} (hv : Vals φ h [x, y] vs) : ∃ v u, vs = [v, u] ∧ Val φ h x v ∧ Val φ h y u := by
  rw [Vals] at hv; obtain ⟨v, r, rfl, h1, hv⟩ := hv
  obtain ⟨u, rfl, h2⟩ := hv.one
  exact ⟨v, u, rfl, h1, h2⟩
theorem Vals.three {h : Heap} {x y z : V} {vs : List Value} (hv : Vals φ h [x, y, z] vs) : ∃ v u t, vs = [v, u, t] ∧ Val φ h x v ∧ Val φ h y u ∧ Val φ h z t := by
  rw [Vals] at hv; obtain ⟨v, r, rfl, h1, hv⟩ := hv
  obtain ⟨u, t, rfl, h2, h3⟩ := hv.two
  exact ⟨v, u, t, rfl, h1, h2, h3⟩
theorem C_len_list {k : Nat} {xs : List V} (hσ : σ[k]? = some (.list xs)) (hf : (xs.length : Int) < 2 ^ 63) (q : Q (.int xs.length) σ) : WC prog w B A (.builtin "len") [.ref k] σ Q X := fun φ s vs G hv => by
  obtain ⟨v, rfl, hx⟩ := hv.one
  obtain ⟨a, rfl, ha⟩ := hx.of_ref
  obtain ⟨a', ha', vs, n, ho, hvs⟩ := G.get hσ
  rw [ha] at ha'; cases ha'
  have hlen : vs.size = xs.length := by simpa using hvs.length
  exact call_len_list ⟨_, ho, rfl, n, rfl⟩ (by rw [hlen]; exact hf) (Post.tok G ⟨_, .int_ _ _, by rw [hlen]; exact q⟩)
theorem C_len_str {x : Str} (hf : (x.length : Int) < 2 ^ 63) (q : Q (.int x.length) σ) : WC prog w B A (.builtin "len") [.str x] σ Q X := fun φ s vs G hv => by
  obtain ⟨v, rfl, hx⟩ := hv.one
  obtain ⟨t, rfl⟩ := hx.of_str
  exact PyProof.Rows.len_str (by omega) (Post.tok G ⟨_, .int_ _ _, q⟩)
theorem C_len_tup {xs : List V} (hf : (xs.length : Int) < 2 ^ 63) (q : Q (.int xs.length) σ) : WC prog w B A (.builtin "len") [.tup xs] σ Q X := fun φ s vs G hv => by
  obtain ⟨v, rfl, hx⟩ := hv.one
  obtain ⟨a, vs, rfl, ht, hvs⟩ := hx.of_tup
  have hlen : vs.size = xs.length := by simpa using hvs.length
  exact len_tuple ht (by rw [hlen]; exact hf) (Post.tok G ⟨_, .int_ _ _, by rw [hlen]; exact q⟩)
end
end Mine

set_option autoImplicit false
set_option linter.unusedVariables false
set_option maxRecDepth 100000
namespace Mine
open PySem PySem.W PySem.Calls PyProof.Rows

structure AOk (n : Nat) (A : Around) : Prop where
  handled : A.handled = none
  depth : A.depth + n ≤ 900
  units : A.units + 10 * n ≤ 9000
theorem AOk.deeper {n : Nat} {A : Around} {env : Env} (h : AOk (n + 1) A) : AOk n (A.deeper env) :=
  ⟨h.handled, by have := h.depth; show A.depth + 1 + n ≤ 900; omega, by have := h.units; show A.units + 3 + 10 * n ≤ 9000; omega⟩
theorem AOk.le {n m : Nat} {A : Around} (h : AOk n A) (hm : m ≤ n) : AOk m A := ⟨h.handled, by have := h.depth; omega, by have := h.units; omega⟩
theorem AOk.room {n : Nat} {A : Around} (h : AOk n A) : A.depth < recursionLimit := by have := h.depth; show A.depth < 1000; omega

/-- the globals and the built-ins -/
structure Gl (B : Shared) (mg mb : Str → Option Value) : Prop where
  g : B.heap.Ns mainGlobals mg
  b : B.heap.Ns builtinsNs mb
  lim : B.heap.NoLimit

section
variable (prog : Program) (w : World) (B : Shared) (mg mb : Str → Option Value)
/-- a contract of a global function -/
def CF (x : Str) (n : Nat) (P : List V → List AObj → (V → List AObj → Prop) → XT → Prop) : Prop :=
  B.heap.Ns mainGlobals mg ∧ ∃ v, mg x = some v ∧ Keep B v ∧ ∀ A xs σ Q X, AOk n A → P xs σ Q X → WC prog w B A v xs σ Q X
/-- a built-in name -/
def Bi (x : Str) (v : Value) : Prop := B.heap.Ns mainGlobals mg ∧ B.heap.Ns builtinsNs mb ∧ mg x = none ∧ mb x = some v
end

section
variable {prog : Program} {w : World} {B : Shared} {mg mb : Str → Option Value} {φ φ' : List Addr} {σ σ' : List AObj} {s s' : Shared} {env : Env} {ρ : List (Str × V)} {A : Around} {X : XT} {Q : V → List AObj → Prop}

theorem E_cf {x : Str} {px pos : Pos} {es : List Expr} {n : Nat} {P : List V → List AObj → (V → List AObj → Prop) → XT → Prop} (C : CF prog w B mg x n P) (hA : AOk n A)
    (h : WEs prog w B A env es ρ σ (fun xs σ₁ => P xs σ₁ Q X) X)
    (hx : env.kindOf x = some .globalImplicit := by kernel_rfl!)
    (hp : ∀ pos, (backTo pos (starEach es env)).any (·.1) = false := by intro _; with_unfolding_all rfl)
    (hd : (x == ("__debug__" : Str)) = false := by decide +kernel) :
    WE prog w B A env (.Call (.Name x px) es [] pos) ρ σ Q X := by
  obtain ⟨hg, v, hv, hk, hP⟩ := C
  refine E_call (f := v) (E_global hg hv (Val.raw_ v) hx ⟨rfl, ?_⟩ hd) hk hp
  exact fun p φ s G L => (h p φ s G L).mono fun a φ' σ' s' ⟨xs, hxs, q⟩ => ⟨xs, hxs, hP A xs σ' Q X hA q⟩
theorem E_bi {x : Str} {px pos : Pos} {es : List Expr} {v : Value} (C : Bi B mg mb x v) (hk : Keep B v)
    (h : WEs prog w B A env es ρ σ (fun xs σ₁ => WC prog w B A v xs σ₁ Q X) X)
    (hx : env.kindOf x = some .globalImplicit := by kernel_rfl!)
    (hp : ∀ pos, (backTo pos (starEach es env)).any (·.1) = false := by intro _; with_unfolding_all rfl)
    (hd : (x == ("__debug__" : Str)) = false := by decide +kernel) :
    WE prog w B A env (.Call (.Name x px) es [] pos) ρ σ Q X :=
  E_call (f := v) (E_builtin C.1 C.2.2.1 C.2.1 C.2.2.2 hx ⟨rfl, h⟩ hd) hk hp
/-! statements in a row -/
theorem X_ret {e : Expr} {pos : Pos} {rest : List Stmt} {Q : Fl → List (Str × V) → List AObj → Prop} (h : WE prog w B A env e ρ σ (fun x σ₁ => Q (.ret x) ρ σ₁) X) : WX prog w B A env (.Return (some e) pos :: rest) ρ σ Q X :=
  X_cons (X_return h)
theorem X_let {x : Str} {e : Expr} {px pos : Pos} {rest : List Stmt} {Q : Fl → List (Str × V) → List AObj → Prop} (h : WE prog w B A env e ρ σ (fun y σ₁ => WX prog w B A env rest ((x, y) :: ρ) σ₁ Q X) X)
    (hx : env.kindOf x = some .local := by kernel_rfl!)
    (hs : swapsWith e (some (.Name x px)) pos.line env = pure false := by with_unfolding_all rfl) : WX prog w B A env (.Assign [.Name x px] e pos :: rest) ρ σ Q X :=
  X_cons (X_assign h (.inl hx) hs)
theorem X_letc {x : Str} {e : Expr} {px pos : Pos} {rest : List Stmt} {Q : Fl → List (Str × V) → List AObj → Prop} (h : WE prog w B A env e ρ σ (fun y σ₁ => WX prog w B A env rest ((x, y) :: ρ) σ₁ Q X) X)
    (hx : env.kindOf x = some .cell := by kernel_rfl!) (hc : (env.cells.lookup x).isSome = true := by kernel_rfl!)
    (hs : swapsWith e (some (.Name x px)) pos.line env = pure false := by with_unfolding_all rfl) : WX prog w B A env (.Assign [.Name x px] e pos :: rest) ρ σ Q X :=
  X_cons (X_assign h (.inr ⟨hx, hc⟩) hs)
theorem X_ifs {test : Expr} {body orelse : List Stmt} {pos : Pos} {rest : List Stmt} {Q : Fl → List (Str × V) → List AObj → Prop}
    (h : WT prog w B A env test ρ σ (fun b σ₁ => if b then WX prog w B A env body ρ σ₁ (seqQ prog w B A env rest Q X) X else WX prog w B A env orelse ρ σ₁ (seqQ prog w B A env rest Q X) X) X) : WX prog w B A env (.If test body orelse pos :: rest) ρ σ Q X := X_cons (X_if h)
theorem X_set {o i value : Expr} {p pos : Pos} {rest : List Stmt} {Q : Fl → List (Str × V) → List AObj → Prop}
    (h : WE prog w B A env value ρ σ (fun z σ₁ => WE prog w B A env o ρ σ₁ (fun x σ₂ => WE prog w B A env i ρ σ₂ (fun y σ₃ => WSet prog w B A x y z σ₃ (fun σ₄ => WX prog w B A env rest ρ σ₄ Q X) X) X) X) X)
    (hs : swapsWith value (some (.Subscript o i p)) pos.line env = pure false := by with_unfolding_all rfl) : WX prog w B A env (.Assign [.Subscript o i p] value pos :: rest) ρ σ Q X := X_cons (X_setitem h hs)
theorem X_loop {x : Str} {px pos : Pos} {iter : Expr} {body rest : List Stmt} {Q : Fl → List (Str × V) → List AObj → Prop} 
    (h : WE prog w B A env iter ρ σ (fun v σ' => ∃ σ₁ n el C, ∃ Iv : Nat → List (Str × V) → List AObj → Prop, WIt prog w B A v σ' σ₁ n el C ∧ C σ₁ ∧ Iv 0 ρ σ₁ ∧
      (∀ i ρ₂ σ₂, i < n → C σ₂ → Iv i ρ₂ σ₂ → WX prog w B A env body ((x, el i) :: ρ₂) σ₂ (turnQ (Iv (i + 1)) C (seqQ prog w B A env rest Q X)) (fun _ _ _ _ => False)) ∧
      (∀ ρ₂ σ₂, C σ₂ → Iv n ρ₂ σ₂ → WX prog w B A env rest ρ₂ σ₂ Q X)) X)
    (hx : env.kindOf x = some .local := by kernel_rfl!)
    (hs : ∀ v, foldedSetIterable iter env v = pure v := by intro _; with_unfolding_all rfl) (hl : ∀ it v, letOwnedTupleGo (.Name x px) it v = pure () := by intro _ _; with_unfolding_all rfl) :
    WX prog w B A env (.For (.Name x px) iter body [] pos :: rest) ρ σ Q X := X_cons (X_for h (.inl hx) hs hl)

/-! ends of rows -/
theorem sq_ret {rest : List Stmt} {Q : Fl → List (Str × V) → List AObj → Prop} {x : V} (q : Q (.ret x) ρ σ) : seqQ prog w B A env rest Q X (.ret x) ρ σ := q
theorem sq_next {rest : List Stmt} {Q : Fl → List (Str × V) → List AObj → Prop} (q : WX prog w B A env rest ρ σ Q X) : seqQ prog w B A env rest Q X .next ρ σ := q
/-- the end of a def -/
def retQ (σ : List AObj) (Q : V → List AObj → Prop) : Fl → List (Str × V) → List AObj → Prop := fun fl _ σ' => Clean σ Q (retV fl) σ'
theorem R_all {σ₀ : List AObj} {x : V} (q : Q x σ) : retQ σ₀ Q (.ret x) ρ σ := .all q
theorem R_none {σ₀ junk : List AObj} {x : V} (hx : x.lt σ₀.length) (q : Q x σ₀) : retQ σ₀ Q (.ret x) ρ (σ₀ ++ junk) := .none hx q
theorem R_one {σ₀ j1 j2 : List AObj} {ob : AObj} {k : Nat} (hk : k = σ₀.length + j1.length) (ho : ob.lt σ₀.length) (q : Q (.ref σ₀.length) (σ₀ ++ [ob])) : retQ σ₀ Q (.ret (.ref k)) ρ (σ₀ ++ j1 ++ ob :: j2) := .one hk ho q
theorem O_pow60 (q : Q (.int (10 ^ 60)) σ) : W2 prog w B A (binaryOp .Pow) (.int 10) (.int 60) σ Q X := O_pow q (by decide) (by decide) (by decide)

/-! names -/
theorem look_here {x y : Str} {v : V} {ρ : List (Str × V)} (h : x = y) : ((y, v) :: ρ).lookup x = some v := by subst h; simp
theorem look_there {x y : Str} {u v : V} {ρ : List (Str × V)} (h : (x == y) = false) (hr : ρ.lookup x = some v) : ((y, u) :: ρ).lookup x = some v := by rw [List.lookup_cons, h]; exact hr

def LookQ (ρ : List (Str × V)) (x : Str) (P : V → Prop) (R : Prop) : Prop := (∃ v, ρ.lookup x = some v ∧ P v) ∨ R
theorem LQ_here {x : Str} {v : V} {ρ : List (Str × V)} {P : V → Prop} {R : Prop} (p : P v) : LookQ ((x, v) :: ρ) x P R := .inl ⟨v, look_here rfl, p⟩
theorem LQ_there {x y : Str} {u : V} {ρ : List (Str × V)} {P : V → Prop} {R : Prop} (h : (x == y) = false) (p : LookQ ρ x P R) : LookQ ((y, u) :: ρ) x P R := p.imp (fun ⟨v, h1, h2⟩ => ⟨v, look_there h h1, h2⟩) id
theorem LQ_nil {x : Str} {P : V → Prop} {R : Prop} (r : R) : LookQ [] x P R := .inr r
/-- a global name -/
def NG (prog : Program) (w : World) (B : Shared) (A : Around) (env : Env) (x : Str) (ρ : List (Str × V)) (σ : List AObj) (Q : V → List AObj → Prop) (X : XT) : Prop := ∀ pos, WE prog w B A env (.Name x pos) ρ σ Q X
theorem E_nm {x : Str} {pos : Pos} (h : LookQ ρ x (fun v => Q v σ) (NG prog w B A env x ρ σ Q X)) (hd : (x == ("__debug__" : Str)) = false := by decide +kernel) (hn : (x == ("__classdict__" : Str)) = false := by decide +kernel) :
    WE prog w B A env (.Name x pos) ρ σ Q X := h.elim (fun ⟨v, h1, h2⟩ => E_name h1 h2 hd hn) fun h => h pos
theorem N_bi {x : Str} {v : Value} (C : Bi B mg mb x v) (q : Q (.raw v) σ)
    (hx : env.kindOf x = some .globalImplicit := by kernel_rfl!)
    (hd : (x == ("__debug__" : Str)) = false := by decide +kernel) :
    NG prog w B A env x ρ σ Q X := fun pos => E_builtin C.1 C.2.2.1 C.2.1 C.2.2.2 hx q hd
/-! branches -/
theorem iteD {c : Prop} [Decidable c] {P P' : Prop} (h1 : c → P) (h2 : ¬ c → P') : if (decide c) = true then P else P' := by
  by_cases hc : c
  · rw [if_pos (decide_eq_true hc)]; exact h1 hc
  · rw [if_neg (by simpa using hc)]; exact h2 hc
theorem iteDn {c : Prop} [Decidable c] {P P' : Prop} (h1 : ¬ c → P) (h2 : c → P') : if (!decide c) = true then P else P' := by
  by_cases hc : c
  · rw [if_neg (by simpa using hc)]; exact h2 hc
  · rw [if_pos (by simpa using hc)]; exact h1 hc
theorem iteB {b : Bool} {P P' : Prop} (h1 : b = true → P) (h2 : b = false → P') : if b = true then P else P' := by
  cases b
  · exact h2 rfl
  · exact h1 rfl
theorem iteT {P P' : Prop} (h1 : P) : if true = true then P else P' := h1
theorem iteF {P P' : Prop} (h1 : P') : if false = true then P else P' := h1

/-! isinstance -/
def Isi (Tx T : String) (b : Bool) : Prop := typeOf (.type T) = pure (.type "type") ∧ isSubtype (.type Tx) (.type T) = pure b ∧ (Value.type Tx == Value.type T) = (Tx == T) ∧ (b = false → (Tx == T) = false)
theorem Isi.ne {Tx T : String} (h : Isi Tx T false) : (Value.type Tx == Value.type T) = false := h.2.2.1.trans (h.2.2.2 rfl)

theorem isi_yes {x : V} {Tx T : String} (h : Isi Tx T true) (ht : ∀ φ s v, St prog w B φ σ s → Val φ s.heap x v → s.TypeIs v Tx) (q : Q (.bool true) σ) : WC prog w B A (.builtin "isinstance") [x, .raw (.type T)] σ Q X := fun φ s vs G hv => by
  obtain ⟨v, u, rfl, hx, hu⟩ := hv.two
  obtain rfl := hu.of_raw
  exact call_isinstance_yes (ht φ s v G hx) h.1 h.2.1 (Post.here G ⟨_, .bool_ _, q⟩)

theorem isi_int {i : Int} {T : String} {b : Bool} (h : Isi "int" T b) (q : Q (.bool b) σ) : WC prog w B A (.builtin "isinstance") [.int i, .raw (.type T)] σ Q X := by
  cases b
  · intro φ s vs G hv
    obtain ⟨v, u, rfl, hx, hu⟩ := hv.two
    obtain rfl := hu.of_raw
    obtain ⟨t, rfl⟩ := hx.of_int
    exact call_isinstance (isinstance_false_int h.ne h.1 h.2.1) (Post.tok G ⟨_, .bool_ _, q⟩)
  · exact isi_yes h (fun φ s v G hx => by obtain ⟨t, rfl⟩ := hx.of_int; exact rfl) q
theorem isi_str {i : Str} {T : String} {b : Bool} (h : Isi "str" T b) (q : Q (.bool b) σ) : WC prog w B A (.builtin "isinstance") [.str i, .raw (.type T)] σ Q X := by
  cases b
  · intro φ s vs G hv
    obtain ⟨v, u, rfl, hx, hu⟩ := hv.two
    obtain rfl := hu.of_raw
    obtain ⟨t, rfl⟩ := hx.of_str
    exact call_isinstance (isinstance_false_str h.ne h.1 h.2.1) (Post.tok G ⟨_, .bool_ _, q⟩)
  · exact isi_yes h (fun φ s v G hx => by obtain ⟨t, rfl⟩ := hx.of_str; exact typeIs_str s i t) q
theorem isi_tup {xs : List V} {T : String} {b : Bool} (h : Isi "tuple" T b) (q : Q (.bool b) σ) : WC prog w B A (.builtin "isinstance") [.tup xs, .raw (.type T)] σ Q X := by
  cases b
  · intro φ s vs G hv
    obtain ⟨v, u, rfl, hx, hu⟩ := hv.two
    obtain rfl := hu.of_raw
    obtain ⟨a, vs, rfl, ⟨o, ho, hc, _⟩, _⟩ := hx.of_tup
    exact call_isinstance (isinstance_false_tuple h.ne h.1 h.2.1) ⟨⟨o, ho, hc⟩, Post.tok G ⟨_, .bool_ _, q⟩⟩
  · exact isi_yes h (fun φ s v G hx => by obtain ⟨a, vs, rfl, ht, _⟩ := hx.of_tup; exact ht.typeIs) q
theorem isi_dict {k : Nat} {es : List (Key × V)} {e : Option Nat} {T : String} {b : Bool} (hσ : σ[k]? = some (.dict es e)) (h : Isi "dict" T b) (q : Q (.bool b) σ) : WC prog w B A (.builtin "isinstance") [.ref k, .raw (.type T)] σ Q X := by
  cases b
  · intro φ s vs G hv
    obtain ⟨v, u, rfl, hx, hu⟩ := hv.two
    obtain rfl := hu.of_raw
    obtain ⟨a, rfl, ha⟩ := hx.of_ref
    obtain ⟨a', ha', kvs, ep, hd, hvs, _⟩ := G.get hσ
    rw [ha] at ha'; cases ha'
    have ⟨o, ho, hc⟩ := hd.dictOf.mapOf.typeIs
    exact call_isinstance (isinstance_false_dict h.ne h.1 h.2.1) ⟨⟨o, ho, hc⟩, Post.tok G ⟨_, .bool_ _, q⟩⟩
  · refine isi_yes h (fun φ s v G hx => ?_) q
    obtain ⟨a, rfl, ha⟩ := hx.of_ref
    obtain ⟨a', ha', kvs, ep, hd, hvs, _⟩ := G.get hσ
    rw [ha] at ha'; cases ha'
    exact hd.dictOf.mapOf.typeIs

end
end Mine

set_option autoImplicit false
set_option linter.unusedVariables false
set_option maxRecDepth 100000
namespace Mine
open PySem PySem.W PySem.Calls PyProof.Rows

theorem sub_of {Tx : String} {mro : List Value} {base : Value} {b : Bool} (h : fastBuiltinMro Tx = some mro) (hc : mro.contains base = b) : isSubtype (.type Tx) base = pure b := by
  rw [isSubtype_type, h]; show pure _ = _; rw [hc]
theorem mro_int : fastBuiltinMro "int" = some [.type "int", .type "object"] := by kernel_rfl
theorem mro_str : fastBuiltinMro "str" = some [.type "str", .type "object"] := by kernel_rfl
theorem mro_tuple : fastBuiltinMro "tuple" = some [.type "tuple", .type "object"] := by kernel_rfl
theorem mro_dict : fastBuiltinMro "dict" = some [.type "dict", .type "object"] := by kernel_rfl
theorem ty_int : typeOf (.type "int") = pure (.type "type") := by kernel_rfl
theorem ty_bool : typeOf (.type "bool") = pure (.type "type") := by kernel_rfl
theorem ty_str : typeOf (.type "str") = pure (.type "type") := by kernel_rfl
theorem ty_tuple : typeOf (.type "tuple") = pure (.type "type") := by kernel_rfl
theorem ty_dict : typeOf (.type "dict") = pure (.type "type") := by kernel_rfl
theorem isi_int_int : Isi "int" "int" true := ⟨ty_int, sub_of mro_int (by decide +kernel), by decide +kernel, by decide +kernel⟩
theorem isi_int_bool : Isi "int" "bool" false := ⟨ty_bool, sub_of mro_int (by decide +kernel), by decide +kernel, by decide +kernel⟩
theorem isi_str_str : Isi "str" "str" true := ⟨ty_str, sub_of mro_str (by decide +kernel), by decide +kernel, by decide +kernel⟩
theorem isi_tuple_tuple : Isi "tuple" "tuple" true := ⟨ty_tuple, sub_of mro_tuple (by decide +kernel), by decide +kernel, by decide +kernel⟩
theorem isi_dict_dict : Isi "dict" "dict" true := ⟨ty_dict, sub_of mro_dict (by decide +kernel), by decide +kernel, by decide +kernel⟩
/-- the built-in names -/
structure Blt (B : Shared) (mg mb : Str → Option Value) : Prop where
  len_ : Bi B mg mb "len" (.builtin "len")
  isinstance_ : Bi B mg mb "isinstance" (.builtin "isinstance")
  max_ : Bi B mg mb "max" (.builtin "max")
  min_ : Bi B mg mb "min" (.builtin "min")
  sum_ : Bi B mg mb "sum" (.builtin "sum")
  sorted_ : Bi B mg mb "sorted" (.builtin "sorted")
  int_ : Bi B mg mb "int" (.type "int")
  bool_ : Bi B mg mb "bool" (.type "bool")
  str_ : Bi B mg mb "str" (.type "str")
  tuple_ : Bi B mg mb "tuple" (.type "tuple")
  list_ : Bi B mg mb "list" (.type "list")
  dict_ : Bi B mg mb "dict" (.type "dict")
  set_ : Bi B mg mb "set" (.type "set")
  range_ : Bi B mg mb "range" (.type "range")
  enumerate_ : Bi B mg mb "enumerate" (.type "enumerate")

/-- the def at a place of the text -/
def dr (p : Program) (i : Nat) : DefRec := match p.main.body[i]? with
  | some (.FunctionDef name args body _ _ _ scope _ _ pos) => ⟨name, args, body, scope, pos⟩
  | _ => ⟨"", { posonlyargs := [], args := [], vararg := none, kwonlyargs := [], kw_defaults := [], kwarg := none, defaults := [] }, [], { kind := .function, names := [], isGenerator := false, isCoroutine := false, more := [] }, ⟨0, 0, 0, 0⟩⟩
def HasF (B : Shared) (mg : Str → Option Value) (d : DefRec) : Prop :=
  ∃ a o pm code doc, mg d.name = some (.ref a) ∧ B.heap.get? a = some o ∧ o.data = .func (docDef d.name d.params d.body d.scope pm code doc) ∧ B.heap.CodeRec code d.name

theorem len_1 {vals : List Value} (h : vals.length = 1) : ∃ a, vals = [a] := List.length_eq_one_iff.mp h
theorem len_2 {vals : List Value} (h : vals.length = 2) : ∃ a b, vals = [a, b] := by
  cases vals with
  | nil => cases h
  | cons a r => obtain ⟨b, rfl⟩ := len_1 (Nat.succ.inj h); exact ⟨a, b, rfl⟩
theorem len_3 {vals : List Value} (h : vals.length = 3) : ∃ a b c, vals = [a, b, c] := by
  cases vals with
  | nil => cases h
  | cons a r => obtain ⟨b, c, rfl⟩ := len_2 (Nat.succ.inj h); exact ⟨a, b, c, rfl⟩
structure Good (d : DefRec) (names : List Str) : Prop where
  bind : ∀ (pm code doc : Value) (vals : List Value), vals.length = names.length → bindArgs (docDef d.name d.params d.body d.scope pm code doc) ⟨vals, []⟩ = pure (names.zip vals)
  kinds : ∀ n ∈ names, d.scope.names.lookup n = some .local ∨ d.scope.names.lookup n = some .cell
  nodup : names.Nodup
  cnodup : (d.scope.names.map (·.1)).Nodup
  co : d.scope.isCoroutine = false
  gen : d.scope.isGenerator = false
  kind : d.scope.kind = .function

section
variable {prog : Program} {w : World} {B : Shared} {mg mb : Str → Option Value} {φ φ' : List Addr} {σ σ' : List AObj} {s s' : Shared} {env : Env} {ρ : List (Str × V)} {A : Around} {X : XT} {Q : V → List AObj → Prop}

theorem HasF.fn {d : DefRec} {names : List Str} (H : HasF B mg d) (lim : B.heap.NoLimit) (g : Good d names) : ∃ a pm code doc, mg d.name = some (.ref a) ∧ Fn B a names (docDef d.name d.params d.body d.scope pm code doc) d.body := by
  obtain ⟨a, o, pm, code, doc, h1, h2, h3, h4⟩ := H
  exact ⟨a, pm, code, doc, h1, ⟨o, h2, h3⟩, lim, h4, rfl, rfl, rfl, rfl, g.bind pm code doc, g.kinds, g.nodup, g.cnodup, g.co, g.gen, g.kind⟩

/-- the contract of a def by a walk of its body -/
theorem CF_of {d : DefRec} {names : List Str} {n : Nat} {P : List V → List AObj → (V → List AObj → Prop) → XT → Prop} (gl : Gl B mg mb) (H : HasF B mg d) (g : Good d names)
    (h : ∀ A pm code doc L a xs σ Q X, AOk n A → P xs σ Q X → xs.length = names.length ∧ WX prog w B A (callEnvC (docDef d.name d.params d.body d.scope pm code doc) L a) d.body (names.zip xs) σ (retQ σ Q) (fun _ _ _ _ => False)) :
    CF prog w B mg d.name (n + 1) P := by
  obtain ⟨a, pm, code, doc, h1, F⟩ := H.fn gl.lim g
  refine ⟨gl.g, .ref a, h1, Keep.fn F, fun A xs σ Q X hA hP => WC.clean (C_fn F ?_ hA.room fun L => ?_)⟩
  · exact (h A pm code doc 0 a xs σ Q X (hA.le (Nat.le_succ n)) hP).1
  · exact (h _ pm code doc L a xs σ Q X hA.deeper hP).2

/-! the script -/
structure Scr (B : Shared) (scr : Addr) (nums : List Int) : Prop where
  list : ∃ vs : Array Value, B.heap.IsList scr vs ∧ IntsAre vs.toList nums
  len : nums.length ≤ 63

theorem C_len_scr {scr : Addr} {nums : List Int} (S : Scr B scr nums) (q : Q (.int nums.length) σ) : WC prog w B A (.builtin "len") [.raw (.ref scr)] σ Q X := fun φ s vs G hv => by
  obtain ⟨v, rfl, hx⟩ := hv.one
  obtain rfl := hx.of_raw
  obtain ⟨vs, ⟨o, ho, hc, n, hd⟩, hI⟩ := S.list
  have hl : vs.size = nums.length := by simpa using hI.length
  have := S.len
  exact call_len_list ⟨o, G.base _ _ ho, hc, n, hd⟩ (by omega) (Post.tok G ⟨_, .int_ _ _, by rw [hl]; exact q⟩)
theorem S_scr {value slice : Expr} {scr : Addr} {nums : List Int} {i : Int} (S : Scr B scr nums) (h0 : 0 ≤ i) (hi : i < nums.length) (q : Q (.int (nums.getD i.toNat 0)) σ)
    (hs : PlainSlice slice := by with_unfolding_all exact fun _ _ => rfl) : WSub prog w B A value slice (.raw (.ref scr)) (.int i) σ Q X := fun φ s v u G hv hu => by
  obtain rfl := hv.of_raw; obtain ⟨t, rfl⟩ := hu.of_int
  obtain ⟨vs, ⟨o, ho, hc, n, hd⟩, hI⟩ := S.list
  have hl : s.heap.IsList scr vs := ⟨o, G.base _ _ ho, hc, n, hd⟩
  have hi' : i.toNat < nums.length := by omega
  have := S.len
  have hsz : vs.size = nums.length := by simpa using hI.length
  have hv' : vs.toList[i.toNat]? = some (vs.toList[i.toNat]'(by simp; omega)) := List.getElem?_eq_getElem _
  obtain ⟨t', e⟩ := hI.int_at i.toNat _ hv'
  refine tail_any hl.typeIs slot_list_getitem.lookup (wpAny_getItem_list hl h0 (by omega) (by rw [← Array.getElem?_toList]; exact hv') ?_) (hs _ _)
  rw [e]
  exact Post.here G ⟨_, .int_ _ _, q⟩

theorem gWX {ss : List Stmt} {Q : Fl → List (Str × V) → List AObj → Prop} (h : WX prog w B A env ss ρ σ Q X) : WX prog w B A env ss ρ σ Q X := h
theorem gWE {e : Expr} (h : WE prog w B A env e ρ σ Q X) : WE prog w B A env e ρ σ Q X := h
theorem gWT {e : Expr} {Q : Bool → List AObj → Prop} (h : WT prog w B A env e ρ σ Q X) : WT prog w B A env e ρ σ Q X := h
theorem gW2 {t : Value → Value → Sem Value} {x y : V} (h : W2 prog w B A t x y σ Q X) : W2 prog w B A t x y σ Q X := h
theorem gW1 {α : Type} {t : Value → Sem α} {x : V} {Q : α → List Addr → List AObj → Shared → Prop} (h : W1 prog w B A t x σ Q X) : W1 prog w B A t x σ Q X := h
theorem gWC {f : Value} {xs : List V} (h : WC prog w B A f xs σ Q X) : WC prog w B A f xs σ Q X := h
theorem gCall {f : Expr} {es : List Expr} {ks : List Keyword} {pos : Pos} (h : WE prog w B A env (.Call f es ks pos) ρ σ Q X) : WE prog w B A env (.Call f es ks pos) ρ σ Q X := h
theorem gWSub {value slice : Expr} {x y : V} (h : WSub prog w B A value slice x y σ Q X) : WSub prog w B A value slice x y σ Q X := h
end
end Mine

set_option autoImplicit false
set_option linter.unusedVariables false
set_option maxRecDepth 100000
namespace Mine
open PySem PySem.W PySem.Calls PyProof.Rows

/-- the names of l stand in ρ -/
def Sub (l ρ : List (Str × V)) : Prop := ∀ x v, l.lookup x = some v → ρ.lookup x = some v
theorem Sub.nil {ρ : List (Str × V)} : Sub [] ρ := fun _ _ h => by cases h
theorem Sub.cons {l ρ : List (Str × V)} {x : Str} {v : V} (h : LookQ ρ x (fun u => u = v ∧ Sub l ρ) False) : Sub ((x, v) :: l) ρ := by
  rcases h with ⟨u, h1, rfl, h2⟩ | h
  · intro y z hy
    by_cases e : y = x
    · subst e; rw [List.lookup_cons_self] at hy; cases hy; exact h1
    · rw [lookup_cons_ne e] at hy; exact h2 y z hy
  · exact h.elim

section
variable {prog : Program} {w : World} {B : Shared} {mg mb : Str → Option Value} {φ φ' : List Addr} {σ σ' : List AObj} {s s' : Shared} {env : Env} {ρ l : List (Str × V)} {A : Around} {X : XT} {Q : V → List AObj → Prop}

theorem Loc.sub {h : Heap} (L : Loc B env ρ φ h) (hs : Sub l ρ) : Loc B env l φ h :=
  ⟨L.kind, L.glob, L.blt, L.ns, L.own, L.cells, L.apart, fun x v hx => L.val x v (hs x v hx)⟩
theorem X_weak {ss : List Stmt} {Q : Fl → List (Str × V) → List AObj → Prop} (hs : Sub l ρ) (h : WX prog w B A env ss l σ Q X) : WX prog w B A env ss ρ σ Q X := fun φ s G L => h φ s G (L.sub hs)

/-- what the arms of an «if» leave -/
def joinQ {ι : Type} (C : ι → Prop) (l : ι → List (Str × V)) (f : ι → List AObj) (Q : Fl → List (Str × V) → List AObj → Prop) : Fl → List (Str × V) → List AObj → Prop
  | .next, ρ', σ' => ∃ i, C i ∧ σ' = f i ∧ Sub (l i) ρ'
  | fl, ρ', σ' => Q fl ρ' σ'
theorem J_next {ι : Type} {C : ι → Prop} {l : ι → List (Str × V)} {f : ι → List AObj} {Q : Fl → List (Str × V) → List AObj → Prop} (i : ι) (hC : C i) (hσ : σ = f i) (hs : Sub (l i) ρ) : joinQ C l f Q .next ρ σ := ⟨i, hC, hσ, hs⟩
theorem X_ifj {ι : Type} (C : ι → Prop) (l : ι → List (Str × V)) (f : ι → List AObj) {test : Expr} {body orelse : List Stmt} {pos : Pos} {rest : List Stmt} {Q : Fl → List (Str × V) → List AObj → Prop}
    (h : WT prog w B A env test ρ σ (fun b σ₁ => if b then WX prog w B A env body ρ σ₁ (joinQ C l f Q) X else WX prog w B A env orelse ρ σ₁ (joinQ C l f Q) X) X)
    (k : ∀ i, C i → WX prog w B A env rest (l i) (f i) Q X) : WX prog w B A env (.If test body orelse pos :: rest) ρ σ Q X := by
  have mono : ∀ (ss : List Stmt) (σ₁ : List AObj), WX prog w B A env ss ρ σ₁ (joinQ C l f Q) X → WX prog w B A env ss ρ σ₁ (seqQ prog w B A env rest Q X) X := fun ss σ₁ hw φ s G L =>
    wpAny_mono (hw φ s G L) (fun v s₁ ⟨φ₁, σ₂, t₁, G₁, fl, ρ', hf, L₁, q⟩ => by
      refine ⟨φ₁, σ₂, t₁, G₁, fl, ρ', hf, L₁, ?_⟩
      cases fl with
      | next => obtain ⟨i, hC, rfl, hs⟩ := q; exact X_weak hs (k i hC)
      | brk => exact q
      | cont => exact q
      | ret x => exact q) fun _ _ x => x
  refine X_cons (X_if fun φ s G L => (h φ s G L).mono fun b φ' σ' s' hb => ?_)
  cases b
  · exact mono _ _ hb
  · exact mono _ _ hb

/-- an expression that leaves the heap and gives a known value -/
theorem E_as {e : Expr} (x : V) (h : WE prog w B A env e ρ σ (fun y σ' => y = x ∧ σ' = σ) X) (q : Q x σ) : WE prog w B A env e ρ σ Q X := h.mono fun y σ' ⟨h1, h2⟩ => by subst h1 h2; exact q
theorem C_len_t2 {x y : V} (q : Q (.int 2) σ) : WC prog w B A (.builtin "len") [.tup [x, y]] σ Q X := C_len_tup (by simp only [List.length_cons, List.length_nil]; decide) q
theorem iteNo {b : Bool} {P P' : Prop} (h : b = false) (p : P') : if b = true then P else P' := by rw [if_neg (by simp [h])]; exact p
end
end Mine

set_option autoImplicit false
set_option linter.unusedVariables false
set_option maxRecDepth 100000
namespace Mine
open PySem PySem.W PySem.Calls PyProof.Rows

section
variable {prog : Program} {w : World} {B : Shared} {mg mb : Str → Option Value} {φ φ' : List Addr} {σ σ' : List AObj} {s s' : Shared} {env : Env} {ρ l : List (Str × V)} {A : Around} {X : XT} {Q : V → List AObj → Prop}

/-! calls of methods -/
def GM (prog : Program) (w : World) (B : Shared) (A : Around) (x : V) (name : Str) (σ : List AObj) (id : String) : Prop :=
  ∀ φ s v (pl : Sem Bool) (R : Value × List Value → Shared → Prop) (E : Value → Shared → Prop), St prog w B φ σ s → Val φ s.heap x v → R (.builtin id, [v]) s → wpAny (model prog w) A (getMethod v name pl) R E s
theorem GM_str {x : Str} {name : Str} {id : String} (slot : Slot "str" name id) (hty : typeOf (.builtin id) = pure (.type "method_descriptor")) : GM prog w B A (.str x) name σ id := fun φ s v pl R E G hv h => by
  obtain ⟨t, rfl⟩ := hv.of_str
  exact getMethod_builtin (typeIs_str _ _ _) F.plainAttrs_str slot hty (fun a e => nomatch e) h
theorem GM_dict {k : Nat} {es : List (Key × V)} {ep : Option Nat} {name : Str} {id : String} (hσ : σ[k]? = some (.dict es ep)) (slot : Slot "dict" name id) (hty : typeOf (.builtin id) = pure (.type "method_descriptor")) : GM prog w B A (.ref k) name σ id := fun φ s v pl R E G hv h => by
  obtain ⟨a, rfl, ha⟩ := hv.of_ref
  obtain ⟨a', ha', kvs, ep, hd, hvs, _⟩ := G.get hσ
  rw [ha] at ha'; cases ha'
  exact getMethod_builtin hd.dictOf.mapOf.typeIs F.plainAttrs_dict slot hty hd.dictOf.mapOf.noDict h

theorem E_mcall {o : Expr} {name : Str} {id : String} {apos pos : Pos} {es : List Expr} {pl : Sem Bool}
    (h : WE prog w B A env o ρ σ (fun x σ₁ => GM prog w B A x name σ₁ id ∧ WEs prog w B A env es ρ σ₁ (fun xs σ₂ => WC prog w B A (.builtin id) (x :: xs) σ₂ Q X) X) X)
    (he : eval (.Call (.Attribute o name apos) es [] pos) env = (do
      let ov ← eval o env
      standAt apos.atName
      let (f, first) ← holding [ov] (getMethod ov name pl)
      callWith pos f first (backTo pos (starEach es env)) []) := by with_unfolding_all rfl)
    (hp : ∀ pos, (backTo pos (starEach es env)).any (·.1) = false := by intro _; with_unfolding_all rfl) :
    WE prog w B A env (.Call (.Attribute o name apos) es [] pos) ρ σ Q X := fun φ s G L => by
  refine MethodCall_ ((h φ s G L).use (.refl ..) fun v s₁ φ₁ σ₁ t₁ _ G₁ ⟨x, hx, gm, h₁⟩ => ?_) he
  refine gm φ₁ s₁ v pl _ _ G₁ hx ?_
  refine callWith_builtin (by rw [hp pos]) ?_
  have main := (h₁ pos φ₁ s₁ G₁ (L.step G t₁)).use t₁ (R := fun vs s₂ => wpAny (model prog w) A (call (.builtin id) ([v] ++ vs)) (Post prog w B [] φ s (vQ Q)) (Post prog w B [] φ s X) s₂) fun vs s₂ φ₂ σ₂ t₂ t G₂ ⟨xs, hxs, h₂⟩ => (h₂ φ₂ s₂ (v :: vs) G₂ (.cons (hx.step G₁ t₂) hxs)).last t
  exact evalArgs_any (hp pos) main

/-! str.join -/
theorem vals_strs : ∀ {texts : List Str} {vs : List Value} {h : Heap}, Vals φ h (texts.map V.str) vs → ∃ l : List (Str × Tok), vs = strValues l ∧ l.map (·.1) = texts
  | [], vs, h, e => by rw [List.map_nil, Vals] at e; subst e; exact ⟨[], rfl, rfl⟩
  | x :: r, vs, h, e => by
    rw [List.map_cons, Vals] at e
    obtain ⟨v, r', rfl, h1, h2⟩ := e
    obtain ⟨t, rfl⟩ := h1.of_str
    obtain ⟨l, rfl, rfl⟩ := vals_strs h2
    exact ⟨(x, t) :: l, rfl, rfl⟩
theorem C_join {sep : Str} {k : Nat} {texts : List Str} (hσ : σ[k]? = some (.list (texts.map V.str))) (hok : JoinOk sep texts = true) (q : Q (.str (Txt.join sep texts)) σ) : WC prog w B A (.builtin "str.join") [.str sep, .ref k] σ Q X := fun φ s vs G hv => by
  obtain ⟨v, u, rfl, h1, h2⟩ := hv.two
  obtain ⟨t, rfl⟩ := h1.of_str
  obtain ⟨a, rfl, ha⟩ := h2.of_ref
  obtain ⟨a', ha', vs, n, ho, hvs⟩ := G.get hσ
  rw [ha] at ha'; cases ha'
  obtain ⟨l, hl, ht⟩ := vals_strs hvs
  refine SC.join (D := a) (l := l) ⟨_, ho, rfl, n, ?_⟩ ht hok fun t' k => Post.tok G ⟨_, .str_ _ _, q⟩
  rw [← hl]
theorem join_fold : ∀ (l : List Nat) (acc : Array Nat), (l.map fun c => (⟨#[c]⟩ : Str)).foldl (fun acc p => acc ++ (#[] : Array Nat) ++ p.cps) acc = acc ++ l.toArray
  | [], acc => by simp
  | c :: r, acc => by
    rw [List.map_cons, List.foldl_cons, join_fold r]
    simp
theorem join_empty (l : List Nat) : Txt.join ⟨#[]⟩ (l.map fun c => ⟨#[c]⟩) = ⟨l.toArray⟩ := by
  unfold Txt.join Builtin.Str.glued
  cases l with
  | nil => rfl
  | cons c r =>
    have := join_fold r #[c]
    simp only [List.map_cons, List.drop_succ_cons, List.drop_zero, List.headD_cons]
    rw [this]
    simp
theorem joinOk_small {sep : Str} {texts : List Str} (h : ∀ y ∈ texts, y.length ≤ 1000) (hn : texts.length ≤ 1000) (hs : sep.length ≤ 1000) : JoinOk sep texts = true := by
  unfold JoinOk
  rw [StrLaws.joinFits h (by have : texts.length * sep.length ≤ 1000 * 1000 := Nat.mul_le_mul hn hs; omega)]
  rfl

/-! list.append, dict.get -/
theorem key_is {key : Key} {h : Heap} {u : Value} (hu : Val φ h key.v u) : (kk prog w).is key u = true := by
  cases key with
  | s y => obtain ⟨t, rfl⟩ := hu.of_str; simp [kk, Key.is, Value.isStrOf]
  | i n => obtain ⟨t, rfl⟩ := hu.of_int; simp [kk, Key.is, Value.isInt]
theorem C_get {k : Nat} {es : List (Key × V)} {e : Option Nat} {key : Key} {d : V} (hσ : σ[k]? = some (.dict es e)) (q : Q ((at? es key).getD d) σ) : WC prog w B A (.builtin "dict.get") [.ref k, key.v, d] σ Q X := fun φ s vs G hv => by
  obtain ⟨v, u, t, rfl, h1, h2, h3⟩ := hv.three
  obtain ⟨a, rfl, ha⟩ := h1.of_ref
  obtain ⟨a', ha', kvs, ep, hd, hvs, _⟩ := G.get hσ
  rw [ha] at ha'; cases ha'
  have hkey : (kk prog w).is key u = true := key_is h2
  refine call_meetsIn F.slot_dict_get hd.dictOf.mapOf.typeIs F.entry_dict_get (F.args_dict_get_3 _ _ _) (meets_dict_get_default (kk prog w) a hkey (G.notSys (List.mem_of_getElem? ha)) t) ⟨_, hd.dictOf.mapOf, ?_⟩
  rcases hvs.at? key with ⟨y, z, e1, e2, e3⟩ | ⟨e1, e2⟩
  · rw [e1] at q; exact Post.tok G ⟨_, by rw [e2]; exact e3, q⟩
  · rw [e1] at q; exact Post.tok G ⟨_, by rw [e2]; exact h3, q⟩
theorem C_get_s {k : Nat} {es : List (Key × V)} {e : Option Nat} {x : Str} {d : V} (hσ : σ[k]? = some (.dict es e)) (q : Q ((at? es (.s x)).getD d) σ) : WC prog w B A (.builtin "dict.get") [.ref k, .str x, d] σ Q X := C_get (key := .s x) hσ q
/-! range -/
theorem C_range1 {n : Int} (q : Q (.rng 0 n 1) σ) : WC prog w B A (.type "range") [.int n] σ Q X := fun φ s vs G hv => by
  obtain ⟨v, rfl, h1⟩ := hv.one
  obtain ⟨t, rfl⟩ := h1.of_int
  have hk : ∀ (ob : Obj) (b : Addr) (o : Obj), s.heap.get? b = some o → (s.heap.push ob).get? b = some o := fun ob b o e => Heap.get?_push_of_some _ e
  exact call_range_1 ⟨φ, σ, .of_keeps (hk _), (G.keeps (s' := { s with heap := _, toks := _ }) (hk _)), .rng 0 n 1, by rw [Val]; exact ⟨_, _, _, _, rfl, Heap.get?_push_size _ rfl⟩, q⟩
/-! new dicts -/
theorem St.newDict {h' : Heap} {tk : Nat} {kvs : List (Key × Value)} {es : List (Key × V)} (G : St prog w B φ σ s) (hk : ∀ b o, s.heap.get? b = some o → h'.get? b = some o) (hd : h'.DictOf (kk prog w) s.heap.objs.size kvs) (he : Ents φ s.heap es kvs) :
    Step [] φ s.heap (φ ++ [s.heap.objs.size]) h' ∧ St prog w B (φ ++ [s.heap.objs.size]) (σ ++ [.dict es none]) { s with heap := h', toks := tk } ∧ Val (φ ++ [s.heap.objs.size]) h' (.ref σ.length) (.ref s.heap.objs.size) := by
  obtain ⟨ep, hd'⟩ := hd.dictAt
  refine ⟨Step.alloc (s' := { s with heap := h' }) (get?_size _) hk, G.alloc (s' := { s with heap := h', toks := tk }) (ob := .dict es none) (get?_size _) hk ⟨kvs, ep, hd', he.mono (List.prefix_append _ _) (fun a o e _ => hk a o e), fun n e => by cases e⟩ G.fresh G.sizeNe, ?_⟩
  rw [Val, ← G.len]
  exact ⟨_, rfl, by simp⟩
theorem E_dict0 {pos : Pos} (q : Q (.ref σ.length) (σ ++ [.dict [] none])) : WE prog w B A env (.Dict [] [] pos) ρ σ Q X := fun φ s G L => by
  refine wpAny_Dict_empty ?_
  have hk : ∀ (b : Addr) (o : Obj), s.heap.get? b = some o → (s.heap.push { cls := .type "dict", data := .dict #[] }).get? b = some o := fun b o e => Heap.get?_push_of_some _ e
  obtain ⟨t, G', hv⟩ := G.newDict (tk := s.toks) (kvs := []) hk (Heap.DictOf.new ..) .nil
  exact ⟨_, _, t, G', _, hv, q⟩

theorem Sub.both {l ρ : List (Str × V)} {x : Str} {v : V} (h : Sub l ρ) : Sub ((x, v) :: l) ((x, v) :: ρ) := fun y z hy => by
  by_cases e : y = x
  · subst e; rw [List.lookup_cons_self] at hy ⊢; exact hy
  · rw [lookup_cons_ne e] at hy ⊢; exact h y z hy
/-- what a turn leaves -/
def turnJ {ι : Type} (D : ι → Prop) (l : ι → List (Str × V)) (f : ι → List AObj) (C : List AObj → Prop) (Q : Fl → List (Str × V) → List AObj → Prop) : Fl → List (Str × V) → List AObj → Prop
  | .next, ρ', σ' => ∃ g, D g ∧ σ' = f g ∧ C σ' ∧ Sub (l g) ρ'
  | .cont, ρ', σ' => ∃ g, D g ∧ σ' = f g ∧ C σ' ∧ Sub (l g) ρ'
  | .brk, ρ', σ' => Q .next ρ' σ'
  | .ret x, ρ', σ' => Q (.ret x) ρ' σ'
theorem TJ_next {ι : Type} {D : ι → Prop} {l : ι → List (Str × V)} {f : ι → List AObj} {C : List AObj → Prop} {Q : Fl → List (Str × V) → List AObj → Prop} (g : ι) (hD : D g) (hσ : σ = f g) (hC : C σ) (hs : Sub (l g) ρ) : turnJ D l f C Q .next ρ σ := ⟨g, hD, hσ, hC, hs⟩
/-- a loop by an invariant with a ghost -/
def ForG (prog : Program) (w : World) (B : Shared) (A : Around) (env : Env) (x : Str) (body rest : List Stmt) (ρ : List (Str × V)) (Q : Fl → List (Str × V) → List AObj → Prop) (X : XT) (v : V) (σ' : List AObj) : Prop :=
  ∃ (ι : Type) (D : Nat → ι → Prop) (l : Nat → ι → List (Str × V)) (f : Nat → ι → List AObj) (σ₁ : List AObj) (n : Nat) (el : Nat → V) (C : List AObj → Prop), WIt prog w B A v σ' σ₁ n el C ∧ (∃ g, D 0 g ∧ σ₁ = f 0 g ∧ C σ₁ ∧ Sub (l 0 g) ρ) ∧
    (∀ i g, i < n → D i g → C (f i g) → WX prog w B A env body ((x, el i) :: l i g) (f i g) (turnJ (D (i + 1)) (l (i + 1)) (f (i + 1)) C (seqQ prog w B A env rest Q X)) (fun _ _ _ _ => False)) ∧
    (∀ g, D n g → C (f n g) → WX prog w B A env rest (l n g) (f n g) Q X)
theorem ForG.mk {x : Str} {body rest : List Stmt} {Q : Fl → List (Str × V) → List AObj → Prop} {v : V} {ι : Type} (D : Nat → ι → Prop) (l : Nat → ι → List (Str × V)) (f : Nat → ι → List AObj) {σ₁ : List AObj} {n : Nat} {el : Nat → V} {C : List AObj → Prop}
    (hit : WIt prog w B A v σ' σ₁ n el C) (g : ι) (h1 : D 0 g) (h2 : σ₁ = f 0 g) (h3 : C σ₁) (h4 : Sub (l 0 g) ρ)
    (hb : ∀ i g, i < n → D i g → C (f i g) → WX prog w B A env body ((x, el i) :: l i g) (f i g) (turnJ (D (i + 1)) (l (i + 1)) (f (i + 1)) C (seqQ prog w B A env rest Q X)) (fun _ _ _ _ => False))
    (he : ∀ g, D n g → C (f n g) → WX prog w B A env rest (l n g) (f n g) Q X) : ForG prog w B A env x body rest ρ Q X v σ' := ⟨ι, D, l, f, σ₁, n, el, C, hit, ⟨g, h1, h2, h3, h4⟩, hb, he⟩
theorem X_fors {x : Str} {px pos : Pos} {iter : Expr} {body rest : List Stmt} {Q : Fl → List (Str × V) → List AObj → Prop} (h : WE prog w B A env iter ρ σ (fun v σ' => ForG prog w B A env x body rest ρ Q X v σ') X)
    (hx : env.kindOf x = some .local := by kernel_rfl!)
    (hs : ∀ v, foldedSetIterable iter env v = pure v := by intro _; with_unfolding_all rfl) (hl : ∀ it v, letOwnedTupleGo (.Name x px) it v = pure () := by intro _ _; with_unfolding_all rfl) :
    WX prog w B A env (.For (.Name x px) iter body [] pos :: rest) ρ σ Q X := by
  refine X_loop (h.mono fun v σ' hy => ?_) hx hs hl
  obtain ⟨ι, D, l, f, σ₁, n, el, C, hit, ⟨g, h1, h2, h3, h4⟩, hb, he⟩ := hy
  refine ⟨σ₁, n, el, C, fun i ρ' σ' => ∃ g, D i g ∧ σ' = f i g ∧ Sub (l i g) ρ', hit, h3, ⟨g, h1, h2, h4⟩, ?_, ?_⟩
  · rintro i ρ₂ σ₂ hi hC ⟨g, hD, rfl, hs⟩
    refine X_weak hs.both fun φ s G L => wpAny_mono (hb i g hi hD hC φ s G L) (fun v s₁ hx => ?_) fun _ _ x => x
    obtain ⟨φ₁, σ₃, t₁, G₁, fl, ρ', hf, L₁, q⟩ := hx
    refine ⟨φ₁, σ₃, t₁, G₁, fl, ρ', hf, L₁, ?_⟩
    cases fl with
    | next => obtain ⟨g, q1, q2, q3, q4⟩ := q; exact ⟨q3, g, q1, q2, q4⟩
    | cont => obtain ⟨g, q1, q2, q3, q4⟩ := q; exact ⟨q3, g, q1, q2, q4⟩
    | brk => exact q
    | ret y => exact q
  · rintro ρ₂ σ₂ hC ⟨g, hD, rfl, hs⟩
    exact X_weak hs (he g hD hC)

/-! kinds of values -/
end
end Mine

set_option autoImplicit false
set_option linter.unusedVariables false
set_option maxRecDepth 100000
namespace Mine
open PySem PySem.W PySem.Calls PyProof.Rows

def clOf (scope : Scope) (env : Env) : List (Str × Addr) := (scope.names.filter fun p => p.2 == .free).reverse.map fun p => (p.1, (env.cells.lookup p.1).getD 0)

section
variable {prog : Program} {w : World} {B : Shared} {mg mb : Str → Option Value} {φ φ' : List Addr} {σ σ' : List AObj} {s s' : Shared} {env : Env} {ρ l : List (Str × V)} {A : Around} {X : XT} {Q : V → List AObj → Prop}

theorem cellOf_of {x : Str} (h : (env.cells.lookup x).isSome = true) : cellOf env x = pure ((env.cells.lookup x).getD 0) := by
  unfold cellOf
  cases e : env.cells.lookup x with
  | some a => rfl
  | none => rw [e] at h; cases h
theorem clos_loop : ∀ (names : List (Str × NameKind)) (acc : List (Str × Addr)), (∀ p ∈ names, (p.2 == .free) = true → (env.cells.lookup p.1).isSome = true) →
    (forIn names acc fun (x : Str × NameKind) (r : List (Str × Addr)) => (match x with
      | (name, kind) => if (kind == NameKind.free) = true then (do let a ← cellOf env name; pure (ForInStep.yield ((name, a) :: r))) else pure (ForInStep.yield r) : Sem (ForInStep (List (Str × Addr))))) =
    pure ((names.filter fun p => p.2 == .free).reverse.map (fun p => (p.1, (env.cells.lookup p.1).getD 0)) ++ acc)
  | [], acc, _ => by simp
  | (n, k) :: r, acc, h => by
    rw [List.forIn_cons]
    have hr : ∀ p ∈ r, (p.2 == .free) = true → (env.cells.lookup p.1).isSome = true := fun p hp => h p (.tail _ hp)
    cases hk : k == NameKind.free with
    | true =>
      simp only [hk, if_true]
      rw [cellOf_of (h (n, k) (.head _) hk)]
      simp only [pure_bind]
      rw [clos_loop r _ hr]
      simp [hk]
    | false =>
      simp only [hk, Bool.false_eq_true, if_false, pure_bind]
      rw [clos_loop r _ hr]
      simp [hk]
theorem closureFor_of {scope : Scope} (h : ∀ p ∈ scope.names, (p.2 == .free) = true → (env.cells.lookup p.1).isSome = true) : closureFor scope env = pure (clOf scope env) := by
  have := clos_loop (env := env) scope.names [] h
  rw [List.append_nil] at this
  unfold closureFor
  simp only [pure_bind, bind_pure]
  exact this

theorem clOf_lookup_aux : ∀ (names : List (Str × NameKind)) (y : Str), (names.map (·.1)).Nodup → (y, NameKind.free) ∈ names → (env.cells.lookup y).isSome = true →
    ((names.filter fun p => p.2 == .free).reverse.map fun p => (p.1, (env.cells.lookup p.1).getD 0)).lookup y = env.cells.lookup y := fun names y hn hm hs => by
  obtain ⟨a, ha⟩ := Option.isSome_iff_exists.mp hs
  rw [ha]
  refine lookup_of_mem ?_ ?_
  · rw [List.map_map]
    have : ((fun x => x.1) ∘ fun p : Str × NameKind => (p.1, (env.cells.lookup p.1).getD 0)) = (fun p => p.1) := rfl
    rw [this, List.map_reverse]
    refine (List.reverse_perm _).nodup_iff.mpr (hn.sublist (List.Sublist.map _ List.filter_sublist))
  · refine List.mem_map.mpr ⟨(y, .free), List.mem_reverse.mpr (List.mem_filter.mpr ⟨hm, rfl⟩), ?_⟩
    simp [ha]

theorem pair_of_name {l : List (Str × Addr)} (h : l.Pairwise fun x y => x.2 ≠ y.2) {x y : Str} {a b : Addr} (hx : (x, a) ∈ l) (hy : (y, b) ∈ l) (hne : x ≠ y) : a ≠ b := fun e => hne (name_of_addr h hx (e ▸ hy))

/-- the check of a comprehension's names -/
def compB (env : Env) (scope : Scope) (x : Str) : Bool :=
  scope.names.all (fun p => p.2 != .cell) && decide (scope.kind = .function) && scope.names.all (fun p => p.2 != .local || scope.names.lookup p.1 == some .local) && (scope.names.lookup x == some .local) &&
  scope.names.all (fun p => p.2 != .free || (env.cells.lookup p.1).isSome && env.kindOf p.1 == some .cell && (relabel scope env).names.lookup p.1 == some .cell) && decide ((scope.names.map (·.1)).Nodup)

def freeOf (scope : Scope) : List Str := (scope.names.filter fun p => p.2 == .free).map (·.1)
theorem CompOk.of {scope : Scope} {x : Str} (hc : env.cells.Pairwise fun x y => x.2 ≠ y.2) (h : compB env scope x = true) : CompOk env scope (clOf scope env) x (freeOf scope) := by
  unfold compB at h
  simp only [Bool.and_eq_true, List.all_eq_true, Bool.or_eq_true, decide_eq_true_eq, bne_iff_ne, ne_eq, beq_iff_eq] at h
  obtain ⟨⟨⟨⟨⟨h1, h2⟩, h3⟩, h4⟩, h5⟩, h6⟩ := h
  have hf : ∀ p ∈ scope.names, (p.2 == .free) = true → (env.cells.lookup p.1).isSome = true := fun p hp he => by
    rcases h5 p hp with h | h
    · exact absurd (by simpa using he) h
    · exact h.1.1
  refine ⟨closureFor_of hf, h1, h2, fun y hy he => ?_, h4, fun p hp => ?_, ?_, fun y hy => ?_⟩
  · rcases h3 y hy with h | h
    · exact absurd he h
    · exact h
  · obtain ⟨⟨n, k⟩, hq, rfl⟩ := List.mem_map.mp hp
    have hq' := List.mem_filter.mp (List.mem_reverse.mp hq)
    obtain ⟨a, ha⟩ := Option.isSome_iff_exists.mp (hf _ hq'.1 hq'.2)
    have := mem_of_lookup ha
    simpa [ha] using this
  · unfold clOf
    rw [List.pairwise_map]
    have hn : ((scope.names.filter fun p => p.2 == .free).reverse.map (·.1)).Nodup := by
      rw [List.map_reverse]
      exact (List.reverse_perm _).nodup_iff.mpr (h6.sublist (List.Sublist.map _ List.filter_sublist))
    rw [List.Nodup, List.pairwise_map] at hn
    refine hn.imp_of_mem fun {a b} ha hb hne => ?_
    have ha' := List.mem_filter.mp (List.mem_reverse.mp ha)
    have hb' := List.mem_filter.mp (List.mem_reverse.mp hb)
    obtain ⟨u, hu⟩ := Option.isSome_iff_exists.mp (hf _ ha'.1 ha'.2)
    obtain ⟨v, hv⟩ := Option.isSome_iff_exists.mp (hf _ hb'.1 hb'.2)
    simp only [hu, hv, Option.getD_some]
    exact pair_of_name hc (mem_of_lookup hu) (mem_of_lookup hv) hne
  · obtain ⟨⟨n, k⟩, hq, rfl⟩ := List.mem_map.mp hy
    have hq' := List.mem_filter.mp hq
    have hk : k = .free := by simpa using hq'.2
    subst hk
    rcases h5 _ hq'.1 with h | h
    · exact absurd rfl h
    · exact ⟨h.2, h.1.2, clOf_lookup_aux _ _ h6 hq'.1 h.1.1⟩

theorem cellsFrom_apart : ∀ (names : List (Str × NameKind)) (n : Nat) (acc : List (Str × Addr)), (acc.Pairwise fun x y => x.2 ≠ y.2) → (∀ p ∈ acc, p.2 < n) → (cellsFrom n names acc).Pairwise fun x y => x.2 ≠ y.2
  | [], n, acc, h, _ => h
  | (y, k) :: r, n, acc, h, hb => by
    unfold cellsFrom
    split
    · refine cellsFrom_apart r (n + 1) _ (List.pairwise_cons.mpr ⟨fun p hp => ?_, h⟩) fun p hp => ?_
      · exact fun (e : n = p.2) => absurd (e ▸ hb p hp) (Nat.lt_irrefl _)
      · rcases List.mem_cons.mp hp with rfl | hp
        · exact Nat.lt_succ_self _
        · exact Nat.lt_succ_of_lt (hb p hp)
    · exact cellsFrom_apart r n acc h hb
theorem env_apart {fd : FuncData} {L a : Addr} : (callEnvC fd L a).cells.Pairwise fun x y => x.2 ≠ y.2 := cellsFrom_apart _ _ _ .nil (fun _ h => nomatch h)

theorem sub_has {fv : List Str} {y : Str} {v : V} (hy : y ∈ fv) (hv : ρ.lookup y = some v) : (sub ρ fv).lookup y = some v := by
  induction fv with
  | nil => cases hy
  | cons z r ih =>
    unfold sub
    rw [List.filterMap_cons]
    by_cases e : y = z
    · subst e; rw [hv]; simp
    · have hr := ih ((List.mem_cons.mp hy).resolve_left e)
      cases hz : ρ.lookup z with
      | none => exact hr
      | some u =>
        simp only [Option.map_some]
        rw [List.lookup_cons, show (y == z) = false from by simpa using e]
        exact hr
theorem Sub.sub {fv : List Str} (hl : l.all (fun p => fv.contains p.1) = true) (hs : Sub l ρ) : Sub l (Mine.sub ρ fv) := fun y v hy => by
  refine sub_has ?_ (hs y v hy)
  have := List.all_eq_true.mp hl _ (mem_of_lookup hy)
  simpa using this
theorem E_weak {e : Expr} (hs : Sub l ρ) (h : WE prog w B A env e l σ Q X) : WE prog w B A env e ρ σ Q X := fun φ s G L => h φ s G (L.sub hs)

/-- a comprehension whose items leave the heap as it is -/
def CompG (prog : Program) (w : World) (B : Shared) (A : Around) (env cenv : Env) (x : Str) (elt : Expr) (v : V) (σ' : List AObj) (K : Nat → List AObj → List V → Prop) (l : List (Str × V)) : Prop :=
  ∃ σ₁ n el C, ∃ y : Nat → V, WIt prog w B A v σ' σ₁ n el C ∧ n ≤ sizeLine ∧ (∀ i, C (σ₁ ++ [.list ((List.range i).map y)])) ∧
    (∀ D i, i < n → WE prog w B A { cenv with locals := D } elt ((x, el i) :: l) (σ₁ ++ [.list ((List.range i).map y)]) (fun v σ₃ => v = y i ∧ σ₃ = σ₁ ++ [.list ((List.range i).map y)]) (fun _ _ _ _ => False)) ∧
    K σ₁.length σ₁ ((List.range n).map y)
theorem X_compl {elt iter : Expr} {x y : Str} {px py : Pos} {scope : Scope} {pos spos : Pos} {rest : List Stmt} {Q : Fl → List (Str × V) → List AObj → Prop} (l : List (Str × V)) (hl : l.all (fun p => (freeOf scope).contains p.1) = true) (hs : Sub l ρ) (hb : compB env scope x = true) (hc : env.cells.Pairwise fun x y => x.2 ≠ y.2)
    (h : WE prog w B A env iter ρ σ (fun v σ' => CompG prog w B A env (compEnvC scope (clOf scope env) 0 env) x elt v σ' (fun k σ₁ ys => WX prog w B A env rest ((y, .ref k) :: ρ) (σ₁ ++ [.list ys]) Q X) l) X)
    (hy : env.kindOf y = some .local := by kernel_rfl!)
    (hsw : swapsWith (.ListComp elt [⟨.Name x px, iter, [], 0⟩] scope pos) (some (.Name y py)) spos.line env = pure true := by with_unfolding_all rfl)
    (hs' : ∀ v, foldedSetIterable iter env v = pure v := by intro _; with_unfolding_all rfl) :
    WX prog w B A env (.Assign [.Name y py] (.ListComp elt [⟨.Name x px, iter, [], 0⟩] scope pos) spos :: rest) ρ σ Q X := by
  refine X_cons (X_comp (CompOk.of hc hb) (h.mono fun v σ' hx => ?_) hy hsw hs')
  obtain ⟨σ₁, n, el, C, y, hit, hn, hC, helt, hK⟩ := hx
  refine ⟨σ₁, n, el, C, fun i σ₂ => σ₂ = σ₁ ++ [.list ((List.range i).map y)], hit, hC 0, rfl, ?_, ?_⟩
  · rintro D i _ hi hCi rfl
    refine (E_weak (Sub.both (hs.sub hl)) (helt D i hi)).mono ?_
    rintro _ _ ⟨rfl, rfl⟩
    have e : (σ₁ ++ [AObj.list ((List.range i).map y)]).set σ₁.length (.list ((List.range i).map y ++ [y i])) = σ₁ ++ [.list ((List.range (i + 1)).map y)] := by
      rw [List.set_append_right _ _ (Nat.le_refl _)]
      simp [List.range_succ]
    refine ⟨(List.range i).map y, by simp, by simp; omega, ?_, ?_⟩
    · rw [e]; exact hC (i + 1)
    · exact e
  · rintro _ _ rfl
    exact hK
theorem E_compl {elt iter : Expr} {x : Str} {px : Pos} {scope : Scope} {pos : Pos} (l : List (Str × V)) (hl : l.all (fun p => (freeOf scope).contains p.1) = true) (hs : Sub l ρ) (hb : compB env scope x = true) (hc : env.cells.Pairwise fun x y => x.2 ≠ y.2)
    (h : WE prog w B A env iter ρ σ (fun v σ' => CompG prog w B A env (compEnvC scope (clOf scope env) 0 env) x elt v σ' (fun k σ₁ ys => Q (.ref k) (σ₁ ++ [.list ys])) l) X)
    (hs' : ∀ v, foldedSetIterable iter env v = pure v := by intro _; with_unfolding_all rfl) :
    WE prog w B A env (.ListComp elt [⟨.Name x px, iter, [], 0⟩] scope pos) ρ σ Q X := by
  refine E_comp (CompOk.of hc hb) (h.mono fun v σ' hx => ?_) hs'
  obtain ⟨σ₁, n, el, C, y, hit, hn, hC, helt, hK⟩ := hx
  refine ⟨σ₁, n, el, C, fun i σ₂ => σ₂ = σ₁ ++ [.list ((List.range i).map y)], hit, hC 0, rfl, ?_, ?_⟩
  · rintro D i _ hi hCi rfl
    refine (E_weak (Sub.both (hs.sub hl)) (helt D i hi)).mono ?_
    rintro _ _ ⟨rfl, rfl⟩
    have e : (σ₁ ++ [AObj.list ((List.range i).map y)]).set σ₁.length (.list ((List.range i).map y ++ [y i])) = σ₁ ++ [.list ((List.range (i + 1)).map y)] := by
      rw [List.set_append_right _ _ (Nat.le_refl _)]
      simp [List.range_succ]
    refine ⟨(List.range i).map y, by simp, by simp; omega, ?_, ?_⟩
    · rw [e]; exact hC (i + 1)
    · exact e
  · rintro _ _ rfl
    exact hK
theorem small_size {n : Nat} (h : n ≤ 100000) : n ≤ sizeLine := Nat.le_trans h (by decide +kernel)
theorem at_end {ob : AObj} : (σ ++ [ob])[σ.length]? = some ob := by simp
theorem set_end {ob ob' : AObj} : (σ ++ [ob]).set σ.length ob' = σ ++ [ob'] := by rw [List.set_append_right _ _ (Nat.le_refl _)]; simp
end
end Mine

set_option autoImplicit false
set_option linter.unusedVariables false
set_option maxRecDepth 100000
namespace Mine
open PySem PySem.W PySem.Calls PyProof.Rows

/-! the equality of dicts, and the walk through a dict by list(..) and sorted(..) -/
section
variable {M : Model} {A : Around} {E : Value → Shared → Prop}
theorem for_range {β : Type} {n : Nat} {f : Nat → β → Sem (ForInStep β)} (I : Nat → β → Shared → Prop) {Q : β → Shared → Prop}
    (hstep : ∀ i c s, i < n → I i c s → wpAny M A (f i c) (fun r s' => match r with | .done c' => Q c' s' | .yield c' => I (i + 1) c' s') E s) (hend : ∀ c s, I n c s → Q c s) {c : β} {s : Shared} (h : I 0 c s) :
    wpAny M A (forIn [0:n] c f) Q E s := by
  rw [Std.Legacy.Range.forIn_eq_forIn_range']
  have key : ∀ (m i : Nat) (c : β) (s : Shared), i + m = n → I i c s → wpAny M A (forIn (List.range' i m 1) c f) Q E s := by
    intro m
    induction m with
    | zero => intro i c s e hI; obtain rfl : i = n := e; exact wpAny_pure (hend c s hI)
    | succ m ih =>
      intro i c s e hI
      rw [List.range'_succ, List.forIn_cons]
      refine wpAny_bind (wpAny_mono (hstep i c s (by omega) hI) (fun r s' hr => ?_) fun _ _ x => x)
      cases r with
      | done c' => exact wpAny_pure hr
      | yield c' => exact ih (i + 1) c' s' (by omega) hr
  have := key n 0 c s (Nat.zero_add n) h
  simpa [Std.Legacy.Range.size] using this
end

/-- what == of dicts asks, row by row -/
def Hits (A : Around) (s : Shared) (kb : List (Key × Value)) : List (Key × Value) → Bool → Prop
  | [], b => b = true
  | p :: r, b => (valueAt kb p.1 = none ∧ b = false) ∨ ∃ y e c, valueAt kb p.1 = some y ∧ SeqAt.EqAt A s p.2 y e ∧ Hits A s kb r c ∧ b = (e && c)

section
variable {prog : Program} {w : World} {A : Around} {E : Value → Shared → Prop} {s : Shared}

theorem dict_same {nm : String} {a b : Addr} {ka kb : List (Key × Value)} {r : Bool} {Q : Bool → Shared → Prop} (ha : (a == sysModules) = false) (hb : (b == sysModules) = false)
    (da : s.heap.DictOf (kk prog w) a ka) (db : s.heap.DictOf (kk prog w) b kb) (hits : Hits A s kb ka r) (h : Q (ka.length == kb.length && r) s) :
    wpAny (model prog w) A (Builtin.Dict.samePairs nm a b) Q E s := by
  obtain ⟨oa, es, ep, hoa, _, hda, hka, hpa, _⟩ := da
  obtain ⟨ob, fs, ep', hob, _, hdb, hkb, hpb, _⟩ := db
  have la : es.size = ka.length := by rw [← hpa.length]; exact Array.length_toList.symm
  have lb : fs.size = kb.length := by rw [← hpb.length]; exact Array.length_toList.symm
  unfold Builtin.Dict.samePairs Builtin.Dict.showsAll
  rw [ha, hb]
  simp only [Bool.false_eq_true, if_false]
  refine wpAny_bind (wpAny_pure (wpAny_bind (wpAny_pure (wpAny_bind (wpAny_dictEntries hoa hda (wpAny_bind (wpAny_dictEntries hob hdb ?_)))))))
  by_cases hsz : es.size = fs.size
  · have e0 : (es.size != fs.size) = false := by rw [hsz]; exact bne_self_eq_false _
    rw [if_neg (by rw [e0]; exact Bool.false_ne_true)]
    have h' : Q r s := by
      have e1 : (ka.length == kb.length) = true := by rw [← la, ← lb, hsz]; exact beq_self_eq_true _
      rw [e1, Bool.true_and] at h; exact h
    refine wpAny_bind (wpAny_dictEpoch hoa hda (wpAny_bind ?_))
    refine for_range (I := fun i q s' => s' = s ∧ q = (none, ()) ∧ Hits A s kb (ka.drop i) r) ?_ ?_ ⟨rfl, rfl, hits⟩
    · rintro i q s' hi ⟨rfl, rfl, hh⟩
      refine wpAny_bind (wpAny_dictEntries hoa hda ?_)
      rw [Array.getElem?_eq_getElem hi]
      have hi' : i < ka.length := by rw [← la]; exact hi
      rw [List.drop_eq_getElem_cons hi'] at hh
      obtain ⟨hkey, hval⟩ := hpa.get? (i := i) (e := es[i]) (k := ka[i].1) (v := ka[i].2) (by rw [Array.getElem?_toList]; exact Array.getElem?_eq_getElem hi) (List.getElem?_eq_getElem hi')
      obtain ⟨k', hk', hhash⟩ := hka es[i] (Array.getElem_mem hi)
      rw [(kk prog w).inj _ _ _ hk' hkey] at hhash
      have hfind : findBy (kk prog w).is fs ka[i].1 = valueAt kb ka[i].1 := by
        rw [← hpb.find ka[i].1]
        obtain ⟨l⟩ := fs
        simp [findBy]
      show wpAny _ _ (holding [es[i].key, es[i].val] _ >>= _) _ _ _
      rw [hhash]
      refine wpAny_bind (wpAny_holding (wpAny_bind (wpAny_dictFind_of hkey hob hdb hkb ?_)))
      cases hj : fs.findIdx? fun e => (kk prog w).is ka[i].1 e.key with
      | none =>
        have hn : valueAt kb ka[i].1 = none := by rw [← hfind, findBy_of_findIdx?, hj]
        rcases hh with ⟨_, er⟩ | ⟨y, _, _, hy, _⟩
        · subst er
          refine wpAny_pure ?_
          show wpAny _ _ (if (!false) = true then _ else _) _ _ _
          exact wpAny_pure (wpAny_pure h')
        · rw [hn] at hy; cases hy
      | some j =>
        obtain ⟨hjl, _, _⟩ := Array.findIdx?_eq_some_iff_getElem.mp hj
        have hv : valueAt kb ka[i].1 = some fs[j].val := by
          rw [← hfind, findBy_of_findIdx?, hj]
          simp [Array.getElem?_eq_getElem hjl]
        refine wpAny_bind (wpAny_dictEntries hob hdb ?_)
        rw [Array.getElem?_eq_getElem hjl]
        rcases hh with ⟨hn, _⟩ | ⟨y, e, c, hy, he, hr, er⟩
        · rw [hv] at hn; cases hn
        · rw [hv] at hy
          injection hy with hy
          rw [← hy, ← hval] at he
          refine wpAny_holding (he prog w _ _ ?_)
          subst er
          cases e with
          | false =>
            show wpAny _ _ (if (!false) = true then _ else _) _ _ _
            exact wpAny_pure (wpAny_pure h')
          | true =>
            show wpAny _ _ (if (!true) = true then _ else _) _ _ _
            refine wpAny_bind (wpAny_dictEpoch hoa hda ?_)
            rw [if_neg (by simp)]
            rw [Bool.true_and] at h' ⊢
            exact wpAny_pure ⟨rfl, rfl, hr⟩
    · rintro q s' ⟨rfl, rfl, hh⟩
      rw [la, List.drop_length] at hh
      have hh' : r = true := hh
      subst hh'
      exact wpAny_pure h'
  · have e0 : (es.size != fs.size) = true := by simpa using hsz
    rw [if_pos e0]
    have e1 : (ka.length == kb.length) = false := by rw [← la, ← lb]; simpa using hsz
    rw [e1, Bool.false_and] at h
    exact wpAny_bind (wpAny_rule (wpAny_pure h))

theorem dict_eq {a b : Addr} {ka kb : List (Key × Value)} {r : Bool} {Q : Value → Shared → Prop} (ha : (a == sysModules) = false) (hb : (b == sysModules) = false)
    (da : s.heap.DictOf (kk prog w) a ka) (db : s.heap.DictOf (kk prog w) b kb) (hu : A.units < cLine) (hits : Hits A.in1 s kb ka r) (h : Q (.bool (ka.length == kb.length && r)) s) :
    wpAny (model prog w) A (compareOp .Eq (.ref a) (.ref b)) Q E s := by
  refine wpAny_richCompare_same_room (op := .Eq) da.typeIs db.typeIs PySem.F.slot_dict_eq (wpAny_call_entry PySem.F.slot_dict_eq da.typeIs PySem.F.entry_dict_eq ?_ (PySem.F.args_dict_eq_2 _ _)) hu
  show wpAny _ _ (Builtin.Dict.dictSlotArgs "__eq__" ⟨[.ref a, .ref b], []⟩ >>= _) _ _ s
  refine wpAny_bind ?_
  unfold Builtin.Dict.dictSlotArgs
  refine wpAny_bind (wpAny_notOrdered_dict da.typeIs ?_)
  show wpAny _ _ (pure (Value.ref a, Value.ref b)) _ _ s
  refine wpAny_pure (wpAny_bind (wpAny_isInstance (T := "dict") db.typeIs PySem.F.sub_dict_dict ?_))
  simp only [Bool.not_true, Bool.false_eq_true, if_false]
  refine wpAny_bind (wpAny_pure (wpAny_bind (wpAny_pure (wpAny_bind (dict_same ha hb da db hits (wpAny_pure ⟨_, rfl, (fun x => nomatch x), ?_⟩))))))
  simpa using h
theorem dict_ne {a b : Addr} {ka kb : List (Key × Value)} {r : Bool} {Q : Value → Shared → Prop} (ha : (a == sysModules) = false) (hb : (b == sysModules) = false)
    (da : s.heap.DictOf (kk prog w) a ka) (db : s.heap.DictOf (kk prog w) b kb) (hu : A.units < cLine) (hits : Hits A.in1 s kb ka r) (h : Q (.bool (!(ka.length == kb.length && r))) s) :
    wpAny (model prog w) A (compareOp .NotEq (.ref a) (.ref b)) Q E s := by
  refine wpAny_richCompare_same_room (op := .NotEq) da.typeIs db.typeIs PySem.F.slot_dict_ne (wpAny_call_entry PySem.F.slot_dict_ne da.typeIs PySem.F.entry_dict_ne ?_ (PySem.F.args_dict_ne_2 _ _)) hu
  show wpAny _ _ (Builtin.Dict.dictSlotArgs "__ne__" ⟨[.ref a, .ref b], []⟩ >>= _) _ _ s
  refine wpAny_bind ?_
  unfold Builtin.Dict.dictSlotArgs
  refine wpAny_bind (wpAny_notOrdered_dict da.typeIs ?_)
  show wpAny _ _ (pure (Value.ref a, Value.ref b)) _ _ s
  refine wpAny_pure (wpAny_bind (wpAny_isInstance (T := "dict") db.typeIs PySem.F.sub_dict_dict ?_))
  simp only [Bool.not_true, Bool.false_eq_true, if_false]
  refine wpAny_bind (wpAny_pure (wpAny_bind (wpAny_pure (wpAny_bind (dict_same ha hb da db hits (wpAny_pure ⟨_, rfl, (fun x => nomatch x), ?_⟩))))))
  simpa using h
end
end Mine

set_option autoImplicit false
set_option linter.unusedVariables false
set_option maxRecDepth 100000
namespace Mine
open PySem PySem.W PySem.Calls PyProof.Rows

/-- a thing at r that a list can be filled from: n values that are Good -/
structure Src (prog : Program) (w : World) (T : String) (r : Addr) (n : Nat) (Good : List Value → Prop) (OK : Heap → Prop) : Prop where
  type : ∀ s : Shared, OK s.heap → s.TypeIs (.ref r) T
  keep : ∀ h h' : Heap, OK h → (∀ o, h.get? r = some o → h'.get? r = some o) → OK h'
  notList : (Value.type T == Value.type "list") = false
  notTuple : (Value.type T == Value.type "tuple") = false
  hint : ∀ (A : Around) (E : Value → Shared → Prop) (s : Shared) (Q : Bool → Shared → Prop), OK s.heap → Q false s → wpAny (model prog w) A (Builtin.List.listLengthHint (.ref r)) Q E s
  iter : ∀ (A : Around) (E : Value → Shared → Prop) (s : Shared) (Q : Value → Shared → Prop), A.handled = none → OK s.heap →
    (∀ (I : Addr) (s₁ : Shared) (fp : List Addr) (P : Nat → Value → Prop) (St : Nat → Heap → Prop), (∀ b o, s.heap.get? b = some o → s₁.heap.get? b = some o) → s₁.gens = s.gens → s₁.os = s.os →
      (∀ b ∈ fp, b = r ∨ s.heap.get? b = none) → s.heap.get? I = none → Walks prog w A I fp [I] n P St → St 0 s₁.heap → (∀ acc, ItemsOf P acc n → Good acc.toList) → Q (.ref I) s₁) → wpAny (model prog w) A (pyIter (.ref r)) Q E s

section
variable {prog : Program} {w : World} {A : Around} {E : Value → Shared → Prop} {s : Shared} {T : String} {r : Addr} {n : Nat} {Good : List Value → Prop} {OK : Heap → Prop}

/-- what filling a new list at S leaves -/
def Filled (Good : List Value → Prop) (S : Addr) (s s' : Shared) : Prop :=
  (∀ b o, b ≠ S → s.heap.get? b = some o → s'.heap.get? b = some o) ∧ s'.gens = s.gens ∧ s'.os = s.os ∧ ∃ acc c, s'.heap.get? S = some { cls := .type "list", dict := none, data := .seq acc c, slots := #[] } ∧ Good acc.toList

theorem src_extend {R : Result → Shared → Prop} (K : Src prog w T r n Good OK) (hh : A.handled = none) (hok : OK s.heap) (S : Addr) (hSr : S ≠ r) (res : Value) (c₀ : Nat) (hS : s.heap.get? S = some { cls := .type "list", data := .seq #[] c₀ })
    (hR : ∀ s', Filled Good S s s' → R (.ok (.ret res)) s') (hn : n ≤ sizeLine) :
    wpAny (model prog w) A.in1 (Builtin.List.listExtendWith (.ref S) (.ref r) res)
      (fun fin s' => match fin with | .done f => R (.ok f) s' | .again c' => c'.quiet = true ∧ codeAny (model prog w) A c' R s') (fun e s' => R (.error e) s') s := by
  unfold Builtin.List.listExtendWith
  refine wpAny_bind (wpAny_typeOf (T := T) (K.type s hok) ?_)
  have h1 : Builtin.List.listSameRef (.ref S) (.ref r) = false := by simp [Builtin.List.listSameRef, hSr]
  simp only [h1, K.notList, K.notTuple, Bool.or_false, Bool.false_eq_true, if_false]
  refine wpAny_bind (K.iter A.in1 _ s _ hh hok fun I s₁ fp P St hk hg ho hfp hI W st good => ?_)
  have hSf : S ∉ fp := fun hm => by
    rcases hfp S hm with e | e
    · exact hSr e
    · rw [e] at hS; cases hS
  have hSI : S ≠ I := fun e => by rw [e, hI] at hS; cases hS
  have hS₁ := hk S _ hS
  have key : ∀ (h : Heap) (c₁ : Nat), St 0 h → (∀ b o, b ≠ S → s.heap.get? b = some o → h.get? b = some o) →
      h.get? S = some { cls := .type "list", data := .seq #[] c₁ } → codeAny (model prog w) A (.builtin "list.extend.loop" ⟨[.ref S, .ref I, res], []⟩) R { s₁ with heap := h } := by
    intro h c₁ hst hkeep hS₂
    refine codeAny_extend_loopS W.toS hn S hSf res n 0 _ #[] c₁ rfl (Nat.zero_le _) hst hS₂ (ItemsOf.nil _) fun s' acc' c' hm hS' hacc => ?_
    refine hR s' ⟨fun b o hb e => hm.heap b o (fun hmem => ?_) (hkeep b o hb e), hm.gens.trans hg, hm.os.trans ho, acc', c', hS', good acc' hacc⟩
    rcases List.mem_cons.mp hmem with e' | hmem
    · exact hb e'
    · rw [List.mem_singleton.mp hmem, hI] at e; cases e
  refine wpAny_bind (wpAny_holding (K.hint _ _ _ _ (K.keep _ _ hok fun o e => hk r o e) ?_))
  refine wpAny_ite_split (fun _ => ?_) (fun _ => wpAny_pure ⟨plainId_quiet PySem.F.plain_extend_loop _, key s₁.heap c₀ st (fun b o _ e => hk b o e) hS₁⟩)
  refine wpAny_bind (wpAny_rule (wpAny_bind ?_))
  show wpAny _ _ (updateSeq S (·.push .none) >>= fun _ => updateSeq S (·.pop)) _ _ _
  refine wpAny_bind (wpAny_updateSeq hS₁ rfl ?_)
  have hS₂ := Heap.get?_update_self (Obj.mapSeq (·.push Value.none)) hS₁ rfl
  refine wpAny_updateSeq (hz := by seq_fits) hS₂ rfl ?_
  have hS₃ := Heap.get?_update_self (Obj.mapSeq (·.pop)) hS₂ rfl
  refine wpAny_pure ⟨plainId_quiet PySem.F.plain_extend_loop _, key _ _ ?_ (fun b o hb e => ?_) hS₃⟩
  · refine W.frame 0 _ _ st fun b hb o e => ?_
    have hbS : b ≠ S := fun h => hSf (h ▸ hb)
    exact (Heap.get?_update_other _ _ (Ne.symm hbS)).trans ((Heap.get?_update_other _ _ (Ne.symm hbS)).trans e)
  · exact (Heap.get?_update_other _ _ (Ne.symm hb)).trans ((Heap.get?_update_other _ _ (Ne.symm hb)).trans (hk b o e))

theorem src_lt (K : Src prog w T r n Good OK) (hok : OK s.heap) : r < s.heap.objs.size := by
  obtain ⟨o, ho, _⟩ := K.type s hok; exact Heap.lt_size ho

/-- list(r) -/
theorem src_list {Q : Value → Shared → Prop} (K : Src prog w T r n Good OK) (hh : A.handled = none) (hok : OK s.heap) (hn : n ≤ sizeLine)
    (hQ : ∀ s' acc c, (∀ b o, s.heap.get? b = some o → s'.heap.get? b = some o) → s'.gens = s.gens → s'.os = s.os → s'.heap.get? s.heap.objs.size = some { cls := .type "list", dict := none, data := .seq acc c, slots := #[] } → Good acc.toList → Q (.ref s.heap.objs.size) s') :
    wpAny (model prog w) A (call (.type "list") [.ref r]) Q E s := by
  refine callType_codes (Q₁ := fun obj s₁ => obj = .ref s.heap.objs.size ∧ s₁ = { s with heap := s.heap.push { cls := .type "list", data := .seq #[] } }) PySem.F.called_list (PySem.F.typeCall_list_1 _) PySem.F.entry_list_init
    (code_list_new _ ⟨rfl, rfl⟩) fun obj s₁ h₁ => ?_
  obtain ⟨rfl, rfl⟩ := h₁
  have hS : (s.heap.push { cls := .type "list", data := .seq #[] }).get? s.heap.objs.size = some { cls := .type "list", data := .seq #[] } := Heap.get?_push_size _ rfl
  have hlt := src_lt K hok
  refine ⟨⟨_, hS, rfl⟩, PySem.F.args_list_init_2 _ _, ?_⟩
  show wpAny _ _ (do let old ← Builtin.List.listItems (.ref s.heap.objs.size); Builtin.List.listUpdate (.ref s.heap.objs.size) (fun _ => #[]); letGo old.toList.reverse; Builtin.List.listExtendWith (.ref s.heap.objs.size) (.ref r) .none) _ _ _
  refine wpAny_bind (listItems_at hS rfl (wpAny_bind (listUpdate_at hS rfl (wpAny_bind (wpAny_letGo ?_)))))
  have hS₂ := Heap.get?_update_self (Obj.mapSeq (fun _ => (#[] : Array Value))) hS rfl
  have oth : ∀ b o, b ≠ s.heap.objs.size → (s.heap.push { cls := .type "list", data := .seq #[] }).get? b = some o → ((s.heap.push { cls := .type "list", data := .seq #[] }).update s.heap.objs.size (Obj.mapSeq (fun _ => (#[] : Array Value)))).get? b = some o :=
    fun b o hb e => (Heap.get?_update_other _ _ (Ne.symm hb)).trans e
  refine src_extend (A := A.in1) K hh (K.keep _ _ hok fun o e => oth r o (Nat.ne_of_lt hlt) (Heap.get?_push_of_some _ e)) s.heap.objs.size (Nat.ne_of_gt hlt) .none _ hS₂ (fun s' hF => ?_) hn
  obtain ⟨hk, hg, ho, acc, c, hS', hgood⟩ := hF
  exact ⟨rfl, hQ s' acc c (fun b o e => hk b o (Nat.ne_of_lt (Heap.lt_size e)) (oth b o (Nat.ne_of_lt (Heap.lt_size e)) (Heap.get?_push_of_some _ e))) hg ho hS' hgood⟩

/-- collect -/
theorem src_collect {R : List Value → Shared → Prop} (K : Src prog w T r n Good OK) (hh : A.handled = none) (hok : OK s.heap) (hn : n ≤ sizeLine)
    (h : ∀ s' acc, (∀ b o, s.heap.get? b = some o → s'.heap.get? b = some o) → s'.gens = s.gens → s'.os = s.os → Good acc → R acc s') :
    wpAny (model prog w) A (collect (.ref r)) R E s := by
  have hlt := src_lt K hok
  unfold collect
  refine wpAny_bind (wpAny_runValue (codeAny_builtin PySem.F.entry_proto_collect ?_))
  rw [Around.under_plainId PySem.F.plain_proto_collect _]
  show wpAny _ A.in1 (newList [] >>= fun l => again (.builtin "list.__iadd__" ⟨[l, .ref r], []⟩)) _ _ s
  refine wpAny_bind (wpAny_newObj_type ?_)
  refine wpAny_pure ⟨plainId_quiet PySem.F.plain_list_iadd _, codeAny_builtin PySem.F.entry_list_iadd ?_⟩
  rw [Around.under_plainId PySem.F.plain_list_iadd _]
  have hS₁ : (s.heap.push { cls := .type "list", data := .seq ([] : List Value).toArray }).get? s.heap.objs.size = some { cls := .type "list", data := .seq #[] } := Heap.get?_push_size _ rfl
  show wpAny _ A.in1 (Builtin.List.listExtendWith (.ref s.heap.objs.size) (.ref r) (.ref s.heap.objs.size)) _ _ _
  refine wpAny_mono (src_extend (A := A) (s := { s with heap := s.heap.push { cls := .type "list", data := .seq ([] : List Value).toArray } })
    (R := fun (q : Result) (s' : Shared) => q = .ok (.ret (.ref s.heap.objs.size)) ∧ Filled Good s.heap.objs.size { s with heap := s.heap.push { cls := .type "list", data := .seq ([] : List Value).toArray } } s')
    K hh (K.keep _ _ hok fun o e => Heap.get?_push_of_some _ e) s.heap.objs.size (Nat.ne_of_gt hlt) (.ref s.heap.objs.size) 0 hS₁ (fun s' hF => ⟨rfl, hF⟩) hn) (fun fin s' x => ?_) fun e s' x => ?_
  · have go : ∀ s₂, Filled Good s.heap.objs.size { s with heap := s.heap.push { cls := .type "list", data := .seq ([] : List Value).toArray } } s₂ → wpAny (model prog w) A (do
        let o ← load s.heap.objs.size
        match o.data with
        | .seq xs _ => pure xs.toList
        | _ => unsupported "internal:collect") R E s₂ := fun s₂ hF => by
      obtain ⟨hk, hg, ho, acc, c, hS', hgood⟩ := hF
      refine wpAny_bind (wpAny_load hS' (wpAny_pure (h s₂ acc.toList (fun b o e => hk b o (Nat.ne_of_lt (Heap.lt_size e)) (Heap.get?_push_of_some _ e)) hg ho hgood)))
    cases fin with
    | done f =>
      obtain ⟨e, hF⟩ := x
      cases e
      exact go s' hF
    | again c₁ => exact ⟨x.1, codeAny_mono x.2 fun q s₂ y => by obtain ⟨rfl, hF⟩ := y; exact go s₂ hF⟩
  · obtain ⟨e, _⟩ := x; cases e
end

/-- a dict's keys -/
def KeysGood (kvs : List (Key × Value)) (vs : List Value) : Prop := vs.length = kvs.length ∧ ∀ (i : Nat) (v : Value), vs[i]? = some v → ∃ (k : Key) (x : Value), kvs[i]? = some (k, x) ∧ k.is v = true
section
variable {prog : Program} {w : World} {d : Addr} {kvs : List (Key × Value)} {ep : Nat}
theorem hint_dict {A : Around} {E : Value → Shared → Prop} {s : Shared} {r : Addr} {Q : Bool → Shared → Prop} (hT : s.TypeIs (.ref r) "dict") (h : Q false s) : wpAny (model prog w) A (Builtin.List.listLengthHint (.ref r)) Q E s := by
  unfold Builtin.List.listLengthHint
  refine wpAny_bind (wpAny_specialOf hT PySem.F.slot_dict_len.lookup ?_)
  generalize hid : ("dict.__len__" : String) = id0
  wp_delta
  rw [show splitId id0 = some ("dict", "__len__") from by subst hid; decide +kernel]
  subst hid
  refine wpAny_bind (wpAny_isInstance (T := "dict") (b := true) hT (by rw [isSubtype_type]; kernel_rfl) ?_)
  refine wpAny_ite_split (fun hab => absurd hab (by decide)) (fun _ => ?_)
  refine wpAny_ite_split (fun _ => ?_) (fun hab => absurd (by decide +kernel) hab)
  exact wpAny_bind (wpAny_typeOf hT (wpAny_pure h))
theorem src_dict (lo : (d == sysModules) = false) : Src prog w "dict" d kvs.length (KeysGood kvs) (fun h => h.DictAt (kk prog w) d kvs ep) where
  type := fun _ hm => hm.dictOf.typeIs
  keep := fun _ _ hm hk => hm.at' fun o e => hk o e
  notList := by decide
  notTuple := by decide
  hint := fun _ _ _ _ hm hq => hint_dict hm.dictOf.typeIs hq
  iter := fun A E s Q hh hm hq => wpAny_pyIter_dict lo hm (hq _ _ [s.heap.objs.size, d] _ _ (fun b o e => Heap.get?_push_of_some _ e) rfl rfl
    (fun b hb => by rcases List.mem_cons.mp hb with rfl | hb; exact .inr (get?_size _); exact .inl (List.mem_singleton.mp hb)) (get?_size _)
    (Walks.dictKeys hh _ d (Nat.ne_of_lt hm.lt_size) kvs ep) ⟨⟨_, Heap.get?_push_size _ rfl, rfl, rfl⟩, hm.push _⟩
    fun acc hacc => ⟨by rw [Array.length_toList]; exact hacc.1, fun i v e => hacc.2 i v (by rw [← Array.getElem?_toList]; exact e)⟩)
end
end Mine

set_option autoImplicit false
set_option linter.unusedVariables false
set_option maxRecDepth 100000
namespace Mine
open PySem PySem.W PySem.Calls PyProof.Rows

mutual
inductive Dat (σ : List AObj) : V → PyData → Prop
  | none : Dat σ .none .none
  | bool (b : Bool) : Dat σ (.bool b) (.bool b)
  | int (i : Int) : Dat σ (.int i) (.int i)
  | str (x : Str) : Dat σ (.str x) (.str x)
  | tup {xs : List V} {ds : List PyData} : Dats σ xs ds → Dat σ (.tup xs) (.tuple ds)
  | list {k : Nat} {xs : List V} {ds : List PyData} : σ[k]? = some (.list xs) → Dats σ xs ds → Dat σ (.ref k) (.list ds)
inductive Dats (σ : List AObj) : List V → List PyData → Prop
  | nil : Dats σ [] []
  | cons {x : V} {d : PyData} {xs : List V} {ds : List PyData} : Dat σ x d → Dats σ xs ds → Dats σ (x :: xs) (d :: ds)
end

section
variable {prog : Program} {w : World} {B : Shared} {mg mb : Str → Option Value} {φ φ' : List Addr} {σ σ' : List AObj} {s s' : Shared} {env : Env} {ρ l : List (Str × V)} {A : Around} {X : XT} {Q : V → List AObj → Prop}

mutual
theorem Dat.reads (G : St prog w B φ σ s) : ∀ {x : V} {d : PyData} {v : Value}, Dat σ x d → Val φ s.heap x v → ∃ as, Reads s.heap v d as
  | _, _, _, .none, hv => by obtain rfl := hv.of_none; exact ⟨_, .none⟩
  | _, _, _, .bool b, hv => by obtain rfl := hv.of_bool; exact ⟨_, .bool _⟩
  | _, _, _, .int i, hv => by obtain ⟨t, rfl⟩ := hv.of_int; exact ⟨_, .int _ _⟩
  | _, _, _, .str x, hv => by obtain ⟨t, rfl⟩ := hv.of_str; exact ⟨_, .str _ _⟩
  | _, _, _, .tup hs, hv => by
    obtain ⟨a, vs, rfl, ⟨o, ho, hc, n, hd⟩, hvs⟩ := hv.of_tup
    obtain ⟨as, r⟩ := Dats.reads G hs hvs
    exact ⟨_, .tuple ho hc hd r⟩
  | _, _, _, .list hσ hs, hv => by
    obtain ⟨a, rfl, ha⟩ := hv.of_ref
    obtain ⟨a', ha', vs, n, ho, hvs⟩ := G.get hσ
    rw [ha] at ha'; cases ha'
    obtain ⟨as, r⟩ := Dats.reads G hs hvs
    exact ⟨_, .list ho rfl rfl r⟩
theorem Dats.reads (G : St prog w B φ σ s) : ∀ {xs : List V} {ds : List PyData} {vs : List Value}, Dats σ xs ds → Vals φ s.heap xs vs → ∃ as, ReadsAll s.heap vs ds as
  | _, _, _, .nil, hv => by rw [Vals] at hv; subst hv; exact ⟨_, .nil⟩
  | _, _, _, .cons h1 h2, hv => by
    rw [Vals] at hv
    obtain ⟨v, r, rfl, hv1, hv2⟩ := hv
    obtain ⟨as, r1⟩ := Dat.reads G h1 hv1
    obtain ⟨bs, r2⟩ := Dats.reads G h2 hv2
    exact ⟨_, .cons r1 r2⟩
end

theorem O_eqd {x y : V} {d e : PyData} (h1 : Dat σ x d) (h2 : Dat σ y e) (c1 : d.canLay0 = true) (c2 : e.canLay0 = true) (hu : A.units + min d.depth e.depth < cLine) (q : Q (.bool (PyData.eqv d e)) σ) : W2 prog w B A (compareOp .Eq) x y σ Q X := fun φ s v u G hv hu' => by
  obtain ⟨as, r1⟩ := h1.reads G hv
  obtain ⟨bs, r2⟩ := h2.reads G hu'
  exact SeqAt.compareEq_reads r1 r2 c1 c2 hu (Post.here G ⟨_, .bool_ _, q⟩)
theorem O_ned {x y : V} {d e : PyData} (h1 : Dat σ x d) (h2 : Dat σ y e) (c1 : d.canLay0 = true) (c2 : e.canLay0 = true) (hu : A.units + min d.depth e.depth < cLine) (q : Q (.bool (!PyData.eqv d e)) σ) : W2 prog w B A (compareOp .NotEq) x y σ Q X := fun φ s v u G hv hu' => by
  obtain ⟨as, r1⟩ := h1.reads G hv
  obtain ⟨bs, r2⟩ := h2.reads G hu'
  exact SeqAt.compareNe_reads r1 r2 c1 c2 hu (Post.here G ⟨_, .bool_ _, q⟩)

/-! equality of dicts -/
def sameB (veq : V → V → Bool) (es es' : List (Key × V)) : Bool := es.all fun p => match at? es' p.1 with | some y => veq p.2 y | none => false
/-- where veq tells of values as == does -/
def VeqOk (σ : List AObj) (veq : V → V → Bool) (es es' : List (Key × V)) : Prop :=
  ∀ p ∈ es, ∀ y, at? es' p.1 = some y → ∃ d e, Dat σ p.2 d ∧ Dat σ y e ∧ d.canLay0 = true ∧ e.canLay0 = true ∧ d.depth ≤ 100 ∧ PyData.eqv d e = veq p.2 y
theorem hits_of {veq : V → V → Bool} {es es' : List (Key × V)} {kvs kvs' : List (Key × Value)} (G : St prog w B φ σ s) (hu : A.units + 100 < cLine) (h' : Ents φ s.heap es' kvs') : ∀ {es : List (Key × V)} {kvs : List (Key × Value)}, Ents φ s.heap es kvs → VeqOk σ veq es es' → Hits A s kvs' kvs (sameB veq es es')
  | _, _, .nil, _ => rfl
  | _, _, @Ents.cons _ _ k x v es kvs hx hr, hv => by
    have ih := hits_of (veq := veq) (es := es) (kvs := kvs) G hu h' hr fun p hp => hv p (.tail _ hp)
    rcases h'.at? k with ⟨y, u, e1, e2, e3⟩ | ⟨e1, e2⟩
    · obtain ⟨d, e, d1, d2, c1, c2, hdep, he⟩ := hv (k, x) (.head _) y e1
      obtain ⟨as, r1⟩ := d1.reads G hx
      obtain ⟨bs, r2⟩ := d2.reads G e3
      have := SeqAt.eqAt_reads d e A s v u as bs r1 r2 c1 c2 (by have := Nat.min_le_left d.depth e.depth; omega)
      have h : Hits A s kvs' ((k, v) :: kvs) (PyData.eqv d e && sameB veq es es') := .inr ⟨_, _, _, e2, this, ih, rfl⟩
      have es' : sameB veq ((k, x) :: es) es' = (PyData.eqv d e && sameB veq es es') := by simp [sameB, e1, he]
      rw [es']; exact h
    · have es' : sameB veq ((k, x) :: es) es' = false := by simp [sameB, e1]
      rw [es']; exact .inl ⟨e2, rfl⟩
theorem O_eq_dict {j k : Nat} {veq : V → V → Bool} {es es' : List (Key × V)} {e e' : Option Nat} (h1 : σ[j]? = some (.dict es e)) (h2 : σ[k]? = some (.dict es' e')) (hv : VeqOk σ veq es es') (hu : A.units + 200 < cLine) (q : Q (.bool (es.length == es'.length && sameB veq es es')) σ) :
    W2 prog w B A (compareOp .Eq) (.ref j) (.ref k) σ Q X := fun φ s v u G hv' hu' => by
  obtain ⟨a, rfl, ha⟩ := hv'.of_ref
  obtain ⟨b, rfl, hb⟩ := hu'.of_ref
  obtain ⟨a', ha', kvs, ep, hd, hvs, _⟩ := G.get h1
  rw [ha] at ha'; cases ha'
  obtain ⟨b', hb', kvs', ep', hd', hvs', _⟩ := G.get h2
  rw [hb] at hb'; cases hb'
  refine dict_eq (G.notSys (List.mem_of_getElem? ha)) (G.notSys (List.mem_of_getElem? hb)) hd.dictOf hd'.dictOf (by omega) (hits_of (es := es) (kvs := kvs) G (A := A.in1) (by show A.units + 1 + 100 < cLine; omega) hvs' hvs hv) (Post.here G ⟨_, .bool_ _, ?_⟩)
  rw [hvs.length, hvs'.length]; exact q
theorem O_ne_dict {j k : Nat} {veq : V → V → Bool} {es es' : List (Key × V)} {e e' : Option Nat} (h1 : σ[j]? = some (.dict es e)) (h2 : σ[k]? = some (.dict es' e')) (hv : VeqOk σ veq es es') (hu : A.units + 200 < cLine) (q : Q (.bool (!(es.length == es'.length && sameB veq es es'))) σ) :
    W2 prog w B A (compareOp .NotEq) (.ref j) (.ref k) σ Q X := fun φ s v u G hv' hu' => by
  obtain ⟨a, rfl, ha⟩ := hv'.of_ref
  obtain ⟨b, rfl, hb⟩ := hu'.of_ref
  obtain ⟨a', ha', kvs, ep, hd, hvs, _⟩ := G.get h1
  rw [ha] at ha'; cases ha'
  obtain ⟨b', hb', kvs', ep', hd', hvs', _⟩ := G.get h2
  rw [hb] at hb'; cases hb'
  refine dict_ne (G.notSys (List.mem_of_getElem? ha)) (G.notSys (List.mem_of_getElem? hb)) hd.dictOf hd'.dictOf (by omega) (hits_of (es := es) (kvs := kvs) G (A := A.in1) (by show A.units + 1 + 100 < cLine; omega) hvs' hvs hv) (Post.here G ⟨_, .bool_ _, ?_⟩)
  rw [hvs.length, hvs'.length]; exact q

/-! dict(d), list + list -/
theorem C_dict_copy {k : Nat} {es : List (Key × V)} {e : Option Nat} (hσ : σ[k]? = some (.dict es e)) (hl : es.length ≤ sizeLine) (q : Q (.ref σ.length) (σ ++ [.dict es none])) : WC prog w B A (.type "dict") [.ref k] σ Q X := fun φ s vs G hv => by
  obtain ⟨v, rfl, hx⟩ := hv.one
  obtain ⟨a, rfl, ha⟩ := hx.of_ref
  obtain ⟨a', ha', kvs, ep, hd, hvs, _⟩ := G.get hσ
  rw [ha] at ha'; cases ha'
  refine kt_call_dict (knd := kk prog w) (G.notSys (List.mem_of_getElem? ha)) hd.dictOf (by rw [hvs.length]; exact hl) fun h' hd' hs => ?_
  have hk : ∀ b o, s.heap.get? b = some o → h'.get? b = some o := fun b o eo => hs.extBut b o (fun h => by rw [h, get?_size] at eo; cases eo) (Heap.get?_push_of_some _ eo)
  obtain ⟨t, G', hv'⟩ := G.newDict (tk := s.toks) hk hd' hvs
  exact ⟨_, _, t, G', _, hv', q⟩
theorem O_addl {j k : Nat} {xs ys : List V} (h1 : σ[j]? = some (.list xs)) (h2 : σ[k]? = some (.list ys)) (hl : xs.length + ys.length ≤ sizeLine) (q : Q (.ref σ.length) (σ ++ [.list (xs ++ ys)])) : W2 prog w B A (binaryOp .Add) (.ref j) (.ref k) σ Q X := fun φ s v u G hv hu => by
  obtain ⟨a, rfl, ha⟩ := hv.of_ref
  obtain ⟨b, rfl, hb⟩ := hu.of_ref
  obtain ⟨a', ha', vs, n, ho, hvs⟩ := G.get h1
  rw [ha] at ha'; cases ha'
  obtain ⟨b', hb', ws, m, ho', hws⟩ := G.get h2
  rw [hb] at hb'; cases hb'
  have e1 : vs.size = xs.length := by simpa using hvs.length
  have e2 : ws.size = ys.length := by simpa using hws.length
  have hk : ∀ (b : Addr) (o : Obj), s.heap.get? b = some o → (s.heap.push { cls := .type "list", data := .seq (vs ++ ws) }).get? b = some o := fun b o e => Heap.get?_push_of_some _ e
  have t₂ : Step [] φ s.heap (φ ++ [s.heap.objs.size]) (s.heap.push { cls := .type "list", data := .seq (vs ++ ws) }) := Step.alloc (s' := { s with heap := s.heap.push { cls := .type "list", data := .seq (vs ++ ws) } }) (get?_size _) hk
  refine P.add_list ho ho' ⟨φ ++ [s.heap.objs.size], σ ++ [.list (xs ++ ys)], t₂, G.alloc (s' := { s with heap := _ }) (ob := .list (xs ++ ys)) (get?_size _) hk ⟨vs ++ ws, 0, Heap.get?_push_size _ rfl, ?_⟩ G.fresh G.sizeNe, .ref σ.length, ?_, q⟩ (by omega)
  · rw [Array.toList_append]
    exact (hvs.append hws).step G t₂
  · rw [Val, ← G.len]
    exact ⟨_, rfl, by simp⟩

/-! a loop over a dict's keys -/
def turnD {ι : Type} (k : Nat) (es : List (Key × V)) (e : Option Nat) (ep : Nat) (D : ι → Prop) (l : ι → List (Str × V)) (f : ι → List AObj) (Q : Fl → List (Str × V) → List AObj → Prop) : Fl → List (Str × V) → List AObj → Prop
  | .next, ρ', σ' => ∃ g, D g ∧ σ' = pin (f g) k es ep ∧ Sub (l g) ρ'
  | .cont, ρ', σ' => ∃ g, D g ∧ σ' = pin (f g) k es ep ∧ Sub (l g) ρ'
  | .brk, ρ', σ' => σ'[k]? = some (.dict es (some ep)) ∧ Q .next ρ' (σ'.set k (.dict es e))
  | .ret x, ρ', σ' => σ'[k]? = some (.dict es (some ep)) ∧ Q (.ret x) ρ' (σ'.set k (.dict es e))
theorem TD_next {ι : Type} {k : Nat} {es : List (Key × V)} {e : Option Nat} {ep : Nat} {D : ι → Prop} {l : ι → List (Str × V)} {f : ι → List AObj} {Q : Fl → List (Str × V) → List AObj → Prop} (g : ι) (hD : D g) (hσ : σ = pin (f g) k es ep) (hs : Sub (l g) ρ) : turnD k es e ep D l f Q .next ρ σ := ⟨g, hD, hσ, hs⟩
theorem pin_at {k : Nat} {es es₀ : List (Key × V)} {e₀ : Option Nat} {ep : Nat} (h : σ[k]? = some (.dict es₀ e₀)) : (pin σ k es ep)[k]? = some (.dict es (some ep)) := by
  rw [pin, List.getElem?_set_self (List.getElem?_eq_some_iff.mp h).1]
theorem pin_set {k : Nat} {es : List (Key × V)} {e : Option Nat} {ep : Nat} (h : σ[k]? = some (.dict es e)) : (pin σ k es ep).set k (.dict es e) = σ := by
  rw [pin, List.set_set]
  obtain ⟨hk, he⟩ := List.getElem?_eq_some_iff.mp h
  rw [← he]; simp
theorem pin_ne {j k : Nat} {es : List (Key × V)} {ep : Nat} (h : j ≠ k) : (pin σ k es ep)[j]? = σ[j]? := by rw [pin, List.getElem?_set_ne (Ne.symm h)]

theorem X_ford {x : Str} {px pos : Pos} {iter : Expr} {body rest : List Stmt} {Q : Fl → List (Str × V) → List AObj → Prop} {k : Nat} {es : List (Key × V)} {e : Option Nat} {ι : Type} (D : Nat → ι → Prop) (l : Nat → ι → List (Str × V)) (f : Nat → ι → List AObj) (g₀ : ι)
    (hh : A.handled = none) (hσ : σ[k]? = some (.dict es e))
    (hi : ∀ ep, WE prog w B A env iter ρ (pin σ k es ep) (fun v σ' => v = .ref k ∧ σ' = pin σ k es ep) X)
    (h1 : D 0 g₀) (h2 : σ = f 0 g₀) (h4 : Sub (l 0 g₀) ρ) (hf : ∀ i g, D i g → (f i g)[k]? = some (.dict es e))
    (hb : ∀ ep i g, i < es.length → D i g → WX prog w B A env body ((x, keyAt es i) :: l i g) (pin (f i g) k es ep) (turnD k es e ep (D (i + 1)) (l (i + 1)) (f (i + 1)) (seqQ prog w B A env rest Q X)) (fun _ _ _ _ => False))
    (he : ∀ g, D es.length g → WX prog w B A env rest (l es.length g) (f es.length g) Q X)
    (hx : env.kindOf x = some .local := by kernel_rfl!)
    (hs : ∀ v, foldedSetIterable iter env v = pure v := by intro _; with_unfolding_all rfl) (hl : ∀ it v, letOwnedTupleGo (.Name x px) it v = pure () := by intro _ _; with_unfolding_all rfl) :
    WX prog w B A env (.For (.Name x px) iter body [] pos :: rest) ρ σ Q X := by
  refine X_cons fun φ s G L => ?_
  obtain ⟨ep, hep, G', _⟩ := G.pin hσ
  have main : WX1 prog w B A env (.For (.Name x px) iter body [] pos) ρ (pin σ k es ep) (fun fl ρ' σ' => σ'[k]? = some (.dict es (some ep)) ∧ seqQ prog w B A env rest Q X fl ρ' (σ'.set k (.dict es e))) X := by
    refine X_for ((hi ep).mono fun v σ' ⟨e1, e2⟩ => ?_) (.inl hx) hs hl
    subst e1 e2
    refine ⟨pin σ k es ep, es.length, keyAt es, fun σ' => σ'[k]? = some (.dict es (some ep)), fun i ρ' σ' => ∃ g, D i g ∧ σ' = pin (f i g) k es ep ∧ Sub (l i g) ρ', It_dict (e := none) hh (pin_at hσ), pin_at hσ, ⟨g₀, h1, by rw [← h2], h4⟩, ?_, ?_⟩
    · rintro i ρ₂ σ₂ hi' hC ⟨g, hD, rfl, hs'⟩
      refine X_weak hs'.both fun φ s G L => wpAny_mono (hb ep i g hi' hD φ s G L) (fun v s₁ hx => ?_) fun _ _ x => x
      obtain ⟨φ₁, σ₃, t₁, G₁, fl, ρ', hf', L₁, q⟩ := hx
      refine ⟨φ₁, σ₃, t₁, G₁, fl, ρ', hf', L₁, ?_⟩
      cases fl with
      | next => obtain ⟨g', q1, q2, q4⟩ := q; exact ⟨by rw [q2]; exact pin_at (hf _ _ q1), g', q1, q2, q4⟩
      | cont => obtain ⟨g', q1, q2, q4⟩ := q; exact ⟨by rw [q2]; exact pin_at (hf _ _ q1), g', q1, q2, q4⟩
      | brk => exact q
      | ret y => exact q
    · rintro ρ₂ σ₂ hC ⟨g, hD, rfl, hs'⟩
      refine ⟨hC, ?_⟩
      rw [pin_set (hf _ _ hD)]
      exact X_weak hs' (he g hD)
  refine wpAny_mono (main φ s G' L) (fun v s₁ hx => ?_) fun _ _ x => x
  obtain ⟨φ₁, σ₁, t₁, G₁, fl, ρ₁, hf', L₁, q1, q2⟩ := hx
  exact ⟨φ₁, σ₁.set k (.dict es e), t₁, G₁.unpin q1 hep, fl, ρ₁, hf', L₁, q2⟩

/-! slices of texts -/
theorem E_slice_to {value upper : Expr} {p pos : Pos} (h : WE prog w B A env value ρ σ (fun x σ₁ => ∃ y : Str, x = .str y ∧ y.length ≤ sizeLine ∧ WE prog w B A env upper ρ σ₁ (fun u σ₂ => ∃ j : Int, u = .int j ∧ Q (.str (Txt.slice y none (some j))) σ₂) X) X)
    : WE prog w B A env (.Subscript value (.Slice none (some upper) none p) pos) ρ σ Q X := fun φ s G L => by
  refine Subscript_ ((h φ s G L).use (.refl ..) fun a s₁ φ₁ σ₁ t₁ _ G₁ ⟨x, hx, y, ey, hy, h₁⟩ => ?_)
  subst ey
  obtain ⟨t, rfl⟩ := hx.of_str
  refine wpAny_Slice ?_
  show wpAny _ _ (pure Value.none) _ _ _
  refine wpAny_pure ?_
  show wpAny _ _ (eval upper env) _ _ _
  refine (h₁ φ₁ s₁ G₁ (L.step G t₁)).use t₁ fun b s₂ φ₂ σ₂ t₂ tt G₂ ⟨u, hu, j, ej, q⟩ => ?_
  subst ej
  obtain ⟨t', rfl⟩ := hu.of_int
  show wpAny _ _ (pure Value.none) _ _ _
  refine wpAny_pure ?_
  have it := SBH.sliceItem_ns (prog := prog) (w := w) (A := A) (E := Post prog w B [] φ s X) (P := fun h => ∀ b o, s₂.heap.get? b = some o → h.get? b = some o) (s := s₂) (x := y) (t := t) (j := j) (uj := t') (Q := Post prog w B [] φ s (vQ Q))
    (fun h ob hk b o e => Heap.get?_push_of_some _ (hk b o e)) (fun _ _ e => e) (fun h' t'' kk hk => ⟨φ₂, σ₂, tt.trans0 (.of_keeps hk), G₂.keeps (s' := { s₂ with heap := h', toks := kk }) hk, _, .str_ _ _, q⟩) hy
  obtain ⟨T, id, h1, h2, h3⟩ := it
  exact tail_any (ops := [_, _]) h2 h1 h3 rfl
theorem E_slice_from {value lower : Expr} {p pos : Pos} (h : WE prog w B A env value ρ σ (fun x σ₁ => ∃ y : Str, x = .str y ∧ y.length ≤ sizeLine ∧ WE prog w B A env lower ρ σ₁ (fun u σ₂ => ∃ j : Int, u = .int j ∧ Q (.str (Txt.slice y (some j) none)) σ₂) X) X)
    : WE prog w B A env (.Subscript value (.Slice (some lower) none none p) pos) ρ σ Q X := fun φ s G L => by
  refine Subscript_ ((h φ s G L).use (.refl ..) fun a s₁ φ₁ σ₁ t₁ _ G₁ ⟨x, hx, y, ey, hy, h₁⟩ => ?_)
  subst ey
  obtain ⟨t, rfl⟩ := hx.of_str
  refine wpAny_Slice ?_
  show wpAny _ _ (eval lower env) _ _ _
  refine (h₁ φ₁ s₁ G₁ (L.step G t₁)).use t₁ fun b s₂ φ₂ σ₂ t₂ tt G₂ ⟨u, hu, j, ej, q⟩ => ?_
  subst ej
  obtain ⟨t', rfl⟩ := hu.of_int
  show wpAny _ _ (pure Value.none) _ _ _
  refine wpAny_pure ?_
  show wpAny _ _ (pure Value.none) _ _ _
  refine wpAny_pure ?_
  have it := SBH.sliceItem_sn (prog := prog) (w := w) (A := A) (E := Post prog w B [] φ s X) (P := fun h => ∀ b o, s₂.heap.get? b = some o → h.get? b = some o) (s := s₂) (x := y) (t := t) (i := j) (ui := t') (Q := Post prog w B [] φ s (vQ Q))
    (fun h ob hk b o e => Heap.get?_push_of_some _ (hk b o e)) (fun _ _ e => e) (fun h' t'' kk hk => ⟨φ₂, σ₂, tt.trans0 (.of_keeps hk), G₂.keeps (s' := { s₂ with heap := h', toks := kk }) hk, _, .str_ _ _, q⟩) hy
  obtain ⟨T, id, h1, h2, h3⟩ := it
  exact tail_any (ops := [_, _]) h2 h1 h3 rfl
theorem R_one0 {σ₀ j2 : List AObj} {ob : AObj} (ho : ob.lt σ₀.length) (q : Q (.ref σ₀.length) (σ₀ ++ [ob])) : retQ σ₀ Q (.ret (.ref σ₀.length)) ρ (σ₀ ++ ob :: j2) := by
  have r := R_one (ρ := ρ) (j1 := ([] : List AObj)) (j2 := j2) (k := σ₀.length) (by simp) ho q
  rw [List.append_nil] at r
  exact r
theorem set_prev {a b c : AObj} : (σ ++ [a] ++ [b]).set σ.length c = σ ++ [c] ++ [b] := by rw [List.set_append_left _ _ (by simp), set_end]
theorem at_prev {a b : AObj} : (σ ++ [a] ++ [b])[σ.length]? = some a := by rw [List.getElem?_append_left (by simp)]; simp
theorem slice_to {x : Str} {j : Int} (h0 : 0 ≤ j) : Txt.slice x none (some j) = ⟨(x.cps.toList.take j.toNat).toArray⟩ := by
  by_cases hj : j ≤ x.cps.toList.length
  · have := eq_of_beq (slice_closes_to (x := x) ⟨h0, hj⟩)
    rw [this]; simp
  · have hlen : (x.length : Int) < j := by simp [Str.length] at hj ⊢; omega
    unfold Txt.slice
    have hi : (Builtin.Str.strSliceIndices none (some j) 1 x.length).length = x.length := by
      unfold Builtin.Str.strSliceIndices sliceRange
      have h1 : ¬ (j < 0) := by omega
      have e2 : max (0 : Int) (min j (x.length : Int)) = x.length := by omega
      simp only [h1, if_false, e2, show ((1 : Int) > 0) = True from by simp, if_true, List.length_map, List.length_range]
      split <;> omega
    rw [if_pos (by rw [hi]; simp)]
    have : x.cps.toList.take j.toNat = x.cps.toList := List.take_of_length_le (by simp [Str.length] at hlen ⊢; omega)
    rw [this]
theorem slice_from {x : Str} {j : Int} (h0 : 0 ≤ j) (hj : j ≤ x.length) : Txt.slice x (some j) none = ⟨(x.cps.toList.drop j.toNat).toArray⟩ := by
  have := eq_of_beq (slice_closes_fromL (x := x) h0 hj rfl)
  rw [this]
  congr 2
  refine List.take_of_length_le ?_
  simp [Str.length] at hj ⊢; omega
theorem St.nodupKeys {k : Nat} {es : List (Key × V)} {e : Option Nat} (G : St prog w B φ σ s) (hσ : σ[k]? = some (.dict es e)) : (es.map (·.1)).Nodup := by
  obtain ⟨a, ha, kvs, ep, hd, hvs, _⟩ := G.get hσ
  obtain ⟨_, _, _, _, _, _, _, _, hn⟩ := hd.dictOf
  rw [← hvs.keys]; exact hn
theorem X_keys {ss : List Stmt} {Q : Fl → List (Str × V) → List AObj → Prop} {k : Nat} {es : List (Key × V)} {e : Option Nat} (hσ : σ[k]? = some (.dict es e)) (h : (es.map (·.1)).Nodup → WX prog w B A env ss ρ σ Q X) : WX prog w B A env ss ρ σ Q X := fun φ s G L => h (G.nodupKeys hσ) φ s G L
theorem keyAt_get {es : List (Key × V)} {i : Nat} (hi : i < es.length) : keyAt es i = (es[i]).1.v := by unfold keyAt; rw [List.getD_eq_getElem?_getD, List.getElem?_eq_getElem hi]; rfl
end
end Mine

set_option autoImplicit false
set_option linter.unusedVariables false
namespace Mine
open PySem PyProof.Rows

/-! The sort of any size. Part 1: runs. -/
section
variable {κ : KeyKind} {xs ys : Array Keyed}
def ky (κ : KeyKind) (p : Keyed) : κ.α := (κ.keyOf p.1).getD κ.dflt
def ple (κ : KeyKind) (p q : Keyed) : Prop := κ.kle (ky κ p) (ky κ q)
theorem KK_at {i : Nat} {p : Keyed} (h : xs[i]? = some p) : KK κ xs i = ky κ p := by unfold KK; rw [h]; rfl

def Seg (κ : KeyKind) (xs : Array Keyed) (i j : Nat) : Prop := ∀ p q, i ≤ p → p ≤ q → q < j → κ.kle (KK κ xs p) (KK κ xs q)
def SegD (κ : KeyKind) (xs : Array Keyed) (i j : Nat) : Prop := ∀ p q, i ≤ p → p ≤ q → q < j → κ.kle (KK κ xs q) (KK κ xs p)
theorem Seg.one (i : Nat) : Seg κ xs i (i + 1) := fun p q h1 h2 h3 => by
  have : p = q := by lia
  subst this; exact KeyOrd.kle_refl _
theorem Seg.snoc {i j : Nat} (h : Seg κ xs i (i + j)) (hj : 1 ≤ j) (hk : κ.kle (KK κ xs (i + j - 1)) (KK κ xs (i + j))) : Seg κ xs i (i + (j + 1)) := fun p q h1 h2 h3 => by
  by_cases hq : q < i + j
  · exact h p q h1 h2 hq
  · have : q = i + j := by lia
    subst this
    by_cases hp : p = i + j
    · subst hp; exact KeyOrd.kle_refl _
    · exact KeyOrd.kle_trans (h p (i + j - 1) h1 (by lia) (by lia)) hk
theorem SegD.snoc {i j : Nat} (h : SegD κ xs i (i + j)) (hj : 1 ≤ j) (hk : κ.kle (KK κ xs (i + j)) (KK κ xs (i + j - 1))) : SegD κ xs i (i + (j + 1)) := fun p q h1 h2 h3 => by
  by_cases hq : q < i + j
  · exact h p q h1 h2 hq
  · have : q = i + j := by lia
    subst this
    by_cases hp : p = i + j
    · subst hp; exact KeyOrd.kle_refl _
    · exact KeyOrd.kle_trans hk (h p (i + j - 1) h1 (by lia) (by lia))
theorem Seg.congr {i j : Nat} (h : Seg κ xs i j) (e : ∀ k, i ≤ k → k < j → ys[k]? = xs[k]?) : Seg κ ys i j := fun p q h1 h2 h3 => by
  rw [KK_congr (e p h1 (by lia)), KK_congr (e q (by lia) h3)]
  exact h p q h1 h2 h3
end

structure SB (a₀ : Array Keyed) (st : SortSt) : Prop where
  perm : (arrOf st).Perm a₀
  kind : kindOf st = oneType'
  failed : failedOf st = none
theorem SB.size {a₀ : Array Keyed} {st : SortSt} (h : SB a₀ st) : (arrOf st).size = a₀.size := h.perm.size_eq
theorem SB.at {κ : KeyKind} {a₀ : Array Keyed} {st : SortSt} (h : SB a₀ st) (h0 : KeysOf κ a₀) {i : Nat} (hi : i < a₀.size) :
    ∃ p, (arrOf st)[i]? = some p ∧ κ.keyOf p.1 = some (ky κ p) ∧ KK κ (arrOf st) i = ky κ p := by
  have hi' : i < (arrOf st).size := by rw [h.size]; exact hi
  have hm : (arrOf st)[i] ∈ a₀.toList := (Array.perm_iff_toList_perm.mp h.perm).mem_iff.mp (by simp)
  obtain ⟨a, ha⟩ := h0 _ hm
  have e : (arrOf st)[i]? = some (arrOf st)[i] := getElem?_pos _ i hi'
  refine ⟨(arrOf st)[i], e, ?_, KK_at e⟩
  unfold ky; rw [ha]; rfl

/-- what a part of the sort that works in i..j leaves -/
structure Mv (a₀ : Array Keyed) (st st' : SortSt) (i j : Nat) : Prop where
  sb : SB a₀ st'
  pend : pendingOf st' = pendingOf st
  out : ∀ k, k < i ∨ j ≤ k → (arrOf st')[k]? = (arrOf st)[k]?
theorem Mv.refl {a₀ : Array Keyed} {st : SortSt} {i j : Nat} (h : SB a₀ st) : Mv a₀ st st i j := ⟨h, rfl, fun _ _ => rfl⟩
theorem Mv.set {a₀ : Array Keyed} {st st' : SortSt} {i j : Nat} {xs : Array Keyed} (h : Mv a₀ st st' i j) (hp : xs.Perm (arrOf st')) (ho : ∀ k, k < i ∨ j ≤ k → xs[k]? = (arrOf st')[k]?) : Mv a₀ st (setArr st' xs) i j :=
  ⟨⟨hp.trans h.sb.perm, h.sb.kind, h.sb.failed⟩, h.pend, fun k hk => (ho k hk).trans (h.out k hk)⟩
theorem Mv.mirror {a₀ : Array Keyed} {st st' : SortSt} {i j p q : Nat} (h : Mv a₀ st st' i j) (h1 : i ≤ p) (h2 : q ≤ j) (h3 : q ≤ a₀.size) : Mv a₀ st (setArr st' (mirror (arrOf st') p q ((q - p) / 2))) i j :=
  h.set (mirror_perm _ _ _ _) fun k hk => by rw [getElem?_mirror_all (by rw [h.sb.size]; exact h3), if_neg (by lia)]

section
variable {prog : Program} {w : World} {A : Around} {E : Value → Shared → Prop} {s : Shared} {a₀ : Array Keyed} {κ : KeyKind}

theorem wpS_lt2 {st : SortSt} {p q : Keyed} {Q : Option Bool → SortSt → Prop} (hO : κ.OneLt) (hk : kindOf st = oneType') (hp : κ.keyOf p.1 = some (ky κ p)) (hq : κ.keyOf q.1 = some (ky κ q)) (h : Q (some (κ.blt (ky κ p) (ky κ q))) st) :
    wpS (model prog w) A E s (lt' p q) Q st := by
  rw [lt'_eq]
  refine wpS_bind (wpS_get ?_)
  rw [hk, keyLt'_oneType]
  refine wpS_bind (wpS_lift (wpAny_attempt (hO prog w A _ s p.1 q.1 _ _ hp hq ⟨rfl, ?_⟩)))
  exact wpS_pure h

theorem wpS_elem {st : SortSt} {arr : Array Keyed} {i : Nat} {p : Keyed} {Q : Keyed → SortSt → Prop} (e : arr[i]? = some p) (h : Q p st) : wpS (model prog w) A E s (elem' arr i) Q st := by
  rw [elem'_eq, e]; exact wpS_pure h

theorem wpS_ltB {st : SortSt} {i j : Nat} {Q : Option Bool → SortSt → Prop} (hO : κ.OneLt) (hB : SB a₀ st) (h0 : KeysOf κ a₀) (hi : i < a₀.size) (hj : j < a₀.size)
    (h : Q (some (κ.blt (KK κ (arrOf st) i) (KK κ (arrOf st) j))) st) : wpS (model prog w) A E s (ltAt' i j) Q st := by
  obtain ⟨p, e1, ha, ka⟩ := hB.at h0 hi
  obtain ⟨q, e2, hb, kb⟩ := hB.at h0 hj
  rw [ka, kb] at h
  exact wpS_ltAtK hO hB.kind (p := p.2) (q := q.2) (x := p.1) (y := q.1) e1 e2 ha hb h

/-! ### countRun from any place -/
def ascL (lo a nrem : Nat) : StateT SortSt Sem AscSt :=
  forIn [a:nrem] ((none, a) : AscSt) fun _ __s => do
    let __x ← ltAt' (lo + __s.snd) (lo + __s.snd - 1)
    match __x with
    | some smaller => if smaller = true then pure (ForInStep.done (none, __s.snd)) else pure (ForInStep.yield (none, __s.snd + 1))
    | _ => pure (ForInStep.done (some none, __s.snd))
def tailL (lo n nrem : Nat) : StateT SortSt Sem (Option Nat) := do
  reverseSlice' lo (lo + n)
  let __s ← ascL lo n nrem
  match __s.fst with
  | some r => pure r
  | none => pure (some __s.snd)
def descL (lo n nrem : Nat) : StateT SortSt Sem DescSt :=
  forIn [n:nrem] ((none, n, 0) : DescSt) fun _ __s => do
    let __x ← ltAt' (lo + __s.snd.fst) (lo + __s.snd.fst - 1)
    match __x with
    | some smaller =>
      if smaller = true then
        if __s.snd.snd > 0 then do
          reverseSlice' (lo + __s.snd.fst - (__s.snd.snd + 1)) (lo + __s.snd.fst)
          pure (ForInStep.yield (none, __s.snd.fst + 1, 0))
        else pure (ForInStep.yield (none, __s.snd.fst + 1, 0))
      else do
        let __x ← ltAt' (lo + __s.snd.fst - 1) (lo + __s.snd.fst)
        match __x with
        | some larger =>
          if larger = true then pure (ForInStep.done (none, __s.snd.fst, __s.snd.snd))
          else pure (ForInStep.yield (none, __s.snd.fst + 1, __s.snd.snd + 1))
        | _ => pure (ForInStep.done (some none, __s.snd.fst, __s.snd.snd))
    | _ => pure (ForInStep.done (some none, __s.snd.fst, __s.snd.snd))
def descPartL (lo n nrem : Nat) : StateT SortSt Sem (Option Nat) := do
  liftM (rule "list.sort.descending-run")
  let __s ← descL lo (n + 1) nrem
  match __s.fst with
  | some r => pure r
  | none =>
    if __s.snd.snd > 0 then do
      reverseSlice' (lo + __s.snd.fst - (__s.snd.snd + 1)) (lo + __s.snd.fst)
      tailL lo __s.snd.fst nrem
    else tailL lo __s.snd.fst nrem

theorem countRunL_eq (lo nrem : Nat) : countRun' lo nrem = (do
    let __s ← ascL lo 1 nrem
    match __s.fst with
    | some r => pure r
    | none =>
      if (__s.snd == nrem) = true then pure (some __s.snd)
      else if __s.snd > 1 then do
        let __x ← ltAt' lo (lo + __s.snd - 1)
        match __x with
        | some rose => if rose = true then pure (some __s.snd) else do
            reverseSlice' lo (lo + __s.snd)
            descPartL lo __s.snd nrem
        | _ => pure none
      else descPartL lo __s.snd nrem) := by
  rw [countRun'_eq]
  unfold descPartL tailL descL ascL
  dsimp only
  congr 1
  funext __s
  obtain ⟨r, n⟩ := __s
  cases r with
  | some r => rfl
  | none =>
    dsimp only
    split
    · rfl
    · split
      · congr 1
        funext x
        cases x with
        | none => rfl
        | some rose =>
          dsimp only
          split
          · rfl
          · congr 1
            funext _r
            congr 1; funext _u; congr 1; congr 1; funext s2; obtain ⟨r2, n2, q2⟩ := s2
            cases r2 with
            | some r2 => rfl
            | none =>
              dsimp only
              split
              · congr 1; funext _v; congr 1; funext _w; congr 1; funext s3; obtain ⟨r3, n3⟩ := s3; cases r3 <;> rfl
              · congr 1; funext _w; congr 1; funext s3; obtain ⟨r3, n3⟩ := s3; cases r3 <;> rfl
      · congr 1; funext _u; congr 1; congr 1; funext s2; obtain ⟨r2, n2, q2⟩ := s2
        cases r2 with
        | some r2 => rfl
        | none =>
          dsimp only
          split
          · congr 1; funext _v; congr 1; funext _w; congr 1; funext s3; obtain ⟨r3, n3⟩ := s3; cases r3 <;> rfl
          · congr 1; funext _w; congr 1; funext s3; obtain ⟨r3, n3⟩ := s3; cases r3 <;> rfl

theorem wpS_ascL {st : SortSt} {lo a nrem : Nat} {Q : AscSt → SortSt → Prop} (hO : κ.OneLt) (h0 : KeysOf κ a₀) (hn : lo + nrem ≤ a₀.size) (ha : 1 ≤ a) (han : a ≤ nrem) (hB : SB a₀ st)
    (hs : Seg κ (arrOf st) lo (lo + a))
    (h : ∀ n, a ≤ n → n ≤ nrem → Seg κ (arrOf st) lo (lo + n) → (n = nrem ∨ κ.klt (KK κ (arrOf st) (lo + n)) (KK κ (arrOf st) (lo + n - 1))) → Q (none, n) st) :
    wpS (model prog w) A E s (ascL lo a nrem) Q st := by
  unfold ascL
  refine wpS_forRange (I := fun x c st' => st' = st ∧ c = (none, x) ∧ Seg κ (arrOf st) lo (lo + x)) ?step ?fin ⟨rfl, rfl, hs⟩
  case fin =>
    rintro c st' ⟨rfl, rfl, hs'⟩
    rw [show max a nrem = nrem by lia] at hs' ⊢
    exact h nrem han (Nat.le_refl _) hs' (.inl rfl)
  case step =>
    rintro x c st' hax hxn ⟨rfl, rfl, hs'⟩
    dsimp only
    refine wpS_bind (wpS_ltB hO hB h0 (by lia) (by lia) ?_)
    cases hless : κ.blt (KK κ (arrOf st') (lo + x)) (KK κ (arrOf st') (lo + x - 1))
    case true =>
      simp only [if_true]
      exact wpS_pure (h x hax (by lia) hs' (.inr hless))
    case false =>
      simp only [Bool.false_eq_true, if_false]
      exact wpS_pure ⟨rfl, rfl, hs'.snoc (by lia) hless⟩

theorem wpS_tailL {st₀ st : SortSt} {lo n nrem : Nat} {Q : Option Nat → SortSt → Prop} (hO : κ.OneLt) (h0 : KeysOf κ a₀) (hn : lo + nrem ≤ a₀.size) (h1 : 1 ≤ n) (hnn : n ≤ nrem) (hB : Mv a₀ st₀ st lo (lo + nrem))
    (hs : SegD κ (arrOf st) lo (lo + n)) (h : ∀ m st', Mv a₀ st₀ st' lo (lo + nrem) → 1 ≤ m → m ≤ nrem → Seg κ (arrOf st') lo (lo + m) → Q (some m) st') :
    wpS (model prog w) A E s (tailL lo n nrem) Q st := by
  unfold tailL
  have hsz : lo + n ≤ (arrOf st).size := by rw [hB.sb.size]; lia
  refine wpS_bind (wpS_reverse ?_)
  have hB' := hB.mirror (p := lo) (q := lo + n) (Nat.le_refl _) (by lia) (by lia)
  refine wpS_bind (wpS_ascL hO h0 hn h1 hnn hB'.sb ?_ fun m hm1 hm2 hsm _ => wpS_pure (h m _ hB' (by lia) hm2 hsm))
  intro i j hi hij hj
  show κ.kle (KK κ (mirror (arrOf st) lo (lo + n) ((lo + n - lo) / 2)) i) (KK κ (mirror (arrOf st) lo (lo + n) ((lo + n - lo) / 2)) j)
  rw [KK_mirror hsz, KK_mirror hsz, if_pos (by lia), if_pos (by lia)]
  exact hs _ _ (by lia) (by lia) (by lia)

theorem wpS_descL {st₀ st : SortSt} {lo n nrem : Nat} {Q : DescSt → SortSt → Prop} (hO : κ.OneLt) (h0 : KeysOf κ a₀) (hn : lo + nrem ≤ a₀.size) (h1 : 1 ≤ n) (hnn : n ≤ nrem) (hB : Mv a₀ st₀ st lo (lo + nrem))
    (hs : SegD κ (arrOf st) lo (lo + n))
    (h : ∀ m neq st', Mv a₀ st₀ st' lo (lo + nrem) → n ≤ m → m ≤ nrem → SegD κ (arrOf st') lo (lo + m) → neq + 1 ≤ m → (∀ i, lo + m - (neq + 1) ≤ i → i < lo + m → KK κ (arrOf st') i = KK κ (arrOf st') (lo + m - 1)) → Q (none, m, neq) st') :
    wpS (model prog w) A E s (descL lo n nrem) Q st := by
  unfold descL
  refine wpS_forRange (I := fun x c st' => ∃ neq, c = (none, x, neq) ∧ Mv a₀ st₀ st' lo (lo + nrem) ∧ SegD κ (arrOf st') lo (lo + x) ∧ neq + 1 ≤ x ∧
      (∀ i, lo + x - (neq + 1) ≤ i → i < lo + x → KK κ (arrOf st') i = KK κ (arrOf st') (lo + x - 1))) ?step ?fin ⟨0, rfl, hB, hs, by lia, fun i h1 h2 => by congr 1; lia⟩
  case fin =>
    rintro c st' ⟨neq, rfl, hB', hs', hq, he⟩
    rw [show max n nrem = nrem by lia] at hs' hq he ⊢
    exact h nrem neq st' hB' hnn (Nat.le_refl _) hs' hq he
  case step =>
    rintro x c st' hax hxn ⟨neq, rfl, hB', hs', hq, he⟩
    dsimp only
    have hsz : lo + x ≤ (arrOf st').size := by rw [hB'.sb.size]; lia
    refine wpS_bind (wpS_ltB hO hB'.sb h0 (by lia) (by lia) ?_)
    cases hless : κ.blt (KK κ (arrOf st') (lo + x)) (KK κ (arrOf st') (lo + x - 1))
    case true =>
      simp only [if_true]
      have step1 : ∀ xs : Array Keyed, (∀ k, KK κ xs k = KK κ (arrOf st') k) → SegD κ xs lo (lo + (x + 1)) := by
        intro xs hk i j hi hij hj
        rw [hk, hk]
        exact hs'.snoc (by lia) (KeyOrd.kle_of_klt hless) i j hi hij hj
      by_cases hneq : neq > 0
      · rw [if_pos hneq]
        refine wpS_bind (wpS_reverse (wpS_pure ⟨0, rfl, hB'.mirror (by lia) (by lia) (by lia), step1 _ (KK_mirror_equal hsz he), by lia, fun i h1 h2 => by congr 1; lia⟩))
      · rw [if_neg hneq]
        exact wpS_pure ⟨0, rfl, hB', step1 _ (fun _ => rfl), by lia, fun i h1 h2 => by congr 1; lia⟩
    case false =>
      simp only [Bool.false_eq_true, if_false]
      refine wpS_bind (wpS_ltB hO hB'.sb h0 (by lia) (by lia) ?_)
      cases hlarger : κ.blt (KK κ (arrOf st') (lo + x - 1)) (KK κ (arrOf st') (lo + x))
      case true =>
        simp only [if_true]
        exact wpS_pure (h x neq st' hB' hax (by lia) hs' hq he)
      case false =>
        simp only [Bool.false_eq_true, if_false]
        have heqx : KK κ (arrOf st') (lo + x) = KK κ (arrOf st') (lo + x - 1) := KeyOrd.kle_antisymm hlarger hless
        refine wpS_pure ⟨neq + 1, rfl, hB', hs'.snoc (by lia) hlarger, by lia, fun i h1 h2 => ?_⟩
        rw [show lo + (x + 1) - 1 = lo + x by lia]
        by_cases hix : i = lo + x
        · subst hix; rfl
        · rw [heqx]; exact he i (by lia) (by lia)

theorem wpS_descPartL {st₀ st : SortSt} {lo n nrem : Nat} {Q : Option Nat → SortSt → Prop} (hO : κ.OneLt) (h0 : KeysOf κ a₀) (hn : lo + nrem ≤ a₀.size) (hnn : n + 1 ≤ nrem) (hB : Mv a₀ st₀ st lo (lo + nrem))
    (hs : SegD κ (arrOf st) lo (lo + (n + 1))) (h : ∀ m st', Mv a₀ st₀ st' lo (lo + nrem) → 1 ≤ m → m ≤ nrem → Seg κ (arrOf st') lo (lo + m) → Q (some m) st') :
    wpS (model prog w) A E s (descPartL lo n nrem) Q st := by
  unfold descPartL
  refine wpS_bind (wpS_lift (wpAny_rule ⟨rfl, ?_⟩))
  refine wpS_bind (wpS_descL hO h0 hn (by lia) hnn hB hs fun m neq st' hB' hm1 hm2 hs' hq he => ?_)
  dsimp only
  have hsz : lo + m ≤ (arrOf st').size := by rw [hB'.sb.size]; lia
  by_cases hneq : neq > 0
  · rw [if_pos hneq]
    refine wpS_bind (wpS_reverse (wpS_tailL hO h0 hn (by lia) hm2 (hB'.mirror (by lia) (by lia) (by lia)) ?_ h))
    intro i j hi hij hj
    show κ.kle (KK κ (mirror (arrOf st') _ _ _) j) (KK κ (mirror (arrOf st') _ _ _) i)
    rw [KK_mirror_equal hsz he, KK_mirror_equal hsz he]
    exact hs' i j hi hij hj
  · rw [if_neg hneq]
    exact wpS_tailL hO h0 hn (by lia) hm2 hB' hs' h

theorem wpS_countRunL {st : SortSt} {lo nrem : Nat} {Q : Option Nat → SortSt → Prop} (hO : κ.OneLt) (h0 : KeysOf κ a₀) (hn : lo + nrem ≤ a₀.size) (h1 : 1 ≤ nrem) (hB : SB a₀ st)
    (h : ∀ m st', Mv a₀ st st' lo (lo + nrem) → 1 ≤ m → m ≤ nrem → Seg κ (arrOf st') lo (lo + m) → Q (some m) st') :
    wpS (model prog w) A E s (countRun' lo nrem) Q st := by
  rw [countRunL_eq]
  refine wpS_bind (wpS_ascL hO h0 hn (Nat.le_refl 1) h1 hB (Seg.one lo) fun n hn1 hn2 hsn hor => ?_)
  dsimp only
  have hM : Mv a₀ st st lo (lo + nrem) := .refl hB
  by_cases hnn : n = nrem
  · rw [if_pos (by simpa using hnn)]
    exact wpS_pure (h n st hM hn1 hn2 hsn)
  · rw [if_neg (by simpa using hnn)]
    have hlt : κ.klt (KK κ (arrOf st) (lo + n)) (KK κ (arrOf st) (lo + n - 1)) := hor.resolve_left hnn
    by_cases hgt : n > 1
    · rw [if_pos hgt]
      refine wpS_bind (wpS_ltB hO hB h0 (by lia) (by lia) ?_)
      cases hrose : κ.blt (KK κ (arrOf st) lo) (KK κ (arrOf st) (lo + n - 1))
      case true =>
        simp only [if_true]
        exact wpS_pure (h n st hM hn1 hn2 hsn)
      case false =>
        simp only [Bool.false_eq_true, if_false]
        have hsz : lo + n ≤ (arrOf st).size := by rw [hB.size]; lia
        have hall : ∀ k, lo ≤ k → k < lo + n → KK κ (arrOf st) k = KK κ (arrOf st) (lo + n - 1) := by
          intro k hk0 hk
          have a1 := hsn lo k (by lia) hk0 hk
          have a2 := hsn k (lo + n - 1) (by lia) (by lia) (by lia)
          exact KeyOrd.kle_antisymm a2 (KeyOrd.kle_trans hrose a1)
        refine wpS_bind (wpS_reverse (wpS_descPartL hO h0 hn (by lia) (hM.mirror (by lia) (by lia) (by lia)) ?_ h))
        have hD : SegD κ (arrOf st) lo (lo + (n + 1)) := SegD.snoc (fun i j hi hij hj => by rw [hall i hi (by lia), hall j (by lia) hj]; exact KeyOrd.kle_refl _) (by lia) (KeyOrd.kle_of_klt hlt)
        intro i j hi hij hj
        show κ.kle (KK κ (mirror (arrOf st) _ _ _) j) (KK κ (mirror (arrOf st) _ _ _) i)
        rw [KK_mirror_equal hsz hall, KK_mirror_equal hsz hall]
        exact hD i j hi hij hj
    · rw [if_neg hgt]
      have hn1' : n = 1 := by lia
      subst hn1'
      refine wpS_descPartL hO h0 hn (by lia) hM ?_ h
      refine SegD.snoc (fun i j hi hij hj => ?_) (by lia) (KeyOrd.kle_of_klt hlt)
      have : i = j := by lia
      subst this; exact KeyOrd.kle_refl _

/-! ### binarySort from any place -/
theorem wpS_binarySortL {st : SortSt} {lo n ok : Nat} {Q : Bool → SortSt → Prop} (hO : κ.OneLt) (h0 : KeysOf κ a₀) (hn : lo + n ≤ a₀.size) (hok : ok ≤ n) (hB : SB a₀ st) (hs : Seg κ (arrOf st) lo (lo + ok))
    (h : ∀ st', Mv a₀ st st' lo (lo + n) → Seg κ (arrOf st') lo (lo + n) → Q true st') : wpS (model prog w) A E s (binarySort' lo n ok) Q st := by
  rw [binarySort'_eq]
  refine wpS_bind (wpS_mono (wpS_forRange (I := fun k c st' => c = (none, ()) ∧ Mv a₀ st st' lo (lo + n) ∧ Seg κ (arrOf st') lo (lo + min k n))
    (Q := fun c st' => c = (none, ()) ∧ Mv a₀ st st' lo (lo + n) ∧ Seg κ (arrOf st') lo (lo + n)) ?step ?fin ?init) ?post)
  case post =>
    rintro c st' ⟨rfl, hB', hs'⟩
    exact wpS_pure (h st' hB' hs')
  case init =>
    refine ⟨rfl, .refl hB, fun i j hi hij hj => ?_⟩
    by_cases h1 : ok = 0
    · have : i = j := by lia
      subst this; exact KeyOrd.kle_refl _
    · exact hs i j hi hij (by lia)
  case fin =>
    rintro c st' ⟨hc, hB', hs'⟩
    refine ⟨hc, hB', ?_⟩
    rwa [show min (max (max ok 1) n) n = n by lia] at hs'
  case step =>
    rintro k c st' hak hkn ⟨rfl, hB', hs'⟩
    rw [show min k n = k by lia] at hs'
    have hk : lo + k < a₀.size := by lia
    refine wpS_bind (wpS_mono (wpS_forRange (I := fun x c st'' => st'' = st' ∧ ∃ l r, c = (none, l, r) ∧ l ≤ r ∧ r ≤ k ∧ r + x ≤ l + k ∧
        (∀ i, lo ≤ i → i < lo + l → κ.kle (KK κ (arrOf st') i) (KK κ (arrOf st') (lo + k))) ∧ (∀ i, lo + r ≤ i → i < lo + k → κ.klt (KK κ (arrOf st') (lo + k)) (KK κ (arrOf st') i)))
      (Q := fun c st'' => st'' = st' ∧ ∃ l r, c = (none, l, r) ∧ l ≤ k ∧
        (∀ i, lo ≤ i → i < lo + l → κ.kle (KK κ (arrOf st') i) (KK κ (arrOf st') (lo + k))) ∧ (∀ i, lo + l ≤ i → i < lo + k → κ.klt (KK κ (arrOf st') (lo + k)) (KK κ (arrOf st') i))) ?istep ?ifin ?iinit) ?ipost)
    case iinit => exact ⟨rfl, 0, k, rfl, Nat.zero_le _, Nat.le_refl _, Nat.le_of_eq (Nat.add_comm k 0), fun i hi h1 => absurd h1 (Nat.not_lt.mpr hi), fun i h1 h2 => absurd h2 (Nat.not_lt.mpr h1)⟩
    case ifin =>
      rintro c st'' ⟨rfl, l, r, rfl, hlr, hrk, hm, hlo, hhi⟩
      have : l = r := by lia
      subst this
      exact ⟨rfl, l, l, rfl, hrk, hlo, hhi⟩
    case istep =>
      rintro x c st'' _ hxk ⟨rfl, l, r, rfl, hlr, hrk, hm, hlo, hhi⟩
      dsimp only
      by_cases hge : l ≥ r
      · rw [if_pos hge]
        have : l = r := by lia
        subst this
        exact wpS_pure ⟨rfl, l, l, rfl, hrk, hlo, hhi⟩
      · rw [if_neg hge]
        have m1 : l ≤ (l + r) / 2 := by omega
        have m2 : (l + r) / 2 < r := by omega
        generalize (l + r) / 2 = m at m1 m2
        have m3 : m < k := Nat.lt_of_lt_of_le m2 hrk
        refine wpS_bind (wpS_ltB hO hB'.sb h0 hk (Nat.lt_trans (Nat.add_lt_add_left m3 lo) hk) ?_)
        cases hless : κ.blt (KK κ (arrOf st'') (lo + k)) (KK κ (arrOf st'') (lo + m))
        case true =>
          simp only [if_true]
          refine wpS_pure ⟨rfl, l, m, rfl, m1, Nat.le_of_lt m3, by omega, hlo, fun i h1 h2 => ?_⟩
          exact KeyOrd.klt_of_klt_of_kle hless (hs' _ _ (Nat.le_add_right _ _) h1 h2)
        case false =>
          simp only [Bool.false_eq_true, if_false]
          refine wpS_pure ⟨rfl, m + 1, r, rfl, m2, hrk, by omega, fun i h0 h1 => ?_, hhi⟩
          exact KeyOrd.kle_trans (hs' i (lo + m) h0 (Nat.le_of_lt_succ h1) (Nat.add_lt_add_left m3 lo)) (show κ.kle _ _ from hless)
    case ipost =>
      rintro c st'' ⟨rfl, l, r, rfl, hlk, hlo, hhi⟩
      show wpS _ _ _ _ (do moveDown' (lo + k) (lo + l); pure (ForInStep.yield (none, ()))) _ _
      rw [moveDown'_eq]
      have hks : lo + k < (arrOf st'').size := by rw [hB'.sb.size]; exact hk
      refine wpS_bind (wpS_modify (wpS_pure ⟨rfl, hB'.set (bubble_perm _ _ _) fun i hi => ?_, ?_⟩))
      · rw [getElem?_bubble hks _ (by lia), if_neg (by lia), if_neg (by lia)]
      rw [show min (k + 1) n = k + 1 by lia]
      intro i j hi hij hj
      show κ.kle (KK κ (bubble (arrOf st'') (lo + k) (lo + k - (lo + l))) i) (KK κ (bubble (arrOf st'') (lo + k) (lo + k - (lo + l))) j)
      rw [KK_bubble hks (by lia), KK_bubble hks (by lia), show lo + k - (lo + k - (lo + l)) = lo + l by lia]
      repeat' split
      all_goals first
        | (exfalso; lia)
        | exact KeyOrd.kle_refl _
        | exact hlo _ (by lia) (by lia)
        | exact KeyOrd.kle_of_klt (hhi _ (by lia) (by lia))
        | exact hs' _ _ (by lia) (by lia) (by lia)
end
end Mine

set_option autoImplicit false
set_option linter.unusedVariables false
namespace Mine
open PySem PyProof.Rows

/-! Part 2: gallop -/
def gallop' : Bool → Keyed → Array Keyed → Nat → Nat → Nat → StateT SortSt Sem (Option Nat) := sortPriv% PySem.Builtin.gallop
def setMinGallop' : Nat → StateT SortSt Sem Unit := sortPriv% PySem.Builtin.setMinGallop
theorem setMinGallop'_eq (g : Nat) : setMinGallop' g = modify fun s => SortSt.mk' (kindOf s) (arrOf s) (pendingOf s) g (failedOf s) := rfl
def beyond' (left : Bool) (key : Keyed) (arr : Array Keyed) (base i : Nat) : StateT SortSt Sem (Option Bool) := do
  let x ← elem' arr (base + i)
  if left = true then lt' x key else do
    let r ← lt' key x
    pure (Option.map (fun x => !x) r)
abbrev GSt := Option (Option Nat) × Nat × Nat
def gUp (bey : Nat → StateT SortSt Sem (Option Bool)) (n hint maxofs : Nat) : StateT SortSt Sem GSt :=
  forIn [0:n] ((none, 0, 1) : GSt) fun _ c =>
    if c.2.2 ≥ maxofs then pure (ForInStep.done (none, c.2.1, c.2.2)) else do
      let x ← bey (hint + c.2.2)
      match x with
      | some more => if (!more) = true then pure (ForInStep.done (none, c.2.1, c.2.2)) else pure (ForInStep.yield (none, c.2.2, 2 * c.2.2 + 1))
      | _ => pure (ForInStep.done (some none, c.2.1, c.2.2))
def gDown (bey : Nat → StateT SortSt Sem (Option Bool)) (n hint maxofs : Nat) : StateT SortSt Sem GSt :=
  forIn [0:n] ((none, 0, 1) : GSt) fun _ c =>
    if c.2.2 ≥ maxofs then pure (ForInStep.done (none, c.2.1, c.2.2)) else do
      let x ← bey (hint - c.2.2)
      match x with
      | some found => if found = true then pure (ForInStep.done (none, c.2.1, c.2.2)) else pure (ForInStep.yield (none, c.2.2, 2 * c.2.2 + 1))
      | _ => pure (ForInStep.done (some none, c.2.1, c.2.2))
def gBin (bey : Nat → StateT SortSt Sem (Option Bool)) (n lo hi : Nat) : StateT SortSt Sem (Option Nat) := do
  let c ← (forIn [0:n] ((none, lo, hi) : GSt) fun _ c =>
    if c.2.1 ≥ c.2.2 then pure (ForInStep.done (none, c.2.1, c.2.2)) else do
      let x ← bey (c.2.1 + (c.2.2 - c.2.1) / 2)
      match x with
      | some more => if more = true then pure (ForInStep.yield (none, c.2.1 + (c.2.2 - c.2.1) / 2 + 1, c.2.2)) else pure (ForInStep.yield (none, c.2.1, c.2.1 + (c.2.2 - c.2.1) / 2))
      | _ => pure (ForInStep.done (some none, c.2.1, c.2.2)))
  Break.runK.match_1 (fun _ => StateT SortSt Sem (Option Nat)) c.1 (fun r => pure r) fun _ => pure (some c.2.2)
theorem gallop'_eq (left : Bool) (key : Keyed) (arr : Array Keyed) (base n hint : Nat) : gallop' left key arr base n hint = (do
    let x ← beyond' left key arr base hint
    match x with
    | some right =>
      if right = true then do
        let c ← gUp (beyond' left key arr base) n hint (n - hint)
        Break.runK.match_1 (fun _ => StateT SortSt Sem (Option Nat)) c.1 (fun r => pure r) fun _ => gBin (beyond' left key arr base) n (hint + c.2.1 + 1) (hint + min c.2.2 (n - hint))
      else do
        let c ← gDown (beyond' left key arr base) n hint (hint + 1)
        Break.runK.match_1 (fun _ => StateT SortSt Sem (Option Nat)) c.1 (fun r => pure r) fun _ => gBin (beyond' left key arr base) n (hint + 1 - min c.2.2 (hint + 1)) (hint - c.2.1)
    | _ => pure none) := rfl

section
variable {prog : Program} {w : World} {A : Around} {E : Value → Shared → Prop} {s : Shared} {κ : KeyKind}

theorem wpS_gBin {st : SortSt} {n lo hi : Nat} {B : Nat → Bool} {bey : Nat → StateT SortSt Sem (Option Bool)} {Q : Option Nat → SortSt → Prop}
    (hb : ∀ i, i < n → ∀ {R : Option Bool → SortSt → Prop}, R (some (B i)) st → wpS (model prog w) A E s (bey i) R st)
    (hm : ∀ i j, i ≤ j → j < n → B j = true → B i = true) (h1 : lo ≤ hi) (h2 : hi ≤ n) (hlo : ∀ i, i < lo → B i = true) (hhi : ∀ i, hi ≤ i → i < n → B i = false)
    (h : ∀ k, k ≤ n → (∀ i, i < k → B i = true) → (∀ i, k ≤ i → i < n → B i = false) → Q (some k) st) :
    wpS (model prog w) A E s (gBin bey n lo hi) Q st := by
  unfold gBin
  refine wpS_bind (wpS_mono (wpS_forRange (I := fun x c st' => st' = st ∧ ∃ l r, c = (none, l, r) ∧ l ≤ r ∧ r ≤ n ∧ r + x ≤ l + n ∧ (∀ i, i < l → B i = true) ∧ (∀ i, r ≤ i → i < n → B i = false))
    (Q := fun c st' => st' = st ∧ ∃ l r, c = (none, l, r) ∧ r ≤ n ∧ (∀ i, i < r → B i = true) ∧ (∀ i, r ≤ i → i < n → B i = false)) ?step ?fin ⟨rfl, lo, hi, rfl, h1, h2, by omega, hlo, hhi⟩) ?post)
  case post =>
    rintro c st' ⟨rfl, l, r, rfl, h3, h4, h5⟩
    exact wpS_pure (h r h3 h4 h5)
  case fin =>
    rintro c st' ⟨rfl, l, r, rfl, h3, h4, h5, h6, h7⟩
    have : l = r := by omega
    subst this
    exact ⟨rfl, l, l, rfl, h4, h6, h7⟩
  case step =>
    rintro x c st' _ hx ⟨rfl, l, r, rfl, h3, h4, h5, h6, h7⟩
    dsimp only
    by_cases hge : l ≥ r
    · rw [if_pos hge]
      have : l = r := by omega
      subst this
      exact wpS_pure ⟨rfl, l, l, rfl, h4, h6, h7⟩
    · rw [if_neg hge]
      have m1 : l ≤ l + (r - l) / 2 := Nat.le_add_right _ _
      have m2 : l + (r - l) / 2 < r := by omega
      generalize l + (r - l) / 2 = m at m1 m2
      have m3 : m < n := Nat.lt_of_lt_of_le m2 h4
      refine wpS_bind (hb _ m3 ?_)
      cases hB : B m with
      | true =>
        simp only [if_true]
        exact wpS_pure ⟨rfl, _, _, rfl, m2, h4, by omega, fun i hi => hm i _ (Nat.le_of_lt_succ hi) m3 hB, h7⟩
      | false =>
        simp only [Bool.false_eq_true, if_false]
        refine wpS_pure ⟨rfl, _, _, rfl, m1, Nat.le_of_lt m3, by omega, h6, fun i hi1 hi2 => ?_⟩
        cases hBi : B i with
        | false => rfl
        | true => rw [hm _ i hi1 hi2 hBi] at hB; cases hB

theorem wpS_gallop {st : SortSt} {left : Bool} {key : Keyed} {arr : Array Keyed} {base n hint : Nat} {B : Nat → Bool} {Q : Option Nat → SortSt → Prop}
    (hb : ∀ i, i < n → ∀ {R : Option Bool → SortSt → Prop}, R (some (B i)) st → wpS (model prog w) A E s (beyond' left key arr base i) R st)
    (hm : ∀ i j, i ≤ j → j < n → B j = true → B i = true) (hh : hint < n)
    (h : ∀ k, k ≤ n → (∀ i, i < k → B i = true) → (∀ i, k ≤ i → i < n → B i = false) → Q (some k) st) :
    wpS (model prog w) A E s (gallop' left key arr base n hint) Q st := by
  have hm' : ∀ i j, i ≤ j → j < n → B i = false → B j = false := fun i j h1 h2 h3 => by
    cases hj : B j with
    | false => rfl
    | true => rw [hm i j h1 h2 hj] at h3; cases h3
  rw [gallop'_eq]
  refine wpS_bind (hb hint hh ?_)
  cases hB : B hint with
  | true =>
    simp only [if_true]
    refine wpS_bind ?_
    unfold gUp
    have fin : ∀ l o, l < o → hint + l < n → B (hint + l) = true → (n - hint ≤ o ∨ B (hint + o) = false) → wpS (model prog w) A E s (gBin (beyond' left key arr base) n (hint + l + 1) (hint + min o (n - hint))) Q st := fun l o h1 h3 h4 h5 =>
      wpS_gBin hb hm (by omega) (by omega) (fun i hi => hm i _ (Nat.le_of_lt_succ hi) h3 h4) (fun i h6 h7 => by
        rcases h5 with h5 | h5
        · rw [Nat.min_eq_right h5, Nat.add_sub_cancel' (Nat.le_of_lt hh)] at h6; exact absurd h7 (Nat.not_lt.mpr h6)
        · by_cases h8 : o ≤ n - hint
          · rw [Nat.min_eq_left h8] at h6; exact hm' (hint + o) i h6 h7 h5
          · rw [Nat.min_eq_right (Nat.le_of_not_le h8), Nat.add_sub_cancel' (Nat.le_of_lt hh)] at h6; exact absurd h7 (Nat.not_lt.mpr h6)) h
    refine wpS_forRange (I := fun x c st' => st' = st ∧ ∃ l o, c = (none, l, o) ∧ l < o ∧ x + 1 ≤ o ∧ hint + l < n ∧ B (hint + l) = true) ?step ?fin ⟨rfl, 0, 1, rfl, Nat.one_pos, Nat.le_refl _, hh, hB⟩
    case fin =>
      rintro c st' ⟨rfl, l, o, rfl, h1, h2, h3, h4⟩
      exact fin l o h1 h3 h4 (.inl (by omega))
    case step =>
      rintro x c st' _ hx ⟨rfl, l, o, rfl, h1, h2, h3, h4⟩
      dsimp only
      by_cases hge : o ≥ n - hint
      · rw [if_pos hge]
        exact wpS_pure (fin l o h1 h3 h4 (.inl hge))
      · rw [if_neg hge]
        have ho : hint + o < n := by omega
        refine wpS_bind (hb _ ho ?_)
        cases hBo : B (hint + o) with
        | true =>
          simp only [Bool.not_true, Bool.false_eq_true, if_false]
          exact wpS_pure ⟨rfl, _, _, rfl, by omega, by omega, ho, hBo⟩
        | false =>
          simp only [Bool.not_false, if_true]
          exact wpS_pure (fin l o h1 h3 h4 (.inr hBo))
  | false =>
    simp only [Bool.false_eq_true, if_false]
    refine wpS_bind ?_
    unfold gDown
    have fin : ∀ l o, l < o → l ≤ hint → B (hint - l) = false → (hint + 1 ≤ o ∨ B (hint - o) = true) → wpS (model prog w) A E s (gBin (beyond' left key arr base) n (hint + 1 - min o (hint + 1)) (hint - l)) Q st := fun l o h1 h3 h4 h5 =>
      wpS_gBin hb hm (by omega) (by omega) (fun i hi => by
        rcases h5 with h5 | h5
        · rw [Nat.min_eq_right h5, Nat.sub_self] at hi; exact absurd hi (Nat.not_lt_zero _)
        · exact hm i _ (by omega) (by omega) h5) (fun i h6 h7 => hm' _ i h6 h7 h4) h
    refine wpS_forRange (I := fun x c st' => st' = st ∧ ∃ l o, c = (none, l, o) ∧ l < o ∧ x + 1 ≤ o ∧ l ≤ hint ∧ B (hint - l) = false) ?step ?fin ⟨rfl, 0, 1, rfl, Nat.one_pos, Nat.le_refl _, Nat.zero_le _, hB⟩
    case fin =>
      rintro c st' ⟨rfl, l, o, rfl, h1, h2, h3, h4⟩
      exact fin l o h1 h3 h4 (.inl (by omega))
    case step =>
      rintro x c st' _ hx ⟨rfl, l, o, rfl, h1, h2, h3, h4⟩
      dsimp only
      by_cases hge : o ≥ hint + 1
      · rw [if_pos hge]
        exact wpS_pure (fin l o h1 h3 h4 (.inl hge))
      · rw [if_neg hge]
        refine wpS_bind (hb _ (by omega) ?_)
        cases hBo : B (hint - o) with
        | true =>
          simp only [if_true]
          exact wpS_pure (fin l o h1 h3 h4 (.inr hBo))
        | false =>
          simp only [Bool.false_eq_true, if_false]
          exact wpS_pure ⟨rfl, _, _, rfl, by omega, by omega, by omega, hBo⟩

/-- all entries have keys -/
def AllK (κ : KeyKind) (xs : Array Keyed) : Prop := ∀ p, p ∈ xs.toList → κ.keyOf p.1 = some (ky κ p)
theorem AllK.of {xs : Array Keyed} (h : KeysOf κ xs) : AllK κ xs := fun p hp => by
  obtain ⟨a, ha⟩ := h p hp
  unfold ky; rw [ha]; rfl
theorem AllK.at {xs : Array Keyed} (h : AllK κ xs) {i : Nat} (hi : i < xs.size) : ∃ p, xs[i]? = some p ∧ κ.keyOf p.1 = some (ky κ p) ∧ KK κ xs i = ky κ p := by
  have e : xs[i]? = some xs[i] := getElem?_pos _ i hi
  exact ⟨xs[i], e, h _ (by simp), KK_at e⟩

theorem wpS_gallopR {st : SortSt} {key : Keyed} {arr : Array Keyed} {base n hint : Nat} {Q : Option Nat → SortSt → Prop} (hO : κ.OneLt) (hk : kindOf st = oneType') (ha : AllK κ arr) (hsz : base + n ≤ arr.size) (hkey : κ.keyOf key.1 = some (ky κ key)) (hs : Seg κ arr base (base + n)) (hh : hint < n)
    (h : ∀ k, k ≤ n → (∀ i, i < k → κ.kle (KK κ arr (base + i)) (ky κ key)) → (∀ i, k ≤ i → i < n → κ.klt (ky κ key) (KK κ arr (base + i))) → Q (some k) st) :
    wpS (model prog w) A E s (gallop' false key arr base n hint) Q st := by
  refine wpS_gallop (B := fun i => !(κ.blt (ky κ key) (KK κ arr (base + i)))) (fun i hi R hR => ?_) (fun i j h1 h2 h3 => ?_) hh fun k h1 h2 h3 => h k h1 (fun i hi => ?_) fun i h4 h5 => ?_
  · obtain ⟨p, e, hp, hK⟩ := ha.at (i := base + i) (by omega)
    unfold beyond'
    refine wpS_bind (wpS_elem e ?_)
    simp only [Bool.false_eq_true, if_false]
    refine wpS_bind (wpS_lt2 hO hk hkey hp (wpS_pure ?_))
    rw [hK] at hR
    exact hR
  · have h3' : κ.kle (KK κ arr (base + j)) (ky κ key) := by simpa [KeyOrd.kle] using h3
    have : κ.kle (KK κ arr (base + i)) (ky κ key) := KeyOrd.kle_trans (hs _ _ (by omega) (by omega) (by omega)) h3'
    simpa [KeyOrd.kle] using this
  · simpa [KeyOrd.kle] using h2 i hi
  · simpa [KeyOrd.klt] using h3 i h4 h5

theorem wpS_gallopL {st : SortSt} {key : Keyed} {arr : Array Keyed} {base n hint : Nat} {Q : Option Nat → SortSt → Prop} (hO : κ.OneLt) (hk : kindOf st = oneType') (ha : AllK κ arr) (hsz : base + n ≤ arr.size) (hkey : κ.keyOf key.1 = some (ky κ key)) (hs : Seg κ arr base (base + n)) (hh : hint < n)
    (h : ∀ k, k ≤ n → (∀ i, i < k → κ.klt (KK κ arr (base + i)) (ky κ key)) → (∀ i, k ≤ i → i < n → κ.kle (ky κ key) (KK κ arr (base + i))) → Q (some k) st) :
    wpS (model prog w) A E s (gallop' true key arr base n hint) Q st := by
  refine wpS_gallop (B := fun i => κ.blt (KK κ arr (base + i)) (ky κ key)) (fun i hi R hR => ?_) (fun i j h1 h2 h3 => ?_) hh fun k h1 h2 h3 => h k h1 h2 h3
  · obtain ⟨p, e, hp, hK⟩ := ha.at (i := base + i) (by omega)
    unfold beyond'
    refine wpS_bind (wpS_elem e ?_)
    simp only [if_true]
    refine wpS_lt2 hO hk hp hkey ?_
    rw [hK] at hR
    exact hR
  · exact KeyOrd.klt_of_kle_of_klt (hs _ _ (by omega) (by omega) (by omega)) h3
end

/-! Part 3: merges, in lists -/
structure Gs (st st' : SortSt) : Prop where
  kind : kindOf st' = kindOf st
  arr : arrOf st' = arrOf st
  pend : pendingOf st' = pendingOf st
  failed : failedOf st' = failedOf st
theorem Gs.refl (st : SortSt) : Gs st st := ⟨rfl, rfl, rfl, rfl⟩
theorem Gs.set {st st' : SortSt} (h : Gs st st') (g : Nat) : Gs st (SortSt.mk' (kindOf st') (arrOf st') (pendingOf st') g (failedOf st')) := ⟨h.kind, h.arr, h.pend, h.failed⟩

section
variable {κ : KeyKind} {T O K RA RB : List Keyed} {a b : Array Keyed}
theorem ple_trans {x y z : Keyed} (h1 : ple κ x y) (h2 : ple κ y z) : ple κ x z := KeyOrd.kle_trans h1 h2

structure MInv (κ : KeyKind) (T O RA RB : List Keyed) : Prop where
  perm : (O ++ RA ++ RB).Perm T
  pa : (O ++ RA).Pairwise (ple κ)
  pb : (O ++ RB).Pairwise (ple κ)
theorem MInv.moveA (h : MInv κ T O (K ++ RA) RB) (hk : ∀ x ∈ K, ∀ y ∈ RB, ple κ x y) : MInv κ T (O ++ K) RA RB := by
  have h1 := List.pairwise_append.mp h.pa
  have h2 := List.pairwise_append.mp h.pb
  refine ⟨by simpa [List.append_assoc] using h.perm, by rw [List.append_assoc]; exact h.pa, List.pairwise_append.mpr ⟨?_, h2.2.1, fun x hx y hy => ?_⟩⟩
  · exact h.pa.sublist (List.Sublist.append_left (List.sublist_append_left K RA) O)
  · rcases List.mem_append.mp hx with hx | hx
    · exact h2.2.2 x hx y hy
    · exact hk x hx y hy
theorem MInv.moveB (h : MInv κ T O RA (K ++ RB)) (hk : ∀ x ∈ K, ∀ y ∈ RA, ple κ x y) : MInv κ T (O ++ K) RA RB := by
  have h1 := List.pairwise_append.mp h.pa
  have h2 := List.pairwise_append.mp h.pb
  refine ⟨List.Perm.trans ?_ h.perm, List.pairwise_append.mpr ⟨?_, h1.2.1, fun x hx y hy => ?_⟩, by rw [List.append_assoc]; exact h.pb⟩
  · rw [List.append_assoc, List.append_assoc, List.append_assoc]
    exact List.Perm.append_left O (List.perm_append_comm_assoc K RA RB)
  · exact h.pb.sublist (List.Sublist.append_left (List.sublist_append_left K RB) O)
  · rcases List.mem_append.mp hx with hx | hx
    · exact h1.2.2 x hx y hy
    · exact hk x hx y hy

structure RInv (κ : KeyKind) (T O RA RB : List Keyed) : Prop where
  perm : (RA ++ RB ++ O).Perm T
  pa : (RA ++ O).Pairwise (ple κ)
  pb : (RB ++ O).Pairwise (ple κ)
theorem RInv.moveA (h : RInv κ T O (RA ++ K) RB) (hk : ∀ x ∈ RB, ∀ y ∈ K, ple κ x y) : RInv κ T (K ++ O) RA RB := by
  have h1 := List.pairwise_append.mp h.pa
  have h2 := List.pairwise_append.mp h.pb
  refine ⟨List.Perm.trans ?_ h.perm, by rw [← List.append_assoc]; exact h.pa, List.pairwise_append.mpr ⟨h2.1, ?_, fun x hx y hy => ?_⟩⟩
  · rw [List.append_assoc, List.append_assoc, List.append_assoc]
    exact List.Perm.append_left RA (List.perm_append_comm_assoc RB K O)
  · refine h.pa.sublist ?_
    rw [List.append_assoc]
    exact List.sublist_append_right RA (K ++ O)
  · rcases List.mem_append.mp hy with hy | hy
    · exact hk x hx y hy
    · exact h2.2.2 x hx y hy
theorem RInv.moveB (h : RInv κ T O RA (RB ++ K)) (hk : ∀ x ∈ RA, ∀ y ∈ K, ple κ x y) : RInv κ T (K ++ O) RA RB := by
  have h1 := List.pairwise_append.mp h.pa
  have h2 := List.pairwise_append.mp h.pb
  refine ⟨by simpa [List.append_assoc] using h.perm, List.pairwise_append.mpr ⟨h1.1, ?_, fun x hx y hy => ?_⟩, by rw [← List.append_assoc]; exact h.pb⟩
  · refine h.pb.sublist ?_
    rw [List.append_assoc]
    exact List.sublist_append_right RB (K ++ O)
  · rcases List.mem_append.mp hy with hy | hy
    · exact hk x hx y hy
    · exact h1.2.2 x hx y hy

/-- a merge -/
def Mer (κ : KeyKind) (a b r : Array Keyed) : Prop := r.toList.Perm (a.toList ++ b.toList) ∧ r.toList.Pairwise (ple κ)

theorem ext_all (a : Array Keyed) (i : Nat) : (a.extract i a.size).toList = a.toList.drop i := by
  rw [Array.toList_extract, List.extract_eq_take_drop]
  exact List.take_of_length_le (by simp)
theorem ext_k (a : Array Keyed) (i k : Nat) : (a.extract i (i + k)).toList = (a.toList.drop i).take k := by
  rw [Array.toList_extract, List.extract_eq_take_drop]; congr 1; omega
theorem ext_0 (a : Array Keyed) (k : Nat) : (a.extract 0 k).toList = a.toList.take k := by
  have := ext_k a 0 k; simpa using this
theorem mem_drop_at {L : List Keyed} {i : Nat} {x : Keyed} (h : x ∈ L.drop i) : ∃ j, i ≤ j ∧ L[j]? = some x := by
  obtain ⟨j, hj⟩ := List.mem_iff_getElem?.mp h
  rw [List.getElem?_drop] at hj
  exact ⟨i + j, by omega, hj⟩
theorem mem_take_at {L : List Keyed} {k : Nat} {x : Keyed} (h : x ∈ L.take k) : ∃ j, j < k ∧ L[j]? = some x := by
  obtain ⟨j, hj⟩ := List.mem_iff_getElem?.mp h
  rw [List.getElem?_take] at hj
  split at hj
  · exact ⟨j, by assumption, hj⟩
  · cases hj
theorem mem_cut_at {L : List Keyed} {i k : Nat} {x : Keyed} (h : x ∈ (L.drop i).take k) : ∃ j, i ≤ j ∧ j < i + k ∧ L[j]? = some x := by
  obtain ⟨j, hj, e⟩ := mem_take_at h
  rw [List.getElem?_drop] at e
  exact ⟨i + j, by omega, by omega, e⟩
theorem arr_at {a : Array Keyed} {j : Nat} {x : Keyed} (h : a.toList[j]? = some x) : KK κ a j = ky κ x := KK_at (by rw [← Array.getElem?_toList]; exact h)
theorem at_lt {a : Array Keyed} {j : Nat} {x : Keyed} (h : a.toList[j]? = some x) : j < a.size := by
  have := (List.getElem?_eq_some_iff.mp h).1; simpa using this
theorem drop_cons' {a : Array Keyed} {i : Nat} {p : Keyed} (h : a[i]? = some p) : a.toList.drop i = [p] ++ a.toList.drop (i + 1) := by
  rw [← Array.getElem?_toList] at h
  obtain ⟨hi, e⟩ := List.getElem?_eq_some_iff.mp h
  rw [List.drop_eq_getElem_cons hi, e]; rfl
theorem take_snoc' {a : Array Keyed} {i : Nat} {p : Keyed} (h : a[i]? = some p) : a.toList.take (i + 1) = a.toList.take i ++ [p] := by
  rw [← Array.getElem?_toList] at h
  rw [List.take_add_one, h]; rfl
theorem drop_split (L : List Keyed) (i k : Nat) : L.drop i = (L.drop i).take k ++ L.drop (i + k) := by
  rw [← List.drop_drop]; exact (List.take_append_drop k _).symm
theorem take_split (L : List Keyed) {i k : Nat} (h : i ≤ k) : L.take k = L.take i ++ (L.drop i).take (k - i) := by
  have : k = i + (k - i) := by omega
  rw [this, List.take_add]; congr 2; omega

theorem Seg.pairwise {xs : Array Keyed} (h : Seg κ xs 0 xs.size) : xs.toList.Pairwise (ple κ) := by
  rw [List.pairwise_iff_getElem]
  intro i j hi hj hij
  have hi' : xs.toList[i]? = some xs.toList[i] := List.getElem?_eq_getElem hi
  have hj' : xs.toList[j]? = some xs.toList[j] := List.getElem?_eq_getElem hj
  have := h i j (by omega) (by omega) (at_lt hj')
  rw [arr_at hi', arr_at hj'] at this
  exact this
theorem Seg.of_pairwise {xs : Array Keyed} (h : xs.toList.Pairwise (ple κ)) : Seg κ xs 0 xs.size := fun p q _ h2 h3 => by
  by_cases e : p = q
  · subst e; exact KeyOrd.kle_refl _
  · have hp : p < xs.toList.length := by simp; omega
    have hq : q < xs.toList.length := by simp; omega
    have := List.pairwise_iff_getElem.mp h p q hp hq (by omega)
    rw [arr_at (List.getElem?_eq_getElem hp), arr_at (List.getElem?_eq_getElem hq)]
    exact this
end
end Mine

set_option autoImplicit false
set_option linter.unusedVariables false
namespace Mine
open PySem PyProof.Rows

/-! Part 4: mergeLo -/
def mergeLo' : Array Keyed → Array Keyed → StateT SortSt Sem (Array Keyed) := sortPriv% PySem.Builtin.mergeLo
def mergeHi' : Array Keyed → Array Keyed → StateT SortSt Sem (Array Keyed) := sortPriv% PySem.Builtin.mergeHi
abbrev LoS := Option (Array Keyed) × Array Keyed × Nat × Nat × Nat
abbrev LoS1 := Option (Array Keyed) × Array Keyed × Nat × Nat × Nat × Nat
abbrev LoS2 := Option (Array Keyed) × Array Keyed × Nat × Nat × Nat × Nat × Nat
def loDone (a b out : Array Keyed) (ia ib : Nat) : Array Keyed := out ++ a.extract ia a.size ++ b.extract ib b.size
def loLast (a b out : Array Keyed) (ia ib : Nat) : Array Keyed := out ++ b.extract ib b.size ++ a.extract ia a.size
def lo1 (a b : Array Keyed) (mg : Nat) (c : LoS1) : StateT SortSt Sem (ForInStep LoS1) := do
  let y ← elem' b c.2.2.2.1
  let x ← elem' a c.2.2.1
  let r ← lt' y x
  match r with
  | some bWins =>
    if bWins = true then do
      let y ← elem' b c.2.2.2.1
      if (c.2.2.2.1 + 1 == b.size) = true then pure (ForInStep.done (some (loDone a b (c.2.1.push y) c.2.2.1 (c.2.2.2.1 + 1)), c.2.1.push y, c.2.2.1, c.2.2.2.1 + 1, 0, c.2.2.2.2.2 + 1))
      else if c.2.2.2.2.2 + 1 ≥ mg then pure (ForInStep.done (none, c.2.1.push y, c.2.2.1, c.2.2.2.1 + 1, 0, c.2.2.2.2.2 + 1))
      else pure (ForInStep.yield (none, c.2.1.push y, c.2.2.1, c.2.2.2.1 + 1, 0, c.2.2.2.2.2 + 1))
    else do
      let x ← elem' a c.2.2.1
      if (c.2.2.1 + 1 + 1 == a.size) = true then pure (ForInStep.done (some (loLast a b (c.2.1.push x) (c.2.2.1 + 1) c.2.2.2.1), c.2.1.push x, c.2.2.1 + 1, c.2.2.2.1, c.2.2.2.2.1 + 1, 0))
      else if c.2.2.2.2.1 + 1 ≥ mg then pure (ForInStep.done (none, c.2.1.push x, c.2.2.1 + 1, c.2.2.2.1, c.2.2.2.2.1 + 1, 0))
      else pure (ForInStep.yield (none, c.2.1.push x, c.2.2.1 + 1, c.2.2.2.1, c.2.2.2.2.1 + 1, 0))
  | _ => pure (ForInStep.done (some (loDone a b c.2.1 c.2.2.1 c.2.2.2.1), c.2.1, c.2.2.1, c.2.2.2.1, c.2.2.2.2.1, c.2.2.2.2.2))
def lo2c (a b : Array Keyed) (mg ac bc : Nat) (ia : Nat) (out : Array Keyed) (ib : Nat) : StateT SortSt Sem (ForInStep LoS2) := do
  let x ← elem' a ia
  if (ia + 1 + 1 == a.size) = true then pure (ForInStep.done (some (loLast a b (out.push x) (ia + 1) ib), out.push x, ia + 1, ib, mg, ac, bc))
  else if (decide (ac < 7) && decide (bc < 7)) = true then pure (ForInStep.done (none, out.push x, ia + 1, ib, mg, ac, bc))
  else pure (ForInStep.yield (none, out.push x, ia + 1, ib, mg, ac, bc))
def lo2b (a b : Array Keyed) (mg ac bc : Nat) (ib : Nat) (out : Array Keyed) (ia : Nat) : StateT SortSt Sem (ForInStep LoS2) := do
  let y ← elem' b ib
  if (ib + 1 == b.size) = true then pure (ForInStep.done (some (loDone a b (out.push y) ia (ib + 1)), out.push y, ia, ib + 1, mg, ac, bc))
  else do
    let x ← elem' a ia
    let r ← gallop' true x b (ib + 1) (b.size - (ib + 1)) 0
    match r with
    | some k =>
      if k > 0 then
        if (ib + 1 + k == b.size) = true then pure (ForInStep.done (some (loDone a b (out.push y ++ b.extract (ib + 1) (ib + 1 + k)) ia (ib + 1 + k)), out.push y ++ b.extract (ib + 1) (ib + 1 + k), ia, ib + 1 + k, mg, ac, k))
        else lo2c a b mg ac k ia (out.push y ++ b.extract (ib + 1) (ib + 1 + k)) (ib + 1 + k)
      else lo2c a b mg ac k ia (out.push y) (ib + 1)
    | _ => pure (ForInStep.done (some (loDone a b (out.push y) ia (ib + 1)), out.push y, ia, ib + 1, mg, ac, bc))
def lo2a (a b out : Array Keyed) (ia ib ac bc mg : Nat) : StateT SortSt Sem (ForInStep LoS2) := do
  setMinGallop' mg
  let y ← elem' b ib
  let r ← gallop' false y a ia (a.size - ia) 0
  match r with
  | some k =>
    if k > 0 then
      if (ia + k + 1 == a.size) = true then pure (ForInStep.done (some (loLast a b (out ++ a.extract ia (ia + k)) (ia + k) ib), out ++ a.extract ia (ia + k), ia + k, ib, mg, k, bc))
      else if (ia + k == a.size) = true then pure (ForInStep.done (some (loDone a b (out ++ a.extract ia (ia + k)) (ia + k) ib), out ++ a.extract ia (ia + k), ia + k, ib, mg, k, bc))
      else lo2b a b mg k bc ib (out ++ a.extract ia (ia + k)) (ia + k)
    else lo2b a b mg k bc ib out ia
  | _ => pure (ForInStep.done (some (loDone a b out ia ib), out, ia, ib, mg, ac, bc))
def lo2 (a b : Array Keyed) (c : LoS2) : StateT SortSt Sem (ForInStep LoS2) :=
  if c.2.2.2.2.1 > 1 then lo2a a b c.2.1 c.2.2.1 c.2.2.2.1 c.2.2.2.2.2.1 c.2.2.2.2.2.2 (c.2.2.2.2.1 - 1)
  else lo2a a b c.2.1 c.2.2.1 c.2.2.2.1 c.2.2.2.2.2.1 c.2.2.2.2.2.2 c.2.2.2.2.1
def lo0 (a b : Array Keyed) (c : LoS) : StateT SortSt Sem (ForInStep LoS) := do
  let d ← forIn [0:a.size + b.size] ((none, c.2.1, c.2.2.1, c.2.2.2.1, 0, 0) : LoS1) fun _ d => lo1 a b c.2.2.2.2 d
  Break.runK.match_1 (fun _ => StateT SortSt Sem (ForInStep LoS)) d.1 (fun r => pure (ForInStep.done (some r, d.2.1, d.2.2.1, d.2.2.2.1, c.2.2.2.2))) fun _ => do
    liftM (rule "list.sort.gallop")
    let e ← forIn [0:a.size + b.size] ((none, d.2.1, d.2.2.1, d.2.2.2.1, c.2.2.2.2 + 1, d.2.2.2.2.1, d.2.2.2.2.2) : LoS2) fun _ e => lo2 a b e
    Break.runK.match_1 (fun _ => StateT SortSt Sem (ForInStep LoS)) e.1 (fun r => pure (ForInStep.done (some r, e.2.1, e.2.2.1, e.2.2.2.1, e.2.2.2.2.1))) fun _ => do
      setMinGallop' (e.2.2.2.2.1 + 1)
      pure (ForInStep.yield (none, e.2.1, e.2.2.1, e.2.2.2.1, e.2.2.2.2.1 + 1))
theorem mergeLo'_eq (a b : Array Keyed) : mergeLo' a b = (do
    liftM (rule "list.sort.merge-lo")
    let y ← elem' b 0
    if (1 == b.size) = true then pure (loDone a b #[y] 0 1)
    else if (0 + 1 == a.size) = true then pure (loLast a b #[y] 0 1)
    else do
      let st ← get
      let c ← forIn [0:a.size + b.size] ((none, #[y], 0, 1, gallopOf st) : LoS) fun _ c => lo0 a b c
      Break.runK.match_1 (fun _ => StateT SortSt Sem (Array Keyed)) c.1 (fun r => pure r) fun _ => liftM (unsupported "internal:list.sort.merge-bound" : Sem (Array Keyed))) := rfl

section
variable {prog : Program} {w : World} {A : Around} {E : Value → Shared → Prop} {s : Shared} {κ : KeyKind} {a b out : Array Keyed} {ia ib : Nat}

/-- what mergeLo keeps -/
structure LoI (κ : KeyKind) (a b out : Array Keyed) (ia ib : Nat) : Prop where
  inv : MInv κ (a.toList ++ b.toList) out.toList (a.toList.drop ia) (b.toList.drop ib)
  ha : ia + 1 < a.size
  hb : ib < b.size
/-- the ground of a merge -/
structure MG (κ : KeyKind) (a b : Array Keyed) : Prop where
  ka : AllK κ a
  kb : AllK κ b
  sa : Seg κ a 0 a.size
  sb : Seg κ b 0 b.size
  na : 0 < a.size
  nb : 0 < b.size
  first : κ.klt (KK κ b 0) (KK κ a 0)
  last : ∀ i, i < b.size → κ.klt (KK κ b i) (KK κ a (a.size - 1))

theorem done_A {O : List Keyed} (h : MInv κ (a.toList ++ b.toList) out.toList (a.toList.drop ia) (b.toList.drop ib)) (hb : ib = b.size) : Mer κ a b (loDone a b out ia ib) := by
  have e : b.toList.drop ib = [] := List.drop_of_length_le (by simp [hb])
  have e2 : (loDone a b out ia ib).toList = out.toList ++ a.toList.drop ia ++ b.toList.drop ib := by unfold loDone; simp only [Array.toList_append, ext_all]
  refine ⟨by rw [e2]; exact h.perm, ?_⟩
  rw [e2, e, List.append_nil]; exact h.pa
theorem done_B (h : MInv κ (a.toList ++ b.toList) out.toList (a.toList.drop ia) (b.toList.drop ib)) (ha : ia = a.size) : Mer κ a b (loDone a b out ia ib) := by
  have e : a.toList.drop ia = [] := List.drop_of_length_le (by simp [ha])
  have e2 : (loDone a b out ia ib).toList = out.toList ++ a.toList.drop ia ++ b.toList.drop ib := by unfold loDone; simp only [Array.toList_append, ext_all]
  refine ⟨by rw [e2]; exact h.perm, ?_⟩
  rw [e2, e, List.append_nil]; exact h.pb
theorem last_A (g : MG κ a b) (h : MInv κ (a.toList ++ b.toList) out.toList (a.toList.drop ia) (b.toList.drop ib)) (ha : ia + 1 = a.size) : Mer κ a b (loLast a b out ia ib) := by
  have e2 : (loLast a b out ia ib).toList = out.toList ++ b.toList.drop ib ++ a.toList.drop ia := by unfold loLast; simp only [Array.toList_append, ext_all]
  have hp := List.pairwise_append.mp h.pa
  rw [Mer, e2]
  refine ⟨List.Perm.trans ?_ h.perm, List.pairwise_append.mpr ⟨h.pb, hp.2.1, fun x hx y hy => ?_⟩⟩
  · rw [List.append_assoc, List.append_assoc]
    exact List.Perm.append_left _ List.perm_append_comm
  · rcases List.mem_append.mp hx with hx | hx
    · exact hp.2.2 x hx y hy
    · obtain ⟨j, _, hj⟩ := mem_drop_at hx
      obtain ⟨i, hi, hi'⟩ := mem_drop_at hy
      have h1 := at_lt hi'
      have : i = a.size - 1 := by lia
      subst this
      have := g.last j (at_lt hj)
      rw [arr_at hj, arr_at hi'] at this
      exact KeyOrd.kle_of_klt this
theorem le_rest {i j : Nat} {x y : Keyed} {xs : Array Keyed} (h : Seg κ xs 0 xs.size) (hi : xs[i]? = some x) (hj : xs.toList[j]? = some y) (hij : i ≤ j) : ple κ x y := by
  have := h i j (by lia) hij (at_lt hj)
  rw [KK_at hi, arr_at hj] at this
  exact this

theorem LoI.pushB (g : MG κ a b) (h : MInv κ (a.toList ++ b.toList) out.toList (a.toList.drop ia) (b.toList.drop ib)) {y : Keyed} (hy : b[ib]? = some y) (hle : ∀ x ∈ a.toList.drop ia, ple κ y x) : MInv κ (a.toList ++ b.toList) (out.push y).toList (a.toList.drop ia) (b.toList.drop (ib + 1)) := by
  rw [Array.toList_push]
  rw [drop_cons' hy] at h
  exact h.moveB (by simpa using hle)
theorem LoI.pushA (g : MG κ a b) (h : MInv κ (a.toList ++ b.toList) out.toList (a.toList.drop ia) (b.toList.drop ib)) {x : Keyed} (hx : a[ia]? = some x) (hle : ∀ y ∈ b.toList.drop ib, ple κ x y) : MInv κ (a.toList ++ b.toList) (out.push x).toList (a.toList.drop (ia + 1)) (b.toList.drop ib) := by
  rw [Array.toList_push]
  rw [drop_cons' hx] at h
  exact h.moveA (by simpa using hle)

def Fin2 (κ : KeyKind) (a b : Array Keyed) (m : Nat) (r : Option (Array Keyed)) (out : Array Keyed) (ia ib : Nat) : Prop := (∃ x, r = some x ∧ Mer κ a b x) ∨ (r = none ∧ LoI κ a b out ia ib ∧ m ≤ ia + ib)

theorem wpS_lo1 {st : SortSt} {mg m : Nat} {d : LoS1} {Q : ForInStep LoS1 → SortSt → Prop} (hO : κ.OneLt) (g : MG κ a b) (hk : kindOf st = oneType') (h0 : d.1 = none) (hI : LoI κ a b d.2.1 d.2.2.1 d.2.2.2.1) (hm : m ≤ d.2.2.1 + d.2.2.2.1)
    (hd : ∀ c : LoS1, Fin2 κ a b (m + 1) c.1 c.2.1 c.2.2.1 c.2.2.2.1 → Q (.done c) st) (hy : ∀ c : LoS1, c.1 = none → LoI κ a b c.2.1 c.2.2.1 c.2.2.2.1 → m + 1 ≤ c.2.2.1 + c.2.2.2.1 → Q (.yield c) st) :
    wpS (model prog w) A E s (lo1 a b mg d) Q st := by
  obtain ⟨_, out, ia, ib, ac, bc⟩ := d
  dsimp only at h0 hI hm
  unfold lo1
  dsimp only
  have ⟨hinv, hia, hib⟩ := hI
  obtain ⟨y, ey, ky', hKy⟩ := g.kb.at hib
  obtain ⟨x, ex, kx', hKx⟩ := g.ka.at (i := ia) (by lia)
  refine wpS_bind (wpS_elem ey (wpS_bind (wpS_elem ex (wpS_bind (wpS_lt2 hO hk ky' kx' ?_)))))
  dsimp only
  cases hlt : κ.blt (ky κ y) (ky κ x) with
  | true =>
    simp only [if_true]
    refine wpS_bind (wpS_elem ey ?_)
    have hn := LoI.pushB g hinv ey fun z hz => by
      obtain ⟨j, hj, ej⟩ := mem_drop_at hz
      exact ple_trans (KeyOrd.kle_of_klt hlt) (le_rest g.sa ex ej hj)
    by_cases hE : ib + 1 = b.size
    · rw [if_pos (by simpa using hE)]
      exact wpS_pure (hd _ (.inl ⟨_, rfl, done_A (O := []) hn hE⟩))
    · rw [if_neg (by simpa using hE)]
      have hI' : LoI κ a b (out.push y) ia (ib + 1) := ⟨hn, hia, by lia⟩
      split
      · exact wpS_pure (hd _ (.inr ⟨rfl, hI', by dsimp only; lia⟩))
      · exact wpS_pure (hy _ rfl hI' (by dsimp only; lia))
  | false =>
    simp only [Bool.false_eq_true, if_false]
    refine wpS_bind (wpS_elem ex ?_)
    have hn := LoI.pushA g hinv ex fun z hz => by
      obtain ⟨j, hj, ej⟩ := mem_drop_at hz
      exact ple_trans (show ple κ x y from hlt) (le_rest g.sb ey ej hj)
    by_cases hE : ia + 1 + 1 = a.size
    · rw [if_pos (by simpa using hE)]
      exact wpS_pure (hd _ (.inl ⟨_, rfl, last_A g hn hE⟩))
    · rw [if_neg (by simpa using hE)]
      have hI' : LoI κ a b (out.push x) (ia + 1) ib := ⟨hn, by lia, hib⟩
      split
      · exact wpS_pure (hd _ (.inr ⟨rfl, hI', by dsimp only; lia⟩))
      · exact wpS_pure (hy _ rfl hI' (by dsimp only; lia))

theorem seg_in {xs : Array Keyed} {i j : Nat} (h : Seg κ xs 0 xs.size) (hj : j ≤ xs.size) : Seg κ xs i j := fun p q h1 h2 h3 => h p q (by lia) h2 (by lia)

theorem wpS_lo2c {st : SortSt} {mg ac bc m : Nat} {Q : ForInStep LoS2 → SortSt → Prop} (g : MG κ a b) (hinv : MInv κ (a.toList ++ b.toList) out.toList (a.toList.drop ia) (b.toList.drop ib)) (hia : ia + 1 < a.size) (hib : ib < b.size) (hm : m ≤ ia + ib)
    (hle : ∀ i, ib ≤ i → i < b.size → κ.kle (KK κ a ia) (KK κ b i))
    (hd : ∀ c : LoS2, Fin2 κ a b m c.1 c.2.1 c.2.2.1 c.2.2.2.1 → Q (.done c) st) (hy : ∀ c : LoS2, c.1 = none → LoI κ a b c.2.1 c.2.2.1 c.2.2.2.1 → m ≤ c.2.2.1 + c.2.2.2.1 → Q (.yield c) st) :
    wpS (model prog w) A E s (lo2c a b mg ac bc ia out ib) Q st := by
  unfold lo2c
  obtain ⟨x, ex, kx', hKx⟩ := g.ka.at (i := ia) (by lia)
  refine wpS_bind (wpS_elem ex ?_)
  have hn := LoI.pushA g hinv ex fun z hz => by
    obtain ⟨j, hj, ej⟩ := mem_drop_at hz
    have := hle j hj (at_lt ej)
    rw [hKx, arr_at ej] at this
    exact this
  by_cases hE : ia + 1 + 1 = a.size
  · rw [if_pos (by simpa using hE)]
    exact wpS_pure (hd _ (.inl ⟨_, rfl, last_A g hn hE⟩))
  · rw [if_neg (by simpa using hE)]
    have hI' : LoI κ a b (out.push x) (ia + 1) ib := ⟨hn, by lia, hib⟩
    split
    · exact wpS_pure (hd _ (.inr ⟨rfl, hI', by dsimp only; lia⟩))
    · exact wpS_pure (hy _ rfl hI' (by dsimp only; lia))

theorem wpS_lo2b {st : SortSt} {mg ac bc m : Nat} {Q : ForInStep LoS2 → SortSt → Prop} (hO : κ.OneLt) (hk : kindOf st = oneType') (g : MG κ a b) (hinv : MInv κ (a.toList ++ b.toList) out.toList (a.toList.drop ia) (b.toList.drop ib)) (hia : ia + 1 < a.size) (hib : ib < b.size) (hm : m ≤ ia + ib)
    (hle : ∀ i, ia ≤ i → i < a.size → κ.kle (KK κ b ib) (KK κ a i))
    (hd : ∀ c : LoS2, Fin2 κ a b m c.1 c.2.1 c.2.2.1 c.2.2.2.1 → Q (.done c) st) (hy : ∀ c : LoS2, c.1 = none → LoI κ a b c.2.1 c.2.2.1 c.2.2.2.1 → m ≤ c.2.2.1 + c.2.2.2.1 → Q (.yield c) st) :
    wpS (model prog w) A E s (lo2b a b mg ac bc ib out ia) Q st := by
  unfold lo2b
  obtain ⟨y, ey, ky', hKy⟩ := g.kb.at hib
  obtain ⟨x, ex, kx', hKx⟩ := g.ka.at (i := ia) (by lia)
  refine wpS_bind (wpS_elem ey ?_)
  have hn := LoI.pushB g hinv ey fun z hz => by
    obtain ⟨j, hj, ej⟩ := mem_drop_at hz
    have := hle j hj (at_lt ej)
    rw [hKy, arr_at ej] at this
    exact this
  by_cases hE : ib + 1 = b.size
  · rw [if_pos (by simpa using hE)]
    exact wpS_pure (hd _ (.inl ⟨_, rfl, done_A (O := []) hn hE⟩))
  · rw [if_neg (by simpa using hE)]
    refine wpS_bind (wpS_elem ex (wpS_bind (wpS_gallopL hO hk g.kb (by lia) kx' (seg_in g.sb (by lia)) (by lia) fun k h1 h2 h3 => ?_)))
    dsimp only
    have hmv : MInv κ (a.toList ++ b.toList) (out.push y ++ b.extract (ib + 1) (ib + 1 + k)).toList (a.toList.drop ia) (b.toList.drop (ib + 1 + k)) := by
      rw [Array.toList_append, ext_k]
      rw [drop_split b.toList (ib + 1) k] at hn
      refine hn.moveB fun u hu v hv => ?_
      obtain ⟨j, j1, j2, ej⟩ := mem_cut_at hu
      obtain ⟨i, hi, ei⟩ := mem_drop_at hv
      have := h2 (j - (ib + 1)) (by lia)
      rw [show ib + 1 + (j - (ib + 1)) = j by lia, arr_at ej] at this
      exact ple_trans (KeyOrd.kle_of_klt this) (le_rest g.sa ex ei hi)
    have hle2 : ∀ i, ib + 1 + k ≤ i → i < b.size → κ.kle (KK κ a ia) (KK κ b i) := fun i h4 h5 => by
      have := h3 (i - (ib + 1)) (by lia) (by lia)
      rw [show ib + 1 + (i - (ib + 1)) = i by lia] at this
      rw [hKx]; exact this
    by_cases hk0 : k > 0
    · rw [if_pos hk0]
      by_cases hE2 : ib + 1 + k = b.size
      · rw [if_pos (by simpa using hE2)]
        exact wpS_pure (hd _ (.inl ⟨_, rfl, done_A (O := []) hmv hE2⟩))
      · rw [if_neg (by simpa using hE2)]
        exact wpS_lo2c g hmv hia (by lia) (by lia) hle2 hd hy
    · rw [if_neg hk0]
      have : k = 0 := by lia
      subst this
      exact wpS_lo2c g hn hia (by lia) (by lia) hle2 hd hy

theorem wpS_lo2a {st : SortSt} {mg ac bc m : Nat} {Q : ForInStep LoS2 → SortSt → Prop} (hO : κ.OneLt) (hk : kindOf st = oneType') (g : MG κ a b) (hI : LoI κ a b out ia ib) (hm : m ≤ ia + ib)
    (hd : ∀ (c : LoS2) st', Gs st st' → Fin2 κ a b m c.1 c.2.1 c.2.2.1 c.2.2.2.1 → Q (.done c) st') (hy : ∀ (c : LoS2) st', Gs st st' → c.1 = none → LoI κ a b c.2.1 c.2.2.1 c.2.2.2.1 → m ≤ c.2.2.1 + c.2.2.2.1 → Q (.yield c) st') :
    wpS (model prog w) A E s (lo2a a b out ia ib ac bc mg) Q st := by
  unfold lo2a
  rw [setMinGallop'_eq]
  refine wpS_bind (wpS_modify ?_)
  have hG := (Gs.refl st).set mg
  have ⟨hinv, hia, hib⟩ := hI
  obtain ⟨y, ey, ky', hKy⟩ := g.kb.at hib
  refine wpS_bind (wpS_elem ey (wpS_bind (wpS_gallopR hO hk g.ka (by lia) ky' (seg_in g.sa (by lia)) (by lia) fun k h1 h2 h3 => ?_)))
  dsimp only
  have hmv : MInv κ (a.toList ++ b.toList) (out ++ a.extract ia (ia + k)).toList (a.toList.drop (ia + k)) (b.toList.drop ib) := by
    rw [Array.toList_append, ext_k]
    rw [drop_split a.toList ia k] at hinv
    refine hinv.moveA fun u hu v hv => ?_
    obtain ⟨j, j1, j2, ej⟩ := mem_cut_at hu
    obtain ⟨i, hi, ei⟩ := mem_drop_at hv
    have := h2 (j - ia) (by lia)
    rw [show ia + (j - ia) = j by lia, arr_at ej] at this
    exact ple_trans this (le_rest g.sb ey ei hi)
  have hle2 : ∀ i, ia + k ≤ i → i < a.size → κ.kle (KK κ b ib) (KK κ a i) := fun i h4 h5 => by
    have := h3 (i - ia) (by lia) (by lia)
    rw [show ia + (i - ia) = i by lia] at this
    rw [hKy]; exact KeyOrd.kle_of_klt this
  by_cases hk0 : k > 0
  · rw [if_pos hk0]
    by_cases hE : ia + k + 1 = a.size
    · rw [if_pos (by simpa using hE)]
      exact wpS_pure (hd _ _ hG (.inl ⟨_, rfl, last_A g hmv hE⟩))
    · rw [if_neg (by simpa using hE)]
      by_cases hE2 : ia + k = a.size
      · rw [if_pos (by simpa using hE2)]
        exact wpS_pure (hd _ _ hG (.inl ⟨_, rfl, done_B hmv hE2⟩))
      · rw [if_neg (by simpa using hE2)]
        exact wpS_lo2b hO hk g hmv (by lia) hib (by lia) hle2 (fun c => hd c _ hG) fun c => hy c _ hG
  · rw [if_neg hk0]
    have : k = 0 := by lia
    subst this
    exact wpS_lo2b hO hk g hinv hia hib hm hle2 (fun c => hd c _ hG) fun c => hy c _ hG

theorem Gs.trans {st st' st'' : SortSt} (h : Gs st st') (h' : Gs st' st'') : Gs st st'' := ⟨h'.kind.trans h.kind, h'.arr.trans h.arr, h'.pend.trans h.pend, h'.failed.trans h.failed⟩

theorem wpS_lo0 {st : SortSt} {m : Nat} {c : LoS} {Q : ForInStep LoS → SortSt → Prop} (hO : κ.OneLt) (hk : kindOf st = oneType') (g : MG κ a b) (hI : LoI κ a b c.2.1 c.2.2.1 c.2.2.2.1) (hm : m + 1 ≤ c.2.2.1 + c.2.2.2.1)
    (hd : ∀ (d : LoS) st' x, Gs st st' → d.1 = some x → Mer κ a b x → Q (.done d) st') (hy : ∀ (d : LoS) st', Gs st st' → d.1 = none → LoI κ a b d.2.1 d.2.2.1 d.2.2.2.1 → m + 1 + 1 ≤ d.2.2.1 + d.2.2.2.1 → Q (.yield d) st') :
    wpS (model prog w) A E s (lo0 a b c) Q st := by
  obtain ⟨c0, out, ia, ib, mg⟩ := c
  dsimp only at hI hm
  unfold lo0
  dsimp only
  refine wpS_bind (wpS_mono (wpS_forRange (I := fun x d st' => st' = st ∧ d.1 = none ∧ LoI κ a b d.2.1 d.2.2.1 d.2.2.2.1 ∧ m + 1 + x ≤ d.2.2.1 + d.2.2.2.1)
    (Q := fun d st' => st' = st ∧ Fin2 κ a b (m + 1 + 1) d.1 d.2.1 d.2.2.1 d.2.2.2.1) ?step ?fin ⟨rfl, rfl, hI, by lia⟩) ?post)
  case fin =>
    rintro d st' ⟨rfl, h1, h2, h3⟩
    have := h2.ha; have := h2.hb
    lia
  case step =>
    rintro x d st' _ hx ⟨rfl, h1, h2, h3⟩
    exact wpS_lo1 hO g hk h1 h2 h3 (fun e he => ⟨rfl, he.imp id fun ⟨e1, e2, e3⟩ => ⟨e1, e2, by lia⟩⟩) fun e e1 e2 e3 => ⟨rfl, e1, e2, by lia⟩
  case post =>
    rintro ⟨r, out, ia, ib, ac, bc⟩ st' ⟨rfl, h1 | h1⟩
    · obtain ⟨x, rfl, hx⟩ := h1
      exact wpS_pure (hd _ _ x (.refl _) rfl hx)
    obtain ⟨rfl, hI, hm⟩ := h1
    dsimp only at hI hm ⊢
    refine wpS_bind (wpS_lift (wpAny_rule ⟨rfl, ?_⟩))
    refine wpS_bind (wpS_mono (wpS_forRange (I := fun x d st'' => Gs st' st'' ∧ d.1 = none ∧ LoI κ a b d.2.1 d.2.2.1 d.2.2.2.1 ∧ m + 1 + 1 ≤ d.2.2.1 + d.2.2.2.1)
      (Q := fun d st'' => Gs st' st'' ∧ Fin2 κ a b (m + 1 + 1) d.1 d.2.1 d.2.2.1 d.2.2.2.1) ?step ?fin ⟨.refl _, rfl, hI, hm⟩) ?post)
    case fin =>
      rintro d st'' ⟨h0, h1, h2, h3⟩
      exact ⟨h0, .inr ⟨h1, h2, h3⟩⟩
    case step =>
      rintro x d st'' _ hx ⟨h0, h1, h2, h3⟩
      unfold lo2
      split
      · exact wpS_lo2a hO (h0.kind.trans hk) g h2 h3 (fun c st3 hg hf => ⟨h0.trans hg, hf⟩) fun c st3 hg h4 h5 h6 => ⟨h0.trans hg, h4, h5, h6⟩
      · exact wpS_lo2a hO (h0.kind.trans hk) g h2 h3 (fun c st3 hg hf => ⟨h0.trans hg, hf⟩) fun c st3 hg h4 h5 h6 => ⟨h0.trans hg, h4, h5, h6⟩
    case post =>
      rintro ⟨r, out, ia, ib, mg, ac, bc⟩ st'' ⟨hg, h1 | h1⟩
      · obtain ⟨x, rfl, hx⟩ := h1
        exact wpS_pure (hd _ _ x hg rfl hx)
      obtain ⟨rfl, hI, hm⟩ := h1
      dsimp only at hI hm ⊢
      rw [setMinGallop'_eq]
      exact wpS_bind (wpS_modify (wpS_pure (hy _ _ (hg.set _) rfl hI hm)))

theorem wpS_mergeLo {st : SortSt} {Q : Array Keyed → SortSt → Prop} (hO : κ.OneLt) (hk : kindOf st = oneType') (g : MG κ a b) (h : ∀ r st', Gs st st' → Mer κ a b r → Q r st') : wpS (model prog w) A E s (mergeLo' a b) Q st := by
  rw [mergeLo'_eq]
  refine wpS_bind (wpS_lift (wpAny_rule ⟨rfl, ?_⟩))
  obtain ⟨y, ey, ky', hKy⟩ := g.kb.at g.nb
  refine wpS_bind (wpS_elem ey ?_)
  have h0 : MInv κ (a.toList ++ b.toList) (#[] : Array Keyed).toList (a.toList.drop 0) (b.toList.drop 0) := ⟨by simp, by simpa using g.sa.pairwise, by simpa using g.sb.pairwise⟩
  have hn : MInv κ (a.toList ++ b.toList) #[y].toList (a.toList.drop 0) (b.toList.drop 1) := LoI.pushB g h0 ey fun z hz => by
    obtain ⟨j, hj, ej⟩ := mem_drop_at hz
    have h1 := g.sa 0 j (by lia) (by lia) (at_lt ej)
    rw [arr_at ej] at h1
    have h2 := g.first
    rw [hKy] at h2
    exact KeyOrd.kle_of_klt (KeyOrd.klt_of_klt_of_kle h2 h1)
  by_cases hE : 1 = b.size
  · rw [if_pos (by simpa using hE)]
    exact wpS_pure (h _ _ (.refl _) (done_A (O := []) hn hE))
  · rw [if_neg (by simpa using hE)]
    by_cases hE2 : 0 + 1 = a.size
    · rw [if_pos (by simpa using hE2)]
      exact wpS_pure (h _ _ (.refl _) (last_A g hn hE2))
    · rw [if_neg (by simpa using hE2)]
      have := g.na; have := g.nb
      refine wpS_bind (wpS_get ?_)
      refine wpS_bind (wpS_mono (wpS_forRange (I := fun x d st' => Gs st st' ∧ d.1 = none ∧ LoI κ a b d.2.1 d.2.2.1 d.2.2.2.1 ∧ x + 1 ≤ d.2.2.1 + d.2.2.2.1)
        (Q := fun d st' => Gs st st' ∧ ∃ x, d.1 = some x ∧ Mer κ a b x) ?step ?fin ⟨.refl _, rfl, ⟨hn, by dsimp only; lia, by dsimp only; lia⟩, by dsimp only; lia⟩) ?post)
      case fin =>
        rintro d st' ⟨h0, h1, h2, h3⟩
        have := h2.ha; have := h2.hb
        lia
      case step =>
        rintro x d st' _ hx ⟨h0, h1, h2, h3⟩
        exact wpS_lo0 hO (h0.kind.trans hk) g h2 h3 (fun d st'' x hg e1 e2 => ⟨h0.trans hg, x, e1, e2⟩) fun d st'' hg e1 e2 e3 => ⟨h0.trans hg, e1, e2, e3⟩
      case post =>
        rintro d st' ⟨h0, x, e1, e2⟩
        rw [e1]
        exact wpS_pure (h x _ h0 e2)
end
end Mine

set_option autoImplicit false
set_option linter.unusedVariables false
namespace Mine
open PySem PyProof.Rows

/-! Part 5: mergeHi -/
abbrev HiS := Option (Array Keyed) × Nat × Nat × Array Keyed × Nat
abbrev HiS1 := Option (Array Keyed) × Nat × Nat × Array Keyed × Nat × Nat
abbrev HiS2 := Option (Array Keyed) × Nat × Nat × Array Keyed × Nat × Nat × Nat
def hiDone (a b out : Array Keyed) (na nb : Nat) : Array Keyed := a.extract 0 na ++ b.extract 0 nb ++ out.reverse
def hiFirst (a b out : Array Keyed) (na nb : Nat) : Array Keyed := b.extract 0 nb ++ a.extract 0 na ++ out.reverse
def hi1' (a b : Array Keyed) (mg na nb : Nat) (out : Array Keyed) (ac bc : Nat) : StateT SortSt Sem (ForInStep HiS1) := do
  let y ← elem' b (nb - 1)
  let x ← elem' a (na - 1)
  let r ← lt' y x
  match r with
  | some aWins =>
    if aWins = true then do
      let x ← elem' a (na - 1)
      if (na - 1 == 0) = true then pure (ForInStep.done (some (hiDone a b (out.push x) (na - 1) nb), na - 1, nb, out.push x, ac + 1, 0))
      else if ac + 1 ≥ mg then pure (ForInStep.done (none, na - 1, nb, out.push x, ac + 1, 0))
      else pure (ForInStep.yield (none, na - 1, nb, out.push x, ac + 1, 0))
    else do
      let y ← elem' b (nb - 1)
      if (nb - 1 == 1) = true then pure (ForInStep.done (some (hiFirst a b (out.push y) na (nb - 1)), na, nb - 1, out.push y, 0, bc + 1))
      else if bc + 1 ≥ mg then pure (ForInStep.done (none, na, nb - 1, out.push y, 0, bc + 1))
      else pure (ForInStep.yield (none, na, nb - 1, out.push y, 0, bc + 1))
  | _ => pure (ForInStep.done (some (hiDone a b out na nb), na, nb, out, ac, bc))
def hi2c (a b : Array Keyed) (mg ac bc na nb : Nat) (out : Array Keyed) : StateT SortSt Sem (ForInStep HiS2) := do
  let x ← elem' a (na - 1)
  if (na - 1 == 0) = true then pure (ForInStep.done (some (hiDone a b (out.push x) (na - 1) nb), na - 1, nb, out.push x, mg, ac, bc))
  else if (decide (ac < 7) && decide (bc < 7)) = true then pure (ForInStep.done (none, na - 1, nb, out.push x, mg, ac, bc))
  else pure (ForInStep.yield (none, na - 1, nb, out.push x, mg, ac, bc))
def hi2b (a b : Array Keyed) (mg ac bc nb na : Nat) (out : Array Keyed) : StateT SortSt Sem (ForInStep HiS2) := do
  let y ← elem' b (nb - 1)
  if (nb - 1 == 1) = true then pure (ForInStep.done (some (hiFirst a b (out.push y) na (nb - 1)), na, nb - 1, out.push y, mg, ac, bc))
  else do
    let x ← elem' a (na - 1)
    let r ← gallop' true x b 0 (nb - 1) (nb - 1 - 1)
    match r with
    | some at_ =>
      if nb - 1 - at_ > 0 then
        if (at_ == 1) = true then pure (ForInStep.done (some (hiFirst a b (out.push y ++ (b.extract at_ (nb - 1)).reverse) na at_), na, at_, out.push y ++ (b.extract at_ (nb - 1)).reverse, mg, ac, nb - 1 - at_))
        else if (at_ == 0) = true then pure (ForInStep.done (some (hiDone a b (out.push y ++ (b.extract at_ (nb - 1)).reverse) na at_), na, at_, out.push y ++ (b.extract at_ (nb - 1)).reverse, mg, ac, nb - 1 - at_))
        else hi2c a b mg ac (nb - 1 - at_) na at_ (out.push y ++ (b.extract at_ (nb - 1)).reverse)
      else hi2c a b mg ac (nb - 1 - at_) na (nb - 1) (out.push y)
    | _ => pure (ForInStep.done (some (hiDone a b (out.push y) na (nb - 1)), na, nb - 1, out.push y, mg, ac, bc))
def hi2a (a b : Array Keyed) (na nb : Nat) (out : Array Keyed) (ac bc mg : Nat) : StateT SortSt Sem (ForInStep HiS2) := do
  setMinGallop' mg
  let y ← elem' b (nb - 1)
  let r ← gallop' false y a 0 na (na - 1)
  match r with
  | some at_ =>
    if na - at_ > 0 then
      if (at_ == 0) = true then pure (ForInStep.done (some (hiDone a b (out ++ (a.extract at_ na).reverse) at_ nb), at_, nb, out ++ (a.extract at_ na).reverse, mg, na - at_, bc))
      else hi2b a b mg (na - at_) bc nb at_ (out ++ (a.extract at_ na).reverse)
    else hi2b a b mg (na - at_) bc nb na out
  | _ => pure (ForInStep.done (some (hiDone a b out na nb), na, nb, out, mg, ac, bc))
def hi2 (a b : Array Keyed) (c : HiS2) : StateT SortSt Sem (ForInStep HiS2) :=
  if c.2.2.2.2.1 > 1 then hi2a a b c.2.1 c.2.2.1 c.2.2.2.1 c.2.2.2.2.2.1 c.2.2.2.2.2.2 (c.2.2.2.2.1 - 1)
  else hi2a a b c.2.1 c.2.2.1 c.2.2.2.1 c.2.2.2.2.2.1 c.2.2.2.2.2.2 c.2.2.2.2.1
def hi0 (a b : Array Keyed) (c : HiS) : StateT SortSt Sem (ForInStep HiS) := do
  let d ← forIn [0:a.size + b.size] ((none, c.2.1, c.2.2.1, c.2.2.2.1, 0, 0) : HiS1) fun _ d => hi1' a b c.2.2.2.2 d.2.1 d.2.2.1 d.2.2.2.1 d.2.2.2.2.1 d.2.2.2.2.2
  Break.runK.match_1 (fun _ => StateT SortSt Sem (ForInStep HiS)) d.1 (fun r => pure (ForInStep.done (some r, d.2.1, d.2.2.1, d.2.2.2.1, c.2.2.2.2))) fun _ => do
    liftM (rule "list.sort.gallop")
    let e ← forIn [0:a.size + b.size] ((none, d.2.1, d.2.2.1, d.2.2.2.1, c.2.2.2.2 + 1, d.2.2.2.2.1, d.2.2.2.2.2) : HiS2) fun _ e => hi2 a b e
    Break.runK.match_1 (fun _ => StateT SortSt Sem (ForInStep HiS)) e.1 (fun r => pure (ForInStep.done (some r, e.2.1, e.2.2.1, e.2.2.2.1, e.2.2.2.2.1))) fun _ => do
      setMinGallop' (e.2.2.2.2.1 + 1)
      pure (ForInStep.yield (none, e.2.1, e.2.2.1, e.2.2.2.1, e.2.2.2.2.1 + 1))
theorem mergeHi'_eq (a b : Array Keyed) : mergeHi' a b = (do
    liftM (rule "list.sort.merge-hi")
    let x ← elem' a (a.size - 1)
    if (a.size - 1 == 0) = true then pure (hiDone a b #[x] (a.size - 1) b.size)
    else if (b.size == 1) = true then pure (hiFirst a b #[x] (a.size - 1) b.size)
    else do
      let st ← get
      let c ← forIn [0:a.size + b.size] ((none, a.size - 1, b.size, #[x], gallopOf st) : HiS) fun _ c => hi0 a b c
      Break.runK.match_1 (fun _ => StateT SortSt Sem (Array Keyed)) c.1 (fun r => pure r) fun _ => liftM (unsupported "internal:list.sort.merge-bound" : Sem (Array Keyed))) := rfl

section
variable {prog : Program} {w : World} {A : Around} {E : Value → Shared → Prop} {s : Shared} {κ : KeyKind} {a b out : Array Keyed} {na nb : Nat}

abbrev HInv (κ : KeyKind) (a b out : Array Keyed) (na nb : Nat) : Prop := RInv κ (a.toList ++ b.toList) out.toList.reverse (a.toList.take na) (b.toList.take nb)
structure HiI (κ : KeyKind) (a b out : Array Keyed) (na nb : Nat) : Prop where
  inv : HInv κ a b out na nb
  ha : 0 < na
  hb : 1 < nb
  la : na ≤ a.size
  lb : nb ≤ b.size

theorem hiDone_list : (hiDone a b out na nb).toList = a.toList.take na ++ b.toList.take nb ++ out.toList.reverse := by unfold hiDone; simp only [Array.toList_append, ext_0, Array.toList_reverse]
theorem hiFirst_list : (hiFirst a b out na nb).toList = b.toList.take nb ++ a.toList.take na ++ out.toList.reverse := by unfold hiFirst; simp only [Array.toList_append, ext_0, Array.toList_reverse]
theorem hdone_A (h : HInv κ a b out na nb) (hb : na = 0) : Mer κ a b (hiDone a b out na nb) := by
  rw [Mer, hiDone_list]
  refine ⟨h.perm, ?_⟩
  subst hb
  rw [List.take_zero, List.nil_append]; exact h.pb
theorem hdone_B (h : HInv κ a b out na nb) (hb : nb = 0) : Mer κ a b (hiDone a b out na nb) := by
  rw [Mer, hiDone_list]
  refine ⟨h.perm, ?_⟩
  subst hb
  rw [List.take_zero, List.append_nil]; exact h.pa
theorem hfirst (g : MG κ a b) (h : HInv κ a b out na nb) (hb : nb = 1) : Mer κ a b (hiFirst a b out na nb) := by
  have hp := List.pairwise_append.mp h.pa
  have hq := List.pairwise_append.mp h.pb
  rw [Mer, hiFirst_list]
  refine ⟨List.Perm.trans ?_ h.perm, ?_⟩
  · exact List.Perm.append_right _ List.perm_append_comm
  · rw [List.append_assoc]
    refine List.pairwise_append.mpr ⟨hq.1, h.pa, fun x hx y hy => ?_⟩
    rcases List.mem_append.mp hy with hy | hy
    · obtain ⟨j, hj, ej⟩ := mem_take_at hx
      obtain ⟨i, hi, ei⟩ := mem_take_at hy
      have : j = 0 := by omega
      subst this
      have h1 := g.sa 0 i (by omega) (by omega) (at_lt ei)
      have h2 := g.first
      rw [arr_at ei] at h1
      rw [arr_at ej] at h2
      exact KeyOrd.kle_of_klt (KeyOrd.klt_of_klt_of_kle h2 h1)
    · exact hq.2.2 x hx y hy
theorem ge_rest {i j : Nat} {x y : Keyed} {xs : Array Keyed} (h : Seg κ xs 0 xs.size) (hi : xs[i]? = some x) (hj : xs.toList[j]? = some y) (hij : j ≤ i) : ple κ y x := by
  have hi' : xs.toList[i]? = some x := by rw [Array.getElem?_toList]; exact hi
  have := h j i (by omega) hij (at_lt hi')
  rw [KK_at hi, arr_at hj] at this
  exact this
theorem HInv.pushA (h : HInv κ a b out (na + 1) nb) {x : Keyed} (hx : a[na]? = some x) (hle : ∀ y ∈ b.toList.take nb, ple κ y x) : HInv κ a b (out.push x) na nb := by
  unfold HInv at h ⊢
  rw [Array.toList_push, List.reverse_append]
  rw [take_snoc' hx] at h
  exact h.moveA (by simpa using hle)
theorem HInv.pushB (h : HInv κ a b out na (nb + 1)) {y : Keyed} (hy : b[nb]? = some y) (hle : ∀ x ∈ a.toList.take na, ple κ x y) : HInv κ a b (out.push y) na nb := by
  unfold HInv at h ⊢
  rw [Array.toList_push, List.reverse_append]
  rw [take_snoc' hy] at h
  exact h.moveB (by simpa using hle)

def FinH (κ : KeyKind) (a b : Array Keyed) (m : Nat) (r : Option (Array Keyed)) (na nb : Nat) (out : Array Keyed) : Prop := (∃ x, r = some x ∧ Mer κ a b x) ∨ (r = none ∧ HiI κ a b out na nb ∧ na + nb ≤ m)

theorem wpS_hi1 {st : SortSt} {mg m ac bc : Nat} {Q : ForInStep HiS1 → SortSt → Prop} (hO : κ.OneLt) (g : MG κ a b) (hk : kindOf st = oneType') (hI : HiI κ a b out na nb) (hm : na + nb ≤ m + 1)
    (hd : ∀ c : HiS1, FinH κ a b m c.1 c.2.1 c.2.2.1 c.2.2.2.1 → Q (.done c) st) (hy : ∀ c : HiS1, c.1 = none → HiI κ a b c.2.2.2.1 c.2.1 c.2.2.1 → c.2.1 + c.2.2.1 ≤ m → Q (.yield c) st) :
    wpS (model prog w) A E s (hi1' a b mg na nb out ac bc) Q st := by
  obtain ⟨hinv, hna, hnb, hla, hlb⟩ := hI
  obtain ⟨na, rfl⟩ : ∃ m, na = m + 1 := ⟨na - 1, (Nat.sub_add_cancel hna).symm⟩
  obtain ⟨nb, rfl⟩ : ∃ m, nb = m + 1 := ⟨nb - 1, (Nat.sub_add_cancel (Nat.le_of_lt hnb)).symm⟩
  unfold hi1'
  simp only [Nat.add_sub_cancel]
  obtain ⟨y, ey, ky', hKy⟩ := g.kb.at (i := nb) hlb
  obtain ⟨x, ex, kx', hKx⟩ := g.ka.at (i := na) hla
  refine wpS_bind (wpS_elem ey (wpS_bind (wpS_elem ex (wpS_bind (wpS_lt2 hO hk ky' kx' ?_)))))
  dsimp only
  cases hlt : κ.blt (ky κ y) (ky κ x) with
  | true =>
    simp only [if_true]
    refine wpS_bind (wpS_elem ex ?_)
    have hn : HInv κ a b (out.push x) na (nb + 1) := HInv.pushA hinv ex fun z hz => by
      obtain ⟨j, hj, ej⟩ := mem_take_at hz
      exact ple_trans (ge_rest g.sb ey ej (Nat.le_of_lt_succ hj)) (KeyOrd.kle_of_klt hlt)
    by_cases hE : na = 0
    · rw [if_pos (by simpa using hE)]
      exact wpS_pure (hd _ (.inl ⟨_, rfl, hdone_A hn hE⟩))
    · rw [if_neg (by simpa using hE)]
      have hI' : HiI κ a b (out.push x) na (nb + 1) := ⟨hn, Nat.pos_of_ne_zero hE, hnb, Nat.le_of_succ_le hla, hlb⟩
      split
      · exact wpS_pure (hd _ (.inr ⟨rfl, hI', by dsimp only; omega⟩))
      · exact wpS_pure (hy _ rfl hI' (by dsimp only; omega))
  | false =>
    simp only [Bool.false_eq_true, if_false]
    refine wpS_bind (wpS_elem ey ?_)
    have hn : HInv κ a b (out.push y) (na + 1) nb := HInv.pushB hinv ey fun z hz => by
      obtain ⟨j, hj, ej⟩ := mem_take_at hz
      exact ple_trans (ge_rest g.sa ex ej (Nat.le_of_lt_succ hj)) (show ple κ x y from hlt)
    by_cases hE : nb = 1
    · rw [if_pos (by simpa using hE)]
      exact wpS_pure (hd _ (.inl ⟨_, rfl, hfirst g hn hE⟩))
    · rw [if_neg (by simpa using hE)]
      have hI' : HiI κ a b (out.push y) (na + 1) nb := ⟨hn, hna, by omega, hla, Nat.le_of_succ_le hlb⟩
      split
      · exact wpS_pure (hd _ (.inr ⟨rfl, hI', by dsimp only; omega⟩))
      · exact wpS_pure (hy _ rfl hI' (by dsimp only; omega))

theorem wpS_hi2c {st : SortSt} {mg ac bc m : Nat} {Q : ForInStep HiS2 → SortSt → Prop} (g : MG κ a b) (hI : HiI κ a b out na nb) (hm : na + nb ≤ m)
    (hle : ∀ i, i < nb → κ.kle (KK κ b i) (KK κ a (na - 1)))
    (hd : ∀ c : HiS2, FinH κ a b m c.1 c.2.1 c.2.2.1 c.2.2.2.1 → Q (.done c) st) (hy : ∀ c : HiS2, c.1 = none → HiI κ a b c.2.2.2.1 c.2.1 c.2.2.1 → c.2.1 + c.2.2.1 ≤ m → Q (.yield c) st) :
    wpS (model prog w) A E s (hi2c a b mg ac bc na nb out) Q st := by
  obtain ⟨hinv, hna, hnb, hla, hlb⟩ := hI
  obtain ⟨na, rfl⟩ : ∃ m, na = m + 1 := ⟨na - 1, (Nat.sub_add_cancel hna).symm⟩
  unfold hi2c
  simp only [Nat.add_sub_cancel] at hle ⊢
  obtain ⟨x, ex, kx', hKx⟩ := g.ka.at (i := na) hla
  refine wpS_bind (wpS_elem ex ?_)
  have hn : HInv κ a b (out.push x) na nb := HInv.pushA hinv ex fun z hz => by
    obtain ⟨j, hj, ej⟩ := mem_take_at hz
    have := hle j hj
    rw [hKx, arr_at ej] at this
    exact this
  by_cases hE : na = 0
  · rw [if_pos (by simpa using hE)]
    exact wpS_pure (hd _ (.inl ⟨_, rfl, hdone_A hn hE⟩))
  · rw [if_neg (by simpa using hE)]
    have hI' : HiI κ a b (out.push x) na nb := ⟨hn, Nat.pos_of_ne_zero hE, hnb, Nat.le_of_succ_le hla, hlb⟩
    split
    · exact wpS_pure (hd _ (.inr ⟨rfl, hI', by dsimp only; omega⟩))
    · exact wpS_pure (hy _ rfl hI' (by dsimp only; omega))

theorem wpS_hi2b {st : SortSt} {mg ac bc m : Nat} {Q : ForInStep HiS2 → SortSt → Prop} (hO : κ.OneLt) (hk : kindOf st = oneType') (g : MG κ a b) (hI : HiI κ a b out na nb) (hm : na + nb ≤ m)
    (hle : ∀ i, i < na → κ.kle (KK κ a i) (KK κ b (nb - 1)))
    (hd : ∀ c : HiS2, FinH κ a b m c.1 c.2.1 c.2.2.1 c.2.2.2.1 → Q (.done c) st) (hy : ∀ c : HiS2, c.1 = none → HiI κ a b c.2.2.2.1 c.2.1 c.2.2.1 → c.2.1 + c.2.2.1 ≤ m → Q (.yield c) st) :
    wpS (model prog w) A E s (hi2b a b mg ac bc nb na out) Q st := by
  obtain ⟨hinv, hna, hnb, hla, hlb⟩ := hI
  obtain ⟨nb, rfl⟩ : ∃ m, nb = m + 1 := ⟨nb - 1, (Nat.sub_add_cancel (Nat.le_of_lt hnb)).symm⟩
  unfold hi2b
  simp only [Nat.add_sub_cancel] at hle ⊢
  obtain ⟨y, ey, ky', hKy⟩ := g.kb.at (i := nb) hlb
  obtain ⟨x, ex, kx', hKx⟩ := g.ka.at (i := na - 1) (Nat.lt_of_lt_of_le (Nat.sub_lt hna Nat.one_pos) hla)
  refine wpS_bind (wpS_elem ey ?_)
  have hn : HInv κ a b (out.push y) na nb := HInv.pushB hinv ey fun z hz => by
    obtain ⟨j, hj, ej⟩ := mem_take_at hz
    have := hle j hj
    rw [hKy, arr_at ej] at this
    exact this
  by_cases hE : nb = 1
  · rw [if_pos (by simpa using hE)]
    exact wpS_pure (hd _ (.inl ⟨_, rfl, hfirst g hn hE⟩))
  · rw [if_neg (by simpa using hE)]
    refine wpS_bind (wpS_elem ex (wpS_bind (wpS_gallopL hO hk g.kb (by omega) kx' (seg_in g.sb (by omega)) (by omega) fun k h1 h2 h3 => ?_)))
    simp only [Nat.zero_add] at h2 h3
    dsimp only
    have hmv : HInv κ a b (out.push y ++ (b.extract k nb).reverse) na k := by
      unfold HInv at hn ⊢
      rw [Array.toList_append, Array.toList_reverse, List.reverse_append, List.reverse_reverse]
      have e : (b.extract k nb).toList = (b.toList.drop k).take (nb - k) := by
        have := ext_k b k (nb - k)
        rwa [Nat.add_sub_cancel' h1] at this
      rw [e]
      rw [take_split b.toList h1] at hn
      refine hn.moveB fun u hu v hv => ?_
      obtain ⟨j, j1, j2, ej⟩ := mem_cut_at hv
      obtain ⟨i, hi, ei⟩ := mem_take_at hu
      have := h3 j (by omega) (by omega)
      rw [arr_at ej] at this
      exact ple_trans (ge_rest g.sa ex ei (Nat.le_sub_one_of_lt hi)) this
    have hle2 : ∀ i, i < k → κ.kle (KK κ b i) (KK κ a (na - 1)) := fun i h4 => by
      rw [hKx]; exact KeyOrd.kle_of_klt (h2 i h4)
    by_cases hk0 : nb - k > 0
    · rw [if_pos hk0]
      by_cases hE2 : k = 1
      · rw [if_pos (by simpa using hE2)]
        exact wpS_pure (hd _ (.inl ⟨_, rfl, hfirst g hmv hE2⟩))
      · rw [if_neg (by simpa using hE2)]
        by_cases hE3 : k = 0
        · rw [if_pos (by simpa using hE3)]
          exact wpS_pure (hd _ (.inl ⟨_, rfl, hdone_B hmv hE3⟩))
        · rw [if_neg (by simpa using hE3)]
          exact wpS_hi2c g ⟨hmv, hna, by omega, hla, by omega⟩ (by omega) hle2 hd hy
    · rw [if_neg hk0]
      have : k = nb := by omega
      subst this
      exact wpS_hi2c g ⟨hn, hna, by omega, hla, by omega⟩ (by omega) hle2 hd hy

theorem wpS_hi2a {st : SortSt} {mg ac bc m : Nat} {Q : ForInStep HiS2 → SortSt → Prop} (hO : κ.OneLt) (hk : kindOf st = oneType') (g : MG κ a b) (hI : HiI κ a b out na nb) (hm : na + nb ≤ m)
    (hd : ∀ (c : HiS2) st', Gs st st' → FinH κ a b m c.1 c.2.1 c.2.2.1 c.2.2.2.1 → Q (.done c) st') (hy : ∀ (c : HiS2) st', Gs st st' → c.1 = none → HiI κ a b c.2.2.2.1 c.2.1 c.2.2.1 → c.2.1 + c.2.2.1 ≤ m → Q (.yield c) st') :
    wpS (model prog w) A E s (hi2a a b na nb out ac bc mg) Q st := by
  have ⟨hinv, hna, hnb, hla, hlb⟩ := hI
  unfold hi2a
  rw [setMinGallop'_eq]
  refine wpS_bind (wpS_modify ?_)
  have hG := (Gs.refl st).set mg
  obtain ⟨y, ey, ky', hKy⟩ := g.kb.at (i := nb - 1) (by omega)
  refine wpS_bind (wpS_elem ey (wpS_bind (wpS_gallopR hO hk g.ka (by omega) ky' (seg_in g.sa (by omega)) (by omega) fun k h1 h2 h3 => ?_)))
  simp only [Nat.zero_add] at h2 h3
  dsimp only
  have hmv : HInv κ a b (out ++ (a.extract k na).reverse) k nb := by
    unfold HInv at hinv ⊢
    rw [Array.toList_append, Array.toList_reverse, List.reverse_append, List.reverse_reverse]
    have e : (a.extract k na).toList = (a.toList.drop k).take (na - k) := by
      have := ext_k a k (na - k)
      rwa [Nat.add_sub_cancel' h1] at this
    rw [e]
    rw [take_split a.toList h1] at hinv
    refine hinv.moveA fun u hu v hv => ?_
    obtain ⟨j, j1, j2, ej⟩ := mem_cut_at hv
    obtain ⟨i, hi, ei⟩ := mem_take_at hu
    have := h3 j (by omega) (by omega)
    rw [arr_at ej] at this
    exact ple_trans (ge_rest g.sb ey ei (by omega)) (KeyOrd.kle_of_klt this)
  have hle2 : ∀ i, i < k → κ.kle (KK κ a i) (KK κ b (nb - 1)) := fun i h4 => by
    rw [hKy]; exact h2 i h4
  by_cases hk0 : na - k > 0
  · rw [if_pos hk0]
    by_cases hE : k = 0
    · rw [if_pos (by simpa using hE)]
      exact wpS_pure (hd _ _ hG (.inl ⟨_, rfl, hdone_A hmv hE⟩))
    · rw [if_neg (by simpa using hE)]
      exact wpS_hi2b hO hk g ⟨hmv, by omega, hnb, by omega, hlb⟩ (by omega) hle2 (fun c => hd c _ hG) fun c => hy c _ hG
  · rw [if_neg hk0]
    have : k = na := by omega
    subst this
    exact wpS_hi2b hO hk g hI hm hle2 (fun c => hd c _ hG) fun c => hy c _ hG

theorem wpS_hi0 {st : SortSt} {m : Nat} {c : HiS} {Q : ForInStep HiS → SortSt → Prop} (hO : κ.OneLt) (hk : kindOf st = oneType') (g : MG κ a b) (hI : HiI κ a b c.2.2.2.1 c.2.1 c.2.2.1) (hm : c.2.1 + c.2.2.1 ≤ m + 1)
    (hd : ∀ (d : HiS) st' x, Gs st st' → d.1 = some x → Mer κ a b x → Q (.done d) st') (hy : ∀ (d : HiS) st', Gs st st' → d.1 = none → HiI κ a b d.2.2.2.1 d.2.1 d.2.2.1 → d.2.1 + d.2.2.1 ≤ m → Q (.yield d) st') :
    wpS (model prog w) A E s (hi0 a b c) Q st := by
  obtain ⟨c0, na, nb, out, mg⟩ := c
  dsimp only at hI hm
  have l1 := hI.la
  have l2 := hI.lb
  unfold hi0
  dsimp only
  refine wpS_bind (wpS_mono (wpS_forRange (I := fun x d st' => st' = st ∧ d.1 = none ∧ HiI κ a b d.2.2.2.1 d.2.1 d.2.2.1 ∧ d.2.1 + d.2.2.1 ≤ m + 1 ∧ d.2.1 + d.2.2.1 + x ≤ a.size + b.size)
    (Q := fun d st' => st' = st ∧ FinH κ a b m d.1 d.2.1 d.2.2.1 d.2.2.2.1) ?step ?fin ⟨rfl, rfl, hI, by dsimp only; omega, by dsimp only; omega⟩) ?post)
  case fin =>
    rintro d st' ⟨rfl, h1, h2, h3, h4⟩
    have := h2.ha; have := h2.hb
    omega
  case step =>
    rintro x d st' _ hx ⟨rfl, h1, h2, h3, h4⟩
    refine wpS_hi1 (m := min m (a.size + b.size - x - 1)) hO g hk h2 (by have := h2.ha; have := h2.hb; omega) (fun e he => ⟨rfl, he.imp id fun ⟨e1, e2, e3⟩ => ⟨e1, e2, by omega⟩⟩) fun e e1 e2 e3 => ⟨rfl, e1, e2, by omega, by omega⟩
  case post =>
    rintro ⟨r, na, nb, out, ac, bc⟩ st' ⟨rfl, h1 | h1⟩
    · obtain ⟨x, rfl, hx⟩ := h1
      exact wpS_pure (hd _ _ x (.refl _) rfl hx)
    obtain ⟨rfl, hI, hm⟩ := h1
    dsimp only at hI hm ⊢
    refine wpS_bind (wpS_lift (wpAny_rule ⟨rfl, ?_⟩))
    refine wpS_bind (wpS_mono (wpS_forRange (I := fun x d st'' => Gs st' st'' ∧ d.1 = none ∧ HiI κ a b d.2.2.2.1 d.2.1 d.2.2.1 ∧ d.2.1 + d.2.2.1 ≤ m)
      (Q := fun d st'' => Gs st' st'' ∧ FinH κ a b m d.1 d.2.1 d.2.2.1 d.2.2.2.1) ?step ?fin ⟨.refl _, rfl, hI, hm⟩) ?post)
    case fin =>
      rintro d st'' ⟨h0, h1, h2, h3⟩
      exact ⟨h0, .inr ⟨h1, h2, h3⟩⟩
    case step =>
      rintro x d st'' _ hx ⟨h0, h1, h2, h3⟩
      unfold hi2
      split
      · exact wpS_hi2a hO (h0.kind.trans hk) g h2 h3 (fun c st3 hg hf => ⟨h0.trans hg, hf⟩) fun c st3 hg h4 h5 h6 => ⟨h0.trans hg, h4, h5, h6⟩
      · exact wpS_hi2a hO (h0.kind.trans hk) g h2 h3 (fun c st3 hg hf => ⟨h0.trans hg, hf⟩) fun c st3 hg h4 h5 h6 => ⟨h0.trans hg, h4, h5, h6⟩
    case post =>
      rintro ⟨r, na, nb, out, mg, ac, bc⟩ st'' ⟨hg, h1 | h1⟩
      · obtain ⟨x, rfl, hx⟩ := h1
        exact wpS_pure (hd _ _ x hg rfl hx)
      obtain ⟨rfl, hI, hm⟩ := h1
      dsimp only at hI hm ⊢
      rw [setMinGallop'_eq]
      exact wpS_bind (wpS_modify (wpS_pure (hy _ _ (hg.set _) rfl hI hm)))

theorem wpS_mergeHi {st : SortSt} {Q : Array Keyed → SortSt → Prop} (hO : κ.OneLt) (hk : kindOf st = oneType') (g : MG κ a b) (h : ∀ r st', Gs st st' → Mer κ a b r → Q r st') : wpS (model prog w) A E s (mergeHi' a b) Q st := by
  rw [mergeHi'_eq]
  refine wpS_bind (wpS_lift (wpAny_rule ⟨rfl, ?_⟩))
  have hna := g.na
  have hnb := g.nb
  obtain ⟨x, ex, kx', hKx⟩ := g.ka.at (i := a.size - 1) (by omega)
  refine wpS_bind (wpS_elem ex ?_)
  have h0 : HInv κ a b #[] (a.size - 1 + 1) b.size := by
    have e1 : a.toList.take (a.size - 1 + 1) = a.toList := List.take_of_length_le (by simp; omega)
    have e2 : b.toList.take b.size = b.toList := List.take_of_length_le (by simp)
    unfold HInv
    rw [e1, e2]
    exact ⟨by simp, by simpa using g.sa.pairwise, by simpa using g.sb.pairwise⟩
  have hn : HInv κ a b #[x] (a.size - 1) b.size := HInv.pushA h0 ex fun z hz => by
    obtain ⟨j, hj, ej⟩ := mem_take_at hz
    have h1 := g.last j (at_lt ej)
    rw [arr_at ej, hKx] at h1
    exact KeyOrd.kle_of_klt h1
  by_cases hE : a.size - 1 = 0
  · rw [if_pos (by simpa using hE)]
    exact wpS_pure (h _ _ (.refl _) (hdone_A hn hE))
  · rw [if_neg (by simpa using hE)]
    by_cases hE2 : b.size = 1
    · rw [if_pos (by simpa using hE2)]
      exact wpS_pure (h _ _ (.refl _) (hfirst g hn hE2))
    · rw [if_neg (by simpa using hE2)]
      refine wpS_bind (wpS_get ?_)
      refine wpS_bind (wpS_mono (wpS_forRange (I := fun x d st' => Gs st st' ∧ d.1 = none ∧ HiI κ a b d.2.2.2.1 d.2.1 d.2.2.1 ∧ d.2.1 + d.2.2.1 + x ≤ a.size + b.size)
        (Q := fun d st' => Gs st st' ∧ ∃ x, d.1 = some x ∧ Mer κ a b x) ?step ?fin ⟨.refl _, rfl, ⟨hn, by dsimp only; omega, by dsimp only; omega, by dsimp only; omega, by dsimp only; omega⟩, by dsimp only; omega⟩) ?post)
      case fin =>
        rintro d st' ⟨h0, h1, h2, h3⟩
        have := h2.ha; have := h2.hb
        omega
      case step =>
        rintro x d st' _ hx ⟨h0, h1, h2, h3⟩
        have := h2.ha; have := h2.hb
        exact wpS_hi0 (m := a.size + b.size - x - 1) hO (h0.kind.trans hk) g h2 (by omega) (fun d st'' x hg e1 e2 => ⟨h0.trans hg, x, e1, e2⟩) fun d st'' hg e1 e2 e3 => ⟨h0.trans hg, e1, e2, by omega⟩
      case post =>
        rintro d st' ⟨h0, x, e1, e2⟩
        rw [e1]
        exact wpS_pure (h x _ h0 e2)
end
end Mine

set_option autoImplicit false
set_option linter.unusedVariables false
namespace Mine
open PySem PyProof.Rows

/-! Part 6: mergeAt -/
def lay (xs : Array Keyed) (sa : Nat) (ms : List Keyed) : Array Keyed := ms.zipIdx.foldl (fun a (x : Keyed × Nat) => match x with | (p, j) => a.setIfInBounds (sa + j) p) xs
theorem lay_gen (sa : Nat) : ∀ (ms : List Keyed) (k : Nat) (xs : Array Keyed), sa + k + ms.length ≤ xs.size →
    ((ms.zipIdx k).foldl (fun a (x : Keyed × Nat) => match x with | (p, j) => a.setIfInBounds (sa + j) p) xs).toList = xs.toList.take (sa + k) ++ ms ++ xs.toList.drop (sa + k + ms.length)
  | [], k, xs, h => by simp
  | m :: ms, k, xs, h => by
    rw [List.length_cons] at h
    rw [List.zipIdx_cons, List.foldl_cons, lay_gen sa ms (k + 1) _ (by rw [Array.size_setIfInBounds]; lia)]
    have hlt : sa + k < xs.toList.length := by simp; lia
    rw [Array.toList_setIfInBounds]
    have e1 : (xs.toList.set (sa + k) m).take (sa + (k + 1)) = xs.toList.take (sa + k) ++ [m] := by
      rw [show sa + (k + 1) = (sa + k) + 1 by lia, List.take_add_one, List.getElem?_set_self hlt, List.take_set_of_le (Nat.le_refl _)]; rfl
    have e2 : (xs.toList.set (sa + k) m).drop (sa + (k + 1) + ms.length) = xs.toList.drop (sa + k + (m :: ms).length) := by
      rw [List.drop_set_of_lt (by lia)]; congr 1; simp; lia
    rw [e1, e2]; simp
theorem lay_list {xs : Array Keyed} {sa : Nat} {ms : List Keyed} (h : sa + ms.length ≤ xs.size) : (lay xs sa ms).toList = xs.toList.take sa ++ ms ++ xs.toList.drop (sa + ms.length) := lay_gen sa ms 0 xs (by lia)

def mergeEnd (sa : Nat) (merged : Array Keyed) : StateT SortSt Sem Bool := do
  modify fun s => setArr s (lay (arrOf s) sa merged.toList)
  let st ← get
  pure (failedOf st).isNone
def mergeMid (s : SortSt) (sb nb sa na : Nat) : StateT SortSt Sem Bool :=
  if (na == 0) = true then pure true
  else do
    let x ← elem' (arrOf s) (sa + na - 1)
    let r ← gallop' true x (arrOf s) sb nb (nb - 1)
    match r with
    | some nb =>
      if (nb == 0) = true then pure true
      else if na ≤ nb then do
        let merged ← mergeLo' ((arrOf s).extract sa sb) ((arrOf s).extract sb (sb + nb))
        mergeEnd sa merged
      else do
        let merged ← mergeHi' ((arrOf s).extract sa sb) ((arrOf s).extract sb (sb + nb))
        mergeEnd sa merged
    | _ => pure false
theorem mergeAt'_eq (i : Nat) : mergeAt' i = (do
    let s ← get
    match ((pendingOf s)[i]?, (pendingOf s)[i + 1]?) with
    | (some (sa, na, power), some (sb, nb, _)) => do
      set (SortSt.mk' (kindOf s) (arrOf s) (((pendingOf s).setIfInBounds i (sa, na + nb, power)).eraseIdxIfInBounds (i + 1)) (gallopOf s) (failedOf s))
      let y ← elem' (arrOf s) sb
      let r ← gallop' false y (arrOf s) sa na 0
      match r with
      | some k => mergeMid s sb nb (sa + k) (na - k)
      | _ => pure false
    | _ => liftM (unsupported "internal:list.sort.pending" : Sem Bool)) := rfl

section
variable {prog : Program} {w : World} {A : Around} {E : Value → Shared → Prop} {s : Shared} {κ : KeyKind} {a₀ : Array Keyed}

theorem wpS_set {σ : Type} {M : Model} {A : Around} {E : Value → Shared → Prop} {s : Shared} {x : σ} {Q : PUnit → σ → Prop} {st : σ} (h : Q ⟨⟩ x) : wpS M A E s (set x : StateT σ Sem PUnit) Q st := by
  unfold wpS; rw [StateT.run_set]; exact wpAny_pure ⟨rfl, h⟩

theorem KK_extract {xs : Array Keyed} {i j k : Nat} (hj : j ≤ xs.size) (hk : i + k < j) : KK κ (xs.extract i j) k = KK κ xs (i + k) := KK_congr (by rw [Array.getElem?_extract, if_pos (by lia)])

/-- the arrays of a merge at sa, sb -/
theorem wpS_mergeAt {st : SortSt} {i sa na sb nb pa pb : Nat} {Q : Bool → SortSt → Prop} (hO : κ.OneLt) (h0 : KeysOf κ a₀) (hB : SB a₀ st)
    (e1 : (pendingOf st)[i]? = some (sa, na, pa)) (e2 : (pendingOf st)[i + 1]? = some (sb, nb, pb)) (hab : sb = sa + na) (hsz : sb + nb ≤ a₀.size) (hna : 1 ≤ na) (hnb : 1 ≤ nb)
    (s1 : Seg κ (arrOf st) sa (sa + na)) (s2 : Seg κ (arrOf st) sb (sb + nb))
    (h : ∀ st', SB a₀ st' → pendingOf st' = ((pendingOf st).setIfInBounds i (sa, na + nb, pa)).eraseIdxIfInBounds (i + 1) → Seg κ (arrOf st') sa (sa + (na + nb)) → (∀ k, k < sa ∨ sa + (na + nb) ≤ k → (arrOf st')[k]? = (arrOf st)[k]?) → Q true st') :
    wpS (model prog w) A E s (mergeAt' i) Q st := by
  subst hab
  have hK : AllK κ (arrOf st) := AllK.of fun p hp => h0 p ((Array.perm_iff_toList_perm.mp hB.perm).mem_iff.mp hp)
  have hSz := hB.size
  rw [mergeAt'_eq]
  refine wpS_bind (wpS_get ?_)
  rw [e1, e2]
  dsimp only
  refine wpS_bind (wpS_set ?_)
  obtain ⟨y, ey, ky', hKy⟩ := hK.at (i := sa + na) (by lia)
  refine wpS_bind (wpS_elem ey (wpS_bind (wpS_gallopR hO hB.kind hK (by lia) ky' s1 (by lia) fun k k1 k2 k3 => ?_)))
  dsimp only
  unfold mergeMid
  have whole : ∀ xs : Array Keyed, True := fun _ => trivial
  -- all in place already
  have easy : (∀ p q, sa ≤ p → p < sa + na → sa + na ≤ q → q < sa + na + nb → κ.kle (KK κ (arrOf st) p) (KK κ (arrOf st) q)) → Seg κ (arrOf st) sa (sa + (na + nb)) := fun hc p q h1 h2 h3 => by
    by_cases hq : q < sa + na
    · exact s1 p q h1 h2 hq
    · by_cases hp : p < sa + na
      · exact hc p q h1 hp (by lia) (by lia)
      · exact s2 p q (by lia) h2 (by lia)
  by_cases hE : na - k = 0
  · rw [if_pos (by simpa using hE)]
    refine wpS_pure (h _ ⟨hB.perm, hB.kind, hB.failed⟩ rfl (easy fun p q h1 h2 h3 h4 => ?_) fun _ _ => rfl)
    have a1 := k2 (p - sa) (by lia)
    rw [Nat.add_sub_cancel' h1, ← hKy] at a1
    exact KeyOrd.kle_trans a1 (s2 (sa + na) q (by lia) h3 h4)
  · rw [if_neg (by simpa using hE)]
    obtain ⟨x, ex, kx', hKx⟩ := hK.at (i := sa + k + (na - k) - 1) (by lia)
    refine wpS_bind (wpS_elem ex (wpS_bind (wpS_gallopL hO hB.kind hK (by lia) kx' s2 (by lia) fun m m1 m2 m3 => ?_)))
    dsimp only
    by_cases hE2 : m = 0
    · rw [if_pos (by simpa using hE2)]
      refine wpS_pure (h _ ⟨hB.perm, hB.kind, hB.failed⟩ rfl (easy fun p q h1 h2 h3 h4 => ?_) fun _ _ => rfl)
      have a1 := m3 (q - (sa + na)) (by lia) (by lia)
      rw [Nat.add_sub_cancel' h3, ← hKx] at a1
      exact KeyOrd.kle_trans (s1 p (sa + k + (na - k) - 1) h1 (by lia) (by lia)) a1
    · rw [if_neg (by simpa using hE2)]
      have hXs : ((arrOf st).extract (sa + k) (sa + na)).size = na - k := by rw [Array.size_extract]; lia
      have hYs : ((arrOf st).extract (sa + na) (sa + na + m)).size = m := by rw [Array.size_extract]; lia
      have hXK : ∀ j, j < na - k → KK κ ((arrOf st).extract (sa + k) (sa + na)) j = KK κ (arrOf st) (sa + k + j) := fun j hj => KK_extract (by lia) (by lia)
      have hYK : ∀ j, j < m → KK κ ((arrOf st).extract (sa + na) (sa + na + m)) j = KK κ (arrOf st) (sa + na + j) := fun j hj => KK_extract (by lia) (by lia)
      have g : MG κ ((arrOf st).extract (sa + k) (sa + na)) ((arrOf st).extract (sa + na) (sa + na + m)) := by
        refine ⟨fun p hp => hK p ?_, fun p hp => hK p ?_, fun p q h1 h2 h3 => ?_, fun p q h1 h2 h3 => ?_, by lia, by lia, ?_, fun j hj => ?_⟩
        · rw [Array.toList_extract, List.extract_eq_take_drop] at hp; exact List.mem_of_mem_drop (List.mem_of_mem_take hp)
        · rw [Array.toList_extract, List.extract_eq_take_drop] at hp; exact List.mem_of_mem_drop (List.mem_of_mem_take hp)
        · rw [hXs] at h3
          rw [hXK p (by lia), hXK q h3]; exact s1 _ _ (by lia) (by lia) (by lia)
        · rw [hYs] at h3
          rw [hYK p (by lia), hYK q h3]; exact s2 _ _ (by lia) (by lia) (by lia)
        · rw [hXK 0 (by lia), hYK 0 (by lia), Nat.add_zero, Nat.add_zero, hKy]
          exact k3 k (Nat.le_refl _) (by lia)
        · rw [hYs] at hj
          rw [hXs, hYK j hj, hXK _ (by lia), show sa + k + (na - k - 1) = sa + k + (na - k) - 1 by lia, hKx]
          exact m2 j hj
      have fin : ∀ (r : Array Keyed) (st₁ : SortSt), Gs (SortSt.mk' (kindOf st) (arrOf st) (((pendingOf st).setIfInBounds i (sa, na + nb, pa)).eraseIdxIfInBounds (i + 1)) (gallopOf st) (failedOf st)) st₁ → Mer κ ((arrOf st).extract (sa + k) (sa + na)) ((arrOf st).extract (sa + na) (sa + na + m)) r → wpS (model prog w) A E s (mergeEnd (sa + k) r) Q st₁ := by
        intro r st₁ hG hM
        unfold mergeEnd
        refine wpS_bind (wpS_modify (wpS_bind (wpS_get (wpS_pure ?_))))
        have hf : failedOf st₁ = none := hG.failed.trans hB.failed
        have ha : arrOf st₁ = arrOf st := hG.arr
        rw [show (failedOf (setArr st₁ (lay (arrOf st₁) (sa + k) r.toList))).isNone = true from by rw [show failedOf (setArr st₁ (lay (arrOf st₁) (sa + k) r.toList)) = failedOf st₁ from rfl, hf]; rfl]
        have hrl : r.toList.length = na - k + m := by
          rw [hM.1.length_eq, List.length_append, Array.length_toList, Array.length_toList, hXs, hYs]
        have hl : (lay (arrOf st) (sa + k) r.toList).toList = (arrOf st).toList.take (sa + k) ++ r.toList ++ (arrOf st).toList.drop (sa + na + m) := by
          rw [lay_list (by rw [hrl]; lia), hrl]; congr 2; lia
        have hXl : ((arrOf st).extract (sa + k) (sa + na)).toList = ((arrOf st).toList.drop (sa + k)).take (na - k) := by
          have := ext_k (arrOf st) (sa + k) (na - k)
          rwa [show sa + k + (na - k) = sa + na by lia] at this
        have hsplit : (arrOf st).toList = (arrOf st).toList.take (sa + k) ++ (((arrOf st).extract (sa + k) (sa + na)).toList ++ ((arrOf st).extract (sa + na) (sa + na + m)).toList) ++ (arrOf st).toList.drop (sa + na + m) := by
          rw [hXl, ext_k, List.append_assoc, List.append_assoc, ← drop_split, show sa + na = sa + k + (na - k) by lia, ← drop_split, List.take_append_drop]
        have hperm : (lay (arrOf st) (sa + k) r.toList).Perm (arrOf st) := by
          rw [Array.perm_iff_toList_perm, hl]
          refine List.Perm.trans ?_ (List.Perm.of_eq hsplit.symm)
          exact List.Perm.append_right _ (List.Perm.append_left _ hM.1)
        have hsz' : (lay (arrOf st) (sa + k) r.toList).size = a₀.size := hperm.size_eq.trans hSz
        have hlen1 : ((arrOf st).toList.take (sa + k)).length = sa + k := by rw [List.length_take, Array.length_toList]; lia
        have hlow : ∀ j, j < sa + k → (lay (arrOf st) (sa + k) r.toList)[j]? = (arrOf st)[j]? := fun j hj => by
          rw [← Array.getElem?_toList, hl, List.append_assoc, List.getElem?_append_left (by lia), List.getElem?_take, if_pos hj, Array.getElem?_toList]
        have hmid : ∀ j, j < na - k + m → (lay (arrOf st) (sa + k) r.toList)[sa + k + j]? = r[j]? := fun j hj => by
          rw [← Array.getElem?_toList, hl, List.append_assoc, List.getElem?_append_right (by lia), hlen1, List.getElem?_append_left (by lia), Array.getElem?_toList]; congr 1; lia
        have hhigh : ∀ j, sa + na + m ≤ j → (lay (arrOf st) (sa + k) r.toList)[j]? = (arrOf st)[j]? := fun j hj => by
          rw [← Array.getElem?_toList, hl, List.getElem?_append_right (by rw [List.length_append, hlen1, hrl]; lia), List.length_append, hlen1, hrl, List.getElem?_drop, Array.getElem?_toList]; congr 1; lia
        rw [ha]
        refine h _ ⟨by rw [show arrOf (setArr st₁ (lay (arrOf st) (sa + k) r.toList)) = lay (arrOf st) (sa + k) r.toList from rfl]; exact hperm.trans hB.perm, hG.kind.trans hB.kind, hf⟩ hG.pend ?_ fun j hj => ?_
        · show Seg κ (lay (arrOf st) (sa + k) r.toList) sa (sa + (na + nb))
          -- sizes of the middle keys
          have hrs : r.size = na - k + m := by rw [← Array.length_toList]; exact hrl
          have hrK : ∀ j, j < na - k + m → ∃ z, r[j]? = some z ∧ KK κ (lay (arrOf st) (sa + k) r.toList) (sa + k + j) = ky κ z ∧ (z ∈ ((arrOf st).extract (sa + k) (sa + na)).toList ∨ z ∈ ((arrOf st).extract (sa + na) (sa + na + m)).toList) := fun j hj => by
            have hj' : j < r.size := by lia
            refine ⟨r[j], getElem?_pos r j hj', ?_, ?_⟩
            · rw [KK_congr (hmid j hj)]; exact KK_at (getElem?_pos r j hj')
            · exact List.mem_append.mp (hM.1.mem_iff.mp (by simp))
          have hbelow : ∀ p j, sa ≤ p → p < sa + k → j < na - k + m → κ.kle (KK κ (arrOf st) p) (KK κ (lay (arrOf st) (sa + k) r.toList) (sa + k + j)) := fun p j h1 h2 hj => by
            obtain ⟨z, ez, hz, hzm⟩ := hrK j hj
            rw [hz]
            rcases hzm with hzm | hzm
            · rw [hXl] at hzm
              obtain ⟨q, q1, q2, eq⟩ := mem_cut_at hzm
              have := s1 p q h1 (by lia) (by lia)
              rw [arr_at eq] at this; exact this
            · rw [ext_k] at hzm
              obtain ⟨q, q1, q2, eq⟩ := mem_cut_at hzm
              have a1 := k2 (p - sa) (by lia)
              rw [Nat.add_sub_cancel' h1, ← hKy] at a1
              have := s2 (sa + na) q (by lia) q1 (by lia)
              rw [arr_at eq] at this
              exact KeyOrd.kle_trans a1 this
          have habove : ∀ q j, sa + na + m ≤ q → q < sa + (na + nb) → j < na - k + m → κ.kle (KK κ (lay (arrOf st) (sa + k) r.toList) (sa + k + j)) (KK κ (arrOf st) q) := fun q j h1 h2 hj => by
            obtain ⟨z, ez, hz, hzm⟩ := hrK j hj
            rw [hz]
            rcases hzm with hzm | hzm
            · rw [hXl] at hzm
              obtain ⟨p, q1, q2, eq⟩ := mem_cut_at hzm
              have a1 := m3 (q - (sa + na)) (by lia) (by lia)
              rw [Nat.add_sub_cancel' (Nat.le_trans (Nat.le_add_right _ m) h1), ← hKx] at a1
              have := s1 p (sa + k + (na - k) - 1) (by lia) (by lia) (by lia)
              rw [arr_at eq] at this
              exact KeyOrd.kle_trans this a1
            · rw [ext_k] at hzm
              obtain ⟨p, q1, q2, eq⟩ := mem_cut_at hzm
              have := s2 p q (by lia) (by lia) (by lia)
              rw [arr_at eq] at this; exact this
          intro p q h1 h2 h3
          by_cases hp : p < sa + k
          · rw [KK_congr (hlow p hp)]
            by_cases hq : q < sa + k
            · rw [KK_congr (hlow q hq)]; exact s1 p q h1 h2 (by lia)
            · by_cases hq2 : q < sa + na + m
              · have := hbelow p (q - (sa + k)) h1 hp (by lia)
                rwa [Nat.add_sub_cancel' (Nat.le_of_not_lt hq)] at this
              · rw [KK_congr (hhigh q (by lia))]
                have a1 := k2 (p - sa) (by lia)
                rw [Nat.add_sub_cancel' h1, ← hKy] at a1
                exact KeyOrd.kle_trans a1 (s2 (sa + na) q (by lia) (by lia) (by lia))
          · by_cases hq2 : q < sa + na + m
            · have hpj : p - (sa + k) < na - k + m := by lia
              have hqj : q - (sa + k) < na - k + m := by lia
              have a1 := (Seg.of_pairwise hM.2) (p - (sa + k)) (q - (sa + k)) (Nat.zero_le _) (Nat.sub_le_sub_right h2 _) (by lia)
              have e3 : KK κ (lay (arrOf st) (sa + k) r.toList) p = KK κ r (p - (sa + k)) := KK_congr (by have := hmid _ hpj; rwa [Nat.add_sub_cancel' (Nat.le_of_not_lt hp)] at this)
              have e4 : KK κ (lay (arrOf st) (sa + k) r.toList) q = KK κ r (q - (sa + k)) := KK_congr (by have := hmid _ hqj; rwa [Nat.add_sub_cancel' (Nat.le_trans (Nat.le_of_not_lt hp) h2)] at this)
              rw [e3, e4]; exact a1
            · rw [KK_congr (hhigh q (by lia))]
              by_cases hp2 : p < sa + na + m
              · have := habove q (p - (sa + k)) (by lia) h3 (by lia)
                rwa [Nat.add_sub_cancel' (Nat.le_of_not_lt hp)] at this
              · rw [KK_congr (hhigh p (by lia))]; exact s2 p q (by lia) h2 (by lia)
        · show (lay (arrOf st) (sa + k) r.toList)[j]? = (arrOf st)[j]?
          rcases hj with hj | hj
          · exact hlow j (by lia)
          · exact hhigh j (by lia)
      split
      · exact wpS_bind (wpS_mergeLo hO hB.kind g fun r st₁ hG hM => fin r st₁ hG hM)
      · exact wpS_bind (wpS_mergeHi hO hB.kind g fun r st₁ hG hM => fin r st₁ hG hM)
end
end Mine

set_option autoImplicit false
set_option linter.unusedVariables false
namespace Mine
open PySem PyProof.Rows

/-! Part 7: the runs' chain -/
section
variable {κ : KeyKind} {xs ys : Array Keyed}
def Chain (κ : KeyKind) (xs : Array Keyed) : List (Nat × Nat × Nat) → Nat → Nat → Prop
  | [], a, b => a = b
  | p :: t, a, b => p.1 = a ∧ 1 ≤ p.2.1 ∧ Seg κ xs p.1 (p.1 + p.2.1) ∧ Chain κ xs t (p.1 + p.2.1) b
theorem Chain.len : ∀ {l : List (Nat × Nat × Nat)} {a b : Nat}, Chain κ xs l a b → a + l.length ≤ b
  | [], a, b, h => by simp only [Chain] at h; simp; lia
  | p :: t, a, b, h => by
    obtain ⟨h1, h2, _, h4⟩ := h
    have := Chain.len h4
    simp only [List.length_cons]; lia
theorem Chain.app : ∀ {l m : List (Nat × Nat × Nat)} {a c : Nat}, Chain κ xs (l ++ m) a c ↔ ∃ b, Chain κ xs l a b ∧ Chain κ xs m b c
  | [], m, a, c => ⟨fun h => ⟨a, rfl, h⟩, fun ⟨b, h1, h2⟩ => by simp only [Chain] at h1; subst h1; exact h2⟩
  | p :: t, m, a, c => by
    constructor
    · rintro ⟨h1, h2, h3, h4⟩
      obtain ⟨b, h5, h6⟩ := Chain.app.mp h4
      exact ⟨b, ⟨h1, h2, h3, h5⟩, h6⟩
    · rintro ⟨b, ⟨h1, h2, h3, h4⟩, h5⟩
      exact ⟨h1, h2, h3, Chain.app.mpr ⟨b, h4, h5⟩⟩
theorem Chain.congr : ∀ {l : List (Nat × Nat × Nat)} {a b : Nat}, Chain κ xs l a b → (∀ k, a ≤ k → k < b → ys[k]? = xs[k]?) → Chain κ ys l a b
  | [], a, b, h, _ => h
  | p :: t, a, b, h, e => by
    obtain ⟨h1, h2, h3, h4⟩ := h
    have := Chain.len h4
    exact ⟨h1, h2, h3.congr fun k k1 k2 => e k (by lia) (by lia), Chain.congr h4 fun k k1 k2 => e k (by lia) k2⟩
theorem Chain.same : ∀ {l m : List (Nat × Nat × Nat)} {a b : Nat}, l.map (fun x => (x.1, x.2.1)) = m.map (fun x => (x.1, x.2.1)) → Chain κ xs l a b → Chain κ xs m a b
  | [], [], _, _, _, h => h
  | [], _ :: _, _, _, e, _ => by simp at e
  | _ :: _, [], _, _, e, _ => by simp at e
  | p :: l, q :: m, a, b, e, h => by
    simp only [List.map_cons, List.cons.injEq, Prod.mk.injEq] at e
    obtain ⟨⟨e1, e2⟩, e3⟩ := e
    obtain ⟨h1, h2, h3, h4⟩ := h
    rw [e1] at h1 h3 h4; rw [e2] at h2 h3 h4
    exact ⟨h1, h2, h3, Chain.same e3 h4⟩
end

def srPush (lo n : Nat) : StateT SortSt Sem (ForInStep (Option Unit × Nat)) := do
  modify fun s => setPending s ((pendingOf s).push (lo, n, 0))
  pure (ForInStep.yield (none, lo + n))
def srCollapse (size pw : Nat) : StateT SortSt Sem (Option Unit × Unit) :=
  forIn [0:size] ((none, ()) : Option Unit × Unit) fun _ _ => do
    let st ← get
    match if (pendingOf st).size > 1 then (pendingOf st)[(pendingOf st).size - 2]? else none with
    | some (_, _, older) =>
      if older ≤ pw then pure (ForInStep.done (none, ()))
      else do
        let ok ← mergeAt' ((pendingOf st).size - 2)
        if (!ok) = true then pure (ForInStep.done (some (), ())) else pure (ForInStep.yield (none, ()))
    | _ => pure (ForInStep.done (none, ()))
def srTail (size lo n : Nat) : StateT SortSt Sem (ForInStep (Option Unit × Nat)) := do
  let st ← get
  match (pendingOf st).back? with
  | some (s1, n1, _) => do
    let c ← srCollapse size (power' size (2 * s1 + n1) (2 * s1 + n1 + n1 + n) size)
    Break.runK.match_1 (fun _ => StateT SortSt Sem (ForInStep (Option Unit × Nat))) c.1 (fun r => pure (ForInStep.done (some r, lo))) fun _ => do
      modify fun s => setPending s ((pendingOf s).modify ((pendingOf s).size - 1) fun (st, len, _) => (st, len, power' size (2 * s1 + n1) (2 * s1 + n1 + n1 + n) size))
      srPush lo n
  | _ => srPush lo n
def srBody (size minrun : Nat) (lo : Nat) : StateT SortSt Sem (ForInStep (Option Unit × Nat)) :=
  if lo ≥ size then pure (ForInStep.done (none, lo))
  else do
    let x ← countRun' lo (size - lo)
    match x with
    | some n =>
      if n < minrun then do
        liftM (rule "list.sort.binary-insertion")
        let ok ← binarySort' lo (min (size - lo) minrun) n
        if (!ok) = true then pure (ForInStep.done (some (), lo)) else srTail size lo (min (size - lo) minrun)
      else srTail size lo n
    | _ => pure (ForInStep.done (some (), lo))
def srFinal (size : Nat) : StateT SortSt Sem (Option Unit × Unit) :=
  forIn [0:size] ((none, ()) : Option Unit × Unit) fun _ _ => do
    let st ← get
    if (pendingOf st).size ≤ 1 then pure (ForInStep.done (none, ()))
    else do
      let ok ← mergeAt' (if ((if (pendingOf st).size - 2 > 0 then (pendingOf st)[(pendingOf st).size - 2 - 1]?.map (·.2.1) else none).any (fun x => decide (x < ((pendingOf st)[(pendingOf st).size - 2 + 1]?.elim 0 (·.2.1))))) = true then (pendingOf st).size - 2 - 1 else (pendingOf st).size - 2)
      if (!ok) = true then pure (ForInStep.done (some (), ())) else pure (ForInStep.yield (none, ()))
theorem sortRunsM_eq : sortRuns' = (do
    let st ← get
    let c ← forIn [0:(arrOf st).size] ((none, 0) : Option Unit × Nat) fun _ c => srBody (arrOf st).size (minRun' (arrOf st).size (arrOf st).size 0) c.2
    Break.runK.match_1 (fun _ => StateT SortSt Sem Unit) c.1 (fun r => pure r) fun _ => do
      let c ← srFinal (arrOf st).size
      Break.runK.match_1 (fun _ => StateT SortSt Sem Unit) c.1 (fun r => pure r) fun _ => pure ()) := rfl

section
variable {prog : Program} {w : World} {A : Around} {E : Value → Shared → Prop} {s : Shared} {κ : KeyKind} {a₀ : Array Keyed}

theorem wpS_mergeC {st : SortSt} {i lo : Nat} {Q : Bool → SortSt → Prop} (hO : κ.OneLt) (h0 : KeysOf κ a₀) (hB : SB a₀ st) (hC : Chain κ (arrOf st) (pendingOf st).toList 0 lo) (hlo : lo ≤ a₀.size) (hi : i + 1 < (pendingOf st).size)
    (h : ∀ st', SB a₀ st' → Chain κ (arrOf st') (pendingOf st').toList 0 lo → (pendingOf st').size + 1 = (pendingOf st).size → (∀ k, lo ≤ k → (arrOf st')[k]? = (arrOf st)[k]?) → Q true st') :
    wpS (model prog w) A E s (mergeAt' i) Q st := by
  have hl : (pendingOf st).toList.length = (pendingOf st).size := Array.length_toList
  have e1 : (pendingOf st)[i]? = some (pendingOf st)[i] := getElem?_pos _ _ (by lia)
  have e2 : (pendingOf st)[i + 1]? = some (pendingOf st)[i + 1] := getElem?_pos (pendingOf st) (i + 1) hi
  have esplit : (pendingOf st).toList = (pendingOf st).toList.take i ++ (pendingOf st)[i] :: (pendingOf st)[i + 1] :: (pendingOf st).toList.drop (i + 2) := by
    conv => lhs; rw [← List.take_append_drop i (pendingOf st).toList]
    rw [List.drop_eq_getElem_cons (by lia : i < (pendingOf st).toList.length), List.drop_eq_getElem_cons (by lia : i + 1 < (pendingOf st).toList.length)]
    simp
  generalize (pendingOf st)[i] = pa at e1 esplit
  generalize (pendingOf st)[i + 1] = pb at e2 esplit
  obtain ⟨sa, na, wa⟩ := pa
  obtain ⟨sb, nb, wb⟩ := pb
  have hC' := hC
  rw [esplit] at hC'
  obtain ⟨b, hc1, hc2⟩ := Chain.app.mp hC'
  obtain ⟨f1, f2, f3, g1, g2, g3, hc3⟩ := hc2
  dsimp only at f1 f2 f3 g1 g2 g3 hc3
  have hle1 := Chain.len hc1
  have hle2 := Chain.len hc3
  refine wpS_mergeAt hO h0 hB e1 e2 g1 (by lia) f2 g2 f3 g3 fun st' hB' hp hs hout => ?_
  have htl : (pendingOf st').toList = (pendingOf st).toList.take i ++ (sa, na + nb, wa) :: (pendingOf st).toList.drop (i + 2) := by
    rw [hp, Array.eraseIdxIfInBounds, dif_pos (by rw [Array.size_setIfInBounds]; exact hi), Array.toList_eraseIdx, Array.toList_setIfInBounds]
    have hlen : ((pendingOf st).toList.take i).length = i := by rw [List.length_take]; lia
    conv => lhs; rw [esplit]
    rw [List.set_append_right _ _ (by lia), hlen, Nat.sub_self, List.set_cons_zero, List.eraseIdx_append_of_length_le (by lia), hlen, show i + 1 - i = 1 by lia]
    rfl
  refine h st' hB' ?_ ?_ fun k hk => hout k (.inr (by lia))
  · rw [htl]
    refine Chain.app.mpr ⟨b, hc1.congr fun k k1 k2 => hout k (.inl (by lia)), f1, by dsimp only; lia, hs, ?_⟩
    dsimp only
    rw [show sa + (na + nb) = sb + nb by lia]
    exact hc3.congr fun k k1 k2 => hout k (.inr (by lia))
  · have := congrArg List.length htl
    rw [Array.length_toList, List.length_append, List.length_cons, List.length_take, List.length_drop] at this
    lia

theorem wpS_srPush {st : SortSt} {lo n : Nat} {Q : ForInStep (Option Unit × Nat) → SortSt → Prop} (hB : SB a₀ st) (hC : Chain κ (arrOf st) (pendingOf st).toList 0 lo) (hn : 1 ≤ n) (hs : Seg κ (arrOf st) lo (lo + n))
    (h : ∀ st', SB a₀ st' → Chain κ (arrOf st') (pendingOf st').toList 0 (lo + n) → Q (.yield (none, lo + n)) st') : wpS (model prog w) A E s (srPush lo n) Q st := by
  unfold srPush
  refine wpS_bind (wpS_modify (wpS_pure (h _ ⟨hB.perm, hB.kind, hB.failed⟩ ?_)))
  show Chain κ (arrOf st) ((pendingOf st).push (lo, n, 0)).toList 0 (lo + n)
  rw [Array.toList_push]
  exact Chain.app.mpr ⟨lo, hC, rfl, hn, hs, rfl⟩

theorem wpS_srTail {st : SortSt} {lo n : Nat} {Q : ForInStep (Option Unit × Nat) → SortSt → Prop} (hO : κ.OneLt) (h0 : KeysOf κ a₀) (hB : SB a₀ st) (hC : Chain κ (arrOf st) (pendingOf st).toList 0 lo) (hn : 1 ≤ n) (hle : lo + n ≤ a₀.size) (hs : Seg κ (arrOf st) lo (lo + n))
    (h : ∀ st', SB a₀ st' → Chain κ (arrOf st') (pendingOf st').toList 0 (lo + n) → Q (.yield (none, lo + n)) st') : wpS (model prog w) A E s (srTail a₀.size lo n) Q st := by
  unfold srTail
  refine wpS_bind (wpS_get ?_)
  cases hb : (pendingOf st).back? with
  | none => exact wpS_srPush hB hC hn hs h
  | some p =>
    obtain ⟨s1, n1, w1⟩ := p
    dsimp only
    generalize power' a₀.size (2 * s1 + n1) (2 * s1 + n1 + n1 + n) a₀.size = pw
    unfold srCollapse
    refine wpS_bind (wpS_mono (wpS_forRange (I := fun _ c st' => c.1 = none ∧ SB a₀ st' ∧ Chain κ (arrOf st') (pendingOf st').toList 0 lo ∧ Seg κ (arrOf st') lo (lo + n))
      (Q := fun c st' => c.1 = none ∧ SB a₀ st' ∧ Chain κ (arrOf st') (pendingOf st').toList 0 lo ∧ Seg κ (arrOf st') lo (lo + n)) ?step (fun _ _ h => h) ⟨rfl, hB, hC, hs⟩) ?post)
    case step =>
      rintro x c st' _ hx ⟨_, hB', hC', hs'⟩
      refine wpS_bind (wpS_get ?_)
      by_cases h1 : (pendingOf st').size > 1
      · rw [if_pos h1, getElem?_pos (pendingOf st') _ (by lia : (pendingOf st').size - 2 < (pendingOf st').size)]
        dsimp only
        split
        · exact wpS_pure ⟨rfl, hB', hC', hs'⟩
        · refine wpS_bind (wpS_mergeC hO h0 hB' hC' (by lia) (by lia) fun st2 b1 b2 b3 b4 => ?_)
          simp only [Bool.not_true, Bool.false_eq_true, if_false]
          exact wpS_pure ⟨rfl, b1, b2, hs'.congr fun k k1 k2 => b4 k k1⟩
      · rw [if_neg h1]
        exact wpS_pure ⟨rfl, hB', hC', hs'⟩
    case post =>
      rintro c st' ⟨e, hB', hC', hs'⟩
      rw [e]
      dsimp only
      refine wpS_bind (wpS_modify ?_)
      refine wpS_srPush (κ := κ) ⟨hB'.perm, hB'.kind, hB'.failed⟩ ?_ hn hs' h
      refine Chain.same ?_ hC'
      show _ = ((pendingOf st').modify _ _).toList.map _
      rw [Array.toList_modify]
      refine List.ext_getElem? fun i => ?_
      rw [List.getElem?_map, List.getElem?_map, List.getElem?_modify]
      cases (pendingOf st').toList[i]? with
      | none => simp
      | some q => obtain ⟨a, b, c⟩ := q; simp only [Option.map_some]; split <;> rfl

theorem wpS_srBody {st : SortSt} {lo mr : Nat} {Q : ForInStep (Option Unit × Nat) → SortSt → Prop} (hO : κ.OneLt) (h0 : KeysOf κ a₀) (hB : SB a₀ st) (hC : Chain κ (arrOf st) (pendingOf st).toList 0 lo) (hlo : lo ≤ a₀.size)
    (hd : lo = a₀.size → Q (.done (none, lo)) st) (h : ∀ n st', 1 ≤ n → lo + n ≤ a₀.size → SB a₀ st' → Chain κ (arrOf st') (pendingOf st').toList 0 (lo + n) → Q (.yield (none, lo + n)) st') : wpS (model prog w) A E s (srBody a₀.size mr lo) Q st := by
  unfold srBody
  by_cases hge : lo ≥ a₀.size
  · rw [if_pos hge]; exact wpS_pure (hd (by lia))
  · rw [if_neg hge]
    refine wpS_bind (wpS_countRunL hO h0 (by lia) (by lia) hB fun m st1 hM hm1 hm2 hs => ?_)
    dsimp only
    have hC1 : Chain κ (arrOf st1) (pendingOf st1).toList 0 lo := by rw [hM.pend]; exact hC.congr fun k k1 k2 => hM.out k (.inl k2)
    split
    · rename_i hlt
      refine wpS_bind (wpS_lift (wpAny_rule ⟨rfl, ?_⟩))
      refine wpS_bind (wpS_binarySortL hO h0 (by lia) (by lia) hM.sb hs fun st2 hM2 hs2 => ?_)
      simp only [Bool.not_true, Bool.false_eq_true, if_false]
      have hC2 : Chain κ (arrOf st2) (pendingOf st2).toList 0 lo := by rw [hM2.pend]; exact hC1.congr fun k k1 k2 => hM2.out k (.inl k2)
      exact wpS_srTail hO h0 hM2.sb hC2 (by lia) (by lia) hs2 fun st3 b1 b2 => h _ st3 (by lia) (by lia) b1 b2
    · exact wpS_srTail hO h0 hM.sb hC1 hm1 (by lia) hs fun st3 b1 b2 => h _ st3 hm1 (by lia) b1 b2

theorem wpS_sortRunsL {st : SortSt} {Q : Unit → SortSt → Prop} (hO : κ.OneLt) (h0 : KeysOf κ a₀) (hB : SB a₀ st) (hp : pendingOf st = #[])
    (h : ∀ st', (arrOf st').Perm a₀ → failedOf st' = none → SortedToK κ (arrOf st') a₀.size → Q () st') : wpS (model prog w) A E s sortRuns' Q st := by
  rw [sortRunsM_eq]
  refine wpS_bind (wpS_get ?_)
  rw [hB.size]
  refine wpS_bind (wpS_mono (wpS_forRange (I := fun x c st' => ∃ lo, c = (none, lo) ∧ SB a₀ st' ∧ Chain κ (arrOf st') (pendingOf st').toList 0 lo ∧ lo ≤ a₀.size ∧ x ≤ lo)
    (Q := fun c st' => c.1 = none ∧ SB a₀ st' ∧ Chain κ (arrOf st') (pendingOf st').toList 0 a₀.size) ?step ?fin ⟨0, rfl, hB, by rw [hp]; rfl, by lia, by lia⟩) ?post)
  case fin =>
    rintro c st' ⟨lo, rfl, b1, b2, b3, b4⟩
    have : lo = a₀.size := by lia
    subst this
    exact ⟨rfl, b1, b2⟩
  case step =>
    rintro x c st' _ hx ⟨lo, rfl, b1, b2, b3, b4⟩
    exact wpS_srBody hO h0 b1 b2 b3 (fun e => ⟨rfl, b1, by have e' : lo = a₀.size := e; rw [e'] at b2; exact b2⟩) fun n st2 c1 c2 c3 c4 => ⟨lo + n, rfl, c3, c4, c2, by lia⟩
  case post =>
    rintro c st' ⟨e, b1, b2⟩
    rw [e]
    dsimp only
    unfold srFinal
    have hlen := Chain.len b2
    rw [Array.length_toList] at hlen
    refine wpS_bind (wpS_mono (wpS_forRange (I := fun x c st2 => c.1 = none ∧ SB a₀ st2 ∧ Chain κ (arrOf st2) (pendingOf st2).toList 0 a₀.size ∧ (pendingOf st2).size + x ≤ a₀.size)
      (Q := fun c st2 => c.1 = none ∧ SB a₀ st2 ∧ Chain κ (arrOf st2) (pendingOf st2).toList 0 a₀.size ∧ (pendingOf st2).size ≤ 1) ?step ?fin ⟨rfl, b1, b2, by lia⟩) ?post)
    case fin =>
      rintro c st2 ⟨c1, c2, c3, c4⟩
      exact ⟨c1, c2, c3, by lia⟩
    case step =>
      rintro x c st2 _ hx ⟨c1, c2, c3, c4⟩
      refine wpS_bind (wpS_get ?_)
      by_cases hle : (pendingOf st2).size ≤ 1
      · rw [if_pos hle]; exact wpS_pure ⟨rfl, c2, c3, hle⟩
      · rw [if_neg hle]
        refine wpS_bind (wpS_mergeC hO h0 c2 c3 (Nat.le_refl _) (by (repeat' split) <;> lia) fun st3 d1 d2 d3 d4 => ?_)
        simp only [Bool.not_true, Bool.false_eq_true, if_false]
        exact wpS_pure ⟨rfl, d1, d2, by lia⟩
    case post =>
      rintro c st2 ⟨c1, c2, c3, c4⟩
      rw [c1]
      refine wpS_pure (h st2 c2.perm c2.failed ?_)
      cases hl : (pendingOf st2).toList with
      | nil =>
        rw [hl] at c3
        simp only [Chain] at c3
        intro i j h1 h2; lia
      | cons p t =>
        have : t = [] := by
          have := congrArg List.length hl
          rw [Array.length_toList, List.length_cons] at this
          exact List.eq_nil_of_length_eq_zero (by lia)
        subst this
        rw [hl] at c3
        obtain ⟨f1, f2, f3, f4⟩ := c3
        simp only [Chain] at f4
        rw [f1] at f3 f4
        intro i j h1 h2
        exact f3 i j (by lia) h1 (by lia)
end
end Mine

set_option autoImplicit false
set_option linter.unusedVariables false
set_option maxRecDepth 100000
namespace Mine
open PySem PyProof.Rows

/-! Part 8: list.sort of any size -/
section
variable {prog : Program} {w : World} {A : Around} {E : Value → Shared → Prop} {s : Shared}

theorem list_sort_any {κ : KeyKind} (hO : κ.OneLt) {a : Addr} {vs : List Value} {n : Nat} {P : Fin → Shared → Prop} (ho : s.heap.get? a = some (seqObj "list" vs.toArray n))
    (h0 : KeysOf κ (pairsOf vs)) (hkk : ∀ v₁ v₂ rest, vs = v₁ :: v₂ :: rest → keyKind' (v₁ :: v₂ :: rest).toArray = pure oneType') (hn : vs.length ≤ sizeLine)
    (h : ∀ st' : SortSt, (arrOf st').Perm (pairsOf vs) → SortedToK κ (arrOf st') (pairsOf vs).size → P (.done (.ret .none)) { s with heap := sortedHeap s.heap a vs ((arrOf st').map (·.2)) }) :
    wpAny (model prog w) A (Builtin.«list.sort» ⟨[.ref a], []⟩) P E s := by
  by_cases h2 : vs.length < 2
  · exact list_sort_treeK hO ho h0 hkk (by omega) h
  obtain ⟨v₁, v₂, rest, rfl⟩ : ∃ v₁ v₂ rest, vs = v₁ :: v₂ :: rest := by
    match vs, h2 with
    | [], h2 => simp at h2
    | [_], h2 => simp at h2
    | v₁ :: v₂ :: rest, _ => exact ⟨v₁, v₂, rest, rfl⟩
  generalize hvs : v₁ :: v₂ :: rest = vs at *
  have hk2 := hkk v₁ v₂ rest hvs.symm
  rw [hvs] at hk2
  have hlt : a < s.heap.objs.size := Heap.lt_size ho
  have hsz : ¬ vs.toArray.size < 2 := by simpa using h2
  rw [list_sort_plain]
  refine wpAny_bind (listItems_at ho rfl (wpAny_bind (listUpdate_at ho rfl ?_ (by simpa using hn) (by simp))))
  obtain ⟨e1, ho1⟩ : ∃ e1, (s.heap.update a (Obj.mapSeq fun _ => #[])).get? a = some (seqObj "list" #[] e1) := ⟨_, get?_update_seq ho (fun _ => #[])⟩
  refine wpAny_bind (seqEpoch_at ho1 rfl (wpAny_bind (wpAny_newTuple (wpAny_bind (wpAny_newList (wpAny_holding ?_))) (by simpa using hn))))
  have ho2 : (((s.heap.update a (Obj.mapSeq fun _ => #[])).push (seqObj "tuple" vs.toArray 0)).push (seqObj "list" #[] 0)).get? a = some (seqObj "list" #[] e1) := by
    rw [Heap.get?_push_ne _ _ _ (by rw [size_push', Heap.size_update]; exact Nat.ne_of_lt (Nat.lt_succ_of_lt hlt)), Heap.get?_push_ne _ _ _ (by rw [Heap.size_update]; exact Nat.ne_of_lt hlt)]
    exact ho1
  show wpAny (model prog w) A _ P E { s with heap := ((s.heap.update a (Obj.mapSeq fun _ => #[])).push (seqObj "tuple" vs.toArray 0)).push (seqObj "list" #[] 0) }
  dsimp only
  rw [if_neg hsz, if_neg hsz, hk2]
  refine wpAny_bind (wpAny_pure (wpAny_bind (wpAny_mono (wpS_sortRunsL (κ := κ) hO (a₀ := pairsOf vs) (st := SortSt.mk' oneType' (vs.toArray.zip vs.toArray) #[] 7 none)
    (Q := fun _ st' => (arrOf st').Perm (pairsOf vs) ∧ failedOf st' = none ∧ SortedToK κ (arrOf st') (pairsOf vs).size) h0 ⟨Array.Perm.refl _, rfl, rfl⟩ rfl fun st' a1 a2 a3 => ⟨a1, a2, a3⟩) ?_ fun _ _ e => e)))
  rintro ⟨⟨⟩, st'⟩ s' ⟨rfl, hp, hf, hs⟩
  dsimp only
  have hout : ((arrOf st').map (·.2)).size = vs.length := by rw [Array.size_map, hp.size_eq, pairsOf_size]
  refine wpAny_bind (seqEpoch_at ho2 rfl (wpAny_bind (listUpdate_at ho2 rfl ?_ (hsz2 := by rw [hout]; omega))))
  rw [hf]
  simp only [bne_self_eq_false, Bool.false_eq_true, if_false]
  exact wpAny_pure (h st' hp hs)
end
end Mine

set_option autoImplicit false
set_option linter.unusedVariables false
set_option maxRecDepth 100000
namespace Mine
open PySem PySem.W PySem.Calls PyProof.Rows

section
variable {prog : Program} {w : World} {B : Shared} {mg mb : Str → Option Value} {φ φ' : List Addr} {σ σ' : List AObj} {s s' : Shared} {env : Env} {ρ l : List (Str × V)} {A : Around} {X : XT} {Q : V → List AObj → Prop}

theorem vals_of {h : Heap} : ∀ {xs : List V} {vs : List Value}, vs.length = xs.length → (∀ (i : Nat) (x : V) (v : Value), xs[i]? = some x → vs[i]? = some v → Val φ h x v) → Vals φ h xs vs
  | [], [], _, _ => .nil
  | [], _ :: _, e, _ => by simp at e
  | _ :: _, [], e, _ => by simp at e
  | x :: xs, v :: vs, e, f => .cons (f 0 x v rfl rfl) (vals_of (by simpa using e) fun i y u h1 h2 => f (i + 1) y u h1 h2)

/-- a new list laid somewhere above -/
theorem St.newList {h' : Heap} {tk : Nat} {c : Addr} {xs : List V} {items : Array Value} {n : Nat} (G : St prog w B φ σ s) (hc : s.heap.objs.size ≤ c) (hk : ∀ b o, s.heap.get? b = some o → h'.get? b = some o) (ho : h'.get? c = some { cls := .type "list", data := .seq items n }) (hv : Vals φ h' xs items.toList) :
    Step [] φ s.heap (φ ++ [c]) h' ∧ St prog w B (φ ++ [c]) (σ ++ [.list xs]) { s with heap := h', toks := tk } ∧ Val (φ ++ [c]) h' (.ref σ.length) (.ref c) := by
  have hcφ : c ∉ φ := fun hm => by
    obtain ⟨o, e⟩ := G.there hm
    exact absurd (Heap.lt_size e) (Nat.not_lt.mpr hc)
  have hcs : c ≠ sysModules := fun e => by
    obtain ⟨⟨o, ho⟩, _⟩ := G.sys
    have := Heap.lt_size (G.base _ _ ho)
    rw [e] at hc
    exact absurd (Nat.lt_of_lt_of_le this hc) (by decide)
  refine ⟨Step.alloc (s' := { s with heap := h' }) (get?_of_ge hc) hk, G.alloc (s' := { s with heap := h', toks := tk }) (ob := .list xs) (get?_of_ge hc) hk ⟨items, n, ho, Vals.mono (List.prefix_append _ _) (fun _ _ e _ => e) xs hv⟩ hcφ hcs, ?_⟩
  rw [Val, ← G.len]
  exact ⟨_, rfl, by simp⟩

theorem St.newList2 {h₁ h' : Heap} {tk : Nat} {c : Addr} {xs : List V} {items : Array Value} {n : Nat} (G : St prog w B φ σ s) (hk1 : ∀ b o, s.heap.get? b = some o → h₁.get? b = some o) (hc : h₁.objs.size ≤ c) (hk : ∀ b o, s.heap.get? b = some o → h'.get? b = some o) (ho : h'.get? c = some { cls := .type "list", data := .seq items n }) (hv : Vals φ h' xs items.toList) :
    Step [] φ s.heap (φ ++ [c]) h' ∧ St prog w B (φ ++ [c]) (σ ++ [.list xs]) { s with heap := h', toks := tk } ∧ Val (φ ++ [c]) h' (.ref σ.length) (.ref c) := by
  have hnone : s.heap.get? c = none := by
    cases e : s.heap.get? c with
    | none => rfl
    | some o => exact absurd (Heap.lt_size (hk1 c o e)) (Nat.not_lt.mpr hc)
  have hcφ : c ∉ φ := fun hm => by
    obtain ⟨o, e⟩ := G.there hm
    rw [hnone] at e; cases e
  have hcs : c ≠ sysModules := fun e => by
    obtain ⟨⟨o, ho⟩, _⟩ := G.sys
    have := Heap.lt_size (hk1 _ _ (G.base _ _ ho))
    rw [e] at hc
    exact absurd (Nat.lt_of_lt_of_le this hc) (by decide)
  refine ⟨Step.alloc (s' := { s with heap := h' }) hnone hk, G.alloc (s' := { s with heap := h', toks := tk }) (ob := .list xs) hnone hk ⟨items, n, ho, Vals.mono (List.prefix_append _ _) (fun _ _ e _ => e) xs hv⟩ hcφ hcs, ?_⟩
  rw [Val, ← G.len]
  exact ⟨_, rfl, by simp⟩

theorem St.newListS {s₂ : Shared} {c : Addr} {xs : List V} {items : Array Value} {n : Nat} (G : St prog w B φ σ s) (hc : s.heap.objs.size ≤ c) (hk : ∀ b o, s.heap.get? b = some o → s₂.heap.get? b = some o) (hg : s₂.gens = s.gens) (hos : s₂.os = s.os) (ho : s₂.heap.get? c = some { cls := .type "list", data := .seq items n }) (hv : Vals φ s₂.heap xs items.toList) :
    Step [] φ s.heap (φ ++ [c]) s₂.heap ∧ St prog w B (φ ++ [c]) (σ ++ [.list xs]) s₂ ∧ Val (φ ++ [c]) s₂.heap (.ref σ.length) (.ref c) := by
  obtain ⟨t, G', hv'⟩ := G.newList (tk := s.toks) (h' := s₂.heap) hc hk ho hv
  exact ⟨t, ⟨G'.base, G'.new, G'.nodup, G'.len, G'.objs, hg.trans G.gens, hos.trans G.os, G'.sys⟩, hv'⟩
/-- list(d) -/
theorem C_list_dict {k : Nat} {es : List (Key × V)} {e : Option Nat} (hh : A.handled = none) (hσ : σ[k]? = some (.dict es e)) (hl : es.length ≤ sizeLine) (q : Q (.ref σ.length) (σ ++ [.list (es.map fun p => p.1.v)])) : WC prog w B A (.type "list") [.ref k] σ Q X := fun φ s vs G hv => by
  obtain ⟨v, rfl, hx⟩ := hv.one
  obtain ⟨a, rfl, ha⟩ := hx.of_ref
  obtain ⟨a', ha', kvs, ep, hd, hvs, _⟩ := G.get hσ
  rw [ha] at ha'; cases ha'
  refine src_list (src_dict (kvs := kvs) (ep := ep) (G.notSys (List.mem_of_getElem? ha))) hh hd (by rw [hvs.length]; exact hl) fun s' acc c hk hg hos ho hacc => ?_
  have hV : Vals φ s'.heap (es.map fun p => p.1.v) acc.toList := by
    refine vals_of (by rw [hacc.1, hvs.length, List.length_map]) fun i x v hx hv => ?_
    obtain ⟨key, y, h1, h2⟩ := hacc.2 i v hv
    have hk' := congrArg (fun l => l[i]?) hvs.keys
    simp only [List.getElem?_map, h1, Option.map_some] at hk'
    rw [List.getElem?_map] at hx
    cases hp : es[i]? with
    | none => rw [hp] at hx; cases hx
    | some p =>
      rw [hp] at hx hk'
      simp only [Option.map_some, Option.some.injEq] at hx hk'
      subst hx hk'
      exact Key.val h2
  obtain ⟨t, G', hv'⟩ := G.newListS (xs := es.map fun p => p.1.v) (Nat.le_refl _) hk hg hos ho hV
  exact ⟨_, _, t, G', _, hv', q⟩
end

/-! the order of texts -/
def leS (a b : Str) : Bool := !decide (b.cps.toList < a.cps.toList)
def srt (l : List Str) : List Str := l.mergeSort leS
theorem leS_total (a b : Str) : (leS a b || leS b a) = true := by
  unfold leS
  cases h : decide (b.cps.toList < a.cps.toList) with
  | false => rfl
  | true =>
    have := KeyOrd.klt_asymm (O := PyProof.Rows.strKind.toKeyOrd) (a := b.cps.toList) (b := a.cps.toList) h
    have h2 : decide (a.cps.toList < b.cps.toList) = false := this
    rw [h2]; rfl
theorem leS_trans (a b c : Str) (h1 : leS a b = true) (h2 : leS b c = true) : leS a c = true := by
  unfold leS at *
  have e1 : decide (b.cps.toList < a.cps.toList) = false := by simpa using h1
  have e2 : decide (c.cps.toList < b.cps.toList) = false := by simpa using h2
  have := KeyOrd.kle_trans (O := PyProof.Rows.strKind.toKeyOrd) (a := a.cps.toList) (b := b.cps.toList) (c := c.cps.toList) e1 e2
  have e3 : decide (c.cps.toList < a.cps.toList) = false := this
  rw [e3]; rfl
theorem leS_antisymm (a b : Str) (h1 : leS a b = true) (h2 : leS b a = true) : a = b := by
  unfold leS at *
  have e1 : decide (b.cps.toList < a.cps.toList) = false := by simpa using h1
  have e2 : decide (a.cps.toList < b.cps.toList) = false := by simpa using h2
  have := KeyOrd.kle_antisymm (O := PyProof.Rows.strKind.toKeyOrd) (a := a.cps.toList) (b := b.cps.toList) e1 e2
  obtain ⟨⟨x⟩⟩ := a; obtain ⟨⟨y⟩⟩ := b
  simp at this; subst this; rfl
theorem sorted_unique : ∀ {l m : List Str}, l.Perm m → l.Pairwise (fun a b => leS a b = true) → m.Pairwise (fun a b => leS a b = true) → l = m
  | [], m, hp, _, _ => (List.nil_perm.mp hp).symm
  | a :: l, [], hp, _, _ => by have := hp.length_eq; simp at this
  | a :: l, b :: m, hp, h1, h2 => by
    have hab : a = b := by
      rw [List.pairwise_cons] at h1 h2
      rcases List.mem_cons.mp (hp.subset (List.mem_cons_self)) with e | hm
      · exact e
      · rcases List.mem_cons.mp (hp.symm.subset (List.mem_cons_self)) with e | hm'
        · exact e.symm
        · exact leS_antisymm _ _ (h1.1 b hm') (h2.1 a hm)
    subst hab
    rw [sorted_unique (List.Perm.cons_inv hp) (List.pairwise_cons.mp h1).2 (List.pairwise_cons.mp h2).2]
theorem srt_perm (l : List Str) : (srt l).Perm l := List.mergeSort_perm l leS
theorem srt_sorted (l : List Str) : (srt l).Pairwise (fun a b => leS a b = true) := List.pairwise_mergeSort leS_trans leS_total l

theorem ltCps_lt : ∀ a b : List Nat, PySem.Spec.ltCps a b = decide (a < b)
  | [], [] => by simp [PySem.Spec.ltCps]
  | [], b :: t => by simp [PySem.Spec.ltCps]
  | a :: r, [] => by simp [PySem.Spec.ltCps]
  | a :: r, b :: t => by
    rw [PySem.Spec.ltCps, StrLaws.lt_cons_cons, ltCps_lt r t]
theorem risingS_pairwise : ∀ (p : Str) (l : List Str), risingS p l = true → (p :: l).Pairwise (fun a b => leS a b = true)
  | p, [], _ => by simp
  | p, x :: r, h => by
    have h' : (!PySem.Spec.ltCps x.cps.toList p.cps.toList && risingS x r) = true := h
    rw [ltCps_lt, Bool.and_eq_true] at h'
    have ih := risingS_pairwise x r h'.2
    refine List.pairwise_cons.mpr ⟨fun y hy => ?_, ih⟩
    rcases List.mem_cons.mp hy with rfl | hy
    · exact h'.1
    · exact leS_trans p x y h'.1 ((List.pairwise_cons.mp ih).1 y hy)
theorem sortedS_pairwise : ∀ (l : List Str), sortedS l = true → l.Pairwise (fun a b => leS a b = true)
  | [], _ => .nil
  | x :: r, h => risingS_pairwise x r h
theorem sortedS_eq {l m : List Str} (hp : l.Perm m) (h : sortedS l = true) : l = srt m :=
  sorted_unique (hp.trans (srt_perm m).symm) (sortedS_pairwise l h) (srt_sorted m)

section
variable {prog : Program} {w : World} {B : Shared} {φ φ' : List Addr} {σ σ' : List AObj} {s s' : Shared} {A : Around} {X : XT} {Q : V → List AObj → Prop}
theorem StrsAre.vals {h : Heap} : ∀ {vs : List Value} {ss : List Str}, StrsAre vs ss → Vals φ h (ss.map V.str) vs
  | _, _, .nil => .nil
  | _, _, .cons x t r => .cons (.str_ _ _) (StrsAre.vals r)
def keyS : Key → Str
  | .s x => x
  | .i _ => ⟨#[]⟩
theorem srt_congr {l m : List Str} (h : l.Perm m) : srt l = srt m := sorted_unique ((srt_perm l).trans (h.trans (srt_perm m).symm)) (srt_sorted l) (srt_sorted m)
/-- sorted(a source of texts) -/
theorem sorted_src {T : String} {r : Addr} {n : Nat} {Good : List Value → Prop} {OK : Heap → Prop} {ss : List Str} (K : Src prog w T r n Good OK) (hh : A.handled = none) (G : St prog w B φ σ s) (hok : OK s.heap) (hn : n ≤ sizeLine) (hlen : ss.length = n)
    (hgood : ∀ vs, Good vs → ∃ l, StrsAre vs l ∧ l.Perm ss) (q : Q (.ref σ.length) (σ ++ [.list ((srt ss).map V.str)])) :
    wpAny (model prog w) A (call (.builtin "sorted") [.ref r]) (Post prog w B [] φ s (vQ Q)) (Post prog w B [] φ s X) s := by
  refine Calls.call_function_entry kind_sorted plain_sorted entry_sorted (args_sorted1 _) ?_
  unfold Builtin.«sorted»
  refine wpAny_bind (m := checkCount "sorted" 1 1 _) (wpAny_pure ?_)
  refine wpAny_bind (src_collect (A := A.in1) K hh hok hn fun s₁ acc hk hg₁ ho₁ hacc => ?_)
  obtain ⟨l, hS, hperm⟩ := hgood acc hacc
  have hl : acc.length ≤ sizeLine := by rw [StrsAre.length hS, hperm.length_eq, hlen]; exact hn
  refine wpAny_bind (wpAny_newList ?_ hl)
  have hoL : (s₁.heap.push { cls := .type "list", data := .seq acc.toArray }).get? s₁.heap.objs.size = some (seqObj "list" acc.toArray 0) := Heap.get?_push_size _ rfl
  refine wpAny_bind (wpAny_holding (wpAny_call_entry slot_list_sort ⟨_, hoL, rfl⟩ entry_list_sort (list_sort_any strKind_oneLt hoL hS.keysOf (fun v₁ v₂ rest e => keyKind_strs (by rw [← e]; exact hS)) hl fun st' hp hs => ⟨_, rfl, ?_⟩) (args_list_sort _)))
  obtain ⟨ss', a1, a2, a3⟩ := sorted_out_str hS hp hs
  have e := sortedS_eq a2 a3
  rw [srt_congr hperm] at e
  subst e
  refine wpAny_pure ⟨_, rfl, ?_⟩
  obtain ⟨e2, he⟩ := sortedHeap_at (vs := acc) (out := (arrOf st').map (·.2)) hoL
  have hkeep : ∀ b o, s.heap.get? b = some o → (sortedHeap (s₁.heap.push { cls := .type "list", data := .seq acc.toArray }) s₁.heap.objs.size acc ((arrOf st').map (·.2))).get? b = some o := fun b o eo => by
    have hlt := Heap.lt_size (hk b o eo)
    rw [sortedHeap_old (Nat.ne_of_lt hlt) (by rw [size_push']; exact Nat.lt_succ_of_lt hlt)]
    exact Heap.get?_push_of_some _ (hk b o eo)
  obtain ⟨t, G', hv'⟩ := G.newList2 (tk := s₁.toks) (xs := (srt ss).map V.str) hk (Nat.le_refl _) hkeep he (StrsAre.vals a1)
  exact ⟨_, _, t, ⟨G'.base, G'.new, G'.nodup, G'.len, G'.objs, hg₁.trans G.gens, ho₁.trans G.os, G'.sys⟩, _, hv', q⟩
theorem keys_strs : ∀ {vs : List Value} {es : List (Key × V)}, vs.length = es.length → (∀ p ∈ es, ∃ x, p.1 = Key.s x) → (∀ (j : Nat) (v : Value) (p : Key × V), vs[j]? = some v → es[j]? = some p → p.1.is v = true) → StrsAre vs (es.map fun p => keyS p.1)
  | [], [], _, _, _ => .nil
  | [], _ :: _, e, _, _ => by simp at e
  | _ :: _, [], e, _, _ => by simp at e
  | v :: vs, p :: es, e, h1, h2 => by
    obtain ⟨x, hp⟩ := h1 p (.head _)
    have hv := h2 0 v p rfl rfl
    rw [hp] at hv
    rcases Key.is_shape hv with ⟨y, t, e1, rfl⟩ | ⟨y, t, e1, rfl⟩
    · cases e1
      rw [List.map_cons, hp]
      exact .cons _ _ (keys_strs (by simpa using e) (fun q hq => h1 q (.tail _ hq)) fun j u q a b => h2 (j + 1) u q a b)
    · cases e1
/-- sorted(a dict of texts) -/
theorem C_sorted_dict {k : Nat} {es : List (Key × V)} {ep : Option Nat} (hh : A.handled = none) (hσ : σ[k]? = some (.dict es ep)) (hes : ∀ p ∈ es, ∃ x, p.1 = .s x) (h64 : es.length ≤ sizeLine) (q : Q (.ref σ.length) (σ ++ [.list ((srt (es.map fun p => keyS p.1)).map V.str)])) :
    WC prog w B A (.builtin "sorted") [.ref k] σ Q X := fun φ s vs G hv => by
  obtain ⟨v, rfl, hx⟩ := hv.one
  obtain ⟨a, rfl, ha⟩ := hx.of_ref
  obtain ⟨a', ha', kvs, ep', hd, hvs, _⟩ := G.get hσ
  rw [ha] at ha'; cases ha'
  refine sorted_src (src_dict (kvs := kvs) (ep := ep') (G.notSys (List.mem_of_getElem? ha))) hh G hd (by rw [hvs.length]; exact h64) (by rw [List.length_map, hvs.length]) (fun vs hg => ⟨_, keys_strs (by rw [hg.1, hvs.length]) hes fun j v p h1 h2 => ?_, .refl _⟩) q
  obtain ⟨key, y, h3, h4⟩ := hg.2 j v h1
  obtain ⟨u, h5, _⟩ := hvs.get h2
  rw [h3] at h5; cases h5
  exact h4
end
end Mine

set_option autoImplicit false
set_option linter.unusedVariables false
set_option maxRecDepth 100000
namespace Mine
open PySem PySem.W PySem.Calls PyProof.Rows
open AutoSeq1 (wpAny_loadPart')

/-! enumerate(a dict) -/
section
variable {prog : Program} {w : World} {A : Around} {E : Value → Shared → Prop} {s : Shared}

theorem nextOf_dict_item {it d : Addr} {i ep : Nat} {kvs : List (Key × Value)} {k : Key} {v : Value} {Q : Value → Shared → Prop} (hit : s.heap.IsKeyIter it d i kvs.length ep)
    (hm : s.heap.DictAt (kk prog w) d kvs ep) (hx : kvs[i]? = some (k, v))
    (hQ : ∀ key h', (kk prog w).is k key = true → h'.IsKeyIter it d (i + 1) kvs.length ep → Heap.SameBut it s.heap h' → Q key { s with heap := h' }) :
    wpAny (model prog w) A (Builtin.SmallTypes.nextOf (.ref it)) Q E s := by
  obtain ⟨o, ho, hc, hd⟩ := id hit
  obtain ⟨od, es, hod, hcd, hdd, hk, hp, hn⟩ := id hm
  unfold Builtin.SmallTypes.nextOf
  refine wpAny_bind (wpAny_callSpecial?_slot (name := Str.ofString "__next__") hit.typeIs PySem.F.slot_dict_keyiterator_next
    (wpAny_call_entry PySem.F.slot_dict_keyiterator_next hit.typeIs PySem.F.entry_dict_keyiterator_next ?_ (PySem.F.args_dict_keyiterator_next_1 _)))
  refine wpAny_bind (wpAny_pure (wpAny_bind (wpAny_bind ?_)))
  first | refine wpAny_bind (wpAny_typeNameOfWhole_keyiter hit.typeIs (wpAny_pure ?_)) | refine wpAny_bind (wpAny_typeNameOf_keyiter hit.typeIs (wpAny_pure ?_))
  refine wpAny_bind (wpAny_fieldsOf ho hd ?_)
  have hown : Builtin.Dict_items.ownsTuple "dict_keyiterator" = false := by decide
  simp only [hown, Bool.false_eq_true, if_false]
  show wpAny _ _ (if (Value.ref d == Value.none) = true then _ else _) _ _ s
  rw [if_neg (show ¬ ((Value.ref d == Value.none) = true) from Bool.false_ne_true)]
  refine wpAny_bind (wpAny_pure (wpAny_bind (wpAny_dictEntries hod hdd ?_)))
  have hsz : es.size = kvs.length := by rw [← hp.length]; simp
  rw [if_neg (by rw [hsz]; simp)]
  refine wpAny_bind (wpAny_pure (wpAny_bind (wpAny_dictEpoch hod hdd ?_)))
  rw [if_neg (by simp)]
  refine wpAny_pure ?_
  have hlt : i < es.size := by
    rw [hsz]
    exact (List.getElem?_eq_some_iff.mp hx).1
  have hkey : (kk prog w).is k es[i].key = true := (hp.get? (e := es[i]) (by simp [hlt]) hx).1
  simp only [show ¬ ((i : Int) < 0) from by omega, if_false, Int.toNat_natCast, Array.getElem?_eq_getElem hlt]
  refine wpAny_bind ?_
  first | refine wpAny_bind (wpAny_typeNameOfWhole_keyiter hit.typeIs (wpAny_pure ?_)) | refine wpAny_bind (wpAny_typeNameOf_keyiter hit.typeIs (wpAny_pure ?_))
  refine wpAny_bind (wpAny_isOneOf_keyiter hit.typeIs ?_)
  show wpAny _ _ (setField (.ref it) 1 (rawInt ((i : Int) + 1)) >>= _) _ _ s
  refine wpAny_bind (wpAny_setField ho hd (by simp) ?_)
  have hit' : (s.heap.update it (Obj.mapFields (·.setIfInBounds 1 (rawInt ((i : Int) + 1))))).IsKeyIter it d (i + 1) kvs.length ep :=
    ⟨_, Heap.get?_update_self _ ho (Obj.isFreed_of_fields (Obj.data_mapFields hd _)), (Obj.cls_mapFields ..).trans hc, by rw [Obj.data_mapFields hd]; simp [rawInt]⟩
  refine wpAny_bind (wpAny_holding (wpAny_bind (wpAny_isOneOf_keyiter (s := { s with heap := s.heap.update it (Obj.mapFields (·.setIfInBounds 1 (rawInt ((i : Int) + 1)))) }) hit'.typeIs ?_)))
  show wpAny _ _ (pure es[i].key) _ _ _
  exact wpAny_pure (wpAny_pure ⟨_, rfl, wpAny_pure (hQ _ _ hkey hit' (Heap.SameBut.update ..))⟩)

theorem nextOf_dict_end {it d : Addr} {i ep : Nat} {kvs : List (Key × Value)} {Q : Value → Shared → Prop} (hh : A.handled = none) (hit : s.heap.IsKeyIter it d i kvs.length ep)
    (hm : s.heap.DictAt (kk prog w) d kvs ep) (hx : kvs[i]? = none)
    (hE : ∀ h' e, Heap.ExtBut it s.heap h' → (∃ o, h'.get? e = some o ∧ o.cls = .type "StopIteration") → E (.ref e) { s with heap := h' }) :
    wpAny (model prog w) A (Builtin.SmallTypes.nextOf (.ref it)) Q E s := by
  obtain ⟨o, ho, hc, hd⟩ := id hit
  obtain ⟨od, es, hod, hcd, hdd, hk, hp, hn⟩ := id hm
  unfold Builtin.SmallTypes.nextOf
  refine wpAny_bind (wpAny_callSpecial?_slot (name := Str.ofString "__next__") hit.typeIs PySem.F.slot_dict_keyiterator_next
    (wpAny_call_entry PySem.F.slot_dict_keyiterator_next hit.typeIs PySem.F.entry_dict_keyiterator_next ?_ (PySem.F.args_dict_keyiterator_next_1 _)))
  refine wpAny_bind (wpAny_pure (wpAny_bind (wpAny_bind ?_)))
  first | refine wpAny_bind (wpAny_typeNameOfWhole_keyiter hit.typeIs (wpAny_pure ?_)) | refine wpAny_bind (wpAny_typeNameOf_keyiter hit.typeIs (wpAny_pure ?_))
  refine wpAny_bind (wpAny_fieldsOf ho hd ?_)
  have hown : Builtin.Dict_items.ownsTuple "dict_keyiterator" = false := by decide
  simp only [hown, Bool.false_eq_true, if_false]
  show wpAny _ _ (if (Value.ref d == Value.none) = true then _ else _) _ _ s
  rw [if_neg (show ¬ ((Value.ref d == Value.none) = true) from Bool.false_ne_true)]
  refine wpAny_bind (wpAny_pure (wpAny_bind (wpAny_dictEntries hod hdd ?_)))
  have hsz : es.size = kvs.length := by rw [← hp.length]; simp
  rw [if_neg (by rw [hsz]; simp)]
  refine wpAny_bind (wpAny_pure (wpAny_bind (wpAny_dictEpoch hod hdd ?_)))
  rw [if_neg (by simp)]
  refine wpAny_pure ?_
  have hge : es.size ≤ i := by rw [hsz]; simpa using hx
  simp only [show ¬ ((i : Int) < 0) from by omega, if_false, Int.toNat_natCast, Array.getElem?_eq_none hge]
  refine wpAny_bind ?_
  first | refine wpAny_bind (wpAny_typeNameOfWhole_keyiter hit.typeIs (wpAny_pure ?_)) | refine wpAny_bind (wpAny_typeNameOf_keyiter hit.typeIs (wpAny_pure ?_))
  show wpAny _ _ (setField (.ref it) 0 .none >>= _) _ _ s
  refine wpAny_bind (wpAny_setField ho hd (by simp) ?_)
  show wpAny _ _ (newExc (.type "StopIteration") [] >>= _) _ _ _
  refine wpAny_bind ?_
  simp only [newExc, newTuple]
  refine wpAny_bind (wpAny_newObj_type ?_ (by size_fits))
  refine wpAny_bind (m := firstArgMember _ _) (wpAny_of_eq (a := Value.none) (by first | rfl | (simp only [firstArgMember]; rfl)) ?_)
  refine wpAny_newObj_type ?_ (by size_fits)
  simp only [raiseNew]
  refine wpAny_bind (wpAny_handled ?_)
  first | rw [show A.in1.handled = none from hh] | rw [hh]
  refine wpAny_bind (wpAny_pure (wpAny_throw ?_))
  exact hE _ _ (((Heap.SameBut.update ..).extBut.push _).push _) ⟨_, Heap.get?_push_size _ rfl, rfl⟩

theorem pyNext_enumD_item {e it d : Addr} {i ep : Nat} {kvs : List (Key × Value)} {k : Key} {v old : Value} {Q : Option Value → Shared → Prop}
    (he : IsEnum s.heap e it i old) (hit : s.heap.IsKeyIter it d i kvs.length ep) (hm : s.heap.DictAt (kk prog w) d kvs ep) (hx : kvs[i]? = some (k, v)) (hne : e ≠ it)
    (hQ : ∀ key h', (kk prog w).is k key = true → IsEnumOut h' e it ((i : Int) + 1) key s.heap.objs.size → h'.IsKeyIter it d (i + 1) kvs.length ep →
      h'.get? s.heap.objs.size = some { cls := .type "tuple", data := .seq #[.int i s.toks, key] } → h'.objs.size = s.heap.objs.size + 1 →
      (∀ b o, b ≠ e → b ≠ it → s.heap.get? b = some o → h'.get? b = some o) → Q (some (.ref s.heap.objs.size)) { s with heap := h', toks := s.toks + 1 }) :
    wpAny (model prog w) A (pyNext (.ref e)) Q E s := by
  have hT : s.TypeIs (.ref e) "enumerate" := ⟨_, he, rfl⟩
  unfold pyNext
  refine wpAny_bind (wpAny_attempt (wpAny_callSpecial?_slot (name := Str.ofString "__next__") hT PySem.F.slot_enumerate_next
    (wpAny_call_entry PySem.F.slot_enumerate_next hT PySem.F.entry_enumerate_next ?_ (PySem.F.args_enumerate_next_1 _))))
  obtain ⟨hp, g, dd, tk, os⟩ := s
  show wpAny _ _ (field (.ref e) 2 >>= _) _ _ _
  refine wpAny_bind (wpAny_field he rfl (x := .ref it) rfl ?_)
  refine wpAny_bind (nextOf_dict_item hit hm hx fun x h₁ hkx hit₁ hs₁ => ?_)
  replace hs₁ : Heap.SameBut it hp h₁ := hs₁
  have he₁ : IsEnum h₁ e it i old := (hs₁.2 e hne).trans he
  show wpAny _ _ (field (.ref e) 3 >>= _) _ _ ⟨h₁, g, dd, tk, os⟩
  refine wpAny_bind (wpAny_field he₁ rfl (x := rawInt i) rfl ?_)
  show wpAny _ _ (field (.ref e) 4 >>= _) _ _ ⟨h₁, g, dd, tk, os⟩
  refine wpAny_bind (wpAny_field he₁ rfl (x := .none) rfl ?_)
  show wpAny _ _ (mkInt i >>= _) _ _ ⟨h₁, g, dd, tk, os⟩
  refine wpAny_bind (wpAny_mkInt ?_)
  show wpAny _ _ (setField (.ref e) 3 (rawInt ((i : Int) + 1)) >>= _) _ _ ⟨h₁, g, dd, tk + 1, os⟩
  refine wpAny_bind (wpAny_setField_rec he₁ (by simp) fun h₂ he₂ hs₂ => ?_)
  replace hs₂ : Heap.SameBut e h₁ h₂ := hs₂
  replace he₂ : IsEnum h₂ e it ((i : Int) + 1) old := he₂
  show wpAny _ _ (setField (.ref e) 4 .none >>= _) _ _ ⟨h₂, g, dd, tk + 1, os⟩
  refine wpAny_bind (wpAny_setField_rec he₂ (by simp) fun h₃ he₃ hs₃ => ?_)
  replace hs₃ : Heap.SameBut e h₂ h₃ := hs₃
  replace he₃ : IsEnum h₃ e it ((i : Int) + 1) old := he₃
  show wpAny _ _ (newTuple [.int i tk, x] >>= _) _ _ ⟨h₃, g, dd, tk + 1, os⟩
  refine wpAny_bind (wpAny_newTuple ?_)
  have he₄ : IsEnum (h₃.push { cls := .type "tuple", data := .seq #[.int i tk, x] }) e it ((i : Int) + 1) old := Heap.get?_push_of_some _ he₃
  generalize hh₄ : h₃.push { cls := .type "tuple", data := .seq #[.int i tk, x] } = h₄ at he₄
  have hsz : h₃.objs.size = hp.objs.size := by rw [hs₃.1, hs₂.1, hs₁.1]
  have hel : e < hp.objs.size := Heap.lt_size he
  have ht₄ : h₄.get? hp.objs.size = some { cls := .type "tuple", data := .seq #[.int i tk, x] } := by rw [← hh₄, ← hsz]; exact Heap.get?_push_size _ rfl
  have hz₄ : h₄.objs.size = hp.objs.size + 1 := by rw [← hh₄, Heap.size_push, hsz]
  have hk₄ : ∀ b o, b ≠ e → b ≠ it → hp.get? b = some o → h₄.get? b = some o := fun b o hbe hbi hb => by
    rw [← hh₄]; exact Heap.get?_push_of_some _ (hs₃.extBut b o hbe (hs₂.extBut b o hbe (hs₁.extBut b o hbi hb)))
  have hit₄ : h₄.IsKeyIter it d (i + 1) kvs.length ep := by
    rw [← hh₄]; obtain ⟨o, ho, r⟩ := (hit₁.extBut hs₂.extBut (Ne.symm hne)).extBut hs₃.extBut (Ne.symm hne); exact ⟨o, Heap.get?_push_of_some _ ho, r⟩
  show wpAny _ _ (Builtin.SmallTypes.ownedTupleIsFree (.ref e) >>= _) _ _ ⟨h₄, g, dd, tk + 1, os⟩
  rw [hsz]
  clear hh₄ he₃ hs₃ he₂ hs₂ he₁ hs₁ hit₁ hsz h₃ h₂ h₁
  refine wpAny_bind ?_
  unfold Builtin.SmallTypes.ownedTupleIsFree
  refine wpAny_bind (wpAny_field he₄ rfl (x := .none) rfl (wpAny_pure ?_))
  simp only [if_true]
  refine wpAny_bind (wpAny_rule (wpAny_bind (wpAny_field he₄ rfl (x := old) rfl (wpAny_bind (wpAny_setField_rec he₄ (by simp) fun h₅ he₅ hs₅ => ?_)))))
  replace hs₅ : Heap.SameBut e h₄ h₅ := hs₅
  replace he₅ : IsEnum h₅ e it ((i : Int) + 1) x := he₅
  show wpAny _ _ (Builtin.SmallTypes.ownedTupleHandOut (.ref e) (.ref hp.objs.size) >>= _) _ _ ⟨h₅, g, dd, tk + 1, os⟩
  refine wpAny_bind ?_
  unfold Builtin.SmallTypes.ownedTupleHandOut
  refine wpAny_bind (wpAny_setField_rec he₅ (by simp) fun h₆ he₆ hs₆ => ?_)
  replace hs₆ : Heap.SameBut e h₅ h₆ := hs₆
  replace he₆ : IsEnumOut h₆ e it ((i : Int) + 1) x hp.objs.size := he₆
  refine wpAny_setField_rec he₆ (by simp) fun h₇ he₇ hs₇ => ?_
  replace hs₇ : Heap.SameBut e h₆ h₇ := hs₇
  replace he₇ : IsEnumOut h₇ e it ((i : Int) + 1) x hp.objs.size := he₇
  refine wpAny_bind (wpAny_letGo (wpAny_pure ⟨_, rfl, wpAny_pure (hQ x h₇ hkx he₇ ?_ ?_ ?_ ?_)⟩))
  · exact ((hit₄.extBut hs₅.extBut (Ne.symm hne)).extBut hs₆.extBut (Ne.symm hne)).extBut hs₇.extBut (Ne.symm hne)
  · exact hs₇.extBut _ _ (Nat.ne_of_gt hel) (hs₆.extBut _ _ (Nat.ne_of_gt hel) (hs₅.extBut _ _ (Nat.ne_of_gt hel) ht₄))
  · rw [hs₇.1, hs₆.1, hs₅.1, hz₄]
  · exact fun b o hbe hbi hb => hs₇.extBut b o hbe (hs₆.extBut b o hbe (hs₅.extBut b o hbe (hk₄ b o hbe hbi hb)))

theorem pyNext_enumD_end {e it d : Addr} {i ep : Nat} {kvs : List (Key × Value)} {old : Value} {Q : Option Value → Shared → Prop} (hh : A.handled = none)
    (he : IsEnum s.heap e it i old) (hit : s.heap.IsKeyIter it d i kvs.length ep) (hm : s.heap.DictAt (kk prog w) d kvs ep) (hx : kvs[i]? = none)
    (hQ : ∀ h', Heap.ExtBut it s.heap h' → Q none { s with heap := h' }) : wpAny (model prog w) A (pyNext (.ref e)) Q E s := by
  have hT : s.TypeIs (.ref e) "enumerate" := ⟨_, he, rfl⟩
  unfold pyNext
  refine wpAny_bind (wpAny_attempt (wpAny_callSpecial?_slot (name := Str.ofString "__next__") hT PySem.F.slot_enumerate_next
    (wpAny_call_entry PySem.F.slot_enumerate_next hT PySem.F.entry_enumerate_next ?_ (PySem.F.args_enumerate_next_1 _))))
  show wpAny _ _ (field (.ref e) 2 >>= _) _ _ _
  refine wpAny_bind (wpAny_field he rfl (x := .ref it) rfl ?_)
  refine wpAny_bind (nextOf_dict_end hh hit hm hx fun h' x he' hx' => ?_)
  obtain ⟨o, ho, hc⟩ := hx'
  refine wpAny_bind (wpAny_isInstance (T := "StopIteration") (b := true) ⟨o, ho, hc⟩ isSubtype_stop ?_)
  exact wpAny_pure (hQ _ he')
end

/-- a dict's object, no more -/
def RawD (h : Heap) (d : Addr) (es : Array DictEntry) (ep : Nat) : Prop := ∃ o, h.get? d = some o ∧ o.cls = .type "dict" ∧ o.data = .dict es ep
section
variable {prog : Program} {w : World} {A : Around} {E : Value → Shared → Prop} {s : Shared}
theorem pyIter_rawD {d : Addr} {es : Array DictEntry} {ep : Nat} {Q : Value → Shared → Prop} (hd : (d == sysModules) = false) (hm : RawD s.heap d es ep)
    (hQ : Q (.ref s.heap.objs.size) { s with heap := s.heap.push { cls := .type "dict_keyiterator", data := .fields #[.ref d, .int 0 0, .int es.size 0, .int ep 0] } }) :
    wpAny (model prog w) A (pyIter (.ref d)) Q E s := by
  obtain ⟨o, ho, hc, hdat⟩ := id hm
  have hT : s.TypeIs (.ref d) "dict" := ⟨o, ho, hc⟩
  refine wpAny_pyIter_slot hT PySem.F.slot_dict_iter (wpAny_call_entry PySem.F.slot_dict_iter hT PySem.F.entry_dict_iter ?_ (PySem.F.args_dict_iter_1 _))
  unfold Builtin.«dict.__iter__»
  refine wpAny_bind ?_
  unfold Builtin.Dict.dictSlotNone
  refine wpAny_bind (wpAny_notOrdered_dict hT ?_)
  show wpAny _ _ (pure (Value.ref d)) _ _ s
  refine wpAny_pure ?_
  show wpAny _ _ (Builtin.Dict.showsAll d >>= _) _ _ s
  unfold Builtin.Dict.showsAll
  rw [if_neg (by rw [hd]; exact Bool.false_ne_true)]
  refine wpAny_bind (wpAny_pure (wpAny_bind (wpAny_dictEntries ho hdat (wpAny_bind (wpAny_dictEpoch ho hdat ?_)))))
  refine wpAny_bind (wpAny_newObj_type (wpAny_pure ⟨_, rfl, "dict_keyiterator", _, ⟨_, Heap.get?_push_size _ rfl, rfl⟩, PySem.F.slot_dict_keyiterator_next.lookup, ?_⟩))
  simpa [rawInt] using hQ

theorem meets_enumerate_newD (d : Addr) (es : Array DictEntry) (ep : Nat) (dct : Option Addr) (sl : Array (Option Value)) (hd : (d == sysModules) = false) :
    Meets (Builtin.«enumerate.__new__» ⟨[.type "enumerate", .ref d], []⟩) (fun _ R s => s.heap.get? d = some { cls := .type "dict", dict := dct, data := .dict es ep, slots := sl } ∧
      R (.ok (.ret (.ref (s.heap.push { cls := .type "dict_keyiterator", data := .fields #[.ref d, .int 0 0, .int es.size 0, .int ep 0] }).objs.size)))
        { s with heap := (s.heap.push { cls := .type "dict_keyiterator", data := .fields #[.ref d, .int 0 0, .int es.size 0, .int ep 0] }).push { cls := .type "enumerate", data := .fields #[.none, .bool false, .ref s.heap.objs.size, rawInt 0, .none, .none] } }) :=
  .of_wp fun prog w A R s h => by
    obtain ⟨hp, g, dd, tk, os⟩ := s; obtain ⟨hl, h⟩ := h
    have hsub := sub_enumerate
    have hL : RawD (Shared.heap ⟨hp, g, dd, tk, os⟩) d es ep := ⟨_, hl, rfl, rfl⟩
    wp_walk using wpAny_loadPart' hl
    refine wpAny_stack_any fun st => wpAny_pure ?_
    split
    · rename_i c _ _ _ _ _
      cases (c == Value.type "enumerate")
      · wp_walk using wpAny_loadPart' hl, pyIter_rawD hd hL
        exact ⟨_, rfl, h⟩
      · wp_walk using wpAny_loadPart' hl, pyIter_rawD hd hL
        exact ⟨_, rfl, h⟩
    · wp_walk using wpAny_loadPart' hl, pyIter_rawD hd hL
      exact ⟨_, rfl, h⟩

theorem call_enumerate_dict {d : Addr} {kvs : List (Key × Value)} {ep : Nat} {Q : Value → Shared → Prop} (hd : (d == sysModules) = false) (hm : s.heap.DictAt (kk prog w) d kvs ep)
    (h : ∀ h', IsEnum h' (s.heap.objs.size + 1) s.heap.objs.size 0 .none → h'.IsKeyIter s.heap.objs.size d 0 kvs.length ep → h'.objs.size = s.heap.objs.size + 2 →
      (∀ b o, s.heap.get? b = some o → h'.get? b = some o) → Q (.ref (s.heap.objs.size + 1)) { s with heap := h' }) :
    wpAny (model prog w) A (call (.type "enumerate") [.ref d]) Q E s := by
  obtain ⟨⟨c, dct, dt, sl⟩, es, ho, hc, hdat, hk, hp, hn⟩ := id hm
  replace hc : c = .type "dict" := hc.1
  replace hdat : dt = .dict es ep := hdat
  subst hc hdat
  have hsz : es.size = kvs.length := by rw [← hp.length]; simp
  refine callType_new PySem.F.called_enumerate (by decide) (PySem.F.typeCall_enumerate_1 _) (PySem.F.newCall_enumerate_1 _) (fun obj => PySem.F.args_object_init_2 obj _) PySem.F.entry_enumerate_new
    (meets_enumerate_newD d es ep dct sl hd) ⟨ho, ?_⟩
  have hz : (s.heap.push { cls := .type "dict_keyiterator", data := .fields #[.ref d, .int 0 0, .int es.size 0, .int ep 0] }).objs.size = s.heap.objs.size + 1 := Heap.size_push ..
  show _ ∧ _
  rw [hz]
  have he : IsEnum ((s.heap.push { cls := .type "dict_keyiterator", data := .fields #[.ref d, .int 0 0, .int es.size 0, .int ep 0] }).push
      { cls := .type "enumerate", data := .fields #[.none, .bool false, .ref s.heap.objs.size, rawInt 0, .none, .none] }) (s.heap.objs.size + 1) s.heap.objs.size 0 .none := by
    have := Heap.get?_push_size (s.heap.push { cls := .type "dict_keyiterator", data := .fields #[.ref d, .int 0 0, .int es.size 0, .int ep 0] })
      (o := { cls := .type "enumerate", data := .fields #[.none, .bool false, .ref s.heap.objs.size, rawInt 0, .none, .none] }) rfl
    rw [hz] at this; exact this
  refine ⟨⟨_, he, rfl⟩, h _ he ⟨_, Heap.get?_push_of_some _ (Heap.get?_push_size _ rfl), rfl, ?_⟩ (by rw [Heap.size_push, hz]) fun b o x => Heap.get?_push_of_some _ (Heap.get?_push_of_some _ x)⟩
  rw [hsz]; rfl
end
end Mine

set_option autoImplicit false
set_option linter.unusedVariables false
set_option maxRecDepth 100000
namespace Mine
open PySem PySem.W PySem.Calls PyProof.Rows

section
variable {prog : Program} {w : World} {B : Shared} {mg mb : Str → Option Value} {φ φ' : List Addr} {σ σ' : List AObj} {s s' : Shared} {env : Env} {ρ l : List (Str × V)} {A : Around} {X : XT} {Q : V → List AObj → Prop}

theorem St.butL {s' : Shared} {own : List Addr} (G : St prog w B φ σ s) (hs : ∀ b o, b ∉ own → s.heap.get? b = some o → s'.heap.get? b = some o) (hc : ∀ c ∈ own, c ∉ φ) (hb : ∀ c ∈ own, B.heap.get? c = none) (hn : ∀ c ∈ own, ∀ o, s.heap.get? c = some o → ¬ Still o)
    (hg : s'.gens = s.gens := by rfl) (ho : s'.os = s.os := by rfl) : St prog w B φ σ s' := by
  refine ⟨fun b o e => hs b o (fun h => by rw [hb b h] at e; cases e) (G.base b o e), G.new, G.nodup, G.len, fun k a ob h1 h2 => ?_, hg.trans G.gens, ho.trans G.os, G.sys⟩
  refine (G.objs k a ob h1 h2).mono (List.prefix_refl _) (fun a o e hst => hs a o (fun h => hn a h o e hst) e) fun o e => hs a o (fun h => hc a h (List.mem_of_getElem? h1)) e
theorem Loc.butL {h h' : Heap} {own : List Addr} (L : Loc B env ρ φ h) (hs : ∀ b o, b ∉ own → h.get? b = some o → h'.get? b = some o) (hc : ∀ c ∈ own, c ∉ fr env) (hn : ∀ c ∈ own, ∀ o, h.get? c = some o → ¬ Still o) : Loc B env ρ φ h' := by
  have hk : ∀ a ∈ fr env, ∀ o, h.get? a = some o → ∃ o', h'.get? a = some o' ∧ Sim o o' := fun a ha o e => ⟨o, hs a o (fun h => hc a h ha) e, .refl o⟩
  refine ⟨L.kind, L.glob, L.blt, ?_, L.own, fun x d hm => ?_, L.apart, fun x v hx => ?_⟩
  · obtain ⟨m, n⟩ := L.ns; exact ⟨m, Ns.upTo n (hk _ (.head _))⟩
  · obtain ⟨v, n⟩ := L.cells x d hm; exact ⟨v, IsCell.upTo n (hk _ (mem_fr_cell hm))⟩
  · obtain ⟨val, hb, hv⟩ := L.val x v hx
    refine ⟨val, ?_, Val.mono (List.prefix_refl _) (fun a o e hst => hs a o (fun h => hn a h o e hst) e) v hv⟩
    rcases hb with ⟨k, m, n, e⟩ | ⟨k, d, e, n⟩
    · exact .inl ⟨k, m, Ns.upTo n (hk _ (.head _)), e⟩
    · exact .inr ⟨k, d, e, IsCell.upTo n (hk _ (mem_fr_cell (mem_of_lookup e)))⟩

/-- a call of a builtin, raw: what comes of it is any R -/
theorem E_biR {x : Str} {px pos : Pos} {es : List Expr} {v : Value} {R : Value → Shared → Prop} (C : Bi B mg mb x v) (hk : Keep B v) (G : St prog w B φ σ s) (L : Loc B env ρ φ s.heap)
    (h : WEs prog w B A env es ρ σ (fun xs σ₂ => ∀ φ₂ s₂ vs, Step [] φ s.heap φ₂ s₂.heap → St prog w B φ₂ σ₂ s₂ → Vals φ₂ s₂.heap xs vs → wpAny (model prog w) A (call v vs) R (Post prog w B [] φ s X) s₂) X)
    (hx : env.kindOf x = some .globalImplicit := by kernel_rfl!)
    (hp : ∀ pos, (backTo pos (starEach es env)).any (·.1) = false := by intro _; with_unfolding_all rfl)
    (hd : (x == ("__debug__" : Str)) = false := by decide +kernel) :
    wpAny (model prog w) A (eval (.Call (.Name x px) es [] pos) env) R (Post prog w B [] φ s X) s := by
  have hf : WE prog w B A env (.Name x px) ρ σ (fun y σ₁ => y = .raw v ∧ σ₁ = σ) X := E_builtin C.1 C.2.2.1 C.2.1 C.2.2.2 hx ⟨rfl, rfl⟩ hd
  refine wpAny_Call_NameR ((hf φ s G L).use (.refl ..) fun v' s₁ φ₁ σ₁ t₁ _ G₁ ⟨y, hy, e, e'⟩ => ?_)
  subst e e'
  have hv := hy.of_raw
  subst hv
  refine callWith_of (P := fun h => ∀ b o, B.heap.get? b = some o → h.get? b = some o) (by rw [hp pos]; rfl) (fun h hb => hk _ h hb) ?_
  have main := (h pos φ₁ s₁ G₁ (L.step G t₁)).use t₁ (R := fun vs s₂ => (∀ b o, B.heap.get? b = some o → s₂.heap.get? b = some o) ∧ wpAny (model prog w) A (call v' ([] ++ vs)) R (Post prog w B [] φ s X) s₂) fun vs s₂ φ₂ σ₂ t₂ t G₂ ⟨xs, hxs, h₂⟩ => ⟨G₂.base, h₂ φ₂ s₂ vs t G₂ hxs⟩
  exact evalArgs_any (hp pos) main

theorem Step.at {c : Addr} {o : Obj} {h h' : Heap} {D : List Addr} (t : Step D φ h φ' h') (e : h.get? c = some o) (h1 : c ∉ φ) (h2 : c ∉ D) (hc : o.cls ≠ .type "frame") : h'.get? c = some o ∧ c ∉ φ' := by
  obtain ⟨o', e', hs'⟩ := t.keep c o e h1 h2
  rw [hs'.same hc] at e'
  refine ⟨e', fun hm => ?_⟩
  rcases t.fresh c hm with h3 | h3
  · exact h1 h3
  · rw [h3] at e; cases e

theorem X_enum1 {xk xn : Str} {pk pn pt pe pos pos' : Pos} {ctx : _} {arg : Expr} {body : List Stmt} {Q : Fl → List (Str × V) → List AObj → Prop} {k : Nat} {es : List (Key × V)} {ep : Nat}
    (be : Bi B mg mb "enumerate" (.type "enumerate")) (hh : A.handled = none) (hσ : σ[k]? = some (.dict es (some ep)))
    (hi : WEs prog w B A env [arg] ρ σ (fun vs σ' => vs = [.ref k] ∧ σ' = σ) X)
    (Iv : Nat → List (Str × V) → List AObj → Prop) (h0 : Iv 0 ρ σ)
    (hbody : ∀ i ρ₂ σ₂, i < es.length → σ₂[k]? = some (.dict es (some ep)) → Iv i ρ₂ σ₂ → WX prog w B A env body ((xn, keyAt es i) :: (xk, .int i) :: ρ₂) σ₂ (turnQ (Iv (i + 1)) (fun σ' => σ'[k]? = some (.dict es (some ep))) Q) (fun _ _ _ _ => False))
    (hend : ∀ ρ₂ σ₂, σ₂[k]? = some (.dict es (some ep)) → Iv es.length ρ₂ σ₂ → Q .next ρ₂ σ₂)
    (hxk : env.kindOf xk = some .local) (hxn : env.kindOf xn = some .local)
    (hx : env.kindOf ("enumerate" : Str) = some .globalImplicit)
    (hp : ∀ pos, (backTo pos (starEach [arg] env)).any (·.1) = false)
    (hs : ∀ v, foldedSetIterable (.Call (.Name "enumerate" pe) [arg] [] pos') env v = pure v) :
    WX1 prog w B A env (.For (.Tuple [.Name xk pk, .Name xn pn] ctx pt) (.Call (.Name "enumerate" pe) [arg] [] pos') body [] pos) ρ σ Q X := fun φ s G L => by
  refine wpAny_For (wpAny_mono (E_biR (R := fun x s₁ => wpAny (model prog w) A (pyIter x) (fun it s₂ => codeAny (model prog w) A (.forLoop (.Tuple [.Name xk pk, .Name xn pn] ctx pt) it body [] env) (fun r s' => match r with | .ok f => Post prog w B (fr env) φ s (fQ B env Q) f s' | .error e => cameBackBy (model prog w) A env (Post prog w B (fr env) φ s X) e s') s₂) (Post prog w B (fr env) φ s X) s₁) be (.type _) G L ?_ hx hp) (fun _ _ h => h) fun e s' ⟨φ', σ', t, r⟩ => ⟨φ', σ', t.nilD, r⟩) hs
  refine fun p φ₀ s₀ G₀ L₀ => wpAny_mono (hi p φ₀ s₀ G₀ L₀) (fun vs₀ s₁₀ hx => ?_) fun _ _ x => x
  obtain ⟨φ₁₀, σ₁₀, t₁₀, G₁₀, xs, hxs, e1, e2⟩ := hx
  refine ⟨φ₁₀, σ₁₀, t₁₀, G₁₀, xs, hxs, ?_⟩
  rw [e1, e2]
  clear e1 e2 hxs G₁₀ t₁₀ L₀ G₀
  intro φ₁ s₁ vs t₁ G₁ hvs
  obtain ⟨v, rfl, hv⟩ := hvs.one
  obtain ⟨a, rfl, ha⟩ := hv.of_ref
  obtain ⟨a', ha', kvs, ep', hd, hvs', hep⟩ := G₁.get hσ
  rw [ha] at ha'; cases ha'
  obtain rfl := hep ep rfl
  have L₁ : Loc B env ρ φ₁ s₁.heap := L.step G t₁
  refine call_enumerate_dict (G₁.notSys (List.mem_of_getElem? ha)) hd fun h₁ hE hI hsz hk => ?_
  refine wpAny_pyIter_enum (s := { s₁ with heap := h₁ }) hE ?_
  have hlen := hvs'.length
  rw [hlen] at hI
  generalize hie : s₁.heap.objs.size = it at *
  have heit : it + 1 ≠ it := Nat.succ_ne_self _
  have n1 : s₁.heap.get? it = none := by rw [← hie]; exact get?_size _
  have n2 : s₁.heap.get? (it + 1) = none := by rw [← hie]; exact get?_of_ge (Nat.le_succ _)
  generalize it + 1 = e at *
  have hfr : ∀ c, s₁.heap.get? c = none → c ∉ fr env ∧ c ∉ φ₁ ∧ B.heap.get? c = none ∧ s.heap.get? c = none := fun c hc => by
    have c1 : c ∉ φ₁ := fun hm => by obtain ⟨o, e⟩ := G₁.there hm; rw [hc] at e; cases e
    refine ⟨fun hm => (by obtain ⟨o, e, _⟩ := L₁.there hm; rw [hc] at e; cases e), c1, G₁.baseSize hc, ?_⟩
    cases h : s.heap.get? c with
    | none => rfl
    | some o =>
      have hnm : c ∉ φ := fun hm => c1 (t₁.pre.subset hm)
      obtain ⟨o', e', _⟩ := t₁.keep c o h hnm (fun h => nomatch h)
      rw [hc] at e'; cases e'
  obtain ⟨i1, i2, i3, i4⟩ := hfr it n1
  obtain ⟨e1, e2, e3, e4⟩ := hfr e n2
  have G₂ : St prog w B φ₁ σ { s₁ with heap := h₁ } := G₁.keeps (s' := { s₁ with heap := h₁ }) hk
  have L₂ : Loc B env ρ φ₁ h₁ := L₁.step G₁ (.of_keeps hk)
  have t₂ : Step (fr env) φ s.heap φ₁ h₁ := Step.nilD (t₁.trans0 (.of_keeps hk))
  have nstE : ∀ {h : Heap} {i : Int} {old : Value}, IsEnum h e it i old → ∀ o, h.get? e = some o → o.cls ≠ .type "frame" ∧ ¬ Still o := fun he o ho => by
    rw [he] at ho; cases ho
    exact ⟨by simp, notStill_type rfl (by decide) (by decide)⟩
  have nstI : ∀ {h : Heap} {d : Addr} {i n ep : Nat}, h.IsKeyIter it d i n ep → ∀ o, h.get? it = some o → o.cls ≠ .type "frame" ∧ ¬ Still o := fun he o ho => by
    obtain ⟨o', h1, hc, _⟩ := he
    rw [h1] at ho; cases ho
    exact ⟨by rw [hc]; simp, notStill_type hc (by decide) (by decide)⟩
  refine codeAny_forLoop_any (fun m s' => ∃ i φ' σ' ρ' old a, m = es.length - i ∧ i ≤ es.length ∧ Step (fr env) φ s.heap φ' s'.heap ∧ St prog w B φ' σ' s' ∧ Loc B env ρ' φ' s'.heap ∧ e ∉ φ' ∧ it ∉ φ' ∧ φ'[k]? = some a ∧ IsEnum s'.heap e it (i : Nat) old ∧ s'.heap.IsKeyIter it a i es.length ep' ∧ σ'[k]? = some (.dict es (some ep')) ∧ Iv i ρ' σ') ?_ es.length
    ⟨0, φ₁, σ, ρ, .none, a, rfl, Nat.zero_le _, t₂, G₂, L₂, e2, i2, ha, hE, hI, hσ, h0⟩
  clear hI hE hk hsz G₂ L₂ t₂ hfr n1 n2 h0 hlen hvs' hd ha hv hvs
  rintro m s' ⟨i, φ', σ', ρ', old, a, rfl, hin, tt, G', L', he', hi', ha, hE, hI, hC, hIv⟩
  obtain ⟨a', ha', kvs', ep2, hd, hvs', hep'⟩ := G'.get hC
  rw [ha] at ha'; cases ha'
  have hee := hep' _ rfl
  subst hee
  have hlen := hvs'.length
  rw [← hlen] at hI
  have own1 : ∀ (b : Addr) (o : Obj), b ∉ [e, it] → b ≠ e ∧ b ≠ it := fun b o hb => ⟨fun h => hb (by simp [h]), fun h => hb (by simp [h])⟩
  have tStep : ∀ h₃ : Heap, (∀ b o, b ∉ [e, it] → s'.heap.get? b = some o → h₃.get? b = some o) → Step (fr env) φ s.heap φ' h₃ := fun h₃ hk₃ => by
    refine ⟨tt.pre, tt.fresh, fun b o eb h1 h2 => ?_⟩
    obtain ⟨o', e', hs'⟩ := tt.keep b o eb h1 h2
    refine ⟨o', hk₃ b o' (fun h => ?_) e', hs'⟩
    rcases List.mem_cons.mp h with h | h
    · rw [h, e4] at eb; cases eb
    · rcases List.mem_cons.mp h with h | h
      · rw [h, i4] at eb; cases eb
      · cases h
  have ownφ : ∀ c ∈ [e, it], c ∉ φ' := fun c hc => by
    rcases List.mem_cons.mp hc with rfl | hc
    · exact he'
    · rcases List.mem_cons.mp hc with rfl | hc
      · exact hi'
      · cases hc
  have ownB : ∀ c ∈ [e, it], B.heap.get? c = none := fun c hc => by
    rcases List.mem_cons.mp hc with rfl | hc
    · exact e3
    · rcases List.mem_cons.mp hc with rfl | hc
      · exact i3
      · cases hc
  have ownF : ∀ c ∈ [e, it], c ∉ fr env := fun c hc => by
    rcases List.mem_cons.mp hc with rfl | hc
    · exact e1
    · rcases List.mem_cons.mp hc with rfl | hc
      · exact i1
      · cases hc
  have ownS : ∀ c ∈ [e, it], ∀ o, s'.heap.get? c = some o → ¬ Still o := fun c hc o ho => by
    rcases List.mem_cons.mp hc with rfl | hc
    · exact (nstE hE o ho).2
    · rcases List.mem_cons.mp hc with rfl | hc
      · exact (nstI hI o ho).2
      · cases hc
  by_cases hlt : i < es.length
  · obtain ⟨v, hv, _⟩ := hvs'.get (i := i) (p := es[i]) (List.getElem?_eq_getElem hlt)
    refine pyNext_enumD_item hE hI hd hv heit fun key h₂ hkey heo hit₂ ht₂ hz₂ hk₂ => ?_
    have heH : e < s'.heap.objs.size := Heap.lt_size hE
    refine wpAny_letOwnedTupleGo_enum (s := { s' with heap := h₂, toks := s'.toks + 1 }) heo fun h₃ he₃ hs₃ => ?_
    replace hs₃ : Heap.SameBut e h₂ h₃ := hs₃
    have ht₃ : h₃.IsTuple s'.heap.objs.size #[.int i s'.toks, key] := ⟨_, (hs₃.2 _ (Nat.ne_of_gt heH)).trans ht₂, rfl, _, rfl⟩
    have hz₃ : h₃.objs.size = s'.heap.objs.size + 1 := hs₃.1.trans hz₂
    refine wpAny_assign_Tuple (s := { s' with heap := h₃, toks := s'.toks + 1 }) hh ht₃ rfl rfl fun h₄ hx₄ => ?_
    replace hx₄ : Heap.ExtBut h₃.objs.size h₃ h₄ := hx₄
    have old₄ : ∀ b o, b < s'.heap.objs.size → h₃.get? b = some o → h₄.get? b = some o := fun b o hb x => hx₄ b o (by rw [hz₃]; exact Nat.ne_of_lt (Nat.lt_succ_of_lt hb)) x
    have hk₄ : ∀ b o, b ∉ [e, it] → s'.heap.get? b = some o → h₄.get? b = some o := fun b o hb x =>
      old₄ b o (Heap.lt_size x) (hs₃.extBut b o (own1 b o hb).1 (hk₂ b o (own1 b o hb).1 (own1 b o hb).2 x))
    have G₄ : St prog w B φ' σ' { s' with heap := h₄, toks := s'.toks + 1 } := G'.butL (s' := { s' with heap := h₄, toks := s'.toks + 1 }) hk₄ ownφ ownB ownS
    have L₄ : Loc B env ρ' φ' h₄ := L'.butL hk₄ ownF ownS
    have hE₄ : IsEnum h₄ e it ((i : Int) + 1) key := old₄ e _ heH he₃
    have hI₄ : h₄.IsKeyIter it a (i + 1) kvs'.length ep2 := (hit₂.extBut hs₃.extBut (Ne.symm heit)).at fun o x => old₄ it o (by obtain ⟨o', x', _⟩ := hI; exact Heap.lt_size x') x
    have t₄ := tStep h₄ hk₄
    show wpAny _ A (do holding [key] (assign (.Name xk pk) env (.int i s'.toks)); do holding [] (assign (.Name xn pn) env key); pure ()) _ _ _
    refine wpAny_bind (wpAny_holding (wpAny_assign_Name (store_name (s := { s' with heap := h₄, toks := s'.toks + 1 }) G₄ L₄ (.int_ _ _) (.inl hxk) fun h₅ tk₅ t₅ G₅ L₅ => ?_)))
    refine wpAny_bind (wpAny_holding (wpAny_assign_Name (store_name G₅ L₅ (Key.val hkey) (.inl hxn) fun h₆ tk₆ t₆ G₆ L₆ => wpAny_pure ?_)))
    have hkA : (es[i]).1.v = keyAt es i := (by unfold keyAt; rw [List.getD_eq_getElem?_getD, List.getElem?_eq_getElem hlt]; rfl)
    rw [hkA] at L₆
    refine wpAny_mono (hbody i ρ' σ' hlt hC hIv φ' _ G₆ L₆) (fun f s₇ hx => ?_) (fun e s₅ hx => by obtain ⟨_, _, _, _, x⟩ := hx; exact x.elim)
    obtain ⟨φ₇, σ₇, t₇, G₇, fl, ρ₇, hf, L₇, q⟩ := hx
    have t7 : Step (fr env) φ s.heap φ₇ s₇.heap := ((t₄.transF t₅ L₄).transF t₆ L₅).transF t₇ L₆
    have hE₇ : IsEnum s₇.heap e it ((i : Int) + 1) key ∧ e ∉ φ₇ := by
      obtain ⟨x1, y1⟩ := t₅.at hE₄ he' e1 (nstE hE₄ _ hE₄).1
      obtain ⟨x2, y2⟩ := t₆.at x1 y1 e1 (nstE hE₄ _ hE₄).1
      exact t₇.at x2 y2 e1 (nstE hE₄ _ hE₄).1
    have hI₇ : s₇.heap.IsKeyIter it a (i + 1) kvs'.length ep2 ∧ it ∉ φ₇ := by
      obtain ⟨o, ho, hc, r⟩ := hI₄
      have hf : o.cls ≠ .type "frame" := by rw [hc]; simp
      obtain ⟨x1, y1⟩ := t₅.at ho hi' i1 hf
      obtain ⟨x2, y2⟩ := t₆.at x1 y1 i1 hf
      obtain ⟨x3, y3⟩ := t₇.at x2 y2 i1 hf
      exact ⟨⟨o, x3, hc, r⟩, y3⟩
    have ha₇ : φ₇[k]? = some a := idx_mono t₇.pre ha
    have hE7 : IsEnum s₇.heap e it ((i + 1 : Nat) : Int) key := by have := hE₇.1; rwa [show ((i + 1 : Nat) : Int) = (i : Int) + 1 by omega]
    have hI7 : s₇.heap.IsKeyIter it a (i + 1) es.length ep2 := by have := hI₇.1; rwa [hlen] at this
    cases fl with
    | next => obtain rfl : f = .next := hf; exact ⟨es.length - (i + 1), by omega, i + 1, φ₇, σ₇, ρ₇, key, a, rfl, hlt, t7, G₇, L₇, hE₇.2, hI₇.2, ha₇, hE7, hI7, q.1, q.2⟩
    | cont => obtain rfl : f = .cont := hf; exact ⟨es.length - (i + 1), by omega, i + 1, φ₇, σ₇, ρ₇, key, a, rfl, hlt, t7, G₇, L₇, hE₇.2, hI₇.2, ha₇, hE7, hI7, q.1, q.2⟩
    | brk => obtain rfl : f = .brk := hf; exact ⟨φ₇, σ₇, t7, G₇, .next, ρ₇, rfl, L₇, q⟩
    | ret y => obtain ⟨u, rfl, hu⟩ := hf; exact ⟨φ₇, σ₇, t7, G₇, .ret y, ρ₇, ⟨u, rfl, hu⟩, L₇, q⟩
  · have hin' : i = es.length := by omega
    subst hin'
    refine pyNext_enumD_end hh hE hI hd (by rw [List.getElem?_eq_none]; rw [hlen]; exact Nat.le_refl _) fun h₃ hk₃ => ?_
    have hk₄ : ∀ b o, b ∉ [e, it] → s'.heap.get? b = some o → h₃.get? b = some o := fun b o hb x => hk₃ b o (own1 b o hb).2 x
    have G₄ : St prog w B φ' σ' { s' with heap := h₃ } := G'.butL (s' := { s' with heap := h₃ }) hk₄ ownφ ownB ownS
    exact wpAny_execs_nil ⟨φ', σ', tStep h₃ hk₄, G₄, .next, ρ', rfl, L'.butL hk₄ ownF ownS, hend ρ' σ' hC hIv⟩
end
end Mine

set_option autoImplicit false
set_option linter.unusedVariables false
set_option maxRecDepth 100000
namespace Mine
open PySem PySem.W PySem.Calls PyProof.Rows

section
variable {prog : Program} {w : World} {B : Shared} {mg mb : Str → Option Value} {φ φ' : List Addr} {σ σ' : List AObj} {s s' : Shared} {env : Env} {ρ l : List (Str × V)} {A : Around} {X : XT} {Q : V → List AObj → Prop}

/-- for k, name in enumerate(d) -/
theorem X_fore {xk xn : Str} {pk pn pt pe pos pos' : Pos} {ctx : _} {arg : Expr} {body rest : List Stmt} {Q : Fl → List (Str × V) → List AObj → Prop} {k : Nat} {es : List (Key × V)} {e : Option Nat} {ι : Type} (D : Nat → ι → Prop) (l : Nat → ι → List (Str × V)) (f : Nat → ι → List AObj) (g₀ : ι)
    (be : Bi B mg mb "enumerate" (.type "enumerate")) (hh : A.handled = none) (hσ : σ[k]? = some (.dict es e))
    (hi : ∀ ep, WEs prog w B A env [arg] ρ (pin σ k es ep) (fun vs σ' => vs = [.ref k] ∧ σ' = pin σ k es ep) X)
    (h1 : D 0 g₀) (h2 : σ = f 0 g₀) (h4 : Sub (l 0 g₀) ρ) (hf : ∀ i g, D i g → (f i g)[k]? = some (.dict es e))
    (hb : ∀ ep i g, i < es.length → D i g → WX prog w B A env body ((xn, keyAt es i) :: (xk, .int i) :: l i g) (pin (f i g) k es ep) (turnD k es e ep (D (i + 1)) (l (i + 1)) (f (i + 1)) (seqQ prog w B A env rest Q X)) (fun _ _ _ _ => False))
    (he : ∀ g, D es.length g → WX prog w B A env rest (l es.length g) (f es.length g) Q X)
    (hxk : env.kindOf xk = some .local := by kernel_rfl!) (hxn : env.kindOf xn = some .local := by kernel_rfl!)
    (hx : env.kindOf ("enumerate" : Str) = some .globalImplicit := by kernel_rfl!)
    (hp : ∀ pos, (backTo pos (starEach [arg] env)).any (·.1) = false := by intro _; with_unfolding_all rfl)
    (hs : ∀ v, foldedSetIterable (.Call (.Name "enumerate" pe) [arg] [] pos') env v = pure v := by intro _; with_unfolding_all rfl) :
    WX prog w B A env (.For (.Tuple [.Name xk pk, .Name xn pn] ctx pt) (.Call (.Name "enumerate" pe) [arg] [] pos') body [] pos :: rest) ρ σ Q X := by
  refine X_cons fun φ s G L => ?_
  obtain ⟨ep, hep, G', _⟩ := G.pin hσ
  have main : WX1 prog w B A env (.For (.Tuple [.Name xk pk, .Name xn pn] ctx pt) (.Call (.Name "enumerate" pe) [arg] [] pos') body [] pos) ρ (pin σ k es ep) (fun fl ρ' σ' => σ'[k]? = some (.dict es (some ep)) ∧ seqQ prog w B A env rest Q X fl ρ' (σ'.set k (.dict es e))) X := by
    refine X_enum1 (ep := ep) be hh (pin_at hσ) (hi ep) (fun i ρ' σ' => ∃ g, D i g ∧ σ' = pin (f i g) k es ep ∧ Sub (l i g) ρ') ⟨g₀, h1, by rw [← h2], h4⟩ ?_ ?_ hxk hxn hx hp hs
    · rintro i ρ₂ σ₂ hi' hC ⟨g, hD, rfl, hs'⟩
      refine X_weak hs'.both.both fun φ s G L => wpAny_mono (hb ep i g hi' hD φ s G L) (fun v s₁ hx => ?_) fun _ _ x => x
      obtain ⟨φ₁, σ₃, t₁, G₁, fl, ρ', hf', L₁, q⟩ := hx
      refine ⟨φ₁, σ₃, t₁, G₁, fl, ρ', hf', L₁, ?_⟩
      cases fl with
      | next => obtain ⟨g', q1, q2, q4⟩ := q; exact ⟨by rw [q2]; exact pin_at (hf _ _ q1), g', q1, q2, q4⟩
      | cont => obtain ⟨g', q1, q2, q4⟩ := q; exact ⟨by rw [q2]; exact pin_at (hf _ _ q1), g', q1, q2, q4⟩
      | brk => exact q
      | ret y => exact q
    · rintro ρ₂ σ₂ hC ⟨g, hD, rfl, hs'⟩
      refine ⟨hC, ?_⟩
      rw [pin_set (hf _ _ hD)]
      exact X_weak hs' (he g hD)
  refine wpAny_mono (main φ s G' L) (fun v s₁ hx => ?_) fun _ _ x => x
  obtain ⟨φ₁, σ₁, t₁, G₁, fl, ρ₁, hf', L₁, q1, q2⟩ := hx
  exact ⟨φ₁, σ₁.set k (.dict es e), t₁, G₁.unpin q1 hep, fl, ρ₁, hf', L₁, q2⟩

theorem pin_get {j k : Nat} {es es' : List (Key × V)} {e e' : Option Nat} {ep : Nat} (hj : σ[j]? = some (.dict es' e')) (hk : σ[k]? = some (.dict es e)) : ∃ e'', (pin σ k es ep)[j]? = some (.dict es' e'') := by
  by_cases h : j = k
  · subst h; rw [hj] at hk; cases hk; exact ⟨_, pin_at hj⟩
  · exact ⟨e', by rw [pin_ne h]; exact hj⟩
theorem pin_end_at {k : Nat} {es : List (Key × V)} {ep : Nat} {x : AObj} (h : k < σ.length) : (pin (σ ++ [x]) k es ep)[σ.length]? = some x := by rw [pin_ne (by omega)]; simp
theorem pin_end_set {k : Nat} {es : List (Key × V)} {ep : Nat} {x y : AObj} (h : k < σ.length) : (pin (σ ++ [x]) k es ep).set σ.length y = pin (σ ++ [y]) k es ep := by
  unfold pin
  rw [List.set_append_left _ _ h, List.set_append_left _ _ h]
  have hl : σ.length = (σ.set k (AObj.dict es (some ep))).length := by simp
  rw [hl, List.set_append_right _ _ (Nat.le_refl _)]
  simp
theorem up_at {k : Nat} {x : AObj} {more : List AObj} (h : σ[k]? = some x) : (σ ++ more)[k]? = some x := by rw [List.getElem?_append_left (List.getElem?_eq_some_iff.mp h).1]; exact h
theorem at_end' {a b x : AObj} : (σ ++ [a] ++ [b])[(σ ++ [x]).length]? = some b := by simp
theorem S_l0 {value slice : Expr} {k : Nat} {x : V} {xs : List V} (hσ : σ[k]? = some (.list (x :: xs))) (q : Q x σ) (hs : PlainSlice slice := by with_unfolding_all exact fun _ _ => rfl) : WSub prog w B A value slice (.ref k) (.int 0) σ Q X :=
  S_list hσ (by omega) (by simp only [List.length_cons]; omega) (by omega) q hs
theorem S_l1 {value slice : Expr} {k : Nat} {x y : V} {xs : List V} (hσ : σ[k]? = some (.list (y :: x :: xs))) (q : Q x σ) (hs : PlainSlice slice := by with_unfolding_all exact fun _ _ => rfl) : WSub prog w B A value slice (.ref k) (.int 1) σ Q X :=
  S_list hσ (by omega) (by simp only [List.length_cons]; omega) (by omega) q hs
theorem at_len {k : Nat} {x : AObj} (h : σ[k]? = some x) : k < σ.length := (List.getElem?_eq_some_iff.mp h).1
theorem O_eq_pair {a b c d : Int} (hu : A.units + 100 < cLine) (q : Q (.bool (decide (a = c ∧ b = d))) σ) : W2 prog w B A (compareOp .Eq) (.tup [.int a, .int b]) (.tup [.int c, .int d]) σ Q X := by
  refine O_eqd (.tup (.cons (.int _) (.cons (.int _) .nil))) (.tup (.cons (.int _) (.cons (.int _) .nil))) rfl rfl (by have : min (PyData.tuple [.int a, .int b]).depth (PyData.tuple [.int c, .int d]).depth ≤ 100 := (by simp [PyData.depth, PyData.depthAll]); omega) ?_
  have e : PyData.eqv (.tuple [.int a, .int b]) (.tuple [.int c, .int d]) = decide (a = c ∧ b = d) := by simp [PyData.eqv, PyData.eqvAll]; rfl
  rw [e]; exact q
theorem O_ne_pair {a b c d : Int} (hu : A.units + 100 < cLine) (q : Q (.bool (!decide (a = c ∧ b = d))) σ) : W2 prog w B A (compareOp .NotEq) (.tup [.int a, .int b]) (.tup [.int c, .int d]) σ Q X := by
  refine O_ned (.tup (.cons (.int _) (.cons (.int _) .nil))) (.tup (.cons (.int _) (.cons (.int _) .nil))) rfl rfl (by have : min (PyData.tuple [.int a, .int b]).depth (PyData.tuple [.int c, .int d]).depth ≤ 100 := (by simp [PyData.depth, PyData.depthAll]); omega) ?_
  have e : PyData.eqv (.tuple [.int a, .int b]) (.tuple [.int c, .int d]) = decide (a = c ∧ b = d) := by simp [PyData.eqv, PyData.eqvAll]; rfl
  rw [e]; exact q
theorem dats_strs : ∀ l : List Str, Dats σ (l.map V.str) (l.map PyData.str)
  | [] => .nil
  | x :: r => .cons (.str x) (dats_strs r)
theorem eqvAll_strs : ∀ l : List Str, PyData.eqvAll (l.map PyData.str) (l.map PyData.str) = true
  | [] => by simp [PyData.eqvAll]
  | x :: r => by simp [PyData.eqvAll, PyData.eqv, eqvAll_strs r]
theorem depth_strs : ∀ l : List Str, PyData.depthAll (l.map PyData.str) ≤ 1
  | [] => by simp [PyData.depthAll]
  | x :: r => by have := depth_strs r; simp [PyData.depthAll, PyData.depth]; omega
theorem canLay_strs : ∀ l : List Str, (∀ x ∈ l, PyData.strOk x = true) → PyData.canLayAll0 (l.map PyData.str) = true
  | [], _ => by simp [PyData.canLayAll0]
  | x :: r, h => by
    have h1 := h x (.head _)
    have h2 := canLay_strs r fun y hy => h y (.tail _ hy)
    simp [PyData.canLayAll0, PyData.canLay0, h1, h2]
/-- two lists of the same texts -/
theorem O_ne_strs {j k : Nat} {l : List Str} (hj : σ[j]? = some (.list (l.map V.str))) (hk : σ[k]? = some (.list (l.map V.str))) (hl : ∀ x ∈ l, PyData.strOk x = true) (hn : l.length ≤ sizeLine) (hu : A.units + 100 < cLine) (q : Q (.bool false) σ) : W2 prog w B A (compareOp .NotEq) (.ref j) (.ref k) σ Q X := by
  have hd := depth_strs l
  have c : (PyData.list (l.map PyData.str)).canLay0 = true := by simp only [PyData.canLay0]; exact canLay_strs l hl
  refine O_ned (.list hj (dats_strs l)) (.list hk (dats_strs l)) c c (by simp only [Nat.min_self, PyData.depth]; omega) ?_
  simp only [PyData.eqv, eqvAll_strs]
  exact q
end
end Mine

set_option autoImplicit false
set_option linter.unusedVariables false
set_option maxRecDepth 100000
namespace Mine
open PySem PySem.W PySem.Calls PyProof.Rows

/-! the walk through a set of texts -/
theorem slot_si_next : Slot "set_iterator" "__next__" "set_iterator.__next__" :=
  .of (owner := "set_iterator") (n := "__next__") (by rw [typeLookup_type, builtinLookup_eq_fast]; kernel_rfl) (by decide +kernel) (by decide +kernel) (by decide +kernel)
    (by first | exact .inl (by decide +kernel) | exact .inr (by decide +kernel)) (by rw [isSubtype_type]; kernel_rfl)
theorem entry_si_next : entryFor table "set_iterator.__next__" = some Builtin.«set_iterator.__next__» := entryFor_of_tree (by kernel_rfl)
theorem args_si_next (a : Value) : argsOk "set_iterator.__next__" ⟨[a], []⟩ := by unfold argsOk; kernel_rfl
theorem slot_si_iter : Slot "set_iterator" "__iter__" "set_iterator.__iter__" :=
  .of (owner := "set_iterator") (n := "__iter__") (by rw [typeLookup_type, builtinLookup_eq_fast]; kernel_rfl) (by decide +kernel) (by decide +kernel) (by decide +kernel)
    (by first | exact .inl (by decide +kernel) | exact .inr (by decide +kernel)) (by rw [isSubtype_type]; kernel_rfl)
theorem entry_si_iter : entryFor table "set_iterator.__iter__" = some Builtin.«dict_keyiterator.__iter__» :=
  entryFor_alias (id' := "dict_keyiterator.__iter__") (by kernel_rfl) rfl (by decide +kernel) (by kernel_rfl)
theorem args_si_iter (a : Value) : argsOk "set_iterator.__iter__" ⟨[a], []⟩ := by unfold argsOk; kernel_rfl
theorem entry_set_iter : entryFor table "set.__iter__" = some Builtin.«frozenset.__iter__» :=
  entryFor_alias (id' := "frozenset.__iter__") (by kernel_rfl) rfl (by decide +kernel) (by kernel_rfl)

theorem erase_perm {α : Type} : ∀ (l : List α) (i : Nat) (h : i < l.length), (l[i] :: l.eraseIdx i).Perm l
  | [], i, h => absurd h (Nat.not_lt_zero i)
  | x :: r, 0, h => .refl _
  | x :: r, i + 1, h => (List.Perm.swap x _ _).trans (List.Perm.cons x (erase_perm r i (Nat.lt_of_succ_lt_succ h)))
theorem pick_perm {α : Type} (next : Nat → Nat) : ∀ (n k : Nat) (left : List α) (out : Array α), left.length = n → (pickOrder.go next n k left out).toList.Perm (out.toList ++ left)
  | 0, k, left, out, e => by obtain rfl := List.eq_nil_of_length_eq_zero e; simp [pickOrder.go]
  | n + 1, k, left, out, e => by
    have hlt : next k % left.length < left.length := Nat.mod_lt _ (by omega)
    unfold pickOrder.go
    rw [List.getElem?_eq_getElem hlt]
    dsimp only
    refine (pick_perm next n (k + 1) _ _ (by rw [List.length_eraseIdx_of_lt hlt, e]; rfl)).trans ?_
    rw [Array.toList_push, List.append_assoc]
    exact List.Perm.append_left _ (erase_perm _ _ hlt)
theorem pickOrder_perm {α : Type} (next : Nat → Nat) (xs : Array α) : (pickOrder next xs).toList.Perm xs.toList := by
  have := pick_perm next xs.size 0 xs.toList #[] (by simp)
  simpa [pickOrder] using this

theorem setNext_eq (a : Addr) (slot given epochThen : Nat) : setNext a slot given epochThen = (do
    let (es, epoch, t) ← setState a
    if ← setsByText then
      if epoch != epochThen then unsupported "set_iterator.__next__:elements-changed"
      return ((← setWalk a)[given]?).map fun e => (e.2, slot)
    if (!t.plain && decide (es.size > 1)) = true then unsupported "set_iterator.__next__:the-table-is-plain-no-more"
    (if (!t.led && !es.isEmpty) = true then unsupported "set:maker-not-led" else pure () : Sem Unit)
    let i := SetTable.below t.place slot
    return match es[i]?, t.place[i]? with
      | some (_, x), some j => some (x, j + 1)
      | _, _ => none) := rfl
theorem setWalk_eq (a : Addr) : setWalk a = (do
    let (es, epoch, t) ← setState a
    if ← setsByText then return pickOrder ((← ask).params.setOrder a epoch) es
    if (!t.plain && decide (es.size > 1)) = true then return (← drawOrder es.size es.toList).toArray
    (if (!t.led && decide (es.size > 1)) = true then unsupported "set:maker-not-led" else pure () : Sem Unit)
    return es) := rfl
theorem setDrawn_eq (a : Addr) : setDrawn a = (do
    let (es, _, t) ← setState a
    let byText ← setsByText
    return !byText && (!t.plain && decide (es.size > 1))) := rfl

/-- the set's object -/
def SetAt (h : Heap) (a : Addr) (es : Array (Int × Value)) (ep : Nat) (t : SetTable) : Prop := ∃ o, h.get? a = some o ∧ o.ExactSet ∧ o.data = .set es ep t
def IsSI (h : Heap) (I : Addr) (f : Value) (i : Nat) (a : Addr) (n ep : Nat) : Prop :=
  h.get? I = some { cls := .type "set_iterator", data := .fields #[f, .int i 0, .ref a, .int n 0, .int ep 0] }

section
variable {prog : Program} {w : World} {A : Around} {E : Value → Shared → Prop} {s : Shared} {a I : Addr} {es : Array (Int × Value)} {ep : Nat} {t : SetTable}

theorem wpAny_byText {Q : Bool → Shared → Prop} (h : Q (byText w) s) : wpAny (model prog w) A setsByText Q E s := by
  unfold setsByText
  exact wpAny_bind (wpAny_askSetting (wpAny_pure h))
theorem wpAny_choose {n : Nat} {src : Source} {Q : Nat → Shared → Prop} (hn : n ≠ 0) (h : ∀ i d, i < n → Q i { s with drawn := d }) : wpAny (model prog w) A (choose src n) Q E s :=
  fun _ _ _ => ⟨hn, h _ _ (Nat.mod_lt _ (Nat.pos_of_ne_zero hn))⟩
theorem wpAny_drawOrder {α : Type} {Q : List α → Shared → Prop} : ∀ (n : Nat) (xs : List α) (s : Shared), xs.length = n → (∀ l d, l.Perm xs → Q l { s with drawn := d }) → wpAny (model prog w) A (drawOrder n xs) Q E s
  | 0, xs, s, e, h => by
    obtain rfl := List.eq_nil_of_length_eq_zero e
    unfold drawOrder
    exact wpAny_pure (h [] s.drawn (.refl _))
  | n + 1, [], s, e, h => by simp at e
  | n + 1, x :: xs, s, e, h => by
    unfold drawOrder
    refine wpAny_bind (wpAny_choose (by simp) fun i d hi => ?_)
    rw [List.getElem?_eq_getElem hi]
    dsimp only
    refine wpAny_bind (wpAny_drawOrder n _ _ (by rw [List.length_eraseIdx_of_lt hi, e]; rfl) fun l d' hl => wpAny_pure (h _ d' ?_))
    exact (List.Perm.cons _ hl).trans (erase_perm _ _ hi)

theorem SetAt.typeIs (h : SetAt s.heap a es ep t) : s.TypeIs (.ref a) "set" := let ⟨o, ho, hx, _⟩ := h; ⟨o, ho, hx.1⟩
theorem SetAt.at {h h' : Heap} (x : SetAt h a es ep t) (e : ∀ o, h.get? a = some o → h'.get? a = some o) : SetAt h' a es ep t := let ⟨o, ho, r⟩ := x; ⟨o, e o ho, r⟩
theorem wp_state {Q : (Array (Int × Value) × Nat × SetTable) → Shared → Prop} (h : SetAt s.heap a es ep t) (hf : t.fits es.size = true) (hq : Q (es, ep, t) s) : wpAny (model prog w) A (setState a) Q E s := by
  obtain ⟨o, ho, _, hd⟩ := h
  exact wpAny_setState_of ho hd hf hq

/-- the rows that a walk gives -/
def RowsOf (L : List (Int × Value)) (i : Nat) (v : Value) : Prop := ∃ e, L[i]? = some e ∧ v = e.2

/-- raising StopIteration -/
theorem stop_next {Q : Option Value → Shared → Prop} {R : Value → Shared → Prop} {P : Fin → Shared → Prop} (hh : A.handled = none) (h : ∀ h', (∀ b o, s.heap.get? b = some o → h'.get? b = some o) → Q none { s with heap := h' }) :
    wpAny (model prog w) A.in1 (newExc (.type "StopIteration") [] >>= fun e => (raiseNew e : Sem Fin)) P
      (fun e s' => wpAny (model prog w) A (isInstance e (.type "StopIteration")) (fun b s'' => b = true ∧ Q none s'') R s') s := by
  refine wpAny_bind ?_
  simp only [newExc, newTuple]
  refine wpAny_bind (wpAny_newObj_type ?_ (by size_fits))
  refine wpAny_bind (m := firstArgMember _ _) (wpAny_of_eq (a := Value.none) (by first | rfl | (simp only [firstArgMember]; rfl)) ?_)
  refine wpAny_newObj_type ?_ (by size_fits)
  simp only [raiseNew]
  refine wpAny_bind (wpAny_handled ?_)
  rw [show A.in1.handled = none from hh]
  refine wpAny_bind (wpAny_pure (wpAny_throw ?_))
  exact wpAny_isInstance (T := "StopIteration") (b := true) ⟨_, Heap.get?_push_size _ rfl, rfl⟩ isSubtype_stop ⟨rfl, h _ fun b o e => Heap.get?_push_of_some _ (Heap.get?_push_of_some _ e)⟩
end
end Mine

set_option autoImplicit false
set_option linter.unusedVariables false
set_option maxRecDepth 100000
namespace Mine
open PySem PySem.W PySem.Calls PyProof.Rows

section
variable {prog : Program} {w : World} {A : Around} {E : Value → Shared → Prop} {s : Shared} {a I T : Addr} {es : Array (Int × Value)} {ep : Nat} {t : SetTable} {i : Nat}

/-- one step of a set's iterator: opening -/
theorem si_open {f : Value} {Q : Option Value → Shared → Prop} (hI : IsSI s.heap I f i a es.size ep) (hS : SetAt s.heap a es ep t) (hf : t.fits es.size = true)
    (h : wpAny (model prog w) A.in1 (do
      if let .int slot _ := f then
        match ← setNext a slot.toNat (i : Int).toNat (ep : Int).toNat with
        | some (x, next) =>
          setField (.ref I) 0 (rawInt next)
          setField (.ref I) 1 (rawInt ((i : Int) + 1))
          ret x
        | none => setField (.ref I) 2 .none; raiseNew (← newExc (.type "StopIteration") [])
      else
        let some places ← seqItems? f | unsupported "internal:set_iterator"
        match places[(i : Int).toNat]? with
        | some (.int place _) =>
          let x ← setNextDrawn a place.toNat (ep : Int).toNat
          setField (.ref I) 1 (rawInt ((i : Int) + 1))
          ret x
        | some _ => unsupported "internal:set_iterator"
        | none => setField (.ref I) 0 (rawInt 0); setField (.ref I) 2 .none; raiseNew (← newExc (.type "StopIteration") []))
      (fun fin s' => ∃ v, fin = .done (.ret v) ∧ Q (some v) s')
      (fun e s' => wpAny (model prog w) A (isInstance e (.type "StopIteration")) (fun b s'' => b = true ∧ Q none s'') E s') s) : wpAny (model prog w) A (pyNext (.ref I)) Q E s := by
  have hT : s.TypeIs (.ref I) "set_iterator" := ⟨_, hI, rfl⟩
  unfold pyNext
  refine wpAny_bind (wpAny_attempt (wpAny_callSpecial?_slot (name := Str.ofString "__next__") hT slot_si_next (wpAny_call_entry slot_si_next hT entry_si_next ?_ (args_si_next _))))
  show wpAny _ _ (fieldsOf (.ref I) >>= _) _ _ s
  refine wpAny_bind (wpAny_fieldsOf hI rfl ?_)
  obtain ⟨o, ho, _, hd⟩ := hS
  show wpAny _ _ (setEntries a >>= _) _ _ s
  refine wpAny_bind (wpAny_setEntries_of ho hd hf ?_)
  show wpAny _ _ (if ((es.size : Int) != (es.size : Int)) = true then _ else _) _ _ s
  rw [if_neg (by simp)]
  refine wpAny_mono h (fun fin s' hx => ?_) fun e s' hx => ?_
  · obtain ⟨v, rfl, hq⟩ := hx
    exact ⟨v, rfl, wpAny_pure hq⟩
  · refine wpAny_bind (wpAny_mono hx (fun b s'' hb => ?_) fun _ _ x => x)
    obtain ⟨rfl, hq⟩ := hb
    exact wpAny_pure hq

/-- drawn order -/
theorem si_item_D {ps : List Nat} {p : Nat} {e : Int × Value} {Q : Option Value → Shared → Prop} (hI : IsSI s.heap I (.ref T) i a es.size ep) (hS : SetAt s.heap a es ep t) (hf : t.fits es.size = true) (hT : s.heap.get? T = some { cls := .type "tuple", data := .seq (ps.map fun (p : Nat) => rawInt p).toArray })
    (hp : ps[i]? = some p) (he : es[p]? = some e) (hQ : ∀ h', IsSI h' I (.ref T) (i + 1) a es.size ep → Heap.SameBut I s.heap h' → Q (some e.2) { s with heap := h' }) : wpAny (model prog w) A (pyNext (.ref I)) Q E s := by
  refine si_open hI hS hf ?_
  show wpAny _ _ (seqItems? (.ref T) >>= _) _ _ s
  refine wpAny_bind (wpAny_seqItems hT rfl ?_)
  have e1 : ((ps.map fun (p : Nat) => rawInt p).toArray)[(i : Int).toNat]? = some (.int p 0) := by
    rw [Int.toNat_natCast, List.getElem?_toArray, List.getElem?_map, hp]; rfl
  dsimp only
  rw [e1]
  dsimp only
  refine wpAny_bind ?_
  unfold setNextDrawn
  refine wpAny_bind (wp_state hS hf ?_)
  dsimp only
  rw [Int.toNat_natCast, Int.toNat_natCast, if_neg (by simp), he]
  refine wpAny_pure ?_
  refine wpAny_bind (wpAny_setField_rec hI (by simp) fun h' hI' hs => wpAny_pure ⟨_, rfl, hQ h' ?_ hs⟩)
  exact hI'
theorem si_done_D {ps : List Nat} {Q : Option Value → Shared → Prop} (hh : A.handled = none) (hI : IsSI s.heap I (.ref T) i a es.size ep) (hS : SetAt s.heap a es ep t) (hf : t.fits es.size = true) (hT : s.heap.get? T = some { cls := .type "tuple", data := .seq (ps.map fun (p : Nat) => rawInt p).toArray })
    (hp : ps[i]? = none) (hQ : ∀ h', (∀ b o, b ≠ I → s.heap.get? b = some o → h'.get? b = some o) → Q none { s with heap := h' }) : wpAny (model prog w) A (pyNext (.ref I)) Q E s := by
  refine si_open hI hS hf ?_
  show wpAny _ _ (seqItems? (.ref T) >>= _) _ _ s
  refine wpAny_bind (wpAny_seqItems hT rfl ?_)
  have e1 : ((ps.map fun (p : Nat) => rawInt p).toArray)[(i : Int).toNat]? = none := by
    rw [Int.toNat_natCast, List.getElem?_toArray, List.getElem?_map, hp]; rfl
  dsimp only
  rw [e1]
  dsimp only
  refine wpAny_bind (wpAny_setField_rec hI (by simp) fun h₁ hI₁ hs₁ => wpAny_bind (wpAny_setField_rec (s := { s with heap := h₁ }) hI₁ (by simp) fun h₂ hI₂ hs₂ => ?_))
  exact stop_next (s := { s with heap := h₂ }) hh fun h' hk => hQ h' fun b o hb e => hk b o (hs₂.extBut b o hb (hs₁.extBut b o hb e))

/-- by text -/
theorem si_item_T {e : Int × Value} {Q : Option Value → Shared → Prop} (hbt : byText w = true) (hI : IsSI s.heap I (.int 0 0) i a es.size ep) (hS : SetAt s.heap a es ep t) (hf : t.fits es.size = true)
    (he : (pickOrder (w.params.setOrder a ep) es)[i]? = some e) (hQ : ∀ h', IsSI h' I (.int 0 0) (i + 1) a es.size ep → Heap.SameBut I s.heap h' → Q (some e.2) { s with heap := h' }) : wpAny (model prog w) A (pyNext (.ref I)) Q E s := by
  refine si_open hI hS hf ?_
  dsimp only
  rw [setNext_eq]
  refine wpAny_bind (wpAny_bind (wp_state hS hf (wpAny_bind (wpAny_byText ?_))))
  rw [hbt]
  simp only [if_true]
  rw [Int.toNat_natCast, if_neg (by simp), setWalk_eq]
  refine wpAny_bind (wpAny_bind (wp_state hS hf (wpAny_bind (wpAny_byText ?_))))
  rw [hbt]
  simp only [if_true]
  refine wpAny_bind (wpAny_askSetting (wpAny_pure (wpAny_pure ?_)))
  rw [Int.toNat_natCast]
  rw [show (pickOrder ((model prog w).w.params.setOrder a ep) es)[i]? = some e from he]
  simp only [Option.map_some]
  refine wpAny_bind (wpAny_setField_rec hI (by simp) fun h₁ hI₁ hs₁ => wpAny_bind (wpAny_setField_rec (s := { s with heap := h₁ }) hI₁ (by simp) fun h₂ hI₂ hs₂ => wpAny_pure ⟨_, rfl, hQ h₂ ?_ (hs₁.trans hs₂)⟩))
  exact hI₂
theorem si_done_T {Q : Option Value → Shared → Prop} (hh : A.handled = none) (hbt : byText w = true) (hI : IsSI s.heap I (.int 0 0) i a es.size ep) (hS : SetAt s.heap a es ep t) (hf : t.fits es.size = true)
    (he : (pickOrder (w.params.setOrder a ep) es)[i]? = none) (hQ : ∀ h', (∀ b o, b ≠ I → s.heap.get? b = some o → h'.get? b = some o) → Q none { s with heap := h' }) : wpAny (model prog w) A (pyNext (.ref I)) Q E s := by
  refine si_open hI hS hf ?_
  dsimp only
  rw [setNext_eq]
  refine wpAny_bind (wpAny_bind (wp_state hS hf (wpAny_bind (wpAny_byText ?_))))
  rw [hbt]
  simp only [if_true]
  rw [Int.toNat_natCast, if_neg (by simp), setWalk_eq]
  refine wpAny_bind (wpAny_bind (wp_state hS hf (wpAny_bind (wpAny_byText ?_))))
  rw [hbt]
  simp only [if_true]
  refine wpAny_bind (wpAny_askSetting (wpAny_pure (wpAny_pure ?_)))
  rw [Int.toNat_natCast]
  rw [show (pickOrder ((model prog w).w.params.setOrder a ep) es)[i]? = none from he]
  simp only [Option.map_none]
  refine wpAny_bind (wpAny_setField_rec hI (by simp) fun h₁ hI₁ hs₁ => ?_)
  exact stop_next (s := { s with heap := h₁ }) hh fun h' hk => hQ h' fun b o hb e => hk b o (hs₁.extBut b o hb e)

/-- one element or none -/
theorem si_item_1 {e : Int × Value} {Q : Option Value → Shared → Prop} (hbt : byText w = false) (hled : t.led = true) (h1 : es.size = 1) (hI : IsSI s.heap I (.int 0 0) 0 a es.size ep) (hS : SetAt s.heap a es ep t) (hf : t.fits es.size = true)
    (he : es[0]? = some e) (hQ : ∀ (sl : Nat) h', SetTable.below t.place sl = 1 → IsSI h' I (.int sl 0) 1 a es.size ep → Heap.SameBut I s.heap h' → Q (some e.2) { s with heap := h' }) : wpAny (model prog w) A (pyNext (.ref I)) Q E s := by
  obtain ⟨j, hj⟩ : ∃ j, t.place = #[j] := by
    have : t.place.size = 1 := by
      have := hf
      unfold SetTable.fits at this
      simp only [Bool.and_eq_true, beq_iff_eq] at this
      rw [this.1, h1]
    exact Array.size_eq_one_iff.mp this
  refine si_open hI hS hf ?_
  dsimp only
  rw [setNext_eq]
  refine wpAny_bind (wpAny_bind (wp_state hS hf (wpAny_bind (wpAny_byText ?_))))
  rw [hbt]
  simp only [Bool.false_eq_true, if_false]
  rw [if_neg (by rw [h1]; simp), hled]
  simp only [Bool.not_true, Bool.false_and, Bool.false_eq_true, if_false]
  refine wpAny_bind (wpAny_pure (wpAny_pure ?_))
  have b0 : SetTable.below t.place (0 : Int).toNat = 0 := by rw [hj]; simp [SetTable.below, SetTable.below.go]
  rw [b0, he, hj]
  simp only [List.getElem?_toArray, List.getElem?_cons_zero]
  refine wpAny_bind (wpAny_setField_rec hI (by simp) fun h₁ hI₁ hs₁ => wpAny_bind (wpAny_setField_rec (s := { s with heap := h₁ }) hI₁ (by simp) fun h₂ hI₂ hs₂ => wpAny_pure ⟨_, rfl, hQ (j + 1) h₂ ?_ ?_ (hs₁.trans hs₂)⟩))
  · rw [hj]; simp [SetTable.below, SetTable.below.go]
  · exact hI₂
theorem si_done_1 {sl : Nat} {Q : Option Value → Shared → Prop} (hh : A.handled = none) (hbt : byText w = false) (hled : t.led = true) (h1 : es.size ≤ 1) (hI : IsSI s.heap I (.int sl 0) i a es.size ep) (hS : SetAt s.heap a es ep t) (hf : t.fits es.size = true)
    (hb : SetTable.below t.place sl = es.size) (hQ : ∀ h', (∀ b o, b ≠ I → s.heap.get? b = some o → h'.get? b = some o) → Q none { s with heap := h' }) : wpAny (model prog w) A (pyNext (.ref I)) Q E s := by
  refine si_open hI hS hf ?_
  dsimp only
  rw [setNext_eq]
  refine wpAny_bind (wpAny_bind (wp_state hS hf (wpAny_bind (wpAny_byText ?_))))
  rw [hbt]
  simp only [Bool.false_eq_true, if_false]
  rw [if_neg (by simp; intro _; omega), hled]
  simp only [Bool.not_true, Bool.false_and, Bool.false_eq_true, if_false]
  refine wpAny_bind (wpAny_pure (wpAny_pure ?_))
  rw [Int.toNat_natCast, hb, Array.getElem?_eq_none (Nat.le_refl _)]
  dsimp only
  refine wpAny_bind (wpAny_setField_rec hI (by simp) fun h₁ hI₁ hs₁ => ?_)
  exact stop_next (s := { s with heap := h₁ }) hh fun h' hk => hQ h' fun b o hb e => hk b o (hs₁.extBut b o hb e)
end
end Mine

set_option autoImplicit false
set_option linter.unusedVariables false
set_option maxRecDepth 100000
namespace Mine
open PySem PySem.W PySem.Calls PyProof.Rows

section
variable {prog : Program} {w : World} {A : Around} {E : Value → Shared → Prop} {s : Shared} {a I T : Addr} {es : Array (Int × Value)} {ep : Nat} {t : SetTable}

theorem si_self {f : Value} {i n : Nat} {Q : Value → Shared → Prop} (hI : IsSI s.heap I f i a n ep) (h : Q (.ref I) s) : wpAny (model prog w) A (pyIter (.ref I)) Q E s := by
  have hT : s.TypeIs (.ref I) "set_iterator" := ⟨_, hI, rfl⟩
  refine wpAny_pyIter_slot hT slot_si_iter (wpAny_call_entry slot_si_iter hT entry_si_iter ?_ (args_si_iter _))
  show wpAny _ _ (ret (.ref I)) _ _ s
  exact wpAny_pure ⟨_, rfl, "set_iterator", _, hT, slot_si_next.lookup, h⟩

theorem walks_D (hh : A.handled = none) (hf : t.fits es.size = true) {ps : List Nat} {L : List (Int × Value)} (hn : L.length = es.size) (hps : ps.length = es.size) (hL : ∀ (i p : Nat), ps[i]? = some p → ∃ e, L[i]? = some e ∧ es[p]? = some e) (haI : a ≠ I) (hTI : T ≠ I) :
    Walks prog w A I [I, a, T] [I] es.size (RowsOf L) (fun i h => IsSI h I (.ref T) i a es.size ep ∧ SetAt h a es ep t ∧ h.get? T = some { cls := .type "tuple", data := .seq (ps.map fun (p : Nat) => rawInt p).toArray }) where
  sub := fun b hb => by rw [List.mem_singleton.mp hb]; exact .head _
  frame := fun i h h' st hk => ⟨hk I (.head _) _ st.1, st.2.1.at fun o e => hk a (.tail _ (.head _)) o e, hk T (.tail _ (.tail _ (.head _))) _ st.2.2⟩
  item := fun i s Q E hi st hq => by
    obtain ⟨h1, h2, h3⟩ := st
    have hp : ps[i]? = some ps[i] := List.getElem?_eq_getElem (by omega)
    obtain ⟨e, he1, he2⟩ := hL i _ hp
    refine si_item_D h1 h2 hf h3 hp he2 fun h' hI' hs => hq _ h' s.toks ⟨e, he1, rfl⟩ ⟨hI', h2.at fun o x => hs.extBut a o haI x, hs.extBut T _ hTI h3⟩ fun b o hb x => hs.extBut b o (fun h => hb (List.mem_singleton.mpr h)) x
  done := fun s Q E st hq => si_done_D hh st.1 st.2.1 hf st.2.2 (List.getElem?_eq_none (Nat.le_of_eq hps)) fun h' hk => hq h' s.toks fun b o hb x => hk b o (fun h => hb (List.mem_singleton.mpr h)) x
  self := fun i s Q E st hq => si_self st.1 hq
theorem walks_T (hh : A.handled = none) (hbt : byText w = true) (hf : t.fits es.size = true) (haI : a ≠ I) :
    Walks prog w A I [I, a] [I] es.size (RowsOf (pickOrder (w.params.setOrder a ep) es).toList) (fun i h => IsSI h I (.int 0 0) i a es.size ep ∧ SetAt h a es ep t) where
  sub := fun b hb => by rw [List.mem_singleton.mp hb]; exact .head _
  frame := fun i h h' st hk => ⟨hk I (.head _) _ st.1, st.2.at fun o e => hk a (.tail _ (.head _)) o e⟩
  item := fun i s Q E hi st hq => by
    have hlen : (pickOrder (w.params.setOrder a ep) es).size = es.size := by rw [← Array.length_toList, (pickOrder_perm _ _).length_eq, Array.length_toList]
    have he : (pickOrder (w.params.setOrder a ep) es)[i]? = some (pickOrder (w.params.setOrder a ep) es)[i] := Array.getElem?_eq_getElem (by omega)
    refine si_item_T hbt st.1 st.2 hf he fun h' hI' hs => hq _ h' s.toks ⟨_, by rw [Array.getElem?_toList]; exact he, rfl⟩ ⟨hI', st.2.at fun o x => hs.extBut a o haI x⟩ fun b o hb x => hs.extBut b o (fun h => hb (List.mem_singleton.mpr h)) x
  done := fun s Q E st hq => by
    have hlen : (pickOrder (w.params.setOrder a ep) es).size = es.size := by rw [← Array.length_toList, (pickOrder_perm _ _).length_eq, Array.length_toList]
    exact si_done_T hh hbt st.1 st.2 hf (Array.getElem?_eq_none (Nat.le_of_eq hlen)) fun h' hk => hq h' s.toks fun b o hb x => hk b o (fun h => hb (List.mem_singleton.mpr h)) x
  self := fun i s Q E st hq => si_self st.1 hq
theorem walks_1 (hh : A.handled = none) (hbt : byText w = false) (hled : t.led = true) (h1 : es.size ≤ 1) (hf : t.fits es.size = true) (haI : a ≠ I) :
    Walks prog w A I [I, a] [I] es.size (RowsOf es.toList) (fun i h => (∃ sl : Nat, IsSI h I (.int sl 0) i a es.size ep ∧ (i = 0 → sl = 0) ∧ (i = es.size → SetTable.below t.place sl = es.size)) ∧ SetAt h a es ep t) where
  sub := fun b hb => by rw [List.mem_singleton.mp hb]; exact .head _
  frame := fun i h h' st hk => by
    obtain ⟨⟨sl, x, y⟩, z⟩ := st
    exact ⟨⟨sl, hk I (.head _) _ x, y⟩, z.at fun o e => hk a (.tail _ (.head _)) o e⟩
  item := fun i s Q E hi st hq => by
    obtain ⟨⟨sl, hI, h0, _⟩, hS⟩ := st
    have hi0 : i = 0 := by omega
    have hsz : es.size = 1 := by omega
    subst hi0
    obtain rfl := h0 rfl
    refine si_item_1 hbt hled hsz hI hS hf (Array.getElem?_eq_getElem (by omega)) fun sl h' hb hI' hs => hq _ h' s.toks ⟨_, by rw [Array.getElem?_toList]; exact Array.getElem?_eq_getElem (by omega), rfl⟩ ⟨⟨sl, hI', (fun h => by omega), fun _ => by rw [hb, hsz]⟩, hS.at fun o x => hs.extBut a o haI x⟩ fun b o hb x => hs.extBut b o (fun h => hb (List.mem_singleton.mpr h)) x
  done := fun s Q E st hq => by
    obtain ⟨⟨sl, hI, _, hb⟩, hS⟩ := st
    exact si_done_1 hh hbt hled h1 hI hS hf (hb rfl) fun h' hk => hq h' s.toks fun b o hb x => hk b o (fun h => hb (List.mem_singleton.mpr h)) x
  self := fun i s Q E st hq => by
    obtain ⟨⟨sl, hI, _⟩, _⟩ := st
    exact si_self hI hq

theorem rows_good {L : List (Int × Value)} {ss : List Str} (hin : SetIn w es t ss) (hL : L.Perm es.toList) {acc : Array Value} (h : ItemsOf (RowsOf L) acc es.size) : ∃ l, StrsAre acc.toList l ∧ l.Perm ss := by
  have hlen : acc.toList.length = L.length := by rw [Array.length_toList, h.1, hL.length_eq, Array.length_toList]
  have e : acc.toList = L.map (·.2) := by
    refine List.ext_getElem? fun i => ?_
    rw [List.getElem?_map]
    cases hv : acc.toList[i]? with
    | none =>
      have : L.length ≤ i := by rw [← hlen]; exact List.getElem?_eq_none_iff.mp hv
      rw [List.getElem?_eq_none this]; rfl
    | some v =>
      obtain ⟨e, he, rfl⟩ := h.2 i v (by rw [← Array.getElem?_toList]; exact hv)
      rw [he]; rfl
  have hs : ∀ M : List (Int × Value), (∀ e ∈ M, ∃ x k, e = (hashStr w x, Value.str x k)) → StrsAre (M.map (·.2)) (M.map fun e => unS e.2) := by
    intro M
    induction M with
    | nil => intro _; exact .nil
    | cons p r ih =>
      intro hM
      obtain ⟨x, k, rfl⟩ := hM p (.head _)
      exact .cons _ _ (ih fun e he => hM e (.tail _ he))
  refine ⟨L.map fun e => unS e.2, by rw [e]; exact hs L fun p hp => hin.txts p (hL.mem_iff.mp hp), (hL.map _).trans hin.perm⟩

theorem hint_set {r : Addr} {Q : Bool → Shared → Prop} (hT : s.TypeIs (.ref r) "set") (h : Q false s) : wpAny (model prog w) A (Builtin.List.listLengthHint (.ref r)) Q E s := by
  unfold Builtin.List.listLengthHint
  refine wpAny_bind (wpAny_specialOf hT PySem.F.slot_set_len.lookup ?_)
  generalize hid : ("set.__len__" : String) = id0
  wp_delta
  rw [show splitId id0 = some ("set", "__len__") from by subst hid; decide +kernel]
  subst hid
  refine wpAny_bind (wpAny_isInstance (T := "set") (b := true) hT (by rw [isSubtype_type]; kernel_rfl) ?_)
  refine wpAny_ite_split (fun hab => absurd hab (by decide)) (fun _ => ?_)
  refine wpAny_ite_split (fun _ => ?_) (fun hab => absurd (by decide +kernel) hab)
  exact wpAny_bind (wpAny_typeOf hT (wpAny_pure h))
end

section
variable {prog : Program} {w : World} {a : Addr} {ss : List Str}
theorem src_set : Src prog w "set" a ss.length (fun vs => ∃ l, StrsAre vs l ∧ l.Perm ss) (fun h => SetS w h a ss) where
  type := fun s ⟨o, es, ep, t, ho, hx, _⟩ => ⟨o, ho, hx.1⟩
  keep := fun _ _ hm hk => hm.at hk
  notList := by decide
  notTuple := by decide
  hint := fun _ _ s _ ⟨o, es, ep, t, ho, hx, _⟩ hq => hint_set ⟨o, ho, hx.1⟩ hq
  iter := fun A E s Q hh ⟨o, es, ep, t, ho, hx, hd, hin⟩ hq => by
    have hS : SetAt s.heap a es ep t := ⟨o, ho, hx, hd⟩
    have hlt : a < s.heap.objs.size := Heap.lt_size ho
    have hsz : es.size = ss.length := by rw [← hin.perm.length_eq, List.length_map, Array.length_toList]
    refine wpAny_pyIter_slot hS.typeIs PySem.F.slot_set_iter (wpAny_call_entry PySem.F.slot_set_iter hS.typeIs entry_set_iter ?_ (PySem.F.args_set_iter_1 _))
    unfold Builtin.«frozenset.__iter__» Builtin.Frozenset.slot0 slotArgs
    simp only [List.isEmpty_nil, Bool.not_true, Bool.false_eq_true, ↓reduceIte, bind_assoc, List.length_nil, bne_self_eq_false]
    unfold Builtin.Frozenset.addrOf Builtin.Frozenset.sizeOf
    refine wpAny_bind (wpAny_pure ?_)
    try dsimp only
    refine wpAny_bind (wpAny_pure ?_)
    refine wpAny_bind (wpAny_bind (wpAny_setEntries_of ho hd hin.fits (wpAny_pure ?_)))
    rw [setDrawn_eq]
    refine wpAny_bind (wpAny_bind (wp_state hS hin.fits (wpAny_bind (wpAny_byText (wpAny_pure ?_)))))
    rw [← hsz] at hq
    have push : ∀ (h : Heap) (ob : Obj) (b : Addr) (o : Obj), h.get? b = some o → (h.push ob).get? b = some o := fun h ob b o e => Heap.get?_push_of_some _ e
    cases hbt : byText w with
    | true =>
      simp only [Bool.not_true, Bool.false_and, Bool.false_eq_true, if_false]
      refine wpAny_bind (wpAny_pure (wpAny_bind (wpAny_setEpoch_of ho hd hin.fits ?_)))
      simp only [newFields]
      refine wpAny_bind (wpAny_newObj_type (wpAny_pure ⟨_, rfl, "set_iterator", _, ⟨_, Heap.get?_push_size _ rfl, rfl⟩, slot_si_next.lookup, ?_⟩))
      refine hq _ _ [s.heap.objs.size, a] _ _ (push _ _) rfl rfl (fun b hb => ?_) (get?_size _) (walks_T (ep := ep) hh hbt hin.fits (Nat.ne_of_lt hlt)) ⟨Heap.get?_push_size _ rfl, hS.at fun o e => push _ _ a o e⟩ (fun acc h => rows_good hin (pickOrder_perm _ _) h)
      rcases List.mem_cons.mp hb with rfl | hb
      · exact .inr (get?_size _)
      · exact .inl (List.mem_singleton.mp hb)
    | false =>
      by_cases h1 : es.size > 1
      · have hpl : t.plain = false := hin.plain.resolve_left (by omega)
        have hc : (!false && (!t.plain && decide (es.size > 1))) = true := by rw [hpl, decide_eq_true h1]; rfl
        rw [if_pos hc]
        refine wpAny_bind (wpAny_drawOrder es.size _ s (by simp) fun ps d hps => ?_)
        have hpl : ps.length = es.size := by rw [hps.length_eq, List.length_range]
        refine wpAny_bind (wpAny_newTuple ?_ (by rw [List.length_map, hpl]; exact fits_of_scanBound hin.small))
        have hS₁ : SetAt (s.heap.push { cls := .type "tuple", data := .seq (ps.map fun (i : Nat) => rawInt i).toArray }) a es ep t := hS.at fun o e => push _ _ a o e
        obtain ⟨o₁, ho₁, _, hd₁⟩ := id hS₁
        refine wpAny_bind (wpAny_setEpoch_of (s := { s with heap := s.heap.push { cls := .type "tuple", data := .seq (ps.map fun (i : Nat) => rawInt i).toArray }, drawn := d }) ho₁ hd₁ hin.fits ?_)
        simp only [newFields]
        refine wpAny_bind (wpAny_newObj_type (wpAny_pure ⟨_, rfl, "set_iterator", _, ⟨_, Heap.get?_push_size _ rfl, rfl⟩, slot_si_next.lookup, ?_⟩))
        have hmem : ∀ p ∈ ps, p < es.size := fun p hp => List.mem_range.mp (hps.mem_iff.mp hp)
        have hz : (s.heap.push { cls := .type "tuple", data := .seq (ps.map fun (i : Nat) => rawInt i).toArray }).objs.size = s.heap.objs.size + 1 := Heap.size_push ..
        refine hq _ _ [(s.heap.push { cls := .type "tuple", data := .seq (ps.map fun (i : Nat) => rawInt i).toArray }).objs.size, a, s.heap.objs.size] (RowsOf (ps.map fun p => es.toList.getD p (0, .none))) _ (fun b o e => push _ _ b o (push _ _ b o e)) rfl rfl (fun b hb => ?_) (by rw [hz]; exact get?_of_ge (Nat.le_succ _)) (walks_D (ep := ep) (T := s.heap.objs.size) (ps := ps) hh hin.fits (by rw [List.length_map, hpl]) hpl (fun i p hp => ?_) (by rw [hz]; exact Nat.ne_of_lt (Nat.lt_succ_of_lt hlt)) (by rw [hz]; exact Nat.ne_of_lt (Nat.lt_succ_self _))) ⟨Heap.get?_push_size _ rfl, hS₁.at fun o e => push _ _ a o e, push _ _ _ _ (Heap.get?_push_size _ rfl)⟩ (fun acc h => rows_good hin ?_ h)
        · rcases List.mem_cons.mp hb with rfl | hb
          · exact .inr (by rw [hz]; exact get?_of_ge (Nat.le_succ _))
          · rcases List.mem_cons.mp hb with rfl | hb
            · exact .inl rfl
            · rw [List.mem_singleton.mp hb]; exact .inr (get?_size _)
        · have hlt' := hmem p (List.mem_of_getElem? hp)
          refine ⟨es[p], ?_, Array.getElem?_eq_getElem hlt'⟩
          rw [List.getElem?_map, hp, Option.map_some, List.getD_eq_getElem?_getD, Array.getElem?_toList, Array.getElem?_eq_getElem hlt']; rfl
        · refine (hps.map _).trans (List.Perm.of_eq ?_)
          refine List.ext_getElem? fun i => ?_
          rw [List.getElem?_map]
          by_cases hi : i < es.size
          · rw [List.getElem?_range hi, Option.map_some, List.getD_eq_getElem?_getD, Array.getElem?_toList, Array.getElem?_eq_getElem hi]; rfl
          · rw [List.getElem?_eq_none (by simpa using hi), List.getElem?_eq_none (by simpa using hi)]; rfl
      · have hc : (!false && (!t.plain && decide (es.size > 1))) = false := by rw [decide_eq_false h1]; simp
        rw [if_neg (by rw [hc]; exact Bool.false_ne_true)]
        refine wpAny_bind (wpAny_pure (wpAny_bind (wpAny_setEpoch_of ho hd hin.fits ?_)))
        simp only [newFields]
        refine wpAny_bind (wpAny_newObj_type (wpAny_pure ⟨_, rfl, "set_iterator", _, ⟨_, Heap.get?_push_size _ rfl, rfl⟩, slot_si_next.lookup, ?_⟩))
        have hled : t.led = true := by rw [hin.led, hbt]; rfl
        refine hq _ _ [s.heap.objs.size, a] _ _ (push _ _) rfl rfl (fun b hb => ?_) (get?_size _) (walks_1 (ep := ep) hh hbt hled (by omega) hin.fits (Nat.ne_of_lt hlt)) ⟨⟨0, Heap.get?_push_size _ rfl, (fun _ => rfl), fun h => ?_⟩, hS.at fun o e => push _ _ a o e⟩ (fun acc h => rows_good hin (.refl _) h)
        · rcases List.mem_cons.mp hb with rfl | hb
          · exact .inr (get?_size _)
          · exact .inl (List.mem_singleton.mp hb)
        · have : t.place.size = 0 := by
            have := hin.fits
            unfold SetTable.fits at this
            simp only [Bool.and_eq_true, beq_iff_eq] at this
            rw [this.1]; exact h.symm
          rw [Array.eq_empty_of_size_eq_zero this, ← h]; simp [SetTable.below, SetTable.below.go]
end
end Mine

set_option autoImplicit false
set_option linter.unusedVariables false
set_option maxRecDepth 100000
namespace Mine
open PySem PySem.W PySem.Calls PyProof.Rows

section
variable {prog : Program} {w : World} {A : Around} {E : Value → Shared → Prop} {s : Shared}

/-- the object that set() makes -/
def newSetObj (w : World) : Obj := { cls := .type "set", dict := none, data := .set #[] 0 (.fresh 0 0 (!byText w)) }
theorem newSet_S {h : Heap} {a : Addr} (e : h.get? a = some (newSetObj w)) : SetS w h a [] :=
  ⟨_, #[], 0, _, e, ⟨rfl, rfl, rfl⟩, rfl, fun e he => by simp at he, .refl _, by decide, by rfl, rfl, .inl rfl⟩
theorem code_set_new (a : Value) {Q₁ : Value → Shared → Prop} (h : Q₁ (.ref s.heap.objs.size) { s with heap := s.heap.push (newSetObj w) }) :
    codeAny (model prog w) A (.call (.builtin "set.__new__") ⟨[.type "set", a], []⟩) (wants Q₁ E) s := by
  refine codeAny_of_tree ?_
  show wpAny _ A.in1 (do checkBuiltinCall "set.__new__" ⟨[.type "set", a], []⟩; again (.builtin "set.__new__" ⟨[.type "set", a], []⟩)) _ _ s
  refine wpAny_bind (wpAny_of_eq (PySem.F.newCall_set_1 a) (wpAny_pure ⟨plainId_quiet PySem.F.plain_set_new _, codeAny_builtin PySem.F.entry_set_new ?_⟩))
  rw [Around.under_plainId PySem.F.plain_set_new _]
  unfold Builtin.«set.__new__» Builtin.Frozenset.newClass
  have hsub := sub_set_self
  obtain ⟨hp, g, d, tk, os⟩ := s
  dsimp only
  wp_walk
  refine wpAny_askSetting (wpAny_pure ?_)
  dsimp only
  simp only [newObj]
  refine wpAny_bind (wpAny_alloc (wpAny_pure ?_))
  exact wpAny_pure h

set_option maxHeartbeats 3200000 in
/-- set(a list of texts) -/
theorem call_set_strs {l : Addr} {items : Array Value} {ts : List Str} {Q : Value → Shared → Prop}
    (hh : A.handled = none) (hl : s.heap.IsList l items) (hi : ∀ (i : Nat) (v : Value), items[i]? = some v → ∃ t, v = .str (ts.getD i ⟨#[]⟩) t) (hb : items.size + 1 < scanBound)
    (h : ∀ (h' : Heap) (tk : Nat), SetS w h' s.heap.objs.size (firstS (fun i => ts.getD i ⟨#[]⟩) items.size) →
      (∀ b o, b < s.heap.objs.size → s.heap.get? b = some o → h'.get? b = some o) → Q (.ref s.heap.objs.size) { s with heap := h', toks := tk }) :
    wpAny (model prog w) A (call (.type "set") [.ref l]) Q E s := by
  obtain ⟨c, tl, hmro⟩ := PySem.F.called_set.mro
  have hmade := PySem.F.called_set.made
  have hsub := PySem.F.called_set.sub
  refine wpAny_call (codeAny_of_tree ?_)
  show wpAny _ _ (callAny (.type "set") _) _ _ _
  refine wpAny_pure ⟨Code.quiet_builtin _ (by decide +kernel), codeAny_builtin PySem.F.entry_type_call ?_⟩
  rw [Around.under_plain (weight_type_call_type "set" [.ref l] []) rfl]
  have h1 := PySem.F.called_set.notType
  have h2 := PySem.F.called_set.canCreate
  have hct := PySem.F.typeCall_set_1 (.ref l)
  repeat (any_goals (first | assumption | wp_step))
  refine codeAny_mono (code_set_new (.ref l) (E := E) (Q₁ := fun obj s₁ => obj = .ref s.heap.objs.size ∧ s₁ = { s with heap := s.heap.push (newSetObj w) }) ⟨rfl, rfl⟩) fun r s₁ hr => ?_
  cases r with
  | error e => exact hr
  | ok fl =>
    cases fl with
    | ret obj =>
      obtain ⟨rfl, rfl⟩ := hr
      have hS : (s.heap.push (newSetObj w)).get? s.heap.objs.size = some (newSetObj w) := Heap.get?_push_size _ rfl
      have hT : Shared.TypeIs { s with heap := s.heap.push (newSetObj w) } (.ref s.heap.objs.size) "set" := ⟨_, hS, rfl⟩
      have hli := PySem.F.called_set.init.lookup
      have hbi := PySem.F.called_set.init.bind (.ref s.heap.objs.size)
      repeat (any_goals (first | assumption | wp_step))
      refine codeAny_mono (codeAny_call_builtin (R := wants (fun r s₂ => r = .none ∧ ∃ h' tk, s₂ = { s with heap := h', toks := tk } ∧ SetS w h' s.heap.objs.size (firstS (fun i => ts.getD i ⟨#[]⟩) items.size) ∧
          (∀ b o, b < s.heap.objs.size → s.heap.get? b = some o → h'.get? b = some o)) E) PySem.F.called_set.init.plain PySem.F.entry_set_init (check_set_init_1 hT ?_)) fun r₂ s₂ hr₂ => ?_
      · obtain ⟨ol, hol, hcl, nl, hdl⟩ := hl
        obtain ⟨ocls, odict, odata, oslots⟩ := ol
        simp only at hcl hdl
        subst hcl; subst hdl
        have hol' : (s.heap.push (newSetObj w)).get? l = some { cls := .type "list", dict := odict, data := .seq items nl, slots := oslots } := Heap.get?_push_of_some _ hol
        have hsls := PySem.F.sub_list_set
        have hslf := PySem.F.sub_list_frozenset
        have hne : (Value.type "list" == Value.type "dict") = false := by decide
        have hl1 : (s.heap.push (newSetObj w)).IsList l items := ⟨_, hol', rfl, nl, rfl⟩
        unfold newSetObj at hol' hS hl1 hT ⊢
        unfold Builtin.«set.__init__» noKeywords Builtin.Frozenset.updateFrom
        generalize hPI : pyIter = PI
        wp_walk
        subst hPI
        refine wpAny_pyIter_list hl1 ?_
        refine wpAny_bind (wpAny_runValue ?_)
        have hlS : l < s.heap.objs.size := Heap.lt_size hol
        have hh3 : A.in1.in1.in1.handled = none := by simp [hh]
        have hz : (s.heap.push { cls := .type "set", dict := none, data := .set #[] 0 (.fresh 0 0 (!byText w)) }).objs.size = s.heap.objs.size + 1 := Heap.size_push ..
        have hneI : l ≠ (s.heap.push { cls := .type "set", dict := none, data := .set #[] 0 (.fresh 0 0 (!byText w)) }).objs.size := by
          rw [hz]; exact Nat.ne_of_lt (Nat.lt_succ_of_lt hlS)
        have hSf : s.heap.objs.size ∉ [(s.heap.push { cls := .type "set", dict := none, data := .set #[] 0 (.fresh 0 0 (!byText w)) }).objs.size, l] := by
          rw [hz]; simp only [List.mem_cons, List.mem_singleton, List.not_mem_nil, or_false, not_or]
          exact ⟨Nat.ne_of_lt (Nat.lt_succ_self _), Nat.ne_of_gt hlS⟩
        refine set_update_S ((Walks.list hh3 _ l hneI items).toS) s.heap.objs.size hSf (fun i => ts.getD i ⟨#[]⟩) hi hb (items.size - 0) 0 _ (by omega) (Nat.zero_le _)
          ⟨⟨_, Heap.get?_push_size _ rfl, rfl, rfl⟩, (hl1.push _)⟩ (newSet_S (Heap.get?_push_of_some _ hS)) fun s' hm hS' => ?_
        obtain ⟨h', g', d', tk', os'⟩ := s'
        have eg : g' = s.gens := hm.gens
        have ed : d' = s.drawn := hm.drawn
        have eo : os' = s.os := hm.os
        subst eg; subst ed; subst eo
        show wpAny _ _ _ _ _ _
        refine wpAny_pure ?_
        show wpAny _ _ (ret Value.none) _ _ _
        refine wpAny_pure ⟨rfl, h', tk', rfl, hS', fun b o hb e => ?_⟩
        have hb1 : b ≠ s.heap.objs.size := Nat.ne_of_lt hb
        have hb2 : b ≠ (s.heap.push { cls := .type "set", dict := none, data := .set #[] 0 (.fresh 0 0 (!byText w)) }).objs.size := by
          rw [hz]; exact Nat.ne_of_lt (Nat.lt_succ_of_lt hb)
        exact hm.heap b o (by simp only [List.mem_cons, List.mem_singleton, List.not_mem_nil, or_false, not_or]; exact ⟨hb1, hb2⟩) (Heap.get?_push_of_some _ (Heap.get?_push_of_some _ e))
      · cases r₂ with
        | error e => exact hr₂
        | ok fl₂ =>
          cases fl₂ with
          | ret r =>
            obtain ⟨rfl, h', tk, rfl, hS', hk'⟩ := hr₂
            repeat (any_goals (first | assumption | wp_step))
            exact h _ _ hS' hk'
          | _ => exact hr₂.elim
    | _ => exact hr.elim
end

section
variable {prog : Program} {w : World} {B : Shared} {φ φ' : List Addr} {σ σ' : List AObj} {s s' : Shared} {A : Around} {X : XT} {Q : V → List AObj → Prop}
/-- the texts of a list, each once -/
def onceS (texts : List Str) : List Str := texts.foldl addS []
theorem firstS_once (texts : List Str) : firstS (fun i => texts.getD i ⟨#[]⟩) texts.length = onceS texts := by
  unfold firstS onceS
  congr 1
  refine List.ext_getElem? fun i => ?_
  rw [List.getElem?_map]
  by_cases hi : i < texts.length
  · rw [List.getElem?_range hi, Option.map_some, List.getD_eq_getElem?_getD, List.getElem?_eq_getElem hi]; rfl
  · rw [List.getElem?_eq_none (by simpa using hi), List.getElem?_eq_none (by simpa using hi)]; rfl
theorem C_set_list {k : Nat} {texts : List Str} (hh : A.handled = none) (hσ : σ[k]? = some (.list (texts.map V.str))) (hn : texts.length + 1 < scanBound) (q : Q (.ref σ.length) (σ ++ [.set (onceS texts)])) : WC prog w B A (.type "set") [.ref k] σ Q X := fun φ s vs G hv => by
  obtain ⟨v, rfl, hx⟩ := hv.one
  obtain ⟨a, rfl, ha⟩ := hx.of_ref
  obtain ⟨a', ha', vs, n, ho, hvs⟩ := G.get hσ
  rw [ha] at ha'; cases ha'
  have hlen : vs.size = texts.length := by simpa using hvs.length
  refine call_set_strs (l := a) (items := vs) (ts := texts) hh ⟨_, ho, rfl, n, rfl⟩ (fun i v hv => ?_) (by rw [hlen]; exact hn) fun h' tk hS hk => ?_
  · have hi : i < texts.length := by rw [← hlen]; exact (Array.getElem?_eq_some_iff.mp hv).1
    obtain ⟨u, h1, h2⟩ := hvs.get (i := i) (x := .str texts[i]) (by rw [List.getElem?_map, List.getElem?_eq_getElem hi]; rfl)
    rw [Array.getElem?_toList, hv] at h1; cases h1
    obtain ⟨t, rfl⟩ := h2.of_str
    exact ⟨t, by rw [List.getD_eq_getElem?_getD, List.getElem?_eq_getElem hi]; rfl⟩
  · rw [hlen, firstS_once] at hS
    have hk' : ∀ b o, s.heap.get? b = some o → h'.get? b = some o := fun b o e => hk b o (Heap.lt_size e) e
    have t₂ : Step [] φ s.heap (φ ++ [s.heap.objs.size]) h' := Step.alloc (s' := { s with heap := h' }) (get?_size _) hk'
    refine ⟨_, _, t₂, G.alloc (s' := { s with heap := h', toks := tk }) (ob := .set (onceS texts)) (get?_size _) hk' hS G.fresh G.sizeNe, .ref σ.length, ?_, q⟩
    rw [Val, ← G.len]
    exact ⟨_, rfl, by simp⟩
theorem C_sorted_set {k : Nat} {ss : List Str} (hh : A.handled = none) (hσ : σ[k]? = some (.set ss)) (hn : ss.length ≤ sizeLine) (q : Q (.ref σ.length) (σ ++ [.list ((srt ss).map V.str)])) : WC prog w B A (.builtin "sorted") [.ref k] σ Q X := fun φ s vs G hv => by
  obtain ⟨v, rfl, hx⟩ := hv.one
  obtain ⟨a, rfl, ha⟩ := hx.of_ref
  obtain ⟨a', ha', hS⟩ := G.get hσ
  rw [ha] at ha'; cases ha'
  exact sorted_src (src_set (ss := ss)) hh G hS hn rfl (fun vs hg => hg) q
theorem onceS_mem (texts : List Str) (x : Str) : x ∈ onceS texts ↔ x ∈ texts := by
  have key : ∀ (l acc : List Str), x ∈ l.foldl addS acc ↔ x ∈ acc ∨ x ∈ l := by
    intro l
    induction l with
    | nil => intro acc; simp
    | cons y r ih =>
      intro acc
      rw [List.foldl_cons, ih, List.mem_cons]
      unfold addS
      split
      · rename_i hy
        constructor
        · rintro (h | h)
          · exact .inl h
          · exact .inr (.inr h)
        · rintro (h | rfl | h)
          · exact .inl h
          · exact .inl hy
          · exact .inr h
      · rw [List.mem_append, List.mem_singleton]
        constructor
        · rintro ((h | h) | h)
          · exact .inl h
          · exact .inr (.inl h)
          · exact .inr (.inr h)
        · rintro (h | h | h)
          · exact .inl (.inl h)
          · exact .inl (.inr h)
          · exact .inr h
  have := key texts []
  simpa [onceS] using this
theorem onceS_nodup (texts : List Str) : (onceS texts).Nodup := by
  have key : ∀ (l acc : List Str), acc.Nodup → (l.foldl addS acc).Nodup := by
    intro l
    induction l with
    | nil => intro acc h; exact h
    | cons y r ih =>
      intro acc h
      rw [List.foldl_cons]
      refine ih _ ?_
      unfold addS
      split
      · exact h
      · rename_i hy
        rw [List.nodup_append]
        exact ⟨h, by simp, fun a ha b hb => by rw [List.mem_singleton.mp hb]; exact fun e => hy (e ▸ ha)⟩
  exact key texts [] List.nodup_nil
theorem onceS_len (texts : List Str) : (onceS texts).length ≤ texts.length := by rw [← firstS_once]; exact firstS_len _ _
end
end Mine

set_option autoImplicit false
set_option linter.unusedVariables false
set_option maxRecDepth 100000
namespace Mine
open PySem PySem.W PySem.Calls PyProof.Rows

section
variable {prog : Program} {w : World} {B : Shared} {mg mb : Str → Option Value} {φ φ' : List Addr} {σ σ' : List AObj} {s s' : Shared} {env : Env} {ρ l : List (Str × V)} {A : Around} {X : XT} {Q : V → List AObj → Prop}

/-- the items of a tuple -/
theorem It_tup {xs : List V} (hh : A.handled = none) : WIt prog w B A (.tup xs) σ σ xs.length (fun i => xs.getD i .none) (fun _ => True) := fun φ s v R E G hv kont => by
  obtain ⟨a, vs, rfl, ht, hvs⟩ := hv.of_tup
  have hsz : vs.size = xs.length := by simpa using hvs.length
  have hk : ∀ (c : Addr) (o : Obj), s.heap.get? c = some o → (s.heap.push { cls := .type "tuple_iterator", data := .fields #[.ref a, .int 0 0] }).get? c = some o := fun c o e => Heap.get?_push_of_some _ e
  obtain ⟨ot, ho, hoc, n, hod⟩ := ht
  have hal : a ≠ s.heap.objs.size := fun e => by rw [e, get?_size] at ho; cases ho
  have hst : Still ot := .inl ⟨hoc, vs, n, hod⟩
  refine wpAny_pyIter_tuple ⟨_, ho, hoc, n, hod⟩ (kont s.heap.objs.size _ (fun i φ h => h.IsTupleIter s.heap.objs.size a i ∧ h.get? a = some ot ∧ Vals φ h xs vs.toList) hk (get?_size _) G.fresh ?_ ⟨⟨_, Heap.get?_push_size _ rfl, rfl, rfl⟩, hk _ _ ho, Vals.mono (List.prefix_refl _) (fun a o e _ => hk a o e) _ hvs⟩ (G.keeps hk))
  refine ⟨fun i φ h hs => ?_, fun i φ φ' h h' hs hp hk1 hk2 => ?_, ?_, ?_, fun i φ s Q E hs hq => wpAny_pyIter_tupleiter hs.1 hq⟩
  · obtain ⟨⟨o, ho, hc, _⟩, _⟩ := hs
    exact ⟨o, ho, by rw [hc]; simp, notStill_type hc (by decide) (by decide)⟩
  · obtain ⟨⟨o, e1, r⟩, e2, e3⟩ := hs
    exact ⟨⟨o, hk1 o e1, r⟩, hk2 _ _ e2 hst, Vals.mono hp hk2 _ e3⟩
  · intro i φ' σ' s' Q E hi G' _ hs hq
    obtain ⟨e1, e2, e3⟩ := hs
    obtain ⟨v, hv, hvv⟩ := e3.get (i := i) (x := xs.getD i .none) (by rw [List.getD_eq_getElem?_getD, List.getElem?_eq_getElem hi]; rfl)
    refine wpAny_pyNext_tuple_item e1 ⟨_, e2, hoc, n, hod⟩ (by rw [← Array.getElem?_toList]; exact hv) fun h' hs' hsb => ?_
    obtain ⟨oI, heI, hcI, _⟩ := e1
    have hnot : ∀ o, s'.heap.get? s.heap.objs.size = some o → ¬ Still o := fun o e => by rw [heI] at e; cases e; exact notStill_type hcI (by decide) (by decide)
    exact hq v h' _ (hvv.sameBut hsb hnot) ⟨hs', hsb.extBut _ _ hal e2, Vals.mono (List.prefix_refl _) (fun b o e hst => hsb.extBut b o (fun hb => hnot o (hb ▸ e) hst) e) _ e3⟩ fun b o hb e => hsb.extBut b o hb e
  · intro φ' σ' s' Q E G' _ hs hq
    obtain ⟨e1, e2, e3⟩ := hs
    refine wpAny_pyNext_tuple_end hh e1 ⟨_, e2, hoc, n, hod⟩ ?_ fun h' hx => hq h' _ fun b o hb e => hx b o hb e
    rw [← Array.getElem?_toList, List.getElem?_eq_none]; simp [hsz]

theorem preSum_list (l : List Int) : ∀ n, n ≤ l.length → preSum (fun i => l.getD i 0) n = (l.take n).sum
  | 0, _ => rfl
  | n + 1, h => by
    rw [preSum, preSum_list l n (by omega), List.take_add_one, List.sum_append, List.getElem?_eq_getElem (by omega), List.getD_eq_getElem?_getD, List.getElem?_eq_getElem (by omega)]
    simp
/-- sum(a list of ints) -/
theorem C_sum {k : Nat} {ns : List Int} (hh : A.handled = none) (hσ : σ[k]? = some (.list (ns.map V.int))) (q : Q (.int ns.sum) σ) : WC prog w B A (.builtin "sum") [.ref k] σ Q X := fun φ s vs G hv => by
  obtain ⟨v, rfl, hx⟩ := hv.one
  obtain ⟨a, rfl, ha⟩ := hx.of_ref
  obtain ⟨a', ha', vs, n, ho, hvs⟩ := G.get hσ
  rw [ha] at ha'; cases ha'
  have hL : s.heap.IsList a vs := ⟨_, ho, rfl, n, rfl⟩
  have hal : a ≠ s.heap.objs.size := fun e => by rw [e, get?_size] at ho; cases ho
  have hlt : a < s.heap.objs.size := Heap.lt_size ho
  have hsz : vs.size = ns.length := by simpa using hvs.length
  refine call_sum_walkAnyS (wpAny_pyIter_list hL ?_)
  refine ⟨s.heap.objs.size, _, _, _, _, _, _, fun i => ns.getD i 0, rfl, (Walks.list (A := A.in1) (by simp [hh]) s.heap.objs.size a hal vs).toS, ⟨⟨_, Heap.get?_push_size _ rfl, rfl, rfl⟩, hL.push _⟩, fun b hb => ?_, fun i v hP => ?_, fun s' t' hm => ?_⟩
  · show b < (s.heap.push _).objs.size
    rw [Heap.size_push]
    simp only [List.mem_cons, List.not_mem_nil, or_false] at hb
    rcases hb with rfl | rfl
    · exact Nat.lt_succ_self _
    · exact Nat.lt_succ_of_lt hlt
  · have hi : i < ns.length := by rw [← hsz]; exact (Array.getElem?_eq_some_iff.mp hP).1
    obtain ⟨u, h1, h2⟩ := hvs.get (i := i) (x := .int (ns.getD i 0)) (by rw [List.getElem?_map, List.getD_eq_getElem?_getD, List.getElem?_eq_getElem hi]; rfl)
    rw [Array.getElem?_toList, hP] at h1
    cases h1
    exact h2.of_int
  · have hk : ∀ b o, s.heap.get? b = some o → s'.heap.get? b = some o := fun b o e => hm.heap b o (by simp only [List.mem_singleton]; exact Nat.ne_of_lt (Heap.lt_size e)) (Heap.get?_push_of_some _ e)
    refine ⟨φ, σ, .of_keeps hk, G.keeps hk hm.gens hm.os, .int ns.sum, ?_, q⟩
    rw [hsz, preSum_list ns _ (Nat.le_refl _), List.take_length]
    exact .int_ _ _
/-- two lists of the same texts -/
theorem O_eq_strs {j k : Nat} {l : List Str} (hj : σ[j]? = some (.list (l.map V.str))) (hk : σ[k]? = some (.list (l.map V.str))) (hl : ∀ x ∈ l, PyData.strOk x = true) (hn : l.length ≤ sizeLine) (hu : A.units + 100 < cLine) (q : Q (.bool true) σ) : W2 prog w B A (compareOp .Eq) (.ref j) (.ref k) σ Q X := by
  have hd := depth_strs l
  have c : (PyData.list (l.map PyData.str)).canLay0 = true := by simp only [PyData.canLay0]; exact canLay_strs l hl
  refine O_eqd (.list hj (dats_strs l)) (.list hk (dats_strs l)) c c (by simp only [Nat.min_self, PyData.depth]; omega) ?_
  simp only [PyData.eqv, eqvAll_strs]
  exact q
/-- [e for x in d]: a dict of the call's, the item pure -/
theorem E_compd {elt iter : Expr} {x : Str} {px : Pos} {scope : Scope} {pos : Pos} {k : Nat} {es : List (Key × V)} {e : Option Nat} (l : List (Str × V)) (y : Nat → V) (hl : l.all (fun p => (freeOf scope).contains p.1) = true) (hs : Sub l ρ) (hb : compB env scope x = true) (hc : env.cells.Pairwise fun x y => x.2 ≠ y.2)
    (hh : A.handled = none) (hσ : σ[k]? = some (.dict es e)) (hn : es.length ≤ sizeLine)
    (hi : ∀ ep, WE prog w B A env iter ρ (pin σ k es ep) (fun v σ' => v = .ref k ∧ σ' = pin σ k es ep) X)
    (helt : ∀ ep D i junk, i < es.length → WE prog w B A { compEnvC scope (clOf scope env) 0 env with locals := D } elt ((x, keyAt es i) :: l) (pin σ k es ep ++ junk) (fun v σ₃ => v = y i ∧ σ₃ = pin σ k es ep ++ junk) (fun _ _ _ _ => False))
    (q : Q (.ref σ.length) (σ ++ [.list ((List.range es.length).map y)]))
    (hs' : ∀ v, foldedSetIterable iter env v = pure v := by intro _; with_unfolding_all rfl) :
    WE prog w B A env (.ListComp elt [⟨.Name x px, iter, [], 0⟩] scope pos) ρ σ Q X := fun φ s G L => by
  obtain ⟨ep, hep, G', _⟩ := G.pin hσ
  have hkl : k < σ.length := (List.getElem?_eq_some_iff.mp hσ).1
  have hpl : (pin σ k es ep).length = σ.length := by simp [pin]
  have main : WE prog w B A env (.ListComp elt [⟨.Name x px, iter, [], 0⟩] scope pos) ρ (pin σ k es ep) (fun v σ' => σ'[k]? = some (.dict es (some ep)) ∧ Q v (σ'.set k (.dict es e))) X := by
    refine E_compl l hl hs hb hc ((hi ep).mono fun v σ' hv => ?_) hs'
    obtain ⟨rfl, rfl⟩ := hv
    refine ⟨_, _, _, _, y, It_dict (e := none) hh (pin_at hσ), hn, fun i => up_at (pin_at hσ), fun D i hi' => helt ep D i _ hi', ?_, ?_⟩
    · exact up_at (pin_at hσ)
    · rw [List.set_append_left _ _ (by rw [hpl]; exact hkl), pin_set hσ, hpl]
      exact q
  refine wpAny_mono (main φ s G' L) (fun v s₁ hx => ?_) fun _ _ x => x
  obtain ⟨φ₁, σ₁, t₁, G₁, u, hv, q1, q2⟩ := hx
  exact ⟨φ₁, σ₁.set k (.dict es e), t₁, G₁.unpin q1 hep, u, hv, q2⟩
end
end Mine

set_option autoImplicit false
set_option linter.unusedVariables false
set_option maxRecDepth 100000
namespace Mine
open PySem PySem.W PySem.Calls PyProof.Rows

section
variable {p : Program} {loose : List Str} {mean : ExcName → Option Value} {mg mb : Str → Option Value} {B : Shared}
theorem has_of (T : Top p loose mean mg mb B.heap) (d : DefRec) {i : Nat} (hi : (recsOf p)[i]? = some d) : HasF B mg d := by
  obtain ⟨a, o, pm, code, doc, h1, h2, h3, h4⟩ := T.fn d (List.mem_of_getElem? hi)
  exact ⟨a, o, pm, code, doc, h1, h2, h3, h4⟩
def topHas (p : Program) (loose : List Str) (x : Str) : Bool := startupNames.contains x || loose.contains x || ((recsOf p).map (·.name)).contains x || ((litsOf p).map (·.1)).contains x || ((clssOf p loose).map (·.name)).contains x
theorem bi_of (T : Top p loose mean mg mb B.heap) {x : Str} {v : Value} (hb : bootBuiltins x = some v) (hx : topHas p loose x = false) (hn : (x == ("__name__" : Str)) = false) : Bi B mg mb x v := by
  unfold topHas at hx
  simp only [Bool.or_eq_false_iff] at hx
  obtain ⟨⟨⟨⟨h1, h2⟩, h3⟩, h4⟩, h5⟩ := hx
  refine ⟨T.g, T.b, T.free x ?_ ?_ ?_ ?_ ?_, by rw [T.builtins x (by simpa using hn)]; exact hb⟩ <;> (intro hm; simp_all)
def bltNames : List Str := ["len", "isinstance", "max", "min", "sum", "sorted", "int", "bool", "str", "tuple", "list", "dict", "set", "range", "enumerate"]
theorem blt_of (T : Top p loose mean mg mb B.heap) (h : bltNames.all (fun x => !topHas p loose x) = true) : Blt B mg mb := by
  have hx : ∀ x ∈ bltNames, topHas p loose x = false := fun x hx => by simpa using List.all_eq_true.mp h x hx
  refine ⟨?_, ?_, ?_, ?_, ?_, ?_, ?_, ?_, ?_, ?_, ?_, ?_, ?_, ?_, ?_⟩
  · exact bi_of T (by kernel_rfl) (hx _ (List.mem_of_getElem? (i := 0) rfl)) (by decide +kernel)
  · exact bi_of T (by kernel_rfl) (hx _ (List.mem_of_getElem? (i := 1) rfl)) (by decide +kernel)
  · exact bi_of T (by kernel_rfl) (hx _ (List.mem_of_getElem? (i := 2) rfl)) (by decide +kernel)
  · exact bi_of T (by kernel_rfl) (hx _ (List.mem_of_getElem? (i := 3) rfl)) (by decide +kernel)
  · exact bi_of T (by kernel_rfl) (hx _ (List.mem_of_getElem? (i := 4) rfl)) (by decide +kernel)
  · exact bi_of T (by kernel_rfl) (hx _ (List.mem_of_getElem? (i := 5) rfl)) (by decide +kernel)
  · exact bi_of T (by kernel_rfl) (hx _ (List.mem_of_getElem? (i := 6) rfl)) (by decide +kernel)
  · exact bi_of T (by kernel_rfl) (hx _ (List.mem_of_getElem? (i := 7) rfl)) (by decide +kernel)
  · exact bi_of T (by kernel_rfl) (hx _ (List.mem_of_getElem? (i := 8) rfl)) (by decide +kernel)
  · exact bi_of T (by kernel_rfl) (hx _ (List.mem_of_getElem? (i := 9) rfl)) (by decide +kernel)
  · exact bi_of T (by kernel_rfl) (hx _ (List.mem_of_getElem? (i := 10) rfl)) (by decide +kernel)
  · exact bi_of T (by kernel_rfl) (hx _ (List.mem_of_getElem? (i := 11) rfl)) (by decide +kernel)
  · exact bi_of T (by kernel_rfl) (hx _ (List.mem_of_getElem? (i := 12) rfl)) (by decide +kernel)
  · exact bi_of T (by kernel_rfl) (hx _ (List.mem_of_getElem? (i := 13) rfl)) (by decide +kernel)
  · exact bi_of T (by kernel_rfl) (hx _ (List.mem_of_getElem? (i := 14) rfl)) (by decide +kernel)

theorem st_nil {prog : Program} {w : World} {o : Obj} (hs : B.heap.get? cStatics = some o) : St prog w B [] [] B :=
  ⟨fun _ _ e => e, fun _ h => (nomatch h), .nil, rfl, fun k a ob h => by simp at h, rfl, rfl, ⟨o, hs⟩, fun h => (nomatch h)⟩
theorem law_end {prog : Program} {w : World} {d : DefRec} {fa scr : Addr} {c : ClaimW} {cl : Str → Option Addr} {mean' : ExcName → Option Value} {args : List WData} (T : Top p loose mean mg mb B.heap) (H : HasF B mg d) (hfa : mg d.name = some (.ref fa))
    (g : Good d ["_law_script"]) (hg : B.gens = #[]) (hr : ∀ cls, c.raises args cls = false) (hrd : ∀ h, ReadsW c.records cl h (.bool true) (.bool true) []) (hp : c.post args (.bool true) args = true)
    (h : ∀ A pm code doc L a, AOk 50 A → WX prog w B A (callEnvC (docDef d.name d.params d.body d.scope pm code doc) L a) d.body [("_law_script", .raw (.ref scr))] [] (fun fl _ _ => retV fl = .bool true) (fun _ _ _ _ => False)) :
    codeAny (model prog w) callerA (.call (.ref fa) ⟨[.ref scr], []⟩) (GoodWG c cl mean' args B) B := by
  obtain ⟨a, pm, code, doc, h1, F⟩ := H.fn T.nolimit g
  rw [hfa] at h1; cases h1
  obtain ⟨mc, ⟨o, _, _, ho, _⟩, _⟩ := T.nodigits
  have hA : AOk 51 callerA := ⟨rfl, by decide, by decide⟩
  refine codeAny_mono (C_fn_code (X := fun _ _ _ _ => False) (xs := [.raw (.ref scr)]) (Q := fun x _ => x = .bool true) F rfl hA.room (fun L => h _ pm code doc L fa hA.deeper) [] B [.ref scr] (st_nil ho) (Vals.cons (.raw_ _) .nil)) fun r s' hr' => ?_
  match r, hr' with
  | .ok (.ret v), ⟨φ', σ', t, G', x, hx, hx'⟩ =>
    subst hx'
    obtain rfl := hx.of_bool
    exact ⟨.inl ⟨.bool true, .bool true, [], rfl, hr, hrd _, hp, fun _ => ⟨.nil, fun _ h => nomatch h⟩⟩, .of_keep G'.base, G'.os, .of_eq (G'.gens.trans hg)⟩
  | .error e, ⟨_, _, _, _, hf⟩ => exact hf.elim
end
end Mine

set_option autoImplicit false
set_option linter.unusedVariables false
set_option maxRecDepth 100000
namespace Mine
open PySem PySem.W PySem.Calls PyProof.Rows PySem.Challenge




section
variable {prog : Program} {w : World} {B : Shared} {mg mb : Str → Option Value} {scr : Addr} {nums : List Int}

theorem good_greater : Good (dr pw_uf050040_05 1) ["one", "other"] :=
  ⟨fun pm code doc vals h => (by obtain ⟨a, b, rfl⟩ := len_2 h; rfl), by decide +kernel, by decide +kernel, by decide +kernel, rfl, rfl, rfl⟩
theorem cf_greater (gl : Gl B mg mb) (bl : Blt B mg mb) (S : Scr B scr nums) (H : HasF B mg (dr pw_uf050040_05 1)) :
    CF prog w B mg "greater" 1 (fun xs σ Q X => ∃ a b c d, xs = [.tup [.int a, .int b], .tup [.int c, .int d]] ∧ Q (.tup [.int (max a c), .int (max b d)]) σ) := by
  refine CF_of gl H good_greater ?_
  rintro A pm code doc L a₀ _ σ Q X hA ⟨a, b, c, d, rfl, q⟩
  refine ⟨rfl, ?_⟩
  change WX _ _ _ _ _ (_ :: _) ((_, _) :: (_, _) :: []) _ _ _

  with_reducible (refine X_ret ?_; refine E_tuple ?_; refine Es_cons ?_; refine E_bi (Blt.max_ (by assumption)) (by first | exact Keep.builtin _ | exact Keep.type _) ?_; refine Es_cons ?_; refine E_sub ?_; refine E_nm ?_; refine LQ_here ?_; refine E_int ?_; refine S_t0 ?_; refine Es_cons ?_; refine E_sub ?_; refine E_nm ?_; refine LQ_there (by decide +kernel) ?_; refine LQ_here ?_; refine E_int ?_; refine S_t0 ?_; refine Es_nil ?_; refine C_max (AOk.handled (by assumption)) ?_; refine Es_cons ?_; refine E_bi (Blt.max_ (by assumption)) (by first | exact Keep.builtin _ | exact Keep.type _) ?_; refine Es_cons ?_; refine E_sub ?_; refine E_nm ?_; refine LQ_here ?_; refine E_int ?_; refine S_t1 ?_; refine Es_cons ?_; refine E_sub ?_; refine E_nm ?_; refine LQ_there (by decide +kernel) ?_; refine LQ_here ?_; refine E_int ?_; refine S_t1 ?_; refine Es_nil ?_; refine C_max (AOk.handled (by assumption)) ?_; refine Es_nil ?_; refine And.intro (by first | omega | with_unfolding_all exact Nat.le_of_ble_eq_true rfl) ?_)
  exact R_all q

theorem good_net : Good (dr pw_uf050040_05 2) ["share"] :=
  ⟨fun pm code doc vals h => (by obtain ⟨a, rfl⟩ := len_1 h; rfl), by decide +kernel, by decide +kernel, by decide +kernel, rfl, rfl, rfl⟩
theorem cf_net (gl : Gl B mg mb) (bl : Blt B mg mb) (S : Scr B scr nums) (H : HasF B mg (dr pw_uf050040_05 2)) :
    CF prog w B mg "net" 1 (fun xs σ Q X => ∃ a b, xs = [.tup [.int a, .int b]] ∧ Q (.int (a - b)) σ) := by
  refine CF_of gl H good_net ?_
  rintro A pm code doc L a₀ _ σ Q X hA ⟨a, b, rfl, q⟩
  refine ⟨rfl, ?_⟩
  change WX _ _ _ _ _ (_ :: _) ((_, _) :: []) _ _ _

  with_reducible (refine X_ret ?_; refine E_bin ?_; refine E_sub ?_; refine E_nm ?_; refine LQ_here ?_; refine E_int ?_; refine S_t0 ?_; refine E_sub ?_; refine E_nm ?_; refine LQ_here ?_; refine E_int ?_; refine S_t1 ?_; refine O_sub ?_)
  exact R_all q

def isL (c : Nat) : Bool := decide (97 ≤ c ∧ c ≤ 122)
def isNameS (s : Str) : Bool := decide (1 ≤ s.length ∧ s.length ≤ 8) && s.cps.toList.all isL
def letters : Str := Str.ofString "abcdefghijklmnopqrstuvwxyz"
theorem letters_list : letters.cps.toList = List.range' 97 26 := by decide +kernel
theorem take_all_succ (x : Str) (i : Nat) (hi : i < x.cps.size) : (x.cps.toList.take (i + 1)).all isL = ((x.cps.toList.take i).all isL && isL (x.cps.getD i 0)) := by
  rw [List.take_add_one, List.all_append]
  have : x.cps.toList[i]? = some (x.cps.getD i 0) := by simp [Array.getD_eq_getD_getElem?, hi]
  rw [this]
  simp

theorem isNameS_len {x : Str} (h : isNameS x = true) : 1 ≤ x.length ∧ x.length ≤ 8 := by
  unfold isNameS at h
  simp only [Bool.and_eq_true, decide_eq_true_eq] at h
  exact h.1
theorem isNameS_of {l : List Nat} (h1 : 1 ≤ l.length) (h2 : l.length ≤ 8) (h : ∀ c ∈ l, isL c = true) : isNameS ⟨l.toArray⟩ = true := by
  unfold isNameS
  simp only [Str.length, List.size_toArray, Bool.and_eq_true, decide_eq_true_eq, List.all_eq_true]
  exact ⟨⟨h1, h2⟩, h⟩
theorem isNameS_all {x : Str} (h : isNameS x = true) : ∀ c ∈ x.cps.toList, isL c = true := by
  unfold isNameS at h
  simp only [Bool.and_eq_true, List.all_eq_true] at h
  exact h.2

abbrev Pg := List (Str × Int × Int)
abbrev shV (x : Int × Int) : V := .tup [.int x.1, .int x.2]
def toRow (r : Str × Int × Int) : Key × V := (.s r.1, shV r.2)
def pgE (p : Pg) : List (Key × V) := p.map toRow
def look? (p : Pg) (n : Str) : Option (Int × Int) := (p.find? fun r => r.1 = n).map (·.2)
def look (p : Pg) (n : Str) : Int × Int := (look? p n).getD (0, 0)
def names (p : Pg) : List Str := p.map (·.1)
def reach (a b : Int × Int) : Bool := decide (b.1 ≤ a.1 ∧ b.2 ≤ a.2)
def pput (p : Pg) (n : Str) (v : Int × Int) : Pg := if p.any (fun r => r.1 = n) then p.map (fun r => if r.1 = n then (r.1, v) else r) else p ++ [(n, v)]
theorem pgE_length (p : Pg) : (pgE p).length = p.length := by simp [pgE]
theorem pgE_keys (p : Pg) : (pgE p).map (·.1) = (names p).map Key.s := by simp [pgE, names, toRow]
theorem at_pg (p : Pg) (n : Str) : at? (pgE p) (.s n) = (look? p n).map shV := by
  unfold at? look? pgE
  induction p with
  | nil => rfl
  | cons r t ih =>
    by_cases h : r.1 = n
    · simp [toRow, h]
    · simpa [toRow, h] using ih
theorem at_pgD (p : Pg) (n : Str) : (at? (pgE p) (.s n)).getD (.tup [.int 0, .int 0]) = shV (look p n) := by
  rw [at_pg]; unfold look; cases look? p n <;> rfl
theorem put_pg (p : Pg) (n : Str) (v : Int × Int) : put (pgE p) (.s n) (shV v) = pgE (pput p n v) := by
  unfold put pput pgE
  have e : (p.map toRow).any (fun e => e.1 = Key.s n) = p.any (fun r => r.1 = n) := by
    rw [List.any_map]; congr 1; funext r; simp [toRow]
  rw [e]
  split
  · rw [List.map_map, List.map_map]; congr 1; funext r
    by_cases h : r.1 = n <;> simp [toRow, h]
  · simp [toRow]
theorem look?_get {p : Pg} (hn : (names p).Nodup) {r : Str × Int × Int} (hr : r ∈ p) : look? p r.1 = some r.2 := by
  unfold look?
  induction p with
  | nil => cases hr
  | cons q t ih =>
    simp only [names, List.map_cons, List.nodup_cons] at hn
    rcases List.mem_cons.mp hr with rfl | h
    · simp
    · have hne : q.1 ≠ r.1 := fun e => hn.1 (e ▸ List.mem_map.mpr ⟨r, h, rfl⟩)
      simpa [hne] using ih hn.2 h
theorem look_get {p : Pg} (hn : (names p).Nodup) {r : Str × Int × Int} (hr : r ∈ p) : look p r.1 = r.2 := by unfold look; rw [look?_get hn hr]; rfl
theorem look?_mem {p : Pg} {n : Str} (h : n ∈ names p) : ∃ v, look? p n = some v ∧ (n, v) ∈ p := by
  unfold look?
  cases e : p.find? (fun r => decide (r.1 = n)) with
  | none =>
    obtain ⟨r, hr, rfl⟩ := List.mem_map.mp h
    have := List.find?_eq_none.mp e r hr
    simp at this
  | some r =>
    have h1 := List.find?_some e
    have h2 := List.mem_of_find?_eq_some e
    simp only [decide_eq_true_eq] at h1
    exact ⟨r.2, rfl, by rw [← h1]; exact h2⟩
theorem look_mem {p : Pg} {n : Str} (h : n ∈ names p) : look? p n = some (look p n) ∧ (n, look p n) ∈ p := by
  obtain ⟨v, h1, h2⟩ := look?_mem h
  have : look p n = v := by unfold look; rw [h1]; rfl
  rw [this]; exact ⟨h1, h2⟩
theorem names_nodup {p : Pg} (h : ((pgE p).map (·.1)).Nodup) : (names p).Nodup := by
  rw [pgE_keys] at h
  exact (List.pairwise_map.mp h).imp fun hne e => hne (congrArg Key.s e)
theorem keyAt_pg {p : Pg} {i : Nat} (hi : i < p.length) : keyAt (pgE p) i = .str (p[i]).1 := by
  rw [keyAt_get (by rw [pgE_length]; exact hi)]; simp [pgE, toRow, Key.v]
theorem at_pg_get {p : Pg} (hn : (names p).Nodup) {i : Nat} (hi : i < p.length) : at? (pgE p) (.s (p[i]).1) = some (shV (p[i]).2) := by
  rw [at_pg, look?_get hn (List.getElem_mem hi)]; rfl
def RowOk (r : Str × Int × Int) : Prop := isNameS r.1 = true ∧ 0 ≤ r.2.1 ∧ 0 ≤ r.2.2 ∧ 0 < r.2.1 + r.2.2
def PgOk (p : Pg) : Prop := (names p).Nodup ∧ ∀ r ∈ p, RowOk r
theorem pput_names (p : Pg) (n : Str) (v : Int × Int) : names (pput p n v) = if n ∈ names p then names p else names p ++ [n] := by
  unfold pput names
  by_cases h : p.any (fun r => r.1 = n) = true
  · rw [if_pos h, if_pos ?_]
    · rw [List.map_map]; congr 1; funext r; simp only [Function.comp]; split <;> rfl
    · obtain ⟨r, hr, e⟩ := List.any_eq_true.mp h
      exact List.mem_map.mpr ⟨r, hr, by simpa using e⟩
  · rw [if_neg h, if_neg ?_]
    · simp
    · intro hm
      obtain ⟨r, hr, e⟩ := List.mem_map.mp hm
      exact h (List.any_eq_true.mpr ⟨r, hr, by simpa using e⟩)
theorem pput_ok {p : Pg} {n : Str} {v : Int × Int} (h : PgOk p) (hr : RowOk (n, v)) : PgOk (pput p n v) := by
  refine ⟨?_, fun r hm => ?_⟩
  · rw [pput_names]
    split
    · exact h.1
    · rename_i hn
      rw [List.nodup_append]
      exact ⟨h.1, by simp, fun a ha b hb => by rw [List.mem_singleton.mp hb]; exact fun e => hn (e ▸ ha)⟩
  · unfold pput at hm
    split at hm
    · obtain ⟨q, hq, rfl⟩ := List.mem_map.mp hm
      split
      · rename_i e; rw [e]; exact hr
      · exact h.2 q hq
    · rcases List.mem_append.mp hm with hm | hm
      · exact h.2 r hm
      · rw [List.mem_singleton.mp hm]; exact hr
theorem pput_len (p : Pg) (n : Str) (v : Int × Int) : (pput p n v).length ≤ p.length + 1 := by
  unfold pput; split <;> simp
theorem PgOk.nil : PgOk [] := ⟨List.nodup_nil, fun _ h => nomatch h⟩
theorem pgE_lt (p : Pg) (n : Nat) : (AObj.dict (pgE p) none).lt n := by
  simp only [AObj.lt]
  intro q hq
  obtain ⟨r, _, rfl⟩ := List.mem_map.mp hq
  simp [toRow, V.lt, Vs.lt]
theorem isNameS_cps {x : Str} (h : isNameS x = true) : PyData.strOk x = true := by
  have := isNameS_all h
  unfold PyData.strOk
  rw [Array.all_eq_true_iff_forall_mem]
  intro c hc
  have h2 := this c (by simpa using hc)
  unfold isL at h2
  simp only [decide_eq_true_eq] at h2 ⊢
  lia

theorem good_share_of : Good (dr pw_uf050040_05 4) ["page", "name"] :=
  ⟨fun pm code doc vals h => (by obtain ⟨a, b, rfl⟩ := len_2 h; rfl), by decide +kernel, by decide +kernel, by decide +kernel, rfl, rfl, rfl⟩
theorem cf_share_of (gl : Gl B mg mb) (bl : Blt B mg mb) (S : Scr B scr nums) (H : HasF B mg (dr pw_uf050040_05 4)) :
    CF prog w B mg "share_of" 1 (fun xs σ Q X => ∃ k p e n, σ[k]? = some (.dict (pgE p) e) ∧ xs = [.ref k, .str n] ∧ Q (shV (look p n)) σ) := by
  refine CF_of gl H good_share_of ?_
  rintro A pm code doc L a₀ _ σ Q X hA ⟨k, p, e, n, hk, rfl, q⟩
  refine ⟨rfl, ?_⟩
  change WX _ _ _ _ _ (_ :: _) ((_, _) :: (_, _) :: []) _ _ _

  with_reducible (refine X_ret ?_; refine E_mcall (name := Str.ofString "get") (id := "dict.get") ?_; refine E_nm ?_; refine LQ_here ?_)
  refine ⟨GM_dict hk F.slot_dict_get F.type_dict_get, ?_⟩
  with_reducible (refine Es_cons ?_; refine E_nm ?_; refine LQ_there (by decide +kernel) ?_; refine LQ_here ?_; refine Es_cons ?_; refine E_tuple ?_; refine Es_cons ?_; refine E_int ?_; refine Es_cons ?_; refine E_int ?_; refine Es_nil ?_; refine And.intro (by first | omega | with_unfolding_all exact Nat.le_of_ble_eq_true rfl) ?_; refine Es_nil ?_)
  refine C_get_s hk ?_
  rw [at_pgD]
  exact R_all q

def lackB (p : Pg) (r : Str × Int × Int) : Bool := !reach (look p r.1) r.2
def sortedP (r : Pg) : Pg := (srt (names r)).map fun n => (n, look r n)
def lacks (p r : Pg) : Pg := (sortedP r).filter (lackB p)
theorem srt_mem {l : List Str} {x : Str} : x ∈ srt l ↔ x ∈ l := (srt_perm l).mem_iff
theorem srt_nodup {l : List Str} (h : l.Nodup) : (srt l).Nodup := (srt_perm l).nodup_iff.mpr h
theorem names_sortedP (r : Pg) : names (sortedP r) = srt (names r) := by unfold names sortedP; rw [List.map_map]; exact List.map_id'' (fun _ => rfl) _
theorem sortedP_mem {r : Pg} (hn : (names r).Nodup) {x : Str × Int × Int} : x ∈ sortedP r ↔ x ∈ r := by
  constructor
  · intro h
    obtain ⟨n, hm, rfl⟩ := List.mem_map.mp h
    exact (look_mem (srt_mem.mp hm)).2
  · intro h
    refine List.mem_map.mpr ⟨x.1, srt_mem.mpr (List.mem_map.mpr ⟨x, h, rfl⟩), ?_⟩
    rw [look_get hn h]
theorem sub_pairwise {l m : List Str} (h : l.Sublist (srt m)) : l.Pairwise (fun a b => leS a b = true) := (srt_sorted m).sublist h
theorem filter_names (f : Str × Int × Int → Bool) (p : Pg) : (names (p.filter f)).Sublist (names p) := List.Sublist.map _ List.filter_sublist
theorem nodup_perm {l m : List Str} (h1 : l.Nodup) (h2 : m.Nodup) (h : ∀ x, x ∈ l ↔ x ∈ m) : l.Perm m := (List.perm_ext_iff_of_nodup h1 h2).mpr h
/-- what lacking gives and what is due -/
theorem lacks_names {p r : Pg} (hn : (names r).Nodup) : names (lacks p r) = srt (names (r.filter (lackB p))) := by
  refine sorted_unique ?_ (sub_pairwise (m := names r) ?_) (srt_sorted _)
  · refine (nodup_perm ?_ ?_ fun x => ?_).trans (srt_perm _).symm
    · have h1 := (filter_names (lackB p) (sortedP r)).nodup (by rw [names_sortedP]; exact srt_nodup hn)
      exact h1
    · exact (filter_names (lackB p) r).nodup hn
    · unfold lacks names
      simp only [List.mem_map, List.mem_filter, sortedP_mem hn]
  · have := filter_names (lackB p) (sortedP r)
    rw [names_sortedP] at this
    exact this
theorem lacks_mem {p r : Pg} (hn : (names r).Nodup) {x : Str × Int × Int} (h : x ∈ lacks p r) : x ∈ r.filter (lackB p) := by
  unfold lacks at h
  rw [List.mem_filter] at h ⊢
  exact ⟨(sortedP_mem hn).mp h.1, h.2⟩
theorem lacks_len {p r : Pg} (hn : (names r).Nodup) : (lacks p r).length ≤ r.length := by
  have h1 := List.length_filter_le (lackB p) (sortedP r)
  have h2 : (sortedP r).length = r.length := by unfold sortedP; rw [List.length_map, (srt_perm _).length_eq]; simp [names]
  unfold lacks; lia
theorem knows_lacks (p r : Pg) : (r.all fun x => reach (look p x.1) x.2) = (r.filter (lackB p)).isEmpty := by
  induction r with
  | nil => rfl
  | cons x t ih =>
    rw [List.all_cons, ih, List.filter_cons]
    unfold lackB
    cases reach (look p x.1) x.2 <;> simp
theorem filter_ok {p : Pg} (f : Str × Int × Int → Bool) (h : PgOk p) : PgOk (p.filter f) := ⟨(filter_names f p).nodup h.1, fun r hr => h.2 r (List.mem_filter.mp hr).1⟩

def maxS (a b : Int × Int) : Int × Int := (max a.1 b.1, max a.2 b.2)
def joins (p r : Pg) : Pg := (srt (onceS (names p ++ names r))).map fun n => (n, maxS (look p n) (look r n))
def dueJ (p r : Pg) : Pg := r.foldl (fun g x => pput g x.1 (maxS (look g x.1) x.2)) p
def nets (p : Pg) : List Int := p.map fun r => r.2.1 - r.2.2
theorem keys_v (p : Pg) : (pgE p).map (fun p => p.1.v) = (names p).map V.str := by simp [pgE, toRow, names, Key.v]
theorem names_len (p : Pg) : (names p).length = p.length := by simp [names]
theorem pput_fresh {g : Pg} {n : Str} {v : Int × Int} (h : n ∉ names g) : pput g n v = g ++ [(n, v)] := by
  unfold pput
  rw [if_neg]
  intro ha
  obtain ⟨x, hx, hxe⟩ := List.any_eq_true.mp ha
  exact h (List.mem_map.mpr ⟨x, hx, by simpa using hxe⟩)
theorem names_rows (l : List Str) (f : Str → Int × Int) : names (l.map fun n => (n, f n)) = l := by unfold names; rw [List.map_map]; exact List.map_id'' (fun _ => rfl) _
theorem take_fresh {l : List Str} (h : l.Nodup) {i : Nat} (hi : i < l.length) : l[i] ∉ l.take i := fun hm => by
  obtain ⟨m, hm', em⟩ := List.mem_iff_getElem.mp hm
  rw [List.getElem_take] at em
  rw [List.length_take] at hm'
  exact List.pairwise_iff_getElem.mp h m i (by lia) hi (by lia) em
theorem row_get {l : List Str} {f : Str → Int × Int} {i : Nat} (hi : i < l.length) : (l.take (i + 1)).map (fun n => (n, f n)) = (l.take i).map (fun n => (n, f n)) ++ [(l[i], f l[i])] := by
  rw [List.take_add_one, List.getElem?_eq_getElem hi, List.map_append]; rfl
theorem look?_none {p : Pg} {n : Str} (h : n ∉ names p) : look? p n = none := by
  unfold look?
  have : p.find? (fun r => decide (r.1 = n)) = none := by
    rw [List.find?_eq_none]
    intro r hr e
    exact h (List.mem_map.mpr ⟨r, hr, by simpa using e⟩)
  rw [this]; rfl
theorem look_none {p : Pg} {n : Str} (h : n ∉ names p) : look p n = (0, 0) := by unfold look; rw [look?_none h]; rfl
theorem look_pput (g : Pg) (n m : Str) (v : Int × Int) : look (pput g n v) m = if m = n then v else look g m := by
  by_cases hn : n ∈ names g
  · have ha : g.any (fun r => r.1 = n) = true := by
      obtain ⟨r, hr, e⟩ := List.mem_map.mp hn
      exact List.any_eq_true.mpr ⟨r, hr, by simpa using e⟩
    unfold pput
    rw [if_pos ha]
    clear ha
    by_cases hm : m = n
    · subst hm
      rw [if_pos rfl]
      unfold look look?
      induction g with
      | nil => simp [names] at hn
      | cons r t ih =>
        by_cases h : r.1 = m
        · simp [h]
        · have hn' : m ∈ names t := by
            rcases List.mem_cons.mp hn with e | e
            · exact absurd e.symm h
            · exact e
          simpa [h] using ih hn'
    · rw [if_neg hm]
      unfold look look?
      congr 1
      clear hn
      induction g with
      | nil => rfl
      | cons r t ih =>
        by_cases h : r.1 = m
        · have : ¬ r.1 = n := fun e => hm (h.symm.trans e)
          simp [h, this, hm]
        · by_cases h2 : r.1 = n
          · have : ¬ n = m := fun e => hm e.symm
            simpa [h, h2, this] using ih
          · simpa [h, h2] using ih
  · rw [pput_fresh hn]
    unfold look look?
    rw [List.find?_append]
    by_cases hm : m = n
    · subst hm
      have : g.find? (fun r => decide (r.1 = m)) = none := by
        rw [List.find?_eq_none]
        intro r hr e
        exact hn (List.mem_map.mpr ⟨r, hr, by simpa using e⟩)
      rw [this]; simp
    · rw [if_neg hm]
      congr 1
      have : ([(n, v)] : Pg).find? (fun r => decide (r.1 = m)) = none := by simp; exact fun e => hm e.symm
      rw [this]; simp
theorem pput_mem (g : Pg) (n m : Str) (v : Int × Int) : m ∈ names (pput g n v) ↔ m ∈ names g ∨ m = n := by
  rw [pput_names]
  split
  · rename_i h
    exact ⟨.inl, fun hx => hx.elim id fun e => e ▸ h⟩
  · simp
theorem dueJ_names (r : Pg) : ∀ (p : Pg) (m : Str), m ∈ names (dueJ p r) ↔ m ∈ names p ∨ m ∈ names r := by
  induction r with
  | nil => intro p m; simp [dueJ, names]
  | cons x t ih =>
    intro p m
    have := ih (pput p x.1 (maxS (look p x.1) x.2)) m
    unfold dueJ at this ⊢
    rw [List.foldl_cons, this, pput_mem]
    simp only [names, List.map_cons, List.mem_cons]
    constructor
    · rintro ((h | h) | h)
      · exact .inl h
      · exact .inr (.inl h)
      · exact .inr (.inr h)
    · rintro (h | h | h)
      · exact .inl (.inl h)
      · exact .inl (.inr h)
      · exact .inr h
theorem dueJ_len (r : Pg) : ∀ (p : Pg), (dueJ p r).length ≤ p.length + r.length := by
  induction r with
  | nil => intro p; simp [dueJ]
  | cons x t ih =>
    intro p
    have h1 := ih (pput p x.1 (maxS (look p x.1) x.2))
    have h2 := pput_len p x.1 (maxS (look p x.1) x.2)
    unfold dueJ at h1 ⊢
    rw [List.foldl_cons, List.length_cons]
    lia
theorem look_notin_dueJ (r : Pg) : ∀ (p : Pg) (m : Str), m ∉ names r → look (dueJ p r) m = look p m := by
  induction r with
  | nil => intro p m _; rfl
  | cons x t ih =>
    intro p m h
    simp only [names, List.map_cons, List.mem_cons, not_or] at h
    have h1 := ih (pput p x.1 (maxS (look p x.1) x.2)) m h.2
    unfold dueJ at h1 ⊢
    rw [List.foldl_cons, h1, look_pput, if_neg h.1]
theorem look_dueJ (r : Pg) : ∀ (p : Pg) (m : Str), (names r).Nodup → m ∈ names r → look (dueJ p r) m = maxS (look p m) (look r m) := by
  induction r with
  | nil => intro p m _ h; simp [names] at h
  | cons x t ih =>
    intro p m hn h
    simp only [names, List.map_cons, List.nodup_cons] at hn
    have e : dueJ p (x :: t) = dueJ (pput p x.1 (maxS (look p x.1) x.2)) t := rfl
    rw [e]
    by_cases hm : m = x.1
    · subst hm
      rw [look_notin_dueJ t _ _ hn.1, look_pput, if_pos rfl]
      have : look (x :: t) x.1 = x.2 := by unfold look look?; simp
      rw [this]
    · have hm' : m ∈ names t := by
        rcases List.mem_cons.mp h with e | e
        · exact absurd e hm
        · exact e
      rw [ih _ m hn.2 hm', look_pput, if_neg hm]
      have : look (x :: t) m = look t m := by
        unfold look look?
        have hx : ¬ x.1 = m := fun e => hm e.symm
        simp [hx]
      rw [this]
theorem dueJ_nodup (r : Pg) : ∀ (p : Pg), (names p).Nodup → (names (dueJ p r)).Nodup := by
  induction r with
  | nil => intro p h; exact h
  | cons x t ih =>
    intro p h
    have e : dueJ p (x :: t) = dueJ (pput p x.1 (maxS (look p x.1) x.2)) t := rfl
    rw [e]
    refine ih _ ?_
    rw [pput_names]
    split
    · exact h
    · rename_i hn
      rw [List.nodup_append]
      exact ⟨h, by simp, fun a ha b hb => by rw [List.mem_singleton.mp hb]; exact fun e => hn (e ▸ ha)⟩
theorem maxS_comm (a b : Int × Int) : maxS a b = maxS b a := by unfold maxS; rw [Int.max_comm, Int.max_comm a.2]
def NonNeg (x : Int × Int) : Prop := 0 ≤ x.1 ∧ 0 ≤ x.2
theorem maxS_zero {a : Int × Int} (h : NonNeg a) : maxS a (0, 0) = a := by unfold maxS; rw [Int.max_eq_left h.1, Int.max_eq_left h.2]
theorem look_nonneg {p : Pg} (h : PgOk p) (n : Str) : NonNeg (look p n) := by
  by_cases hn : n ∈ names p
  · have := h.2 _ (look_mem hn).2
    exact ⟨this.2.1, this.2.2.1⟩
  · rw [look_none hn]; exact ⟨Int.le_refl _, Int.le_refl _⟩
theorem look_dueJ_all {p r : Pg} (hp : PgOk p) (hr : PgOk r) (m : Str) : look (dueJ p r) m = maxS (look p m) (look r m) := by
  by_cases h : m ∈ names r
  · exact look_dueJ r p m hr.1 h
  · rw [look_notin_dueJ r p m h, look_none h, maxS_zero (look_nonneg hp m)]
theorem dueJ_ok {p r : Pg} (hp : PgOk p) (hr : PgOk r) : PgOk (dueJ p r) := by
  refine ⟨dueJ_nodup r p hp.1, fun x hx => ?_⟩
  have hm : x.1 ∈ names (dueJ p r) := List.mem_map.mpr ⟨x, hx, rfl⟩
  have he := look_get (dueJ_nodup r p hp.1) hx
  rw [look_dueJ_all hp hr] at he
  have n1 := look_nonneg hp x.1
  have n2 := look_nonneg hr x.1
  unfold NonNeg at n1 n2
  have e1 : x.2.1 = max (look p x.1).1 (look r x.1).1 := by rw [← he]; rfl
  have e2 : x.2.2 = max (look p x.1).2 (look r x.1).2 := by rw [← he]; rfl
  rcases (dueJ_names r p x.1).mp hm with h | h
  · obtain ⟨a1, a2, a3, a4⟩ := hp.2 _ (look_mem h).2
    dsimp only at a1 a2 a3 a4
    exact ⟨a1, by lia, by lia, by lia⟩
  · obtain ⟨a1, a2, a3, a4⟩ := hr.2 _ (look_mem h).2
    dsimp only at a1 a2 a3 a4
    exact ⟨a1, by lia, by lia, by lia⟩
theorem joins_comm (p r : Pg) : joins p r = joins r p := by
  unfold joins
  have e : srt (onceS (names p ++ names r)) = srt (onceS (names r ++ names p)) := srt_congr (nodup_perm (onceS_nodup _) (onceS_nodup _) fun x => by rw [onceS_mem, onceS_mem, List.mem_append, List.mem_append, Or.comm])
  rw [e]
  congr 1
  funext n
  rw [maxS_comm]
theorem joins_len (p r : Pg) : (joins p r).length ≤ p.length + r.length := by
  unfold joins
  rw [List.length_map, (srt_perm _).length_eq]
  have := onceS_len (names p ++ names r)
  rw [List.length_append, names_len, names_len] at this
  exact this
theorem same_joins {p r : Pg} (hp : PgOk p) (hr : PgOk r) (hl : p.length + r.length ≤ 1000) : names (joins p r) = srt (names (dueJ p r)) ∧ (∀ x ∈ joins p r, x ∈ dueJ p r) ∧ (dueJ p r).length ≤ 1000 ∧ ∀ x ∈ dueJ p r, isNameS x.1 = true := by
  refine ⟨?_, fun x hx => ?_, Nat.le_trans (dueJ_len r p) hl, fun x hx => ((dueJ_ok hp hr).2 x hx).1⟩
  · unfold joins
    rw [names_rows]
    exact srt_congr (nodup_perm (onceS_nodup _) (dueJ_nodup r p hp.1) fun x => by rw [onceS_mem, List.mem_append, dueJ_names])
  · obtain ⟨n, hn, rfl⟩ := List.mem_map.mp hx
    have h1 := srt_mem.mp hn
    rw [onceS_mem, List.mem_append] at h1
    have h2 := (look_mem ((dueJ_names r p n).mpr h1)).2
    rw [look_dueJ_all hp hr] at h2
    exact h2
theorem range_getD (l : List Int) : (List.range l.length).map (fun i => V.int (l.getD i 0)) = l.map V.int := by
  refine List.ext_getElem? fun i => ?_
  rw [List.getElem?_map, List.getElem?_map]
  by_cases h : i < l.length
  · rw [List.getElem?_range h]
    simp only [Option.map_some, List.getD_eq_getElem?_getD, List.getElem?_eq_getElem h, Option.getD_some]
  · rw [List.getElem?_eq_none (by simpa using h), List.getElem?_eq_none (by simpa using h)]; rfl
theorem nets_get (p : Pg) {i : Nat} (hi : i < p.length) : (nets p).getD i 0 = (p[i]).2.1 - (p[i]).2.2 := by
  unfold nets; rw [List.getD_eq_getElem?_getD, List.getElem?_map, List.getElem?_eq_getElem hi]; rfl

theorem good_joined : Good (dr pw_uf050040_05 5) ["one", "other"] :=
  ⟨fun pm code doc vals h => (by obtain ⟨a, b, rfl⟩ := len_2 h; rfl), by decide +kernel, by decide +kernel, by decide +kernel, rfl, rfl, rfl⟩
theorem cf_joined (gl : Gl B mg mb) (bl : Blt B mg mb) (S : Scr B scr nums) (H : HasF B mg (dr pw_uf050040_05 5))
    (c_share_of : CF prog w B mg "share_of" 1 (fun xs σ Q X => ∃ k p e n, σ[k]? = some (.dict (pgE p) e) ∧ xs = [.ref k, .str n] ∧ Q (shV (look p n)) σ))
    (c_greater : CF prog w B mg "greater" 1 (fun xs σ Q X => ∃ a b c d, xs = [.tup [.int a, .int b], .tup [.int c, .int d]] ∧ Q (.tup [.int (max a c), .int (max b d)]) σ)) :
    CF prog w B mg "joined" 3 (fun xs σ Q X => ∃ j k p r e e', σ[j]? = some (.dict (pgE p) e) ∧ σ[k]? = some (.dict (pgE r) e') ∧ p.length + r.length ≤ 1000 ∧ xs = [.ref j, .ref k] ∧ Q (.ref σ.length) (σ ++ [.dict (pgE (joins p r)) none])) := by
  refine CF_of gl H good_joined ?_
  rintro A pm code doc L a₀ _ σ Q X hA ⟨j, k, p, r, e, e', hj, hk, hlen, rfl, q⟩
  refine ⟨rfl, ?_⟩
  change WX _ _ _ _ _ (_ :: _) ((_, _) :: (_, _) :: []) _ _ _

  with_reducible (refine X_let ?_; refine E_dict0 ?_)
  refine X_fors ?_
  with_reducible (refine E_bi (Blt.sorted_ (by assumption)) (by first | exact Keep.builtin _ | exact Keep.type _) ?_; refine Es_cons ?_; refine E_bi (Blt.set_ (by assumption)) (by first | exact Keep.builtin _ | exact Keep.type _) ?_; refine Es_cons ?_; refine E_bin ?_; refine E_bi (Blt.list_ (by assumption)) (by first | exact Keep.builtin _ | exact Keep.type _) ?_; refine Es_cons ?_; refine E_nm ?_; refine LQ_there (by decide +kernel) ?_; refine LQ_here ?_; refine Es_nil ?_)
  refine C_list_dict hA.handled (up_at hj) (small_size (by rw [pgE_length]; lia)) ?_
  with_reducible (refine E_bi (Blt.list_ (by assumption)) (by first | exact Keep.builtin _ | exact Keep.type _) ?_; refine Es_cons ?_; refine E_nm ?_; refine LQ_there (by decide +kernel) ?_; refine LQ_there (by decide +kernel) ?_; refine LQ_here ?_; refine Es_nil ?_)
  refine C_list_dict hA.handled (up_at (up_at hk)) (small_size (by rw [pgE_length]; lia)) ?_
  rw [keys_v, keys_v]
  skip
  refine O_addl at_prev at_end (small_size (by rw [List.length_map, List.length_map, names_len, names_len]; lia)) ?_
  rw [← List.map_append]
  with_reducible (refine Es_nil ?_)
  have hol := onceS_len (names p ++ names r)
  have hnl : (names p ++ names r).length = p.length + r.length := by rw [List.length_append, names_len, names_len]
  refine C_set_list hA.handled at_end (Nat.lt_of_le_of_lt (show _ ≤ 1001 by lia) (by decide +kernel)) ?_
  with_reducible (refine Es_nil ?_)
  refine C_sorted_set hA.handled at_end (small_size (by lia)) ?_
  have hsl : (srt (onceS (names p ++ names r))).length ≤ 1000 := by rw [(srt_perm _).length_eq]; lia
  have hsn : (srt (onceS (names p ++ names r))).Nodup := srt_nodup (onceS_nodup _)
  simp only [List.append_assoc, List.cons_append, List.nil_append, List.length_append, List.length_cons, List.length_nil, Nat.zero_add, Nat.reduceAdd]
  generalize AObj.list ((names p).map V.str) = o1
  generalize AObj.list ((names r).map V.str) = o2
  generalize AObj.list ((names p ++ names r).map V.str) = o3
  generalize AObj.set (onceS (names p ++ names r)) = o4
  unfold joins at q
  generalize srt (onceS (names p ++ names r)) = L at *
  have hL : ∀ g : Pg, (σ ++ [.dict (pgE g) none, o1, o2, o3, o4, .list (L.map V.str)])[σ.length + 5]? = some (.list (L.map V.str)) := fun g => by rw [List.getElem?_append_right (Nat.le_add_right _ _), Nat.add_sub_cancel_left]; rfl
  refine ForG.mk (ι := Pg) (fun i g => g = (L.take i).map fun n => (n, maxS (look p n) (look r n))) (fun _ _ => [("found", .ref σ.length), ("one", .ref j), ("other", .ref k)]) (fun _ g => σ ++ [.dict (pgE g) none, o1, o2, o3, o4, .list (L.map V.str)]) (It_list hA.handled (hL [])) [] rfl rfl (hL []) (by with_reducible (refine Sub.cons ?_; refine LQ_here ?_; refine ⟨rfl, ?_⟩; refine Sub.cons ?_; refine LQ_there (by decide +kernel) ?_; refine LQ_here ?_; refine ⟨rfl, ?_⟩; refine Sub.cons ?_; refine LQ_there (by decide +kernel) ?_; refine LQ_there (by decide +kernel) ?_; refine LQ_here ?_; refine ⟨rfl, ?_⟩; exact Sub.nil)) ?_ ?_
  · rintro i g hi hD -
    rw [List.length_map] at hi
    have eg : (L.map V.str).getD i .none = .str L[i] := by rw [List.getD_eq_getElem?_getD, List.getElem?_map, List.getElem?_eq_getElem hi]; rfl
    rw [eg]
    have hgl : g.length ≤ i := by rw [hD, List.length_map, List.length_take]; lia
    with_reducible (refine X_set ?_; refine E_cf (by assumption) (AOk.le (by assumption) (by decide)) ?_; refine Es_cons ?_; refine E_cf (by assumption) (AOk.le (by assumption) (by decide)) ?_; refine Es_cons ?_; refine E_nm ?_; refine LQ_there (by decide +kernel) ?_; refine LQ_there (by decide +kernel) ?_; refine LQ_here ?_; refine Es_cons ?_; refine E_nm ?_; refine LQ_here ?_; refine Es_nil ?_)
    refine ⟨_, _, _, _, up_at hj, rfl, ?_⟩
    with_reducible (refine Es_cons ?_; refine E_cf (by assumption) (AOk.le (by assumption) (by decide)) ?_; refine Es_cons ?_; refine E_nm ?_; refine LQ_there (by decide +kernel) ?_; refine LQ_there (by decide +kernel) ?_; refine LQ_there (by decide +kernel) ?_; refine LQ_here ?_; refine Es_cons ?_; refine E_nm ?_; refine LQ_here ?_; refine Es_nil ?_)
    refine ⟨_, _, _, _, up_at hk, rfl, ?_⟩
    with_reducible (refine Es_nil ?_; refine ⟨_, _, _, _, rfl, ?_⟩; refine E_nm ?_; refine LQ_there (by decide +kernel) ?_; refine LQ_here ?_; refine E_nm ?_; refine LQ_here ?_)
    refine P_dict (key := .s L[i]) (es := pgE g) (by simp) (small_size (by rw [pgE_length]; lia)) ?_
    have es : (σ ++ [AObj.dict (pgE g) none, o1, o2, o3, o4, .list (L.map V.str)]).set σ.length (.dict (put (pgE g) (.s L[i]) (shV (maxS (look p L[i]) (look r L[i])))) none) = σ ++ [AObj.dict (pgE (pput g L[i] (maxS (look p L[i]) (look r L[i])))) none, o1, o2, o3, o4, .list (L.map V.str)] := by
      rw [put_pg, List.set_append_right _ _ (Nat.le_refl _), Nat.sub_self]; rfl
    rw [show V.tup [.int (max (look p L[i]).1 (look r L[i]).1), .int (max (look p L[i]).2 (look r L[i]).2)] = shV (maxS (look p L[i]) (look r L[i])) from rfl, es]
    with_reducible (refine X_nil ?_)
    refine TJ_next (pput g L[i] (maxS (look p L[i]) (look r L[i]))) ?_ rfl (hL _) (by with_reducible (refine Sub.cons ?_; refine LQ_there (by decide +kernel) ?_; refine LQ_here ?_; refine ⟨rfl, ?_⟩; refine Sub.cons ?_; refine LQ_there (by decide +kernel) ?_; refine LQ_there (by decide +kernel) ?_; refine LQ_here ?_; refine ⟨rfl, ?_⟩; refine Sub.cons ?_; refine LQ_there (by decide +kernel) ?_; refine LQ_there (by decide +kernel) ?_; refine LQ_there (by decide +kernel) ?_; refine LQ_here ?_; refine ⟨rfl, ?_⟩; exact Sub.nil))
    rw [row_get hi, ← hD]
    refine pput_fresh ?_
    rw [hD, names_rows]
    exact take_fresh hsn hi
  · rintro g hD -
    rw [List.length_map, List.take_length] at hD
    subst hD
    with_reducible (refine X_ret ?_; refine E_nm ?_; refine LQ_here ?_)
    exact R_one0 (pgE_lt _ _) q

theorem good_total : Good (dr pw_uf050040_05 6) ["page"] :=
  ⟨fun pm code doc vals h => (by obtain ⟨a, rfl⟩ := len_1 h; rfl), by decide +kernel, by decide +kernel, by decide +kernel, rfl, rfl, rfl⟩
theorem cf_total (gl : Gl B mg mb) (bl : Blt B mg mb) (S : Scr B scr nums) (H : HasF B mg (dr pw_uf050040_05 6))
    (c_net : CF prog w B mg "net" 1 (fun xs σ Q X => ∃ a b, xs = [.tup [.int a, .int b]] ∧ Q (.int (a - b)) σ)) :
    CF prog w B mg "total" 2 (fun xs σ Q X => ∃ k p e, σ[k]? = some (.dict (pgE p) e) ∧ p.length ≤ 1000 ∧ xs = [.ref k] ∧ Q (.int (nets p).sum) σ) := by
  refine CF_of gl H good_total ?_
  rintro A pm code doc L a₀ _ σ Q X hA ⟨k, p, e, hk, hlen, rfl, q⟩
  refine ⟨rfl, ?_⟩
  change WX _ _ _ _ _ (_ :: _) ((_, _) :: []) _ _ _

  refine X_keys hk fun hnd => ?_
  replace hnd := names_nodup hnd
  with_reducible (refine X_ret ?_; refine E_bi (Blt.sum_ (by assumption)) (by first | exact Keep.builtin _ | exact Keep.type _) ?_; refine Es_cons ?_)
  refine E_compd [("page", .ref k)] (fun i => .int ((nets p).getD i 0)) (by kernel_rfl!) (by with_reducible (refine Sub.cons ?_; refine LQ_here ?_; refine ⟨rfl, ?_⟩; exact Sub.nil)) (by kernel_rfl!) env_apart hA.handled hk (small_size (by rw [pgE_length]; lia)) (fun ep => ?_) (fun ep D i junk hi => ?_) ?_
  · with_reducible (refine E_nm ?_; refine LQ_here ?_; refine ⟨rfl, ?_⟩)
    first | exact ⟨rfl, rfl⟩ | rfl
  · rw [pgE_length] at hi
    rw [keyAt_pg hi]
    with_reducible (refine E_cf (by assumption) (AOk.le (by assumption) (by decide)) ?_; refine Es_cons ?_; refine E_sub ?_; refine E_nm ?_; refine LQ_there (by decide +kernel) ?_; refine LQ_here ?_; refine E_nm ?_; refine LQ_here ?_)
    refine S_dict (key := .s _) (up_at (pin_at hk)) (at_pg_get hnd hi) ?_
    with_reducible (refine Es_nil ?_; refine ⟨_, _, rfl, ?_⟩)
    exact ⟨by rw [nets_get p hi], rfl⟩
  rw [pgE_length, show p.length = (nets p).length from (by simp [nets]), range_getD]
  with_reducible (refine Es_nil ?_)
  refine C_sum hA.handled at_end ?_
  exact R_none (by simp [V.lt]) q

def cellAt (nums : List Int) (k : Int) : Int := if k < nums.length then nums.getD k.toNat 0 else 0

theorem good_cell_at : Good (dr pw_uf050040_05 8) ["_law_script", "_law_k"] :=
  ⟨fun pm code doc vals h => (by obtain ⟨a, b, rfl⟩ := len_2 h; rfl), by decide +kernel, by decide +kernel, by decide +kernel, rfl, rfl, rfl⟩
theorem cf_cell_at (gl : Gl B mg mb) (bl : Blt B mg mb) (S : Scr B scr nums) (H : HasF B mg (dr pw_uf050040_05 8)) :
    CF prog w B mg "_law_cell_at" 1 (fun xs σ Q X => ∃ k, xs = [.raw (.ref scr), .int k] ∧ 0 ≤ k ∧ Q (.int (cellAt nums k)) σ) := by
  refine CF_of gl H good_cell_at ?_
  rintro A pm code doc L a₀ _ σ Q X hA ⟨k, rfl, hk, q⟩
  refine ⟨rfl, ?_⟩
  change WX _ _ _ _ _ (_ :: _) ((_, _) :: (_, _) :: []) _ _ _

  refine X_ifs ?_
  with_reducible (refine T_cmp1 ?_; refine E_nm ?_; refine LQ_there (by decide +kernel) ?_; refine LQ_here ?_; refine E_bi (Blt.len_ (by assumption)) (by first | exact Keep.builtin _ | exact Keep.type _) ?_; refine Es_cons ?_; refine E_nm ?_; refine LQ_here ?_; refine Es_nil ?_; refine C_len_scr (by assumption) ?_; refine O_lt ?_; refine T_b ?_)
  refine iteD (fun h => ?_) (fun h => ?_)
  · with_reducible (refine X_ret ?_; refine E_sub ?_; refine E_nm ?_; refine LQ_here ?_; refine E_nm ?_; refine LQ_there (by decide +kernel) ?_; refine LQ_here ?_)
    refine S_scr S hk h ?_
    with_reducible (refine sq_ret ?_)
    refine R_all ?_
    simpa [cellAt, h] using q
  · with_reducible (refine X_nil ?_; refine sq_next ?_; refine X_ret ?_; refine E_int ?_)
    refine R_all ?_
    simpa [cellAt, h] using q

theorem good_whole : Good (dr pw_uf050040_05 9) ["_law_found"] :=
  ⟨fun pm code doc vals h => (by obtain ⟨a, rfl⟩ := len_1 h; rfl), by decide +kernel, by decide +kernel, by decide +kernel, rfl, rfl, rfl⟩
theorem cf_whole (gl : Gl B mg mb) (bl : Blt B mg mb) (S : Scr B scr nums) (H : HasF B mg (dr pw_uf050040_05 9)) :
    CF prog w B mg "_law_whole" 1 (fun xs σ Q X => ∃ c, xs = [.int c] ∧ Q (.bool true) σ) := by
  refine CF_of gl H good_whole ?_
  rintro A pm code doc L a₀ _ σ Q X hA ⟨c, rfl, q⟩
  refine ⟨rfl, ?_⟩
  change WX _ _ _ _ _ (_ :: _) ((_, _) :: []) _ _ _

  with_reducible (refine X_ret ?_)
  refine E_boolop ?_
  with_reducible (refine Bo_and ?_; refine E_bi (Blt.isinstance_ (by assumption)) (by first | exact Keep.builtin _ | exact Keep.type _) ?_; refine Es_cons ?_; refine E_nm ?_; refine LQ_here ?_; refine Es_cons ?_; refine E_nm ?_; refine LQ_there (by decide +kernel) ?_; refine LQ_nil ?_; refine N_bi (Blt.int_ (by assumption)) ?_; refine Es_nil ?_; refine isi_int (isi_int_int) ?_; refine T_b ?_; refine iteT ?_; refine Bo_one ?_; refine E_un ?_; refine E_bi (Blt.isinstance_ (by assumption)) (by first | exact Keep.builtin _ | exact Keep.type _) ?_; refine Es_cons ?_; refine E_nm ?_; refine LQ_here ?_; refine Es_cons ?_; refine E_nm ?_; refine LQ_there (by decide +kernel) ?_; refine LQ_nil ?_; refine N_bi (Blt.bool_ (by assumption)) ?_; refine Es_nil ?_; refine isi_int (isi_int_bool) ?_; refine O_not ?_)
  exact R_all q

def numBy (c : Int) : Int := if c % 5 < 2 then c / 5 % 3 * (c % 5) else if c % 5 = 2 then c / 5 % 1000 else if c % 5 = 3 then c / 5 % 10 ^ 60 else 10 ^ 60 - 1 - c / 5 % 1000

theorem good_number_by : Good (dr pw_uf050040_05 10) ["_law_cell"] :=
  ⟨fun pm code doc vals h => (by obtain ⟨a, rfl⟩ := len_1 h; rfl), by decide +kernel, by decide +kernel, by decide +kernel, rfl, rfl, rfl⟩
theorem cf_number_by (gl : Gl B mg mb) (bl : Blt B mg mb) (S : Scr B scr nums) (H : HasF B mg (dr pw_uf050040_05 10)) :
    CF prog w B mg "_law_number_by" 1 (fun xs σ Q X => ∃ c, xs = [.int c] ∧ Q (.int (numBy c)) σ) := by
  refine CF_of gl H good_number_by ?_
  rintro A pm code doc L a₀ _ σ Q X hA ⟨c, rfl, q⟩
  refine ⟨rfl, ?_⟩
  change WX _ _ _ _ _ (_ :: _) ((_, _) :: []) _ _ _

  unfold numBy at q
  with_reducible (refine X_let ?_; refine E_bin ?_; refine E_nm ?_; refine LQ_here ?_; refine E_int ?_; refine O_mod ?_ (by omega))
  refine X_ifs ?_
  with_reducible (refine T_cmp1 ?_; refine E_nm ?_; refine LQ_here ?_; refine E_int ?_; refine O_lt ?_; refine T_b ?_)
  refine iteD (fun h => ?_) (fun h => ?_)
  · rw [if_pos h] at q
    with_reducible (refine X_ret ?_; refine E_bin ?_; refine E_bin ?_; refine E_bin ?_; refine E_nm ?_; refine LQ_there (by decide +kernel) ?_; refine LQ_here ?_; refine E_int ?_; refine O_div ?_ (by omega) (by decide +kernel); refine E_int ?_; refine O_mod ?_ (by omega); refine E_nm ?_; refine LQ_here ?_; refine O_mul ?_ (by first | exact .inl (by omega) | exact .inr (by omega)); refine sq_ret ?_)
    exact R_all q
  · rw [if_neg h] at q
    with_reducible (refine X_nil ?_; refine sq_next ?_)
    refine X_ifs ?_
    with_reducible (refine T_cmp1 ?_; refine E_nm ?_; refine LQ_here ?_; refine E_int ?_; refine O_eq ?_; refine T_b ?_)
    refine iteD (fun h => ?_) (fun h => ?_)
    · rw [if_pos h] at q
      with_reducible (refine X_ret ?_; refine E_bin ?_; refine E_bin ?_; refine E_nm ?_; refine LQ_there (by decide +kernel) ?_; refine LQ_here ?_; refine E_int ?_; refine O_div ?_ (by omega) (by decide +kernel); refine E_int ?_; refine O_mod ?_ (by omega); refine sq_ret ?_)
      exact R_all q
    · rw [if_neg h] at q
      with_reducible (refine X_nil ?_; refine sq_next ?_)
      refine X_ifs ?_
      with_reducible (refine T_cmp1 ?_; refine E_nm ?_; refine LQ_here ?_; refine E_int ?_; refine O_eq ?_; refine T_b ?_)
      refine iteD (fun h => ?_) (fun h => ?_)
      · rw [if_pos h] at q
        with_reducible (refine X_ret ?_; refine E_bin ?_; refine E_bin ?_; refine E_nm ?_; refine LQ_there (by decide +kernel) ?_; refine LQ_here ?_; refine E_int ?_; refine O_div ?_ (by omega) (by decide +kernel); refine E_bin ?_; refine E_int ?_; refine E_int ?_; refine O_pow60 ?_; refine O_mod ?_ (by omega); refine sq_ret ?_)
        exact R_all q
      · rw [if_neg h] at q
        with_reducible (refine X_nil ?_; refine sq_next ?_; refine X_ret ?_; refine E_bin ?_; refine E_bin ?_; refine E_bin ?_; refine E_int ?_; refine E_int ?_; refine O_pow60 ?_; refine E_int ?_; refine O_sub ?_; refine E_bin ?_; refine E_bin ?_; refine E_nm ?_; refine LQ_there (by decide +kernel) ?_; refine LQ_here ?_; refine E_int ?_; refine O_div ?_ (by omega) (by decide +kernel); refine E_int ?_; refine O_mod ?_ (by omega); refine O_sub ?_)
        exact R_all q

theorem good_share : Good (dr pw_uf050040_05 11) ["_law_found", "_law_due"] :=
  ⟨fun pm code doc vals h => (by obtain ⟨a, b, rfl⟩ := len_2 h; rfl), by decide +kernel, by decide +kernel, by decide +kernel, rfl, rfl, rfl⟩
theorem cf_share (gl : Gl B mg mb) (bl : Blt B mg mb) (S : Scr B scr nums) (H : HasF B mg (dr pw_uf050040_05 11))
    (c_whole : CF prog w B mg "_law_whole" 1 (fun xs σ Q X => ∃ c, xs = [.int c] ∧ Q (.bool true) σ)) :
    CF prog w B mg "_law_share" 2 (fun xs σ Q X => ∃ a b c d, xs = [.tup [.int a, .int b], .tup [.int c, .int d]] ∧ Q (.bool (decide (a = c ∧ b = d))) σ) := by
  refine CF_of gl H good_share ?_
  rintro A pm code doc L a₀ _ σ Q X hA ⟨a, b, c, d, rfl, q⟩
  refine ⟨rfl, ?_⟩
  change WX _ _ _ _ _ (_ :: _) ((_, _) :: (_, _) :: []) _ _ _

  refine X_ifs ?_
  with_reducible (refine T_bool ?_; refine Ts_or ?_; refine T_not ?_; refine T_value ?_; refine E_bi (Blt.isinstance_ (by assumption)) (by first | exact Keep.builtin _ | exact Keep.type _) ?_; refine Es_cons ?_; refine E_nm ?_; refine LQ_here ?_; refine Es_cons ?_; refine E_nm ?_; refine LQ_there (by decide +kernel) ?_; refine LQ_there (by decide +kernel) ?_; refine LQ_nil ?_; refine N_bi (Blt.tuple_ (by assumption)) ?_; refine Es_nil ?_; refine isi_tup (isi_tuple_tuple) ?_; refine T_b ?_; refine iteNo (by decide) ?_; refine Ts_or ?_; refine T_cmp1 ?_; refine E_bi (Blt.len_ (by assumption)) (by first | exact Keep.builtin _ | exact Keep.type _) ?_; refine Es_cons ?_; refine E_nm ?_; refine LQ_here ?_; refine Es_nil ?_; refine C_len_t2 ?_; refine E_int ?_; refine O_ne ?_; refine T_b ?_; refine iteNo (by decide) ?_; refine Ts_or_nil ?_; refine iteF ?_; refine X_nil ?_; refine sq_next ?_; refine X_ret ?_)
  refine E_boolop ?_
  with_reducible (refine Bo_and ?_; refine E_cf (by assumption) (AOk.le (by assumption) (by decide)) ?_; refine Es_cons ?_; refine E_sub ?_; refine E_nm ?_; refine LQ_here ?_; refine E_int ?_; refine S_t0 ?_; refine Es_nil ?_; refine ⟨_, rfl, ?_⟩; refine T_b ?_; refine iteT ?_; refine Bo_and ?_; refine E_cf (by assumption) (AOk.le (by assumption) (by decide)) ?_; refine Es_cons ?_; refine E_sub ?_; refine E_nm ?_; refine LQ_here ?_; refine E_int ?_; refine S_t1 ?_; refine Es_nil ?_; refine ⟨_, rfl, ?_⟩; refine T_b ?_; refine iteT ?_; refine Bo_and ?_; refine E_cmp1 ?_; refine E_sub ?_; refine E_nm ?_; refine LQ_here ?_; refine E_int ?_; refine S_t0 ?_; refine E_sub ?_; refine E_nm ?_; refine LQ_there (by decide +kernel) ?_; refine LQ_here ?_; refine E_int ?_; refine S_t0 ?_; refine O_eq ?_; refine T_b ?_)
  refine iteD (fun h => ?_) (fun h => ?_)
  · with_reducible (refine Bo_one ?_; refine E_cmp1 ?_; refine E_sub ?_; refine E_nm ?_; refine LQ_here ?_; refine E_int ?_; refine S_t1 ?_; refine E_sub ?_; refine E_nm ?_; refine LQ_there (by decide +kernel) ?_; refine LQ_here ?_; refine E_int ?_; refine S_t1 ?_; refine O_eq ?_)
    refine R_all ?_
    simpa [h] using q
  · refine R_all ?_
    simpa [h] using q

def sg (c : Nat) : Str := ⟨#[c]⟩
theorem join_sg (l : List Nat) : Txt.join (Str.ofString "") (l.map sg) = ⟨l.toArray⟩ := by
  have : Str.ofString "" = ⟨#[]⟩ := by decide +kernel
  rw [this]; exact join_empty l
theorem joinOk_sg (l : List Nat) (h : l.length ≤ 1000) : JoinOk (Str.ofString "") (l.map sg) = true := by
  refine joinOk_small (fun y hy => ?_) (by simpa using h) (by decide +kernel)
  obtain ⟨c, _, rfl⟩ := List.mem_map.mp hy
  show 1 ≤ 1000
  decide

theorem letters_get {i : Nat} (h : i < 26) : letters.cps.getD i 0 = 97 + i := by
  have e : letters.cps = (List.range' 97 26).toArray := by rw [← letters_list]
  rw [e, Array.getD_eq_getD_getElem?, List.getElem?_toArray, List.getElem?_range' (by simpa using h)]
  simp
theorem letters_size : letters.cps.size = 26 := by decide +kernel
theorem letters_sign {i : Nat} (h : i < 26) : signAt letters i = sg (97 + i) := by unfold signAt sg; rw [letters_get h]
def nameL0 (c : Int) : List Nat := (List.range (1 + c % 8 - 0).toNat).map fun (k : Nat) => 97 + ((c / 8 + (0 + (k : Int)) * (1 + c / 208 % 25)) % 26).toNat
def nameL (c : Int) : List Nat := if c / 5200 % 2 = 1 then (nameL0 c).set (c / 10400 % ((nameL0 c).length : Int)).toNat (97 + (c / 83200 % 26).toNat) else nameL0 c
def nameBy (c : Int) : Str := ⟨(nameL c).toArray⟩
theorem nameL0_length (c : Int) : (nameL0 c).length = (1 + c % 8).toNat := by simp [nameL0]
theorem nameL_length (c : Int) : (nameL c).length = (1 + c % 8).toNat := by unfold nameL; split <;> simp [nameL0_length]
theorem nameL_ok (c : Int) : ∀ x ∈ nameL c, 97 ≤ x ∧ x ≤ 122 := by
  have h0 : ∀ x ∈ nameL0 c, 97 ≤ x ∧ x ≤ 122 := fun x hx => by
    obtain ⟨k, _, rfl⟩ := List.mem_map.mp hx
    lia
  intro x hx
  unfold nameL at hx
  split at hx
  · rcases List.mem_or_eq_of_mem_set hx with h | rfl
    · exact h0 x h
    · lia
  · exact h0 x hx
theorem nameBy_ok (c : Int) : isNameS (nameBy c) = true := by
  unfold isNameS nameBy
  have h1 := nameL_length c
  have h2 := nameL_ok c
  simp only [Str.length, List.size_toArray, Bool.and_eq_true, decide_eq_true_eq, List.all_eq_true]
  refine ⟨by lia, fun x hx => ?_⟩
  unfold isL
  exact decide_eq_true (h2 x (by simpa using hx))

theorem good_name_by : Good (dr pw_uf050040_05 12) ["_law_cell"] :=
  ⟨fun pm code doc vals h => (by obtain ⟨a, rfl⟩ := len_1 h; rfl), by decide +kernel, by decide +kernel, by decide +kernel, rfl, rfl, rfl⟩
theorem cf_name_by (gl : Gl B mg mb) (bl : Blt B mg mb) (S : Scr B scr nums) (H : HasF B mg (dr pw_uf050040_05 12)) :
    CF prog w B mg "_law_name_by" 2 (fun xs σ Q X => ∃ c, xs = [.int c] ∧ Q (.str (nameBy c)) σ) := by
  refine CF_of gl H good_name_by ?_
  rintro A pm code doc L a₀ _ σ Q X hA ⟨c, rfl, q⟩
  refine ⟨rfl, ?_⟩
  change WX _ _ _ _ _ (_ :: _) ((_, _) :: []) _ _ _

  with_reducible (refine X_letc ?_; refine E_str ?_; refine X_letc ?_; refine E_bin ?_; refine E_int ?_; refine E_bin ?_; refine E_bin ?_; refine E_nm ?_; refine LQ_there (by decide +kernel) ?_; refine LQ_here ?_; refine E_int ?_; refine O_div ?_ (by omega) (by decide +kernel); refine E_int ?_; refine O_mod ?_ (by omega); refine O_add ?_)
  refine X_compl [("_law_signs", .str (Str.ofString "abcdefghijklmnopqrstuvwxyz")), ("_law_step", .int (1 + c / 208 % 25)), ("_law_cell", .int c)] (by kernel_rfl!) (by with_reducible (refine Sub.cons ?_; refine LQ_there (by decide +kernel) ?_; refine LQ_here ?_; refine ⟨rfl, ?_⟩; refine Sub.cons ?_; refine LQ_here ?_; refine ⟨rfl, ?_⟩; refine Sub.cons ?_; refine LQ_there (by decide +kernel) ?_; refine LQ_there (by decide +kernel) ?_; refine LQ_here ?_; refine ⟨rfl, ?_⟩; exact Sub.nil)) (by kernel_rfl!) env_apart ?_
  with_reducible (refine E_bi (Blt.range_ (by assumption)) (by first | exact Keep.builtin _ | exact Keep.type _) ?_; refine Es_cons ?_; refine E_bin ?_; refine E_int ?_; refine E_bin ?_; refine E_nm ?_; refine LQ_there (by decide +kernel) ?_; refine LQ_there (by decide +kernel) ?_; refine LQ_here ?_; refine E_int ?_; refine O_mod ?_ (by omega); refine O_add ?_; refine Es_nil ?_; refine C_range1 ?_)
  refine ⟨σ, _, _, _, fun i => .str (sg (97 + ((c / 8 + (0 + (i : Int)) * (1 + c / 208 % 25)) % 26).toNat)), It_range hA.handled (by lia) (by lia) (by lia) (by lia), small_size (by lia), fun _ => trivial, fun D i hi => ?_, ?_⟩
  · with_reducible (refine E_sub ?_; refine E_nm ?_; refine LQ_there (by decide +kernel) ?_; refine LQ_here ?_; refine E_bin ?_; refine E_bin ?_; refine E_bin ?_; refine E_nm ?_; refine LQ_there (by decide +kernel) ?_; refine LQ_there (by decide +kernel) ?_; refine LQ_there (by decide +kernel) ?_; refine LQ_here ?_; refine E_int ?_; refine O_div ?_ (by omega) (by decide +kernel); refine E_bin ?_; refine E_nm ?_; refine LQ_here ?_; refine E_nm ?_; refine LQ_there (by decide +kernel) ?_; refine LQ_there (by decide +kernel) ?_; refine LQ_here ?_; refine O_mul ?_ (by first | exact .inl (by omega) | exact .inr (by omega)); refine O_add ?_; refine E_int ?_; refine O_mod ?_ (by omega))
    refine S_str (by lia) (by rw [show (Str.ofString "abcdefghijklmnopqrstuvwxyz").cps.size = 26 from letters_size]; lia) (by lia) ?_
    exact ⟨congrArg V.str (letters_sign (by lia)), rfl⟩
  have e0 : (List.range (1 + c % 8 - 0).toNat).map (fun (i : Nat) => V.str (sg (97 + ((c / 8 + (0 + (i : Int)) * (1 + c / 208 % 25)) % 26).toNat))) = ((nameL0 c).map sg).map V.str := by simp [nameL0, List.map_map, Function.comp_def]
  rw [e0]
  have hl := nameL0_length c
  have hl2 := nameL_length c
  have fin : ∀ ρ, retQ σ Q (.ret (.str (Txt.join (Str.ofString "") ((nameL c).map sg)))) ρ (σ ++ [.list (((nameL c).map sg).map V.str)]) := fun ρ => by
    rw [join_sg]
    exact R_none (by simp [V.lt]) q
  refine X_ifs ?_
  with_reducible (refine T_cmp1 ?_; refine E_bin ?_; refine E_bin ?_; refine E_nm ?_; refine LQ_there (by decide +kernel) ?_; refine LQ_there (by decide +kernel) ?_; refine LQ_there (by decide +kernel) ?_; refine LQ_here ?_; refine E_int ?_; refine O_div ?_ (by omega) (by decide +kernel); refine E_int ?_; refine O_mod ?_ (by omega); refine E_int ?_; refine O_eq ?_; refine T_b ?_)
  refine iteD (fun h1 => ?_) (fun h1 => ?_)
  · with_reducible (refine X_set ?_; refine E_sub ?_; refine E_nm ?_; refine LQ_there (by decide +kernel) ?_; refine LQ_there (by decide +kernel) ?_; refine LQ_here ?_; refine E_bin ?_; refine E_bin ?_; refine E_nm ?_; refine LQ_there (by decide +kernel) ?_; refine LQ_there (by decide +kernel) ?_; refine LQ_there (by decide +kernel) ?_; refine LQ_here ?_; refine E_int ?_; refine O_div ?_ (by omega) (by decide +kernel); refine E_int ?_; refine O_mod ?_ (by omega))
    refine S_str (by lia) (by rw [show (Str.ofString "abcdefghijklmnopqrstuvwxyz").cps.size = 26 from letters_size]; lia) (by lia) ?_
    rw [show signAt (Str.ofString "abcdefghijklmnopqrstuvwxyz") (c / 83200 % 26).toNat = _ from letters_sign (by lia)]
    with_reducible (refine E_nm ?_; refine LQ_here ?_; refine E_bin ?_; refine E_bin ?_; refine E_nm ?_; refine LQ_there (by decide +kernel) ?_; refine LQ_there (by decide +kernel) ?_; refine LQ_there (by decide +kernel) ?_; refine LQ_here ?_; refine E_int ?_; refine O_div ?_ (by omega) (by decide +kernel); refine E_bi (Blt.len_ (by assumption)) (by first | exact Keep.builtin _ | exact Keep.type _) ?_; refine Es_cons ?_; refine E_nm ?_; refine LQ_here ?_; refine Es_nil ?_)
    refine C_len_list at_end (by simp; lia) ?_
    skip
    have hlp : (0 : Int) < ((((nameL0 c).map sg).map V.str).length : Int) := by simp; lia
    refine O_mod ?_ hlp
    have hm := Int.emod_lt_of_pos (c / 10400) hlp
    have hm0 := Int.emod_nonneg (c / 10400) (Int.ne_of_gt hlp)
    refine P_list at_end hm0 hm (by simp at hm ⊢; lia) ?_
    rw [set_end]
    have e : (((nameL0 c).map sg).map V.str).set (c / 10400 % ((((nameL0 c).map sg).map V.str).length : Int)).toNat (V.str (sg (97 + (c / 83200 % 26).toNat))) = ((nameL c).map sg).map V.str := by
      unfold nameL; rw [if_pos h1]; simp [List.map_set]
    rw [e]
    with_reducible (refine X_nil ?_; refine sq_next ?_; refine X_ret ?_; refine E_mcall (name := Str.ofString "join") (id := "str.join") ?_; refine E_str ?_; refine ⟨GM_str F.slot_str_join F.type_str_join, ?_⟩; refine Es_cons ?_; refine E_nm ?_; refine LQ_here ?_; refine Es_nil ?_)
    refine C_join at_end (joinOk_sg _ (by lia)) ?_
    exact fin _
  · have e : ((nameL0 c).map sg).map V.str = ((nameL c).map sg).map V.str := by unfold nameL; rw [if_neg h1]
    rw [e]
    with_reducible (refine X_nil ?_; refine sq_next ?_; refine X_ret ?_; refine E_mcall (name := Str.ofString "join") (id := "str.join") ?_; refine E_str ?_; refine ⟨GM_str F.slot_str_join F.type_str_join, ?_⟩; refine Es_cons ?_; refine E_nm ?_; refine LQ_here ?_; refine Es_nil ?_)
    refine C_join at_end (joinOk_sg _ (by lia)) ?_
    exact fin _

def mixed (c k : Int) : Int := (c % 1000000007 + 7919 * k + 11) * 48271 % 2147483647

theorem good_mixed : Good (dr pw_uf050040_05 13) ["_law_cell", "_law_k"] :=
  ⟨fun pm code doc vals h => (by obtain ⟨a, b, rfl⟩ := len_2 h; rfl), by decide +kernel, by decide +kernel, by decide +kernel, rfl, rfl, rfl⟩
theorem cf_mixed (gl : Gl B mg mb) (bl : Blt B mg mb) (S : Scr B scr nums) (H : HasF B mg (dr pw_uf050040_05 13)) :
    CF prog w B mg "_law_mixed" 1 (fun xs σ Q X => ∃ c k, xs = [.int c, .int k] ∧ Q (.int (mixed c k)) σ) := by
  refine CF_of gl H good_mixed ?_
  rintro A pm code doc L a₀ _ σ Q X hA ⟨c, k, rfl, q⟩
  refine ⟨rfl, ?_⟩
  change WX _ _ _ _ _ (_ :: _) ((_, _) :: (_, _) :: []) _ _ _

  with_reducible (refine X_ret ?_; refine E_bin ?_; refine E_bin ?_; refine E_bin ?_; refine E_bin ?_; refine E_bin ?_; refine E_nm ?_; refine LQ_here ?_; refine E_int ?_; refine O_mod ?_ (by omega); refine E_bin ?_; refine E_int ?_; refine E_nm ?_; refine LQ_there (by decide +kernel) ?_; refine LQ_here ?_; refine O_mul ?_ (by first | exact .inl (by omega) | exact .inr (by omega)); refine O_add ?_; refine E_int ?_; refine O_add ?_; refine E_int ?_; refine O_mul ?_ (by first | exact .inl (by omega) | exact .inr (by omega)); refine E_int ?_; refine O_mod ?_ (by omega))
  exact R_all q

theorem numBy_ok (c : Int) : 0 ≤ numBy c ∧ numBy c < 10 ^ 60 := by
  unfold numBy
  split
  · rename_i h
    have h1 : c % 5 = 0 ∨ c % 5 = 1 := by lia
    rcases h1 with h1 | h1 <;> rw [h1] <;> lia
  · split
    · lia
    · split
      · exact ⟨Int.emod_nonneg _ (by decide), Int.emod_lt_of_pos _ (by decide)⟩
      · lia

theorem good_page_by : Good (dr pw_uf050040_05 14) ["_law_names", "_law_shares", "_law_size"] :=
  ⟨fun pm code doc vals h => (by obtain ⟨a, b, c, rfl⟩ := len_3 h; rfl), by decide +kernel, by decide +kernel, by decide +kernel, rfl, rfl, rfl⟩
theorem cf_page_by (gl : Gl B mg mb) (bl : Blt B mg mb) (S : Scr B scr nums) (H : HasF B mg (dr pw_uf050040_05 14))
    (c_number_by : CF prog w B mg "_law_number_by" 1 (fun xs σ Q X => ∃ c, xs = [.int c] ∧ Q (.int (numBy c)) σ))
    (c_mixed : CF prog w B mg "_law_mixed" 1 (fun xs σ Q X => ∃ c k, xs = [.int c, .int k] ∧ Q (.int (mixed c k)) σ))
    (c_name_by : CF prog w B mg "_law_name_by" 2 (fun xs σ Q X => ∃ c, xs = [.int c] ∧ Q (.str (nameBy c)) σ)) :
    CF prog w B mg "_law_page_by" 3 (fun xs σ Q X => ∃ a b n, xs = [.int a, .int b, .int n] ∧ (0 ≤ n ∧ n ≤ 200) ∧ ∀ page : Pg, PgOk page → (page.length : Int) ≤ n → Q (.ref σ.length) (σ ++ [.dict (pgE page) none])) := by
  refine CF_of gl H good_page_by ?_
  rintro A pm code doc L a₀ _ σ Q X hA ⟨a, b, n, rfl, ⟨hn0, hn⟩, q⟩
  refine ⟨rfl, ?_⟩
  change WX _ _ _ _ _ (_ :: _) ((_, _) :: (_, _) :: (_, _) :: []) _ _ _

  with_reducible (refine X_let ?_; refine E_dict0 ?_)
  refine X_fors ?_
  with_reducible (refine E_bi (Blt.range_ (by assumption)) (by first | exact Keep.builtin _ | exact Keep.type _) ?_; refine Es_cons ?_; refine E_nm ?_; refine LQ_there (by decide +kernel) ?_; refine LQ_there (by decide +kernel) ?_; refine LQ_there (by decide +kernel) ?_; refine LQ_here ?_; refine Es_nil ?_; refine C_range1 ?_)
  refine ForG.mk (ι := Pg) (fun i g => PgOk g ∧ g.length ≤ i) (fun _ _ => [("_law_page", .ref σ.length), ("_law_names", .int a), ("_law_shares", .int b), ("_law_size", .int n)]) (fun _ g => σ ++ [.dict (pgE g) none]) (It_range hA.handled (by lia) (by lia) (by lia) (by lia)) [] ⟨.nil, Nat.le_refl _⟩ rfl trivial (by with_reducible (refine Sub.cons ?_; refine LQ_here ?_; refine ⟨rfl, ?_⟩; refine Sub.cons ?_; refine LQ_there (by decide +kernel) ?_; refine LQ_here ?_; refine ⟨rfl, ?_⟩; refine Sub.cons ?_; refine LQ_there (by decide +kernel) ?_; refine LQ_there (by decide +kernel) ?_; refine LQ_here ?_; refine ⟨rfl, ?_⟩; refine Sub.cons ?_; refine LQ_there (by decide +kernel) ?_; refine LQ_there (by decide +kernel) ?_; refine LQ_there (by decide +kernel) ?_; refine LQ_here ?_; refine ⟨rfl, ?_⟩; exact Sub.nil)) ?_ ?_
  · rintro i g hi ⟨hok, hg⟩ -
    with_reducible (refine X_let ?_; refine E_tuple ?_; refine Es_cons ?_; refine E_cf (by assumption) (AOk.le (by assumption) (by decide)) ?_; refine Es_cons ?_; refine E_cf (by assumption) (AOk.le (by assumption) (by decide)) ?_; refine Es_cons ?_; refine E_nm ?_; refine LQ_there (by decide +kernel) ?_; refine LQ_there (by decide +kernel) ?_; refine LQ_there (by decide +kernel) ?_; refine LQ_here ?_; refine Es_cons ?_; refine E_bin ?_; refine E_int ?_; refine E_nm ?_; refine LQ_here ?_; refine O_mul ?_ (by first | exact .inl (by omega) | exact .inr (by omega)); refine Es_nil ?_; refine ⟨_, _, rfl, ?_⟩; refine Es_nil ?_; refine ⟨_, rfl, ?_⟩; refine Es_cons ?_; refine E_cf (by assumption) (AOk.le (by assumption) (by decide)) ?_; refine Es_cons ?_; refine E_cf (by assumption) (AOk.le (by assumption) (by decide)) ?_; refine Es_cons ?_; refine E_nm ?_; refine LQ_there (by decide +kernel) ?_; refine LQ_there (by decide +kernel) ?_; refine LQ_there (by decide +kernel) ?_; refine LQ_here ?_; refine Es_cons ?_; refine E_bin ?_; refine E_bin ?_; refine E_int ?_; refine E_nm ?_; refine LQ_here ?_; refine O_mul ?_ (by first | exact .inl (by omega) | exact .inr (by omega)); refine E_int ?_; refine O_add ?_; refine Es_nil ?_; refine ⟨_, _, rfl, ?_⟩; refine Es_nil ?_; refine ⟨_, rfl, ?_⟩; refine Es_nil ?_; refine And.intro (by first | omega | with_unfolding_all exact Nat.le_of_ble_eq_true rfl) ?_)
    have n1 := numBy_ok (mixed b (2 * (0 + (i : Int))))
    have n2 := numBy_ok (mixed b (2 * (0 + (i : Int)) + 1))
    refine X_ifj (ι := Int × Int) (fun x => 0 ≤ x.1 ∧ 0 ≤ x.2 ∧ 0 < x.1 + x.2) (fun x => [("_law_share_here", shV x), ("_law_k", .int (0 + (i : Int))), ("_law_page", .ref σ.length), ("_law_names", .int a), ("_law_shares", .int b), ("_law_size", .int n)]) (fun _ => σ ++ [.dict (pgE g) none]) ?_ ?_
    · with_reducible (refine T_cmp1 ?_; refine E_nm ?_; refine LQ_here ?_; refine E_tuple ?_; refine Es_cons ?_; refine E_int ?_; refine Es_cons ?_; refine E_int ?_; refine Es_nil ?_; refine And.intro (by first | omega | with_unfolding_all exact Nat.le_of_ble_eq_true rfl) ?_)
      refine O_eq_pair (by have := hA.units; show _ < 9900; lia) ?_
      with_reducible (refine T_b ?_)
      refine iteD (fun h => ?_) (fun h => ?_)
      · with_reducible (refine X_let ?_; refine E_tuple ?_; refine Es_cons ?_; refine E_int ?_; refine Es_cons ?_; refine E_int ?_; refine Es_nil ?_; refine And.intro (by first | omega | with_unfolding_all exact Nat.le_of_ble_eq_true rfl) ?_; refine X_nil ?_)
        exact J_next (1, 0) (by decide) rfl (by with_reducible (refine Sub.cons ?_; refine LQ_here ?_; refine ⟨rfl, ?_⟩; refine Sub.cons ?_; refine LQ_there (by decide +kernel) ?_; refine LQ_there (by decide +kernel) ?_; refine LQ_here ?_; refine ⟨rfl, ?_⟩; refine Sub.cons ?_; refine LQ_there (by decide +kernel) ?_; refine LQ_there (by decide +kernel) ?_; refine LQ_there (by decide +kernel) ?_; refine LQ_here ?_; refine ⟨rfl, ?_⟩; refine Sub.cons ?_; refine LQ_there (by decide +kernel) ?_; refine LQ_there (by decide +kernel) ?_; refine LQ_there (by decide +kernel) ?_; refine LQ_there (by decide +kernel) ?_; refine LQ_here ?_; refine ⟨rfl, ?_⟩; refine Sub.cons ?_; refine LQ_there (by decide +kernel) ?_; refine LQ_there (by decide +kernel) ?_; refine LQ_there (by decide +kernel) ?_; refine LQ_there (by decide +kernel) ?_; refine LQ_there (by decide +kernel) ?_; refine LQ_here ?_; refine ⟨rfl, ?_⟩; refine Sub.cons ?_; refine LQ_there (by decide +kernel) ?_; refine LQ_there (by decide +kernel) ?_; refine LQ_there (by decide +kernel) ?_; refine LQ_there (by decide +kernel) ?_; refine LQ_there (by decide +kernel) ?_; refine LQ_there (by decide +kernel) ?_; refine LQ_here ?_; refine ⟨rfl, ?_⟩; exact Sub.nil))
      · with_reducible (refine X_nil ?_)
        exact J_next (numBy (mixed b (2 * (0 + (i : Int)))), numBy (mixed b (2 * (0 + (i : Int)) + 1))) (by dsimp only; lia) rfl (by with_reducible (refine Sub.cons ?_; refine LQ_here ?_; refine ⟨rfl, ?_⟩; refine Sub.cons ?_; refine LQ_there (by decide +kernel) ?_; refine LQ_here ?_; refine ⟨rfl, ?_⟩; refine Sub.cons ?_; refine LQ_there (by decide +kernel) ?_; refine LQ_there (by decide +kernel) ?_; refine LQ_here ?_; refine ⟨rfl, ?_⟩; refine Sub.cons ?_; refine LQ_there (by decide +kernel) ?_; refine LQ_there (by decide +kernel) ?_; refine LQ_there (by decide +kernel) ?_; refine LQ_here ?_; refine ⟨rfl, ?_⟩; refine Sub.cons ?_; refine LQ_there (by decide +kernel) ?_; refine LQ_there (by decide +kernel) ?_; refine LQ_there (by decide +kernel) ?_; refine LQ_there (by decide +kernel) ?_; refine LQ_here ?_; refine ⟨rfl, ?_⟩; refine Sub.cons ?_; refine LQ_there (by decide +kernel) ?_; refine LQ_there (by decide +kernel) ?_; refine LQ_there (by decide +kernel) ?_; refine LQ_there (by decide +kernel) ?_; refine LQ_there (by decide +kernel) ?_; refine LQ_here ?_; refine ⟨rfl, ?_⟩; exact Sub.nil))
    · rintro x hx
      try dsimp only
      with_reducible (refine X_set ?_; refine E_nm ?_; refine LQ_here ?_; refine E_nm ?_; refine LQ_there (by decide +kernel) ?_; refine LQ_there (by decide +kernel) ?_; refine LQ_here ?_; refine E_cf (by assumption) (AOk.le (by assumption) (by decide)) ?_; refine Es_cons ?_; refine E_cf (by assumption) (AOk.le (by assumption) (by decide)) ?_; refine Es_cons ?_; refine E_nm ?_; refine LQ_there (by decide +kernel) ?_; refine LQ_there (by decide +kernel) ?_; refine LQ_there (by decide +kernel) ?_; refine LQ_here ?_; refine Es_cons ?_; refine E_nm ?_; refine LQ_there (by decide +kernel) ?_; refine LQ_here ?_; refine Es_nil ?_; refine ⟨_, _, rfl, ?_⟩; refine Es_nil ?_; refine ⟨_, rfl, ?_⟩)
      refine P_dict (key := .s _) at_end (small_size (by rw [pgE_length]; lia)) ?_
      rw [set_end, put_pg]
      with_reducible (refine X_nil ?_)
      refine TJ_next (pput g (nameBy (mixed a (0 + (i : Int)))) x) ⟨pput_ok hok ⟨nameBy_ok _, hx⟩, ?_⟩ rfl trivial (by with_reducible (refine Sub.cons ?_; refine LQ_there (by decide +kernel) ?_; refine LQ_there (by decide +kernel) ?_; refine LQ_here ?_; refine ⟨rfl, ?_⟩; refine Sub.cons ?_; refine LQ_there (by decide +kernel) ?_; refine LQ_there (by decide +kernel) ?_; refine LQ_there (by decide +kernel) ?_; refine LQ_here ?_; refine ⟨rfl, ?_⟩; refine Sub.cons ?_; refine LQ_there (by decide +kernel) ?_; refine LQ_there (by decide +kernel) ?_; refine LQ_there (by decide +kernel) ?_; refine LQ_there (by decide +kernel) ?_; refine LQ_here ?_; refine ⟨rfl, ?_⟩; refine Sub.cons ?_; refine LQ_there (by decide +kernel) ?_; refine LQ_there (by decide +kernel) ?_; refine LQ_there (by decide +kernel) ?_; refine LQ_there (by decide +kernel) ?_; refine LQ_there (by decide +kernel) ?_; refine LQ_here ?_; refine ⟨rfl, ?_⟩; exact Sub.nil))
      have := pput_len g (nameBy (mixed a (0 + (i : Int)))) x
      lia
  · rintro g ⟨hok, hg⟩ -
    with_reducible (refine X_ret ?_; refine E_nm ?_; refine LQ_here ?_)
    exact R_all (q g hok (by lia))

theorem twin_ok {x : Str} (h : isNameS x = true) {a c : Nat} (ha : a < x.length) (hc : c < 26) : isNameS ((⟨(x.cps.toList.take a).toArray⟩ : Str) ++ sg (97 + c) ++ ⟨(x.cps.toList.drop (a + 1)).toArray⟩) = true := by
  have e : (⟨(x.cps.toList.take a).toArray⟩ : Str) ++ sg (97 + c) ++ ⟨(x.cps.toList.drop (a + 1)).toArray⟩ = (⟨(x.cps.toList.take a ++ (97 + c) :: x.cps.toList.drop (a + 1)).toArray⟩ : Str) := by
    show (⟨(x.cps.toList.take a).toArray ++ #[97 + c] ++ (x.cps.toList.drop (a + 1)).toArray⟩ : Str) = _
    simp
  rw [e]
  have hl := isNameS_len h
  simp only [Str.length] at ha hl
  refine isNameS_of (by simp; lia) (by simp; lia) fun y hy => ?_
  rcases List.mem_append.mp hy with hy | hy
  · exact isNameS_all h y (List.mem_of_mem_take hy)
  · rcases List.mem_cons.mp hy with rfl | hy
    · unfold isL; exact decide_eq_true (by lia)
    · exact isNameS_all h y (List.mem_of_mem_drop hy)
theorem twin_len (x : Str) (a c : Nat) : ((⟨(x.cps.toList.take a).toArray⟩ : Str) ++ sg (97 + c)).length ≤ x.length + 1 := by
  show ((x.cps.toList.take a).toArray ++ #[97 + c]).size ≤ _
  simp [Str.length]; lia

theorem good_near_by : Good (dr pw_uf050040_05 15) ["_law_page", "_law_cell"] :=
  ⟨fun pm code doc vals h => (by obtain ⟨a, b, rfl⟩ := len_2 h; rfl), by decide +kernel, by decide +kernel, by decide +kernel, rfl, rfl, rfl⟩
theorem cf_near_by (gl : Gl B mg mb) (bl : Blt B mg mb) (S : Scr B scr nums) (H : HasF B mg (dr pw_uf050040_05 15))
    (c_mixed : CF prog w B mg "_law_mixed" 1 (fun xs σ Q X => ∃ c k, xs = [.int c, .int k] ∧ Q (.int (mixed c k)) σ)) :
    CF prog w B mg "_law_near_by" 3 (fun xs σ Q X => ∃ k p e c, σ[k]? = some (.dict (pgE p) e) ∧ PgOk p ∧ p.length ≤ 200 ∧ xs = [.ref k, .int c] ∧ ∀ other : Pg, PgOk other → other.length ≤ 2 * p.length → Q (.ref σ.length) (σ ++ [.dict (pgE other) none])) := by
  refine CF_of gl H good_near_by ?_
  rintro A pm code doc L a₀ _ σ Q X hA ⟨k, p, e, c, hk, hpo, hpl, rfl, q⟩
  refine ⟨rfl, ?_⟩
  change WX _ _ _ _ _ (_ :: _) ((_, _) :: (_, _) :: []) _ _ _

  have hkl := at_len hk
  with_reducible (refine X_let ?_; refine E_dict0 ?_)
  refine X_fore (ι := Pg) (k := k) (es := pgE p) (e := e) (fun i g => PgOk g ∧ g.length ≤ 2 * i) (fun _ _ => [("_law_other", .ref σ.length), ("_law_page", .ref k), ("_law_cell", .int c)]) (fun _ g => σ ++ [.dict (pgE g) none]) [] (Blt.enumerate_ bl) hA.handled (up_at hk) (fun ep => ?_) ⟨.nil, Nat.le_refl _⟩ rfl (by with_reducible (refine Sub.cons ?_; refine LQ_here ?_; refine ⟨rfl, ?_⟩; refine Sub.cons ?_; refine LQ_there (by decide +kernel) ?_; refine LQ_here ?_; refine ⟨rfl, ?_⟩; refine Sub.cons ?_; refine LQ_there (by decide +kernel) ?_; refine LQ_there (by decide +kernel) ?_; refine LQ_here ?_; refine ⟨rfl, ?_⟩; exact Sub.nil)) (fun _ _ _ => up_at hk) ?_ ?_
  · with_reducible (refine Es_cons ?_; refine E_nm ?_; refine LQ_there (by decide +kernel) ?_; refine LQ_here ?_; refine Es_nil ?_; refine ⟨rfl, ?_⟩)
    first | exact ⟨rfl, rfl⟩ | rfl
  · rintro ep i g hi ⟨hok, hg⟩
    rw [pgE_length] at hi
    rw [keyAt_pg hi]
    have hr := hpo.2 _ (List.getElem_mem hi)
    have hat := at_pg_get hpo.1 hi
    generalize p[i] = r at *
    obtain ⟨x, v⟩ := r
    obtain ⟨hx, hv⟩ := hr
    have hxl := isNameS_len hx
    dsimp only at *
    have hup : (pin (σ ++ [AObj.dict (pgE g) none]) k (pgE p) ep)[k]? = some (.dict (pgE p) (some ep)) := pin_at (up_at hk)
    with_reducible (refine X_let ?_; refine E_bin ?_; refine E_cf (by assumption) (AOk.le (by assumption) (by decide)) ?_; refine Es_cons ?_; refine E_nm ?_; refine LQ_there (by decide +kernel) ?_; refine LQ_there (by decide +kernel) ?_; refine LQ_there (by decide +kernel) ?_; refine LQ_there (by decide +kernel) ?_; refine LQ_here ?_; refine Es_cons ?_; refine E_nm ?_; refine LQ_there (by decide +kernel) ?_; refine LQ_here ?_; refine Es_nil ?_; refine ⟨_, _, rfl, ?_⟩; refine E_int ?_; refine O_mod ?_ (by omega); refine X_let ?_; refine E_sub ?_; refine E_nm ?_; refine LQ_there (by decide +kernel) ?_; refine LQ_there (by decide +kernel) ?_; refine LQ_there (by decide +kernel) ?_; refine LQ_there (by decide +kernel) ?_; refine LQ_here ?_; refine E_nm ?_; refine LQ_there (by decide +kernel) ?_; refine LQ_here ?_)
    refine S_dict (key := .s _) hup hat ?_
    skip
    generalize hm : mixed c (i : Int) = m
    have hm0 : 0 ≤ m ∧ m < 2147483647 := by rw [← hm]; unfold mixed; lia
    refine X_ifj (ι := Int × Int) (fun x => 0 ≤ x.1 ∧ 0 ≤ x.2 ∧ 0 < x.1 + x.2) (fun s => [("_law_share_here", shV s), ("_law_kind", .int (m % 6)), ("_law_name", .str x), ("_law_k", .int (i : Int)), ("_law_other", .ref σ.length), ("_law_page", .ref k), ("_law_cell", .int c)]) (fun _ => pin (σ ++ [AObj.dict (pgE g) none]) k (pgE p) ep) ?_ ?_
    · with_reducible (refine T_cmp1 ?_; refine E_nm ?_; refine LQ_there (by decide +kernel) ?_; refine LQ_here ?_; refine E_int ?_; refine O_eq ?_; refine T_b ?_)
      refine iteD (fun h => ?_) (fun h => ?_)
      · with_reducible (refine X_let ?_; refine E_tuple ?_; refine Es_cons ?_; refine E_bi (Blt.min_ (by assumption)) (by first | exact Keep.builtin _ | exact Keep.type _) ?_; refine Es_cons ?_; refine E_bin ?_; refine E_sub ?_; refine E_nm ?_; refine LQ_here ?_; refine E_int ?_; refine S_t0 ?_; refine E_int ?_; refine O_add ?_; refine Es_cons ?_; refine E_bin ?_; refine E_bin ?_; refine E_int ?_; refine E_int ?_; refine O_pow60 ?_; refine E_int ?_; refine O_sub ?_; refine Es_nil ?_; refine C_min (AOk.handled (by assumption)) ?_; refine Es_cons ?_; refine E_sub ?_; refine E_nm ?_; refine LQ_here ?_; refine E_int ?_; refine S_t1 ?_; refine Es_nil ?_; refine And.intro (by first | omega | with_unfolding_all exact Nat.le_of_ble_eq_true rfl) ?_; refine X_nil ?_)
        exact J_next (min (v.1 + 1) (10 ^ 60 - 1), v.2) (by dsimp only; lia) rfl (by with_reducible (refine Sub.cons ?_; refine LQ_here ?_; refine ⟨rfl, ?_⟩; refine Sub.cons ?_; refine LQ_there (by decide +kernel) ?_; refine LQ_there (by decide +kernel) ?_; refine LQ_here ?_; refine ⟨rfl, ?_⟩; refine Sub.cons ?_; refine LQ_there (by decide +kernel) ?_; refine LQ_there (by decide +kernel) ?_; refine LQ_there (by decide +kernel) ?_; refine LQ_here ?_; refine ⟨rfl, ?_⟩; refine Sub.cons ?_; refine LQ_there (by decide +kernel) ?_; refine LQ_there (by decide +kernel) ?_; refine LQ_there (by decide +kernel) ?_; refine LQ_there (by decide +kernel) ?_; refine LQ_here ?_; refine ⟨rfl, ?_⟩; refine Sub.cons ?_; refine LQ_there (by decide +kernel) ?_; refine LQ_there (by decide +kernel) ?_; refine LQ_there (by decide +kernel) ?_; refine LQ_there (by decide +kernel) ?_; refine LQ_there (by decide +kernel) ?_; refine LQ_here ?_; refine ⟨rfl, ?_⟩; refine Sub.cons ?_; refine LQ_there (by decide +kernel) ?_; refine LQ_there (by decide +kernel) ?_; refine LQ_there (by decide +kernel) ?_; refine LQ_there (by decide +kernel) ?_; refine LQ_there (by decide +kernel) ?_; refine LQ_there (by decide +kernel) ?_; refine LQ_here ?_; refine ⟨rfl, ?_⟩; refine Sub.cons ?_; refine LQ_there (by decide +kernel) ?_; refine LQ_there (by decide +kernel) ?_; refine LQ_there (by decide +kernel) ?_; refine LQ_there (by decide +kernel) ?_; refine LQ_there (by decide +kernel) ?_; refine LQ_there (by decide +kernel) ?_; refine LQ_there (by decide +kernel) ?_; refine LQ_here ?_; refine ⟨rfl, ?_⟩; exact Sub.nil))
      · with_reducible (refine X_nil ?_)
        exact J_next v hv rfl (by with_reducible (refine Sub.cons ?_; refine LQ_here ?_; refine ⟨rfl, ?_⟩; refine Sub.cons ?_; refine LQ_there (by decide +kernel) ?_; refine LQ_here ?_; refine ⟨rfl, ?_⟩; refine Sub.cons ?_; refine LQ_there (by decide +kernel) ?_; refine LQ_there (by decide +kernel) ?_; refine LQ_here ?_; refine ⟨rfl, ?_⟩; refine Sub.cons ?_; refine LQ_there (by decide +kernel) ?_; refine LQ_there (by decide +kernel) ?_; refine LQ_there (by decide +kernel) ?_; refine LQ_here ?_; refine ⟨rfl, ?_⟩; refine Sub.cons ?_; refine LQ_there (by decide +kernel) ?_; refine LQ_there (by decide +kernel) ?_; refine LQ_there (by decide +kernel) ?_; refine LQ_there (by decide +kernel) ?_; refine LQ_here ?_; refine ⟨rfl, ?_⟩; refine Sub.cons ?_; refine LQ_there (by decide +kernel) ?_; refine LQ_there (by decide +kernel) ?_; refine LQ_there (by decide +kernel) ?_; refine LQ_there (by decide +kernel) ?_; refine LQ_there (by decide +kernel) ?_; refine LQ_here ?_; refine ⟨rfl, ?_⟩; refine Sub.cons ?_; refine LQ_there (by decide +kernel) ?_; refine LQ_there (by decide +kernel) ?_; refine LQ_there (by decide +kernel) ?_; refine LQ_there (by decide +kernel) ?_; refine LQ_there (by decide +kernel) ?_; refine LQ_there (by decide +kernel) ?_; refine LQ_here ?_; refine ⟨rfl, ?_⟩; exact Sub.nil))
    clear hv hat v
    rintro v hv
    try dsimp only
    refine X_ifj (ι := Int × Int) (fun x => 0 ≤ x.1 ∧ 0 ≤ x.2 ∧ 0 < x.1 + x.2) (fun s => [("_law_share_here", shV s), ("_law_kind", .int (m % 6)), ("_law_name", .str x), ("_law_k", .int (i : Int)), ("_law_other", .ref σ.length), ("_law_page", .ref k), ("_law_cell", .int c)]) (fun _ => pin (σ ++ [AObj.dict (pgE g) none]) k (pgE p) ep) ?_ ?_
    · with_reducible (refine T_cmp1 ?_; refine E_nm ?_; refine LQ_there (by decide +kernel) ?_; refine LQ_here ?_; refine E_int ?_; refine O_eq ?_; refine T_b ?_)
      refine iteD (fun h => ?_) (fun h => ?_)
      · with_reducible (refine X_let ?_; refine E_tuple ?_; refine Es_cons ?_; refine E_sub ?_; refine E_nm ?_; refine LQ_here ?_; refine E_int ?_; refine S_t0 ?_; refine Es_cons ?_; refine E_bi (Blt.min_ (by assumption)) (by first | exact Keep.builtin _ | exact Keep.type _) ?_; refine Es_cons ?_; refine E_bin ?_; refine E_sub ?_; refine E_nm ?_; refine LQ_here ?_; refine E_int ?_; refine S_t1 ?_; refine E_int ?_; refine O_add ?_; refine Es_cons ?_; refine E_bin ?_; refine E_bin ?_; refine E_int ?_; refine E_int ?_; refine O_pow60 ?_; refine E_int ?_; refine O_sub ?_; refine Es_nil ?_; refine C_min (AOk.handled (by assumption)) ?_; refine Es_nil ?_; refine And.intro (by first | omega | with_unfolding_all exact Nat.le_of_ble_eq_true rfl) ?_; refine X_nil ?_)
        exact J_next (v.1, min (v.2 + 1) (10 ^ 60 - 1)) (by dsimp only; lia) rfl (by with_reducible (refine Sub.cons ?_; refine LQ_here ?_; refine ⟨rfl, ?_⟩; refine Sub.cons ?_; refine LQ_there (by decide +kernel) ?_; refine LQ_there (by decide +kernel) ?_; refine LQ_here ?_; refine ⟨rfl, ?_⟩; refine Sub.cons ?_; refine LQ_there (by decide +kernel) ?_; refine LQ_there (by decide +kernel) ?_; refine LQ_there (by decide +kernel) ?_; refine LQ_here ?_; refine ⟨rfl, ?_⟩; refine Sub.cons ?_; refine LQ_there (by decide +kernel) ?_; refine LQ_there (by decide +kernel) ?_; refine LQ_there (by decide +kernel) ?_; refine LQ_there (by decide +kernel) ?_; refine LQ_here ?_; refine ⟨rfl, ?_⟩; refine Sub.cons ?_; refine LQ_there (by decide +kernel) ?_; refine LQ_there (by decide +kernel) ?_; refine LQ_there (by decide +kernel) ?_; refine LQ_there (by decide +kernel) ?_; refine LQ_there (by decide +kernel) ?_; refine LQ_here ?_; refine ⟨rfl, ?_⟩; refine Sub.cons ?_; refine LQ_there (by decide +kernel) ?_; refine LQ_there (by decide +kernel) ?_; refine LQ_there (by decide +kernel) ?_; refine LQ_there (by decide +kernel) ?_; refine LQ_there (by decide +kernel) ?_; refine LQ_there (by decide +kernel) ?_; refine LQ_here ?_; refine ⟨rfl, ?_⟩; refine Sub.cons ?_; refine LQ_there (by decide +kernel) ?_; refine LQ_there (by decide +kernel) ?_; refine LQ_there (by decide +kernel) ?_; refine LQ_there (by decide +kernel) ?_; refine LQ_there (by decide +kernel) ?_; refine LQ_there (by decide +kernel) ?_; refine LQ_there (by decide +kernel) ?_; refine LQ_here ?_; refine ⟨rfl, ?_⟩; exact Sub.nil))
      · with_reducible (refine X_nil ?_)
        exact J_next v hv rfl (by with_reducible (refine Sub.cons ?_; refine LQ_here ?_; refine ⟨rfl, ?_⟩; refine Sub.cons ?_; refine LQ_there (by decide +kernel) ?_; refine LQ_here ?_; refine ⟨rfl, ?_⟩; refine Sub.cons ?_; refine LQ_there (by decide +kernel) ?_; refine LQ_there (by decide +kernel) ?_; refine LQ_here ?_; refine ⟨rfl, ?_⟩; refine Sub.cons ?_; refine LQ_there (by decide +kernel) ?_; refine LQ_there (by decide +kernel) ?_; refine LQ_there (by decide +kernel) ?_; refine LQ_here ?_; refine ⟨rfl, ?_⟩; refine Sub.cons ?_; refine LQ_there (by decide +kernel) ?_; refine LQ_there (by decide +kernel) ?_; refine LQ_there (by decide +kernel) ?_; refine LQ_there (by decide +kernel) ?_; refine LQ_here ?_; refine ⟨rfl, ?_⟩; refine Sub.cons ?_; refine LQ_there (by decide +kernel) ?_; refine LQ_there (by decide +kernel) ?_; refine LQ_there (by decide +kernel) ?_; refine LQ_there (by decide +kernel) ?_; refine LQ_there (by decide +kernel) ?_; refine LQ_here ?_; refine ⟨rfl, ?_⟩; refine Sub.cons ?_; refine LQ_there (by decide +kernel) ?_; refine LQ_there (by decide +kernel) ?_; refine LQ_there (by decide +kernel) ?_; refine LQ_there (by decide +kernel) ?_; refine LQ_there (by decide +kernel) ?_; refine LQ_there (by decide +kernel) ?_; refine LQ_here ?_; refine ⟨rfl, ?_⟩; exact Sub.nil))
    clear hv v
    rintro v hv
    try dsimp only
    refine X_ifj (ι := Int × Int) (fun x => 0 ≤ x.1 ∧ 0 ≤ x.2 ∧ 0 < x.1 + x.2) (fun s => [("_law_share_here", shV s), ("_law_kind", .int (m % 6)), ("_law_name", .str x), ("_law_k", .int (i : Int)), ("_law_other", .ref σ.length), ("_law_page", .ref k), ("_law_cell", .int c)]) (fun _ => pin (σ ++ [AObj.dict (pgE g) none]) k (pgE p) ep) ?_ ?_
    · with_reducible (refine T_cmp1 ?_; refine E_nm ?_; refine LQ_there (by decide +kernel) ?_; refine LQ_here ?_; refine E_int ?_; refine O_eq ?_; refine T_b ?_)
      refine iteD (fun h => ?_) (fun h => ?_)
      · with_reducible (refine X_let ?_; refine E_tuple ?_; refine Es_cons ?_; refine E_bin ?_; refine E_sub ?_; refine E_nm ?_; refine LQ_here ?_; refine E_int ?_; refine S_t0 ?_; refine E_int ?_; refine O_div ?_ (by omega) (by decide +kernel); refine Es_cons ?_; refine E_bi (Blt.min_ (by assumption)) (by first | exact Keep.builtin _ | exact Keep.type _) ?_; refine Es_cons ?_; refine E_bin ?_; refine E_sub ?_; refine E_nm ?_; refine LQ_here ?_; refine E_int ?_; refine S_t1 ?_; refine E_int ?_; refine O_add ?_; refine Es_cons ?_; refine E_bin ?_; refine E_bin ?_; refine E_int ?_; refine E_int ?_; refine O_pow60 ?_; refine E_int ?_; refine O_sub ?_; refine Es_nil ?_; refine C_min (AOk.handled (by assumption)) ?_; refine Es_nil ?_; refine And.intro (by first | omega | with_unfolding_all exact Nat.le_of_ble_eq_true rfl) ?_; refine X_nil ?_)
        exact J_next (v.1 / 2, min (v.2 + 5) (10 ^ 60 - 1)) (by dsimp only; lia) rfl (by with_reducible (refine Sub.cons ?_; refine LQ_here ?_; refine ⟨rfl, ?_⟩; refine Sub.cons ?_; refine LQ_there (by decide +kernel) ?_; refine LQ_there (by decide +kernel) ?_; refine LQ_here ?_; refine ⟨rfl, ?_⟩; refine Sub.cons ?_; refine LQ_there (by decide +kernel) ?_; refine LQ_there (by decide +kernel) ?_; refine LQ_there (by decide +kernel) ?_; refine LQ_here ?_; refine ⟨rfl, ?_⟩; refine Sub.cons ?_; refine LQ_there (by decide +kernel) ?_; refine LQ_there (by decide +kernel) ?_; refine LQ_there (by decide +kernel) ?_; refine LQ_there (by decide +kernel) ?_; refine LQ_here ?_; refine ⟨rfl, ?_⟩; refine Sub.cons ?_; refine LQ_there (by decide +kernel) ?_; refine LQ_there (by decide +kernel) ?_; refine LQ_there (by decide +kernel) ?_; refine LQ_there (by decide +kernel) ?_; refine LQ_there (by decide +kernel) ?_; refine LQ_here ?_; refine ⟨rfl, ?_⟩; refine Sub.cons ?_; refine LQ_there (by decide +kernel) ?_; refine LQ_there (by decide +kernel) ?_; refine LQ_there (by decide +kernel) ?_; refine LQ_there (by decide +kernel) ?_; refine LQ_there (by decide +kernel) ?_; refine LQ_there (by decide +kernel) ?_; refine LQ_here ?_; refine ⟨rfl, ?_⟩; refine Sub.cons ?_; refine LQ_there (by decide +kernel) ?_; refine LQ_there (by decide +kernel) ?_; refine LQ_there (by decide +kernel) ?_; refine LQ_there (by decide +kernel) ?_; refine LQ_there (by decide +kernel) ?_; refine LQ_there (by decide +kernel) ?_; refine LQ_there (by decide +kernel) ?_; refine LQ_here ?_; refine ⟨rfl, ?_⟩; exact Sub.nil))
      · with_reducible (refine X_nil ?_)
        exact J_next v hv rfl (by with_reducible (refine Sub.cons ?_; refine LQ_here ?_; refine ⟨rfl, ?_⟩; refine Sub.cons ?_; refine LQ_there (by decide +kernel) ?_; refine LQ_here ?_; refine ⟨rfl, ?_⟩; refine Sub.cons ?_; refine LQ_there (by decide +kernel) ?_; refine LQ_there (by decide +kernel) ?_; refine LQ_here ?_; refine ⟨rfl, ?_⟩; refine Sub.cons ?_; refine LQ_there (by decide +kernel) ?_; refine LQ_there (by decide +kernel) ?_; refine LQ_there (by decide +kernel) ?_; refine LQ_here ?_; refine ⟨rfl, ?_⟩; refine Sub.cons ?_; refine LQ_there (by decide +kernel) ?_; refine LQ_there (by decide +kernel) ?_; refine LQ_there (by decide +kernel) ?_; refine LQ_there (by decide +kernel) ?_; refine LQ_here ?_; refine ⟨rfl, ?_⟩; refine Sub.cons ?_; refine LQ_there (by decide +kernel) ?_; refine LQ_there (by decide +kernel) ?_; refine LQ_there (by decide +kernel) ?_; refine LQ_there (by decide +kernel) ?_; refine LQ_there (by decide +kernel) ?_; refine LQ_here ?_; refine ⟨rfl, ?_⟩; refine Sub.cons ?_; refine LQ_there (by decide +kernel) ?_; refine LQ_there (by decide +kernel) ?_; refine LQ_there (by decide +kernel) ?_; refine LQ_there (by decide +kernel) ?_; refine LQ_there (by decide +kernel) ?_; refine LQ_there (by decide +kernel) ?_; refine LQ_here ?_; refine ⟨rfl, ?_⟩; exact Sub.nil))
    clear hv v
    rintro v hv
    try dsimp only
    refine X_ifj (ι := Pg) (fun g' => PgOk g' ∧ g'.length ≤ 2 * i + 1) (fun _ => [("_law_share_here", shV v), ("_law_kind", .int (m % 6)), ("_law_name", .str x), ("_law_k", .int (i : Int)), ("_law_other", .ref σ.length), ("_law_page", .ref k), ("_law_cell", .int c)]) (fun g' => pin (σ ++ [AObj.dict (pgE g') none]) k (pgE p) ep) ?_ ?_
    · with_reducible (refine T_bool ?_; refine Ts_and ?_; refine T_cmp1 ?_; refine E_nm ?_; refine LQ_there (by decide +kernel) ?_; refine LQ_here ?_; refine E_int ?_; refine O_gt ?_; refine T_b ?_)
      refine iteD (fun h => ?_) (fun h => ?_)
      · with_reducible (refine Ts_and ?_; refine T_cmp1 ?_; refine E_nm ?_; refine LQ_here ?_; refine E_tuple ?_; refine Es_cons ?_; refine E_int ?_; refine Es_cons ?_; refine E_int ?_; refine Es_nil ?_; refine And.intro (by first | omega | with_unfolding_all exact Nat.le_of_ble_eq_true rfl) ?_)
        refine O_ne_pair (by have := hA.units; show _ < 9900; lia) ?_
        with_reducible (refine T_b ?_)
        refine iteDn (fun h2 => ?_) (fun h2 => ?_)
        · with_reducible (refine Ts_and_nil ?_; refine iteT ?_; refine X_set ?_; refine E_nm ?_; refine LQ_here ?_; refine E_nm ?_; refine LQ_there (by decide +kernel) ?_; refine LQ_there (by decide +kernel) ?_; refine LQ_there (by decide +kernel) ?_; refine LQ_there (by decide +kernel) ?_; refine LQ_here ?_; refine E_nm ?_; refine LQ_there (by decide +kernel) ?_; refine LQ_there (by decide +kernel) ?_; refine LQ_here ?_)
          refine P_dict (key := .s x) (pin_end_at hkl) (small_size (by rw [pgE_length]; lia)) ?_
          rw [pin_end_set hkl, put_pg]
          with_reducible (refine X_nil ?_)
          refine J_next (pput g x v) ⟨pput_ok hok ⟨hx, hv⟩, ?_⟩ rfl (by with_reducible (refine Sub.cons ?_; refine LQ_here ?_; refine ⟨rfl, ?_⟩; refine Sub.cons ?_; refine LQ_there (by decide +kernel) ?_; refine LQ_here ?_; refine ⟨rfl, ?_⟩; refine Sub.cons ?_; refine LQ_there (by decide +kernel) ?_; refine LQ_there (by decide +kernel) ?_; refine LQ_here ?_; refine ⟨rfl, ?_⟩; refine Sub.cons ?_; refine LQ_there (by decide +kernel) ?_; refine LQ_there (by decide +kernel) ?_; refine LQ_there (by decide +kernel) ?_; refine LQ_here ?_; refine ⟨rfl, ?_⟩; refine Sub.cons ?_; refine LQ_there (by decide +kernel) ?_; refine LQ_there (by decide +kernel) ?_; refine LQ_there (by decide +kernel) ?_; refine LQ_there (by decide +kernel) ?_; refine LQ_here ?_; refine ⟨rfl, ?_⟩; refine Sub.cons ?_; refine LQ_there (by decide +kernel) ?_; refine LQ_there (by decide +kernel) ?_; refine LQ_there (by decide +kernel) ?_; refine LQ_there (by decide +kernel) ?_; refine LQ_there (by decide +kernel) ?_; refine LQ_here ?_; refine ⟨rfl, ?_⟩; refine Sub.cons ?_; refine LQ_there (by decide +kernel) ?_; refine LQ_there (by decide +kernel) ?_; refine LQ_there (by decide +kernel) ?_; refine LQ_there (by decide +kernel) ?_; refine LQ_there (by decide +kernel) ?_; refine LQ_there (by decide +kernel) ?_; refine LQ_here ?_; refine ⟨rfl, ?_⟩; exact Sub.nil))
          have := pput_len g x v
          lia
        · with_reducible (refine iteF ?_; refine X_nil ?_)
          exact J_next g ⟨hok, by lia⟩ rfl (by with_reducible (refine Sub.cons ?_; refine LQ_here ?_; refine ⟨rfl, ?_⟩; refine Sub.cons ?_; refine LQ_there (by decide +kernel) ?_; refine LQ_here ?_; refine ⟨rfl, ?_⟩; refine Sub.cons ?_; refine LQ_there (by decide +kernel) ?_; refine LQ_there (by decide +kernel) ?_; refine LQ_here ?_; refine ⟨rfl, ?_⟩; refine Sub.cons ?_; refine LQ_there (by decide +kernel) ?_; refine LQ_there (by decide +kernel) ?_; refine LQ_there (by decide +kernel) ?_; refine LQ_here ?_; refine ⟨rfl, ?_⟩; refine Sub.cons ?_; refine LQ_there (by decide +kernel) ?_; refine LQ_there (by decide +kernel) ?_; refine LQ_there (by decide +kernel) ?_; refine LQ_there (by decide +kernel) ?_; refine LQ_here ?_; refine ⟨rfl, ?_⟩; refine Sub.cons ?_; refine LQ_there (by decide +kernel) ?_; refine LQ_there (by decide +kernel) ?_; refine LQ_there (by decide +kernel) ?_; refine LQ_there (by decide +kernel) ?_; refine LQ_there (by decide +kernel) ?_; refine LQ_here ?_; refine ⟨rfl, ?_⟩; refine Sub.cons ?_; refine LQ_there (by decide +kernel) ?_; refine LQ_there (by decide +kernel) ?_; refine LQ_there (by decide +kernel) ?_; refine LQ_there (by decide +kernel) ?_; refine LQ_there (by decide +kernel) ?_; refine LQ_there (by decide +kernel) ?_; refine LQ_here ?_; refine ⟨rfl, ?_⟩; exact Sub.nil))
      · with_reducible (refine iteF ?_; refine X_nil ?_)
        exact J_next g ⟨hok, by lia⟩ rfl (by with_reducible (refine Sub.cons ?_; refine LQ_here ?_; refine ⟨rfl, ?_⟩; refine Sub.cons ?_; refine LQ_there (by decide +kernel) ?_; refine LQ_here ?_; refine ⟨rfl, ?_⟩; refine Sub.cons ?_; refine LQ_there (by decide +kernel) ?_; refine LQ_there (by decide +kernel) ?_; refine LQ_here ?_; refine ⟨rfl, ?_⟩; refine Sub.cons ?_; refine LQ_there (by decide +kernel) ?_; refine LQ_there (by decide +kernel) ?_; refine LQ_there (by decide +kernel) ?_; refine LQ_here ?_; refine ⟨rfl, ?_⟩; refine Sub.cons ?_; refine LQ_there (by decide +kernel) ?_; refine LQ_there (by decide +kernel) ?_; refine LQ_there (by decide +kernel) ?_; refine LQ_there (by decide +kernel) ?_; refine LQ_here ?_; refine ⟨rfl, ?_⟩; refine Sub.cons ?_; refine LQ_there (by decide +kernel) ?_; refine LQ_there (by decide +kernel) ?_; refine LQ_there (by decide +kernel) ?_; refine LQ_there (by decide +kernel) ?_; refine LQ_there (by decide +kernel) ?_; refine LQ_here ?_; refine ⟨rfl, ?_⟩; refine Sub.cons ?_; refine LQ_there (by decide +kernel) ?_; refine LQ_there (by decide +kernel) ?_; refine LQ_there (by decide +kernel) ?_; refine LQ_there (by decide +kernel) ?_; refine LQ_there (by decide +kernel) ?_; refine LQ_there (by decide +kernel) ?_; refine LQ_here ?_; refine ⟨rfl, ?_⟩; exact Sub.nil))
    clear hok hg hup g
    rintro g ⟨hok, hg⟩
    try dsimp only
    refine X_ifs ?_
    with_reducible (refine T_cmp1 ?_; refine E_nm ?_; refine LQ_there (by decide +kernel) ?_; refine LQ_here ?_; refine E_int ?_; refine O_eq ?_; refine T_b ?_)
    refine iteD (fun h => ?_) (fun h => ?_)
    · with_reducible (refine X_let ?_; refine E_bin ?_; refine E_bin ?_; refine E_cf (by assumption) (AOk.le (by assumption) (by decide)) ?_; refine Es_cons ?_; refine E_nm ?_; refine LQ_there (by decide +kernel) ?_; refine LQ_there (by decide +kernel) ?_; refine LQ_there (by decide +kernel) ?_; refine LQ_there (by decide +kernel) ?_; refine LQ_there (by decide +kernel) ?_; refine LQ_there (by decide +kernel) ?_; refine LQ_here ?_; refine Es_cons ?_; refine E_nm ?_; refine LQ_there (by decide +kernel) ?_; refine LQ_there (by decide +kernel) ?_; refine LQ_there (by decide +kernel) ?_; refine LQ_here ?_; refine Es_nil ?_; refine ⟨_, _, rfl, ?_⟩; refine E_int ?_; refine O_div ?_ (by omega) (by decide +kernel); refine E_bi (Blt.len_ (by assumption)) (by first | exact Keep.builtin _ | exact Keep.type _) ?_; refine Es_cons ?_; refine E_nm ?_; refine LQ_there (by decide +kernel) ?_; refine LQ_there (by decide +kernel) ?_; refine LQ_here ?_; refine Es_nil ?_)
      rw [hm]
      refine C_len_str (by lia) ?_
      have hlp : (0 : Int) < (x.length : Int) := by lia
      refine O_mod ?_ hlp
      have a1 := Int.emod_lt_of_pos (m / 6) hlp
      have a0 := Int.emod_nonneg (m / 6) (Int.ne_of_gt hlp)
      generalize m / 6 % (x.length : Int) = at_ at a0 a1
      with_reducible (refine X_let ?_; refine E_bin ?_; refine E_bin ?_; refine E_slice_to ?_; refine E_nm ?_; refine LQ_there (by decide +kernel) ?_; refine LQ_there (by decide +kernel) ?_; refine LQ_there (by decide +kernel) ?_; refine LQ_here ?_; refine ⟨_, rfl, ?_⟩)
      refine ⟨small_size (by lia), ?_⟩
      with_reducible (refine E_nm ?_; refine LQ_here ?_; refine ⟨_, rfl, ?_⟩; refine E_sub ?_; refine E_str ?_; refine E_bin ?_; refine E_bin ?_; refine E_cf (by assumption) (AOk.le (by assumption) (by decide)) ?_; refine Es_cons ?_; refine E_nm ?_; refine LQ_there (by decide +kernel) ?_; refine LQ_there (by decide +kernel) ?_; refine LQ_there (by decide +kernel) ?_; refine LQ_there (by decide +kernel) ?_; refine LQ_there (by decide +kernel) ?_; refine LQ_there (by decide +kernel) ?_; refine LQ_there (by decide +kernel) ?_; refine LQ_here ?_; refine Es_cons ?_; refine E_nm ?_; refine LQ_there (by decide +kernel) ?_; refine LQ_there (by decide +kernel) ?_; refine LQ_there (by decide +kernel) ?_; refine LQ_there (by decide +kernel) ?_; refine LQ_here ?_; refine Es_nil ?_; refine ⟨_, _, rfl, ?_⟩; refine E_int ?_; refine O_div ?_ (by omega) (by decide +kernel); refine E_int ?_; refine O_mod ?_ (by omega))
      rw [hm]
      refine S_str (by lia) (by rw [show (Str.ofString "abcdefghijklmnopqrstuvwxyz").cps.size = 26 from letters_size]; lia) (by lia) ?_
      rw [show signAt (Str.ofString "abcdefghijklmnopqrstuvwxyz") (m / 48 % 26).toNat = _ from letters_sign (by lia), slice_to a0]
      have hcl : (m / 48 % 26).toNat < 26 := by lia
      generalize (m / 48 % 26).toNat = cc at hcl
      have htw := twin_len x at_.toNat cc
      refine O_adds ?_ (small_size (by show _ + _ ≤ 100000; simp [Str.length, sg] at hxl ⊢; lia))
      with_reducible (refine E_slice_from ?_; refine E_nm ?_; refine LQ_there (by decide +kernel) ?_; refine LQ_there (by decide +kernel) ?_; refine LQ_there (by decide +kernel) ?_; refine LQ_here ?_; refine ⟨_, rfl, ?_⟩)
      refine ⟨small_size (by lia), ?_⟩
      with_reducible (refine E_bin ?_; refine E_nm ?_; refine LQ_here ?_; refine E_int ?_; refine O_add ?_; refine ⟨_, rfl, ?_⟩)
      rw [slice_from (by lia) (by lia)]
      refine O_adds ?_ (small_size (by have : (⟨(x.cps.toList.drop (at_ + 1).toNat).toArray⟩ : Str).length ≤ 8 := (by simp [Str.length] at hxl ⊢; lia); lia))
      have ea : (at_ + 1).toNat = at_.toNat + 1 := by lia
      rw [ea]
      have hnew := twin_ok hx (a := at_.toNat) (c := cc) (by lia) hcl
      generalize (⟨(x.cps.toList.take at_.toNat).toArray⟩ : Str) ++ sg (97 + cc) ++ ⟨(x.cps.toList.drop (at_.toNat + 1)).toArray⟩ = tw at hnew
      with_reducible (refine X_set ?_; refine E_tuple ?_; refine Es_cons ?_; refine E_sub ?_; refine E_nm ?_; refine LQ_there (by decide +kernel) ?_; refine LQ_there (by decide +kernel) ?_; refine LQ_here ?_; refine E_int ?_; refine S_t0 ?_; refine Es_cons ?_; refine E_int ?_; refine Es_nil ?_; refine And.intro (by first | omega | with_unfolding_all exact Nat.le_of_ble_eq_true rfl) ?_; refine E_nm ?_; refine LQ_there (by decide +kernel) ?_; refine LQ_there (by decide +kernel) ?_; refine LQ_there (by decide +kernel) ?_; refine LQ_there (by decide +kernel) ?_; refine LQ_there (by decide +kernel) ?_; refine LQ_there (by decide +kernel) ?_; refine LQ_here ?_; refine E_nm ?_; refine LQ_here ?_)
      refine P_dict (key := .s tw) (pin_end_at hkl) (small_size (by rw [pgE_length]; lia)) ?_
      rw [pin_end_set hkl, show V.tup [V.int v.1, V.int 3] = shV (v.1, 3) from rfl, put_pg]
      with_reducible (refine X_nil ?_; refine sq_next ?_; refine X_nil ?_)
      refine TD_next (pput g tw (v.1, 3)) ⟨pput_ok hok ⟨hnew, by dsimp only; lia⟩, ?_⟩ rfl (by with_reducible (refine Sub.cons ?_; refine LQ_there (by decide +kernel) ?_; refine LQ_there (by decide +kernel) ?_; refine LQ_there (by decide +kernel) ?_; refine LQ_there (by decide +kernel) ?_; refine LQ_there (by decide +kernel) ?_; refine LQ_there (by decide +kernel) ?_; refine LQ_here ?_; refine ⟨rfl, ?_⟩; refine Sub.cons ?_; refine LQ_there (by decide +kernel) ?_; refine LQ_there (by decide +kernel) ?_; refine LQ_there (by decide +kernel) ?_; refine LQ_there (by decide +kernel) ?_; refine LQ_there (by decide +kernel) ?_; refine LQ_there (by decide +kernel) ?_; refine LQ_there (by decide +kernel) ?_; refine LQ_here ?_; refine ⟨rfl, ?_⟩; refine Sub.cons ?_; refine LQ_there (by decide +kernel) ?_; refine LQ_there (by decide +kernel) ?_; refine LQ_there (by decide +kernel) ?_; refine LQ_there (by decide +kernel) ?_; refine LQ_there (by decide +kernel) ?_; refine LQ_there (by decide +kernel) ?_; refine LQ_there (by decide +kernel) ?_; refine LQ_there (by decide +kernel) ?_; refine LQ_here ?_; refine ⟨rfl, ?_⟩; exact Sub.nil))
      have := pput_len g tw (v.1, 3)
      lia
    · with_reducible (refine X_nil ?_; refine sq_next ?_; refine X_nil ?_)
      exact TD_next g ⟨hok, by lia⟩ rfl (by with_reducible (refine Sub.cons ?_; refine LQ_there (by decide +kernel) ?_; refine LQ_there (by decide +kernel) ?_; refine LQ_there (by decide +kernel) ?_; refine LQ_there (by decide +kernel) ?_; refine LQ_here ?_; refine ⟨rfl, ?_⟩; refine Sub.cons ?_; refine LQ_there (by decide +kernel) ?_; refine LQ_there (by decide +kernel) ?_; refine LQ_there (by decide +kernel) ?_; refine LQ_there (by decide +kernel) ?_; refine LQ_there (by decide +kernel) ?_; refine LQ_here ?_; refine ⟨rfl, ?_⟩; refine Sub.cons ?_; refine LQ_there (by decide +kernel) ?_; refine LQ_there (by decide +kernel) ?_; refine LQ_there (by decide +kernel) ?_; refine LQ_there (by decide +kernel) ?_; refine LQ_there (by decide +kernel) ?_; refine LQ_there (by decide +kernel) ?_; refine LQ_here ?_; refine ⟨rfl, ?_⟩; exact Sub.nil))
  · rintro g ⟨hok, hg⟩
    rw [pgE_length] at hg
    with_reducible (refine X_ret ?_; refine E_nm ?_; refine LQ_here ?_)
    exact R_all (q g hok hg)

theorem good_same : Good (dr pw_uf050040_05 16) ["_law_found", "_law_due"] :=
  ⟨fun pm code doc vals h => (by obtain ⟨a, b, rfl⟩ := len_2 h; rfl), by decide +kernel, by decide +kernel, by decide +kernel, rfl, rfl, rfl⟩
theorem cf_same (gl : Gl B mg mb) (bl : Blt B mg mb) (S : Scr B scr nums) (H : HasF B mg (dr pw_uf050040_05 16))
    (c_share : CF prog w B mg "_law_share" 2 (fun xs σ Q X => ∃ a b c d, xs = [.tup [.int a, .int b], .tup [.int c, .int d]] ∧ Q (.bool (decide (a = c ∧ b = d))) σ)) :
    CF prog w B mg "_law_same" 3 (fun xs σ Q X => ∃ j k F D e e', σ[j]? = some (.dict (pgE F) e) ∧ σ[k]? = some (.dict (pgE D) e') ∧ (names F = srt (names D) ∧ (∀ r ∈ F, r ∈ D) ∧ D.length ≤ 1000 ∧ ∀ r ∈ D, isNameS r.1 = true) ∧ xs = [.ref j, .ref k] ∧ Q (.bool true) σ) := by
  refine CF_of gl H good_same ?_
  rintro A pm code doc L a₀ _ σ Q X hA ⟨j, k, F, D, e, e', hj, hk, ⟨hns, hsub, hlen, hok⟩, rfl, q⟩
  refine ⟨rfl, ?_⟩
  change WX _ _ _ _ _ (_ :: _) ((_, _) :: (_, _) :: []) _ _ _

  refine X_keys hk fun hnd => ?_
  replace hnd := names_nodup hnd
  refine X_keys hj fun hnf => ?_
  replace hnf := names_nodup hnf
  have hfl : F.length = D.length := by
    have := congrArg List.length hns
    rw [(srt_perm _).length_eq] at this
    simpa [names] using this
  refine X_ifs ?_
  with_reducible (refine T_bool ?_; refine Ts_or ?_; refine T_not ?_; refine T_value ?_; refine E_bi (Blt.isinstance_ (by assumption)) (by first | exact Keep.builtin _ | exact Keep.type _) ?_; refine Es_cons ?_; refine E_nm ?_; refine LQ_here ?_; refine Es_cons ?_; refine E_nm ?_; refine LQ_there (by decide +kernel) ?_; refine LQ_there (by decide +kernel) ?_; refine LQ_nil ?_; refine N_bi (Blt.dict_ (by assumption)) ?_; refine Es_nil ?_)
  refine isi_dict hj isi_dict_dict ?_
  with_reducible (refine T_b ?_; refine iteNo (by decide) ?_; refine Ts_or ?_; refine T_cmp1 ?_; refine E_bi (Blt.list_ (by assumption)) (by first | exact Keep.builtin _ | exact Keep.type _) ?_; refine Es_cons ?_; refine E_nm ?_; refine LQ_here ?_; refine Es_nil ?_)
  refine C_list_dict hA.handled hj (small_size (by rw [pgE_length]; lia)) ?_
  with_reducible (refine E_bi (Blt.sorted_ (by assumption)) (by first | exact Keep.builtin _ | exact Keep.type _) ?_; refine Es_cons ?_; refine E_nm ?_; refine LQ_there (by decide +kernel) ?_; refine LQ_here ?_; refine Es_nil ?_)
  refine C_sorted_dict hA.handled (up_at hk) (fun q hq => ?_) (small_size (by rw [pgE_length]; lia)) ?_
  · obtain ⟨x, _, rfl⟩ := List.mem_map.mp hq
    exact ⟨x.1, rfl⟩
  have ek : (pgE D).map (fun p => keyS p.1) = names D := by simp [pgE, toRow, keyS, names]
  have ef : (pgE F).map (fun p => p.1.v) = (srt (names D)).map V.str := by rw [← hns]; simp [pgE, toRow, names, Key.v]
  rw [ek, ef]
  skip
  refine O_ne_strs at_prev at_end' (fun x hx => ?_) (small_size (by rw [(srt_perm _).length_eq]; simp [names]; lia)) (by have := hA.units; show _ < 9900; lia) ?_
  · obtain ⟨r, hr, rfl⟩ := List.mem_map.mp (srt_mem.mp hx)
    exact isNameS_cps (hok r hr)
  with_reducible (refine T_b ?_; refine iteF ?_; refine Ts_or_nil ?_; refine iteF ?_; refine X_nil ?_; refine sq_next ?_)
  generalize ht1 : AObj.list ((srt (names D)).map V.str) = o1
  refine X_ford (ι := Unit) (fun i _ => True) (fun _ _ => [("_law_found", .ref j), ("_law_due", .ref k)]) (fun _ _ => σ ++ [o1] ++ [o1]) () hA.handled (up_at (up_at hj)) (fun ep => ?_) trivial rfl (by with_reducible (refine Sub.cons ?_; refine LQ_here ?_; refine ⟨rfl, ?_⟩; refine Sub.cons ?_; refine LQ_there (by decide +kernel) ?_; refine LQ_here ?_; refine ⟨rfl, ?_⟩; exact Sub.nil)) (fun _ _ _ => up_at (up_at hj)) ?_ ?_
  · with_reducible (refine E_nm ?_; refine LQ_here ?_; refine ⟨rfl, ?_⟩)
    first | exact ⟨rfl, rfl⟩ | rfl
  · rintro ep i ⟨⟩ hi -
    rw [pgE_length] at hi
    rw [keyAt_pg hi]
    have hat := at_pg_get hnf hi
    have hin := hsub _ (List.getElem_mem hi)
    generalize F[i] = x at *
    obtain ⟨n, v⟩ := x
    dsimp only at *
    have hat2 : at? (pgE D) (.s n) = some (shV v) := by rw [at_pg, look?_get hnd hin]; rfl
    obtain ⟨e₁, hk'⟩ := pin_get (ep := ep) (up_at (more := [o1]) (up_at (more := [o1]) hk)) (up_at (up_at hj))
    have hup : (pin (σ ++ [o1] ++ [o1]) j (pgE F) ep)[j]? = some (.dict (pgE F) (some ep)) := pin_at (up_at (up_at hj))
    refine X_ifs ?_
    with_reducible (refine T_bool ?_; refine Ts_or ?_; refine T_not ?_; refine T_value ?_; refine E_bi (Blt.isinstance_ (by assumption)) (by first | exact Keep.builtin _ | exact Keep.type _) ?_; refine Es_cons ?_; refine E_nm ?_; refine LQ_here ?_; refine Es_cons ?_; refine E_nm ?_; refine LQ_there (by decide +kernel) ?_; refine LQ_there (by decide +kernel) ?_; refine LQ_there (by decide +kernel) ?_; refine LQ_nil ?_; refine N_bi (Blt.str_ (by assumption)) ?_; refine Es_nil ?_; refine isi_str (isi_str_str) ?_; refine T_b ?_; refine iteNo (by decide) ?_; refine Ts_or ?_; refine T_not ?_; refine T_value ?_; refine E_cf (by assumption) (AOk.le (by assumption) (by decide)) ?_; refine Es_cons ?_; refine E_sub ?_; refine E_nm ?_; refine LQ_there (by decide +kernel) ?_; refine LQ_here ?_; refine E_nm ?_; refine LQ_here ?_)
    refine S_dict (key := .s _) hup hat ?_
    with_reducible (refine Es_cons ?_; refine E_sub ?_; refine E_nm ?_; refine LQ_there (by decide +kernel) ?_; refine LQ_there (by decide +kernel) ?_; refine LQ_here ?_; refine E_nm ?_; refine LQ_here ?_)
    refine S_dict (key := .s _) hk' hat2 ?_
    with_reducible (refine Es_nil ?_; refine ⟨_, _, _, _, rfl, ?_⟩; refine T_b ?_)
    refine iteDn (fun h => absurd ⟨rfl, rfl⟩ h) (fun h => ?_)
    with_reducible (refine Ts_or_nil ?_; refine iteF ?_; refine X_nil ?_; refine sq_next ?_; refine X_nil ?_)
    exact TD_next () trivial rfl (by with_reducible (refine Sub.cons ?_; refine LQ_there (by decide +kernel) ?_; refine LQ_here ?_; refine ⟨rfl, ?_⟩; refine Sub.cons ?_; refine LQ_there (by decide +kernel) ?_; refine LQ_there (by decide +kernel) ?_; refine LQ_here ?_; refine ⟨rfl, ?_⟩; exact Sub.nil))
  · rintro ⟨⟩ -
    with_reducible (refine X_ret ?_; refine E_bool ?_)
    rw [List.append_assoc]
    exact R_none trivial q

theorem good_l_joined : Good (dr pw_uf050040_05 17) ["_law_one", "_law_other"] :=
  ⟨fun pm code doc vals h => (by obtain ⟨a, b, rfl⟩ := len_2 h; rfl), by decide +kernel, by decide +kernel, by decide +kernel, rfl, rfl, rfl⟩
theorem cf_l_joined (gl : Gl B mg mb) (bl : Blt B mg mb) (S : Scr B scr nums) (H : HasF B mg (dr pw_uf050040_05 17)) :
    CF prog w B mg "_law_joined" 1 (fun xs σ Q X => ∃ j k p r e e', σ[j]? = some (.dict (pgE p) e) ∧ σ[k]? = some (.dict (pgE r) e') ∧ p.length + r.length ≤ 1000 ∧ xs = [.ref j, .ref k] ∧ Q (.ref σ.length) (σ ++ [.dict (pgE (dueJ p r)) none])) := by
  refine CF_of gl H good_l_joined ?_
  rintro A pm code doc L a₀ _ σ Q X hA ⟨j, k, p, r, e, e', hj, hk, hlen, rfl, q⟩
  refine ⟨rfl, ?_⟩
  change WX _ _ _ _ _ (_ :: _) ((_, _) :: (_, _) :: []) _ _ _

  have hkl := at_len hk
  refine X_keys hk fun hnd => ?_
  replace hnd := names_nodup hnd
  with_reducible (refine X_let ?_; refine E_bi (Blt.dict_ (by assumption)) (by first | exact Keep.builtin _ | exact Keep.type _) ?_; refine Es_cons ?_; refine E_nm ?_; refine LQ_here ?_; refine Es_nil ?_)
  refine C_dict_copy hj (small_size (by rw [pgE_length]; lia)) ?_
  skip
  refine X_ford (ι := Pg) (fun i g => g = dueJ p (r.take i)) (fun _ _ => [("_law_page", .ref σ.length), ("_law_one", .ref j), ("_law_other", .ref k)]) (fun _ g => σ ++ [.dict (pgE g) none]) p hA.handled (up_at hk) (fun ep => ?_) rfl rfl (by with_reducible (refine Sub.cons ?_; refine LQ_here ?_; refine ⟨rfl, ?_⟩; refine Sub.cons ?_; refine LQ_there (by decide +kernel) ?_; refine LQ_here ?_; refine ⟨rfl, ?_⟩; refine Sub.cons ?_; refine LQ_there (by decide +kernel) ?_; refine LQ_there (by decide +kernel) ?_; refine LQ_here ?_; refine ⟨rfl, ?_⟩; exact Sub.nil)) (fun _ _ _ => up_at hk) ?_ ?_
  · with_reducible (refine E_nm ?_; refine LQ_there (by decide +kernel) ?_; refine LQ_there (by decide +kernel) ?_; refine LQ_here ?_; refine ⟨rfl, ?_⟩)
    first | exact ⟨rfl, rfl⟩ | rfl
  · rintro ep i g hi hD
    rw [pgE_length] at hi
    rw [keyAt_pg hi]
    have hat := at_pg_get hnd hi
    have hgl : g.length ≤ p.length + i := by
      rw [hD]
      have := dueJ_len (r.take i) p
      rw [List.length_take] at this
      lia
    have hstep : dueJ p (r.take (i + 1)) = pput g r[i].1 (maxS (look g r[i].1) r[i].2) := by
      rw [List.take_add_one, List.getElem?_eq_getElem hi, hD]
      unfold dueJ
      rw [List.foldl_append]
      rfl
    generalize r[i] = x at *
    obtain ⟨n, v⟩ := x
    dsimp only at *
    have hup : (pin (σ ++ [AObj.dict (pgE g) none]) k (pgE r) ep)[k]? = some (.dict (pgE r) (some ep)) := pin_at (up_at hk)
    with_reducible (refine X_let ?_; refine E_mcall (name := Str.ofString "get") (id := "dict.get") ?_; refine E_nm ?_; refine LQ_there (by decide +kernel) ?_; refine LQ_here ?_)
    refine ⟨GM_dict (pin_end_at hkl) F.slot_dict_get F.type_dict_get, ?_⟩
    with_reducible (refine Es_cons ?_; refine E_nm ?_; refine LQ_here ?_; refine Es_cons ?_; refine E_tuple ?_; refine Es_cons ?_; refine E_int ?_; refine Es_cons ?_; refine E_int ?_; refine Es_nil ?_; refine And.intro (by first | omega | with_unfolding_all exact Nat.le_of_ble_eq_true rfl) ?_; refine Es_nil ?_)
    refine C_get_s (pin_end_at hkl) ?_
    rw [at_pgD]
    with_reducible (refine X_let ?_; refine E_sub ?_; refine E_nm ?_; refine LQ_there (by decide +kernel) ?_; refine LQ_there (by decide +kernel) ?_; refine LQ_there (by decide +kernel) ?_; refine LQ_there (by decide +kernel) ?_; refine LQ_here ?_; refine E_nm ?_; refine LQ_there (by decide +kernel) ?_; refine LQ_here ?_)
    refine S_dict (key := .s _) hup hat ?_
    refine X_let ?_
    refine E_as (.int (max (look g n).1 v.1)) ?_ ?_
    · refine E_ifexp ?_
      with_reducible (refine T_cmp1 ?_; refine E_sub ?_; refine E_nm ?_; refine LQ_here ?_; refine E_int ?_; refine S_t0 ?_; refine E_sub ?_; refine E_nm ?_; refine LQ_there (by decide +kernel) ?_; refine LQ_here ?_; refine E_int ?_; refine S_t0 ?_; refine O_gt ?_; refine T_b ?_)
      refine iteD (fun h => ?_) (fun h => ?_)
      · with_reducible (refine E_sub ?_; refine E_nm ?_; refine LQ_here ?_; refine E_int ?_; refine S_t0 ?_)
        exact ⟨by congr 1; lia, rfl⟩
      · with_reducible (refine E_sub ?_; refine E_nm ?_; refine LQ_there (by decide +kernel) ?_; refine LQ_here ?_; refine E_int ?_; refine S_t0 ?_)
        exact ⟨by congr 1; lia, rfl⟩
    refine X_let ?_
    refine E_as (.int (max (look g n).2 v.2)) ?_ ?_
    · refine E_ifexp ?_
      with_reducible (refine T_cmp1 ?_; refine E_sub ?_; refine E_nm ?_; refine LQ_there (by decide +kernel) ?_; refine LQ_here ?_; refine E_int ?_; refine S_t1 ?_; refine E_sub ?_; refine E_nm ?_; refine LQ_there (by decide +kernel) ?_; refine LQ_there (by decide +kernel) ?_; refine LQ_here ?_; refine E_int ?_; refine S_t1 ?_; refine O_gt ?_; refine T_b ?_)
      refine iteD (fun h => ?_) (fun h => ?_)
      · with_reducible (refine E_sub ?_; refine E_nm ?_; refine LQ_there (by decide +kernel) ?_; refine LQ_here ?_; refine E_int ?_; refine S_t1 ?_)
        exact ⟨by congr 1; lia, rfl⟩
      · with_reducible (refine E_sub ?_; refine E_nm ?_; refine LQ_there (by decide +kernel) ?_; refine LQ_there (by decide +kernel) ?_; refine LQ_here ?_; refine E_int ?_; refine S_t1 ?_)
        exact ⟨by congr 1; lia, rfl⟩
    with_reducible (refine X_set ?_; refine E_tuple ?_; refine Es_cons ?_; refine E_nm ?_; refine LQ_there (by decide +kernel) ?_; refine LQ_here ?_; refine Es_cons ?_; refine E_nm ?_; refine LQ_here ?_; refine Es_nil ?_; refine And.intro (by first | omega | with_unfolding_all exact Nat.le_of_ble_eq_true rfl) ?_; refine E_nm ?_; refine LQ_there (by decide +kernel) ?_; refine LQ_there (by decide +kernel) ?_; refine LQ_there (by decide +kernel) ?_; refine LQ_there (by decide +kernel) ?_; refine LQ_there (by decide +kernel) ?_; refine LQ_here ?_; refine E_nm ?_; refine LQ_there (by decide +kernel) ?_; refine LQ_there (by decide +kernel) ?_; refine LQ_there (by decide +kernel) ?_; refine LQ_there (by decide +kernel) ?_; refine LQ_here ?_)
    refine P_dict (key := .s n) (pin_end_at hkl) (small_size (by rw [pgE_length]; lia)) ?_
    rw [show V.tup [.int (max (look g n).1 v.1), .int (max (look g n).2 v.2)] = shV (maxS (look g n) v) from rfl, pin_end_set hkl, put_pg]
    with_reducible (refine X_nil ?_)
    exact TD_next (pput g n (maxS (look g n) v)) hstep.symm rfl (by with_reducible (refine Sub.cons ?_; refine LQ_there (by decide +kernel) ?_; refine LQ_there (by decide +kernel) ?_; refine LQ_there (by decide +kernel) ?_; refine LQ_there (by decide +kernel) ?_; refine LQ_there (by decide +kernel) ?_; refine LQ_here ?_; refine ⟨rfl, ?_⟩; refine Sub.cons ?_; refine LQ_there (by decide +kernel) ?_; refine LQ_there (by decide +kernel) ?_; refine LQ_there (by decide +kernel) ?_; refine LQ_there (by decide +kernel) ?_; refine LQ_there (by decide +kernel) ?_; refine LQ_there (by decide +kernel) ?_; refine LQ_here ?_; refine ⟨rfl, ?_⟩; refine Sub.cons ?_; refine LQ_there (by decide +kernel) ?_; refine LQ_there (by decide +kernel) ?_; refine LQ_there (by decide +kernel) ?_; refine LQ_there (by decide +kernel) ?_; refine LQ_there (by decide +kernel) ?_; refine LQ_there (by decide +kernel) ?_; refine LQ_there (by decide +kernel) ?_; refine LQ_here ?_; refine ⟨rfl, ?_⟩; exact Sub.nil))
  · rintro g hD
    rw [pgE_length, List.take_length] at hD
    subst hD
    with_reducible (refine X_ret ?_; refine E_nm ?_; refine LQ_here ?_)
    exact R_all q

theorem good_l_total : Good (dr pw_uf050040_05 18) ["_law_page"] :=
  ⟨fun pm code doc vals h => (by obtain ⟨a, rfl⟩ := len_1 h; rfl), by decide +kernel, by decide +kernel, by decide +kernel, rfl, rfl, rfl⟩
theorem cf_l_total (gl : Gl B mg mb) (bl : Blt B mg mb) (S : Scr B scr nums) (H : HasF B mg (dr pw_uf050040_05 18)) :
    CF prog w B mg "_law_total" 1 (fun xs σ Q X => ∃ k p e, σ[k]? = some (.dict (pgE p) e) ∧ p.length ≤ 1000 ∧ xs = [.ref k] ∧ Q (.int (nets p).sum) σ) := by
  refine CF_of gl H good_l_total ?_
  rintro A pm code doc L a₀ _ σ Q X hA ⟨k, p, e, hk, hlen, rfl, q⟩
  refine ⟨rfl, ?_⟩
  change WX _ _ _ _ _ (_ :: _) ((_, _) :: []) _ _ _

  refine X_keys hk fun hnd => ?_
  replace hnd := names_nodup hnd
  with_reducible (refine X_let ?_; refine E_int ?_)
  refine X_ford (ι := Int) (fun i t => t = (nets (p.take i)).sum) (fun _ t => [("_law_found", .int t), ("_law_page", .ref k)]) (fun _ _ => σ) 0 hA.handled hk (fun ep => ?_) rfl rfl (by with_reducible (refine Sub.cons ?_; refine LQ_here ?_; refine ⟨rfl, ?_⟩; refine Sub.cons ?_; refine LQ_there (by decide +kernel) ?_; refine LQ_here ?_; refine ⟨rfl, ?_⟩; exact Sub.nil)) (fun _ _ _ => hk) ?_ ?_
  · with_reducible (refine E_nm ?_; refine LQ_there (by decide +kernel) ?_; refine LQ_here ?_; refine ⟨rfl, ?_⟩)
    first | exact ⟨rfl, rfl⟩ | rfl
  · rintro ep i t hi hD
    rw [pgE_length] at hi
    rw [keyAt_pg hi]
    have hat := at_pg_get hnd hi
    with_reducible (refine X_let ?_; refine E_bin ?_; refine E_bin ?_; refine E_nm ?_; refine LQ_there (by decide +kernel) ?_; refine LQ_here ?_; refine E_sub ?_; refine E_sub ?_; refine E_nm ?_; refine LQ_there (by decide +kernel) ?_; refine LQ_there (by decide +kernel) ?_; refine LQ_here ?_; refine E_nm ?_; refine LQ_here ?_)
    refine S_dict (key := .s _) (pin_at hk) hat ?_
    with_reducible (refine E_int ?_; refine S_t0 ?_; refine O_add ?_; refine E_sub ?_; refine E_sub ?_; refine E_nm ?_; refine LQ_there (by decide +kernel) ?_; refine LQ_there (by decide +kernel) ?_; refine LQ_here ?_; refine E_nm ?_; refine LQ_here ?_)
    refine S_dict (key := .s _) (pin_at hk) hat ?_
    with_reducible (refine E_int ?_; refine S_t1 ?_; refine O_sub ?_; refine X_nil ?_)
    refine TD_next (t + (p[i]).2.1 - (p[i]).2.2) ?_ rfl (by with_reducible (refine Sub.cons ?_; refine LQ_here ?_; refine ⟨rfl, ?_⟩; refine Sub.cons ?_; refine LQ_there (by decide +kernel) ?_; refine LQ_there (by decide +kernel) ?_; refine LQ_there (by decide +kernel) ?_; refine LQ_here ?_; refine ⟨rfl, ?_⟩; exact Sub.nil))
    rw [List.take_add_one, List.getElem?_eq_getElem hi]
    unfold nets at hD ⊢
    rw [List.map_append, List.sum_append, ← hD]
    simp only [Option.toList_some, List.map_cons, List.map_nil, List.sum_cons, List.sum_nil]
    lia
  · rintro t hD
    rw [pgE_length, List.take_length] at hD
    subst hD
    with_reducible (refine X_ret ?_; refine E_nm ?_; refine LQ_here ?_)
    exact R_all q

theorem eq_nilB (veq : V → V → Bool) (l : Pg) : ((pgE l).length == ([] : List (Key × V)).length && sameB veq (pgE l) []) = l.isEmpty := by cases l <;> simp [pgE, sameB]
theorem veq_nil (σ : List AObj) (veq : V → V → Bool) (es : List (Key × V)) : VeqOk σ veq es [] := fun p hp y hy => by simp [at?] at hy
theorem pg_same (σ : List AObj) {p : Pg} (hn : (names p).Nodup) : VeqOk σ (fun _ _ => true) (pgE p) (pgE p) ∧ ((pgE p).length == (pgE p).length && sameB (fun _ _ => true) (pgE p) (pgE p)) = true := by
  have key : ∀ q ∈ pgE p, ∃ v : Int × Int, q.2 = shV v ∧ at? (pgE p) q.1 = some (shV v) := fun q hq => by
    obtain ⟨r, hr, rfl⟩ := List.mem_map.mp hq
    refine ⟨r.2, rfl, ?_⟩
    show at? (pgE p) (.s r.1) = _
    rw [at_pg, look?_get hn hr]; rfl
  refine ⟨fun q hq y hy => ?_, ?_⟩
  · obtain ⟨v, h1, h2⟩ := key q hq
    rw [h2] at hy; cases hy
    rw [h1]
    exact ⟨.tuple [.int v.1, .int v.2], .tuple [.int v.1, .int v.2], .tup (.cons (.int _) (.cons (.int _) .nil)), .tup (.cons (.int _) (.cons (.int _) .nil)), rfl, rfl, by simp [PyData.depth, PyData.depthAll], by simp [PyData.eqv, PyData.eqvAll]⟩
  · rw [beq_self_eq_true, Bool.true_and]
    unfold sameB
    rw [List.all_eq_true]
    intro q hq
    obtain ⟨v, h1, h2⟩ := key q hq
    rw [h2]
theorem lackB_nil {r : Str × Int × Int} (h : RowOk r) : lackB [] r = true := by
  obtain ⟨_, h1, h2, h3⟩ := h
  have e : look [] r.1 = (0, 0) := rfl
  have hn : ¬ (r.2.1 ≤ (look [] r.1).1 ∧ r.2.2 ≤ (look [] r.1).2) := by rw [e]; dsimp only; omega
  unfold lackB reach
  rw [decide_eq_false hn]; rfl
theorem filter_nil_all {p : Pg} (h : PgOk p) : p.filter (lackB []) = p := List.filter_eq_self.mpr fun r hr => lackB_nil (h.2 r hr)
theorem knows_self {p : Pg} (h : PgOk p) : (p.all fun x => reach (look p x.1) x.2) = true := by
  rw [List.all_eq_true]
  intro r hr
  rw [look_get h.1 hr]
  unfold reach; exact decide_eq_true ⟨Int.le_refl _, Int.le_refl _⟩
theorem lacks_self {p : Pg} (h : PgOk p) : lacks p p = [] := by
  unfold lacks
  rw [List.filter_eq_nil_iff]
  intro r hr
  have hr' := (sortedP_mem h.1).mp hr
  unfold lackB reach
  rw [look_get h.1 hr', decide_eq_true ⟨Int.le_refl _, Int.le_refl _⟩]; decide
/-- what same is asked -/
def SameOk (F D : Pg) : Prop := names F = srt (names D) ∧ (∀ r ∈ F, r ∈ D) ∧ D.length ≤ 1000 ∧ ∀ r ∈ D, isNameS r.1 = true
theorem same_lacks {p r : Pg} (h : PgOk r) (hl : r.length ≤ 1000) : SameOk (lacks p r) (r.filter (lackB p)) :=
  ⟨lacks_names h.1, fun x hx => lacks_mem h.1 hx, Nat.le_trans (List.length_filter_le _ _) hl, fun x hx => (h.2 x (List.mem_filter.mp hx).1).1⟩
theorem same_all {r : Pg} (h : PgOk r) (hl : r.length ≤ 1000) : SameOk (lacks [] r) r := by
  have := same_lacks (p := []) h hl
  rwa [filter_nil_all h] at this
theorem seven {τ : List AObj} {a b c d e f g : AObj} : (τ ++ [a] ++ [b] ++ [c] ++ [d] ++ [e] ++ [f] ++ [g])[τ.length + 1]? = some b ∧ (τ ++ [a] ++ [b] ++ [c] ++ [d] ++ [e] ++ [f] ++ [g])[τ.length + 1 + 1]? = some c ∧ (τ ++ [a] ++ [b] ++ [c] ++ [d] ++ [e] ++ [f] ++ [g])[τ.length + 1 + 1 + 1 + 1]? = some e ∧ (τ ++ [a] ++ [b] ++ [c] ++ [d] ++ [e] ++ [f] ++ [g])[τ.length + 1 + 1 + 1 + 1 + 1]? = some f ∧ (τ ++ [a] ++ [b] ++ [c] ++ [d] ++ [e] ++ [f] ++ [g])[τ.length + 1 + 1 + 1 + 1 + 1 + 1]? = some g := by
  have e' : τ ++ [a] ++ [b] ++ [c] ++ [d] ++ [e] ++ [f] ++ [g] = τ ++ [a, b, c, d, e, f, g] := by simp
  rw [e']
  have key : ∀ (l : List AObj) (i : Nat), (τ ++ l)[τ.length + i]? = l[i]? := fun l i => by rw [List.getElem?_append_right (Nat.le_add_right _ _), Nat.add_sub_cancel_left]
  exact ⟨key _ 1, key _ 2, key _ 4, key _ 5, key _ 6⟩
theorem up_pre {τ g : List AObj} {n k : Nat} {x : AObj} (h : ∀ k, k < n → g[k]? = τ[k]?) (hk : τ[k]? = some x) (hn : k < n) : g[k]? = some x := (h k hn).trans hk

theorem due_facts {p r : Pg} (hp : PgOk p) (hr : PgOk r) (hl : p.length + r.length ≤ 500) : PgOk (dueJ p r) ∧ (dueJ p r).length ≤ 1000 ∧ (names (joins p r) = srt (names (dueJ p r)) ∧ (∀ x ∈ joins p r, x ∈ dueJ p r) ∧ (dueJ p r).length ≤ 1000 ∧ ∀ x ∈ dueJ p r, isNameS x.1 = true) ∧ (names (joins r p) = srt (names (dueJ p r)) ∧ (∀ x ∈ joins r p, x ∈ dueJ p r) ∧ (dueJ p r).length ≤ 1000 ∧ ∀ x ∈ dueJ p r, isNameS x.1 = true) := by
  have h := same_joins hp hr (by omega)
  refine ⟨dueJ_ok hp hr, h.2.2.1, h, ?_⟩
  rw [joins_comm]; exact h
theorem names_strOk {p : Pg} (h : PgOk p) : ∀ x ∈ names p, PyData.strOk x = true := fun x hx => by
  obtain ⟨r, hr, rfl⟩ := List.mem_map.mp hx
  exact isNameS_cps (h.2 r hr).1
theorem joins_nil : joins [] [] = [] := List.eq_nil_of_length_eq_zero (by have := joins_len [] []; simpa using this)
theorem put_zz {g : List AObj} {k : Nat} {x y : AObj} {more : List AObj} (h : g[k]? = some x) : ((g ++ more).set g.length y)[k]? = some x := by
  rw [List.getElem?_set_ne (Nat.ne_of_gt (at_len h))]; exact up_at h

theorem good_law : Good (dr pw_uf050040_05 19) ["_law_script"] :=
  ⟨fun pm code doc vals h => (by obtain ⟨a, rfl⟩ := len_1 h; rfl), by decide +kernel, by decide +kernel, by decide +kernel, rfl, rfl, rfl⟩
theorem law_ok (bl : Blt B mg mb) (S : Scr B scr nums)
    (c_cell_at : CF prog w B mg "_law_cell_at" 1 (fun xs σ Q X => ∃ k, xs = [.raw (.ref scr), .int k] ∧ 0 ≤ k ∧ Q (.int (cellAt nums k)) σ))
    (c_page_by : CF prog w B mg "_law_page_by" 3 (fun xs σ Q X => ∃ a b n, xs = [.int a, .int b, .int n] ∧ (0 ≤ n ∧ n ≤ 200) ∧ ∀ page : Pg, PgOk page → (page.length : Int) ≤ n → Q (.ref σ.length) (σ ++ [.dict (pgE page) none])))
    (c_near_by : CF prog w B mg "_law_near_by" 3 (fun xs σ Q X => ∃ k p e c, σ[k]? = some (.dict (pgE p) e) ∧ PgOk p ∧ p.length ≤ 200 ∧ xs = [.ref k, .int c] ∧ ∀ other : Pg, PgOk other → other.length ≤ 2 * p.length → Q (.ref σ.length) (σ ++ [.dict (pgE other) none])))
    (c_l_joined : CF prog w B mg "_law_joined" 1 (fun xs σ Q X => ∃ j k p r e e', σ[j]? = some (.dict (pgE p) e) ∧ σ[k]? = some (.dict (pgE r) e') ∧ p.length + r.length ≤ 1000 ∧ xs = [.ref j, .ref k] ∧ Q (.ref σ.length) (σ ++ [.dict (pgE (dueJ p r)) none])))
    (c_joined : CF prog w B mg "joined" 3 (fun xs σ Q X => ∃ j k p r e e', σ[j]? = some (.dict (pgE p) e) ∧ σ[k]? = some (.dict (pgE r) e') ∧ p.length + r.length ≤ 1000 ∧ xs = [.ref j, .ref k] ∧ Q (.ref σ.length) (σ ++ [.dict (pgE (joins p r)) none])))
    (c_same : CF prog w B mg "_law_same" 3 (fun xs σ Q X => ∃ j k F D e e', σ[j]? = some (.dict (pgE F) e) ∧ σ[k]? = some (.dict (pgE D) e') ∧ (names F = srt (names D) ∧ (∀ r ∈ F, r ∈ D) ∧ D.length ≤ 1000 ∧ ∀ r ∈ D, isNameS r.1 = true) ∧ xs = [.ref j, .ref k] ∧ Q (.bool true) σ))
    (c_l_total : CF prog w B mg "_law_total" 1 (fun xs σ Q X => ∃ k p e, σ[k]? = some (.dict (pgE p) e) ∧ p.length ≤ 1000 ∧ xs = [.ref k] ∧ Q (.int (nets p).sum) σ))
    (c_total : CF prog w B mg "total" 2 (fun xs σ Q X => ∃ k p e, σ[k]? = some (.dict (pgE p) e) ∧ p.length ≤ 1000 ∧ xs = [.ref k] ∧ Q (.int (nets p).sum) σ))
    (c_share : CF prog w B mg "_law_share" 2 (fun xs σ Q X => ∃ a b c d, xs = [.tup [.int a, .int b], .tup [.int c, .int d]] ∧ Q (.bool (decide (a = c ∧ b = d))) σ))
    (c_share_of : CF prog w B mg "share_of" 1 (fun xs σ Q X => ∃ k p e n, σ[k]? = some (.dict (pgE p) e) ∧ xs = [.ref k, .str n] ∧ Q (shV (look p n)) σ))
    (c_name_by : CF prog w B mg "_law_name_by" 2 (fun xs σ Q X => ∃ c, xs = [.int c] ∧ Q (.str (nameBy c)) σ))
    (c_whole : CF prog w B mg "_law_whole" 1 (fun xs σ Q X => ∃ c, xs = [.int c] ∧ Q (.bool true) σ))
    {A : Around} (hA : AOk 10 A) (pm code doc : Value) (L a₀ : Addr) (σ : List AObj) (hσ : σ = []) :
    WX prog w B A (callEnvC (docDef (dr pw_uf050040_05 19).name (dr pw_uf050040_05 19).params (dr pw_uf050040_05 19).body (dr pw_uf050040_05 19).scope pm code doc) L a₀) (dr pw_uf050040_05 19).body [("_law_script", .raw (.ref scr))] σ (fun fl _ _ => retV fl = .bool true) (fun _ _ _ _ => False) := by
  change WX _ _ _ _ _ (_ :: _) _ _ _ _

  with_reducible (refine X_let ?_; refine E_bin ?_; refine E_cf (by assumption) (AOk.le (by assumption) (by decide)) ?_; refine Es_cons ?_; refine E_nm ?_; refine LQ_here ?_; refine Es_cons ?_; refine E_int ?_; refine Es_nil ?_; refine ⟨_, rfl, ?_⟩; refine And.intro (by first | omega | with_unfolding_all exact Nat.le_of_ble_eq_true rfl) ?_; refine E_int ?_; refine O_mod ?_ (by omega))
  refine X_ifj (ι := Int) (fun n => 0 ≤ n ∧ n ≤ 95) (fun n => [("_law_size", .int n), ("_law_script", .raw (.ref scr))]) (fun _ => σ) ?_ ?_
  · with_reducible (refine T_cmp1 ?_; refine E_bin ?_; refine E_bin ?_; refine E_cf (by assumption) (AOk.le (by assumption) (by decide)) ?_; refine Es_cons ?_; refine E_nm ?_; refine LQ_there (by decide +kernel) ?_; refine LQ_here ?_; refine Es_cons ?_; refine E_int ?_; refine Es_nil ?_; refine ⟨_, rfl, ?_⟩; refine And.intro (by first | omega | with_unfolding_all exact Nat.le_of_ble_eq_true rfl) ?_; refine E_int ?_; refine O_div ?_ (by omega) (by decide +kernel); refine E_int ?_; refine O_mod ?_ (by omega); refine E_int ?_; refine O_eq ?_; refine T_b ?_)
    refine iteD (fun h => ?_) (fun h => ?_)
    · with_reducible (refine X_let ?_; refine E_bin ?_; refine E_int ?_; refine E_bin ?_; refine E_bin ?_; refine E_cf (by assumption) (AOk.le (by assumption) (by decide)) ?_; refine Es_cons ?_; refine E_nm ?_; refine LQ_there (by decide +kernel) ?_; refine LQ_here ?_; refine Es_cons ?_; refine E_int ?_; refine Es_nil ?_; refine ⟨_, rfl, ?_⟩; refine And.intro (by first | omega | with_unfolding_all exact Nat.le_of_ble_eq_true rfl) ?_; refine E_int ?_; refine O_div ?_ (by omega) (by decide +kernel); refine E_int ?_; refine O_mod ?_ (by omega); refine O_add ?_; refine X_nil ?_)
      exact J_next (40 + cellAt nums 0 / 40 % 56) (by omega) rfl (by with_reducible (refine Sub.cons ?_; refine LQ_here ?_; refine ⟨rfl, ?_⟩; refine Sub.cons ?_; refine LQ_there (by decide +kernel) ?_; refine LQ_there (by decide +kernel) ?_; refine LQ_here ?_; refine ⟨rfl, ?_⟩; exact Sub.nil))
    · with_reducible (refine X_nil ?_)
      exact J_next (cellAt nums 0 % 5) (by omega) rfl (by with_reducible (refine Sub.cons ?_; refine LQ_here ?_; refine ⟨rfl, ?_⟩; refine Sub.cons ?_; refine LQ_there (by decide +kernel) ?_; refine LQ_here ?_; refine ⟨rfl, ?_⟩; exact Sub.nil))
  rintro n hn
  with_reducible (refine X_let ?_; refine E_cf (by assumption) (AOk.le (by assumption) (by decide)) ?_; refine Es_cons ?_; refine E_cf (by assumption) (AOk.le (by assumption) (by decide)) ?_; refine Es_cons ?_; refine E_nm ?_; refine LQ_there (by decide +kernel) ?_; refine LQ_here ?_; refine Es_cons ?_; refine E_int ?_; refine Es_nil ?_; refine ⟨_, rfl, ?_⟩; refine And.intro (by first | omega | with_unfolding_all exact Nat.le_of_ble_eq_true rfl) ?_; refine Es_cons ?_; refine E_cf (by assumption) (AOk.le (by assumption) (by decide)) ?_; refine Es_cons ?_; refine E_nm ?_; refine LQ_there (by decide +kernel) ?_; refine LQ_here ?_; refine Es_cons ?_; refine E_int ?_; refine Es_nil ?_; refine ⟨_, rfl, ?_⟩; refine And.intro (by first | omega | with_unfolding_all exact Nat.le_of_ble_eq_true rfl) ?_; refine Es_cons ?_; refine E_nm ?_; refine LQ_here ?_; refine Es_nil ?_; refine ⟨_, _, _, rfl, ?_⟩; refine And.intro (by first | omega | with_unfolding_all exact Nat.le_of_ble_eq_true rfl) ?_)
  intro one ok1 hl1
  with_reducible (refine X_let ?_; refine E_cf (by assumption) (AOk.le (by assumption) (by decide)) ?_; refine Es_cons ?_; refine E_cf (by assumption) (AOk.le (by assumption) (by decide)) ?_; refine Es_cons ?_; refine E_nm ?_; refine LQ_there (by decide +kernel) ?_; refine LQ_there (by decide +kernel) ?_; refine LQ_here ?_; refine Es_cons ?_; refine E_int ?_; refine Es_nil ?_; refine ⟨_, rfl, ?_⟩; refine And.intro (by first | omega | with_unfolding_all exact Nat.le_of_ble_eq_true rfl) ?_; refine Es_cons ?_; refine E_cf (by assumption) (AOk.le (by assumption) (by decide)) ?_; refine Es_cons ?_; refine E_nm ?_; refine LQ_there (by decide +kernel) ?_; refine LQ_there (by decide +kernel) ?_; refine LQ_here ?_; refine Es_cons ?_; refine E_int ?_; refine Es_nil ?_; refine ⟨_, rfl, ?_⟩; refine And.intro (by first | omega | with_unfolding_all exact Nat.le_of_ble_eq_true rfl) ?_; refine Es_cons ?_; refine E_bin ?_; refine E_cf (by assumption) (AOk.le (by assumption) (by decide)) ?_; refine Es_cons ?_; refine E_nm ?_; refine LQ_there (by decide +kernel) ?_; refine LQ_there (by decide +kernel) ?_; refine LQ_here ?_; refine Es_cons ?_; refine E_int ?_; refine Es_nil ?_; refine ⟨_, rfl, ?_⟩; refine And.intro (by first | omega | with_unfolding_all exact Nat.le_of_ble_eq_true rfl) ?_; refine E_int ?_; refine O_mod ?_ (by omega); refine Es_nil ?_; refine ⟨_, _, _, rfl, ?_⟩; refine And.intro (by first | omega | with_unfolding_all exact Nat.le_of_ble_eq_true rfl) ?_)
  intro other ok2 hl2
  with_reducible (refine X_let ?_; refine E_cf (by assumption) (AOk.le (by assumption) (by decide)) ?_; refine Es_cons ?_; refine E_nm ?_; refine LQ_there (by decide +kernel) ?_; refine LQ_here ?_; refine Es_cons ?_; refine E_cf (by assumption) (AOk.le (by assumption) (by decide)) ?_; refine Es_cons ?_; refine E_nm ?_; refine LQ_there (by decide +kernel) ?_; refine LQ_there (by decide +kernel) ?_; refine LQ_there (by decide +kernel) ?_; refine LQ_here ?_; refine Es_cons ?_; refine E_int ?_; refine Es_nil ?_; refine ⟨_, rfl, ?_⟩; refine And.intro (by first | omega | with_unfolding_all exact Nat.le_of_ble_eq_true rfl) ?_; refine Es_nil ?_)
  refine ⟨_, _, _, _, up_at at_end, ok1, by omega, rfl, fun more ok3 hl3 => ?_⟩
  skip
  generalize hτ : σ ++ [AObj.dict (pgE one) none] = τ
  have hm : ∀ g : Pg, (τ ++ [AObj.dict (pgE g) none] ++ [AObj.dict (pgE more) none])[(τ ++ [AObj.dict (pgE other) none]).length]? = some (.dict (pgE more) none) := fun g => at_end'
  refine X_ford (ι := Pg) (fun i g => PgOk g ∧ g.length ≤ other.length + i) (fun _ _ => [("_law_near", .ref (τ ++ [AObj.dict (pgE other) none]).length), ("_law_other", .ref τ.length), ("_law_one", .ref σ.length), ("_law_script", .raw (.ref scr))]) (fun _ g => τ ++ [AObj.dict (pgE g) none] ++ [AObj.dict (pgE more) none]) other hA.handled (hm _) (fun ep => ?_) ⟨ok2, by omega⟩ rfl (by with_reducible (refine Sub.cons ?_; refine LQ_here ?_; refine ⟨rfl, ?_⟩; refine Sub.cons ?_; refine LQ_there (by decide +kernel) ?_; refine LQ_here ?_; refine ⟨rfl, ?_⟩; refine Sub.cons ?_; refine LQ_there (by decide +kernel) ?_; refine LQ_there (by decide +kernel) ?_; refine LQ_here ?_; refine ⟨rfl, ?_⟩; refine Sub.cons ?_; refine LQ_there (by decide +kernel) ?_; refine LQ_there (by decide +kernel) ?_; refine LQ_there (by decide +kernel) ?_; refine LQ_there (by decide +kernel) ?_; refine LQ_here ?_; refine ⟨rfl, ?_⟩; exact Sub.nil)) (fun _ _ _ => hm _) ?_ ?_
  · with_reducible (refine E_nm ?_; refine LQ_here ?_; refine ⟨rfl, ?_⟩)
    first | exact ⟨rfl, rfl⟩ | rfl
  · rintro ep i g hi ⟨hok, hg⟩
    rw [pgE_length] at hi
    rw [keyAt_pg hi]
    have hat := at_pg_get ok3.1 hi
    have hr := ok3.2 _ (List.getElem_mem hi)
    generalize more[i] = x at *
    obtain ⟨nm, v⟩ := x
    dsimp only at *
    with_reducible (refine X_set ?_; refine E_sub ?_; refine E_nm ?_; refine LQ_there (by decide +kernel) ?_; refine LQ_here ?_; refine E_nm ?_; refine LQ_here ?_)
    refine S_dict (key := .s _) (pin_at (hm _)) hat ?_
    with_reducible (refine E_nm ?_; refine LQ_there (by decide +kernel) ?_; refine LQ_there (by decide +kernel) ?_; refine LQ_here ?_; refine E_nm ?_; refine LQ_here ?_)
    refine P_dict (key := .s nm) (es := pgE g) (by rw [pin_ne (by simp)]; exact at_prev) (small_size (by rw [pgE_length]; omega)) ?_
    have es : (pin (τ ++ [AObj.dict (pgE g) none] ++ [AObj.dict (pgE more) none]) (τ ++ [AObj.dict (pgE other) none]).length (pgE more) ep).set τ.length (.dict (put (pgE g) (.s nm) (shV v)) none) = pin (τ ++ [AObj.dict (pgE (pput g nm v)) none] ++ [AObj.dict (pgE more) none]) (τ ++ [AObj.dict (pgE other) none]).length (pgE more) ep := by
      rw [put_pg]
      unfold pin
      rw [List.set_comm _ _ (by simp), set_prev]
    rw [es]
    with_reducible (refine X_nil ?_)
    refine TD_next (pput g nm v) ⟨pput_ok hok hr, ?_⟩ rfl (by with_reducible (refine Sub.cons ?_; refine LQ_there (by decide +kernel) ?_; refine LQ_here ?_; refine ⟨rfl, ?_⟩; refine Sub.cons ?_; refine LQ_there (by decide +kernel) ?_; refine LQ_there (by decide +kernel) ?_; refine LQ_here ?_; refine ⟨rfl, ?_⟩; refine Sub.cons ?_; refine LQ_there (by decide +kernel) ?_; refine LQ_there (by decide +kernel) ?_; refine LQ_there (by decide +kernel) ?_; refine LQ_here ?_; refine ⟨rfl, ?_⟩; refine Sub.cons ?_; refine LQ_there (by decide +kernel) ?_; refine LQ_there (by decide +kernel) ?_; refine LQ_there (by decide +kernel) ?_; refine LQ_there (by decide +kernel) ?_; refine LQ_here ?_; refine ⟨rfl, ?_⟩; exact Sub.nil))
    have := pput_len g nm v
    omega
  rintro g ⟨hok, hg⟩
  rw [pgE_length] at hg
  have l1 : one.length ≤ 95 := by omega
  have l2 : g.length ≤ 200 := by omega
  clear hm hl3 ok2 hl2 hg
  generalize (τ ++ [AObj.dict (pgE other) none]).length = i3
  clear other
  have ok2 := hok
  clear hok
  have h1 : (τ ++ [AObj.dict (pgE g) none] ++ [AObj.dict (pgE more) none])[σ.length]? = some (.dict (pgE one) none) := by rw [← hτ]; exact up_at (up_at at_end)
  have h2 : (τ ++ [AObj.dict (pgE g) none] ++ [AObj.dict (pgE more) none])[τ.length]? = some (.dict (pgE g) none) := at_prev
  generalize τ ++ [AObj.dict (pgE g) none] ++ [AObj.dict (pgE more) none] = τ' at h1 h2 ⊢
  generalize τ.length = i2 at h2 ⊢
  generalize σ.length = i1 at h1 ⊢
  clear hτ τ ok3 more
  generalize g = other at *
  have ll : one.length + other.length ≤ 500 := by omega
  obtain ⟨dok, dl, s12, s21⟩ := due_facts ok1 ok2 ll
  with_reducible (refine X_let ?_; refine E_cf (by assumption) (AOk.le (by assumption) (by decide)) ?_; refine Es_cons ?_; refine E_nm ?_; refine LQ_there (by decide +kernel) ?_; refine LQ_there (by decide +kernel) ?_; refine LQ_here ?_; refine Es_cons ?_; refine E_nm ?_; refine LQ_there (by decide +kernel) ?_; refine LQ_here ?_; refine Es_nil ?_)
  refine ⟨_, _, _, _, _, _, h1, h2, by omega, rfl, ?_⟩
  with_reducible (refine X_let ?_; refine E_list ?_; refine Es_cons ?_; refine E_bi (Blt.dict_ (by assumption)) (by first | exact Keep.builtin _ | exact Keep.type _) ?_; refine Es_cons ?_; refine E_nm ?_; refine LQ_there (by decide +kernel) ?_; refine LQ_there (by decide +kernel) ?_; refine LQ_there (by decide +kernel) ?_; refine LQ_here ?_; refine Es_nil ?_)
  refine C_dict_copy (up_at h1) (small_size (by rw [pgE_length]; omega)) ?_
  with_reducible (refine Es_cons ?_; refine E_bi (Blt.dict_ (by assumption)) (by first | exact Keep.builtin _ | exact Keep.type _) ?_; refine Es_cons ?_; refine E_nm ?_; refine LQ_there (by decide +kernel) ?_; refine LQ_there (by decide +kernel) ?_; refine LQ_here ?_; refine Es_nil ?_)
  refine C_dict_copy (up_at (up_at h2)) (small_size (by rw [pgE_length]; omega)) ?_
  with_reducible (refine Es_nil ?_; refine And.intro (by first | omega | with_unfolding_all exact Nat.le_of_ble_eq_true rfl) ?_)
  have hd := up_at (more := [AObj.dict (pgE one) none]) (at_end (σ := τ') (ob := AObj.dict (pgE (dueJ one other)) none))
  replace h1 := up_at (more := [AObj.dict (pgE one) none]) (up_at (more := [AObj.dict (pgE (dueJ one other)) none]) h1)
  replace h2 := up_at (more := [AObj.dict (pgE one) none]) (up_at (more := [AObj.dict (pgE (dueJ one other)) none]) h2)
  have g1 := at_end (σ := τ' ++ [AObj.dict (pgE (dueJ one other)) none]) (ob := AObj.dict (pgE one) none)
  generalize τ' ++ [AObj.dict (pgE (dueJ one other)) none] ++ [AObj.dict (pgE one) none] = τ at h1 h2 hd g1 ⊢
  generalize (τ' ++ [AObj.dict (pgE (dueJ one other)) none]).length = j1 at g1 ⊢
  generalize τ'.length = jd at hd ⊢
  clear τ'
  have gl := at_end (σ := τ ++ [AObj.dict (pgE other) none]) (ob := AObj.list [V.ref j1, V.ref τ.length])
  have g2 := up_at (more := [AObj.list [V.ref j1, V.ref τ.length]]) (at_end (σ := τ) (ob := AObj.dict (pgE other) none))
  have hp : ∀ (k : Nat) (x : AObj), τ[k]? = some x → (τ ++ [AObj.dict (pgE other) none] ++ [AObj.list [V.ref j1, V.ref τ.length]])[k]? = some x := fun k x h => up_at (up_at h)
  generalize τ ++ [AObj.dict (pgE other) none] ++ [AObj.list [V.ref j1, V.ref τ.length]] = υ at hp g2 gl ⊢
  generalize (τ ++ [AObj.dict (pgE other) none]).length = jl at gl ⊢
  generalize τ.length = j2 at g2 gl ⊢
  replace h1 := hp _ _ h1; replace h2 := hp _ _ h2; replace hd := hp _ _ hd; replace g1 := hp _ _ g1
  clear hp τ
  refine X_ifs ?_
  with_reducible (refine T_bool ?_; refine Ts_or ?_; refine T_not ?_; refine T_value ?_; refine E_cf (by assumption) (AOk.le (by assumption) (by decide)) ?_; refine Es_cons ?_; refine E_cf (by assumption) (AOk.le (by assumption) (by decide)) ?_; refine Es_cons ?_; refine E_sub ?_; refine E_nm ?_; refine LQ_here ?_; refine E_int ?_)
  refine S_l0 gl ?_
  with_reducible (refine Es_cons ?_; refine E_sub ?_; refine E_nm ?_; refine LQ_here ?_; refine E_int ?_)
  refine S_l1 gl ?_
  with_reducible (refine Es_nil ?_)
  refine ⟨_, _, _, _, _, _, g1, g2, by omega, rfl, ?_⟩
  with_reducible (refine Es_cons ?_; refine E_nm ?_; refine LQ_there (by decide +kernel) ?_; refine LQ_here ?_; refine Es_nil ?_)
  refine ⟨_, _, _, _, _, _, at_end, up_at hd, s12, rfl, ?_⟩
  with_reducible (refine T_b ?_; refine iteNo (by decide) ?_; refine Ts_or ?_; refine T_not ?_; refine T_value ?_; refine E_cf (by assumption) (AOk.le (by assumption) (by decide)) ?_; refine Es_cons ?_; refine E_cf (by assumption) (AOk.le (by assumption) (by decide)) ?_; refine Es_cons ?_; refine E_sub ?_; refine E_nm ?_; refine LQ_here ?_; refine E_int ?_)
  refine S_l1 (up_at gl) ?_
  with_reducible (refine Es_cons ?_; refine E_sub ?_; refine E_nm ?_; refine LQ_here ?_; refine E_int ?_)
  refine S_l0 (up_at gl) ?_
  with_reducible (refine Es_nil ?_)
  refine ⟨_, _, _, _, _, _, up_at g2, up_at g1, by omega, rfl, ?_⟩
  with_reducible (refine Es_cons ?_; refine E_nm ?_; refine LQ_there (by decide +kernel) ?_; refine LQ_here ?_; refine Es_nil ?_)
  refine ⟨_, _, _, _, _, _, at_end, up_at (up_at hd), s21, rfl, ?_⟩
  with_reducible (refine T_b ?_; refine iteNo (by decide) ?_; refine Ts_or_nil ?_; refine iteF ?_; refine X_nil ?_; refine sq_next ?_)
  have hp : ∀ (k : Nat) (x : AObj), υ[k]? = some x → (υ ++ [AObj.dict (pgE (joins one other)) none] ++ [AObj.dict (pgE (joins other one)) none])[k]? = some x := fun k x h => up_at (up_at h)
  generalize υ ++ [AObj.dict (pgE (joins one other)) none] ++ [AObj.dict (pgE (joins other one)) none] = τ at hp ⊢
  replace h1 := hp _ _ h1; replace h2 := hp _ _ h2; replace g1 := hp _ _ g1; replace g2 := hp _ _ g2; replace gl := hp _ _ gl; replace hd := hp _ _ hd; clear hp
  clear υ
  refine X_fors ?_
  with_reducible (refine E_tuple ?_; refine Es_cons ?_; refine E_tuple ?_; refine Es_cons ?_; refine E_sub ?_; refine E_nm ?_; refine LQ_here ?_; refine E_int ?_)
  refine S_l0 gl ?_
  with_reducible (refine Es_cons ?_; refine E_dict0 ?_; refine Es_nil ?_; refine And.intro (by first | omega | with_unfolding_all exact Nat.le_of_ble_eq_true rfl) ?_; refine Es_cons ?_; refine E_tuple ?_; refine Es_cons ?_; refine E_dict0 ?_; refine Es_cons ?_; refine E_sub ?_; refine E_nm ?_; refine LQ_here ?_; refine E_int ?_)
  refine S_l0 (up_at (up_at gl)) ?_
  with_reducible (refine Es_nil ?_; refine And.intro (by first | omega | with_unfolding_all exact Nat.le_of_ble_eq_true rfl) ?_; refine Es_cons ?_; refine E_tuple ?_; refine Es_cons ?_; refine E_sub ?_; refine E_nm ?_; refine LQ_here ?_; refine E_int ?_)
  refine S_l0 (up_at (up_at gl)) ?_
  with_reducible (refine Es_cons ?_; refine E_sub ?_; refine E_nm ?_; refine LQ_here ?_; refine E_int ?_)
  refine S_l0 (up_at (up_at gl)) ?_
  with_reducible (refine Es_nil ?_; refine And.intro (by first | omega | with_unfolding_all exact Nat.le_of_ble_eq_true rfl) ?_; refine Es_cons ?_; refine E_tuple ?_; refine Es_cons ?_; refine E_sub ?_; refine E_nm ?_; refine LQ_here ?_; refine E_int ?_)
  refine S_l0 (up_at (up_at gl)) ?_
  with_reducible (refine Es_cons ?_; refine E_sub ?_; refine E_nm ?_; refine LQ_here ?_; refine E_int ?_)
  refine S_l1 (up_at (up_at gl)) ?_
  with_reducible (refine Es_nil ?_; refine And.intro (by first | omega | with_unfolding_all exact Nat.le_of_ble_eq_true rfl) ?_; refine Es_cons ?_; refine E_tuple ?_; refine Es_cons ?_; refine E_dict0 ?_; refine Es_cons ?_; refine E_dict0 ?_; refine Es_nil ?_; refine And.intro (by first | omega | with_unfolding_all exact Nat.le_of_ble_eq_true rfl) ?_; refine Es_nil ?_; refine And.intro (by first | omega | with_unfolding_all exact Nat.le_of_ble_eq_true rfl) ?_)
  have e0 : (τ ++ [AObj.dict [] none] ++ [AObj.dict [] none] ++ [AObj.dict [] none] ++ [AObj.dict [] none])[τ.length]? = some (.dict (pgE []) none) := up_at (up_at at_prev)
  have e1 : (τ ++ [AObj.dict [] none] ++ [AObj.dict [] none] ++ [AObj.dict [] none] ++ [AObj.dict [] none])[(τ ++ [AObj.dict [] none]).length]? = some (.dict (pgE []) none) := up_at at_prev
  have e2 : (τ ++ [AObj.dict [] none] ++ [AObj.dict [] none] ++ [AObj.dict [] none] ++ [AObj.dict [] none])[(τ ++ [AObj.dict [] none] ++ [AObj.dict [] none]).length]? = some (.dict (pgE []) none) := at_prev
  have e3 : (τ ++ [AObj.dict [] none] ++ [AObj.dict [] none] ++ [AObj.dict [] none] ++ [AObj.dict [] none])[(τ ++ [AObj.dict [] none] ++ [AObj.dict [] none] ++ [AObj.dict [] none]).length]? = some (.dict (pgE []) none) := at_end
  have hp : ∀ (k : Nat) (x : AObj), τ[k]? = some x → (τ ++ [AObj.dict [] none] ++ [AObj.dict [] none] ++ [AObj.dict [] none] ++ [AObj.dict [] none])[k]? = some x := fun k x h => up_at (up_at (up_at (up_at h)))
  generalize τ ++ [AObj.dict [] none] ++ [AObj.dict [] none] ++ [AObj.dict [] none] ++ [AObj.dict [] none] = W at hp e0 e1 e2 e3 ⊢
  generalize (τ ++ [AObj.dict [] none] ++ [AObj.dict [] none] ++ [AObj.dict [] none]).length = n3 at e3 ⊢
  generalize (τ ++ [AObj.dict [] none] ++ [AObj.dict [] none]).length = n2 at e2 ⊢
  generalize (τ ++ [AObj.dict [] none]).length = n1 at e1 ⊢
  generalize τ.length = n0 at e0 ⊢
  replace h1 := hp _ _ h1; replace h2 := hp _ _ h2; replace g1 := hp _ _ g1; replace g2 := hp _ _ g2; replace gl := hp _ _ gl; replace hd := hp _ _ hd; clear hp
  clear τ
  have prs : ∀ i, i < 5 → ∃ a b p r, [V.tup [V.ref j1, V.ref n0], V.tup [V.ref n1, V.ref j1], V.tup [V.ref j1, V.ref j1], V.tup [V.ref j1, V.ref j2], V.tup [V.ref n2, V.ref n3]].getD i .none = .tup [.ref a, .ref b] ∧ W[a]? = some (.dict (pgE p) none) ∧ W[b]? = some (.dict (pgE r) none) ∧ p.length + r.length ≤ 1000 := by
    intro i hi
    rcases i with _ | _ | _ | _ | _ | i
    · exact ⟨_, _, _, _, rfl, g1, e0, by simp only [List.length_nil]; omega⟩
    · exact ⟨_, _, _, _, rfl, e1, g1, by simp only [List.length_nil]; omega⟩
    · exact ⟨_, _, _, _, rfl, g1, g1, by omega⟩
    · exact ⟨_, _, _, _, rfl, g1, g2, by omega⟩
    · exact ⟨_, _, _, _, rfl, e2, e3, by simp only [List.length_nil]; omega⟩
    · omega
  have pl : [V.tup [V.ref j1, V.ref n0], V.tup [V.ref n1, V.ref j1], V.tup [V.ref j1, V.ref j1], V.tup [V.ref j1, V.ref j2], V.tup [V.ref n2, V.ref n3]].length = 5 := rfl
  generalize [V.tup [V.ref j1, V.ref n0], V.tup [V.ref n1, V.ref j1], V.tup [V.ref j1, V.ref j1], V.tup [V.ref j1, V.ref j2], V.tup [V.ref n2, V.ref n3]] = pairs at prs pl ⊢
  refine ForG.mk (ι := List AObj) (fun i g => ∀ (k : Nat) (x : AObj), W[k]? = some x → g[k]? = some x) (fun _ _ => [("_law_handed", .ref jl), ("_law_due", .ref jd), ("_law_other", .ref i2), ("_law_one", .ref i1), ("_law_script", .raw (.ref scr))]) (fun _ g => g) (It_tup hA.handled) W (fun _ _ h => h) rfl trivial (by with_reducible (refine Sub.cons ?_; refine LQ_here ?_; refine ⟨rfl, ?_⟩; refine Sub.cons ?_; refine LQ_there (by decide +kernel) ?_; refine LQ_here ?_; refine ⟨rfl, ?_⟩; refine Sub.cons ?_; refine LQ_there (by decide +kernel) ?_; refine LQ_there (by decide +kernel) ?_; refine LQ_there (by decide +kernel) ?_; refine LQ_here ?_; refine ⟨rfl, ?_⟩; refine Sub.cons ?_; refine LQ_there (by decide +kernel) ?_; refine LQ_there (by decide +kernel) ?_; refine LQ_there (by decide +kernel) ?_; refine LQ_there (by decide +kernel) ?_; refine LQ_here ?_; refine ⟨rfl, ?_⟩; refine Sub.cons ?_; refine LQ_there (by decide +kernel) ?_; refine LQ_there (by decide +kernel) ?_; refine LQ_there (by decide +kernel) ?_; refine LQ_there (by decide +kernel) ?_; refine LQ_there (by decide +kernel) ?_; refine LQ_here ?_; refine ⟨rfl, ?_⟩; exact Sub.nil)) ?_ ?_
  · rintro i g hi hp -
    obtain ⟨a, b, p, r, ei, ha, hb, hl⟩ := prs i (by omega)
    rw [ei]
    with_reducible (refine X_let ?_; refine E_cf (by assumption) (AOk.le (by assumption) (by decide)) ?_; refine Es_cons ?_; refine E_sub ?_; refine E_nm ?_; refine LQ_here ?_; refine E_int ?_; refine S_t0 ?_; refine Es_cons ?_; refine E_sub ?_; refine E_nm ?_; refine LQ_here ?_; refine E_int ?_; refine S_t1 ?_; refine Es_nil ?_)
    refine ⟨_, _, _, _, _, _, hp _ _ ha, hp _ _ hb, hl, rfl, ?_⟩
    have hjl := joins_len p r
    with_reducible (refine X_set ?_; refine E_tuple ?_; refine Es_cons ?_; refine E_int ?_; refine Es_cons ?_; refine E_int ?_; refine Es_nil ?_; refine And.intro (by first | omega | with_unfolding_all exact Nat.le_of_ble_eq_true rfl) ?_; refine E_nm ?_; refine LQ_here ?_; refine E_str ?_)
    refine P_dict (key := .s _) at_end (small_size (by rw [pgE_length]; omega)) ?_
    with_reducible (refine X_nil ?_)
    exact TJ_next _ (fun k x h => put_zz (hp k x h)) rfl trivial (by with_reducible (refine Sub.cons ?_; refine LQ_there (by decide +kernel) ?_; refine LQ_there (by decide +kernel) ?_; refine LQ_here ?_; refine ⟨rfl, ?_⟩; refine Sub.cons ?_; refine LQ_there (by decide +kernel) ?_; refine LQ_there (by decide +kernel) ?_; refine LQ_there (by decide +kernel) ?_; refine LQ_here ?_; refine ⟨rfl, ?_⟩; refine Sub.cons ?_; refine LQ_there (by decide +kernel) ?_; refine LQ_there (by decide +kernel) ?_; refine LQ_there (by decide +kernel) ?_; refine LQ_there (by decide +kernel) ?_; refine LQ_here ?_; refine ⟨rfl, ?_⟩; refine Sub.cons ?_; refine LQ_there (by decide +kernel) ?_; refine LQ_there (by decide +kernel) ?_; refine LQ_there (by decide +kernel) ?_; refine LQ_there (by decide +kernel) ?_; refine LQ_there (by decide +kernel) ?_; refine LQ_here ?_; refine ⟨rfl, ?_⟩; refine Sub.cons ?_; refine LQ_there (by decide +kernel) ?_; refine LQ_there (by decide +kernel) ?_; refine LQ_there (by decide +kernel) ?_; refine LQ_there (by decide +kernel) ?_; refine LQ_there (by decide +kernel) ?_; refine LQ_there (by decide +kernel) ?_; refine LQ_here ?_; refine ⟨rfl, ?_⟩; exact Sub.nil))
  rintro g hp -
  replace h1 := hp _ _ h1; replace h2 := hp _ _ h2; replace g1 := hp _ _ g1; replace g2 := hp _ _ g2; replace gl := hp _ _ gl; replace hd := hp _ _ hd; clear hp prs e0 e1 e2 e3
  clear W
  refine X_ifs ?_
  with_reducible (refine T_bool ?_; refine Ts_or ?_; refine T_cmp1 ?_; refine E_bi (Blt.list_ (by assumption)) (by first | exact Keep.builtin _ | exact Keep.type _) ?_; refine Es_cons ?_; refine E_sub ?_; refine E_nm ?_; refine LQ_here ?_; refine E_int ?_)
  refine S_l0 gl ?_
  with_reducible (refine Es_nil ?_)
  refine C_list_dict hA.handled g1 (small_size (by rw [pgE_length]; omega)) ?_
  with_reducible (refine E_bi (Blt.list_ (by assumption)) (by first | exact Keep.builtin _ | exact Keep.type _) ?_; refine Es_cons ?_; refine E_nm ?_; refine LQ_there (by decide +kernel) ?_; refine LQ_there (by decide +kernel) ?_; refine LQ_there (by decide +kernel) ?_; refine LQ_here ?_; refine Es_nil ?_)
  refine C_list_dict hA.handled (up_at h1) (small_size (by rw [pgE_length]; omega)) ?_
  rw [keys_v]
  skip
  refine O_ne_strs at_prev at_end (names_strOk ok1) (small_size (by rw [names_len]; omega)) (by have := hA.units; show _ < 9900; omega) ?_
  with_reducible (refine T_b ?_; refine iteF ?_; refine Ts_or ?_; refine T_cmp1 ?_; refine E_bi (Blt.list_ (by assumption)) (by first | exact Keep.builtin _ | exact Keep.type _) ?_; refine Es_cons ?_; refine E_sub ?_; refine E_nm ?_; refine LQ_here ?_; refine E_int ?_)
  refine S_l1 (up_at (up_at gl)) ?_
  with_reducible (refine Es_nil ?_)
  refine C_list_dict hA.handled (up_at (up_at g2)) (small_size (by rw [pgE_length]; omega)) ?_
  with_reducible (refine E_bi (Blt.list_ (by assumption)) (by first | exact Keep.builtin _ | exact Keep.type _) ?_; refine Es_cons ?_; refine E_nm ?_; refine LQ_there (by decide +kernel) ?_; refine LQ_there (by decide +kernel) ?_; refine LQ_here ?_; refine Es_nil ?_)
  refine C_list_dict hA.handled (up_at (up_at (up_at h2))) (small_size (by rw [pgE_length]; omega)) ?_
  rw [keys_v]
  skip
  refine O_ne_strs at_prev at_end (names_strOk ok2) (small_size (by rw [names_len]; omega)) (by have := hA.units; show _ < 9900; omega) ?_
  with_reducible (refine T_b ?_; refine iteF ?_; refine Ts_or ?_; refine T_cmp1 ?_; refine E_sub ?_; refine E_nm ?_; refine LQ_here ?_; refine E_int ?_)
  have hp : ∀ (k : Nat) (x : AObj), g[k]? = some x → (g ++ [AObj.list ((names one).map V.str)] ++ [AObj.list ((names one).map V.str)] ++ [AObj.list ((names other).map V.str)] ++ [AObj.list ((names other).map V.str)])[k]? = some x := fun k x h => up_at (up_at (up_at (up_at h)))
  generalize g ++ [AObj.list ((names one).map V.str)] ++ [AObj.list ((names one).map V.str)] ++ [AObj.list ((names other).map V.str)] ++ [AObj.list ((names other).map V.str)] = τ at hp ⊢
  replace h1 := hp _ _ h1; replace h2 := hp _ _ h2; replace g1 := hp _ _ g1; replace g2 := hp _ _ g2; replace gl := hp _ _ gl; replace hd := hp _ _ hd; clear hp g
  refine S_l0 gl ?_
  with_reducible (refine E_nm ?_; refine LQ_there (by decide +kernel) ?_; refine LQ_there (by decide +kernel) ?_; refine LQ_there (by decide +kernel) ?_; refine LQ_here ?_)
  refine O_ne_dict (veq := fun _ _ => true) g1 h1 (pg_same _ ok1.1).1 (by have := hA.units; show _ < 9900; omega) ?_
  rw [(pg_same τ ok1.1).2]
  with_reducible (refine T_b ?_; refine iteNo (by decide) ?_; refine Ts_or ?_; refine T_cmp1 ?_; refine E_sub ?_; refine E_nm ?_; refine LQ_here ?_; refine E_int ?_)
  refine S_l1 gl ?_
  with_reducible (refine E_nm ?_; refine LQ_there (by decide +kernel) ?_; refine LQ_there (by decide +kernel) ?_; refine LQ_here ?_)
  refine O_ne_dict (veq := fun _ _ => true) g2 h2 (pg_same _ ok2.1).1 (by have := hA.units; show _ < 9900; omega) ?_
  rw [(pg_same τ ok2.1).2]
  with_reducible (refine T_b ?_; refine iteNo (by decide) ?_; refine Ts_or_nil ?_; refine iteF ?_; refine X_nil ?_; refine sq_next ?_)
  refine X_ifs ?_
  with_reducible (refine T_bool ?_; refine Ts_or ?_; refine T_cmp1 ?_; refine E_cf (by assumption) (AOk.le (by assumption) (by decide)) ?_; refine Es_cons ?_; refine E_dict0 ?_; refine Es_cons ?_; refine E_dict0 ?_; refine Es_nil ?_)
  refine ⟨_, _, [], [], _, _, at_prev, at_end, by decide, rfl, ?_⟩
  with_reducible (refine E_dict0 ?_)
  refine O_ne_dict (veq := fun _ _ => true) (es := pgE (joins [] [])) (es' := []) at_prev at_end (veq_nil _ _ _) (by have := hA.units; show _ < 9900; omega) ?_
  rw [joins_nil, eq_nilB]
  with_reducible (refine T_b ?_; refine iteNo (by decide) ?_; refine Ts_or ?_; refine T_not ?_; refine T_value ?_; refine E_cf (by assumption) (AOk.le (by assumption) (by decide)) ?_; refine Es_cons ?_; refine E_cf (by assumption) (AOk.le (by assumption) (by decide)) ?_; refine Es_cons ?_; refine E_sub ?_; refine E_nm ?_; refine LQ_here ?_; refine E_int ?_)
  have hp : ∀ (k : Nat) (x : AObj), τ[k]? = some x → (τ ++ [AObj.dict [] none] ++ [AObj.dict [] none] ++ [AObj.dict (pgE []) none] ++ [AObj.dict [] none])[k]? = some x := fun k x h => up_at (up_at (up_at (up_at h)))
  generalize τ ++ [AObj.dict [] none] ++ [AObj.dict [] none] ++ [AObj.dict (pgE []) none] ++ [AObj.dict [] none] = υ at hp ⊢
  replace h1 := hp _ _ h1; replace h2 := hp _ _ h2; replace g1 := hp _ _ g1; replace g2 := hp _ _ g2; replace gl := hp _ _ gl; replace hd := hp _ _ hd; clear hp τ
  refine S_l0 gl ?_
  with_reducible (refine Es_cons ?_; refine E_sub ?_; refine E_nm ?_; refine LQ_here ?_; refine E_int ?_)
  refine S_l1 gl ?_
  with_reducible (refine Es_nil ?_)
  refine ⟨_, _, _, _, _, _, g1, g2, by omega, rfl, ?_⟩
  with_reducible (refine Es_cons ?_; refine E_nm ?_; refine LQ_there (by decide +kernel) ?_; refine LQ_here ?_; refine Es_nil ?_)
  refine ⟨_, _, _, _, _, _, at_end, up_at hd, s12, rfl, ?_⟩
  with_reducible (refine T_b ?_; refine iteNo (by decide) ?_; refine Ts_or_nil ?_; refine iteF ?_; refine X_nil ?_; refine sq_next ?_; refine X_let ?_; refine E_bi (Blt.dict_ (by assumption)) (by first | exact Keep.builtin _ | exact Keep.type _) ?_; refine Es_cons ?_; refine E_nm ?_; refine LQ_there (by decide +kernel) ?_; refine LQ_here ?_; refine Es_nil ?_)
  refine C_dict_copy (up_at hd) (small_size (by rw [pgE_length]; omega)) ?_
  have hq := at_end (σ := υ ++ [AObj.dict (pgE (joins one other)) none]) (ob := AObj.dict (pgE (dueJ one other)) none)
  replace hd := up_at (more := [AObj.dict (pgE (dueJ one other)) none]) (up_at (more := [AObj.dict (pgE (joins one other)) none]) hd)
  generalize υ ++ [AObj.dict (pgE (joins one other)) none] ++ [AObj.dict (pgE (dueJ one other)) none] = τ at hq hd ⊢
  generalize (υ ++ [AObj.dict (pgE (joins one other)) none]).length = jq at hq ⊢
  clear υ h1 h2 g1 g2 gl
  generalize dueJ one other = D at *
  clear s12 s21 ok1 ok2 ll l1 l2 hl1
  with_reducible (refine X_let ?_; refine E_cf (by assumption) (AOk.le (by assumption) (by decide)) ?_; refine Es_cons ?_; refine E_nm ?_; refine LQ_here ?_; refine Es_nil ?_)
  refine ⟨_, _, _, hq, dl, rfl, ?_⟩
  skip
  refine X_ifs ?_
  with_reducible (refine T_bool ?_; refine Ts_or ?_; refine T_not ?_; refine T_value ?_; refine E_cf (by assumption) (AOk.le (by assumption) (by decide)) ?_; refine Es_cons ?_; refine E_nm ?_; refine LQ_here ?_; refine Es_nil ?_; refine ⟨_, rfl, ?_⟩; refine T_b ?_; refine iteNo (by decide) ?_; refine Ts_or ?_; refine T_cmp1 ?_; refine E_nm ?_; refine LQ_here ?_; refine E_cf (by assumption) (AOk.le (by assumption) (by decide)) ?_; refine Es_cons ?_; refine E_nm ?_; refine LQ_there (by decide +kernel) ?_; refine LQ_there (by decide +kernel) ?_; refine LQ_there (by decide +kernel) ?_; refine LQ_here ?_; refine Es_nil ?_)
  refine ⟨_, _, _, hd, dl, rfl, ?_⟩
  with_reducible (refine O_ne ?_; refine T_b ?_)
  refine iteB (fun h => by simp at h) (fun _ => ?_)
  with_reducible (refine Ts_or ?_; refine T_cmp1 ?_; refine E_nm ?_; refine LQ_there (by decide +kernel) ?_; refine LQ_here ?_; refine E_nm ?_; refine LQ_there (by decide +kernel) ?_; refine LQ_there (by decide +kernel) ?_; refine LQ_there (by decide +kernel) ?_; refine LQ_here ?_)
  refine O_ne_dict (veq := fun _ _ => true) hq hd (pg_same _ dok.1).1 (by have := hA.units; show _ < 9900; omega) ?_
  rw [(pg_same τ dok.1).2]
  with_reducible (refine T_b ?_; refine iteNo (by decide) ?_; refine Ts_or_nil ?_; refine iteF ?_; refine X_nil ?_; refine sq_next ?_)
  refine X_ford (ι := Unit) (fun i _ => True) (fun _ _ => [("_law_page", .ref jq), ("_law_due", .ref jd), ("_law_script", .raw (.ref scr))]) (fun _ _ => τ) () hA.handled hd (fun ep => ?_) trivial rfl (by with_reducible (refine Sub.cons ?_; refine LQ_there (by decide +kernel) ?_; refine LQ_here ?_; refine ⟨rfl, ?_⟩; refine Sub.cons ?_; refine LQ_there (by decide +kernel) ?_; refine LQ_there (by decide +kernel) ?_; refine LQ_there (by decide +kernel) ?_; refine LQ_here ?_; refine ⟨rfl, ?_⟩; refine Sub.cons ?_; refine LQ_there (by decide +kernel) ?_; refine LQ_there (by decide +kernel) ?_; refine LQ_there (by decide +kernel) ?_; refine LQ_there (by decide +kernel) ?_; refine LQ_there (by decide +kernel) ?_; refine LQ_there (by decide +kernel) ?_; refine LQ_here ?_; refine ⟨rfl, ?_⟩; exact Sub.nil)) (fun _ _ _ => hd) ?_ ?_
  · with_reducible (refine E_nm ?_; refine LQ_there (by decide +kernel) ?_; refine LQ_there (by decide +kernel) ?_; refine LQ_there (by decide +kernel) ?_; refine LQ_here ?_; refine ⟨rfl, ?_⟩)
    first | exact ⟨rfl, rfl⟩ | rfl
  · rintro ep i ⟨⟩ hi -
    rw [pgE_length] at hi
    rw [keyAt_pg hi]
    have hat := at_pg_get dok.1 hi
    have hlk := look_get dok.1 (List.getElem_mem hi)
    generalize D[i] = x at *
    obtain ⟨nm, v⟩ := x
    dsimp only at *
    obtain ⟨e₁, hq'⟩ := pin_get (ep := ep) hq hd
    refine X_ifs ?_
    with_reducible (refine T_not ?_; refine T_value ?_; refine E_cf (by assumption) (AOk.le (by assumption) (by decide)) ?_; refine Es_cons ?_; refine E_cf (by assumption) (AOk.le (by assumption) (by decide)) ?_; refine Es_cons ?_; refine E_nm ?_; refine LQ_there (by decide +kernel) ?_; refine LQ_here ?_; refine Es_cons ?_; refine E_nm ?_; refine LQ_here ?_; refine Es_nil ?_)
    refine ⟨_, _, _, _, hq', rfl, ?_⟩
    with_reducible (refine Es_cons ?_; refine E_sub ?_; refine E_nm ?_; refine LQ_there (by decide +kernel) ?_; refine LQ_there (by decide +kernel) ?_; refine LQ_here ?_; refine E_nm ?_; refine LQ_here ?_)
    refine S_dict (key := .s _) (pin_at hd) hat ?_
    with_reducible (refine Es_nil ?_; refine ⟨_, _, _, _, rfl, ?_⟩; refine T_b ?_)
    refine iteDn (fun h => absurd ⟨by rw [hlk], by rw [hlk]⟩ h) (fun h => ?_)
    with_reducible (refine X_nil ?_; refine sq_next ?_; refine X_nil ?_)
    exact TD_next () trivial rfl (by with_reducible (refine Sub.cons ?_; refine LQ_there (by decide +kernel) ?_; refine LQ_here ?_; refine ⟨rfl, ?_⟩; refine Sub.cons ?_; refine LQ_there (by decide +kernel) ?_; refine LQ_there (by decide +kernel) ?_; refine LQ_here ?_; refine ⟨rfl, ?_⟩; refine Sub.cons ?_; refine LQ_there (by decide +kernel) ?_; refine LQ_there (by decide +kernel) ?_; refine LQ_there (by decide +kernel) ?_; refine LQ_here ?_; refine ⟨rfl, ?_⟩; exact Sub.nil))
  rintro ⟨⟩ -
  with_reducible (refine X_let ?_; refine E_cf (by assumption) (AOk.le (by assumption) (by decide)) ?_; refine Es_cons ?_; refine E_cf (by assumption) (AOk.le (by assumption) (by decide)) ?_; refine Es_cons ?_; refine E_nm ?_; refine LQ_there (by decide +kernel) ?_; refine LQ_there (by decide +kernel) ?_; refine LQ_here ?_; refine Es_cons ?_; refine E_int ?_; refine Es_nil ?_; refine ⟨_, rfl, ?_⟩; refine And.intro (by first | omega | with_unfolding_all exact Nat.le_of_ble_eq_true rfl) ?_; refine Es_nil ?_; refine ⟨_, rfl, ?_⟩)
  refine X_ifs ?_
  with_reducible (refine T_bool ?_; refine Ts_or ?_; refine T_not ?_; refine T_value ?_; refine E_cf (by assumption) (AOk.le (by assumption) (by decide)) ?_; refine Es_cons ?_; refine E_cf (by assumption) (AOk.le (by assumption) (by decide)) ?_; refine Es_cons ?_; refine E_nm ?_; refine LQ_there (by decide +kernel) ?_; refine LQ_here ?_; refine Es_cons ?_; refine E_nm ?_; refine LQ_here ?_; refine Es_nil ?_)
  refine ⟨_, _, _, _, hq, rfl, ?_⟩
  with_reducible (refine Es_cons ?_; refine E_mcall (name := Str.ofString "get") (id := "dict.get") ?_; refine E_nm ?_; refine LQ_there (by decide +kernel) ?_; refine LQ_there (by decide +kernel) ?_; refine LQ_here ?_)
  refine ⟨GM_dict hd F.slot_dict_get F.type_dict_get, ?_⟩
  with_reducible (refine Es_cons ?_; refine E_nm ?_; refine LQ_here ?_; refine Es_cons ?_; refine E_tuple ?_; refine Es_cons ?_; refine E_int ?_; refine Es_cons ?_; refine E_int ?_; refine Es_nil ?_; refine And.intro (by first | omega | with_unfolding_all exact Nat.le_of_ble_eq_true rfl) ?_; refine Es_nil ?_)
  refine C_get_s hd ?_
  rw [at_pgD]
  with_reducible (refine Es_nil ?_; refine ⟨_, _, _, _, rfl, ?_⟩; refine T_b ?_)
  refine iteDn (fun h => absurd ⟨rfl, rfl⟩ h) (fun h => ?_)
  with_reducible (refine Ts_or ?_; refine T_cmp1 ?_; refine E_cf (by assumption) (AOk.le (by assumption) (by decide)) ?_; refine Es_cons ?_; refine E_dict0 ?_; refine Es_nil ?_)
  refine ⟨_, [], _, at_end, by decide, rfl, ?_⟩
  with_reducible (refine E_int ?_; refine O_ne ?_; refine T_b ?_; refine iteNo (by decide) ?_; refine Ts_or_nil ?_; refine iteF ?_; refine X_nil ?_; refine sq_next ?_; refine X_ret ?_)
  refine E_boolop ?_
  with_reducible (refine Bo_and ?_; refine E_cmp1 ?_; refine E_bi (Blt.list_ (by assumption)) (by first | exact Keep.builtin _ | exact Keep.type _) ?_; refine Es_cons ?_; refine E_nm ?_; refine LQ_there (by decide +kernel) ?_; refine LQ_here ?_; refine Es_nil ?_)
  refine C_list_dict hA.handled (up_at hq) (small_size (by rw [pgE_length]; omega)) ?_
  with_reducible (refine E_bi (Blt.list_ (by assumption)) (by first | exact Keep.builtin _ | exact Keep.type _) ?_; refine Es_cons ?_; refine E_nm ?_; refine LQ_there (by decide +kernel) ?_; refine LQ_there (by decide +kernel) ?_; refine LQ_here ?_; refine Es_nil ?_)
  refine C_list_dict hA.handled (up_at (up_at hd)) (small_size (by rw [pgE_length]; omega)) ?_
  rw [keys_v]
  skip
  refine O_eq_strs at_prev at_end (names_strOk dok) (small_size (by rw [names_len]; omega)) (by have := hA.units; show _ < 9900; omega) ?_
  with_reducible (refine T_b ?_; refine iteT ?_; refine Bo_one ?_; refine E_cmp1 ?_; refine E_nm ?_; refine LQ_there (by decide +kernel) ?_; refine LQ_here ?_; refine E_nm ?_; refine LQ_there (by decide +kernel) ?_; refine LQ_there (by decide +kernel) ?_; refine LQ_here ?_)
  refine O_eq_dict (veq := fun _ _ => true) (up_at (up_at (up_at hq))) (up_at (up_at (up_at hd))) (pg_same _ dok.1).1 (by have := hA.units; show _ < 9900; omega) ?_
  rw [(pg_same τ dok.1).2]
  skip
  rfl

end
end Mine

open PySem PySem.W PyProof.Rows PySem.Challenge
open Mine
set_option maxRecDepth 100000 in
set_option maxHeartbeats 8000000 in
theorem PySem.Challenge.cw_uf050040_05_holds : PySem.Challenge.rw_uf050040_05.Holds := by
  w_on
  o_law
  o_head Hook.none
  (case hw => w_witness2)
  w_strict (
  intro w s₀ s₁ mg mb G Y fa o pm cd doc dV kV ho hd hcd hD hmg hg args vals as hpre hlay hrd hwl hlo
  refine Ground.open G ?_
  intro T B D TE TW
  try (refine guard_noD D (by decide +kernel) ?_; clear D)
  wrow_args hpre hlay hrd hwl hlo
  all_goals (first | refine enter_call ?_ | refine enter_callW ?_)
  clear hD hd hcd
  have bl : Blt s₁ mg mb := blt_of T (by decide +kernel)
  have gl : Gl s₁ mg mb := ⟨T.g, T.b, T.nolimit⟩
  rename_i hL _ _ _ hI _ hn _
  have S := Scr.mk ⟨_, hL, by simpa using hI⟩ (by omega)
  have f_greater := has_of T (dr Challenge.pw_uf050040_05 1) (i := 0) (by kernel_rfl)
  have f_net := has_of T (dr Challenge.pw_uf050040_05 2) (i := 1) (by kernel_rfl)
  have f_share_of := has_of T (dr Challenge.pw_uf050040_05 4) (i := 2) (by kernel_rfl)
  have f_joined := has_of T (dr Challenge.pw_uf050040_05 5) (i := 3) (by kernel_rfl)
  have f_total := has_of T (dr Challenge.pw_uf050040_05 6) (i := 4) (by kernel_rfl)
  have f_cell_at := has_of T (dr Challenge.pw_uf050040_05 8) (i := 5) (by kernel_rfl)
  have f_whole := has_of T (dr Challenge.pw_uf050040_05 9) (i := 6) (by kernel_rfl)
  have f_number_by := has_of T (dr Challenge.pw_uf050040_05 10) (i := 7) (by kernel_rfl)
  have f_share := has_of T (dr Challenge.pw_uf050040_05 11) (i := 8) (by kernel_rfl)
  have f_name_by := has_of T (dr Challenge.pw_uf050040_05 12) (i := 9) (by kernel_rfl)
  have f_mixed := has_of T (dr Challenge.pw_uf050040_05 13) (i := 10) (by kernel_rfl)
  have f_page_by := has_of T (dr Challenge.pw_uf050040_05 14) (i := 11) (by kernel_rfl)
  have f_near_by := has_of T (dr Challenge.pw_uf050040_05 15) (i := 12) (by kernel_rfl)
  have f_same := has_of T (dr Challenge.pw_uf050040_05 16) (i := 13) (by kernel_rfl)
  have f_l_joined := has_of T (dr Challenge.pw_uf050040_05 17) (i := 14) (by kernel_rfl)
  have f_l_total := has_of T (dr Challenge.pw_uf050040_05 18) (i := 15) (by kernel_rfl)
  have f_law := has_of T (dr Challenge.pw_uf050040_05 19) (i := 16) (by kernel_rfl)
  have c_greater := cf_greater (prog := rw_uf050040_05.row.prog) (w := w) gl bl S f_greater  
  have c_net := cf_net (prog := rw_uf050040_05.row.prog) (w := w) gl bl S f_net  
  have c_share_of := cf_share_of (prog := rw_uf050040_05.row.prog) (w := w) gl bl S f_share_of  
  have c_joined := cf_joined (prog := rw_uf050040_05.row.prog) (w := w) gl bl S f_joined  c_share_of c_greater
  have c_total := cf_total (prog := rw_uf050040_05.row.prog) (w := w) gl bl S f_total  c_net
  have c_cell_at := cf_cell_at (prog := rw_uf050040_05.row.prog) (w := w) gl bl S f_cell_at  
  have c_whole := cf_whole (prog := rw_uf050040_05.row.prog) (w := w) gl bl S f_whole  
  have c_number_by := cf_number_by (prog := rw_uf050040_05.row.prog) (w := w) gl bl S f_number_by  
  have c_share := cf_share (prog := rw_uf050040_05.row.prog) (w := w) gl bl S f_share  c_whole
  have c_name_by := cf_name_by (prog := rw_uf050040_05.row.prog) (w := w) gl bl S f_name_by  
  have c_mixed := cf_mixed (prog := rw_uf050040_05.row.prog) (w := w) gl bl S f_mixed  
  have c_page_by := cf_page_by (prog := rw_uf050040_05.row.prog) (w := w) gl bl S f_page_by  c_number_by c_mixed c_name_by
  have c_near_by := cf_near_by (prog := rw_uf050040_05.row.prog) (w := w) gl bl S f_near_by  c_mixed
  have c_same := cf_same (prog := rw_uf050040_05.row.prog) (w := w) gl bl S f_same  c_share
  have c_l_joined := cf_l_joined (prog := rw_uf050040_05.row.prog) (w := w) gl bl S f_l_joined  
  have c_l_total := cf_l_total (prog := rw_uf050040_05.row.prog) (w := w) gl bl S f_l_total  
  refine law_end T f_law hmg good_law hg (fun _ => rfl) (fun _ => .bool _) (by first | rfl | kernel_rfl) fun A pm code doc L a hA => ?_
  exact law_ok bl S  c_cell_at c_page_by c_near_by c_l_joined c_joined c_same c_l_total c_total c_share c_share_of c_name_by c_whole (hA.le (by decide)) pm code doc L a _ rfl)
