import PyProof.Rows.All
import Wide.All
import Wide.FinOn
import Open.Line
import OpenK.KWalk
import OpenK.KMake
import OpenK.KMore
import PyProof.SetRoads
import PyProof.DictKinds
import PyProof.Rows.SetFrom
import PyProof.CompFree
import PyProof.DictCalls
import PyProof.DictWalks
import PyProof.WalksMore
import PyProof.StrWalks
import PyProof.Rows.Many
import PyProof.Rows.Tup
import PyProof.Rows.EqMixed
import PyProof.Cells
import PyProof.Raises
import PyProof.Rules3
import PyProof.AssignAttr
import PyProof.Rows.TupSub
import PyProof.Rows.Chain
import PyProof.Rows.AttrNodeAny
import PyProof.LetGo
import PyProof.TupleIter
import PyProof.SliceSyntax
import PyProof.RaisesMany
import PyProof.ForAny
import PyProof.RangeFor
import PyProof.PureInt
import PyProof.NoPylong
import PyProof.Rows.RuleB_floordiv
import PyProof.Rows.RuleB_mod
import PyProof.Rows.RuleB_pow
import PyProof.Rows.RuleB_small
import PyProof.Rows.RuleC_bool
import PyProof.Rows.StrRules
import PyProof.FString5
import PyProof.IsRules
import PyProof.WalkInts
import PyProof.Rows.Nodes
import PyProof.Rows.Method
import PyProof.PureCalls
import PyProof.Rows.StrTemp
import PyProof.Rows.TupMore
import PyProof.IsiNone
import PyProof.IsInstanceH
import PyProof.StrLawsJoin
import PyProof.StrLawsIn
import PyProof.DictTable
import PyProof.DictCopy
import PyProof.CollectWalk
import PyProof.CollectIter
import PyProof.EqAt
import PyProof.ListNew
import PyProof.ListRange
import PyProof.Rows.SortShell
import KE.KDictOf
import PyProof.NeData
import PyProof.StrBlockH
import PyProof.Rows.SortShellK
import PyProof.Rows.SortStr
import PyProof.EnumMake
import PyProof.SumAny
import PyProof.ExcClass2
import PyProof.RulesAs
import PyProof.ExcBaseAll.ValueError
import PyProof.ExcAttrAll.ValueError
import PyProof.Conv_int_bool
import PyProof.Conv_int
import KE.IntTextText
import PyProof.FitsReplace
import PySem.Challenge.RW_uf050040_10
set_option Elab.async false
set_option autoImplicit false
set_option linter.unusedVariables false
set_option maxRecDepth 100000
namespace Mine
open PySem

/-! sets of texts -/
def unS : Value → Str
  | .str x _ => x
  | _ => ⟨#[]⟩
def byText (w : World) : Bool := w.params.followText "set-order"
/-- the elements and the table of a set of texts -/
structure SetIn (w : World) (es : Array (Int × Value)) (t : SetTable) (ss : List Str) : Prop where
  txts : ∀ e ∈ es.toList, ∃ x k, e = (hashStr w x, Value.str x k)
  perm : (es.toList.map fun e => unS e.2).Perm ss
  small : es.size < scanBound
  fits : t.fits es.size = true
  led : t.led = !byText w
  plain : es.size = 0 ∨ t.plain = false
def SetS (w : World) (h : Heap) (a : Addr) (ss : List Str) : Prop :=
  ∃ o es ep t, h.get? a = some o ∧ o.ExactSet ∧ o.data = .set es ep t ∧ SetIn w es t ss
theorem SetS.at {w : World} {h h' : Heap} {a : Addr} {ss : List Str} (x : SetS w h a ss) (e : ∀ o, h.get? a = some o → h'.get? a = some o) : SetS w h' a ss :=
  let ⟨o, es, ep, t, ho, r⟩ := x; ⟨o, es, ep, t, e _ ho, r⟩
def addS (l : List Str) (x : Str) : List Str := if x ∈ l then l else l ++ [x]

theorem laid_led {mask finger moves : Nat} {led plain : Bool} {hs : Array Int} {t' : SetTable} {order : Array Nat} (h : SetTable.laid mask finger moves led plain hs = some (t', order)) : t'.led = led ∧ t'.plain = plain := by
  unfold SetTable.laid at h
  cases ho : SetTable.layClean mask hs with
  | none => rw [ho] at h; cases h
  | some owner => rw [ho] at h; injection h with h; injection h with h1 h2; rw [← h1]; exact ⟨rfl, rfl⟩
theorem relayAll_led (t : SetTable) (es : Array (Int × Value)) (n : Nat) : (relayAll t es n).2.1.led = t.led ∧ (t.plain = false → (relayAll t es n).2.1.plain = false) := by
  unfold relayAll
  split
  · rename_i t' order he
    have := laid_led he
    dsimp only
    split
    · exact ⟨this.1, fun h => this.2.trans h⟩
    · exact ⟨rfl, fun _ => rfl⟩
  · exact ⟨rfl, fun _ => rfl⟩
theorem layNew_led (t : SetTable) (es : Array (Int × Value)) (h : Int) (x : Value) : (layNew t es h x).2.1.led = t.led := by
  unfold layNew
  split
  · unfold SetTable.put SetTable.orStandIn
    dsimp only
    (repeat' split) <;> rfl
  · rfl

section
variable {prog : Program} {w : World} {A : Around} {E : Value → Shared → Prop} {s : Shared}

theorem SetIn.elems {es : Array (Int × Value)} {t : SetTable} {ss : List Str} (h : SetIn w es t ss) : ElemsOf (strKind prog w) es.toList := fun e he => by
  obtain ⟨x, k, rfl⟩ := h.txts e he
  exact ⟨⟨x, by simp [strKind, Value.isStrOf], rfl⟩, rfl⟩
theorem putSet_at {h : Heap} {a : Addr} {o : Obj} {es : Array (Int × Value)} {ep : Nat} {t : SetTable} (ho : h.get? a = some o) (hd : o.data = .set es ep t) (es' : Array (Int × Value)) (t' : SetTable) :
    (h.update a (Obj.putSet es' t')).get? a = some { o with data := .set es' (ep + 1) t' } := by
  have := Heap.get?_update_self (Obj.putSet es' t') ho (by rw [putSet_of es' t' hd]; rfl)
  rw [putSet_of es' t' hd] at this; exact this

theorem addTailS {g : Bool → Sem Unit} (hg : ∀ (b : Bool) (s₁ : Shared) (Q' : Unit → Shared → Prop), Q' () s₁ → wpAny (model prog w) A (g b) Q' E s₁)
    {a : Addr} {o : Obj} {es : Array (Int × Value)} {ep : Nat} {t : SetTable} (ho : s.heap.get? a = some o) (hex : o.ExactSet) (hd : o.data = .set es ep t)
    {es1 : Array (Int × Value)} {t2 : SetTable} {ss : List Str} (h1 : SetIn w es1 t2 ss) (hp2 : t2.plain = false) {wasDummy : Bool} {R : Option Bool → Shared → Prop}
    (h : ∀ h', Heap.SameBut a s.heap h' → SetS w h' a ss → R (some true) { s with heap := h' }) :
    wpAny (model prog w) A (do
        storeSet a es1 t2
        if (!wasDummy && t2.tooFull) = true then do
            g (relayAll t2 es1 (SetTable.grown es1.size)).2.2
            storeSet a (relayAll t2 es1 (SetTable.grown es1.size)).1 (relayAll t2 es1 (SetTable.grown es1.size)).2.1
            pure (some true)
          else pure (some true)) R E s := by
  refine wpAny_bind (wpAny_storeSet_of ho hd ?_ (fits_of_scanBound h1.small))
  have ho1 := putSet_at ho hd es1 t2
  have hsb1 := Heap.SameBut.update s.heap a (Obj.putSet es1 t2)
  split
  · have hp := relayAll_perm t2 es1 (SetTable.grown es1.size)
    have hfr := relayAll_fits t2 es1 (SetTable.grown es1.size)
    have hl := relayAll_led t2 es1 (SetTable.grown es1.size)
    generalize relayAll t2 es1 (SetTable.grown es1.size) = Rl at hp hfr hl ⊢
    obtain ⟨es2, t3, gave2⟩ := Rl
    dsimp only at hp hfr hl ⊢
    have hsz : es2.size = es1.size := by rw [← Array.length_toList, hp.length_eq, Array.length_toList]
    have h2 : SetIn w es2 t3 ss := ⟨fun e he => h1.txts e (hp.mem_iff.mp he), (hp.map _).trans h1.perm, by rw [hsz]; exact h1.small, hfr, hl.1.trans h1.led, .inr (hl.2 hp2)⟩
    refine wpAny_bind (hg _ _ _ (wpAny_bind (wpAny_storeSet_of ho1 rfl (wpAny_pure (h _ (hsb1.trans (Heap.SameBut.update _ a _)) ?_)) (fits_of_scanBound h2.small))))
    exact ⟨_, es2, _, t3, putSet_at ho1 rfl es2 t3, hex, rfl, h2⟩
  · exact wpAny_pure (h _ hsb1 ⟨_, es1, _, t2, ho1, hex, rfl, h1⟩)

theorem setAdd_S {a : Addr} {ss : List Str} {x : Str} {k : Tok} {Q : Bool → Shared → Prop} (hS : SetS w s.heap a ss) (hroom : ss.length + 1 < scanBound)
    (h : ∀ r h', Heap.SameBut a s.heap h' → SetS w h' a (addS ss x) → Q r { s with heap := h', toks := s.toks + 1 }) : wpAny (model prog w) A (setAdd a (.str x k)) Q E s := by
  obtain ⟨o, es, ep, t, ho, hex, hd, hin⟩ := hS
  have hkey : (strKind prog w).is x (.str x k) = true := by simp [strKind, Value.isStrOf]
  have hel := hin.elems (prog := prog)
  have hsz : es.size = ss.length := by rw [← hin.perm.length_eq, List.length_map, Array.length_toList]
  have hb1 : es.size + 1 < scanBound := by rw [hsz]; exact hroom
  unfold setAdd
  refine wpAny_holding (wpAny_bind ((strKind prog w).pyHash hkey ?_))
  unfold setAddHashed setAddHashedIn
  refine wpAny_holding (wpAny_bind (wpAny_setState_of (s := { s with toks := s.toks + 1 }) ho hd hin.fits ?_))
  dsimp only
  rw [byScan_of (x := .str x k) rfl hin.small hel]
  simp only [↓reduceIte]
  unfold setAddByScan
  refine wpAny_bind (wpAny_bind (wpAny_rule (wpAny_bind (wpAny_setScan_of (s := { s with toks := s.toks + 1 }) hkey ho hd hin.fits hel ?_))))
  have mem_iff : ∀ j (hj : j < es.toList.length), (strKind prog w).is x es.toList[j].2 = true → x ∈ ss := fun j hj hp => by
    obtain ⟨y, u, e⟩ := hin.txts _ (List.getElem_mem hj)
    rw [e] at hp
    obtain ⟨t', e'⟩ := Value.isStrOf_shape (show Value.isStrOf x (.str y u) = true from hp)
    injection e' with e1 e2
    subst e1
    exact hin.perm.mem_iff.mp (List.mem_map.mpr ⟨_, List.getElem_mem hj, by rw [e]; rfl⟩)
  cases hr : List.findIdx? (fun e => (strKind prog w).is x e.2) es.toList with
  | some j =>
    dsimp only
    obtain ⟨hj, hpj, _⟩ := List.findIdx?_eq_some_iff_getElem.mp hr
    have hx := mem_iff j hj hpj
    refine wpAny_pure (wpAny_pure (h _ s.heap (Heap.SameBut.refl a s.heap) ?_))
    unfold addS
    rw [if_pos hx]
    exact ⟨o, es, ep, t, ho, hex, hd, hin⟩
  | none =>
    dsimp only
    have hx : x ∉ ss := fun hm => by
      obtain ⟨e, he, hu⟩ := List.mem_map.mp (hin.perm.mem_iff.mpr hm)
      obtain ⟨y, u, rfl⟩ := hin.txts e he
      have hu' : y = x := hu
      subst hu'
      have := List.findIdx?_eq_none_iff.mp hr _ he
      simp [strKind, Value.isStrOf] at this
    have hperm := layNew_perm t es (hashStr w x) (.str x k)
    have hfits := layNew_fits t es (hashStr w x) (.str x k)
    have hled := layNew_led t es (hashStr w x) (.str x k)
    show wpAny (model prog w) A _ _ E _
    generalize hL : layNew t es ((strKind prog w).hash x) (.str x k) = L
    rw [show layNew t es (hashStr w x) (.str x k) = L from hL] at hperm hfits hled
    obtain ⟨es1, t1, wasDummy, gave⟩ := L
    dsimp only at hperm hfits hled ⊢
    rw [Array.toList_push] at hperm
    have hsz1 : es1.size = es.size + 1 := by rw [← Array.length_toList, hperm.length_eq, List.length_append, Array.length_toList]; rfl
    have hin1 : ∀ t2 : SetTable, t2.fits es1.size = true → t2.led = t1.led → t2.plain = false → SetIn w es1 t2 (addS ss x) := fun t2 f1 f2 f3 => by
      refine ⟨fun e he => ?_, ?_, by rw [hsz1]; exact hb1, f1, f2.trans (hled.trans hin.led), .inr f3⟩
      · rcases List.mem_append.mp (hperm.mem_iff.mp he) with he | he
        · exact hin.txts e he
        · rw [List.mem_singleton.mp he]; exact ⟨x, k, rfl⟩
      · unfold addS
        rw [if_neg hx]
        refine (hperm.map _).trans ?_
        rw [List.map_append]
        exact List.Perm.append_right _ hin.perm
    have hgw : ∀ (b : Bool) (s₁ : Shared) (Q' : Unit → Shared → Prop), Q' () s₁ → wpAny (model prog w) A (match b with | true => rule "set.scan.the-table-gave-way" | false => pure ()) Q' E s₁ :=
      fun b s₁ Q' hq => by cases b <;> first | exact wpAny_pure hq | exact wpAny_rule hq
    refine wpAny_bind (hgw _ _ _ ?_)
    have hend : ∀ h', Heap.SameBut a s.heap h' → SetS w h' a (addS ss x) → Q true { s with heap := h', toks := s.toks + 1 } := fun h' hsb hS' => h _ h' hsb hS'
    split
    · refine wpAny_bind ?_
      rw [hashByValue_scannable 8 (x := .str x k) rfl]
      refine wpAny_pure ?_
      refine addTailS (s := { s with toks := s.toks + 1 }) hgw ho hex hd (hin1 _ ?_ ?_ ?_) ?_ ?_
      · exact SetTable.fits_plain_off hfits
      · rfl
      · rfl
      · rfl
      · intro h' hsb hS'; dsimp only; exact wpAny_pure (hend h' hsb hS')
    · rename_i hpl
      refine wpAny_bind (wpAny_pure ?_)
      simp only [↓reduceIte]
      have hpl' : t1.plain = false := by simpa using hpl
      refine addTailS (s := { s with toks := s.toks + 1 }) hgw ho hex hd (hin1 _ hfits rfl hpl') hpl' ?_
      intro h' hsb hS'; dsimp only; exact wpAny_pure (hend h' hsb hS')
end

def firstS (val : Nat → Str) (i : Nat) : List Str := ((List.range i).map val).foldl addS []
theorem firstS_succ (val : Nat → Str) (i : Nat) : firstS val (i + 1) = addS (firstS val i) (val i) := by
  unfold firstS; rw [List.range_succ, List.map_append, List.foldl_append]; rfl
theorem addS_len (l : List Str) (x : Str) : (addS l x).length ≤ l.length + 1 := by unfold addS; split <;> simp
theorem firstS_len (val : Nat → Str) : ∀ i, (firstS val i).length ≤ i
  | 0 => Nat.le_refl _
  | i + 1 => by rw [firstS_succ]; exact Nat.le_trans (addS_len _ _) (Nat.succ_le_succ (firstS_len val i))

section
variable {prog : Program} {w : World} {A : Around} {R : Result → Shared → Prop} {I : Addr} {fp wr : List Addr} {G : Array GenState → Array GenState → Prop} {n : Nat} {P : Nat → Value → Prop} {St : Nat → Shared → Prop}
theorem set_update_S (W : WalksS prog w A.in1 I fp wr G n P St) (S : Addr) (hSf : S ∉ fp) (val : Nat → Str) (hval : ∀ i v, P i v → ∃ t, v = .str (val i) t) (hb : n + 1 < scanBound) :
    ∀ (k i : Nat) (s : Shared), n - i = k → i ≤ n → St i s → SetS w s.heap S (firstS val i) →
      (∀ s', Moved (S :: wr) G s s' → SetS w s'.heap S (firstS val n) → R (.ok (.ret .none)) s') →
      codeAny (model prog w) A (.builtin "set.update.loop" ⟨[.ref S, .ref I], []⟩) R s := by
  have hSw : S ∉ wr := fun h => hSf (W.sub _ h)
  have hsub : ∀ b ∈ wr, b ∈ S :: wr := fun b hb => List.mem_cons_of_mem _ hb
  intro k
  induction k with
  | zero =>
    intro i s hk hi hst hS hR
    have hin : i = n := by omega
    subst hin
    refine codeAny_builtin PyProof.Rows.F.entry_set_update_loop ?_
    rw [Around.under_plainId PyProof.Rows.F.plain_set_update_loop _]
    show wpAny _ A.in1 (pyNext (.ref I) >>= _) _ _ s
    refine wpAny_bind (W.done s _ _ hst fun s' hm => ?_)
    show wpAny _ A.in1 (ret Value.none) _ _ s'
    exact wpAny_pure (hR s' (hm.mono hsub) (hS.at fun o e => hm.heap S _ hSw e))
  | succ k ih =>
    intro i s hk hi hst hS hR
    have hlt : i < n := by omega
    refine codeAny_builtin PyProof.Rows.F.entry_set_update_loop ?_
    rw [Around.under_plainId PyProof.Rows.F.plain_set_update_loop _]
    show wpAny _ A.in1 (pyNext (.ref I) >>= _) _ _ s
    refine wpAny_bind (W.item i s _ _ hlt hst fun v s' hP hst' hm => ?_)
    obtain ⟨t, rfl⟩ := hval i v hP
    have hS' : SetS w s'.heap S (firstS val i) := hS.at fun o e => hm.heap S _ hSw e
    show wpAny _ A.in1 (holding [Value.str (val i) t] (setAdd S (.str (val i) t)) >>= _) _ _ s'
    refine wpAny_bind (wpAny_holding ?_)
    refine setAdd_S hS' (by have := firstS_len val i; omega) fun r h' hsb hS2 => ?_
    rw [← firstS_succ] at hS2
    refine wpAny_pure ⟨plainId_quiet PyProof.Rows.F.plain_set_update_loop _, ih (i + 1) _ (by omega) hlt (W.frame _ s' _ _ hst' (Nat.le_succ _) fun b hb o e => ?_) hS2 fun s'' hm'' hS'' => ?_⟩
    · rw [hsb.2 b (fun h : b = S => hSf (by rw [← h]; exact hb))]; exact e
    · refine hR s'' (Moved.trans W.gtrans ((hm.mono hsub).then_heap (Nat.le_succ _) fun b o hb e => ?_) hm'') hS''
      rw [hsb.2 b (fun h : b = S => hb (by rw [h]; exact List.mem_cons_self))]; exact e
end
end Mine

set_option autoImplicit false
set_option linter.unusedVariables false
namespace Mine
open PySem PySem.Calls PyProof.Rows

/-- abstract values -/
inductive V where
  | none
  | bool (b : Bool)
  | int (i : Int)
  | str (s : Str)
  | tup (xs : List V)
  | ref (k : Nat)
  | raw (v : Value)
  | rng (a b c : Int)

/-- keys of dicts -/
inductive Key where
  | s (x : Str)
  | i (n : Int)
  deriving DecidableEq

/-- abstract objects -/
inductive AObj where
  | list (xs : List V)
  | dict (es : List (Key × V)) (ep : Option Nat)
  | inst (C : Addr) (k : Nat)
  | ns (as : List (Str × V))
  | set (ss : List Str)
  | exc (C : Addr) (t : Option Nat)
  | tb

mutual
def Val (φ : List Addr) (h : Heap) : V → Value → Prop
  | .none, v => v = .none
  | .bool b, v => v = .bool b
  | .int i, v => ∃ t, v = .int i t
  | .str s, v => ∃ t, v = .str s t
  | .tup xs, v => ∃ a vs, v = .ref a ∧ IsTup h a vs ∧ Vals φ h xs vs.toList
  | .ref k, v => ∃ a, v = .ref a ∧ φ[k]? = some a
  | .raw u, v => v = u
  | .rng a b c, v => ∃ r t u k, v = .ref r ∧ h.get? r = some { cls := .type "range", data := .fields #[.int a t, .int b u, .int c k] }
def Vals (φ : List Addr) (h : Heap) : List V → List Value → Prop
  | [], vs => vs = []
  | x :: xs, vs => ∃ v r, vs = v :: r ∧ Val φ h x v ∧ Vals φ h xs r
end

/-- objects that never change but in their slots -/
def Still (o : Obj) : Prop := (o.cls = .type "tuple" ∧ ∃ vs n, o.data = .seq vs n) ∨ (o.cls = .type "range" ∧ ∃ vs, o.data = .fields vs)

mutual
theorem Val.mono {φ φ' : List Addr} {h h' : Heap} (hp : φ <+: φ')
    (hk : ∀ a o, h.get? a = some o → Still o → h'.get? a = some o) :
    ∀ (x : V) {v : Value}, Val φ h x v → Val φ' h' x v
  | .none, _, e => by simpa [Val] using e
  | .bool _, _, e => by simpa [Val] using e
  | .int _, _, e => by simpa [Val] using e
  | .str _, _, e => by simpa [Val] using e
  | .tup xs, v, e => by
    rw [Val] at e ⊢
    obtain ⟨a, vs, rfl, ⟨o, ho, hc, n, hd⟩, hv⟩ := e
    exact ⟨a, vs, rfl, ⟨o, hk a o ho (.inl ⟨hc, vs, n, hd⟩), hc, n, hd⟩, Vals.mono hp hk xs hv⟩
  | .ref k, _, e => by
    rw [Val] at e ⊢
    obtain ⟨a, rfl, ha⟩ := e
    refine ⟨a, rfl, ?_⟩
    obtain ⟨r, rfl⟩ := hp
    rw [List.getElem?_append_left (List.getElem?_eq_some_iff.mp ha).1]; exact ha
  | .raw _, _, e => by simpa [Val] using e
  | .rng a b c, _, e => by
    rw [Val] at e ⊢
    obtain ⟨r, t, u, k, rfl, ho⟩ := e
    exact ⟨r, t, u, k, rfl, hk r _ ho (.inr ⟨rfl, _, rfl⟩)⟩
theorem Vals.mono {φ φ' : List Addr} {h h' : Heap} (hp : φ <+: φ')
    (hk : ∀ a o, h.get? a = some o → Still o → h'.get? a = some o) :
    ∀ (xs : List V) {vs : List Value}, Vals φ h xs vs → Vals φ' h' xs vs
  | [], _, e => by simpa [Vals] using e
  | x :: xs, _, e => by
    rw [Vals] at e ⊢
    obtain ⟨v, r, rfl, h1, h2⟩ := e
    exact ⟨v, r, rfl, Val.mono hp hk x h1, Vals.mono hp hk xs h2⟩
end

theorem Vals.length {φ : List Addr} {h : Heap} : ∀ {xs : List V} {vs : List Value}, Vals φ h xs vs → vs.length = xs.length
  | [], _, e => by rw [Vals] at e; subst e; rfl
  | _ :: _, _, e => by
    rw [Vals] at e
    obtain ⟨v, r, rfl, _, h2⟩ := e
    simp [Vals.length h2]

theorem Vals.nil {φ : List Addr} {h : Heap} : Vals φ h [] [] := by rw [Vals]
theorem Vals.cons {φ : List Addr} {h : Heap} {x : V} {xs : List V} {v : Value} {vs : List Value} (h1 : Val φ h x v) (h2 : Vals φ h xs vs) : Vals φ h (x :: xs) (v :: vs) := by
  rw [Vals]; exact ⟨v, vs, rfl, h1, h2⟩

theorem Vals.get {φ : List Addr} {h : Heap} : ∀ {xs : List V} {vs : List Value}, Vals φ h xs vs → ∀ {i : Nat} {x : V}, xs[i]? = some x → ∃ v, vs[i]? = some v ∧ Val φ h x v
  | [], _, _, i, x, hx => by simp at hx
  | y :: ys, _, e, i, x, hx => by
    rw [Vals] at e
    obtain ⟨v, r, rfl, h1, h2⟩ := e
    cases i with
    | zero => simp at hx; subst hx; exact ⟨v, rfl, h1⟩
    | succ i => simpa using Vals.get h2 (by simpa using hx)

theorem Vals.append {φ : List Addr} {h : Heap} : ∀ {xs ys : List V} {vs ws : List Value}, Vals φ h xs vs → Vals φ h ys ws → Vals φ h (xs ++ ys) (vs ++ ws)
  | [], _, _, _, e, f => by rw [Vals] at e; subst e; exact f
  | x :: xs, _, _, _, e, f => by
    rw [Vals] at e
    obtain ⟨v, r, rfl, h1, h2⟩ := e
    exact .cons h1 (Vals.append h2 f)

theorem Vals.split {φ : List Addr} {h : Heap} : ∀ {xs ys : List V} {vs : List Value}, Vals φ h (xs ++ ys) vs → ∃ a b, vs = a ++ b ∧ Vals φ h xs a ∧ Vals φ h ys b
  | [], _, vs, e => ⟨[], vs, rfl, .nil, e⟩
  | x :: xs, _, _, e => by
    rw [List.cons_append, Vals] at e
    obtain ⟨v, r, rfl, h1, h2⟩ := e
    obtain ⟨a, b, rfl, h3, h4⟩ := Vals.split h2
    exact ⟨v :: a, b, rfl, .cons h1 h3, h4⟩

section kk
variable (prog : Program) (w : World)

theorem eqBool_str_int {A : Around} {E : Value → Shared → Prop} {s : Shared} {x : Str} {n : Int} {t u : Tok} {Q : Bool → Shared → Prop} (h : Q false s) :
    wpAny (model prog w) A (PySem.eqBool (.str x t) (.int n u)) Q E s := by
  unfold PySem.eqBool
  refine wpAny_holding ?_
  rw [if_neg (show ¬ ((Value.str x t == Value.int n u) = true) from Bool.false_ne_true)]
  show wpAny _ _ (richCompare .Eq _ _ >>= fun r => truthOfDropped r) Q E s
  exact wpAny_bind (show wpAny _ _ (compareOp .Eq _ _) _ _ _ from EqMixed.eq_str_int (wpAny_truthy_bool h))
theorem eqBool_int_str {A : Around} {E : Value → Shared → Prop} {s : Shared} {x : Str} {n : Int} {t u : Tok} {Q : Bool → Shared → Prop} (h : Q false s) :
    wpAny (model prog w) A (PySem.eqBool (.int n u) (.str x t)) Q E s := by
  unfold PySem.eqBool
  refine wpAny_holding ?_
  rw [if_neg (show ¬ ((Value.int n u == Value.str x t) = true) from Bool.false_ne_true)]
  show wpAny _ _ (richCompare .Eq _ _ >>= fun r => truthOfDropped r) Q E s
  exact wpAny_bind (show wpAny _ _ (compareOp .Eq _ _) _ _ _ from EqMixed.eq_int_str (wpAny_truthy_bool h))

def Key.is : Key → Value → Bool
  | .s x, v => Value.isStrOf x v
  | .i n, v => Value.isInt n v
def Key.hash (w : World) : Key → Int
  | .s x => hashStr w x
  | .i n => hashInt n
theorem Key.is_shape {k : Key} {v : Value} (h : k.is v = true) : (∃ x t, k = .s x ∧ v = .str x t) ∨ ∃ n t, k = .i n ∧ v = .int n t := by
  cases k with
  | s x => obtain ⟨t, rfl⟩ := Value.isStrOf_shape h; exact .inl ⟨x, t, rfl, rfl⟩
  | i n => obtain ⟨t, rfl⟩ := Value.isInt_shape h; exact .inr ⟨n, t, rfl, rfl⟩

def kk : KeyKind prog w Key where
  is := Key.is
  hash := Key.hash w
  inj := fun v a b ha hb => by
    rcases Key.is_shape ha with ⟨x, t, rfl, rfl⟩ | ⟨x, t, rfl, rfl⟩ <;> rcases Key.is_shape hb with ⟨y, u, rfl, e⟩ | ⟨y, u, rfl, e⟩ <;> cases e <;> rfl
  byValue := fun k v h => by rcases Key.is_shape h with ⟨x, t, rfl, rfl⟩ | ⟨x, t, rfl, rfl⟩ <;> rfl
  pyHash := fun hv h => by
    rcases Key.is_shape hv with ⟨x, t, rfl, rfl⟩ | ⟨x, t, rfl, rfl⟩
    · exact wpAny_pyHash_str h
    · exact wpAny_pyHash_int h
  eqBool := fun {A E s a b u v Q} hu hv h => by
    rcases Key.is_shape hu with ⟨x, t, rfl, rfl⟩ | ⟨x, t, rfl, rfl⟩ <;> rcases Key.is_shape hv with ⟨y, u, rfl, rfl⟩ | ⟨y, u, rfl, rfl⟩
    · refine wpAny_eqBool_str ?_
      have : decide (Key.s x = Key.s y) = decide (x = y) := by simp
      rwa [this] at h
    · refine eqBool_str_int prog w ?_
      simpa using h
    · refine eqBool_int_str prog w ?_
      simpa using h
    · refine wpAny_eqBool_int ?_
      have : decide (Key.i x = Key.i y) = (x == y) := by simp; rfl
      rwa [this] at h
  «strs» := fun k x t v h => by
    rcases Key.is_shape h with ⟨y, u, rfl, e⟩ | ⟨y, u, rfl, e⟩
    · cases e; cases v <;> rfl
    · cases e
end kk

def Key.v : Key → V
  | .s x => .str x
  | .i n => .int n

/-- the entries of a dict -/
inductive Ents (φ : List Addr) (h : Heap) : List (Key × V) → List (Key × Value) → Prop
  | nil : Ents φ h [] []
  | cons {k : Key} {x : V} {v : Value} {es : List (Key × V)} {kvs : List (Key × Value)} : Val φ h x v → Ents φ h es kvs → Ents φ h ((k, x) :: es) ((k, v) :: kvs)

theorem Ents.mono {φ φ' : List Addr} {h h' : Heap} (hp : φ <+: φ')
    (hk : ∀ a o, h.get? a = some o → Still o → h'.get? a = some o) {es : List (Key × V)} {kvs : List (Key × Value)} (e : Ents φ h es kvs) : Ents φ' h' es kvs := by
  induction e with
  | nil => exact .nil
  | cons h1 _ ih => exact .cons (Val.mono hp hk _ h1) ih
theorem Ents.keys {φ : List Addr} {h : Heap} {es : List (Key × V)} {kvs : List (Key × Value)} (e : Ents φ h es kvs) : kvs.map (·.1) = es.map (·.1) := by
  induction e with
  | nil => rfl
  | cons _ _ ih => simp [ih]
theorem Ents.length {φ : List Addr} {h : Heap} {es : List (Key × V)} {kvs : List (Key × Value)} (e : Ents φ h es kvs) : kvs.length = es.length := by
  induction e with
  | nil => rfl
  | cons _ _ ih => simp [ih]

/-- what a dict says of a key -/
def at? (es : List (Key × V)) (k : Key) : Option V := (es.find? fun e => e.1 = k).map (·.2)
/-- a dict with a key put -/
def put (es : List (Key × V)) (k : Key) (x : V) : List (Key × V) :=
  if es.any (fun e => e.1 = k) then es.map (fun e => if e.1 = k then (e.1, x) else e) else es ++ [(k, x)]

theorem Ents.at? {φ : List Addr} {h : Heap} {es : List (Key × V)} {kvs : List (Key × Value)} (e : Ents φ h es kvs) (k : Key) :
    (∃ x v, at? es k = some x ∧ valueAt kvs k = some v ∧ Val φ h x v) ∨ (at? es k = none ∧ valueAt kvs k = none) := by
  induction e with
  | nil => exact .inr ⟨rfl, rfl⟩
  | @cons k' x v es kvs h1 _ ih =>
    by_cases hk : k' = k
    · subst hk; exact .inl ⟨x, v, by simp [Mine.at?], by simp [valueAt], h1⟩
    · simpa [Mine.at?, valueAt, hk] using ih
theorem Ents.append {φ : List Addr} {h : Heap} {es es' : List (Key × V)} {kvs kvs' : List (Key × Value)} (e : Ents φ h es kvs) (e' : Ents φ h es' kvs') : Ents φ h (es ++ es') (kvs ++ kvs') := by
  induction e with
  | nil => exact e'
  | cons h1 _ ih => exact .cons h1 ih
theorem Ents.any {φ : List Addr} {h : Heap} {es : List (Key × V)} {kvs : List (Key × Value)} (e : Ents φ h es kvs) (k : Key) : (kvs.any fun e => e.1 = k) = es.any fun e => e.1 = k := by
  induction e with
  | nil => rfl
  | cons _ _ ih => simp only [List.any_cons, ih]
theorem Ents.put {φ : List Addr} {h : Heap} {es : List (Key × V)} {kvs : List (Key × Value)} (e : Ents φ h es kvs) (k : Key) {x : V} {v : Value} (hx : Val φ h x v) : Ents φ h (put es k x) (stored kvs k v) := by
  unfold Mine.put stored
  rw [e.any k]
  split
  · rename_i hany; clear hany
    induction e with
    | nil => exact .nil
    | @cons k' x' v' es kvs h1 _ ih =>
      simp only [List.map_cons]
      by_cases hk : k' = k
      · simp only [hk, if_true]; exact .cons hx ih
      · simp only [hk, if_false]; exact .cons h1 ih
  · exact e.append (.cons hx .nil)

section st
variable (prog : Program) (w : World)

/-- how an abstract object lies -/
def ObjR (φ : List Addr) (h : Heap) (a : Addr) : AObj → Prop
  | .list xs => ∃ vs n, h.get? a = some { cls := .type "list", data := .seq vs n } ∧ Vals φ h xs vs.toList
  | .dict es e => ∃ kvs ep, h.DictAt (kk prog w) a kvs ep ∧ Ents φ h es kvs ∧ ∀ n, e = some n → ep = n
  | .inst C k => ∃ d, h.get? a = some { cls := .ref C, dict := some d, data := .plain } ∧ φ[k]? = some d
  | .set ss => SetS w h a ss
  | .exc C t => ∃ o vs, h.get? a = some o ∧ (o.cls = .ref C ∧ o.dict = none) ∧ o.data = .fields vs ∧ match t with
      | none => vs[1]? = some .none
      | some k => ∃ T, vs[1]? = some (.ref T) ∧ φ[k]? = some T
  | .tb => ∃ o ts x, h.get? a = some o ∧ o.cls = .type "traceback" ∧ o.data = .fields ts ∧ ts[3]? = some x
  | .ns as => ∃ es n, h.get? a = some { cls := .type "dict", data := .dict es n } ∧ StrKeys es ∧ es.size ≤ as.length ∧
      ∀ x, match as.lookup x with
        | some v => ∃ val, nsFind es x = some val ∧ Val φ h v val
        | none => nsFind es x = none

/-- the state: what the call has made (at φ) is σ; the base stands -/
structure St (B : Shared) (φ : List Addr) (σ : List AObj) (s : Shared) : Prop where
  base : ∀ b o, B.heap.get? b = some o → s.heap.get? b = some o
  new : ∀ a ∈ φ, B.heap.get? a = none
  nodup : φ.Nodup
  len : φ.length = σ.length
  objs : ∀ (k : Nat) (a : Addr) (ob : AObj), φ[k]? = some a → σ[k]? = some ob → ObjR prog w φ s.heap a ob
  gens : s.gens = B.gens
  os : s.os = B.os
  sys : (∃ o, B.heap.get? cStatics = some o) ∧ sysModules ∉ φ

/-- the same object, but for a frame's slots -/
def NoD (o : Obj) : Prop := ∀ es n, o.data ≠ .dict es n
theorem NoD.fields {o : Obj} {vs : Array Value} (h : o.data = .fields vs) : NoD o := fun _ _ e => by rw [h] at e; cases e
def Sim (o o' : Obj) : Prop := o' = o ∨ (¬ NoD o ∧ o'.cls = o.cls ∧ o'.dict = o.dict ∧ o'.data = o.data)
theorem Sim.refl (o : Obj) : Sim o o := .inl rfl
theorem Sim.cls {o o' : Obj} (h : Sim o o') : o'.cls = o.cls := h.elim (fun e => by rw [e]) fun h => h.2.1
theorem Sim.dict {o o' : Obj} (h : Sim o o') : o'.dict = o.dict := h.elim (fun e => by rw [e]) fun h => h.2.2.1
theorem Sim.data {o o' : Obj} (h : Sim o o') : o'.data = o.data := h.elim (fun e => by rw [e]) fun h => h.2.2.2
theorem Sim.trans {a b c : Obj} (h : Sim a b) (g : Sim b c) : Sim a c := by
  rcases h with rfl | h
  · exact g
  · exact .inr ⟨h.1, g.cls.trans h.2.1, g.dict.trans h.2.2.1, g.data.trans h.2.2.2⟩
theorem Sim.same {o o' : Obj} (h : Sim o o') (hc : NoD o) : o' = o := by
  rcases h with h | h
  · exact h
  · exact absurd hc h.1

/-- from one state to a later one; D: what else may change -/
structure Step (D φ : List Addr) (h : Heap) (φ' : List Addr) (h' : Heap) : Prop where
  pre : φ <+: φ'
  fresh : ∀ a ∈ φ', a ∈ φ ∨ h.get? a = none
  keep : ∀ b o, h.get? b = some o → b ∉ φ → b ∉ D → ∃ o', h'.get? b = some o' ∧ Sim o o'

theorem Step.refl (D φ : List Addr) (h : Heap) : Step D φ h φ h := ⟨List.prefix_refl _, fun _ ha => .inl ha, fun _ o e _ _ => ⟨o, e, .refl o⟩⟩
theorem Step.mono {D D' φ φ' : List Addr} {h h' : Heap} (s : Step D φ h φ' h') (hd : ∀ a ∈ D, a ∈ D') : Step D' φ h φ' h' :=
  ⟨s.pre, s.fresh, fun b o e h1 h2 => s.keep b o e h1 fun hb => h2 (hd b hb)⟩
theorem Step.nilD {D φ φ' : List Addr} {h h' : Heap} (s : Step [] φ h φ' h') : Step D φ h φ' h' := s.mono fun _ h => nomatch h
theorem Step.trans {D φ φ₁ φ₂ : List Addr} {h h₁ h₂ : Heap} (s : Step D φ h φ₁ h₁) (t : Step D φ₁ h₁ φ₂ h₂) (hD : ∀ a ∈ D, a ∉ φ₁ ∧ a ∉ φ₂ ∨ h.get? a = none) : Step D φ h φ₂ h₂ := by
  refine ⟨s.pre.trans t.pre, fun a ha => ?_, fun b o e h1 h2 => ?_⟩
  · rcases t.fresh a ha with h3 | h3
    · exact s.fresh a h3
    · by_cases h4 : a ∈ φ
      · exact .inl h4
      · cases e : h.get? a with
        | none => exact .inr rfl
        | some o =>
          by_cases h5 : a ∈ D
          · rcases hD a h5 with h6 | h6
            · exact absurd ha h6.2
            · rw [h6] at e; cases e
          · obtain ⟨o', h6, _⟩ := s.keep a o e h4 h5
            rw [h6] at h3; cases h3
  · obtain ⟨o₁, e₁, a1⟩ := s.keep b o e h1 h2
    have h3 : b ∉ φ₁ := fun hb => by
      rcases s.fresh b hb with h4 | h4
      · exact h1 h4
      · rw [h4] at e; cases e
    obtain ⟨o₂, e₂, b1⟩ := t.keep b o₁ e₁ h3 h2
    exact ⟨o₂, e₂, a1.trans b1⟩
theorem Step.trans0 {φ φ₁ φ₂ : List Addr} {h h₁ h₂ : Heap} (s : Step [] φ h φ₁ h₁) (t : Step [] φ₁ h₁ φ₂ h₂) : Step [] φ h φ₂ h₂ := s.trans t fun _ h => nomatch h

theorem Step.of_keeps {φ : List Addr} {h h' : Heap} (hk : ∀ b o, h.get? b = some o → h'.get? b = some o) : Step [] φ h φ h' :=
  ⟨List.prefix_refl _, fun _ ha => .inl ha, fun b o e _ _ => ⟨o, hk b o e, .refl o⟩⟩

variable {prog w}
variable {B : Shared} {φ φ' : List Addr} {σ σ' : List AObj} {s : Shared}

theorem notStill_dict {o : Obj} {es : Array DictEntry} {n : Nat} (h : o.data = .dict es n) : ¬ Still o := by
  rintro (⟨_, vs, m, h'⟩ | ⟨_, vs, h'⟩) <;> rw [h] at h' <;> cases h'
theorem notStill_cell {o : Obj} {v : Option Value} (h : o.data = .cell v) : ¬ Still o := by
  rintro (⟨_, vs, m, h'⟩ | ⟨_, vs, h'⟩) <;> rw [h] at h' <;> cases h'
theorem notStill_type {o : Obj} {T : String} (h : o.cls = .type T) (h1 : T ≠ "tuple") (h2 : T ≠ "range") : ¬ Still o := by
  rintro (⟨h', _⟩ | ⟨h', _⟩)
  · rw [h] at h'; exact h1 (by injection h')
  · rw [h] at h'; exact h2 (by injection h')
theorem ObjR.notStill {h : Heap} {a : Addr} {o : Obj} {ob : AObj} (r : ObjR prog w φ h a ob) (ho : h.get? a = some o) : ¬ Still o := by
  cases ob with
  | list xs =>
    obtain ⟨vs, n, e, _⟩ := r
    rw [e] at ho; cases ho
    exact notStill_type rfl (by decide) (by decide)
  | dict es e =>
    obtain ⟨kvs, ep, ⟨o', es', e, hx, hd, _⟩, _⟩ := r
    rw [e] at ho; cases ho
    exact notStill_type hx.1 (by decide) (by decide)
  | inst C k =>
    obtain ⟨d, e, _⟩ := r
    rw [e] at ho; cases ho
    rintro (⟨h, _⟩ | ⟨h, _⟩) <;> cases h
  | ns as =>
    obtain ⟨es, n, e, _⟩ := r
    rw [e] at ho; cases ho
    exact notStill_type rfl (by decide) (by decide)
  | set ss =>
    obtain ⟨o', es, ep, t, e, hx, _⟩ := r
    rw [e] at ho; cases ho
    exact notStill_type hx.1 (by decide) (by decide)
  | exc C t =>
    obtain ⟨o', vs, e, hc, _⟩ := r
    rw [e] at ho; cases ho
    rintro (⟨h, _⟩ | ⟨h, _⟩) <;> rw [hc.1] at h <;> cases h
  | tb =>
    obtain ⟨o', ts, x, e, hc, _⟩ := r
    rw [e] at ho; cases ho
    exact notStill_type hc (by decide) (by decide)

theorem St.notStill (G : St prog w B φ σ s) {a : Addr} {o : Obj} (ha : a ∈ φ) (ho : s.heap.get? a = some o) : ¬ Still o := by
  obtain ⟨k, hk, rfl⟩ := List.mem_iff_getElem.mp ha
  have hk' : k < σ.length := G.len ▸ hk
  exact (G.objs k _ σ[k] (List.getElem?_eq_getElem hk) (List.getElem?_eq_getElem hk')).notStill ho

/-- what stands still stays through a step, if the changed frames are no still objects -/
theorem Step.still {D : List Addr} {h' : Heap} (G : St prog w B φ σ s) (t : Step D φ s.heap φ' h') (hD : ∀ a ∈ D, ∀ o, s.heap.get? a = some o → ¬ Still o) :
    ∀ a o, s.heap.get? a = some o → Still o → h'.get? a = some o := fun a o e hs => by
  obtain ⟨o', h1, h2⟩ := t.keep a o e (fun ha => G.notStill ha e hs) fun ha => hD a ha o e hs
  obtain rfl := h2.same fun es n hc => by
    rcases hs with ⟨_, _, _, h⟩ | ⟨_, _, h⟩ <;> rw [h] at hc <;> cases hc
  exact h1
theorem Val.step {h' : Heap} {x : V} {v : Value} (hv : Val φ s.heap x v) (G : St prog w B φ σ s) (t : Step [] φ s.heap φ' h') : Val φ' h' x v :=
  Val.mono t.pre (t.still G fun _ h => nomatch h) x hv
theorem Vals.step {h' : Heap} {xs : List V} {vs : List Value} (hv : Vals φ s.heap xs vs) (G : St prog w B φ σ s) (t : Step [] φ s.heap φ' h') : Vals φ' h' xs vs :=
  Vals.mono t.pre (t.still G fun _ h => nomatch h) xs hv

/-- an object of the abstract heap through a change elsewhere -/
theorem ObjR.mono {h h' : Heap} {a : Addr} {ob : AObj} (r : ObjR prog w φ h a ob) (hp : φ <+: φ')
    (hk : ∀ a o, h.get? a = some o → Still o → h'.get? a = some o) (ha : ∀ o, h.get? a = some o → h'.get? a = some o) : ObjR prog w φ' h' a ob := by
  have hidx : ∀ {k d : Nat}, φ[k]? = some d → φ'[k]? = some d := fun {k d} e => by
    obtain ⟨r, rfl⟩ := hp
    rw [List.getElem?_append_left (List.getElem?_eq_some_iff.mp e).1]; exact e
  cases ob with
  | list xs => obtain ⟨vs, n, e, hv⟩ := r; exact ⟨vs, n, ha _ e, Vals.mono hp hk xs hv⟩
  | dict es e =>
    obtain ⟨kvs, ep, ⟨o, es', e, r⟩, hv, hn⟩ := r
    exact ⟨kvs, ep, ⟨o, es', ha _ e, r⟩, hv.mono hp hk, hn⟩
  | inst C k => obtain ⟨d, e, hd⟩ := r; exact ⟨d, ha _ e, hidx hd⟩
  | set ss => exact SetS.at r ha
  | exc C t =>
    obtain ⟨o, vs, e, h1, h2, h3⟩ := r
    refine ⟨o, vs, ha _ e, h1, h2, ?_⟩
    cases t with
    | none => exact h3
    | some k => obtain ⟨T, e1, e2⟩ := h3; exact ⟨T, e1, hidx e2⟩
  | tb => obtain ⟨o, ts, x, e, r⟩ := r; exact ⟨o, ts, x, ha _ e, r⟩
  | ns as =>
    obtain ⟨es, n, e, h1, h2, h3⟩ := r
    refine ⟨es, n, ha _ e, h1, h2, fun x => ?_⟩
    have := h3 x
    cases hx : as.lookup x with
    | none => rw [hx] at this; exact this
    | some v => rw [hx] at this; obtain ⟨val, e1, e2⟩ := this; exact ⟨val, e1, Val.mono hp hk v e2⟩

/-- a state through a change that keeps all -/
theorem St.keeps {s' : Shared} (G : St prog w B φ σ s) (hk : ∀ b o, s.heap.get? b = some o → s'.heap.get? b = some o) (hg : s'.gens = s.gens := by rfl) (ho : s'.os = s.os := by rfl) : St prog w B φ σ s' :=
  ⟨fun b o e => hk b o (G.base b o e), G.new, G.nodup, G.len, fun k a ob h1 h2 => (G.objs k a ob h1 h2).mono (List.prefix_refl _) (fun a o e _ => hk a o e) fun o e => hk a o e, hg.trans G.gens, ho.trans G.os, G.sys⟩
/-- a state through a change of one object that is not the call's and not still -/
theorem St.sameBut {s' : Shared} {c : Addr} (G : St prog w B φ σ s) (hs : Heap.SameBut c s.heap s'.heap) (hc : c ∉ φ) (hb : B.heap.get? c = none) (hn : ∀ o, s.heap.get? c = some o → ¬ Still o)
    (hg : s'.gens = s.gens := by rfl) (ho : s'.os = s.os := by rfl) : St prog w B φ σ s' := by
  refine ⟨fun b o e => hs.extBut b o (fun h => by rw [h, hb] at e; cases e) (G.base b o e), G.new, G.nodup, G.len, fun k a ob h1 h2 => ?_, hg.trans G.gens, ho.trans G.os, G.sys⟩
  refine (G.objs k a ob h1 h2).mono (List.prefix_refl _) (fun a o e hst => hs.extBut a o (fun h => hn o (h ▸ e) hst) e) fun o e => hs.extBut a o (fun h => hc (h ▸ List.mem_of_getElem? h1)) e
theorem Val.sameBut {h h' : Heap} {c : Addr} {x : V} {v : Value} (hv : Val φ h x v) (hs : Heap.SameBut c h h') (hn : ∀ o, h.get? c = some o → ¬ Still o) : Val φ h' x v :=
  Val.mono (List.prefix_refl _) (fun a o e hst => hs.extBut a o (fun h => hn o (h ▸ e) hst) e) x hv

theorem St.sub (G : St prog w B φ σ s) {b : Addr} {o : Obj} (hb : B.heap.get? b = some o) : b ∉ φ := fun h => by rw [G.new b h] at hb; cases hb
theorem St.fresh (G : St prog w B φ σ s) : s.heap.objs.size ∉ φ := fun h => by
  obtain ⟨k, hk, e⟩ := List.mem_iff_getElem.mp h
  have hk' : k < σ.length := G.len ▸ hk
  have r := G.objs k _ σ[k] (List.getElem?_eq_getElem hk) (List.getElem?_eq_getElem hk')
  have : ∃ o, s.heap.get? φ[k] = some o := by
    cases hob : σ[k] with
    | list xs => rw [hob] at r; obtain ⟨vs, n, e, _⟩ := r; exact ⟨_, e⟩
    | dict es e => rw [hob] at r; obtain ⟨kvs, ep, ⟨o, es', e, _⟩, _⟩ := r; exact ⟨_, e⟩
    | inst C k => rw [hob] at r; obtain ⟨d, e, _⟩ := r; exact ⟨_, e⟩
    | ns as => rw [hob] at r; obtain ⟨es, n, e, _⟩ := r; exact ⟨_, e⟩
    | set ss => rw [hob] at r; obtain ⟨o', es, ep, t, e, _⟩ := r; exact ⟨_, e⟩
    | exc C t => rw [hob] at r; obtain ⟨o', vs, e, _⟩ := r; exact ⟨_, e⟩
    | tb => rw [hob] at r; obtain ⟨o', ts, x, e, _⟩ := r; exact ⟨_, e⟩
  obtain ⟨o, ho⟩ := this
  rw [e] at ho
  exact absurd (Heap.lt_size ho) (Nat.lt_irrefl _)
theorem get?_size (h : Heap) : h.get? h.objs.size = none := by
  cases e : h.get? h.objs.size with
  | none => rfl
  | some o => exact absurd (Heap.lt_size e) (Nat.lt_irrefl _)
theorem get?_of_ge {h : Heap} {a : Addr} (ha : h.objs.size ≤ a) : h.get? a = none := by
  cases e : h.get? a with
  | none => rfl
  | some o => exact absurd (Heap.lt_size e) (Nat.not_lt.mpr ha)
theorem St.baseSize (G : St prog w B φ σ s) {a : Addr} (ha : s.heap.get? a = none) : B.heap.get? a = none := by
  cases e : B.heap.get? a with
  | none => rfl
  | some o => rw [G.base a o e] at ha; cases ha

theorem St.sizeNe (G : St prog w B φ σ s) : s.heap.objs.size ≠ sysModules := fun e => by
  obtain ⟨⟨o, ho⟩, _⟩ := G.sys
  have := Heap.lt_size (G.base _ _ ho)
  rw [e] at this
  exact absurd this (by decide)

/-- a new object onto the heap -/
theorem St.alloc {s' : Shared} {ob : AObj} {c : Addr} (G : St prog w B φ σ s) (hc : s.heap.get? c = none) (hk : ∀ b o, s.heap.get? b = some o → s'.heap.get? b = some o) (r : ObjR prog w (φ ++ [c]) s'.heap c ob)
    (hcφ : c ∉ φ) (hcs : c ≠ sysModules) (hg : s'.gens = s.gens := by rfl) (ho : s'.os = s.os := by rfl) : St prog w B (φ ++ [c]) (σ ++ [ob]) s' := by
  refine ⟨fun b o e => hk b o (G.base b o e), fun a ha => ?_, ?_, by simp [G.len], fun k a ob' h1 h2 => ?_, hg.trans G.gens, ho.trans G.os, G.sys.1, fun h => (List.mem_append.mp h).elim G.sys.2 fun h => hcs (List.mem_singleton.mp h).symm⟩
  · rcases List.mem_append.mp ha with h | h
    · exact G.new a h
    · obtain rfl := List.mem_singleton.mp h; exact G.baseSize hc
  · exact List.nodup_append.mpr ⟨G.nodup, by simp, fun a ha b hb e => hcφ (by obtain rfl := List.mem_singleton.mp hb; exact e ▸ ha)⟩
  · by_cases hlt : k < φ.length
    · rw [List.getElem?_append_left hlt] at h1
      rw [List.getElem?_append_left (G.len ▸ hlt)] at h2
      exact (G.objs k a ob' h1 h2).mono (List.prefix_append _ _) (fun a o e _ => hk a o e) fun o e => hk a o e
    · have h3 : k = φ.length := by
        have := (List.getElem?_eq_some_iff.mp h1).1
        simp at this; omega
      subst h3
      rw [List.getElem?_append_right (Nat.le_refl _)] at h1
      rw [G.len, List.getElem?_append_right (Nat.le_refl _)] at h2
      simp at h1 h2
      subst h1 h2
      exact r
theorem Step.alloc {s' : Shared} {c : Addr} {D : List Addr} (hc : s.heap.get? c = none) (hk : ∀ b o, s.heap.get? b = some o → s'.heap.get? b = some o) : Step D φ s.heap (φ ++ [c]) s'.heap :=
  ⟨List.prefix_append _ _, fun a ha => (List.mem_append.mp ha).imp id fun h => by obtain rfl := List.mem_singleton.mp h; exact hc, fun b o e _ _ => ⟨o, hk b o e, .refl o⟩⟩

/-- an object of the call's changed -/
theorem St.update {s' : Shared} {k : Nat} {c : Addr} {ob : AObj} (G : St prog w B φ σ s) (hc : φ[k]? = some c) (hs : Heap.SameBut c s.heap s'.heap) (r : ObjR prog w φ s'.heap c ob)
    (hg : s'.gens = s.gens := by rfl) (ho : s'.os = s.os := by rfl) : St prog w B φ (σ.set k ob) s' := by
  have hcm := List.mem_of_getElem? hc
  refine ⟨fun b o e => hs.extBut b o (fun h => G.sub e (h ▸ hcm)) (G.base b o e), G.new, G.nodup, by simp [G.len], fun j a ob' h1 h2 => ?_, hg.trans G.gens, ho.trans G.os, G.sys⟩
  by_cases hj : j = k
  · subst hj
    rw [hc] at h1; cases h1
    have hlt : j < σ.length := G.len ▸ (List.getElem?_eq_some_iff.mp hc).1
    rw [List.getElem?_set_self hlt] at h2; cases h2
    exact r
  · rw [List.getElem?_set_ne (Ne.symm hj)] at h2
    refine (G.objs j a ob' h1 h2).mono (List.prefix_refl _) (fun a o e hst => hs.extBut a o (fun h => ?_) e) fun o e => hs.extBut a o (fun h => hj ?_) e
    · exact G.notStill (h ▸ hcm) e hst
    · subst h
      have e1 := List.getElem?_eq_some_iff.mp h1
      have e2 := List.getElem?_eq_some_iff.mp hc
      obtain ⟨l1, e1⟩ := e1
      obtain ⟨l2, e2⟩ := e2
      exact (List.getElem_inj G.nodup).mp (e1.trans e2.symm)
theorem Step.update {D : List Addr} {h h' : Heap} {c : Addr} (hs : Heap.SameBut c h h') (hc : c ∈ φ) : Step D φ h φ h' :=
  ⟨List.prefix_refl _, fun _ ha => .inl ha, fun b o e hb _ => ⟨o, hs.extBut b o (fun h => hb (h ▸ hc)) e, .refl o⟩⟩
end st

end Mine

set_option autoImplicit false
set_option linter.unusedVariables false
namespace Mine
open PySem PySem.Calls PyProof.Rows

/-- a name of the frame has this value -/
def Bnd (env : Env) (h : Heap) (x : Str) (val : Value) : Prop :=
  (env.kindOf x = some .local ∧ ∃ m, h.Ns env.locals m ∧ m x = some val) ∨
  ((env.kindOf x = some .cell ∨ env.kindOf x = some .free) ∧ ∃ c, env.cells.lookup x = some c ∧ h.IsCell c (some val))

/-- what a frame's own statements may change beside the call's objects -/
def fr (env : Env) : List Addr := env.locals :: env.cells.map (·.2)

/-- a frame's table stands -/
def FrOk (B : Shared) (φ : List Addr) (h : Heap) (e : Env) : Prop :=
  e.scope.kind ≠ .module ∧ ∃ L o es n, e.frame = some L ∧ L ∉ φ ∧ B.heap.get? L = none ∧ h.get? L = some o ∧ o.data = .dict es n
/-- the frames of the stack stand -/
def Frs (A : Around) (B : Shared) (φ : List Addr) (h : Heap) : Prop := ∃ l, A.frames = some l ∧ ∀ e ∈ l, FrOk B φ h e
theorem FrOk.thru {B : Shared} {φ φ' : List Addr} {h h' : Heap} {e : Env} (f : FrOk B φ h e) (hφ : ∀ a ∈ φ', a ∈ φ ∨ h.get? a = none) (hk : ∀ a o es n, h.get? a = some o → o.data = .dict es n → a ∉ φ → ∃ o' es' n', h'.get? a = some o' ∧ o'.data = .dict es' n') : FrOk B φ' h' e := by
  obtain ⟨h1, L, o, es, n, h2, h3, h4, h5, h6⟩ := f
  obtain ⟨o', es', n', h7, h8⟩ := hk L o es n h5 h6 h3
  refine ⟨h1, L, o', es', n', h2, fun hm => ?_, h4, h7, h8⟩
  rcases hφ L hm with h | h
  · exact h3 h
  · rw [h5] at h; cases h
theorem Frs.thru {A : Around} {B : Shared} {φ φ' : List Addr} {h h' : Heap} (f : Frs A B φ h) (hφ : ∀ a ∈ φ', a ∈ φ ∨ h.get? a = none) (hk : ∀ a o es n, h.get? a = some o → o.data = .dict es n → a ∉ φ → ∃ o' es' n', h'.get? a = some o' ∧ o'.data = .dict es' n') : Frs A B φ' h' := by
  obtain ⟨l, h1, h2⟩ := f
  exact ⟨l, h1, fun e he => (h2 e he).thru hφ hk⟩
theorem Frs.step {A : Around} {B : Shared} {φ φ' : List Addr} {h h' : Heap} (f : Frs A B φ h) (t : Step [] φ h φ' h') : Frs A B φ' h' :=
  f.thru t.fresh fun a o es n e hd hφ => by
    obtain ⟨o', e', hs⟩ := t.keep a o e hφ (fun h => nomatch h)
    exact ⟨o', es, n, e', hs.data.trans hd⟩
/-- a heap changed at one place, which holds a table still -/
theorem Frs.at {A : Around} {B : Shared} {φ : List Addr} {h h' : Heap} {c : Addr} (f : Frs A B φ h) (hs : ∀ b o, b ≠ c → h.get? b = some o → h'.get? b = some o) (hc : (∃ o' es' n', h'.get? c = some o' ∧ o'.data = .dict es' n') ∨ ∀ o, h.get? c = some o → NoD o) : Frs A B φ h' :=
  f.thru (fun _ h => .inl h) fun a o es n e hd _ => by
    by_cases ha : a = c
    · subst ha
      rcases hc with hc | hc
      · exact hc
      · exact absurd hd (hc o e es n)
    · exact ⟨o, es, n, hs a o ha e, hd⟩

theorem Frs.atφ {A : Around} {B : Shared} {φ : List Addr} {h h' : Heap} {c : Addr} (f : Frs A B φ h) (hs : ∀ b o, b ≠ c → h.get? b = some o → h'.get? b = some o) (hc : c ∈ φ) : Frs A B φ h' :=
  f.thru (fun _ h => .inl h) fun a o es n e hd ha => ⟨o, es, n, hs a o (fun h => ha (h ▸ hc)) e, hd⟩

structure Loc (A : Around) (B : Shared) (env : Env) (ρ : List (Str × V)) (φ : List Addr) (h : Heap) : Prop where
  kind : env.scope.kind = .function
  glob : env.globals = mainGlobals
  blt : env.builtins = builtinsNs
  ns : ∃ m, h.Ns env.locals m
  own : ∀ a ∈ fr env, a ∉ φ ∧ B.heap.get? a = none
  cells : ∀ x c, (x, c) ∈ env.cells → ∃ v, h.IsCell c v
  apart : env.cells.Pairwise fun x y => x.2 ≠ y.2
  val : ∀ x v, ρ.lookup x = some v → ∃ val, Bnd env h x val ∧ Val φ h v val
  frs : Frs A B φ h
  top : ∃ e₀ r, A.frames = some (e₀ :: r) ∧ e₀.frame = env.frame

section
variable {prog : Program} {w : World} {B : Shared} {φ φ' : List Addr} {σ σ' : List AObj} {s s' : Shared} {env : Env} {ρ ρ' : List (Str × V)} {A : Around}

theorem Ns.upTo {h h' : Heap} {a : Addr} {m : Str → Option Value} (n : h.Ns a m) (hk : ∀ o, h.get? a = some o → ∃ o', h'.get? a = some o' ∧ Sim o o') : h'.Ns a m := by
  obtain ⟨o, es, ep, e, hd, r⟩ := n
  obtain ⟨o', e', hs⟩ := hk o e
  exact ⟨o', es, ep, e', hs.data.trans hd, r⟩
theorem IsCell.upTo {h h' : Heap} {a : Addr} {v : Option Value} (n : h.IsCell a v) (hk : ∀ o, h.get? a = some o → ∃ o', h'.get? a = some o' ∧ Sim o o') : h'.IsCell a v := by
  obtain ⟨o, e, hd⟩ := n
  obtain ⟨o', e', hs⟩ := hk o e
  exact ⟨o', e', hs.data.trans hd⟩
theorem mem_fr_cell {x : Str} {c : Addr} (h : (x, c) ∈ env.cells) : c ∈ fr env := List.mem_cons_of_mem _ (List.mem_map.mpr ⟨(x, c), h, rfl⟩)
/-- the frame's own objects lie in the heap -/
theorem Loc.there {h : Heap} (L : Loc A B env ρ φ h) {a : Addr} (ha : a ∈ fr env) : ∃ o, h.get? a = some o ∧ ¬ Still o := by
  rcases List.mem_cons.mp ha with rfl | ha
  · obtain ⟨m, o, es, ep, e, hd, _⟩ := L.ns
    exact ⟨o, e, notStill_dict hd⟩
  · obtain ⟨⟨x, c⟩, hm, rfl⟩ := List.mem_map.mp ha
    obtain ⟨v, o, e, hd⟩ := L.cells x c hm
    exact ⟨o, e, notStill_cell hd⟩

theorem Loc.step {h' : Heap} (L : Loc A B env ρ φ s.heap) (G : St prog w B φ σ s) (t : Step [] φ s.heap φ' h') : Loc A B env ρ φ' h' := by
  have hk : ∀ a ∈ fr env, ∀ o, s.heap.get? a = some o → ∃ o', h'.get? a = some o' ∧ Sim o o' := fun a ha o e => t.keep a o e (L.own a ha).1 (fun h => nomatch h)
  refine ⟨L.kind, L.glob, L.blt, ?_, fun a ha => ⟨fun h => ?_, (L.own a ha).2⟩, fun x c hm => ?_, L.apart, fun x v hx => ?_, L.frs.step t, L.top⟩
  · obtain ⟨m, n⟩ := L.ns; exact ⟨m, Ns.upTo n (hk _ (.head _))⟩
  · rcases t.fresh a h with h1 | h1
    · exact (L.own a ha).1 h1
    · obtain ⟨o, e, _⟩ := L.there ha; rw [e] at h1; cases h1
  · obtain ⟨v, n⟩ := L.cells x c hm; exact ⟨v, IsCell.upTo n (hk _ (mem_fr_cell hm))⟩
  · obtain ⟨val, hb, hv⟩ := L.val x v hx
    refine ⟨val, ?_, hv.step G t⟩
    rcases hb with ⟨k, m, n, e⟩ | ⟨k, c, e, n⟩
    · exact .inl ⟨k, m, Ns.upTo n (hk _ (.head _)), e⟩
    · exact .inr ⟨k, c, e, IsCell.upTo n (hk _ (mem_fr_cell (mem_of_lookup e)))⟩
theorem Loc.weaken {h : Heap} (L : Loc A B env ρ φ h) (hs : ∀ x v, ρ'.lookup x = some v → ρ.lookup x = some v) : Loc A B env ρ' φ h :=
  ⟨L.kind, L.glob, L.blt, L.ns, L.own, L.cells, L.apart, fun x v hx => L.val x v (hs x v hx), L.frs, L.top⟩

theorem fr_notStill {h : Heap} (L : Loc A B env ρ φ h) : ∀ a ∈ fr env, ∀ o, h.get? a = some o → ¬ Still o := fun a ha o e => by
  obtain ⟨o', e', hs⟩ := L.there ha
  rw [e'] at e; cases e; exact hs
end

abbrev XT := Value → List Addr → List AObj → Shared → Prop

section
variable (prog : Program) (w : World) (B : Shared)
def Post {α : Type} (D φ : List Addr) (s : Shared) (Q : α → List Addr → List AObj → Shared → Prop) : α → Shared → Prop :=
  fun a s' => ∃ φ' σ', Step D φ s.heap φ' s'.heap ∧ St prog w B φ' σ' s' ∧ Q a φ' σ' s'
def vQ (Q : V → List AObj → Prop) : Value → List Addr → List AObj → Shared → Prop := fun v φ' σ' s' => ∃ x, Val φ' s'.heap x v ∧ Q x σ'
def bQ {α : Type} (Q : α → List AObj → Prop) : α → List Addr → List AObj → Shared → Prop := fun b _ σ' _ => Q b σ'

/-- a computation from a state -/
def W {α : Type} (A : Around) (t : Sem α) (φ : List Addr) (s : Shared) (Q : α → List Addr → List AObj → Shared → Prop) (X : XT) : Prop :=
  wpAny (model prog w) A t (Post prog w B [] φ s Q) (Post prog w B [] φ s X) s
/-- an expression -/
def WE (A : Around) (env : Env) (e : Expr) (ρ : List (Str × V)) (σ : List AObj) (Q : V → List AObj → Prop) (X : XT) : Prop :=
  ∀ φ s, St prog w B φ σ s → Loc A B env ρ φ s.heap → W prog w B A (eval e env) φ s (vQ Q) X
/-- a test -/
def WT (A : Around) (env : Env) (e : Expr) (ρ : List (Str × V)) (σ : List AObj) (Q : Bool → List AObj → Prop) (X : XT) : Prop :=
  ∀ φ s, St prog w B φ σ s → Loc A B env ρ φ s.heap → W prog w B A (isTrue e env (eval e env)) φ s (bQ Q) X
/-- a row of expressions -/
def WEs (A : Around) (env : Env) (es : List Expr) (ρ : List (Str × V)) (σ : List AObj) (Q : List V → List AObj → Prop) (X : XT) : Prop :=
  ∀ pos φ s, St prog w B φ σ s → Loc A B env ρ φ s.heap → W prog w B A (spliced (backTo pos (starEach es env))) φ s (fun vs φ' σ' s' => ∃ xs, Vals φ' s'.heap xs vs ∧ Q xs σ') X
def W1 {α : Type} (A : Around) (t : Value → Sem α) (x : V) (σ : List AObj) (Q : α → List Addr → List AObj → Shared → Prop) (X : XT) : Prop :=
  ∀ φ s v, St prog w B φ σ s → Val φ s.heap x v → W prog w B A (t v) φ s Q X
def W2 (A : Around) (t : Value → Value → Sem Value) (x y : V) (σ : List AObj) (Q : V → List AObj → Prop) (X : XT) : Prop :=
  ∀ φ s v u, St prog w B φ σ s → Val φ s.heap x v → Val φ s.heap y u → W prog w B A (t v u) φ s (vQ Q) X
/-- a call -/
def WC (A : Around) (f : Value) (xs : List V) (σ : List AObj) (Q : V → List AObj → Prop) (X : XT) : Prop :=
  ∀ φ s vs, St prog w B φ σ s → Frs A B φ s.heap → Vals φ s.heap xs vs → W prog w B A (call f vs) φ s (vQ Q) X
end

section
variable {prog : Program} {w : World} {B : Shared} {φ φ₁ : List Addr} {σ : List AObj} {s s₁ : Shared} {env : Env} {ρ : List (Str × V)} {A : Around} {X : XT}

theorem Post.trans {α : Type} {Q : α → List Addr → List AObj → Shared → Prop} {a : α} {s' : Shared} (t : Step [] φ s.heap φ₁ s₁.heap) (h : Post prog w B [] φ₁ s₁ Q a s') : Post prog w B [] φ s Q a s' := by
  obtain ⟨φ', σ', t', G', q⟩ := h
  exact ⟨φ', σ', t.trans0 t', G', q⟩
/-- use of a computation in a later state -/
theorem W.use {α : Type} {t : Sem α} {Q : α → List Addr → List AObj → Shared → Prop} {R : α → Shared → Prop} (h : W prog w B A t φ₁ s₁ Q X) (t₁ : Step [] φ s.heap φ₁ s₁.heap)
    (k : ∀ a s₂ φ₂ σ₂, Step [] φ₁ s₁.heap φ₂ s₂.heap → Step [] φ s.heap φ₂ s₂.heap → St prog w B φ₂ σ₂ s₂ → Q a φ₂ σ₂ s₂ → R a s₂) : wpAny (model prog w) A t R (Post prog w B [] φ s X) s₁ :=
  wpAny_mono h (fun a s₂ ⟨φ₂, σ₂, t₂, G₂, q⟩ => k a s₂ φ₂ σ₂ t₂ (t₁.trans0 t₂) G₂ q) fun e s' hx => hx.trans t₁
theorem W.last {α : Type} {t : Sem α} {Q : α → List Addr → List AObj → Shared → Prop} (h : W prog w B A t φ₁ s₁ Q X) (t₁ : Step [] φ s.heap φ₁ s₁.heap) : wpAny (model prog w) A t (Post prog w B [] φ s Q) (Post prog w B [] φ s X) s₁ :=
  h.use t₁ fun _ _ _ _ _ t G q => ⟨_, _, t, G, q⟩
/-- an end without a change -/
theorem Post.here {α : Type} {Q : α → List Addr → List AObj → Shared → Prop} {a : α} (G : St prog w B φ σ s) (q : Q a φ σ s) : Post prog w B [] φ s Q a s := ⟨φ, σ, .refl .., G, q⟩
theorem St.toks (G : St prog w B φ σ s) (t : Nat) : St prog w B φ σ { s with toks := t } := G.keeps fun _ _ e => e
theorem Post.tok {α : Type} {Q : α → List Addr → List AObj → Shared → Prop} {a : α} {t : Nat} (G : St prog w B φ σ s) (q : Q a φ σ { s with toks := t }) : Post prog w B [] φ s Q a { s with toks := t } := ⟨φ, σ, .refl .., G.toks t, q⟩

theorem W.mono {α : Type} {t : Sem α} {Q Q' : α → List Addr → List AObj → Shared → Prop} (h : W prog w B A t φ s Q X) (hq : ∀ a φ' σ' s', Q a φ' σ' s' → Q' a φ' σ' s') : W prog w B A t φ s Q' X :=
  wpAny_mono h (fun _ _ ⟨φ', σ', t, G, q⟩ => ⟨φ', σ', t, G, hq _ _ _ _ q⟩) fun _ _ x => x
theorem WC.mono {f : Value} {xs : List V} {Q Q' : V → List AObj → Prop} (h : WC prog w B A f xs σ Q X) (hq : ∀ x σ', Q x σ' → Q' x σ') : WC prog w B A f xs σ Q' X :=
  fun φ s vs G FR hv => (h φ s vs G FR hv).mono fun _ _ _ _ ⟨x, hx, q⟩ => ⟨x, hx, hq _ _ q⟩
theorem WE.mono {e : Expr} {Q Q' : V → List AObj → Prop} (h : WE prog w B A env e ρ σ Q X) (hq : ∀ x σ', Q x σ' → Q' x σ') : WE prog w B A env e ρ σ Q' X :=
  fun φ s G L => (h φ s G L).mono fun _ _ _ _ ⟨x, hx, q⟩ => ⟨x, hx, hq _ _ q⟩

/-! expressions -/
theorem E_int {i : Int} {k : Nat} {pos : Pos} {Q : V → List AObj → Prop} (q : Q (.int i) σ) : WE prog w B A env (.Constant (.int i) k pos) ρ σ Q X :=
  fun φ s G _ => wpAny_Constant_int (Post.tok G ⟨.int i, by rw [Val]; exact ⟨_, rfl⟩, q⟩)
theorem E_str {x : Str} {k : Nat} {pos : Pos} {Q : V → List AObj → Prop} (q : Q (.str x) σ) : WE prog w B A env (.Constant (.str x) k pos) ρ σ Q X :=
  fun φ s G _ => Calls.Constant_str (Post.tok G ⟨.str x, by rw [Val]; exact ⟨_, rfl⟩, q⟩)
theorem E_bool {b : Bool} {k : Nat} {pos : Pos} {Q : V → List AObj → Prop} (q : Q (.bool b) σ) : WE prog w B A env (.Constant (.bool b) k pos) ρ σ Q X :=
  fun φ s G _ => wpAny_Constant_bool (Post.here G ⟨.bool b, by rw [Val], q⟩)
theorem E_none {k : Nat} {pos : Pos} {Q : V → List AObj → Prop} (q : Q .none σ) : WE prog w B A env (.Constant .none k pos) ρ σ Q X :=
  fun φ s G _ => fun _ _ _ => (Post.here G ⟨.none, by rw [Val], q⟩ : Post prog w B [] φ s (vQ Q) .none s)

theorem loadName_Bnd {x : Str} {val : Value} {Q : Value → Shared → Prop} {E : Value → Shared → Prop} {M : Model} (hk : env.scope.kind = .function) (hb : Bnd env s.heap x val) (q : Q val s) (hn : (x == ("__classdict__" : Str)) = false := by decide) :
    wpAny M A (loadName env x) Q E s := by
  rcases hb with ⟨k, m, n, e⟩ | ⟨k | k, c, e, n⟩
  · exact wpAny_loadName_local hk k n e q
  · exact wpAny_loadName_cell hk k e n q
  · exact wpAny_loadName_free hk k e n q hn
theorem E_name {x : Str} {pos : Pos} {v : V} {Q : V → List AObj → Prop} (hx : ρ.lookup x = some v) (q : Q v σ) (hd : (x == ("__debug__" : Str)) = false := by decide) (hn : (x == ("__classdict__" : Str)) = false := by decide) :
    WE prog w B A env (.Name x pos) ρ σ Q X := fun φ s G L => by
  obtain ⟨val, hb, hv⟩ := L.val x v hx
  exact wpAny_Name (loadName_Bnd L.kind hb (Post.here G ⟨v, hv, q⟩) hn) hd
theorem E_global {x : Str} {pos : Pos} {mg : Str → Option Value} {v : Value} {y : V} {Q : V → List AObj → Prop} (hg : B.heap.Ns mainGlobals mg) (hv : mg x = some v) (hy : Val [] B.heap y v) (hx : env.kindOf x = some .globalImplicit) (q : Q y σ)
    (hd : (x == ("__debug__" : Str)) = false := by decide) : WE prog w B A env (.Name x pos) ρ σ Q X := fun φ s G L => by
  refine Name_function_global L.kind hx (loadGlobal_global (mg := mg) (L.glob ▸ hg.keeps G.base) hv (Post.here G ⟨y, ?_, q⟩)) hd
  exact Val.mono (List.nil_prefix) (fun a o e _ => G.base a o e) y hy
theorem E_builtin {x : Str} {pos : Pos} {mg mb : Str → Option Value} {v : Value} {Q : V → List AObj → Prop} (hg : B.heap.Ns mainGlobals mg) (hmiss : mg x = none) (hb : B.heap.Ns builtinsNs mb) (hv : mb x = some v) (hx : env.kindOf x = some .globalImplicit) (q : Q (.raw v) σ)
    (hd : (x == ("__debug__" : Str)) = false := by decide) : WE prog w B A env (.Name x pos) ρ σ Q X := fun φ s G L => by
  refine Name_function_global L.kind hx (loadGlobal_builtin (mg := mg) (mb := mb) (L.glob ▸ hg.keeps G.base) hmiss (L.blt ▸ hb.keeps G.base) hv (Post.here G ⟨.raw v, by rw [Val], q⟩)) hd

theorem E_bin {l r : Expr} {op : Operator} {pos : Pos} {Q : V → List AObj → Prop}
    (h : WE prog w B A env l ρ σ (fun x σ₁ => WE prog w B A env r ρ σ₁ (fun y σ₂ => W2 prog w B A (binaryOp op) x y σ₂ Q X) X) X) : WE prog w B A env (.BinOp l op r pos) ρ σ Q X := fun φ s G L =>
  wpAny_BinOp ((h φ s G L).use (.refl ..) fun a s₁ φ₁ σ₁ t₁ _ G₁ ⟨x, hx, h₁⟩ => (h₁ φ₁ s₁ G₁ (L.step G t₁)).use t₁ fun b s₂ φ₂ σ₂ t₂ t G₂ ⟨y, hy, h₂⟩ => (h₂ φ₂ s₂ a b G₂ (hx.step G₁ t₂) hy).last t)
theorem E_cmp1 {l r : Expr} {op : CmpOp} {pos : Pos} {Q : V → List AObj → Prop}
    (h : WE prog w B A env l ρ σ (fun x σ₁ => WE prog w B A env r ρ σ₁ (fun y σ₂ => W2 prog w B A (compareOp op) x y σ₂ Q X) X) X) (hm : behindInMarks op r = false := by with_unfolding_all rfl) :
    WE prog w B A env (.Compare l [op] [r] pos) ρ σ Q X := fun φ s G L =>
  wpAny_Compare1 ((h φ s G L).use (.refl ..) fun a s₁ φ₁ σ₁ t₁ _ G₁ ⟨x, hx, h₁⟩ => (h₁ φ₁ s₁ G₁ (L.step G t₁)).use t₁ fun b s₂ φ₂ σ₂ t₂ t G₂ ⟨y, hy, h₂⟩ => (h₂ φ₂ s₂ a b G₂ (hx.step G₁ t₂) hy).last t) hm
theorem E_un {x : Expr} {op : UnaryOp} {pos : Pos} {Q : V → List AObj → Prop}
    (h : WE prog w B A env x ρ σ (fun x σ₁ => W1 prog w B A (unaryOp op) x σ₁ (vQ Q) X) X) : WE prog w B A env (.UnaryOp op x pos) ρ σ Q X := fun φ s G L =>
  wpAny_UnaryOp ((h φ s G L).use (.refl ..) fun a s₁ φ₁ σ₁ t₁ _ G₁ ⟨x, hx, h₁⟩ => (h₁ φ₁ s₁ a G₁ hx).last t₁)
/-! tests -/
theorem T_value {e : Expr} {Q : Bool → List AObj → Prop} (h : WE prog w B A env e ρ σ (fun v σ₁ => W1 prog w B A truthy v σ₁ (bQ Q) X) X)
    (he : ∀ whole, isTrue e env whole = (do let v ← whole; standAt e.pos; holding [v] (truthy v)) := by intro _; with_unfolding_all rfl) : WT prog w B A env e ρ σ Q X := fun φ s G L =>
  wpAny_isTrue_value ((h φ s G L).use (.refl ..) fun a s₁ φ₁ σ₁ t₁ _ G₁ ⟨x, hx, h₁⟩ => (h₁ φ₁ s₁ a G₁ hx).last t₁) (he _)
theorem T_not {e : Expr} {pos : Pos} {Q : Bool → List AObj → Prop} (h : WT prog w B A env e ρ σ (fun b σ₁ => Q (!b) σ₁) X) : WT prog w B A env (.UnaryOp .Not e pos) ρ σ Q X := fun φ s G L =>
  wpAny_isTrue_Not ((h φ s G L).use (.refl ..) fun b s₁ φ₁ σ₁ t₁ _ G₁ h₁ => ⟨_, _, t₁, G₁, h₁⟩)
theorem T_cmp1 {l r : Expr} {op : CmpOp} {pos : Pos} {Q : Bool → List AObj → Prop}
    (h : WE prog w B A env l ρ σ (fun x σ₁ => WE prog w B A env r ρ σ₁ (fun y σ₂ => W2 prog w B A (compareOp op) x y σ₂ (fun z σ₃ => W1 prog w B A truthy z σ₃ (bQ Q) X) X) X) X) (hm : behindInMarks op r = false := by with_unfolding_all rfl) :
    WT prog w B A env (.Compare l [op] [r] pos) ρ σ Q X := fun φ s G L =>
  wpAny_isTrue_Compare1 ((h φ s G L).use (.refl ..) fun a s₁ φ₁ σ₁ t₁ _ G₁ ⟨x, hx, h₁⟩ => (h₁ φ₁ s₁ G₁ (L.step G t₁)).use t₁ fun b s₂ φ₂ σ₂ t₂ t G₂ ⟨y, hy, h₂⟩ => (h₂ φ₂ s₂ a b G₂ (hx.step G₁ t₂) hy).use t
    fun c s₃ φ₃ σ₃ t₃ t' G₃ ⟨z, hz, h₃⟩ => (h₃ φ₃ s₃ c G₃ hz).last t') hm
/-- all | any of a row of tests -/
def WTs (prog : Program) (w : World) (B : Shared) (A : Around) (env : Env) (op : BoolOp) (es : List Expr) (ρ : List (Str × V)) (σ : List AObj) (Q : Bool → List AObj → Prop) (X : XT) : Prop :=
  ∀ φ s, St prog w B φ σ s → Loc A B env ρ φ s.heap → W prog w B A (allTrue op es env) φ s (bQ Q) X
theorem T_bool {op : BoolOp} {es : List Expr} {pos : Pos} {Q : Bool → List AObj → Prop} (h : WTs prog w B A env op es ρ σ Q X) : WT prog w B A env (.BoolOp op es pos) ρ σ Q X := fun φ s G L => wpAny_isTrue_BoolOp (h φ s G L)
theorem Ts_and_nil {Q : Bool → List AObj → Prop} (q : Q true σ) : WTs prog w B A env .And [] ρ σ Q X := fun φ s G _ => wpAny_allTrue_And_nil (Post.here G q)
theorem Ts_or_nil {Q : Bool → List AObj → Prop} (q : Q false σ) : WTs prog w B A env .Or [] ρ σ Q X := fun φ s G _ => wpAny_allTrue_Or_nil (Post.here G q)
theorem Ts_and {e : Expr} {es : List Expr} {Q : Bool → List AObj → Prop} (h : WT prog w B A env e ρ σ (fun b σ₁ => if b then WTs prog w B A env .And es ρ σ₁ Q X else Q false σ₁) X) : WTs prog w B A env .And (e :: es) ρ σ Q X := fun φ s G L =>
  wpAny_allTrue_And_cons ((h φ s G L).use (.refl ..) fun b s₁ φ₁ σ₁ t₁ _ G₁ h₁ => by
    cases b
    · exact ⟨_, _, t₁, G₁, h₁⟩
    · exact (h₁ φ₁ s₁ G₁ (L.step G t₁)).last t₁)
theorem Ts_or {e : Expr} {es : List Expr} {Q : Bool → List AObj → Prop} (h : WT prog w B A env e ρ σ (fun b σ₁ => if b then Q true σ₁ else WTs prog w B A env .Or es ρ σ₁ Q X) X) : WTs prog w B A env .Or (e :: es) ρ σ Q X := fun φ s G L =>
  wpAny_allTrue_Or_cons ((h φ s G L).use (.refl ..) fun b s₁ φ₁ σ₁ t₁ _ G₁ h₁ => by
    cases b
    · exact (h₁ φ₁ s₁ G₁ (L.step G t₁)).last t₁
    · exact ⟨_, _, t₁, G₁, h₁⟩)

/-! rows of expressions -/
theorem Es_nil {Q : List V → List AObj → Prop} (q : Q [] σ) : WEs prog w B A env [] ρ σ Q X := fun pos φ s G _ => spliced_nil (Post.here G ⟨[], .nil, q⟩)
theorem Es_cons {e : Expr} {es : List Expr} {Q : List V → List AObj → Prop} (h : WE prog w B A env e ρ σ (fun x σ₁ => WEs prog w B A env es ρ σ₁ (fun xs σ₂ => Q (x :: xs) σ₂) X) X)
    (hs : ∀ r, starEach (e :: r) env = (false, eval e env) :: starEach r env := by intro _; with_unfolding_all rfl) : WEs prog w B A env (e :: es) ρ σ Q X := fun pos φ s G L => by
  rw [hs]
  show wpAny _ _ (spliced ((false, _) :: backTo pos (starEach es env))) _ _ _
  refine spliced_cons ?_
  show wpAny _ _ (eval e env) _ _ _
  refine (h φ s G L).use (.refl ..) fun a s₁ φ₁ σ₁ t₁ _ G₁ ⟨x, hx, h₁⟩ => ?_
  exact (h₁ pos φ₁ s₁ G₁ (L.step G t₁)).use t₁ fun vs s₂ φ₂ σ₂ t₂ t G₂ ⟨xs, hxs, q⟩ => ⟨_, _, t, G₂, x :: xs, .cons (hx.step G₁ t₂) hxs, q⟩

/-- a new tuple -/
theorem E_tuple {es : List Expr} {k : Nat} {pos : Pos} {Q : V → List AObj → Prop} (h : WEs prog w B A env es ρ σ (fun xs σ₁ => xs.length ≤ sizeLine ∧ Q (.tup xs) σ₁) X) : WE prog w B A env (.Tuple es k pos) ρ σ Q X := fun φ s G L =>
  wpAny_Tuple_spliced ((h pos φ s G L).use (.refl ..) fun vs s₁ φ₁ σ₁ t₁ _ G₁ ⟨xs, hxs, hl, q⟩ => ⟨hxs.length ▸ hl, by
    have hk : ∀ b o, s₁.heap.get? b = some o → (s₁.heap.push { cls := .type "tuple", data := .seq vs.toArray }).get? b = some o := fun b o e => Heap.get?_push_of_some _ e
    refine ⟨φ₁, σ₁, t₁.trans0 (.of_keeps hk), G₁.keeps hk, .tup xs, ?_, q⟩
    rw [Val]
    exact ⟨_, vs.toArray, rfl, ⟨_, Heap.get?_push_size _ rfl, rfl, _, rfl⟩, by simpa using hxs.step G₁ (.of_keeps hk)⟩⟩)
/-- a new list -/
theorem E_list {es : List Expr} {pos : Pos} {Q : V → List AObj → Prop} (h : WEs prog w B A env es ρ σ (fun xs σ₁ => xs.length ≤ sizeLine ∧ Q (.ref σ₁.length) (σ₁ ++ [.list xs])) X) : WE prog w B A env (.List es pos) ρ σ Q X := fun φ s G L =>
  wpAny_List_spliced ((h pos φ s G L).use (.refl ..) fun vs s₁ φ₁ σ₁ t₁ _ G₁ ⟨xs, hxs, hl, q⟩ => ⟨hxs.length ▸ hl, by
    have hk : ∀ b o, s₁.heap.get? b = some o → (s₁.heap.push { cls := .type "list", data := .seq vs.toArray }).get? b = some o := fun b o e => Heap.get?_push_of_some _ e
    have hc := get?_size s₁.heap
    have t₂ : Step [] φ₁ s₁.heap (φ₁ ++ [s₁.heap.objs.size]) (s₁.heap.push { cls := .type "list", data := .seq vs.toArray }) := Step.alloc (s' := { s₁ with heap := s₁.heap.push { cls := .type "list", data := .seq vs.toArray } }) hc hk
    refine ⟨φ₁ ++ [s₁.heap.objs.size], σ₁ ++ [.list xs], t₁.trans0 t₂, G₁.alloc (ob := .list xs) hc hk ⟨vs.toArray, 0, Heap.get?_push_size _ rfl, by simpa using hxs.step G₁ t₂⟩ G₁.fresh G₁.sizeNe, .ref σ₁.length, ?_, q⟩
    rw [Val, ← G₁.len]
    exact ⟨_, rfl, by simp⟩⟩)
end
end Mine

set_option autoImplicit false
set_option linter.unusedVariables false
namespace Mine
open PySem PySem.Calls PyProof.Rows

theorem dict_mapFields (f : Array Value → Array Value) (o : Obj) : (Obj.mapFields f o).dict = o.dict := by
  obtain ⟨c, d, dt, sl⟩ := o
  cases dt <;> rfl
/-- the traceback stands where the exception says -/
def TbOk (σ : List AObj) (t : Option Nat) : Prop := ∀ k, t = some k → σ[k]? = some .tb
/-- an exception of an own class flies; ahead of it stands τ -/
def xQ (R : Addr → List AObj → Prop) : XT := fun e φ' σ' _ => ∃ C t τ junk a, σ' = τ ++ .exc C t :: junk ∧ TbOk σ' t ∧ e = .ref a ∧ φ'[τ.length]? = some a ∧ R C τ
/-- the frame stands too -/
def xL (A : Around) (B : Shared) (env : Env) (l : List (Str × V)) (X : XT) : XT := fun e φ' σ' s' => X e φ' σ' s' ∧ Loc A B env l φ' s'.heap

section
variable {prog : Program} {w : World} {B : Shared} {φ φ₁ : List Addr} {σ τ junk : List AObj} {s s₁ : Shared} {env : Env} {ρ : List (Str × V)} {A : Around} {X : XT} {C : Addr} {t : Option Nat} {ea : Addr} {E : Value → Shared → Prop}

theorem St.butL {s' : Shared} {own : List Addr} (G : St prog w B φ σ s) (hs : ∀ b o, b ∉ own → s.heap.get? b = some o → s'.heap.get? b = some o) (hc : ∀ c ∈ own, c ∉ φ) (hb : ∀ c ∈ own, B.heap.get? c = none) (hn : ∀ c ∈ own, ∀ o, s.heap.get? c = some o → ¬ Still o)
    (hg : s'.gens = s.gens := by rfl) (ho : s'.os = s.os := by rfl) : St prog w B φ σ s' := by
  refine ⟨fun b o e => hs b o (fun h => by rw [hb b h] at e; cases e) (G.base b o e), G.new, G.nodup, G.len, fun k a ob h1 h2 => ?_, hg.trans G.gens, ho.trans G.os, G.sys⟩
  refine (G.objs k a ob h1 h2).mono (List.prefix_refl _) (fun a o e hst => hs a o (fun h => hn a h o e hst) e) fun o e => hs a o (fun h => hc a h (List.mem_of_getElem? h1)) e

theorem FrOk.fun_ {h : Heap} : ∀ {l : List Env}, (∀ e ∈ l, FrOk B φ h e) → h.FunFrames B.heap l
  | [], _ => trivial
  | e :: r, f => by
    obtain ⟨h1, L, o, es, n, h2, h3, h4, h5, h6⟩ := f e (.head _)
    exact ⟨h1, ⟨L, o, h2, h4, h5, fun vs q => by rw [h6] at q; cases q⟩, FrOk.fun_ fun e he => f e (.tail _ he)⟩

/-- the frame's object is taken: slots alone change -/
theorem frameOf_W {Q : Value → Shared → Prop} (G : St prog w B φ σ s) (L : Loc A B env ρ φ s.heap)
    (k : ∀ F h', env.frame = some F → Step [] φ s.heap φ h' → St prog w B φ σ { s with heap := h' } → Q (.ref F) { s with heap := h' }) : wpAny (model prog w) A (frameOf env) Q E s := by
  obtain ⟨l, hl, hf⟩ := L.frs
  obtain ⟨e₀, r, h0, h1⟩ := L.top
  rw [hl] at h0; cases h0
  obtain ⟨_, F, o, es, n, hF, _⟩ := hf e₀ (.head _)
  unfold PySem.frameOf
  refine wpAny_bind (wpAny_frameEnvs hl ?_)
  have hdw : ((e₀ :: r).dropWhile fun x => x.frame != env.frame) = e₀ :: r := by simp [List.dropWhile, h1]
  rw [hdw]
  unfold frameObject
  refine wpAny_bind (wpAny_bind (wpAny_readyFrames_fun (FrOk.fun_ hf) fun h₁ hs => wpAny_pure ?_))
  rw [hF]
  have hm : ∀ c ∈ (e₀ :: r).filterMap (·.frame), c ∉ φ ∧ B.heap.get? c = none ∧ ∃ o es n, s.heap.get? c = some o ∧ o.data = .dict es n := fun c hc => by
    obtain ⟨e, he, hc⟩ := List.mem_filterMap.mp hc
    obtain ⟨_, L, o, es, n, h2, h3, h4, h5, h6⟩ := hf e he
    rw [h2] at hc; cases hc
    exact ⟨h3, h4, o, es, n, h5, h6⟩
  refine wpAny_pure (k F h₁ (h1 ▸ hF) ⟨List.prefix_refl _, fun _ h => .inl h, fun b o e h1 _ => ?_⟩ (G.butL (s' := { s with heap := h₁ }) (fun b o hb e => (hs.2.1 b hb).trans e) (fun c hc => (hm c hc).1) (fun c hc => (hm c hc).2.1) fun c hc o e => ?_))
  · by_cases hb : b ∈ (e₀ :: r).filterMap (·.frame)
    · obtain ⟨_, _, o', es, n, e', hd⟩ := hm b hb
      rw [e'] at e; cases e
      obtain ⟨sl, e2⟩ := hs.2.2 b _ e'
      exact ⟨_, e2, .inr ⟨fun h => h es n hd, rfl, rfl, rfl⟩⟩
    · exact ⟨o, (hs.2.1 b hb).trans e, .refl o⟩
  · obtain ⟨_, _, o', es, n, e', hd⟩ := hm c hc
    rw [e'] at e; cases e
    exact notStill_dict hd

theorem St.exc_ (G : St prog w B φ (τ ++ .exc C t :: junk) s) (ha : φ[τ.length]? = some ea) : ObjR prog w φ s.heap ea (.exc C t) :=
  G.objs _ _ _ ha (by simp)

theorem idx_up {k : Nat} {a : Addr} (c : Addr) (h : φ[k]? = some a) : (φ ++ [c])[k]? = some a := by
  rw [List.getElem?_append_left (List.getElem?_eq_some_iff.mp h).1]; exact h

/-- the place of the frame is put into the exception's traceback -/
theorem note_tail {Q : Unit → Shared → Prop} {head : Value} {b : Bool} {F : Addr} (hF : env.frame = some F) (G : St prog w B φ (τ ++ .exc C t :: junk) s) (L : Loc A B env ρ φ s.heap) (ha : φ[τ.length]? = some ea)
    (k : ∀ φ' t' junk' h', Step [] φ s.heap φ' h' → TbOk (τ ++ .exc C (some t') :: junk') (some t') → φ'[τ.length]? = some ea → St prog w B φ' (τ ++ .exc C (some t') :: junk') { s with heap := h' } → Q () { s with heap := h' }) :
    wpAny (model prog w) A (do setField (.ref ea) 1 (← EntryCells.newEntry head (← frameOf env) .none (rawInt F) .none (← entryPlaceOf F b))) Q E s := by
  refine wpAny_bind (frameOf_W G L fun F' h₁ hF' t₁ G₁ => ?_)
  rw [hF] at hF'; cases hF'
  refine wpAny_bind (wpAny_entryPlaceOf fun pl hpl => ?_)
  unfold EntryCells.newEntry newFields
  refine wpAny_bind (wpAny_newObj_type ?_ (hpl.sizeOk5 _ _ _ _ _))
  obtain ⟨o, vs, e1, hc, hd, ht⟩ := G₁.exc_ ha
  dsimp only at e1
  have hsz : 1 < vs.size := by
    cases t with
    | none => exact (Array.getElem?_eq_some_iff.mp ht).1
    | some j => obtain ⟨T, ht, _⟩ := ht; exact (Array.getElem?_eq_some_iff.mp ht).1
  generalize hob : ({ cls := .type "traceback", dict := none, data := .fields ([head, .ref F, .none, rawInt F, .none] ++ (if pl.isEmpty then List.replicate 6 Value.none else pl)).toArray } : Obj) = ob
  have hk2 : ∀ b o, h₁.get? b = some o → (h₁.push ob).get? b = some o := fun b o e => Heap.get?_push_of_some _ e
  have hnew : (h₁.push ob).get? h₁.objs.size = some ob := Heap.get?_push_size _ (by subst hob; rfl)
  have G₂ : St prog w B (φ ++ [h₁.objs.size]) (τ ++ .exc C t :: junk ++ [.tb]) { s with heap := h₁.push ob } :=
    G₁.alloc (s' := { s with heap := h₁.push ob }) (get?_size _) hk2 (by subst hob; exact ⟨_, _, rawInt F, hnew, rfl, rfl, by simp⟩) G₁.fresh G₁.sizeNe
  have t₂ : Step [] φ h₁ (φ ++ [h₁.objs.size]) (h₁.push ob) := Step.alloc (s := { s with heap := h₁ }) (s' := { s with heap := h₁.push ob }) (get?_size _) hk2
  have ha2 := idx_up h₁.objs.size ha
  have he2 := hk2 _ _ e1
  refine wpAny_setField he2 hd hsz ?_
  have hd3 := Obj.data_mapFields hd (·.setIfInBounds 1 (Value.ref h₁.objs.size))
  have he3 := Heap.get?_update_self (Obj.mapFields (·.setIfInBounds 1 (Value.ref h₁.objs.size))) he2 (Obj.isFreed_of_fields hd3)
  have hsb : Heap.SameBut ea (h₁.push ob) ((h₁.push ob).update ea (Obj.mapFields (·.setIfInBounds 1 (Value.ref h₁.objs.size)))) := Heap.SameBut.update ..
  have hlen : φ.length = (τ ++ AObj.exc C t :: junk).length := G.len
  have hidx : (φ ++ [h₁.objs.size])[(τ ++ AObj.exc C t :: junk).length]? = some h₁.objs.size := by rw [← hlen]; simp
  have G₃ := G₂.update (s' := { s with heap := (h₁.push ob).update ea (Obj.mapFields (·.setIfInBounds 1 (Value.ref h₁.objs.size))) }) (ob := .exc C (some (τ ++ AObj.exc C t :: junk).length)) ha2 hsb
    ⟨_, _, he3, ⟨(Obj.cls_mapFields _ _).trans hc.1, (dict_mapFields _ _).trans hc.2⟩, hd3, _, by simp [hsz], hidx⟩
  have es : (τ ++ AObj.exc C t :: junk ++ [AObj.tb]).set τ.length (.exc C (some (τ ++ AObj.exc C t :: junk).length)) = τ ++ .exc C (some (τ ++ AObj.exc C t :: junk).length) :: (junk ++ [.tb]) := by
    rw [List.append_assoc, List.set_append_right _ _ (Nat.le_refl _), Nat.sub_self]; rfl
  rw [es] at G₃
  refine k _ _ _ _ (t₁.trans0 (t₂.trans0 (Step.update hsb (List.mem_of_getElem? ha2)))) (fun j hj => ?_) ha2 G₃
  cases hj
  rw [List.getElem?_append_right (by simp)]
  simp [Nat.add_sub_cancel_left]

/-- an exception is noted in its frame -/
theorem note_W {Q : Unit → Shared → Prop} (G : St prog w B φ (τ ++ .exc C t :: junk) s) (htb : TbOk (τ ++ .exc C t :: junk) t) (L : Loc A B env ρ φ s.heap) (ha : φ[τ.length]? = some ea)
    (k : ∀ φ' t' junk' h', Step [] φ s.heap φ' h' → TbOk (τ ++ .exc C (some t') :: junk') (some t') → φ'[τ.length]? = some ea → St prog w B φ' (τ ++ .exc C (some t') :: junk') { s with heap := h' } → Q () { s with heap := h' }) :
    wpAny (model prog w) A (noteFrame (.ref ea) env) Q E s := by
  have hF : ∃ F, env.frame = some F := by
    obtain ⟨l, hl, hf⟩ := L.frs
    obtain ⟨e₀, r, h0, h1⟩ := L.top
    rw [hl] at h0; cases h0
    obtain ⟨_, F, _, _, _, hF, _⟩ := hf e₀ (.head _)
    exact ⟨F, h1 ▸ hF⟩
  obtain ⟨F, hF⟩ := hF
  obtain ⟨o, vs, e1, hc, hd, ht⟩ := G.exc_ ha
  unfold noteFrame
  simp only [hF]
  cases t with
  | none =>
    refine wpAny_bind (wpAny_field e1 hd ht ?_)
    rw [if_neg (by decide)]
    exact note_tail hF G L ha k
  | some j =>
    obtain ⟨T, ht, hT⟩ := ht
    refine wpAny_bind (wpAny_field e1 hd ht ?_)
    rw [if_pos (show (Value.ref T != Value.none) = true from by simp)]
    obtain ⟨oT, ts, x, eT, hcT, hdT, h3⟩ := G.objs _ _ _ hT (htb j rfl)
    refine wpAny_bind (wpAny_field eT hdT h3 ?_)
    by_cases hx : (x == rawInt F) = true
    · rw [if_pos hx]
      exact wpAny_pure (k φ j junk s.heap (.refl ..) htb ha G)
    · rw [if_neg hx]
      refine wpAny_bind (wpAny_setField eT hdT (Array.getElem?_eq_some_iff.mp h3).1 ?_)
      have hd3 := Obj.data_mapFields hdT (·.setIfInBounds 3 Value.none)
      have he3 := Heap.get?_update_self (Obj.mapFields (·.setIfInBounds 3 Value.none)) eT (Obj.isFreed_of_fields hd3)
      have hsb : Heap.SameBut T s.heap (s.heap.update T (Obj.mapFields (·.setIfInBounds 3 Value.none))) := Heap.SameBut.update ..
      have G₁ := G.update (s' := { s with heap := s.heap.update T (Obj.mapFields (·.setIfInBounds 3 Value.none)) }) (ob := .tb) hT hsb ⟨_, _, .none, he3, (Obj.cls_mapFields _ _).trans hcT, hd3, by simp [(Array.getElem?_eq_some_iff.mp h3).1]⟩
      have es : (τ ++ AObj.exc C (some j) :: junk).set j .tb = τ ++ AObj.exc C (some j) :: junk := by
        have hj := htb j rfl
        obtain ⟨hlt, he⟩ := List.getElem?_eq_some_iff.mp hj
        refine List.ext_getElem? fun i => ?_
        by_cases hi : i = j
        · subst hi; rw [List.getElem?_set_self hlt, hj]
        · rw [List.getElem?_set_ne (Ne.symm hi)]
      rw [es] at G₁
      have t₁ : Step [] φ s.heap φ (s.heap.update T (Obj.mapFields (·.setIfInBounds 3 Value.none))) := Step.update hsb (List.mem_of_getElem? hT)
      exact note_tail (s := { s with heap := s.heap.update T (Obj.mapFields (·.setIfInBounds 3 Value.none)) }) hF G₁ (L.step G t₁) ha fun φ' t' junk' h' t₂ hb ha' G' => k φ' t' junk' h' (t₁.trans0 t₂) hb ha' G'

theorem flight_W {Q : Unit → Shared → Prop} {j : Nat} {fr : Option Addr} (G : St prog w B φ (τ ++ .exc C (some j) :: junk) s) (htb : TbOk (τ ++ .exc C (some j) :: junk) (some j)) (ha : φ[τ.length]? = some ea)
    (k : ∀ h', Step [] φ s.heap φ h' → St prog w B φ (τ ++ .exc C (some j) :: junk) { s with heap := h' } → Q () { s with heap := h' }) :
    wpAny (model prog w) A (setFlight (.ref ea) fr) Q E s := by
  obtain ⟨o, vs, e1, hc, hd, T, ht, hT⟩ := G.exc_ ha
  obtain ⟨oT, ts, x, eT, hcT, hdT, h3⟩ := G.objs _ _ _ hT (htb j rfl)
  unfold setFlight
  refine wpAny_bind (wpAny_field e1 hd ht ?_)
  rw [if_pos (show (Value.ref T != Value.none) = true from by simp)]
  generalize (fr.elim Value.none fun f => rawInt f) = u
  refine wpAny_setField eT hdT (Array.getElem?_eq_some_iff.mp h3).1 ?_
  have hd3 := Obj.data_mapFields hdT (·.setIfInBounds 3 u)
  have he3 := Heap.get?_update_self (Obj.mapFields (·.setIfInBounds 3 u)) eT (Obj.isFreed_of_fields hd3)
  have hsb : Heap.SameBut T s.heap (s.heap.update T (Obj.mapFields (·.setIfInBounds 3 u))) := Heap.SameBut.update ..
  have G₁ := G.update (s' := { s with heap := s.heap.update T (Obj.mapFields (·.setIfInBounds 3 u)) }) (ob := .tb) hT hsb ⟨_, _, u, he3, (Obj.cls_mapFields _ _).trans hcT, hd3, by simp [(Array.getElem?_eq_some_iff.mp h3).1]⟩
  have es : (τ ++ AObj.exc C (some j) :: junk).set j .tb = τ ++ AObj.exc C (some j) :: junk := by
    have hj := htb j rfl
    obtain ⟨hlt, he⟩ := List.getElem?_eq_some_iff.mp hj
    refine List.ext_getElem? fun i => ?_
    by_cases hi : i = j
    · subst hi; rw [List.getElem?_set_self hlt, hj]
    · rw [List.getElem?_set_ne (Ne.symm hi)]
  rw [es] at G₁
  exact k _ (Step.update hsb (List.mem_of_getElem? hT)) G₁

/-- an exception leaves the frame -/
theorem leave_W {Q : Unit → Shared → Prop} (G : St prog w B φ (τ ++ .exc C t :: junk) s) (htb : TbOk (τ ++ .exc C t :: junk) t) (L : Loc A B env ρ φ s.heap) (ha : φ[τ.length]? = some ea)
    (k : ∀ φ' t' junk' h', Step [] φ s.heap φ' h' → TbOk (τ ++ .exc C (some t') :: junk') (some t') → φ'[τ.length]? = some ea → St prog w B φ' (τ ++ .exc C (some t') :: junk') { s with heap := h' } → Q () { s with heap := h' }) :
    wpAny (model prog w) A (leaving env (.ref ea)) Q E s := by
  unfold leaving
  exact wpAny_bind (note_W G htb L ha fun φ' t' junk' h' t₁ hb ha' G' => flight_W G' hb ha' fun h'' t₂ G'' => k φ' t' junk' h'' (t₁.trans0 t₂) hb ha' G'')

/-- an exception comes out of an own activation of the frame (a loop) -/
theorem came_W {Q : Value → Shared → Prop} (G : St prog w B φ (τ ++ .exc C t :: junk) s) (htb : TbOk (τ ++ .exc C t :: junk) t) (L : Loc A B env ρ φ s.heap) (ha : φ[τ.length]? = some ea)
    (k : ∀ φ' t' junk' h', Step [] φ s.heap φ' h' → TbOk (τ ++ .exc C (some t') :: junk') (some t') → φ'[τ.length]? = some ea → St prog w B φ' (τ ++ .exc C (some t') :: junk') { s with heap := h' } → Q (.ref ea) { s with heap := h' }) :
    notedBy (model prog w) A env (cameBackBy (model prog w) A env Q) (.ref ea) s := by
  refine note_W G htb L ha fun φ' t' junk' h' t₁ hb ha' G' => ?_
  obtain ⟨o, vs, e1, hc, hd, T, ht, hT⟩ := G'.exc_ ha'
  refine wpAny_bind (wpAny_field e1 hd ht ?_)
  rw [if_neg (show ¬ ((Value.ref T == Value.none) = true) from by simp)]
  exact flight_W G' hb ha' fun h'' t₂ G'' => k φ' t' junk' h'' (t₁.trans0 t₂) hb ha' G''
end
end Mine

set_option autoImplicit false
set_option linter.unusedVariables false
namespace Mine
open PySem PySem.Calls PyProof.Rows

inductive Fl where
  | next
  | brk
  | cont
  | ret (x : V)

def FlR (φ : List Addr) (h : Heap) : Fl → Flow → Prop
  | .next, f => f = .next
  | .brk, f => f = .brk
  | .cont, f => f = .cont
  | .ret x, f => ∃ v, f = .ret v ∧ Val φ h x v

section
variable (prog : Program) (w : World) (B : Shared)
def fQ (A : Around) (env : Env) (Q : Fl → List (Str × V) → List AObj → Prop) : Flow → List Addr → List AObj → Shared → Prop :=
  fun f φ' σ' s' => ∃ fl ρ', FlR φ' s'.heap fl f ∧ Loc A B env ρ' φ' s'.heap ∧ Q fl ρ' σ'
/-- a statement -/
def WX1 (A : Around) (env : Env) (st : Stmt) (ρ : List (Str × V)) (σ : List AObj) (Q : Fl → List (Str × V) → List AObj → Prop) (X : XT) : Prop :=
  ∀ φ s, St prog w B φ σ s → Loc A B env ρ φ s.heap → wpAny (model prog w) A (exec st env) (Post prog w B (fr env) φ s (fQ B A env Q)) (Post prog w B (fr env) φ s X) s
/-- a row of statements -/
def WX (A : Around) (env : Env) (ss : List Stmt) (ρ : List (Str × V)) (σ : List AObj) (Q : Fl → List (Str × V) → List AObj → Prop) (X : XT) : Prop :=
  ∀ φ s, St prog w B φ σ s → Loc A B env ρ φ s.heap → wpAny (model prog w) A (execs ss env) (Post prog w B (fr env) φ s (fQ B A env Q)) (Post prog w B (fr env) φ s X) s
end

section
variable {prog : Program} {w : World} {B : Shared} {φ φ₁ φ₂ : List Addr} {σ : List AObj} {s s₁ : Shared} {env : Env} {ρ ρ₁ : List (Str × V)} {A : Around} {X : XT}

theorem Step.transF {h h₁ h₂ : Heap} (t : Step (fr env) φ h φ₁ h₁) (u : Step (fr env) φ₁ h₁ φ₂ h₂) (L : Loc A B env ρ₁ φ₁ h₁) : Step (fr env) φ h φ₂ h₂ :=
  t.trans u fun a ha => .inl ⟨(L.own a ha).1, fun h => by
    rcases u.fresh a h with h1 | h1
    · exact (L.own a ha).1 h1
    · obtain ⟨o, e, _⟩ := L.there ha; rw [e] at h1; cases h1⟩

/-- behind an expression: the rest of a statement -/
theorem WE.then {e : Expr} {Q : V → List AObj → Prop} {R : Value → Shared → Prop} (h : WE prog w B A env e ρ σ Q X) (G : St prog w B φ σ s) (L : Loc A B env ρ φ s.heap)
    (k : ∀ v s₁ φ₁ σ₁ x, Step [] φ s.heap φ₁ s₁.heap → St prog w B φ₁ σ₁ s₁ → Loc A B env ρ φ₁ s₁.heap → Val φ₁ s₁.heap x v → Q x σ₁ → R v s₁) :
    wpAny (model prog w) A (eval e env) R (Post prog w B (fr env) φ s X) s :=
  wpAny_mono (h φ s G L) (fun v s₁ ⟨φ₁, σ₁, t, G₁, x, hx, q⟩ => k v s₁ φ₁ σ₁ x t G₁ (L.step G t) hx q) fun e s' ⟨φ', σ', t, G', x⟩ => ⟨φ', σ', t.nilD, G', x⟩
theorem WT.then {e : Expr} {Q : Bool → List AObj → Prop} {R : Bool → Shared → Prop} (h : WT prog w B A env e ρ σ Q X) (G : St prog w B φ σ s) (L : Loc A B env ρ φ s.heap)
    (k : ∀ b s₁ φ₁ σ₁, Step [] φ s.heap φ₁ s₁.heap → St prog w B φ₁ σ₁ s₁ → Loc A B env ρ φ₁ s₁.heap → Q b σ₁ → R b s₁) :
    wpAny (model prog w) A (isTrue e env (eval e env)) R (Post prog w B (fr env) φ s X) s :=
  wpAny_mono (h φ s G L) (fun v s₁ ⟨φ₁, σ₁, t, G₁, q⟩ => k v s₁ φ₁ σ₁ t G₁ (L.step G t) q) fun e s' ⟨φ', σ', t, G', x⟩ => ⟨φ', σ', t.nilD, G', x⟩

theorem Post.transF {α : Type} {Q : α → List Addr → List AObj → Shared → Prop} {a : α} {s' : Shared} (t : Step (fr env) φ s.heap φ₁ s₁.heap) (L : Loc A B env ρ₁ φ₁ s₁.heap) (h : Post prog w B (fr env) φ₁ s₁ Q a s') : Post prog w B (fr env) φ s Q a s' := by
  obtain ⟨φ', σ', t', G', q⟩ := h
  exact ⟨φ', σ', t.transF t' L, G', q⟩
theorem WX.last {ss : List Stmt} {Q : Fl → List (Str × V) → List AObj → Prop} {σ₁ : List AObj} (h : WX prog w B A env ss ρ₁ σ₁ Q X) (G₁ : St prog w B φ₁ σ₁ s₁) (L₁ : Loc A B env ρ₁ φ₁ s₁.heap) (t : Step (fr env) φ s.heap φ₁ s₁.heap) :
    wpAny (model prog w) A (execs ss env) (Post prog w B (fr env) φ s (fQ B A env Q)) (Post prog w B (fr env) φ s X) s₁ :=
  wpAny_mono (h φ₁ s₁ G₁ L₁) (fun _ _ p => p.transF t L₁) fun _ _ p => p.transF t L₁

/-! statements -/
theorem X_nil {Q : Fl → List (Str × V) → List AObj → Prop} (q : Q .next ρ σ) : WX prog w B A env [] ρ σ Q X :=
  fun φ s G L => wpAny_execs_nil ⟨φ, σ, .refl .., G, .next, ρ, rfl, L, q⟩
/-- the rest behind a statement -/
def seqQ (prog : Program) (w : World) (B : Shared) (A : Around) (env : Env) (rest : List Stmt) (Q : Fl → List (Str × V) → List AObj → Prop) (X : XT) : Fl → List (Str × V) → List AObj → Prop
  | .next, ρ', σ' => WX prog w B A env rest ρ' σ' Q X
  | f, ρ', σ' => Q f ρ' σ'
theorem X_cons {st : Stmt} {rest : List Stmt} {Q : Fl → List (Str × V) → List AObj → Prop} (h : WX1 prog w B A env st ρ σ (seqQ prog w B A env rest Q X) X) : WX prog w B A env (st :: rest) ρ σ Q X :=
  fun φ s G L => wpAny_execs_cons (wpAny_mono (h φ s G L) (fun f s₁ ⟨φ₁, σ₁, t₁, G₁, fl, ρ₁, hf, L₁, q⟩ => by
    cases fl with
    | next => obtain rfl : f = .next := hf; exact WX.last q G₁ L₁ t₁
    | brk => obtain rfl : f = .brk := hf; exact ⟨φ₁, σ₁, t₁, G₁, .brk, ρ₁, rfl, L₁, q⟩
    | cont => obtain rfl : f = .cont := hf; exact ⟨φ₁, σ₁, t₁, G₁, .cont, ρ₁, rfl, L₁, q⟩
    | ret x => obtain ⟨v, rfl, hv⟩ := hf; exact ⟨φ₁, σ₁, t₁, G₁, .ret x, ρ₁, ⟨v, rfl, hv⟩, L₁, q⟩) fun _ _ x => x)
theorem X_return {e : Expr} {pos : Pos} {Q : Fl → List (Str × V) → List AObj → Prop} (h : WE prog w B A env e ρ σ (fun x σ₁ => Q (.ret x) ρ σ₁) X) : WX1 prog w B A env (.Return (some e) pos) ρ σ Q X :=
  fun φ s G L => wpAny_Return_some (h.then G L fun v s₁ φ₁ σ₁ x t G₁ L₁ hx q => ⟨φ₁, σ₁, t.nilD, G₁, .ret x, ρ, ⟨v, rfl, hx⟩, L₁, q⟩)
theorem X_expr {e : Expr} {pos : Pos} {Q : Fl → List (Str × V) → List AObj → Prop} (h : WE prog w B A env e ρ σ (fun _ σ₁ => Q .next ρ σ₁) X)
    (hi : interactive env = false := by with_unfolding_all rfl) (hs : swapsWith e none pos.line env = pure false := by with_unfolding_all rfl) : WX1 prog w B A env (.Expr e pos) ρ σ Q X :=
  fun φ s G L => wpAny_Expr_any (h.then G L fun v s₁ φ₁ σ₁ x t G₁ L₁ hx q => ⟨φ₁, σ₁, t.nilD, G₁, .next, ρ, rfl, L₁, q⟩) hi hs
theorem X_if {test : Expr} {body orelse : List Stmt} {pos : Pos} {Q : Fl → List (Str × V) → List AObj → Prop}
    (h : WT prog w B A env test ρ σ (fun b σ₁ => if b then WX prog w B A env body ρ σ₁ Q X else WX prog w B A env orelse ρ σ₁ Q X) X) : WX1 prog w B A env (.If test body orelse pos) ρ σ Q X :=
  fun φ s G L => wpAny_If (h.then G L fun b s₁ φ₁ σ₁ t G₁ L₁ q => by
    cases b
    · exact WX.last q G₁ L₁ t.nilD
    · exact WX.last q G₁ L₁ t.nilD)

theorem Bnd.sameBut {h h' : Heap} {c : Addr} {y : Str} {val : Value} (hb : Bnd env h y val) (hs : Heap.SameBut c h h') (hl : env.kindOf y = some .local → c ≠ env.locals) (hc : ∀ d, (y, d) ∈ env.cells → d ≠ c) : Bnd env h' y val := by
  rcases hb with ⟨k, m, n, e⟩ | ⟨k, d, e, n⟩
  · exact .inl ⟨k, m, n.sameBut hs (Ne.symm (hl k)), e⟩
  · exact .inr ⟨k, d, e, n.sameBut hs (hc d (mem_of_lookup e))⟩

theorem locals_ne_cell {h : Heap} (L : Loc A B env ρ φ h) {x : Str} {c : Addr} (hm : (x, c) ∈ env.cells) : c ≠ env.locals := fun e => by
  obtain ⟨m, o, es, ep, e1, hd, _⟩ := L.ns
  obtain ⟨v, o', e2, hd'⟩ := L.cells x c hm
  rw [e, e1] at e2; cases e2
  rw [hd] at hd'; cases hd'

theorem lookup_cons_ne {ρ : List (Str × V)} {x y : Str} {v : V} (h : y ≠ x) : ((x, v) :: ρ).lookup y = ρ.lookup y := by
  rw [List.lookup_cons]
  have : (y == x) = false := by simpa using h
  rw [this]

/-- a local name stored -/
theorem store_local {x : Str} {v : Value} {y : V} {Q : Unit → Shared → Prop} {E : Value → Shared → Prop} (G : St prog w B φ σ s) (L : Loc A B env ρ φ s.heap) (hv : Val φ s.heap y v)
    (hx : env.kindOf x = some .local)
    (k : ∀ h' tk, Heap.SameBut env.locals s.heap h' → St prog w B φ σ { s with heap := h', toks := tk } → Loc A B env ((x, y) :: ρ) φ h' → Q () { s with heap := h', toks := tk }) :
    wpAny (model prog w) A (storeName env x v) Q E s := by
  obtain ⟨m, hm⟩ := L.ns
  refine wpAny_storeName_local hx hm (fun h' hn hs => ?_) (by rw [L.kind]; rfl)
  have hns : ∀ o, s.heap.get? env.locals = some o → ¬ Still o := fr_notStill L _ (.head _)
  have hown := L.own _ (List.mem_cons_self (l := env.cells.map (·.2)) (a := env.locals))
  refine k h' _ hs (G.sameBut (s' := { s with heap := h', toks := s.toks + 1 }) hs hown.1 hown.2 hns) ⟨L.kind, L.glob, L.blt, ⟨_, hn⟩, L.own, fun z c hz => ?_, L.apart, fun z u hz => ?_, L.frs.at hs.extBut (.inl (let ⟨o, es, n, e, hd, _⟩ := hn; ⟨o, es, n, e, hd⟩)), L.top⟩
  · obtain ⟨v', n'⟩ := L.cells z c hz
    exact ⟨v', n'.sameBut hs (locals_ne_cell L hz)⟩
  · by_cases hzx : z = x
    · subst hzx
      rw [List.lookup_cons_self] at hz; cases hz
      exact ⟨v, .inl ⟨hx, _, hn, by simp⟩, hv.sameBut hs hns⟩
    · rw [lookup_cons_ne hzx] at hz
      obtain ⟨val, hb, hv'⟩ := L.val z u hz
      refine ⟨val, ?_, hv'.sameBut hs hns⟩
      rcases hb with ⟨k', m', n', e'⟩ | ⟨k', d, e', n'⟩
      · refine .inl ⟨k', _, hn, ?_⟩
        obtain ⟨o1, es1, ep1, a1, a2, a3, a4⟩ := hm
        obtain ⟨o2, es2, ep2, b1, b2, b3, b4⟩ := n'
        rw [a1] at b1; cases b1; rw [a2] at b2; cases b2
        rw [if_neg hzx, ← a4 z, b4 z]; exact e'
      · exact .inr ⟨k', d, e', n'.sameBut hs (locals_ne_cell L (mem_of_lookup e'))⟩

/-- a name stored -/
theorem store_name {x : Str} {v : Value} {y : V} {Q : Unit → Shared → Prop} {E : Value → Shared → Prop} (G : St prog w B φ σ s) (L : Loc A B env ρ φ s.heap) (hv : Val φ s.heap y v)
    (hx : env.kindOf x = some .local ∨ env.kindOf x = some .cell ∧ (env.cells.lookup x).isSome = true)
    (k : ∀ h' tk, Step (fr env) φ s.heap φ h' → St prog w B φ σ { s with heap := h', toks := tk } → Loc A B env ((x, y) :: ρ) φ h' → Q () { s with heap := h', toks := tk }) :
    wpAny (model prog w) A (storeName env x v) Q E s := by
  rcases hx with hx | ⟨hx, hc⟩
  · exact store_local G L hv hx fun h' tk hs G' L' => k h' tk ⟨List.prefix_refl _, fun _ h => .inl h, fun b o e h1 h2 => ⟨o, hs.extBut b o (fun h => h2 (h ▸ .head _)) e, .refl o⟩⟩ G' L'
  · obtain ⟨c, hc⟩ := Option.isSome_iff_exists.mp hc
    have hcm := mem_of_lookup hc
    obtain ⟨v₀, hc0⟩ := L.cells x c hcm
    refine wpAny_storeName_cell L.kind hx hc hc0 fun h' hn hs => ?_
    have hns : ∀ o, s.heap.get? c = some o → ¬ Still o := fr_notStill L _ (mem_fr_cell hcm)
    have hown := L.own _ (mem_fr_cell hcm)
    refine k h' s.toks ⟨List.prefix_refl _, fun _ h => .inl h, fun b o e h1 h2 => ⟨o, hs.extBut b o (fun h => h2 (h ▸ mem_fr_cell hcm)) e, .refl o⟩⟩ (G.sameBut (s' := { s with heap := h' }) hs hown.1 hown.2 hns) ⟨L.kind, L.glob, L.blt, ?_, L.own, fun z d hz => ?_, L.apart, fun z u hz => ?_, L.frs.at hs.extBut (.inr fun o e es n hd => by obtain ⟨o', e', hd'⟩ := hc0; rw [e'] at e; cases e; rw [hd'] at hd; cases hd), L.top⟩
    · obtain ⟨m, hm⟩ := L.ns; exact ⟨m, hm.sameBut hs (Ne.symm (locals_ne_cell L hcm))⟩
    · by_cases hdc : d = c
      · subst hdc; exact ⟨_, hn⟩
      · obtain ⟨v', n'⟩ := L.cells z d hz; exact ⟨v', n'.sameBut hs hdc⟩
    · by_cases hzx : z = x
      · subst hzx
        rw [List.lookup_cons_self] at hz; cases hz
        exact ⟨v, .inr ⟨.inl hx, c, hc, hn⟩, hv.sameBut hs hns⟩
      · rw [lookup_cons_ne hzx] at hz
        obtain ⟨val, hb, hv'⟩ := L.val z u hz
        refine ⟨val, hb.sameBut hs (fun _ => locals_ne_cell L hcm) fun d hd e => hzx ?_, hv'.sameBut hs hns⟩
        exact name_of_addr L.apart hd (e ▸ hcm)

theorem X_assign {x : Str} {e : Expr} {px pos : Pos} {Q : Fl → List (Str × V) → List AObj → Prop} (h : WE prog w B A env e ρ σ (fun y σ₁ => Q .next ((x, y) :: ρ) σ₁) X)
    (hx : env.kindOf x = some .local ∨ env.kindOf x = some .cell ∧ (env.cells.lookup x).isSome = true)
    (hs : swapsWith e (some (.Name x px)) pos.line env = pure false := by with_unfolding_all rfl) : WX1 prog w B A env (.Assign [.Name x px] e pos) ρ σ Q X :=
  fun φ s G L => wpAny_Assign_Name (h.then G L fun v s₁ φ₁ σ₁ y t G₁ L₁ hy q => store_name G₁ L₁ hy hx fun h' tk t' G' L' => ⟨φ₁, σ₁, Step.transF t.nilD t' L₁, G', .next, _, rfl, L', q⟩) hs
end
end Mine

set_option autoImplicit false
set_option linter.unusedVariables false
namespace Mine
open PySem PySem.Calls PyProof.Rows

/-! what a value names of the heap -/
mutual
def V.lt (n : Nat) : V → Prop
  | .ref k => k < n
  | .tup xs => Vs.lt n xs
  | _ => True
def Vs.lt (n : Nat) : List V → Prop
  | [] => True
  | x :: xs => V.lt n x ∧ Vs.lt n xs
end
mutual
theorem Val.isLt {φ : List Addr} {h : Heap} : ∀ (x : V) {v : Value}, Val φ h x v → x.lt φ.length
  | .none, _, _ | .bool _, _, _ | .int _, _, _ | .str _, _, _ | .raw _, _, _ | .rng .., _, _ => by simp [V.lt]
  | .ref k, _, e => by rw [Val] at e; obtain ⟨a, _, ha⟩ := e; rw [V.lt]; exact (List.getElem?_eq_some_iff.mp ha).1
  | .tup xs, _, e => by rw [Val] at e; obtain ⟨a, vs, _, _, hv⟩ := e; rw [V.lt]; exact Vals.isLt xs hv
theorem Vals.isLt {φ : List Addr} {h : Heap} : ∀ (xs : List V) {vs : List Value}, Vals φ h xs vs → Vs.lt φ.length xs
  | [], _, _ => by simp [Vs.lt]
  | x :: xs, _, e => by rw [Vals] at e; obtain ⟨v, r, _, h1, h2⟩ := e; rw [Vs.lt]; exact ⟨Val.isLt x h1, Vals.isLt xs h2⟩
end
mutual
theorem Val.cut {φ φ' : List Addr} {h : Heap} (hp : φ <+: φ') : ∀ (x : V) {v : Value}, x.lt φ.length → Val φ' h x v → Val φ h x v
  | .none, _, _, e | .bool _, _, _, e | .int _, _, _, e | .str _, _, _, e | .raw _, _, _, e | .rng .., _, _, e => by simpa [Val] using e
  | .ref k, _, hl, e => by
    rw [Val] at e ⊢
    rw [V.lt] at hl
    obtain ⟨a, rfl, ha⟩ := e
    obtain ⟨r, rfl⟩ := hp
    rw [List.getElem?_append_left hl] at ha
    exact ⟨a, rfl, ha⟩
  | .tup xs, _, hl, e => by
    rw [Val] at e ⊢
    rw [V.lt] at hl
    obtain ⟨a, vs, h1, h2, hv⟩ := e
    exact ⟨a, vs, h1, h2, Vals.cut hp xs hl hv⟩
theorem Vals.cut {φ φ' : List Addr} {h : Heap} (hp : φ <+: φ') : ∀ (xs : List V) {vs : List Value}, Vs.lt φ.length xs → Vals φ' h xs vs → Vals φ h xs vs
  | [], _, _, e => by simpa [Vals] using e
  | x :: xs, _, hl, e => by
    rw [Vals] at e ⊢
    rw [Vs.lt] at hl
    obtain ⟨v, r, h0, h1, h2⟩ := e
    exact ⟨v, r, h0, Val.cut hp x hl.1 h1, Vals.cut hp xs hl.2 h2⟩
end

def AObj.lt (n : Nat) : AObj → Prop
  | .list xs => Vs.lt n xs
  | .dict es _ => ∀ e ∈ es, e.2.lt n
  | .inst _ k => k < n
  | .ns as => ∀ x v, as.lookup x = some v → v.lt n
  | .set _ => True
  | .exc _ t => ∀ k, t = some k → k < n
  | .tb => True

theorem Ents.isLt {φ : List Addr} {h : Heap} {es : List (Key × V)} {kvs : List (Key × Value)} (e : Ents φ h es kvs) : ∀ p ∈ es, p.2.lt φ.length := by
  induction e with
  | nil => intro p hp; cases hp
  | cons h1 _ ih => intro p hp; rcases List.mem_cons.mp hp with rfl | hp; exact Val.isLt _ h1; exact ih p hp
theorem Ents.cut {φ φ' : List Addr} {h : Heap} (hp : φ <+: φ') {es : List (Key × V)} {kvs : List (Key × Value)} (e : Ents φ' h es kvs) (hl : ∀ p ∈ es, p.2.lt φ.length) : Ents φ h es kvs := by
  induction e with
  | nil => exact .nil
  | cons h1 _ ih => exact .cons (Val.cut hp _ (hl _ (.head _)) h1) (ih fun p hp => hl p (.tail _ hp))

section
variable {prog : Program} {w : World} {B : Shared} {φ φ' φ₁ : List Addr} {σ σ' : List AObj} {s s' s₁ : Shared} {env : Env} {ρ : List (Str × V)} {A : Around} {X : XT}

theorem ObjR.isLt {h : Heap} {a : Addr} {ob : AObj} (r : ObjR prog w φ h a ob) : ob.lt φ.length := by
  cases ob with
  | list xs => obtain ⟨vs, n, _, hv⟩ := r; exact Vals.isLt _ hv
  | dict es e => obtain ⟨kvs, ep, _, hv, _⟩ := r; exact hv.isLt
  | inst C k => obtain ⟨d, _, hd⟩ := r; exact (List.getElem?_eq_some_iff.mp hd).1
  | set ss => trivial
  | exc C t =>
    obtain ⟨o, vs, _, _, _, h⟩ := r
    intro k hk
    subst hk
    obtain ⟨T, _, hT⟩ := h
    exact (List.getElem?_eq_some_iff.mp hT).1
  | tb => trivial
  | ns as =>
    obtain ⟨es, n, _, _, _, h3⟩ := r
    intro x v hx
    have := h3 x
    rw [hx] at this
    obtain ⟨val, _, hv⟩ := this
    exact Val.isLt _ hv
theorem ObjR.cut {h : Heap} {a : Addr} {ob : AObj} (hp : φ <+: φ') (r : ObjR prog w φ' h a ob) (hl : ob.lt φ.length) : ObjR prog w φ h a ob := by
  cases ob with
  | list xs => obtain ⟨vs, n, e, hv⟩ := r; exact ⟨vs, n, e, Vals.cut hp _ hl hv⟩
  | dict es e => obtain ⟨kvs, ep, h1, hv, h2⟩ := r; exact ⟨kvs, ep, h1, hv.cut hp hl, h2⟩
  | set ss => exact r
  | tb => exact r
  | exc C t =>
    obtain ⟨o, vs, h1, h2, h3, h⟩ := r
    refine ⟨o, vs, h1, h2, h3, ?_⟩
    cases t with
    | none => exact h
    | some k =>
      obtain ⟨T, e, hT⟩ := h
      obtain ⟨r, rfl⟩ := hp
      rw [List.getElem?_append_left (hl k rfl)] at hT
      exact ⟨T, e, hT⟩
  | inst C k =>
    obtain ⟨d, e, hd⟩ := r
    obtain ⟨r, rfl⟩ := hp
    rw [List.getElem?_append_left hl] at hd
    exact ⟨d, e, hd⟩
  | ns as =>
    obtain ⟨es, n, e, h1, h2, h3⟩ := r
    refine ⟨es, n, e, h1, h2, fun x => ?_⟩
    have := h3 x
    cases hx : as.lookup x with
    | none => rw [hx] at this; exact this
    | some v => rw [hx] at this; obtain ⟨val, e1, e2⟩ := this; exact ⟨val, e1, Val.cut hp v (hl x v hx) e2⟩

theorem St.closed (G : St prog w B φ σ s) : ∀ ob ∈ σ, ob.lt σ.length := fun ob ho => by
  obtain ⟨k, hk, rfl⟩ := List.mem_iff_getElem.mp ho
  rw [← G.len]
  exact (G.objs k _ σ[k] (List.getElem?_eq_getElem (G.len ▸ hk)) (List.getElem?_eq_getElem hk)).isLt

/-- what is behind is forgotten -/
theorem St.trunc {σ₁ junk : List AObj} (G : St prog w B φ' (σ₁ ++ junk) s) (hp : φ <+: φ') (hn : φ.length = σ₁.length) (hc : ∀ ob ∈ σ₁, ob.lt σ₁.length) : St prog w B φ σ₁ s := by
  refine ⟨G.base, fun a ha => G.new a (hp.subset ha), G.nodup.sublist hp.sublist, hn, fun k a ob h1 h2 => ?_, G.gens, G.os, G.sys.1, fun h => G.sys.2 (hp.subset h)⟩
  have hk := (List.getElem?_eq_some_iff.mp h1).1
  obtain ⟨r, rfl⟩ := hp
  refine (G.objs k a ob (by rw [List.getElem?_append_left hk]; exact h1) (by rw [List.getElem?_append_left (hn ▸ hk)]; exact h2)).cut (List.prefix_append _ _) (hn ▸ hc ob (List.mem_of_getElem? h2))
/-- one object of what is behind is kept -/
theorem St.pick {j1 j2 : List AObj} {ob : AObj} (G : St prog w B φ' (σ ++ j1 ++ ob :: j2) s') (hp : φ <+: φ') (hn : φ.length = σ.length) (hc : ∀ ob ∈ σ, ob.lt σ.length) (ho : ob.lt σ.length) :
    ∃ c, φ'[σ.length + j1.length]? = some c ∧ c ∉ φ ∧ St prog w B (φ ++ [c]) (σ ++ [ob]) s' := by
  have hl : σ.length + j1.length < φ'.length := by rw [G.len]; simp
  have hidx := List.getElem?_eq_getElem hl
  refine ⟨φ'[σ.length + j1.length], hidx, fun hm => ?_, ?_⟩
  · obtain ⟨i, hi, e⟩ := List.mem_iff_getElem.mp hm
    have h1 : φ'[i]'(Nat.lt_of_lt_of_le hi hp.length_le) = φ'[σ.length + j1.length] := by
      rw [← e]
      exact (hp.getElem hi).symm
    have := (List.getElem_inj G.nodup).mp h1
    omega
  · have hc' : φ'[σ.length + j1.length] ∉ φ := fun hm => by
      obtain ⟨i, hi, e⟩ := List.mem_iff_getElem.mp hm
      have h1 : φ'[i]'(Nat.lt_of_lt_of_le hi hp.length_le) = φ'[σ.length + j1.length] := by
        rw [← e]
        exact (hp.getElem hi).symm
      have := (List.getElem_inj G.nodup).mp h1
      omega
    have r := G.objs _ _ ob hidx (by rw [List.append_assoc, List.getElem?_append_right (by omega), List.getElem?_append_right (by omega)]; simp)
    have r' := r.cut hp (hn ▸ ho)
    refine ⟨G.base, fun a ha => ?_, ?_, by simp [hn], fun k a ob' h1 h2 => ?_, G.gens, G.os, G.sys.1, fun h => (List.mem_append.mp h).elim (fun h => G.sys.2 (hp.subset h)) fun h => G.sys.2 ((List.mem_singleton.mp h) ▸ List.getElem_mem _)⟩
    · rcases List.mem_append.mp ha with h | h
      · exact G.new a (hp.subset h)
      · obtain rfl := List.mem_singleton.mp h; exact G.new _ (List.getElem_mem _)
    · exact List.nodup_append.mpr ⟨G.nodup.sublist hp.sublist, by simp, fun a ha b hb e => hc' (by obtain rfl := List.mem_singleton.mp hb; exact e ▸ ha)⟩
    · by_cases hk : k < φ.length
      · rw [List.getElem?_append_left hk] at h1
        rw [List.getElem?_append_left (hn ▸ hk)] at h2
        have h3 : φ'[k]? = some a := by obtain ⟨r, rfl⟩ := hp; rw [List.getElem?_append_left hk]; exact h1
        refine ((G.objs k a ob' h3 (by rw [List.append_assoc, List.getElem?_append_left (hn ▸ hk)]; exact h2)).cut hp (hn ▸ hc ob' (List.mem_of_getElem? h2))).mono (List.prefix_append _ _) (fun _ _ e _ => e) fun _ e => e
      · have hk' : k = φ.length := by
          have := (List.getElem?_eq_some_iff.mp h1).1
          simp at this; omega
        subst hk'
        rw [List.getElem?_append_right (Nat.le_refl _)] at h1
        rw [hn, List.getElem?_append_right (Nat.le_refl _)] at h2
        simp at h1 h2
        subst h1 h2
        exact r'.mono (List.prefix_append _ _) (fun _ _ e _ => e) fun _ e => e

/-- what may be forgotten behind a call -/
inductive Clean (σ : List AObj) (Q : V → List AObj → Prop) : V → List AObj → Prop
  | all {x : V} {σ' : List AObj} : Q x σ' → Clean σ Q x σ'
  | none {x : V} {junk : List AObj} : x.lt σ.length → Q x σ → Clean σ Q x (σ ++ junk)
  | one {j1 j2 : List AObj} {ob : AObj} {k : Nat} : k = σ.length + j1.length → ob.lt σ.length → Q (.ref σ.length) (σ ++ [ob]) → Clean σ Q (.ref k) (σ ++ j1 ++ ob :: j2)

theorem WC.clean {f : Value} {xs : List V} {Q : V → List AObj → Prop} (h : WC prog w B A f xs σ (Clean σ Q) X) : WC prog w B A f xs σ Q X := fun φ s vs G FR hv =>
  wpAny_mono (h φ s vs G FR hv) (fun v s' ⟨φ', σ', t, G', x, hx, c⟩ => by
    cases c with
    | all q => exact ⟨φ', σ', t, G', x, hx, q⟩
    | none hl q =>
      refine ⟨φ, σ, ⟨List.prefix_refl _, fun _ h => .inl h, t.keep⟩, G'.trunc t.pre G.len G.closed, x, Val.cut t.pre x (G.len ▸ hl) hx, q⟩
    | @one j1 j2 ob k hk hl q =>
      obtain ⟨c, hc, hcφ, G''⟩ := G'.pick t.pre G.len G.closed hl
      have hcm : c ∈ φ' := List.mem_of_getElem? hc
      refine ⟨φ ++ [c], σ ++ [ob], ⟨List.prefix_append _ _, fun a ha => (List.mem_append.mp ha).imp id fun h => ?_, t.keep⟩, G'', .ref σ.length, ?_, q⟩
      · obtain rfl := List.mem_singleton.mp h
        exact (t.fresh a hcm).resolve_left hcφ
      · rw [Val] at hx ⊢
        obtain ⟨a, rfl, ha⟩ := hx
        rw [hk, hc] at ha; cases ha
        exact ⟨c, rfl, by rw [← G.len]; simp⟩) fun _ _ x => x

theorem St.there (G : St prog w B φ σ s) {a : Addr} (ha : a ∈ φ) : ∃ o, s.heap.get? a = some o := by
  obtain ⟨k, hk, rfl⟩ := List.mem_iff_getElem.mp ha
  have hk' : k < σ.length := G.len ▸ hk
  have r := G.objs k _ σ[k] (List.getElem?_eq_getElem hk) (List.getElem?_eq_getElem hk')
  cases hob : σ[k] with
  | list xs => rw [hob] at r; obtain ⟨vs, n, e, _⟩ := r; exact ⟨_, e⟩
  | dict es e => rw [hob] at r; obtain ⟨kvs, ep, ⟨o, es', e, _⟩, _⟩ := r; exact ⟨_, e⟩
  | inst C k => rw [hob] at r; obtain ⟨d, e, _⟩ := r; exact ⟨_, e⟩
  | ns as => rw [hob] at r; obtain ⟨es, n, e, _⟩ := r; exact ⟨_, e⟩
  | set ss => rw [hob] at r; obtain ⟨o', es, ep, t, e, _⟩ := r; exact ⟨_, e⟩
  | exc C t => rw [hob] at r; obtain ⟨o', vs, e, _⟩ := r; exact ⟨_, e⟩
  | tb => rw [hob] at r; obtain ⟨o', ts, x, e, _⟩ := r; exact ⟨_, e⟩

/-! calls of the text's own defs -/
theorem cellsFrom_has : ∀ (names : List (Str × NameKind)) (n : Nat) (acc : List (Str × Addr)) (x : Str), ((acc.lookup x).isSome = true ∨ names.lookup x = some .cell) → ((cellsFrom n names acc).lookup x).isSome = true
  | [], n, acc, x, h => by
    rcases h with h | h
    · exact h
    · cases h
  | (y, k) :: r, n, acc, x, h => by
    unfold cellsFrom
    by_cases hk : (k == NameKind.cell) = true
    · rw [if_pos hk]
      refine cellsFrom_has r (n + 1) _ x ?_
      by_cases hx : x = y
      · subst hx; left; simp
      · rcases h with h | h
        · left; rw [List.lookup_cons]; rw [show (x == y) = false from by simpa using hx]; exact h
        · right; rw [List.lookup_cons, show (x == y) = false from by simpa using hx] at h; exact h
    · rw [if_neg hk]
      refine cellsFrom_has r n _ x ?_
      rcases h with h | h
      · exact .inl h
      · by_cases hx : x = y
        · subst hx; rw [List.lookup_cons_self] at h; cases h; exact absurd rfl hk
        · rw [List.lookup_cons, show (x == y) = false from by simpa using hx] at h; exact .inr h
theorem cellsFrom_keys : ∀ (names : List (Str × NameKind)) (n : Nat) (acc : List (Str × Addr)), ((names.map (·.1)) ++ acc.map (·.1)).Nodup → ((cellsFrom n names acc).map (·.1)).Nodup
  | [], n, acc, h => by unfold cellsFrom; simpa using h
  | (y, k) :: r, n, acc, h => by
    unfold cellsFrom
    split
    · refine cellsFrom_keys r (n + 1) _ ?_
      simp only [List.map_cons]
      exact (List.perm_middle.nodup_iff).mpr (by simpa using h)
    · refine cellsFrom_keys r n _ ?_
      simp only [List.map_cons, List.cons_append, List.nodup_cons] at h
      exact h.2
theorem lookup_of_mem {α : Type} : ∀ {l : List (Str × α)} {x : Str} {c : α}, (l.map (·.1)).Nodup → (x, c) ∈ l → l.lookup x = some c
  | (y, d) :: r, x, c, hn, hm => by
    rcases List.mem_cons.mp hm with e | hm
    · cases e; simp
    · simp only [List.map_cons, List.nodup_cons] at hn
      have hxy : x ≠ y := fun e => hn.1 (e ▸ List.mem_map.mpr ⟨(x, c), hm, rfl⟩)
      rw [List.lookup_cons, show (x == y) = false from by simpa using hxy]
      exact lookup_of_mem hn.2 hm

/-- a def of the text: its names, its body -/
structure Fn (B : Shared) (a : Addr) (names : List Str) (fd : FuncData) (body : List Stmt) : Prop where
  at_ : ∃ o, B.heap.get? a = some o ∧ o.data = .func fd
  lim : B.heap.NoLimit
  code : B.heap.CodeRec fd.code fd.qualname
  body : fd.body = .stmts body
  clo : fd.closure = []
  glob : fd.globals = mainGlobals
  blt : fd.builtins = builtinsNs
  bind : ∀ vals : List Value, vals.length = names.length → bindArgs fd ⟨vals, []⟩ = pure (names.zip vals)
  kinds : ∀ n ∈ names, fd.scope.names.lookup n = some .local ∨ fd.scope.names.lookup n = some .cell
  nodup : names.Nodup
  cnodup : (fd.scope.names.map (·.1)).Nodup
  co : fd.scope.isCoroutine = false
  gen : fd.scope.isGenerator = false
  kind : fd.scope.kind = .function

def retV : Fl → V
  | .ret x => x
  | _ => .none

theorem bindL_at (kindOf : Str → Option NameKind) : ∀ (binds : List (Str × Value)) (m : Str → Option Value) (x : Str), kindOf x = some .local →
    bindL kindOf binds m x = (binds.reverse.lookup x).or (m x)
  | [], m, x, _ => by simp [bindL]
  | (n, v) :: r, m, x, hx => by
    rw [bindL, bindL_at kindOf r _ x hx, List.reverse_cons, List.lookup_append]
    by_cases hn : kindOf n = some .local
    · rw [if_pos hn]
      by_cases hxn : x = n
      · subst hxn; simp
      · simp [hxn, List.lookup_cons, show (x == n) = false from by simpa using hxn]
    · rw [if_neg hn]
      have hxn : x ≠ n := fun e => hn (e ▸ hx)
      simp [List.lookup_cons, show (x == n) = false from by simpa using hxn]
theorem bindC_at (kindOf : Str → Option NameKind) : ∀ (binds : List (Str × Value)) (m : Str → Option Value) (x : Str), kindOf x = some .cell →
    bindC kindOf binds m x = (binds.reverse.lookup x).or (m x)
  | [], m, x, _ => by simp [bindC]
  | (n, v) :: r, m, x, hx => by
    rw [bindC, bindC_at kindOf r _ x hx, List.reverse_cons, List.lookup_append]
    by_cases hn : kindOf n = some .local
    · rw [if_pos hn]
      have hxn : x ≠ n := fun e => by rw [e] at hx; rw [hx] at hn; cases hn
      simp [List.lookup_cons, show (x == n) = false from by simpa using hxn]
    · rw [if_neg hn]
      by_cases hxn : x = n
      · subst hxn; simp
      · simp [hxn, List.lookup_cons, show (x == n) = false from by simpa using hxn]
theorem lookup_reverse_of_nodup {α : Type} {l : List (Str × α)} (h : (l.map (·.1)).Nodup) (x : Str) : l.reverse.lookup x = l.lookup x := by
  cases e : l.lookup x with
  | some v =>
    exact lookup_of_mem (by rw [List.map_reverse]; exact (List.reverse_perm _).nodup_iff.mpr h) (List.mem_reverse.mpr (mem_of_lookup e))
  | none =>
    cases e' : l.reverse.lookup x with
    | none => rfl
    | some v => rw [lookup_of_mem h (List.mem_reverse.mp (mem_of_lookup e'))] at e; cases e
theorem zip_lookup_vals {h : Heap} : ∀ {names : List Str} {xs : List V} {vs : List Value}, Vals φ h xs vs → ∀ {x : Str} {v : V}, (names.zip xs).lookup x = some v → ∃ val, (names.zip vs).lookup x = some val ∧ Val φ h v val
  | [], _, _, _, x, v, hx => by simp at hx
  | n :: ns, [], _, _, x, v, hx => by simp at hx
  | n :: ns, y :: ys, _, e, x, v, hx => by
    rw [Vals] at e
    obtain ⟨u, r, rfl, h1, h2⟩ := e
    rw [List.zip_cons_cons, List.lookup_cons] at hx ⊢
    cases hb : x == n with
    | true => rw [hb] at hx; cases hx; exact ⟨u, rfl, h1⟩
    | false => rw [hb] at hx; exact zip_lookup_vals h2 hx
theorem zip_keys_mem {α : Type} : ∀ {names : List Str} {xs : List α} {x : Str} {v : α}, (names.zip xs).lookup x = some v → x ∈ names := fun {names xs x v} h => (List.of_mem_zip (mem_of_lookup h)).1

/-- what a def's body may raise, and what then comes out of the call -/
inductive XOk (A : Around) (B : Shared) (env : Env) : XT → XT → Prop
  | no {X : XT} : XOk A B env (fun _ _ _ _ => False) X
  | exc {R : Addr → List AObj → Prop} : XOk A B env (xL A B env [] (xQ R)) (xQ R)
theorem C_fn_codex {a : Addr} {names : List Str} {fd : FuncData} {body : List Stmt} {xs : List V} {Q : V → List AObj → Prop} (F : Fn B a names fd body) (hlen : xs.length = names.length) (hroom : A.depth < recursionLimit)
    (h : ∀ L, ∃ X', XOk (A.deeper (callEnvC fd L a)) B (callEnvC fd L a) X' X ∧ WX prog w B (A.deeper (callEnvC fd L a)) (callEnvC fd L a) body (names.zip xs) σ (fun fl _ σ' => Q (retV fl) σ') X') :
    ∀ φ s vs, St prog w B φ σ s → Frs A B φ s.heap → Vals φ s.heap xs vs → codeAny (model prog w) A (.call (.ref a) ⟨vs, []⟩) (fun r s' => match r with | .ok (.ret v) => Post prog w B [] φ s (vQ Q) v s' | .ok _ => False | .error e => Post prog w B [] φ s X e s') s := fun φ s vs G FR hv => by
  obtain ⟨o, ho, hd⟩ := F.at_
  have hvl : vs.length = names.length := hv.length.trans hlen
  refine codeAny_call_cells hroom (G.base _ _ ho) hd (F.lim.keeps G.base) (F.code.keeps G.base) F.body (F.bind vs hvl) F.clo (fun p hp => ?_) (fun s₁ ic => ?_) F.co F.gen F.kind
  · have hn : p.1 ∈ names := (List.of_mem_zip hp).1
    rcases F.kinds _ hn with h1 | h1
    · exact .inl h1
    · exact .inr ⟨h1, cellsFrom_has _ _ _ _ (.inr h1)⟩
  · have hk := ic.toInCall.keep
    obtain ⟨h₁, tk, rfl⟩ := ic.toInCall.same
    have G₁ : St prog w B φ σ { s with heap := h₁, toks := tk } := G.keeps hk
    have hL : s.heap.get? s.heap.objs.size = none := get?_size _
    have hcl : ((callEnvC fd s.heap.objs.size a).cells.map (·.1)).Nodup := cellsFrom_keys _ _ _ (by simpa using F.cnodup)
    have hnew : ∀ c ∈ fr (callEnvC fd s.heap.objs.size a), s.heap.get? c = none := fun c hc => by
      rcases List.mem_cons.mp hc with rfl | hc
      · exact hL
      · obtain ⟨⟨x, d⟩, hm, rfl⟩ := List.mem_map.mp hc
        exact get?_of_ge (Nat.le_of_lt (ic.above x d hm))
    have tt : Step [] φ s.heap φ h₁ := .of_keeps hk
    have L₁ : Loc (A.deeper (callEnvC fd s.heap.objs.size a)) B (callEnvC fd s.heap.objs.size a) (names.zip xs) φ h₁ := by
      refine ⟨F.kind, F.glob, F.blt, ⟨_, ic.toInCall.ns⟩, fun c hc => ⟨fun hm => ?_, G.baseSize (hnew c hc)⟩, fun x c hm => ⟨_, ic.cell x c (lookup_of_mem hcl hm)⟩, ic.apart, fun x v hx => ?_, ?_, ?_⟩
      · obtain ⟨o', e'⟩ := G.there hm
        rw [hnew c hc] at e'; cases e'
      · have hn := zip_keys_mem hx
        obtain ⟨val, hval, hvv⟩ := zip_lookup_vals (hv.step G (.of_keeps hk)) hx
        have hbl : (names.zip vs).reverse.lookup x = some val := by
          rw [lookup_reverse_of_nodup]; exact hval
          rw [List.map_fst_zip (by omega)]; exact F.nodup
        refine ⟨val, ?_, hvv⟩
        rcases F.kinds x hn with h1 | h1
        · exact .inl ⟨h1, _, ic.toInCall.ns, by rw [bindL_at _ _ _ _ h1, hbl]; rfl⟩
        · obtain ⟨c, hc⟩ := Option.isSome_iff_exists.mp (cellsFrom_has fd.scope.names (s.heap.objs.size + 1) [] x (.inr h1))
          refine .inr ⟨.inl h1, c, hc, ?_⟩
          have := ic.cell x c hc
          rw [bindC_at _ _ _ _ h1, hbl] at this
          exact this
      · obtain ⟨l, hl, hf⟩ := FR.step tt
        refine ⟨_ :: l, Around.frames_deeper hl, fun e he => ?_⟩
        rcases List.mem_cons.mp he with rfl | he
        · obtain ⟨o, es, n, e1, hd, _⟩ := ic.toInCall.ns
          exact ⟨by rw [show (callEnvC fd s.heap.objs.size a).scope.kind = _ from F.kind]; simp, _, o, es, n, rfl, G.fresh, G.baseSize hL, e1, hd⟩
        · exact hf e he
      · obtain ⟨l, hl, _⟩ := FR
        exact ⟨_, l, Around.frames_deeper hl, rfl⟩
    have out : ∀ φ' (s' : Shared), Step (fr (callEnvC fd s.heap.objs.size a)) φ h₁ φ' s'.heap → Step [] φ s.heap φ' s'.heap := fun φ' s' t => by
      refine ⟨t.pre, fun b hb => ?_, fun b o e h1 _ => t.keep b o (hk b o e) h1 fun hb => ?_⟩
      · rcases t.fresh b hb with h1 | h1
        · exact .inl h1
        · right
          cases e : s.heap.get? b with
          | none => rfl
          | some o => rw [hk b o e] at h1; cases h1
      · rw [hnew b hb] at e; cases e
    obtain ⟨X', hX, hb⟩ := h s.heap.objs.size
    refine wpAny_mono (hb φ _ G₁ L₁) (fun f s' hx => ?_) (fun e s' hx => ?_)
    rotate_left
    · obtain ⟨φ', σ', t, G', x⟩ := hx
      cases hX with
      | no => exact x.elim
      | exc =>
        obtain ⟨⟨C, tt, τ, junk, ea, rfl, htb, rfl, ha, hR⟩, L'⟩ := x
        exact leave_W G' htb L' ha fun φ₂ t₂ junk₂ h₂ st htb₂ ha₂ G₂ => ⟨φ₂, _, (out _ _ t).trans0 st, G₂, C, some t₂, τ, junk₂, ea, rfl, htb₂, rfl, ha₂, hR⟩
    obtain ⟨φ', σ', t, G', fl, ρ', hf, L', q⟩ := hx
    have t' := out _ _ t
    refine ⟨φ', σ', t', G', retV fl, ?_, q⟩
    cases fl with
    | next => obtain rfl : f = .next := hf; simp [retV, Val]
    | brk => obtain rfl : f = .brk := hf; simp [retV, Val]
    | cont => obtain rfl : f = .cont := hf; simp [retV, Val]
    | ret x => obtain ⟨v, rfl, hv⟩ := hf; exact hv
theorem C_fn_code {a : Addr} {names : List Str} {fd : FuncData} {body : List Stmt} {xs : List V} {Q : V → List AObj → Prop} (F : Fn B a names fd body) (hlen : xs.length = names.length) (hroom : A.depth < recursionLimit)
    (h : ∀ L, WX prog w B (A.deeper (callEnvC fd L a)) (callEnvC fd L a) body (names.zip xs) σ (fun fl _ σ' => Q (retV fl) σ') (fun _ _ _ _ => False)) :
    ∀ φ s vs, St prog w B φ σ s → Frs A B φ s.heap → Vals φ s.heap xs vs → codeAny (model prog w) A (.call (.ref a) ⟨vs, []⟩) (fun r s' => match r with | .ok (.ret v) => Post prog w B [] φ s (vQ Q) v s' | .ok _ => False | .error e => Post prog w B [] φ s X e s') s :=
  C_fn_codex F hlen hroom fun L => ⟨_, .no, h L⟩
theorem C_fn {a : Addr} {names : List Str} {fd : FuncData} {body : List Stmt} {xs : List V} {Q : V → List AObj → Prop} (F : Fn B a names fd body) (hlen : xs.length = names.length) (hroom : A.depth < recursionLimit)
    (h : ∀ L, WX prog w B (A.deeper (callEnvC fd L a)) (callEnvC fd L a) body (names.zip xs) σ (fun fl _ σ' => Q (retV fl) σ') (fun _ _ _ _ => False)) :
    WC prog w B A (.ref a) xs σ Q X := fun φ s vs G FR hv => wpAny_call (C_fn_code F hlen hroom h φ s vs G FR hv)
end
end Mine

set_option autoImplicit false
set_option linter.unusedVariables false
namespace Mine
open PySem PySem.Calls PyProof.Rows

section
variable {prog : Program} {w : World} {B : Shared} {φ : List Addr} {σ : List AObj} {s : Shared} {env : Env} {ρ : List (Str × V)} {A : Around} {X : XT} {Q : V → List AObj → Prop}

theorem Val.int_ {h : Heap} (i : Int) (t : Tok) : Val φ h (.int i) (.int i t) := by rw [Val]; exact ⟨t, rfl⟩
theorem Val.str_ {h : Heap} (x : Str) (t : Tok) : Val φ h (.str x) (.str x t) := by rw [Val]; exact ⟨t, rfl⟩
theorem Val.bool_ {h : Heap} (b : Bool) : Val φ h (.bool b) (.bool b) := by rw [Val]
theorem Val.none_ {h : Heap} : Val φ h .none .none := by rw [Val]
theorem Val.of_int {h : Heap} {i : Int} {v : Value} (e : Val φ h (.int i) v) : ∃ t, v = .int i t := by rw [Val] at e; exact e
theorem Val.of_str {h : Heap} {x : Str} {v : Value} (e : Val φ h (.str x) v) : ∃ t, v = .str x t := by rw [Val] at e; exact e
theorem Val.of_bool {h : Heap} {b : Bool} {v : Value} (e : Val φ h (.bool b) v) : v = .bool b := by rw [Val] at e; exact e
theorem Val.of_none {h : Heap} {v : Value} (e : Val φ h .none v) : v = .none := by rw [Val] at e; exact e
theorem Val.of_raw {h : Heap} {u v : Value} (e : Val φ h (.raw u) v) : v = u := by rw [Val] at e; exact e
theorem Val.of_ref {h : Heap} {k : Nat} {v : Value} (e : Val φ h (.ref k) v) : ∃ a, v = .ref a ∧ φ[k]? = some a := by rw [Val] at e; exact e
theorem Val.of_tup {h : Heap} {xs : List V} {v : Value} (e : Val φ h (.tup xs) v) : ∃ a vs, v = .ref a ∧ IsTup h a vs ∧ Vals φ h xs vs.toList := by rw [Val] at e; exact e
theorem Val.raw_ {h : Heap} (v : Value) : Val φ h (.raw v) v := by rw [Val]

theorem beqD {α : Type} [DecidableEq α] (a b : α) : (a == b) = decide (a = b) := by rw [Bool.eq_iff_iff]; simp

/-! ints -/
theorem O_add {a b : Int} (q : Q (.int (a + b)) σ) : W2 prog w B A (binaryOp .Add) (.int a) (.int b) σ Q X := fun φ s v u G hv hu => by
  obtain ⟨t, rfl⟩ := hv.of_int; obtain ⟨t', rfl⟩ := hu.of_int
  exact wpAny_add_int (Post.tok G ⟨_, .int_ _ _, q⟩)
theorem O_sub {a b : Int} (q : Q (.int (a - b)) σ) : W2 prog w B A (binaryOp .Sub) (.int a) (.int b) σ Q X := fun φ s v u G hv hu => by
  obtain ⟨t, rfl⟩ := hv.of_int; obtain ⟨t', rfl⟩ := hu.of_int
  exact P.sub_int (Post.tok G ⟨_, .int_ _ _, q⟩)
theorem O_mul {a b : Int} (q : Q (.int (a * b)) σ) (hm : a.natAbs < 2 ^ 63 ∨ b.natAbs < 2 ^ 63) : W2 prog w B A (binaryOp .Mult) (.int a) (.int b) σ Q X := fun φ s v u G hv hu => by
  obtain ⟨t, rfl⟩ := hv.of_int; obtain ⟨t', rfl⟩ := hu.of_int
  exact P.mul_int (Post.tok G ⟨_, .int_ _ _, q⟩) (hm.elim (fun h => IntMulOk.of_left (intBits_le_64 (by omega) (by omega))) fun h => IntMulOk.of_right (intBits_le_64 (by omega) (by omega)))
theorem O_div {a b : Int} (q : Q (.int (a / b)) σ) (hb : 0 < b) (hs : b.natAbs.log2 < 9000) : W2 prog w B A (binaryOp .FloorDiv) (.int a) (.int b) σ Q X := fun φ s v u G hv hu => by
  obtain ⟨t, rfl⟩ := hv.of_int; obtain ⟨t', rfl⟩ := hu.of_int
  refine floordiv_int (by omega) ?_ (.inl (PyProof.noPylong_of_log2 hs))
  rw [Int.fdiv_eq_ediv_of_nonneg _ (by omega)]
  exact Post.tok G ⟨_, .int_ _ _, q⟩
theorem O_mod {a b : Int} (q : Q (.int (a % b)) σ) (hb : 0 < b) : W2 prog w B A (binaryOp .Mod) (.int a) (.int b) σ Q X := fun φ s v u G hv hu => by
  obtain ⟨t, rfl⟩ := hv.of_int; obtain ⟨t', rfl⟩ := hu.of_int
  refine mod_int' (by omega) ?_
  rw [Int.fmod_eq_emod_of_nonneg _ (by omega)]
  exact Post.tok G ⟨_, .int_ _ _, q⟩
theorem O_pow {a : Int} {n : Int} (q : Q (.int (a ^ n.toNat)) σ) (hn : 0 ≤ n) (hn2 : n ≤ 1000000) (ha : a.natAbs < 2 ^ 64) : W2 prog w B A (binaryOp .Pow) (.int a) (.int n) σ Q X := fun φ s v u G hv hu => by
  obtain ⟨t, rfl⟩ := hv.of_int; obtain ⟨t', rfl⟩ := hu.of_int
  exact pow_int_small hn hn2 ha (Post.tok G ⟨_, .int_ _ _, q⟩)
theorem O_neg {a : Int} (q : Q (.int (-a)) σ) : W1 prog w B A (unaryOp .USub) (.int a) σ (vQ Q) X := fun φ s v G hv => by
  obtain ⟨t, rfl⟩ := hv.of_int
  exact P.neg_int (Post.tok G ⟨_, .int_ _ _, q⟩)
theorem O_lt {a b : Int} (q : Q (.bool (decide (a < b))) σ) : W2 prog w B A (compareOp .Lt) (.int a) (.int b) σ Q X := fun φ s v u G hv hu => by
  obtain ⟨t, rfl⟩ := hv.of_int; obtain ⟨t', rfl⟩ := hu.of_int
  exact P.lt_int (Post.here G ⟨_, .bool_ _, q⟩)
theorem O_le {a b : Int} (q : Q (.bool (decide (a ≤ b))) σ) : W2 prog w B A (compareOp .LtE) (.int a) (.int b) σ Q X := fun φ s v u G hv hu => by
  obtain ⟨t, rfl⟩ := hv.of_int; obtain ⟨t', rfl⟩ := hu.of_int
  exact P.le_int (Post.here G ⟨_, .bool_ _, q⟩)
theorem O_gt {a b : Int} (q : Q (.bool (decide (b < a))) σ) : W2 prog w B A (compareOp .Gt) (.int a) (.int b) σ Q X := fun φ s v u G hv hu => by
  obtain ⟨t, rfl⟩ := hv.of_int; obtain ⟨t', rfl⟩ := hu.of_int
  exact P.gt_int (Post.here G ⟨_, .bool_ _, q⟩)
theorem O_eq {a b : Int} (q : Q (.bool (decide (a = b))) σ) : W2 prog w B A (compareOp .Eq) (.int a) (.int b) σ Q X := fun φ s v u G hv hu => by
  obtain ⟨t, rfl⟩ := hv.of_int; obtain ⟨t', rfl⟩ := hu.of_int
  exact P.eq_int (Post.here G ⟨_, .bool_ _, by rw [beqD]; exact q⟩)
theorem O_ne {a b : Int} (q : Q (.bool (!decide (a = b))) σ) : W2 prog w B A (compareOp .NotEq) (.int a) (.int b) σ Q X := fun φ s v u G hv hu => by
  obtain ⟨t, rfl⟩ := hv.of_int; obtain ⟨t', rfl⟩ := hu.of_int
  exact P.ne_int (Post.here G ⟨_, .bool_ _, by rw [bne, beqD]; exact q⟩)

/-! strs -/
theorem O_adds {x y : Str} (q : Q (.str (x ++ y)) σ) (hsz : x.length + y.length ≤ sizeLine) : W2 prog w B A (binaryOp .Add) (.str x) (.str y) σ Q X := fun φ s v u G hv hu => by
  obtain ⟨t, rfl⟩ := hv.of_str; obtain ⟨t', rfl⟩ := hu.of_str
  exact PyProof.Rows.add_str (fun t' tk => Post.tok G ⟨_, .str_ _ _, q⟩) hsz
theorem O_eqs {x y : Str} (q : Q (.bool (decide (x = y))) σ) : W2 prog w B A (compareOp .Eq) (.str x) (.str y) σ Q X := fun φ s v u G hv hu => by
  obtain ⟨t, rfl⟩ := hv.of_str; obtain ⟨t', rfl⟩ := hu.of_str
  exact PyProof.Rows.eq_str (Post.here G ⟨_, .bool_ _, by rw [beqD]; exact q⟩)
theorem O_nes {x y : Str} (q : Q (.bool (!decide (x = y))) σ) : W2 prog w B A (compareOp .NotEq) (.str x) (.str y) σ Q X := fun φ s v u G hv hu => by
  obtain ⟨t, rfl⟩ := hv.of_str; obtain ⟨t', rfl⟩ := hu.of_str
  exact PyProof.Rows.ne_str (Post.here G ⟨_, .bool_ _, by rw [bne, beqD]; exact q⟩)
theorem O_les {x y : Str} (q : Q (.bool (!decide (y.cps.toList < x.cps.toList))) σ) : W2 prog w B A (compareOp .LtE) (.str x) (.str y) σ Q X := fun φ s v u G hv hu => by
  obtain ⟨t, rfl⟩ := hv.of_str; obtain ⟨t', rfl⟩ := hu.of_str
  exact P.le_str (Post.here G ⟨_, .bool_ _, q⟩)
/-- a text in a text -/
def inS (x y : Str) : Bool := !(Builtin.Str.occurrences x y 0 x.length 1).isEmpty
theorem O_notins {x y : Str} (q : Q (.bool (!inS x y)) σ) : W2 prog w B A (compareOp .NotIn) (.str y) (.str x) σ Q X := fun φ s v u G hv hu => by
  obtain ⟨t, rfl⟩ := hv.of_str; obtain ⟨t', rfl⟩ := hu.of_str
  exact PyProof.Rows.notIn_str (Post.here G ⟨_, .bool_ _, q⟩)

/-! bools -/
/-! is -/
theorem O_is {x y : V} {b : Bool} (h : ∀ (φ : List Addr) (hp : Heap) v u, Val φ hp x v → Val φ hp y u → plainIs v u = true ∧ (v == u) = b) (q : Q (.bool b) σ) : W2 prog w B A (compareOp .Is) x y σ Q X := fun φ s v u G hv hu => by
  obtain ⟨h1, h2⟩ := h _ _ v u hv hu
  exact wpAny_is_plain h1 (Post.here G ⟨_, .bool_ _, h2 ▸ q⟩)
theorem O_isnot {x y : V} {b : Bool} (h : ∀ (φ : List Addr) (hp : Heap) v u, Val φ hp x v → Val φ hp y u → plainIs v u = true ∧ (v == u) = b) (q : Q (.bool (!b)) σ) : W2 prog w B A (compareOp .IsNot) x y σ Q X := fun φ s v u G hv hu => by
  obtain ⟨h1, h2⟩ := h _ _ v u hv hu
  exact wpAny_isNot_plain h1 (Post.here G ⟨_, .bool_ _, h2 ▸ q⟩)
theorem is_none_none : ∀ (φ : List Addr) (hp : Heap) v u, Val φ hp .none v → Val φ hp .none u → plainIs v u = true ∧ (v == u) = true := fun φ hp v u hv hu => by
  obtain rfl := hv.of_none; obtain rfl := hu.of_none
  exact ⟨rfl, by decide⟩
theorem is_ref_none (k : Nat) : ∀ (φ : List Addr) (hp : Heap) v u, Val φ hp (.ref k) v → Val φ hp .none u → plainIs v u = true ∧ (v == u) = false := fun φ hp v u hv hu => by
  obtain ⟨a, rfl, _⟩ := hv.of_ref; obtain rfl := hu.of_none
  exact ⟨rfl, rfl⟩
theorem O_is_none (q : Q (.bool true) σ) : W2 prog w B A (compareOp .Is) .none .none σ Q X := O_is is_none_none q
theorem O_isnot_ref_none {k : Nat} (q : Q (.bool true) σ) : W2 prog w B A (compareOp .IsNot) (.ref k) .none σ Q X := O_isnot (is_ref_none k) q

/-! truth -/
theorem T_b {b : Bool} {Q : Bool → List AObj → Prop} (q : Q b σ) : W1 prog w B A truthy (.bool b) σ (bQ Q) X := fun φ s v G hv => by
  obtain rfl := hv.of_bool
  exact wpAny_truthy_bool (Post.here G q)
theorem O_not {b : Bool} (q : Q (.bool (!b)) σ) : W1 prog w B A (unaryOp .Not) (.bool b) σ (vQ Q) X := fun φ s v G hv => by
  obtain rfl := hv.of_bool
  exact not_of (wpAny_truthy_bool (Post.here G ⟨_, .bool_ _, q⟩))

/-! chains of comparisons -/
theorem E_cmp2 {l r₁ r₂ : Expr} {op₁ op₂ : CmpOp} {pos : Pos}
    (h : WE prog w B A env l ρ σ (fun x σ₁ => WE prog w B A env r₁ ρ σ₁ (fun y σ₂ => W2 prog w B A (compareOp op₁) x y σ₂ (fun c σ₃ => W1 prog w B A truthy c σ₃ (bQ fun b σ₄ =>
      if b then WE prog w B A env r₂ ρ σ₄ (fun z σ₅ => W2 prog w B A (compareOp op₂) y z σ₅ Q X) X else Q c σ₄) X) X) X) X)
    (hm : lastMarks [op₁, op₂] [r₁, r₂] = false := by with_unfolding_all rfl) : WE prog w B A env (.Compare l [op₁, op₂] [r₁, r₂] pos) ρ σ Q X := fun φ s G L =>
  Compare_chain ((h φ s G L).use (.refl ..) fun a s₁ φ₁ σ₁ t₁ _ G₁ ⟨x, hx, h₁⟩ => chain_link ((h₁ φ₁ s₁ G₁ (L.step G t₁)).use t₁ fun b s₂ φ₂ σ₂ t₂ t G₂ ⟨y, hy, h₂⟩ =>
    (h₂ φ₂ s₂ a b G₂ (hx.step G₁ t₂) hy).use t fun c s₃ φ₃ σ₃ t₃ t' G₃ ⟨z, hz, h₃⟩ => (h₃ φ₃ s₃ c G₃ hz).use t' fun d s₄ φ₄ σ₄ t₄ t'' G₄ h₄ => by
      cases d
      · exact ⟨_, _, t'', G₄, z, hz.step G₃ t₄, h₄⟩
      · exact chain_last ((h₄ φ₄ s₄ G₄ (L.step G t'')).use t'' fun e s₅ φ₅ σ₅ t₅ t5 G₅ ⟨z', hz', h₅⟩ => (h₅ φ₅ s₅ b e G₅ (hy.step G₂ (t₃.trans0 (t₄.trans0 t₅))) hz').last t5))) hm
theorem T_cmp2 {l r₁ r₂ : Expr} {op₁ op₂ : CmpOp} {pos : Pos} {Q : Bool → List AObj → Prop}
    (h : WE prog w B A env l ρ σ (fun x σ₁ => WE prog w B A env r₁ ρ σ₁ (fun y σ₂ => W2 prog w B A (compareOp op₁) x y σ₂ (fun c σ₃ => W1 prog w B A truthy c σ₃ (bQ fun b σ₄ =>
      if b then WE prog w B A env r₂ ρ σ₄ (fun z σ₅ => W2 prog w B A (compareOp op₂) y z σ₅ (fun c' σ₆ => W1 prog w B A truthy c' σ₆ (bQ Q) X) X) X else Q false σ₄) X) X) X) X)
    (hm : lastMarks [op₁, op₂] [r₁, r₂] = false := by with_unfolding_all rfl) : WT prog w B A env (.Compare l [op₁, op₂] [r₁, r₂] pos) ρ σ Q X := fun φ s G L =>
  isTrue_chain ((h φ s G L).use (.refl ..) fun a s₁ φ₁ σ₁ t₁ _ G₁ ⟨x, hx, h₁⟩ => test_link ((h₁ φ₁ s₁ G₁ (L.step G t₁)).use t₁ fun b s₂ φ₂ σ₂ t₂ t G₂ ⟨y, hy, h₂⟩ =>
    (h₂ φ₂ s₂ a b G₂ (hx.step G₁ t₂) hy).use t fun c s₃ φ₃ σ₃ t₃ t' G₃ ⟨z, hz, h₃⟩ => (h₃ φ₃ s₃ c G₃ hz).use t' fun d s₄ φ₄ σ₄ t₄ t'' G₄ h₄ => by
      cases d
      · exact ⟨_, _, t'', G₄, h₄⟩
      · exact test_last ((h₄ φ₄ s₄ G₄ (L.step G t'')).use t'' fun e s₅ φ₅ σ₅ t₅ t5 G₅ ⟨z', hz', h₅⟩ => (h₅ φ₅ s₅ b e G₅ (hy.step G₂ (t₃.trans0 (t₄.trans0 t₅))) hz').use t5
          fun c' s₆ φ₆ σ₆ t₆ t6 G₆ ⟨y', hy', h₆⟩ => (h₆ φ₆ s₆ c' G₆ hy').last t6))) hm

/-! and, or of any number, as values -/
def WBo (prog : Program) (w : World) (B : Shared) (A : Around) (env : Env) (op : BoolOp) (es : List Expr) (ρ : List (Str × V)) (σ : List AObj) (Q : V → List AObj → Prop) (X : XT) : Prop :=
  ∀ pos φ s, St prog w B φ σ s → Loc A B env ρ φ s.heap → W prog w B A (boolOp pos op (evalEach es env)) φ s (vQ Q) X
theorem E_boolop {op : BoolOp} {es : List Expr} {pos : Pos} (h : WBo prog w B A env op es ρ σ Q X) : WE prog w B A env (.BoolOp op es pos) ρ σ Q X := fun φ s G L => h pos φ s G L
theorem Bo_one {op : BoolOp} {e : Expr} (h : WE prog w B A env e ρ σ Q X) : WBo prog w B A env op [e] ρ σ Q X := fun pos φ s G L => h φ s G L
theorem Bo_and {e e' : Expr} {es : List Expr} (h : WE prog w B A env e ρ σ (fun v σ₁ => W1 prog w B A truthy v σ₁ (bQ fun b σ₂ => if b then WBo prog w B A env .And (e' :: es) ρ σ₂ Q X else Q v σ₂) X) X) : WBo prog w B A env .And (e :: e' :: es) ρ σ Q X := fun pos φ s G L => by
  show wpAny _ _ (do
    let v ← eval e env
    standAt pos
    let t ← holding [v] (truthy v)
    match BoolOp.And, t with
    | .And, false | .Or, true => pure v
    | _, _ => boolOp pos .And (evalEach (e' :: es) env)) _ _ _
  refine wpAny_bind ((h φ s G L).use (.refl ..) fun a s₁ φ₁ σ₁ t₁ _ G₁ ⟨x, hx, h₁⟩ => wpAny_bind (wpAny_standAt (wpAny_bind (wpAny_holding ((h₁ φ₁ s₁ a G₁ hx).use t₁ fun b s₂ φ₂ σ₂ t₂ t G₂ h₂ => ?_)))))
  cases b
  · exact wpAny_pure ⟨_, _, t, G₂, x, hx.step G₁ t₂, h₂⟩
  · exact (h₂ pos φ₂ s₂ G₂ (L.step G t)).last t
/-! built-ins of ints -/
end
end Mine

set_option autoImplicit false
set_option linter.unusedVariables false
namespace Mine
open PySem PySem.W PySem.Calls PyProof.Rows

/-- what may be called plainly -/
def Keep (B : Shared) (f : Value) : Prop :=
  ∀ (M : Model) (h : Heap), (∀ b o, B.heap.get? b = some o → h.get? b = some o) → ∃ k, (k = Keeper.frame ∨ k = Keeper.machine ∨ k = Keeper.boundFrame) ∧ Looks M h (keeperOf f) k

section
variable {prog : Program} {w : World} {B : Shared} {φ : List Addr} {σ : List AObj} {s : Shared} {env : Env} {ρ : List (Str × V)} {A : Around} {X : XT} {Q : V → List AObj → Prop}

theorem Keep.builtin (id : String) : Keep B (.builtin id) := fun M h _ => ⟨.machine, .inr (.inl rfl), .now⟩
theorem Keep.type (T : String) : Keep B (.type T) := fun M h _ => ⟨.machine, .inr (.inl rfl), .now⟩
theorem Keep.fn {a : Addr} {names : List Str} {fd : FuncData} {body : List Stmt} (F : Fn B a names fd body) : Keep B (.ref a) := fun M h hk => by
  obtain ⟨o, ho, hd⟩ := F.at_
  refine ⟨.frame, .inl rfl, (Looks.ld (part := none) (hk _ _ ho)).andThen ?_⟩
  rw [hd]; exact .now
theorem evalArgs_any {M : Model} {E : Value → Shared → Prop} {f : Value} {args : List (Bool × Sem Value)} {R : Args → Shared → Prop} (hp : args.any (·.1) = false) (h : wpAny M A (spliced args) (fun vs s' => R ⟨vs, []⟩ s') E s) :
    wpAny M A (evalArgs f true args []) R E s := by
  match args, hp, h with
  | [], _, h =>
    unfold evalArgs
    show wpAny M A (spliced [] >>= _) R E s
    refine wpAny_bind (wpAny_mono h (fun vs s' h' => ?_) fun _ _ x => x)
    refine wpAny_holding ?_
    exact wpAny_bind (wpAny_pure (wpAny_bind (wpAny_pure (wpAny_pure h'))))
  | (false, x) :: rest, _, h => exact evalArgs_plain h
  | (true, x) :: rest, hp, _ => simp at hp

theorem E_call {f : Value} {x : Str} {px pos : Pos} {es : List Expr} (hf : WE prog w B A env (.Name x px) ρ σ (fun y σ₁ => y = .raw f ∧ WEs prog w B A env es ρ σ₁ (fun xs σ₂ => WC prog w B A f xs σ₂ Q X) X) X) (hk : Keep B f)
    (hp : ∀ pos, (backTo pos (starEach es env)).any (·.1) = false := by intro _; with_unfolding_all rfl) :
    WE prog w B A env (.Call (.Name x px) es [] pos) ρ σ Q X := fun φ s G L => by
  refine wpAny_Call_NameR ((hf φ s G L).use (.refl ..) fun v s₁ φ₁ σ₁ t₁ _ G₁ ⟨y, hy, e, h₁⟩ => ?_)
  subst e
  have hv := hy.of_raw
  subst hv
  refine callWith_of (P := fun h => ∀ b o, B.heap.get? b = some o → h.get? b = some o) (by rw [hp pos]; rfl) (fun h hb => hk _ h hb) ?_
  have main := (h₁ pos φ₁ s₁ G₁ (L.step G t₁)).use t₁ (R := fun vs s₂ => (∀ b o, B.heap.get? b = some o → s₂.heap.get? b = some o) ∧ wpAny (model prog w) A (call v ([] ++ vs)) (Post prog w B [] φ s (vQ Q)) (Post prog w B [] φ s X) s₂) fun vs s₂ φ₂ σ₂ t₂ t G₂ ⟨xs, hxs, h₂⟩ => ⟨G₂.base, (h₂ φ₂ s₂ vs G₂ (L.frs.step t) hxs).last t⟩
  exact evalArgs_any (hp pos) main
end
end Mine

set_option autoImplicit false
set_option linter.unusedVariables false
namespace Mine
open PySem PySem.W PySem.Calls PyProof.Rows

section
variable {prog : Program} {w : World} {B : Shared} {φ φ' : List Addr} {σ σ' : List AObj} {s s' : Shared} {env : Env} {ρ : List (Str × V)} {A : Around} {X : XT} {Q : V → List AObj → Prop}

/-- an iterator at I that hands out n values -/
structure Itr (prog : Program) (w : World) (B : Shared) (A : Around) (I : Addr) (n : Nat) (el : Nat → V) (C : List AObj → Prop) (Ss : Nat → List Addr → Heap → Prop) : Prop where
  obj : ∀ i φ h, Ss i φ h → ∃ o, h.get? I = some o ∧ NoD o ∧ ¬ Still o
  frame : ∀ i φ φ' h h', Ss i φ h → φ <+: φ' → (∀ o, h.get? I = some o → h'.get? I = some o) → (∀ a o, h.get? a = some o → Still o → h'.get? a = some o) → Ss i φ' h'
  item : ∀ i φ σ s (Q : Option Value → Shared → Prop) (E : Value → Shared → Prop), i < n → St prog w B φ σ s → C σ → Ss i φ s.heap →
    (∀ v h' tk, Val φ h' (el i) v → Ss (i + 1) φ h' → (∀ b o, b ≠ I → s.heap.get? b = some o → h'.get? b = some o) → Q (some v) { s with heap := h', toks := tk }) → wpAny (model prog w) A (pyNext (.ref I)) Q E s
  done : ∀ φ σ s (Q : Option Value → Shared → Prop) (E : Value → Shared → Prop), St prog w B φ σ s → C σ → Ss n φ s.heap →
    (∀ h' tk, (∀ b o, b ≠ I → s.heap.get? b = some o → h'.get? b = some o) → Q none { s with heap := h', toks := tk }) → wpAny (model prog w) A (pyNext (.ref I)) Q E s
  self : ∀ i φ s (Q : Value → Shared → Prop) (E : Value → Shared → Prop), Ss i φ s.heap → Q (.ref I) s → wpAny (model prog w) A (pyIter (.ref I)) Q E s

/-- a value that can be walked; σ₁: the heap while it is walked -/
def WIt (prog : Program) (w : World) (B : Shared) (A : Around) (x : V) (σ σ₁ : List AObj) (n : Nat) (el : Nat → V) (C : List AObj → Prop) : Prop :=
  ∀ φ s v (R : Value → Shared → Prop) (E : Value → Shared → Prop), St prog w B φ σ s → Val φ s.heap x v →
    (∀ I h₁ Ss, (∀ b o, s.heap.get? b = some o → h₁.get? b = some o) → s.heap.get? I = none → I ∉ φ → Itr prog w B A I n el C Ss → Ss 0 φ h₁ → St prog w B φ σ₁ { s with heap := h₁ } → R (.ref I) { s with heap := h₁ }) →
    wpAny (model prog w) A (pyIter v) R E s

theorem St.but {s' : Shared} {c : Addr} (G : St prog w B φ σ s) (hs : ∀ b o, b ≠ c → s.heap.get? b = some o → s'.heap.get? b = some o) (hc : c ∉ φ) (hb : B.heap.get? c = none) (hn : ∀ o, s.heap.get? c = some o → ¬ Still o)
    (hg : s'.gens = s.gens := by rfl) (ho : s'.os = s.os := by rfl) : St prog w B φ σ s' := by
  refine ⟨fun b o e => hs b o (fun h => by rw [h, hb] at e; cases e) (G.base b o e), G.new, G.nodup, G.len, fun k a ob h1 h2 => ?_, hg.trans G.gens, ho.trans G.os, G.sys⟩
  refine (G.objs k a ob h1 h2).mono (List.prefix_refl _) (fun a o e hst => hs a o (fun h => hn o (h ▸ e) hst) e) fun o e => hs a o (fun h => hc (h ▸ List.mem_of_getElem? h1)) e
theorem Loc.but {h h' : Heap} {c : Addr} (L : Loc A B env ρ φ h) (hs : ∀ b o, b ≠ c → h.get? b = some o → h'.get? b = some o) (hc : c ∉ fr env) (hn : ∀ o, h.get? c = some o → ¬ Still o) (hF : Frs A B φ h') : Loc A B env ρ φ h' := by
  have hk : ∀ a ∈ fr env, ∀ o, h.get? a = some o → ∃ o', h'.get? a = some o' ∧ Sim o o' := fun a ha o e => ⟨o, hs a o (fun h => hc (h ▸ ha)) e, .refl o⟩
  refine ⟨L.kind, L.glob, L.blt, ?_, L.own, fun x d hm => ?_, L.apart, fun x v hx => ?_, hF, L.top⟩
  · obtain ⟨m, n⟩ := L.ns; exact ⟨m, Ns.upTo n (hk _ (.head _))⟩
  · obtain ⟨v, n⟩ := L.cells x d hm; exact ⟨v, IsCell.upTo n (hk _ (mem_fr_cell hm))⟩
  · obtain ⟨val, hb, hv⟩ := L.val x v hx
    refine ⟨val, ?_, Val.mono (List.prefix_refl _) (fun a o e hst => hs a o (fun h => hn o (h ▸ e) hst) e) v hv⟩
    rcases hb with ⟨k, m, n, e⟩ | ⟨k, d, e, n⟩
    · exact .inl ⟨k, m, Ns.upTo n (hk _ (.head _)), e⟩
    · exact .inr ⟨k, d, e, IsCell.upTo n (hk _ (mem_fr_cell (mem_of_lookup e)))⟩

/-- what a turn of a loop leaves -/
def turnQ (Iv : List (Str × V) → List AObj → Prop) (C : List AObj → Prop) (Q : Fl → List (Str × V) → List AObj → Prop) : Fl → List (Str × V) → List AObj → Prop
  | .next, ρ', σ' => C σ' ∧ Iv ρ' σ'
  | .cont, ρ', σ' => C σ' ∧ Iv ρ' σ'
  | .brk, ρ', σ' => Q .next ρ' σ'
  | .ret x, ρ', σ' => Q (.ret x) ρ' σ'

/-- what a loop's body may raise, and what then comes out of the loop -/
inductive XB (A : Around) (B : Shared) (env : Env) : XT → XT → Prop
  | no {X : XT} : XB A B env (fun _ _ _ _ => False) X
  | exc {l : List (Str × V)} {R : Addr → List AObj → Prop} : XB A B env (xL A B env l (xQ R)) (xL A B env l (xQ R))
theorem X_for {x : Str} {px pos : Pos} {iter : Expr} {body : List Stmt} {Q : Fl → List (Str × V) → List AObj → Prop} 
    (h : WE prog w B A env iter ρ σ (fun v σ' => ∃ σ₁ n el C X', XB A B env X' X ∧ ∃ Iv : Nat → List (Str × V) → List AObj → Prop, WIt prog w B A v σ' σ₁ n el C ∧ C σ₁ ∧ Iv 0 ρ σ₁ ∧
      (∀ i ρ₂ σ₂, i < n → C σ₂ → Iv i ρ₂ σ₂ → WX prog w B A env body ((x, el i) :: ρ₂) σ₂ (turnQ (Iv (i + 1)) C Q) X') ∧
      (∀ ρ₂ σ₂, C σ₂ → Iv n ρ₂ σ₂ → Q .next ρ₂ σ₂)) X)
    (hx : env.kindOf x = some .local ∨ env.kindOf x = some .cell ∧ (env.cells.lookup x).isSome = true)
    (hs : ∀ v, foldedSetIterable iter env v = pure v := by intro _; with_unfolding_all rfl) (hl : ∀ it v, letOwnedTupleGo (.Name x px) it v = pure () := by intro _ _; with_unfolding_all rfl) :
    WX1 prog w B A env (.For (.Name x px) iter body [] pos) ρ σ Q X := fun φ s G L => by
  refine wpAny_For (h.then G L fun v s₁ φ₁ σ' y t₁ G₁ L₁ hy hq => ?_) hs
  obtain ⟨σ₁, n, el, C, X', hXB, Iv, hit, hC, hI, hbody, hend⟩ := hq
  refine hit φ₁ s₁ v _ _ G₁ hy fun I h₁ Ss hk hI0 hIφ W hS G₂ => ?_
  have tk0 : Step [] φ₁ s₁.heap φ₁ h₁ := .of_keeps hk
  have L₂ : Loc A B env ρ φ₁ h₁ := L₁.step G₁ tk0
  have hIfr : I ∉ fr env := fun hm => by obtain ⟨o, e, _⟩ := L₁.there hm; rw [hI0] at e; cases e
  have hIB : B.heap.get? I = none := G₁.baseSize hI0
  have hI0' : s.heap.get? I = none := by
    cases e : s.heap.get? I with
    | none => rfl
    | some o =>
      by_cases hm : I ∈ φ
      · exact absurd (t₁.pre.subset hm) hIφ
      · obtain ⟨o', e', _⟩ := t₁.keep I o e hm (fun h => nomatch h); rw [hI0] at e'; cases e'
  have t₂ : Step (fr env) φ s.heap φ₁ h₁ := Step.nilD (t₁.trans0 tk0)
  -- the loop
  refine codeAny_forLoop_any (fun k s' => ∃ i φ' σ' ρ', k = n - i ∧ i ≤ n ∧ Step (fr env) φ s.heap φ' s'.heap ∧ St prog w B φ' σ' s' ∧ Loc A B env ρ' φ' s'.heap ∧ I ∉ φ' ∧ Ss i φ' s'.heap ∧ C σ' ∧ Iv i ρ' σ') ?_ n
    ⟨0, φ₁, σ₁, ρ, rfl, Nat.zero_le _, t₂, G₂, L₂, hIφ, hS, hC, hI⟩
  rintro k s' ⟨i, φ', σ', ρ', rfl, hin, tt, G', L', hIφ', hS', hC', hI'⟩
  by_cases hlt : i < n
  · refine W.item i φ' σ' s' _ _ hlt G' hC' hS' fun v h₃ tk hv hS₃ hk₃ => ?_
    refine wpAny_of_eq (hl _ _) ?_
    obtain ⟨oI, heI, hcI, hnI⟩ := W.obj _ _ _ hS'
    have hnI' : ∀ o, s'.heap.get? I = some o → ¬ Still o := fun o e => by rw [heI] at e; cases e; exact hnI
    have G₃ : St prog w B φ' σ' { s' with heap := h₃, toks := tk } := G'.but (s' := { s' with heap := h₃, toks := tk }) hk₃ hIφ' hIB hnI'
    have L₃ : Loc A B env ρ' φ' h₃ := L'.but hk₃ hIfr hnI' (L'.frs.at hk₃ (.inr fun o e => by rw [heI] at e; cases e; exact hcI))
    refine wpAny_assign_Name (store_name (s := { s' with heap := h₃, toks := tk }) G₃ L₃ hv hx fun h₄ tk₄ t₄ G₄ L₄ => ?_)
    have t3 : Step (fr env) φ s.heap φ' h₃ := by
      refine ⟨tt.pre, tt.fresh, fun b o e h1 h2 => ?_⟩
      obtain ⟨o', e', hs'⟩ := tt.keep b o e h1 h2
      exact ⟨o', hk₃ b o' (fun h => by rw [h, hI0'] at e; cases e) e', hs'⟩
    refine wpAny_mono (hbody i ρ' σ' hlt hC' hI' φ' _ G₄ L₄) (fun f s₅ hx => ?_) (fun e s₅ hx => ?_)
    rotate_left
    · obtain ⟨φ₅, σ₅, t₅, G₅, x⟩ := hx
      cases hXB with
      | no => exact x.elim
      | exc =>
        obtain ⟨⟨C, tq, τ, junk, ea, rfl, htb, rfl, ha, hR⟩, L₅⟩ := x
        exact came_W G₅ htb L₅ ha fun φ₂ t₂ junk₂ h₂ st htb₂ ha₂ G₂ => ⟨φ₂, _, ((t3.transF t₄ L₃).transF t₅ L₄).transF st.nilD L₅, G₂, ⟨C, some t₂, τ, junk₂, ea, rfl, htb₂, rfl, ha₂, hR⟩, L₅.step G₅ st⟩
    obtain ⟨φ₅, σ₅, t₅, G₅, fl, ρ₅, hf, L₅, q⟩ := hx
    have t5 : Step (fr env) φ s.heap φ₅ s₅.heap := (t3.transF t₄ L₃).transF t₅ L₄
    have hS₄ : Ss (i + 1) φ' h₄ := by
      obtain ⟨oJ, heJ, hcJ, hnJ⟩ := W.obj _ _ _ hS₃
      refine W.frame _ _ _ _ _ hS₃ (List.prefix_refl _) (fun o e => ?_) (t₄.still G₃ (fr_notStill L₃))
      rw [heJ] at e; cases e
      obtain ⟨o', e', hs'⟩ := t₄.keep I oJ heJ hIφ' hIfr
      rw [hs'.same hcJ] at e'; exact e'
    have hIφ₅ : I ∉ φ₅ := fun hm => by
      obtain ⟨oJ, heJ, hcJ, hnJ⟩ := W.obj _ _ _ hS₄
      rcases t₅.fresh I hm with h | h
      · exact hIφ' h
      · rw [heJ] at h; cases h
    have hS₅ : Ss (i + 1) φ₅ s₅.heap := by
      obtain ⟨oJ, heJ, hcJ, hnJ⟩ := W.obj _ _ _ hS₄
      refine W.frame _ _ _ _ _ hS₄ t₅.pre (fun o e => ?_) (t₅.still G₄ (fr_notStill L₄))
      rw [heJ] at e; cases e
      obtain ⟨o', e', hs'⟩ := t₅.keep I oJ heJ hIφ' hIfr
      rw [hs'.same hcJ] at e'; exact e'
    cases fl with
    | next => obtain rfl : f = .next := hf; exact ⟨n - (i + 1), by omega, i + 1, φ₅, σ₅, ρ₅, rfl, hlt, t5, G₅, L₅, hIφ₅, hS₅, q.1, q.2⟩
    | cont => obtain rfl : f = .cont := hf; exact ⟨n - (i + 1), by omega, i + 1, φ₅, σ₅, ρ₅, rfl, hlt, t5, G₅, L₅, hIφ₅, hS₅, q.1, q.2⟩
    | brk => obtain rfl : f = .brk := hf; exact ⟨φ₅, σ₅, t5, G₅, .next, ρ₅, rfl, L₅, q⟩
    | ret y => obtain ⟨u, rfl, hu⟩ := hf; exact ⟨φ₅, σ₅, t5, G₅, .ret y, ρ₅, ⟨u, rfl, hu⟩, L₅, q⟩
  · have hin' : i = n := by omega
    subst hin'
    refine W.done φ' σ' s' _ _ G' hC' hS' fun h₃ tk hk₃ => ?_
    obtain ⟨oI, heI, hcI, hnI⟩ := W.obj _ _ _ hS'
    have hnI' : ∀ o, s'.heap.get? I = some o → ¬ Still o := fun o e => by rw [heI] at e; cases e; exact hnI
    have G₃ : St prog w B φ' σ' { s' with heap := h₃, toks := tk } := G'.but (s' := { s' with heap := h₃, toks := tk }) hk₃ hIφ' hIB hnI'
    have L₃ : Loc A B env ρ' φ' h₃ := L'.but hk₃ hIfr hnI' (L'.frs.at hk₃ (.inr fun o e => by rw [heI] at e; cases e; exact hcI))
    have t3 : Step (fr env) φ s.heap φ' h₃ := by
      refine ⟨tt.pre, tt.fresh, fun b o e h1 h2 => ?_⟩
      obtain ⟨o', e', hs'⟩ := tt.keep b o e h1 h2
      exact ⟨o', hk₃ b o' (fun h => by rw [h, hI0'] at e; cases e) e', hs'⟩
    exact wpAny_execs_nil ⟨φ', σ', t3, G₃, .next, ρ', rfl, L₃, hend ρ' σ' hC' hI'⟩
end
end Mine

set_option autoImplicit false
set_option linter.unusedVariables false
namespace Mine
open PySem PySem.W PySem.Calls PyProof.Rows

section
variable {prog : Program} {w : World} {B : Shared} {φ φ' : List Addr} {σ σ' : List AObj} {s s' : Shared} {env : Env} {ρ : List (Str × V)} {A : Around} {X : XT} {Q : V → List AObj → Prop}

theorem St.get (G : St prog w B φ σ s) {k : Nat} {ob : AObj} (h : σ[k]? = some ob) : ∃ a, φ[k]? = some a ∧ ObjR prog w φ s.heap a ob := by
  have hk := (List.getElem?_eq_some_iff.mp h).1
  have e := List.getElem?_eq_getElem (l := φ) (i := k) (G.len ▸ hk)
  exact ⟨_, e, G.objs k _ ob e h⟩
theorem idx_mono {k : Nat} {a : Addr} (hp : φ <+: φ') (h : φ[k]? = some a) : φ'[k]? = some a := by
  obtain ⟨r, rfl⟩ := hp
  rw [List.getElem?_append_left (List.getElem?_eq_some_iff.mp h).1]; exact h

/-- from the library's walks: sources that the call's objects do not touch -/
theorem Itr.ofWalks {I : Addr} {n : Nat} {el : Nat → V} {P : Nat → Value → Prop} {Sw : Nat → Heap → Prop} (W : Walks prog w A I [I] [I] n P Sw)
    (hobj : ∀ i h, Sw i h → ∃ o, h.get? I = some o ∧ NoD o ∧ ¬ Still o) (hel : ∀ (φ : List Addr) h i v, P i v → Val φ h (el i) v) :
    Itr prog w B A I n el (fun _ => True) (fun i _ h => Sw i h) where
  obj := fun i _ h hs => hobj i h hs
  frame := fun i _ _ h h' hs _ hk _ => W.frame i h h' hs fun b hb o e => by simp at hb; subst hb; exact hk o e
  item := fun i φ σ s Q E hi _ _ hs hq => W.item i s Q E hi hs fun v h' tk hP hS hk => hq v h' tk (hel _ _ _ _ hP) hS fun b o hb e => hk b o (by simpa using hb) e
  done := fun φ σ s Q E _ _ hs hq => W.done s Q E hs fun h' tk hk => hq h' tk fun b o hb e => hk b o (by simpa using hb) e
  self := fun i φ s Q E hs hq => W.self i s Q E hs hq

/-- range(a, b) -/
theorem It_range {a b : Int} (hh : A.handled = none) (h1 : -(2 ^ 62) ≤ a) (h2 : a < 2 ^ 62) (h3 : -(2 ^ 62) ≤ b) (h4 : b < 2 ^ 62) :
    WIt prog w B A (.rng a b 1) σ σ (b - a).toNat (fun i => .int (a + i)) (fun _ => True) := fun φ s v R E G hv k => by
  rw [Val] at hv
  obtain ⟨r, t, u, kk, rfl, ho⟩ := hv
  refine wpAny_pyIter_range ho (small_one h1 h2 h3 h4) ?_
  have hsz : Builtin.Range.rangeSize a b 1 = ((b - a).toNat : Int) := by rw [rangeSize_one]; split <;> omega
  have hk : ∀ (c : Addr) (o : Obj), s.heap.get? c = some o → (s.heap.push { cls := .type "range_iterator", data := .fields #[rawInt a, rawInt (Builtin.Range.rangeSize a b 1), rawInt 1] }).get? c = some o := fun c o e => Heap.get?_push_of_some _ e
  refine k s.heap.objs.size _ _ hk (get?_size _) G.fresh (Itr.ofWalks (Walks.range hh s.heap.objs.size a 1 (b - a).toNat) (fun i h hs => ⟨_, hs, .fields rfl, notStill_type rfl (by decide) (by decide)⟩) fun φ h i v ⟨t, e⟩ => by subst e; simpa using Val.int_ _ _) ?_ (G.keeps hk)
  show IsRangeIter _ _ (a + ((0 : Nat) : Int) * 1) (((b - a).toNat : Int) - ((0 : Nat) : Int)) 1
  have e1 : (a + ((0 : Nat) : Int) * 1) = a := by simp
  have e2 : (((b - a).toNat : Int) - ((0 : Nat) : Int)) = Builtin.Range.rangeSize a b 1 := by rw [hsz]; simp
  rw [e1, e2]
  exact Heap.get?_push_size _ rfl

/-- the signs of a text -/
def signAt (x : Str) (i : Nat) : Str := ⟨#[x.cps.getD i 0]⟩
theorem It_str {x : Str} (hh : A.handled = none) : WIt prog w B A (.str x) σ σ x.cps.size (fun i => .str (signAt x i)) (fun _ => True) := fun φ s v R E G hv k => by
  obtain ⟨t, rfl⟩ := hv.of_str
  have hk : ∀ (ob : Obj) (c : Addr) (o : Obj), s.heap.get? c = some o → (s.heap.push ob).get? c = some o := fun ob c o e => Heap.get?_push_of_some _ e
  have hel : ∀ (φ : List Addr) (h : Heap) (i : Nat) (v : Value), SignAt x i v → Val φ h (.str (signAt x i)) v := fun φ h i v ⟨c, u, hc, e⟩ => by
    subst e
    have : signAt x i = ⟨#[c]⟩ := by unfold signAt; rw [Array.getD_eq_getD_getElem?, hc]; rfl
    rw [this]; exact .str_ _ _
  cases ha : x.cps.all (· < 128)
  · refine wpAny_pyIter_wide ha (k s.heap.objs.size _ _ (hk _) (get?_size _) G.fresh (Itr.ofWalks (Walks.strWide hh s.heap.objs.size x t) (fun i h hs => ?_) hel) ⟨_, Heap.get?_push_size _ rfl, rfl, rfl⟩ (G.keeps (hk _)))
    obtain ⟨o, ho, hc, hd⟩ := hs
    exact ⟨o, ho, .fields hd, notStill_type hc (by decide) (by decide)⟩
  · refine wpAny_pyIter_ascii ha (k s.heap.objs.size _ _ (hk _) (get?_size _) G.fresh (Itr.ofWalks (Walks.strAscii hh s.heap.objs.size x t) (fun i h hs => ?_) hel) ⟨_, Heap.get?_push_size _ rfl, rfl, rfl⟩ (G.keeps (hk _)))
    obtain ⟨o, ho, hc, hd⟩ := hs
    exact ⟨o, ho, .fields hd, notStill_type hc (by decide) (by decide)⟩

/-- the items of a list of the call's -/
theorem It_list {k : Nat} {xs : List V} (hh : A.handled = none) (hσ : σ[k]? = some (.list xs)) : WIt prog w B A (.ref k) σ σ xs.length (fun i => xs.getD i .none) (fun σ' => σ'[k]? = some (.list xs)) := fun φ s v R E G hv kont => by
  obtain ⟨a, rfl, ha⟩ := hv.of_ref
  obtain ⟨a', ha', vs, n, ho, hvs⟩ := G.get hσ
  rw [ha] at ha'; cases ha'
  have hk : ∀ (c : Addr) (o : Obj), s.heap.get? c = some o → (s.heap.push { cls := .type "list_iterator", data := .fields #[.ref a, .int 0 0] }).get? c = some o := fun c o e => Heap.get?_push_of_some _ e
  refine wpAny_pyIter_list ⟨_, ho, rfl, n, rfl⟩ (kont s.heap.objs.size _ (fun i φ h => ∃ a, φ[k]? = some a ∧ a ≠ s.heap.objs.size ∧ h.IsListIter s.heap.objs.size a i) hk (get?_size _) G.fresh ?_ ⟨a, ha, fun e => ?_, ⟨_, Heap.get?_push_size _ rfl, rfl, rfl⟩⟩ (G.keeps hk))
  · refine ⟨fun i φ h ⟨a, _, _, o, ho, hc, hd⟩ => ⟨o, ho, .fields hd, notStill_type hc (by decide) (by decide)⟩, fun i φ φ' h h' ⟨a, ha, hne, o, ho, r⟩ hp hk _ => ⟨a, idx_mono hp ha, hne, o, hk o ho, r⟩, ?_, ?_, fun i φ s Q E ⟨a, _, _, hs⟩ hq => wpAny_pyIter_listiter hs hq⟩
    · intro i φ' σ' s' Q E hi G' hC ⟨a, ha, hne, hs⟩ hq
      obtain ⟨a', ha', vs, n, ho, hvs⟩ := G'.get hC
      rw [ha] at ha'; cases ha'
      obtain ⟨v, hv, hvv⟩ := hvs.get (i := i) (x := xs.getD i .none) (by rw [List.getD_eq_getElem?_getD, List.getElem?_eq_getElem hi]; rfl)
      refine wpAny_pyNext_list_item hs ⟨_, ho, rfl, n, rfl⟩ (by rw [← Array.getElem?_toList]; exact hv) fun h' hs' hsb => ?_
      obtain ⟨oI, heI, hcI, _⟩ := hs
      exact hq v h' _ (hvv.sameBut hsb fun o e => by rw [heI] at e; cases e; exact notStill_type hcI (by decide) (by decide)) ⟨a, ha, hne, hs'⟩ fun b o hb e => hsb.extBut b o hb e
    · intro φ' σ' s' Q E G' hC ⟨a, ha, hne, hs⟩ hq
      obtain ⟨a', ha', vs, n, ho, hvs⟩ := G'.get hC
      rw [ha] at ha'; cases ha'
      refine wpAny_pyNext_list_end hh hs ⟨_, ho, rfl, n, rfl⟩ ?_ fun h' hx => hq h' _ fun b o hb e => hx b o hb e
      have := hvs.length
      rw [← Array.getElem?_toList, List.getElem?_eq_none]; omega
  · rw [e, get?_size] at ho; cases ho

theorem St.notSys (G : St prog w B φ σ s) {a : Addr} (ha : a ∈ φ) : (a == sysModules) = false := by
  cases e : a == sysModules with
  | false => rfl
  | true => exact absurd (eq_of_beq e ▸ ha) G.sys.2

/-- a dict with its epoch held -/
def pin (σ : List AObj) (k : Nat) (es : List (Key × V)) (ep : Nat) : List AObj := σ.set k (.dict es (some ep))
theorem St.pin {k : Nat} {es : List (Key × V)} {e : Option Nat} (G : St prog w B φ σ s) (hσ : σ[k]? = some (.dict es e)) : ∃ ep, (∀ n, e = some n → ep = n) ∧ St prog w B φ (pin σ k es ep) s ∧
    ∃ a kvs, φ[k]? = some a ∧ s.heap.DictAt (kk prog w) a kvs ep ∧ Ents φ s.heap es kvs := by
  obtain ⟨a, ha, kvs, ep, h1, h2, h3⟩ := G.get hσ
  refine ⟨ep, h3, ?_, a, kvs, ha, h1, h2⟩
  have hk := (List.getElem?_eq_some_iff.mp hσ).1
  refine ⟨G.base, G.new, G.nodup, by simp [Mine.pin, G.len], fun j b ob j1 j2 => ?_, G.gens, G.os, G.sys⟩
  by_cases hj : j = k
  · subst hj
    rw [Mine.pin, List.getElem?_set_self hk] at j2; cases j2
    rw [ha] at j1; cases j1
    exact ⟨kvs, ep, h1, h2, fun n e => by cases e; rfl⟩
  · rw [Mine.pin, List.getElem?_set_ne (Ne.symm hj)] at j2
    exact G.objs j b ob j1 j2
theorem St.unpin {k : Nat} {es : List (Key × V)} {e : Option Nat} {ep : Nat} (G : St prog w B φ σ s) (hσ : σ[k]? = some (.dict es (some ep))) (he : ∀ n, e = some n → ep = n) : St prog w B φ (σ.set k (.dict es e)) s := by
  have hk := (List.getElem?_eq_some_iff.mp hσ).1
  refine ⟨G.base, G.new, G.nodup, by simp [G.len], fun j b ob j1 j2 => ?_, G.gens, G.os, G.sys⟩
  by_cases hj : j = k
  · subst hj
    rw [List.getElem?_set_self hk] at j2; cases j2
    obtain ⟨a, ha, kvs, ep', h1, h2, h3⟩ := G.get hσ
    rw [ha] at j1; cases j1
    have := h3 ep rfl
    subst this
    exact ⟨kvs, ep', h1, h2, he⟩
  · rw [List.getElem?_set_ne (Ne.symm hj)] at j2
    exact G.objs j b ob j1 j2

theorem Ents.get {h : Heap} : ∀ {es : List (Key × V)} {kvs : List (Key × Value)}, Ents φ h es kvs → ∀ {i : Nat} {p : Key × V}, es[i]? = some p → ∃ v, kvs[i]? = some (p.1, v) ∧ Val φ h p.2 v
  | _, _, .nil, i, p, hp => by simp at hp
  | _, _, .cons h1 h2, 0, p, hp => by simp at hp; subst hp; exact ⟨_, rfl, h1⟩
  | _, _, .cons h1 h2, i + 1, p, hp => by simpa using Ents.get h2 (by simpa using hp)
theorem Key.val {h : Heap} {k : Key} {v : Value} (e : k.is v = true) : Val φ h k.v v := by
  rcases Key.is_shape e with ⟨x, t, rfl, rfl⟩ | ⟨n, t, rfl, rfl⟩
  · exact .str_ _ _
  · exact .int_ _ _
def keyAt (es : List (Key × V)) (i : Nat) : V := (es.getD i (.i 0, .none)).1.v

/-- the keys of a dict of the call's -/
theorem It_dict {k : Nat} {es : List (Key × V)} {e : Option Nat} {ep : Nat} (hh : A.handled = none) (hσ : σ[k]? = some (.dict es (some ep)))   :
    WIt prog w B A (.ref k) σ σ es.length (keyAt es) (fun σ' => σ'[k]? = some (.dict es (some ep))) := fun φ s v R E G hv kont => by
  obtain ⟨a, rfl, ha⟩ := hv.of_ref
  obtain ⟨a', ha', kvs, ep', hd, hvs, hep⟩ := G.get hσ
  rw [ha] at ha'; cases ha'
  obtain rfl := hep ep rfl
  have hlen := hvs.length
  have hk : ∀ (c : Addr) (o : Obj), s.heap.get? c = some o → (s.heap.push { cls := .type "dict_keyiterator", data := .fields #[.ref a, .int 0 0, .int kvs.length 0, .int ep' 0] }).get? c = some o := fun c o e => Heap.get?_push_of_some _ e
  refine wpAny_pyIter_dict (G.notSys (List.mem_of_getElem? ha)) hd (kont s.heap.objs.size _ (fun i φ h => ∃ a, φ[k]? = some a ∧ a ≠ s.heap.objs.size ∧ h.IsKeyIter s.heap.objs.size a i es.length ep') hk (get?_size _) G.fresh ?_ ⟨a, ha, fun e => ?_, ⟨_, Heap.get?_push_size _ rfl, rfl, by rw [hlen]; rfl⟩⟩ (G.keeps hk))
  · refine ⟨fun i φ h ⟨a, _, _, o, ho, hc, hd⟩ => ⟨o, ho, .fields hd, notStill_type hc (by decide) (by decide)⟩, fun i φ φ' h h' ⟨a, ha, hne, o, ho, r⟩ hp hk _ => ⟨a, idx_mono hp ha, hne, o, hk o ho, r⟩, ?_, ?_, fun i φ s Q E ⟨a, _, _, hs⟩ hq => wpAny_pyIter_keyiter hs hq⟩
    · intro i φ' σ' s' Q E hi G' hC ⟨a, ha, hne, hs⟩ hq
      obtain ⟨a', ha', kvs, ep2, hd2, hvs2, hep2⟩ := G'.get hC
      rw [ha] at ha'; cases ha'
      have hee := hep2 _ rfl
      subst hee
      obtain ⟨v, hv, hvv⟩ := hvs2.get (i := i) (p := es[i]) (List.getElem?_eq_getElem hi)
      refine wpAny_pyNext_dict_item (by rw [hvs2.length]; exact hs) hd2 hv fun key h' hkey hs' hsb => ?_
      rw [hvs2.length] at hs'
      refine hq key h' _ ?_ ⟨a, ha, hne, hs'⟩ fun b o hb e => hsb.extBut b o hb e
      have : keyAt es i = (es[i]).1.v := by unfold keyAt; rw [List.getD_eq_getElem?_getD, List.getElem?_eq_getElem hi]; rfl
      rw [this]; exact Key.val hkey
    · intro φ' σ' s' Q E G' hC ⟨a, ha, hne, hs⟩ hq
      obtain ⟨a', ha', kvs, ep2, hd2, hvs2, hep2⟩ := G'.get hC
      rw [ha] at ha'; cases ha'
      have hee := hep2 _ rfl
      subst hee
      refine wpAny_pyNext_dict_end hh (by rw [hvs2.length]; exact hs) hd2 ?_ fun h' hx => hq h' _ fun b o hb e => hx b o hb e
      rw [List.getElem?_eq_none]; rw [hvs2.length]; exact Nat.le_refl _
  · have := hd.lt_size; rw [e] at this; exact Nat.lt_irrefl _ this
end
end Mine

set_option autoImplicit false
set_option linter.unusedVariables false
namespace Mine
open PySem PySem.W PySem.Calls PyProof.Rows

/-- the names that a comprehension sees of its frame -/
def sub (ρ : List (Str × V)) (fv : List Str) : List (Str × V) := fv.filterMap fun x => (ρ.lookup x).map fun v => (x, v)
theorem sub_lookup {ρ : List (Str × V)} : ∀ {fv : List Str} {x : Str} {v : V}, (sub ρ fv).lookup x = some v → x ∈ fv ∧ ρ.lookup x = some v
  | [], x, v, h => by simp [sub] at h
  | y :: r, x, v, h => by
    unfold sub at h
    rw [List.filterMap_cons] at h
    cases e : ρ.lookup y with
    | none => rw [e] at h; simp only [Option.map_none] at h; obtain ⟨h1, h2⟩ := sub_lookup (fv := r) h; exact ⟨.tail _ h1, h2⟩
    | some u =>
      rw [e] at h
      simp only [Option.map_some, List.lookup_cons] at h
      cases hb : x == y with
      | true => rw [hb] at h; cases h; have := eq_of_beq hb; subst this; exact ⟨.head _, e⟩
      | false => rw [hb] at h; obtain ⟨h1, h2⟩ := sub_lookup (fv := r) h; exact ⟨.tail _ h1, h2⟩

section
variable {prog : Program} {w : World} {B : Shared} {φ φ' : List Addr} {σ σ' : List AObj} {s s' : Shared} {env : Env} {ρ : List (Str × V)} {A : Around} {X : XT} {Q : V → List AObj → Prop}

/-- what a comprehension's names must be -/
structure CompOk (env : Env) (scope : Scope) (cl : List (Str × Addr)) (x : Str) (fv : List Str) : Prop where
  clos : closureFor scope env = pure cl
  cell : ∀ y ∈ scope.names, y.2 ≠ .cell
  kind : scope.kind = .function
  names : ∀ y ∈ scope.names, y.2 = .local → scope.names.lookup y.1 = some .local
  x : scope.names.lookup x = some .local
  mem : ∀ p ∈ cl, p ∈ env.cells
  apart : cl.Pairwise fun x y => x.2 ≠ y.2
  fv : ∀ y ∈ fv, (relabel scope env).names.lookup y = some .cell ∧ env.kindOf y = some .cell ∧ cl.lookup y = env.cells.lookup y

/-- a list through its own changes -/
theorem St.setList {k : Nat} {c : Addr} {ys : List V} {s' : Shared} {items : Array Value} {n : Nat} (G : St prog w B φ σ s) (hc : φ[k]? = some c) (hs : Heap.SameBut c s.heap s'.heap) (ho : s'.heap.get? c = some { cls := .type "list", data := .seq items n })
    (hv : Vals φ s.heap ys items.toList) (hn : ∀ o, s.heap.get? c = some o → ¬ Still o) (hg : s'.gens = s.gens := by rfl) (hos : s'.os = s.os := by rfl) : St prog w B φ (σ.set k (.list ys)) s' :=
  G.update hc hs ⟨items, n, ho, Vals.mono (List.prefix_refl _) (fun a o e hst => hs.extBut a o (fun h => hn o (h ▸ e) hst) e) ys hv⟩ hg hos

theorem list_append {k : Nat} {a : Addr} {ys : List V} {y : V} {v : Value} {R : Value → Shared → Prop} {E : Value → Shared → Prop} (G : St prog w B φ σ s) (hk : φ[k]? = some a) (hσ : σ[k]? = some (.list ys)) (hy : Val φ s.heap y v) (hl : ys.length ≤ sizeLine)
    (h : ∀ h', Heap.SameBut a s.heap h' → St prog w B φ (σ.set k (.list (ys ++ [y]))) { s with heap := h' } → R .none { s with heap := h' }) :
    wpAny (model prog w) A (call (.builtin "list.append") [.ref a, v]) R E s := by
  obtain ⟨a', ha', vs, n, ho, hvs⟩ := G.get hσ
  rw [hk] at ha'; cases ha'
  have hn : ∀ o, s.heap.get? a = some o → ¬ Still o := fun o e => G.notStill (List.mem_of_getElem? hk) e
  refine wpAny_list_append_plain (hsz := by have := hvs.length; simp at this; omega) ⟨n, ho⟩ fun h' ⟨n', ho'⟩ hs => h h' hs (G.setList (s' := { s with heap := h' }) hk hs ho' ?_ hn)
  simpa using hvs.append (Vals.cons hy .nil)

/-- the walk of a comprehension: what it leaves in acc -/
theorem comp_core {elt iter : Expr} {x : Str} {px : Pos} {scope : Scope} {cl : List (Str × Addr)} {pos : Pos} {fv : List Str} {I : Addr} {n : Nat} {el : Nat → V} {C : List AObj → Prop} {Ss : Nat → List Addr → Heap → Prop} {RR : Value → Addr → Result → Shared → Prop} {E : Value → Shared → Prop}
    (K : CompOk env scope cl x fv) (W : Itr prog w B A I n el C Ss) (G : St prog w B φ σ s) (L : Loc A B env ρ φ s.heap) (hIφ : I ∉ φ) (hIB : B.heap.get? I = none) (hIfr : I ∉ fr env) (hS : Ss 0 φ s.heap)
    (Iv : Nat → List AObj → Prop) (hC : C (σ ++ [.list []])) (hI : Iv 0 (σ ++ [.list []]))
    (helt : ∀ D i σ₂, i < n → C σ₂ → Iv i σ₂ → WE prog w B A (compEnvC scope cl D env) elt ((x, el i) :: sub ρ fv) σ₂ (fun y σ₃ => ∃ ys, σ₃[σ.length]? = some (.list ys) ∧ ys.length ≤ sizeLine ∧ C (σ₃.set σ.length (.list (ys ++ [y]))) ∧ Iv (i + 1) (σ₃.set σ.length (.list (ys ++ [y])))) (fun _ _ _ _ => False))
    (hRR : ∀ a D φ' σ' h' tk gs dr os, φ'[σ.length]? = some a → s.heap.get? D = none → D ∉ φ' → B.heap.get? D = none → (∃ m, h'.Ns D m) → (∀ b o, b ≠ I → s.heap.get? b = some o → b ∉ φ → ∃ o', h'.get? b = some o' ∧ Sim o o') → φ <+: φ' → (∀ b ∈ φ', b ∈ φ ∨ s.heap.get? b = none) →
      St prog w B φ' σ' ⟨h', gs, dr, tk, os⟩ → C σ' → Iv n σ' → RR (.ref a) D (.ok .next) ⟨h', gs, dr, tk, os⟩) :
    wpAny (model prog w) A (newList []) (fun acc s₃ => wpAny (model prog w) A (newFunctionEnv scope env.globals cl [] env.qual none .none (some env)) (fun cenv s₄ =>
      codeAny (model prog w) A (.compStart (.ListComp elt [⟨.Name x px, iter, [], 0⟩] scope pos) 0 (.ref I) acc { cenv with scope := relabel scope env }) (RR acc cenv.locals) s₄) E s₃) E s := by
  refine wpAny_newList ?_ (by simp)
  -- the list
  have hk1 : ∀ b o, s.heap.get? b = some o → (s.heap.push { cls := .type "list", data := .seq ([] : List Value).toArray }).get? b = some o := fun b o e => Heap.get?_push_of_some _ e
  have t1 : Step [] φ s.heap (φ ++ [s.heap.objs.size]) (s.heap.push { cls := .type "list", data := .seq ([] : List Value).toArray }) := Step.alloc (s' := { s with heap := s.heap.push { cls := .type "list", data := .seq ([] : List Value).toArray } }) (get?_size _) hk1
  have G1 : St prog w B (φ ++ [s.heap.objs.size]) (σ ++ [.list []]) { s with heap := s.heap.push { cls := .type "list", data := .seq ([] : List Value).toArray } } :=
    G.alloc (ob := .list []) (get?_size _) hk1 ⟨_, 0, Heap.get?_push_size _ rfl, by simpa using Vals.nil⟩ G.fresh G.sizeNe
  -- the frame of the comprehension
  refine wpAny_newFunctionEnv K.cell (by intro y hy; simp at hy) (fun h2 hns2 hsb2 => ?_) K.kind
  dsimp only at hns2 hsb2 ⊢
  generalize hH : s.heap.push { cls := .type "list", dict := none, data := .seq ([] : List Value).toArray } = H at hk1 t1 G1 hns2 hsb2 ⊢
  have hHs : H.objs.size = s.heap.objs.size + 1 := by rw [← hH, Heap.size_push]
  have hD0 : H.get? H.objs.size = none := get?_size _
  have hk2 : ∀ b o, H.get? b = some o → h2.get? b = some o := fun b o e => hsb2.extBut b o (Nat.ne_of_lt (Heap.lt_size e)) (Heap.get?_push_of_some _ e)
  have G2 : St prog w B (φ ++ [s.heap.objs.size]) (σ ++ [.list []]) { s with heap := h2, toks := s.toks + ([] : List (Str × Value)).length } := G1.keeps (s' := { s with heap := h2, toks := s.toks + ([] : List (Str × Value)).length }) hk2
  have hkk : ∀ b o, s.heap.get? b = some o → h2.get? b = some o := fun b o e => hk2 b o (hk1 b o e)
  have hDφ : H.objs.size ∉ φ ++ [s.heap.objs.size] := G1.fresh
  have hDB : B.heap.get? H.objs.size = none := G1.baseSize hD0
  have hDs : s.heap.get? H.objs.size = none := get?_of_ge (by omega)
  have hla : (φ ++ [s.heap.objs.size])[σ.length]? = some s.heap.objs.size := by rw [← G.len]; simp
  have hIs : ∃ o, s.heap.get? I = some o ∧ NoD o ∧ ¬ Still o := W.obj _ _ _ hS
  have hIlt : I < s.heap.objs.size := let ⟨_, e, _⟩ := hIs; Heap.lt_size e
  have hID : I ≠ H.objs.size := Nat.ne_of_lt (by rw [hHs]; exact Nat.lt_succ_of_lt hIlt)
  have hIφ1 : I ∉ φ ++ [s.heap.objs.size] := fun h => (List.mem_append.mp h).elim hIφ fun h => Nat.ne_of_lt hIlt (List.mem_singleton.mp h)
  have hS2 : Ss 0 (φ ++ [s.heap.objs.size]) h2 := W.frame _ _ _ _ _ hS (List.prefix_append _ _) (fun o e => hkk _ _ e) fun a o e _ => hkk _ _ e
  -- the names in it
  have hIfr2 : I ∉ fr (compEnvC scope cl H.objs.size env) := fun h => by
    rcases List.mem_cons.mp h with h | h
    · exact hID h
    · obtain ⟨p, hp, e⟩ := List.mem_map.mp h
      exact hIfr (e ▸ mem_fr_cell (x := p.1) (c := p.2) (K.mem p hp))
  have L2 : Loc A B (compEnvC scope cl H.objs.size env) (sub ρ fv) (φ ++ [s.heap.objs.size]) h2 := by
    have Le := (L.step G t1)
    refine ⟨K.kind, L.glob, L.blt, ⟨_, hns2⟩, fun a ha => ?_, fun y c hm => ?_, K.apart, fun y v hy => ?_, Le.frs.step (.of_keeps hk2), L.top⟩
    · rcases List.mem_cons.mp ha with rfl | ha
      · exact ⟨hDφ, hDB⟩
      · obtain ⟨p, hp, e⟩ := List.mem_map.mp ha
        exact Le.own a (e ▸ mem_fr_cell (x := p.1) (c := p.2) (K.mem p hp))
    · obtain ⟨v, hv⟩ := L.cells y c (K.mem _ hm)
      exact ⟨v, hv.keeps hkk⟩
    · obtain ⟨hyf, hyl⟩ := sub_lookup hy
      obtain ⟨hy1, hy2, hy3⟩ := K.fv y hyf
      obtain ⟨val, hb, hv⟩ := L.val y v hyl
      refine ⟨val, ?_, (hv.step G t1).step G1 (.of_keeps hk2)⟩
      rcases hb with ⟨k, _⟩ | ⟨k, c, e, hc⟩
      · rw [hy2] at k; cases k
      · exact .inr ⟨.inl hy1, c, hy3.trans e, hc.keeps hkk⟩
  -- the loop
  have loop : codeAny (model prog w) A (.compLoop (.ListComp elt [⟨.Name x px, iter, [], 0⟩] scope pos) 0 (.ref I) (.ref s.heap.objs.size) (compEnvC scope cl H.objs.size env)) (RR (.ref s.heap.objs.size) H.objs.size) { s with heap := h2, toks := s.toks + ([] : List (Str × Value)).length } := by
    refine codeAny_compLoop_list (fun k s' => ∃ i φ' σ', k = n - i ∧ i ≤ n ∧ φ ++ [s.heap.objs.size] <+: φ' ∧ (∀ b ∈ φ', b ∈ φ ++ [s.heap.objs.size] ∨ h2.get? b = none) ∧
      (∀ b o, b ≠ I → h2.get? b = some o → b ∉ φ ++ [s.heap.objs.size] → b ≠ H.objs.size → ∃ o', s'.heap.get? b = some o' ∧ Sim o o') ∧
      St prog w B φ' σ' s' ∧ Loc A B (compEnvC scope cl H.objs.size env) (sub ρ fv) φ' s'.heap ∧ I ∉ φ' ∧ Ss i φ' s'.heap ∧ C σ' ∧ Iv i σ') ?_ n
      ⟨0, _, _, rfl, Nat.zero_le _, List.prefix_refl _, fun b h => .inl h, fun b o _ e _ _ => ⟨o, e, .refl o⟩, G2, L2, hIφ1, hS2, hC, hI⟩
    rintro k s' ⟨i, φ', σ', rfl, hin, hp, hfr, hkp, G', L', hIφ', hS', hC', hI'⟩
    obtain ⟨oI, heI, hcI, hnI⟩ := W.obj _ _ _ hS'
    have hnI' : ∀ o, s'.heap.get? I = some o → ¬ Still o := fun o e => by rw [heI] at e; cases e; exact hnI
    by_cases hlt : i < n
    · refine W.item i φ' σ' s' _ _ hlt G' hC' hS' fun v h₃ tk hv hS₃ hk₃ => ?_
      have G₃ : St prog w B φ' σ' { s' with heap := h₃, toks := tk } := G'.but (s' := { s' with heap := h₃, toks := tk }) hk₃ hIφ' hIB hnI'
      have L₃ : Loc A B (compEnvC scope cl H.objs.size env) (sub ρ fv) φ' h₃ := L'.but hk₃ hIfr2 hnI' (L'.frs.at hk₃ (.inr fun o e => by obtain ⟨oI, heI, hcI, _⟩ := W.obj _ _ _ hS'; rw [heI] at e; cases e; exact hcI))
      obtain ⟨oJ, heJ, hcJ, hnJ⟩ := W.obj _ _ _ hS₃
      refine wpAny_assign_Name (store_local (s := { s' with heap := h₃, toks := tk }) (y := el i) G₃ L₃ hv (lookup_relabel_local K.x) fun h₄ tk₄ hs₄ G₄ L₄ => ?_)
      have hD4 : (compEnvC scope cl H.objs.size env).locals = H.objs.size := rfl
      rw [hD4] at hs₄
      refine wpAny_mono (helt H.objs.size i σ' hlt hC' hI' φ' _ G₄ L₄) (fun y s₅ hx => ?_) (fun e s₅ hx => by obtain ⟨_, _, _, _, x⟩ := hx; exact x.elim)
      obtain ⟨φ₅, σ₅, t₅, G₅, yv, hyv, ys, hys, hyl, hC5, hI5⟩ := hx
      have hla' : φ₅[σ.length]? = some s.heap.objs.size := idx_mono t₅.pre (idx_mono hp hla)
      have ham : s.heap.objs.size ∈ φ ++ [s.heap.objs.size] := List.mem_append_right _ (.head _)
      refine list_append G₅ hla' hys hyv hyl fun h₆ hs₆ G₆ => ?_
      have eI4 : h₄.get? I = some oJ := hs₄.extBut I oJ hID heJ
      have hIφ₅ : I ∉ φ₅ := fun hm => by
        rcases t₅.fresh I hm with h | h
        · exact hIφ' h
        · rw [eI4] at h; cases h
      have eI5 : s₅.heap.get? I = some oJ := by
        obtain ⟨o', e', hs'⟩ := t₅.keep I oJ eI4 hIφ' (fun h => nomatch h)
        rw [hs'.same hcJ] at e'; exact e'
      have hIa : I ≠ s.heap.objs.size := Nat.ne_of_lt hIlt
      have eI6 : h₆.get? I = some oJ := hs₆.extBut I oJ hIa eI5
      have hS₄ : Ss (i + 1) φ' h₄ := W.frame _ _ _ _ _ hS₃ (List.prefix_refl _) (fun o e => by rw [heJ] at e; cases e; exact eI4) fun a o e hst => hs₄.extBut a o (fun h => fr_notStill L₃ _ (.head _) o (by rw [h] at e; exact e) hst) e
      have hS₅ : Ss (i + 1) φ₅ s₅.heap := W.frame _ _ _ _ _ hS₄ t₅.pre (fun o e => by rw [eI4] at e; cases e; exact eI5) (t₅.still G₄ fun _ h => nomatch h)
      have ham5 : s.heap.objs.size ∈ φ₅ := List.mem_of_getElem? hla'
      have hS₆ : Ss (i + 1) φ₅ h₆ := W.frame _ _ _ _ _ hS₅ (List.prefix_refl _) (fun o e => by rw [eI5] at e; cases e; exact eI6) fun a o e hst => hs₆.extBut a o (fun h => G₅.notStill (h ▸ ham5) e hst) e
      refine ⟨n - (i + 1), by omega, i + 1, φ₅, _, rfl, hlt, hp.trans t₅.pre, fun b hb => ?_, fun b o hb e h1 h2 => ?_, G₆, ?_, hIφ₅, hS₆, hC5, hI5⟩
      · rcases t₅.fresh b hb with h | h
        · exact hfr b h
        · by_cases hbH : b = H.objs.size
          · subst hbH
            obtain ⟨o, e, _⟩ := L₄.there (.head _)
            rw [hD4, h] at e; cases e
          · by_cases hbI : b = I
            · subst hbI; rw [eI4] at h; cases h
            · cases e : h2.get? b with
              | none => exact .inr rfl
              | some o =>
                by_cases hbφ : b ∈ φ ++ [s.heap.objs.size]
                · exact .inl hbφ
                · obtain ⟨o', e', _⟩ := hkp b o hbI e hbφ hbH
                  have := hs₄.extBut b o' hbH (hk₃ b o' hbI e')
                  rw [h] at this; cases this
      · obtain ⟨o', e', hs'⟩ := hkp b o hb e h1 h2
        have e4 := hs₄.extBut b o' h2 (hk₃ b o' hb e')
        have hbφ' : b ∉ φ' := fun hm => by
          rcases hfr b hm with h | h
          · exact h1 h
          · rw [e] at h; cases h
        obtain ⟨o5, e5, hs5⟩ := t₅.keep b o' e4 hbφ' (fun h => nomatch h)
        exact ⟨o5, hs₆.extBut b o5 (fun h => h1 (h ▸ ham)) e5, hs'.trans hs5⟩
      · have L5 := (L₄.weaken (ρ' := sub ρ fv) fun z v hz => by
          by_cases hzx : z = x
          · subst hzx
            obtain ⟨hzf, _⟩ := sub_lookup hz
            have h1 := (K.fv z hzf).1
            have h2 : (relabel scope env).names.lookup z = some .local := lookup_relabel_local K.x
            rw [h2] at h1; cases h1
          · rw [lookup_cons_ne hzx]; exact hz).step G₄ t₅
        refine L5.but (c := s.heap.objs.size) (fun b o hb e => hs₆.extBut b o hb e) (fun hm => (L5.own _ hm).1 ham5) (fun o e => G₅.notStill ham5 e) (L5.frs.atφ (fun b o hb e => hs₆.extBut b o hb e) ham5)
    · have hin' : i = n := by omega
      subst hin'
      refine W.done φ' σ' s' _ _ G' hC' hS' fun h₃ tk hk₃ => ?_
      have G₃ : St prog w B φ' σ' { s' with heap := h₃, toks := tk } := G'.but (s' := { s' with heap := h₃, toks := tk }) hk₃ hIφ' hIB hnI'
      have L₃ : Loc A B (compEnvC scope cl H.objs.size env) (sub ρ fv) φ' h₃ := L'.but hk₃ hIfr2 hnI' (L'.frs.at hk₃ (.inr fun o e => by obtain ⟨oI, heI, hcI, _⟩ := W.obj _ _ _ hS'; rw [heI] at e; cases e; exact hcI))
      refine hRR s.heap.objs.size H.objs.size φ' σ' h₃ tk _ _ _ (idx_mono hp hla) hDs (L₃.own _ (.head _)).1 hDB L₃.ns (fun b o hb e h1 => ?_) ((List.prefix_append _ _).trans hp) (fun b hb => ?_) G₃ hC' hI'
      · have hbs : b ≠ s.heap.objs.size := fun h => by rw [h, get?_size] at e; cases e
        have hbH : b ≠ H.objs.size := fun h => by rw [h, hDs] at e; cases e
        obtain ⟨o', e', hs'⟩ := hkp b o hb (hkk b o e) (fun h => (List.mem_append.mp h).elim h1 fun h => hbs (List.mem_singleton.mp h)) hbH
        exact ⟨o', hk₃ b o' hb e', hs'⟩
      · rcases hfr b hb with h | h
        · rcases List.mem_append.mp h with h | h
          · exact .inl h
          · obtain rfl := List.mem_singleton.mp h; exact .inr (get?_size _)
        · right
          cases e : s.heap.get? b with
          | none => rfl
          | some o => rw [hkk b o e] at h; cases h
  exact codeAny_compStart_list loop (W.self 0 _ _ _ _ hS2 loop)

/-- a comprehension stored under a name of the frame on the same line -/
theorem X_comp {elt iter : Expr} {x y : Str} {px py : Pos} {scope : Scope} {cl : List (Str × Addr)} {pos spos : Pos} {fv : List Str} {Q : Fl → List (Str × V) → List AObj → Prop} (K : CompOk env scope cl x fv)
    (h : WE prog w B A env iter ρ σ (fun v σ' => ∃ σ₁ n el C, ∃ Iv : Nat → List AObj → Prop, WIt prog w B A v σ' σ₁ n el C ∧ C (σ₁ ++ [.list []]) ∧ Iv 0 (σ₁ ++ [.list []]) ∧
      (∀ D i σ₂, i < n → C σ₂ → Iv i σ₂ → WE prog w B A (compEnvC scope cl D env) elt ((x, el i) :: sub ρ fv) σ₂ (fun y σ₃ => ∃ ys, σ₃[σ₁.length]? = some (.list ys) ∧ ys.length ≤ sizeLine ∧ C (σ₃.set σ₁.length (.list (ys ++ [y]))) ∧ Iv (i + 1) (σ₃.set σ₁.length (.list (ys ++ [y])))) (fun _ _ _ _ => False)) ∧
      (∀ σ₂, C σ₂ → Iv n σ₂ → Q .next ((y, .ref σ₁.length) :: ρ) σ₂)) X)
    (hy : env.kindOf y = some .local)
    (hsw : swapsWith (.ListComp elt [⟨.Name x px, iter, [], 0⟩] scope pos) (some (.Name y py)) spos.line env = pure true := by rfl)
    (hs : ∀ v, foldedSetIterable iter env v = pure v := by intro _; with_unfolding_all rfl) :
    WX1 prog w B A env (.Assign [.Name y py] (.ListComp elt [⟨.Name x px, iter, [], 0⟩] scope pos) spos) ρ σ Q X := fun φ s G L => by
  show wpAny _ _ _ _ _ _
  rw [exec_Assign_Name_used _ _ _ _ hsw]
  refine wpAny_bind (wpAny_standAt (wpAny_bind ?_))
  show wpAny _ A (do let _ ← comprehension (.ListComp elt [⟨.Name x px, iter, [], 0⟩] scope pos) scope env _ (newList []) false (eval iter env) (some (assign (.Name y py) env))) _ _ s
  refine wpAny_bind (wpAny_mono (wpAny_comprehension_free (use := some (assign (.Name y py) env)) (Q := fun _ s' => Post prog w B (fr env) φ s (fQ B A env Q) .next s') rfl hs K.clos K.kind K.names ?_) (fun _ s' hq => wpAny_pure (wpAny_pure hq)) fun _ _ e => e)
  refine h.then G L fun v s₁ φ₁ σ' vx t₁ G₁ L₁ hvx hq => ?_
  obtain ⟨σ₁, n, el, C, Iv, hit, hC, hI, helt, hend⟩ := hq
  refine hit φ₁ s₁ v _ _ G₁ hvx fun I h₁ Ss hk hI0 hIφ W hS G₂ => ?_
  have tk0 : Step [] φ₁ s₁.heap φ₁ h₁ := .of_keeps hk
  have L₂ : Loc A B env ρ φ₁ h₁ := L₁.step G₁ tk0
  have hIfr : I ∉ fr env := fun hm => by obtain ⟨o, e, _⟩ := L₁.there hm; rw [hI0] at e; cases e
  refine comp_core (RR := fun acc D => compPost (model prog w) A (Post prog w B (fr env) φ s X) (some (assign (.Name y py) env)) (fun _ s' => Post prog w B (fr env) φ s (fQ B A env Q) .next s') acc D) (s := { s₁ with heap := h₁ }) K W G₂ L₂ hIφ (G₁.baseSize hI0) hIfr hS Iv hC hI helt ?_
  intro a D φ' σ₂ h' tk gs dr os ha hD hDφ hDB hns hkp hpre hfr G' hC' hI'
  have hnD : ∀ o, h'.get? D = some o → ¬ Still o := fun o e => by
    obtain ⟨m, o', es, ep, e', hd, _⟩ := hns
    rw [e] at e'; cases e'; exact notStill_dict hd
  have t' : Step [] φ₁ s₁.heap φ' h' := by
    refine ⟨hpre, fun b hb => (hfr b hb).imp id fun h => ?_, fun b o e h1 _ => hkp b o (fun h => by rw [h, hI0] at e; cases e) (hk b o e) h1⟩
    cases e : s₁.heap.get? b with
    | none => rfl
    | some o => rw [hk b o e] at h; cases h
  have L' : Loc A B env ρ φ' h' := L₁.step G₁ t'
  have hDfr : D ∉ fr env := fun hm => by obtain ⟨o, e, _⟩ := L₁.there hm; have := hk _ _ e; rw [hD] at this; cases this
  show wpAny _ A (assign (.Name y py) env (.ref a)) _ _ _
  refine wpAny_assign_Name (store_local (s := ⟨h', gs, dr, tk, os⟩) (y := .ref σ₁.length) G' L' (by rw [Val]; exact ⟨a, rfl, ha⟩) hy fun h₅ tk₅ hs₅ G₅ L₅ => ?_)
  obtain ⟨m, hm⟩ := hns
  have hLD : D ≠ env.locals := fun h => hDfr (h ▸ .head _)
  refine ⟨m, hm.sameBut hs₅ hLD, fun h'' hsb => ?_⟩
  have hnD5 : ∀ o, h₅.get? D = some o → ¬ Still o := fun o e => by
    obtain ⟨o', es, ep, e', hd, _⟩ := hm.sameBut hs₅ hLD
    rw [e] at e'; cases e'; exact notStill_dict hd
  have G'' : St prog w B φ' σ₂ ⟨h'', gs, dr, tk₅, os⟩ := G₅.sameBut (s' := ⟨h'', gs, dr, tk₅, os⟩) hsb hDφ hDB hnD5
  have L'' : Loc A B env ((y, .ref σ₁.length) :: ρ) φ' h'' := L₅.but (fun b o hb e => hsb.extBut b o hb e) hDfr hnD5 (by
    obtain ⟨l, hl, hf⟩ := L₅.frs
    obtain ⟨l', hl', hf'⟩ := L₁.frs
    rw [hl] at hl'; cases hl'
    refine ⟨l, hl, fun e he => ?_⟩
    obtain ⟨k, L, o, es, n, a1, a2, a3, a4, a5⟩ := hf e he
    obtain ⟨_, L0, o0, _, _, b1, _, _, b4, _⟩ := hf' e he
    rw [a1] at b1; cases b1
    exact ⟨k, L, o, es, n, a1, a2, a3, hsb.extBut L o (fun h => by rw [h] at b4; have := hk _ _ b4; rw [hD] at this; cases this) a4, a5⟩)
  have t'' : Step (fr env) φ₁ s₁.heap φ' h'' := by
    refine ⟨t'.pre, t'.fresh, fun b o e h1 h2 => ?_⟩
    obtain ⟨o', e', hs'⟩ := t'.keep b o e h1 (fun h => nomatch h)
    exact ⟨o', hsb.extBut b o' (fun h => by rw [h] at e; have := hk _ _ e; rw [hD] at this; cases this) (hs₅.extBut b o' (fun h => h2 (h ▸ .head _)) e'), hs'⟩
  exact ⟨φ', σ₂, Step.transF t₁.nilD t'' L₁, G'', .next, _, rfl, L'', hend σ₂ hC' hI'⟩
end
end Mine

set_option autoImplicit false
set_option linter.unusedVariables false
set_option maxRecDepth 100000
namespace Mine
open PySem PySem.W PySem.Calls PyProof.Rows

section
variable {prog : Program} {w : World} {B : Shared} {φ φ' : List Addr} {σ σ' : List AObj} {s s' : Shared} {env : Env} {ρ : List (Str × V)} {A : Around} {X : XT} {Q : V → List AObj → Prop}

/-- an item of a plain list stored -/
theorem setItem_plain {l : Addr} {items : Array Value} {n : Nat} {k : Int} {t : Tok} {v : Value} {R : Unit → Shared → Prop} {E : Value → Shared → Prop} (ho : s.heap.get? l = some { cls := .type "list", data := .seq items n }) (h0 : 0 ≤ k) (hf : k < 2 ^ 63) (hj : k < items.size)
    (h : ∀ h' n', h'.get? l = some { cls := .type "list", data := .seq (items.setIfInBounds k.toNat v) n' } → Heap.SameBut l s.heap h' → R () { s with heap := h' }) :
    wpAny (model prog w) A (setItem (.ref l) (.int k t) v) R E s := by
  have hT : s.TypeIs (.ref l) "list" := ⟨_, ho, rfl⟩
  unfold setItem
  try with_reducible refine wpAny_holding ?_
  first | refine wpAny_bind (wpAny_pure ?_) | skip
  refine wpAny_bind (wpAny_sequenceKey hT (by decide) ?_)
  refine wpAny_bind (wpAny_callSpecial?_slot (name := Str.ofString "__setitem__") hT slot_list_setitem
    (wpAny_call_entry slot_list_setitem hT entry_list_setitem ?_ (args_list_setitem _ _ _)))
  show wpAny _ _ (Builtin.List.listSubscript? (.int k t) >>= _) _ _ s
  refine wpAny_bind (wpAny_listSubscript_int (fitsIndex_of h0 hf) ?_)
  clear hf
  obtain ⟨j, rfl⟩ := Int.eq_ofNat_of_zero_le h0
  have hj' : j < items.size := by omega
  show wpAny _ _ ((seqItemAt l j >>= fun r => pure (r.map (j, ·))) >>= _) _ _ s
  refine wpAny_bind (wpAny_bind (wpAny_seqItemAt ho rfl (wpAny_pure ?_)))
  rw [Array.getElem?_eq_getElem hj']
  show wpAny _ _ (setSeqItemAt l j v >>= _) _ _ s
  have hfin : (s.heap.update l (Obj.mapSeq (·.setIfInBounds j v))).get? l = some { cls := .type "list", data := .seq (items.setIfInBounds j v) n } := by
    rw [Heap.get?_update_self _ ho rfl]
    simp [Obj.mapSeq]
  refine wpAny_bind (wpAny_setSeqItemAt ho rfl ?_)
  exact wpAny_pure ⟨.none, rfl, wpAny_pure (h _ _ hfin (Heap.SameBut.update ..))⟩

/-! subscripts -/
def WSub (prog : Program) (w : World) (B : Shared) (A : Around) (value slice : Expr) (x y : V) (σ : List AObj) (Q : V → List AObj → Prop) (X : XT) : Prop :=
  ∀ φ s v u, St prog w B φ σ s → Val φ s.heap x v → Val φ s.heap y u → W prog w B A (subscriptTail value slice v u) φ s (vQ Q) X
theorem E_sub {value slice : Expr} {pos : Pos} (h : WE prog w B A env value ρ σ (fun x σ₁ => WE prog w B A env slice ρ σ₁ (fun y σ₂ => WSub prog w B A value slice x y σ₂ Q X) X) X) : WE prog w B A env (.Subscript value slice pos) ρ σ Q X := fun φ s G L =>
  Subscript_ ((h φ s G L).use (.refl ..) fun a s₁ φ₁ σ₁ t₁ _ G₁ ⟨x, hx, h₁⟩ => (h₁ φ₁ s₁ G₁ (L.step G t₁)).use t₁ fun b s₂ φ₂ σ₂ t₂ t G₂ ⟨y, hy, h₂⟩ => (h₂ φ₂ s₂ a b G₂ (hx.step G₁ t₂) hy).last t)

/-- a slice's expression is no Slice -/
def PlainSlice (slice : Expr) : Prop := ∀ o i, subscripted slice false o i = operate [o, i] (getItem o i)

theorem S_list {value slice : Expr} {k : Nat} {xs : List V} {i : Int} (hσ : σ[k]? = some (.list xs)) (h0 : 0 ≤ i) (hi : i < xs.length) (hf : i < 2 ^ 63) (q : Q (xs.getD i.toNat .none) σ)
    (hs : PlainSlice slice := by with_unfolding_all exact fun _ _ => rfl) : WSub prog w B A value slice (.ref k) (.int i) σ Q X := fun φ s v u G hv hu => by
  obtain ⟨a, rfl, ha⟩ := hv.of_ref; obtain ⟨t, rfl⟩ := hu.of_int
  obtain ⟨a', ha', vs, n, ho, hvs⟩ := G.get hσ
  rw [ha] at ha'; cases ha'
  have hi' : i.toNat < xs.length := by omega
  obtain ⟨y, hy, hyv⟩ := hvs.get (i := i.toNat) (x := xs.getD i.toNat .none) (by rw [List.getD_eq_getElem?_getD, List.getElem?_eq_getElem hi']; rfl)
  have hl : s.heap.IsList a vs := ⟨_, ho, rfl, n, rfl⟩
  exact tail_any hl.typeIs slot_list_getitem.lookup (wpAny_getItem_list hl h0 hf (by rw [← Array.getElem?_toList]; exact hy) (Post.here G ⟨_, hyv, q⟩)) (hs _ _)
theorem S_tup {value slice : Expr} {xs : List V} {i : Int} (h0 : 0 ≤ i) (hi : i < xs.length) (hf : i < 2 ^ 63) (q : Q (xs.getD i.toNat .none) σ)
    (hs : PlainSlice slice := by with_unfolding_all exact fun _ _ => rfl) : WSub prog w B A value slice (.tup xs) (.int i) σ Q X := fun φ s v u G hv hu => by
  obtain ⟨a, vs, rfl, ht, hvs⟩ := hv.of_tup; obtain ⟨t, rfl⟩ := hu.of_int
  have hi' : i.toNat < xs.length := by omega
  obtain ⟨y, hy, hyv⟩ := hvs.get (i := i.toNat) (x := xs.getD i.toNat .none) (by rw [List.getD_eq_getElem?_getD, List.getElem?_eq_getElem hi']; rfl)
  have hlen := hvs.length
  have hsz : vs.size = xs.length := by simpa using hlen
  refine tail_any ht.typeIs slot_tuple_getitem.lookup (getItem_tuple ht (by omega) hf (j := i.toNat) ?_ (by rw [← Array.getElem?_toList]; exact hy) (Post.here G ⟨_, hyv, q⟩)) (hs _ _)
  unfold seqIndex?
  rw [hsz]
  simp only [show ¬ (i < 0) by omega, if_false]
  simp; omega
theorem S_t0 {value slice : Expr} {x : V} {xs : List V} (q : Q x σ) (hs : PlainSlice slice := by with_unfolding_all exact fun _ _ => rfl) : WSub prog w B A value slice (.tup (x :: xs)) (.int 0) σ Q X :=
  S_tup (by decide) (by simp only [List.length_cons]; omega) (by decide) q hs
theorem S_t1 {value slice : Expr} {x y : V} {xs : List V} (q : Q y σ) (hs : PlainSlice slice := by with_unfolding_all exact fun _ _ => rfl) : WSub prog w B A value slice (.tup (x :: y :: xs)) (.int 1) σ Q X :=
  S_tup (by decide) (by simp only [List.length_cons]; omega) (by decide) q hs
theorem S_str {value slice : Expr} {x : Str} {i : Int} (h0 : 0 ≤ i) (hi : i < x.cps.size) (hf : i < 2 ^ 63) (q : Q (.str (signAt x i.toNat)) σ)
    (hs : PlainSlice slice := by with_unfolding_all exact fun _ _ => rfl) : WSub prog w B A value slice (.str x) (.int i) σ Q X := fun φ s v u G hv hu => by
  obtain ⟨t, rfl⟩ := hv.of_str; obtain ⟨t', rfl⟩ := hu.of_int
  have hi' : i.toNat < x.cps.size := by omega
  refine tail_any (typeIs_str s x t) F.slot_str_getitem.lookup (P.getItem_str (c := x.cps.getD i.toNat 0) (by simp; omega) ?_ (Post.tok G ⟨_, .str_ _ _, q⟩)) (hs _ _)
  unfold seqIndex?
  have hl : x.length = x.cps.size := rfl
  simp only [show ¬ (i < 0) by omega, if_false, hl]
  simp [Array.getD_eq_getD_getElem?, hi', h0, hi]
theorem S_dict {value slice : Expr} {k : Nat} {es : List (Key × V)} {e : Option Nat} {key : Key} {x : V} (hσ : σ[k]? = some (.dict es e)) (hx : at? es key = some x) (q : Q x σ)
    (hs : PlainSlice slice := by with_unfolding_all exact fun _ _ => rfl) : WSub prog w B A value slice (.ref k) key.v σ Q X := fun φ s v u G hv hu => by
  obtain ⟨a, rfl, ha⟩ := hv.of_ref
  obtain ⟨a', ha', kvs, ep, hd, hvs, _⟩ := G.get hσ
  rw [ha] at ha'; cases ha'
  have hkey : (kk prog w).is key u = true := by
    cases key with
    | s y => obtain ⟨t, rfl⟩ := hu.of_str; simp [kk, Key.is, Value.isStrOf]
    | i n => obtain ⟨t, rfl⟩ := hu.of_int; simp [kk, Key.is, Value.isInt]
  rcases hvs.at? key with ⟨y, z, h1, h2, h3⟩ | ⟨h1, _⟩
  · rw [hx] at h1; cases h1
    have hm := hd.dictOf.mapOf
    exact tail_any hm.typeIs slot_dict_getitem.lookup (wpAny_getItem_of hkey hm h2 (Post.tok G ⟨_, h3, q⟩)) (hs _ _)
  · rw [hx] at h1; cases h1

/-! stores -/
def WSet (prog : Program) (w : World) (B : Shared) (A : Around) (x y z : V) (σ : List AObj) (Q : List AObj → Prop) (X : XT) : Prop :=
  ∀ φ s v u t, St prog w B φ σ s → Val φ s.heap x v → Val φ s.heap y u → Val φ s.heap z t → W prog w B A (setItem v u t) φ s (bQ fun _ σ' => Q σ') X
theorem X_setitem {o i value : Expr} {p pos : Pos} {Q : Fl → List (Str × V) → List AObj → Prop}
    (h : WE prog w B A env value ρ σ (fun z σ₁ => WE prog w B A env o ρ σ₁ (fun x σ₂ => WE prog w B A env i ρ σ₂ (fun y σ₃ => WSet prog w B A x y z σ₃ (fun σ₄ => Q .next ρ σ₄) X) X) X) X)
    (hs : swapsWith value (some (.Subscript o i p)) pos.line env = pure false := by with_unfolding_all rfl) : WX1 prog w B A env (.Assign [.Subscript o i p] value pos) ρ σ Q X := fun φ s G L => by
  refine wpAny_Assign_Subscript ?_ hs
  refine h.then G L fun vz s₁ φ₁ σ₁ z t₁ G₁ L₁ hz h₁ => ?_
  refine wpAny_mono (h₁ φ₁ s₁ G₁ L₁) (fun vx s₂ ⟨φ₂, σ₂, t₂, G₂, x, hx, h₂⟩ => ?_) fun e s' ⟨φ', σ', t', G', x⟩ => ⟨φ', σ', (t₁.trans0 t').nilD, G', x⟩
  refine wpAny_mono (h₂ φ₂ s₂ G₂ (L₁.step G₁ t₂)) (fun vy s₃ ⟨φ₃, σ₃, t₃, G₃, y, hy, h₃⟩ => ?_) fun e s' ⟨φ', σ', t', G', x⟩ => ⟨φ', σ', (t₁.trans0 (t₂.trans0 t')).nilD, G', x⟩
  have L₃ := (L₁.step G₁ t₂).step G₂ t₃
  refine wpAny_mono (h₃ φ₃ s₃ vx vy vz G₃ (hx.step G₂ t₃) hy (hz.step G₁ (t₂.trans0 t₃))) (fun _ s₄ ⟨φ₄, σ₄, t₄, G₄, q⟩ => ?_) fun e s' ⟨φ', σ', t', G', x⟩ => ⟨φ', σ', (t₁.trans0 (t₂.trans0 (t₃.trans0 t'))).nilD, G', x⟩
  exact ⟨φ₄, σ₄, (t₁.trans0 (t₂.trans0 (t₃.trans0 t₄))).nilD, G₄, .next, ρ, rfl, L₃.step G₃ t₄, q⟩
theorem P_list {k : Nat} {xs : List V} {i : Int} {z : V} {Q : List AObj → Prop} (hσ : σ[k]? = some (.list xs)) (h0 : 0 ≤ i) (hi : i < xs.length) (hf : i < 2 ^ 63) (q : Q (σ.set k (.list (xs.set i.toNat z)))) : WSet prog w B A (.ref k) (.int i) z σ Q X := fun φ s v u t G hv hu hz => by
  obtain ⟨a, rfl, ha⟩ := hv.of_ref; obtain ⟨tk, rfl⟩ := hu.of_int
  obtain ⟨a', ha', vs, n, ho, hvs⟩ := G.get hσ
  rw [ha] at ha'; cases ha'
  have hlen : vs.size = xs.length := by simpa using hvs.length
  have hn : ∀ o, s.heap.get? a = some o → ¬ Still o := fun o e => G.notStill (List.mem_of_getElem? ha) e
  refine setItem_plain ho h0 hf (by omega) fun h' n' ho' hsb => ⟨φ, _, Step.update hsb (List.mem_of_getElem? ha), G.setList (s' := { s with heap := h' }) (ys := xs.set i.toNat z) ha hsb ho' ?_ hn, q⟩
  rw [Array.toList_setIfInBounds]
  clear q hσ hlen ho ho'
  generalize vs.toList = l at hvs
  generalize i.toNat = j
  clear h0 hi hf hu
  induction xs generalizing l j with
  | nil => rw [Vals] at hvs; subst hvs; simpa using Vals.nil
  | cons x xs ih =>
    rw [Vals] at hvs
    obtain ⟨v, r, rfl, h1, h2⟩ := hvs
    cases j with
    | zero => simpa using Vals.cons hz h2
    | succ j => simpa using Vals.cons h1 (ih r h2 j)
theorem P_dict {k : Nat} {es : List (Key × V)} {key : Key} {z : V} {Q : List AObj → Prop} (hσ : σ[k]? = some (.dict es none)) (hl : es.length ≤ sizeLine) (q : Q (σ.set k (.dict (put es key z) none))) : WSet prog w B A (.ref k) key.v z σ Q X := fun φ s v u t G hv hu hz => by
  obtain ⟨a, rfl, ha⟩ := hv.of_ref
  obtain ⟨a', ha', kvs, ep, hd, hvs, _⟩ := G.get hσ
  rw [ha] at ha'; cases ha'
  have hkey : (kk prog w).is key u = true := by
    cases key with
    | s y => obtain ⟨t, rfl⟩ := hu.of_str; simp [kk, Key.is, Value.isStrOf]
    | i n => obtain ⟨t, rfl⟩ := hu.of_int; simp [kk, Key.is, Value.isInt]
  have hn : ∀ o, s.heap.get? a = some o → ¬ Still o := fun o e => G.notStill (List.mem_of_getElem? ha) e
  refine wpAny_setItem_pairs hkey hd.dictOf (fun h' hd' hsb => ?_) (by rw [hvs.length]; exact hl)
  obtain ⟨ep', hd''⟩ := hd'.dictAt
  refine ⟨φ, _, Step.update hsb (List.mem_of_getElem? ha), G.update (s' := { s with heap := h', toks := s.toks + 1 }) (ob := .dict (put es key z) none) ha hsb ⟨_, ep', hd'', ?_, fun n e => by cases e⟩, q⟩
  exact (hvs.put key hz).mono (List.prefix_refl _) fun a o e hst => hsb.extBut a o (fun h => hn o (h ▸ e) hst) e

/-! a key in a dict -/
/-! len -/
theorem Vals.one {h : Heap} {x : V} {vs : List Value} (hv : Vals φ h [x] vs) : ∃ v, vs = [v] ∧ Val φ h x v := by
  rw [Vals] at hv; obtain ⟨v, r, rfl, h1, hv⟩ := hv
  rw [Vals] at hv; subst hv
  exact ⟨v, rfl, h1⟩
theorem Vals.two {h : Heap} {x y : V} {vs : List Value} (hv : Vals φ h [x, y] vs) : ∃ v u, vs = [v, u] ∧ Val φ h x v ∧ Val φ h y u := by
  rw [Vals] at hv; obtain ⟨v, r, rfl, h1, hv⟩ := hv
  obtain ⟨u, rfl, h2⟩ := hv.one
  exact ⟨v, u, rfl, h1, h2⟩
theorem Vals.three {h : Heap} {x y z : V} {vs : List Value} (hv : Vals φ h [x, y, z] vs) : ∃ v u t, vs = [v, u, t] ∧ Val φ h x v ∧ Val φ h y u ∧ Val φ h z t := by
  rw [Vals] at hv; obtain ⟨v, r, rfl, h1, hv⟩ := hv
  obtain ⟨u, t, rfl, h2, h3⟩ := hv.two
  exact ⟨v, u, t, rfl, h1, h2, h3⟩
theorem C_len_list {k : Nat} {xs : List V} (hσ : σ[k]? = some (.list xs)) (hf : (xs.length : Int) < 2 ^ 63) (q : Q (.int xs.length) σ) : WC prog w B A (.builtin "len") [.ref k] σ Q X := fun φ s vs G FR hv => by
  obtain ⟨v, rfl, hx⟩ := hv.one
  obtain ⟨a, rfl, ha⟩ := hx.of_ref
  obtain ⟨a', ha', vs, n, ho, hvs⟩ := G.get hσ
  rw [ha] at ha'; cases ha'
  have hlen : vs.size = xs.length := by simpa using hvs.length
  exact call_len_list ⟨_, ho, rfl, n, rfl⟩ (by rw [hlen]; exact hf) (Post.tok G ⟨_, .int_ _ _, by rw [hlen]; exact q⟩)
theorem C_len_dict {k : Nat} {es : List (Key × V)} {e : Option Nat} (hσ : σ[k]? = some (.dict es e)) (hf : (es.length : Int) < 2 ^ 63) (q : Q (.int es.length) σ) : WC prog w B A (.builtin "len") [.ref k] σ Q X := fun φ s vs G FR hv => by
  obtain ⟨v, rfl, hx⟩ := hv.one
  obtain ⟨a, rfl, ha⟩ := hx.of_ref
  obtain ⟨a', ha', kvs, ep, hd, hvs, _⟩ := G.get hσ
  rw [ha] at ha'; cases ha'
  exact call_len_dict (G.notSys (List.mem_of_getElem? ha)) hd.dictOf (by rw [hvs.length]; exact hf) (Post.tok G ⟨_, .int_ _ _, by rw [hvs.length]; exact q⟩)
theorem C_len_str {x : Str} (hf : (x.length : Int) < 2 ^ 63) (q : Q (.int x.length) σ) : WC prog w B A (.builtin "len") [.str x] σ Q X := fun φ s vs G FR hv => by
  obtain ⟨v, rfl, hx⟩ := hv.one
  obtain ⟨t, rfl⟩ := hx.of_str
  exact PyProof.Rows.len_str (by omega) (Post.tok G ⟨_, .int_ _ _, q⟩)
theorem C_len_tup {xs : List V} (hf : (xs.length : Int) < 2 ^ 63) (q : Q (.int xs.length) σ) : WC prog w B A (.builtin "len") [.tup xs] σ Q X := fun φ s vs G FR hv => by
  obtain ⟨v, rfl, hx⟩ := hv.one
  obtain ⟨a, vs, rfl, ht, hvs⟩ := hx.of_tup
  have hlen : vs.size = xs.length := by simpa using hvs.length
  exact len_tuple ht (by rw [hlen]; exact hf) (Post.tok G ⟨_, .int_ _ _, by rw [hlen]; exact q⟩)
end
end Mine

set_option autoImplicit false
set_option linter.unusedVariables false
set_option maxRecDepth 100000
namespace Mine
open PySem PySem.W PySem.Calls PyProof.Rows

structure AOk (n : Nat) (A : Around) : Prop where
  handled : A.handled = none
  depth : A.depth + n ≤ 900
  units : A.units + 10 * n ≤ 9000
theorem AOk.deeper {n : Nat} {A : Around} {env : Env} (h : AOk (n + 1) A) : AOk n (A.deeper env) :=
  ⟨h.handled, by have := h.depth; show A.depth + 1 + n ≤ 900; omega, by have := h.units; show A.units + 3 + 10 * n ≤ 9000; omega⟩
theorem AOk.le {n m : Nat} {A : Around} (h : AOk n A) (hm : m ≤ n) : AOk m A := ⟨h.handled, by have := h.depth; omega, by have := h.units; omega⟩
theorem AOk.room {n : Nat} {A : Around} (h : AOk n A) : A.depth < recursionLimit := by have := h.depth; show A.depth < 1000; omega

/-- the globals and the built-ins -/
structure Gl (B : Shared) (mg mb : Str → Option Value) : Prop where
  g : B.heap.Ns mainGlobals mg
  b : B.heap.Ns builtinsNs mb
  lim : B.heap.NoLimit

section
variable (prog : Program) (w : World) (B : Shared) (mg mb : Str → Option Value)
/-- a contract of a global function -/
def CF (x : Str) (n : Nat) (P : List V → List AObj → (V → List AObj → Prop) → XT → Prop) : Prop :=
  B.heap.Ns mainGlobals mg ∧ ∃ v, mg x = some v ∧ Keep B v ∧ ∀ A xs σ Q X, AOk n A → P xs σ Q X → WC prog w B A v xs σ Q X
/-- a built-in name -/
def Bi (x : Str) (v : Value) : Prop := B.heap.Ns mainGlobals mg ∧ B.heap.Ns builtinsNs mb ∧ mg x = none ∧ mb x = some v
end

section
variable {prog : Program} {w : World} {B : Shared} {mg mb : Str → Option Value} {φ φ' : List Addr} {σ σ' : List AObj} {s s' : Shared} {env : Env} {ρ : List (Str × V)} {A : Around} {X : XT} {Q : V → List AObj → Prop}

theorem E_cf {x : Str} {px pos : Pos} {es : List Expr} {n : Nat} {P : List V → List AObj → (V → List AObj → Prop) → XT → Prop} (C : CF prog w B mg x n P) (hA : AOk n A)
    (h : WEs prog w B A env es ρ σ (fun xs σ₁ => P xs σ₁ Q X) X)
    (hx : env.kindOf x = some .globalImplicit := by kernel_rfl!)
    (hp : ∀ pos, (backTo pos (starEach es env)).any (·.1) = false := by intro _; with_unfolding_all rfl)
    (hd : (x == ("__debug__" : Str)) = false := by decide +kernel) :
    WE prog w B A env (.Call (.Name x px) es [] pos) ρ σ Q X := by
  obtain ⟨hg, v, hv, hk, hP⟩ := C
  refine E_call (f := v) (E_global hg hv (Val.raw_ v) hx ⟨rfl, ?_⟩ hd) hk hp
  exact fun p φ s G L => (h p φ s G L).mono fun a φ' σ' s' ⟨xs, hxs, q⟩ => ⟨xs, hxs, hP A xs σ' Q X hA q⟩
theorem E_bi {x : Str} {px pos : Pos} {es : List Expr} {v : Value} (C : Bi B mg mb x v) (hk : Keep B v)
    (h : WEs prog w B A env es ρ σ (fun xs σ₁ => WC prog w B A v xs σ₁ Q X) X)
    (hx : env.kindOf x = some .globalImplicit := by kernel_rfl!)
    (hp : ∀ pos, (backTo pos (starEach es env)).any (·.1) = false := by intro _; with_unfolding_all rfl)
    (hd : (x == ("__debug__" : Str)) = false := by decide +kernel) :
    WE prog w B A env (.Call (.Name x px) es [] pos) ρ σ Q X :=
  E_call (f := v) (E_builtin C.1 C.2.2.1 C.2.1 C.2.2.2 hx ⟨rfl, h⟩ hd) hk hp
/-! statements in a row -/
theorem X_ret {e : Expr} {pos : Pos} {rest : List Stmt} {Q : Fl → List (Str × V) → List AObj → Prop} (h : WE prog w B A env e ρ σ (fun x σ₁ => Q (.ret x) ρ σ₁) X) : WX prog w B A env (.Return (some e) pos :: rest) ρ σ Q X :=
  X_cons (X_return h)
theorem X_let {x : Str} {e : Expr} {px pos : Pos} {rest : List Stmt} {Q : Fl → List (Str × V) → List AObj → Prop} (h : WE prog w B A env e ρ σ (fun y σ₁ => WX prog w B A env rest ((x, y) :: ρ) σ₁ Q X) X)
    (hx : env.kindOf x = some .local := by kernel_rfl!)
    (hs : swapsWith e (some (.Name x px)) pos.line env = pure false := by with_unfolding_all rfl) : WX prog w B A env (.Assign [.Name x px] e pos :: rest) ρ σ Q X :=
  X_cons (X_assign h (.inl hx) hs)
theorem X_letc {x : Str} {e : Expr} {px pos : Pos} {rest : List Stmt} {Q : Fl → List (Str × V) → List AObj → Prop} (h : WE prog w B A env e ρ σ (fun y σ₁ => WX prog w B A env rest ((x, y) :: ρ) σ₁ Q X) X)
    (hx : env.kindOf x = some .cell := by kernel_rfl!) (hc : (env.cells.lookup x).isSome = true := by kernel_rfl!)
    (hs : swapsWith e (some (.Name x px)) pos.line env = pure false := by with_unfolding_all rfl) : WX prog w B A env (.Assign [.Name x px] e pos :: rest) ρ σ Q X :=
  X_cons (X_assign h (.inr ⟨hx, hc⟩) hs)
theorem X_do {e : Expr} {pos : Pos} {rest : List Stmt} {Q : Fl → List (Str × V) → List AObj → Prop} (h : WE prog w B A env e ρ σ (fun _ σ₁ => WX prog w B A env rest ρ σ₁ Q X) X)
    (hi : interactive env = false := by with_unfolding_all rfl) (hs : swapsWith e none pos.line env = pure false := by with_unfolding_all rfl) : WX prog w B A env (.Expr e pos :: rest) ρ σ Q X := X_cons (X_expr h hi hs)
theorem X_ifs {test : Expr} {body orelse : List Stmt} {pos : Pos} {rest : List Stmt} {Q : Fl → List (Str × V) → List AObj → Prop}
    (h : WT prog w B A env test ρ σ (fun b σ₁ => if b then WX prog w B A env body ρ σ₁ (seqQ prog w B A env rest Q X) X else WX prog w B A env orelse ρ σ₁ (seqQ prog w B A env rest Q X) X) X) : WX prog w B A env (.If test body orelse pos :: rest) ρ σ Q X := X_cons (X_if h)
theorem X_set {o i value : Expr} {p pos : Pos} {rest : List Stmt} {Q : Fl → List (Str × V) → List AObj → Prop}
    (h : WE prog w B A env value ρ σ (fun z σ₁ => WE prog w B A env o ρ σ₁ (fun x σ₂ => WE prog w B A env i ρ σ₂ (fun y σ₃ => WSet prog w B A x y z σ₃ (fun σ₄ => WX prog w B A env rest ρ σ₄ Q X) X) X) X) X)
    (hs : swapsWith value (some (.Subscript o i p)) pos.line env = pure false := by with_unfolding_all rfl) : WX prog w B A env (.Assign [.Subscript o i p] value pos :: rest) ρ σ Q X := X_cons (X_setitem h hs)
theorem X_loop {x : Str} {px pos : Pos} {iter : Expr} {body rest : List Stmt} {Q : Fl → List (Str × V) → List AObj → Prop} 
    (h : WE prog w B A env iter ρ σ (fun v σ' => ∃ σ₁ n el C X', XB A B env X' X ∧ ∃ Iv : Nat → List (Str × V) → List AObj → Prop, WIt prog w B A v σ' σ₁ n el C ∧ C σ₁ ∧ Iv 0 ρ σ₁ ∧
      (∀ i ρ₂ σ₂, i < n → C σ₂ → Iv i ρ₂ σ₂ → WX prog w B A env body ((x, el i) :: ρ₂) σ₂ (turnQ (Iv (i + 1)) C (seqQ prog w B A env rest Q X)) X') ∧
      (∀ ρ₂ σ₂, C σ₂ → Iv n ρ₂ σ₂ → WX prog w B A env rest ρ₂ σ₂ Q X)) X)
    (hx : env.kindOf x = some .local := by kernel_rfl!)
    (hs : ∀ v, foldedSetIterable iter env v = pure v := by intro _; with_unfolding_all rfl) (hl : ∀ it v, letOwnedTupleGo (.Name x px) it v = pure () := by intro _ _; with_unfolding_all rfl) :
    WX prog w B A env (.For (.Name x px) iter body [] pos :: rest) ρ σ Q X := X_cons (X_for h (.inl hx) hs hl)

/-! ends of rows -/
theorem sq_ret {rest : List Stmt} {Q : Fl → List (Str × V) → List AObj → Prop} {x : V} (q : Q (.ret x) ρ σ) : seqQ prog w B A env rest Q X (.ret x) ρ σ := q
theorem sq_next {rest : List Stmt} {Q : Fl → List (Str × V) → List AObj → Prop} (q : WX prog w B A env rest ρ σ Q X) : seqQ prog w B A env rest Q X .next ρ σ := q
/-- the end of a def -/
def retQ (σ : List AObj) (Q : V → List AObj → Prop) : Fl → List (Str × V) → List AObj → Prop := fun fl _ σ' => Clean σ Q (retV fl) σ'
theorem R_all {σ₀ : List AObj} {x : V} (q : Q x σ) : retQ σ₀ Q (.ret x) ρ σ := .all q
theorem R_none {σ₀ junk : List AObj} {x : V} (hx : x.lt σ₀.length) (q : Q x σ₀) : retQ σ₀ Q (.ret x) ρ (σ₀ ++ junk) := .none hx q
theorem R_one {σ₀ j1 j2 : List AObj} {ob : AObj} {k : Nat} (hk : k = σ₀.length + j1.length) (ho : ob.lt σ₀.length) (q : Q (.ref σ₀.length) (σ₀ ++ [ob])) : retQ σ₀ Q (.ret (.ref k)) ρ (σ₀ ++ j1 ++ ob :: j2) := .one hk ho q
theorem O_pow60 (q : Q (.int (10 ^ 60)) σ) : W2 prog w B A (binaryOp .Pow) (.int 10) (.int 60) σ Q X := O_pow q (by decide) (by decide) (by decide)

/-! names -/
theorem look_here {x y : Str} {v : V} {ρ : List (Str × V)} (h : x = y) : ((y, v) :: ρ).lookup x = some v := by subst h; simp
theorem look_there {x y : Str} {u v : V} {ρ : List (Str × V)} (h : (x == y) = false) (hr : ρ.lookup x = some v) : ((y, u) :: ρ).lookup x = some v := by rw [List.lookup_cons, h]; exact hr

def LookQ (ρ : List (Str × V)) (x : Str) (P : V → Prop) (R : Prop) : Prop := (∃ v, ρ.lookup x = some v ∧ P v) ∨ R
theorem LQ_here {x : Str} {v : V} {ρ : List (Str × V)} {P : V → Prop} {R : Prop} (p : P v) : LookQ ((x, v) :: ρ) x P R := .inl ⟨v, look_here rfl, p⟩
theorem LQ_there {x y : Str} {u : V} {ρ : List (Str × V)} {P : V → Prop} {R : Prop} (h : (x == y) = false) (p : LookQ ρ x P R) : LookQ ((y, u) :: ρ) x P R := p.imp (fun ⟨v, h1, h2⟩ => ⟨v, look_there h h1, h2⟩) id
theorem LQ_nil {x : Str} {P : V → Prop} {R : Prop} (r : R) : LookQ [] x P R := .inr r
/-- a global name -/
def NG (prog : Program) (w : World) (B : Shared) (A : Around) (env : Env) (x : Str) (ρ : List (Str × V)) (σ : List AObj) (Q : V → List AObj → Prop) (X : XT) : Prop := ∀ pos, WE prog w B A env (.Name x pos) ρ σ Q X
theorem E_nm {x : Str} {pos : Pos} (h : LookQ ρ x (fun v => Q v σ) (NG prog w B A env x ρ σ Q X)) (hd : (x == ("__debug__" : Str)) = false := by decide +kernel) (hn : (x == ("__classdict__" : Str)) = false := by decide +kernel) :
    WE prog w B A env (.Name x pos) ρ σ Q X := h.elim (fun ⟨v, h1, h2⟩ => E_name h1 h2 hd hn) fun h => h pos
theorem N_bi {x : Str} {v : Value} (C : Bi B mg mb x v) (q : Q (.raw v) σ)
    (hx : env.kindOf x = some .globalImplicit := by kernel_rfl!)
    (hd : (x == ("__debug__" : Str)) = false := by decide +kernel) :
    NG prog w B A env x ρ σ Q X := fun pos => E_builtin C.1 C.2.2.1 C.2.1 C.2.2.2 hx q hd
/-- a global constant -/
def GC (B : Shared) (mg : Str → Option Value) (x : Str) (y : V) : Prop := B.heap.Ns mainGlobals mg ∧ ∃ v, mg x = some v ∧ Val [] B.heap y v
theorem N_gc {x : Str} {y : V} (C : GC B mg x y) (q : Q y σ)
    (hx : env.kindOf x = some .globalImplicit := by kernel_rfl!)
    (hd : (x == ("__debug__" : Str)) = false := by decide +kernel) :
    NG prog w B A env x ρ σ Q X := fun pos => let ⟨h1, _, h2, h3⟩ := C; E_global h1 h2 h3 hx q hd

/-! branches -/
theorem iteD {c : Prop} [Decidable c] {P P' : Prop} (h1 : c → P) (h2 : ¬ c → P') : if (decide c) = true then P else P' := by
  by_cases hc : c
  · rw [if_pos (decide_eq_true hc)]; exact h1 hc
  · rw [if_neg (by simpa using hc)]; exact h2 hc
theorem iteDn {c : Prop} [Decidable c] {P P' : Prop} (h1 : ¬ c → P) (h2 : c → P') : if (!decide c) = true then P else P' := by
  by_cases hc : c
  · rw [if_neg (by simpa using hc)]; exact h2 hc
  · rw [if_pos (by simpa using hc)]; exact h1 hc
theorem iteB {b : Bool} {P P' : Prop} (h1 : b = true → P) (h2 : b = false → P') : if b = true then P else P' := by
  cases b
  · exact h2 rfl
  · exact h1 rfl
theorem iteT {P P' : Prop} (h1 : P) : if true = true then P else P' := h1
theorem iteF {P P' : Prop} (h1 : P') : if false = true then P else P' := h1

/-! isinstance -/
def Isi (Tx T : String) (b : Bool) : Prop := typeOf (.type T) = pure (.type "type") ∧ isSubtype (.type Tx) (.type T) = pure b ∧ (Value.type Tx == Value.type T) = (Tx == T) ∧ (b = false → (Tx == T) = false)
theorem Isi.ne {Tx T : String} (h : Isi Tx T false) : (Value.type Tx == Value.type T) = false := h.2.2.1.trans (h.2.2.2 rfl)

theorem isi_yes {x : V} {Tx T : String} (h : Isi Tx T true) (ht : ∀ φ s v, St prog w B φ σ s → Val φ s.heap x v → s.TypeIs v Tx) (q : Q (.bool true) σ) : WC prog w B A (.builtin "isinstance") [x, .raw (.type T)] σ Q X := fun φ s vs G FR hv => by
  obtain ⟨v, u, rfl, hx, hu⟩ := hv.two
  obtain rfl := hu.of_raw
  exact call_isinstance_yes (ht φ s v G hx) h.1 h.2.1 (Post.here G ⟨_, .bool_ _, q⟩)

theorem isi_int {i : Int} {T : String} {b : Bool} (h : Isi "int" T b) (q : Q (.bool b) σ) : WC prog w B A (.builtin "isinstance") [.int i, .raw (.type T)] σ Q X := by
  cases b
  · intro φ s vs G FR hv
    obtain ⟨v, u, rfl, hx, hu⟩ := hv.two
    obtain rfl := hu.of_raw
    obtain ⟨t, rfl⟩ := hx.of_int
    exact call_isinstance (isinstance_false_int h.ne h.1 h.2.1) (Post.tok G ⟨_, .bool_ _, q⟩)
  · exact isi_yes h (fun φ s v G hx => by obtain ⟨t, rfl⟩ := hx.of_int; exact rfl) q
theorem isi_str {i : Str} {T : String} {b : Bool} (h : Isi "str" T b) (q : Q (.bool b) σ) : WC prog w B A (.builtin "isinstance") [.str i, .raw (.type T)] σ Q X := by
  cases b
  · intro φ s vs G FR hv
    obtain ⟨v, u, rfl, hx, hu⟩ := hv.two
    obtain rfl := hu.of_raw
    obtain ⟨t, rfl⟩ := hx.of_str
    exact call_isinstance (isinstance_false_str h.ne h.1 h.2.1) (Post.tok G ⟨_, .bool_ _, q⟩)
  · exact isi_yes h (fun φ s v G hx => by obtain ⟨t, rfl⟩ := hx.of_str; exact typeIs_str s i t) q
theorem isi_bool {i : Bool} {T : String} {b : Bool} (h : Isi "bool" T b) (q : Q (.bool b) σ) : WC prog w B A (.builtin "isinstance") [.bool i, .raw (.type T)] σ Q X := by
  cases b
  · intro φ s vs G FR hv
    obtain ⟨v, u, rfl, hx, hu⟩ := hv.two
    obtain rfl := hu.of_raw
    obtain rfl := hx.of_bool
    exact call_isinstance (isinstance_false_bool h.ne h.1 h.2.1) (Post.tok G ⟨_, .bool_ _, q⟩)
  · exact isi_yes h (fun φ s v G hx => by obtain rfl := hx.of_bool; exact rfl) q
theorem isi_none {T : String} (h : Isi "NoneType" T false) (q : Q (.bool false) σ) : WC prog w B A (.builtin "isinstance") [.none, .raw (.type T)] σ Q X := fun φ s vs G FR hv => by
    obtain ⟨v, u, rfl, hx, hu⟩ := hv.two
    obtain rfl := hu.of_raw
    obtain rfl := hx.of_none
    exact call_isinstance (isinstance_false_none h.ne h.1 h.2.1) (Post.tok G ⟨_, .bool_ _, q⟩)
theorem isi_tup {xs : List V} {T : String} {b : Bool} (h : Isi "tuple" T b) (q : Q (.bool b) σ) : WC prog w B A (.builtin "isinstance") [.tup xs, .raw (.type T)] σ Q X := by
  cases b
  · intro φ s vs G FR hv
    obtain ⟨v, u, rfl, hx, hu⟩ := hv.two
    obtain rfl := hu.of_raw
    obtain ⟨a, vs, rfl, ⟨o, ho, hc, _⟩, _⟩ := hx.of_tup
    exact call_isinstance (isinstance_false_tuple h.ne h.1 h.2.1) ⟨⟨o, ho, hc⟩, Post.tok G ⟨_, .bool_ _, q⟩⟩
  · exact isi_yes h (fun φ s v G hx => by obtain ⟨a, vs, rfl, ht, _⟩ := hx.of_tup; exact ht.typeIs) q
theorem isi_list {k : Nat} {xs : List V} {T : String} {b : Bool} (hσ : σ[k]? = some (.list xs)) (h : Isi "list" T b) (q : Q (.bool b) σ) : WC prog w B A (.builtin "isinstance") [.ref k, .raw (.type T)] σ Q X := by
  cases b
  · intro φ s vs G FR hv
    obtain ⟨v, u, rfl, hx, hu⟩ := hv.two
    obtain rfl := hu.of_raw
    obtain ⟨a, rfl, ha⟩ := hx.of_ref
    obtain ⟨a', ha', vs, n, ho, hvs⟩ := G.get hσ
    rw [ha] at ha'; cases ha'
    exact call_isinstance (isinstance_false_list h.ne h.1 h.2.1) ⟨⟨_, ho, rfl⟩, Post.tok G ⟨_, .bool_ _, q⟩⟩
  · refine isi_yes h (fun φ s v G hx => ?_) q
    obtain ⟨a, rfl, ha⟩ := hx.of_ref
    obtain ⟨a', ha', vs, n, ho, hvs⟩ := G.get hσ
    rw [ha] at ha'; cases ha'
    exact ⟨_, ho, rfl⟩
theorem isi_dict {k : Nat} {es : List (Key × V)} {e : Option Nat} {T : String} {b : Bool} (hσ : σ[k]? = some (.dict es e)) (h : Isi "dict" T b) (q : Q (.bool b) σ) : WC prog w B A (.builtin "isinstance") [.ref k, .raw (.type T)] σ Q X := by
  cases b
  · intro φ s vs G FR hv
    obtain ⟨v, u, rfl, hx, hu⟩ := hv.two
    obtain rfl := hu.of_raw
    obtain ⟨a, rfl, ha⟩ := hx.of_ref
    obtain ⟨a', ha', kvs, ep, hd, hvs, _⟩ := G.get hσ
    rw [ha] at ha'; cases ha'
    have ⟨o, ho, hc⟩ := hd.dictOf.mapOf.typeIs
    exact call_isinstance (isinstance_false_dict h.ne h.1 h.2.1) ⟨⟨o, ho, hc⟩, Post.tok G ⟨_, .bool_ _, q⟩⟩
  · refine isi_yes h (fun φ s v G hx => ?_) q
    obtain ⟨a, rfl, ha⟩ := hx.of_ref
    obtain ⟨a', ha', kvs, ep, hd, hvs, _⟩ := G.get hσ
    rw [ha] at ha'; cases ha'
    exact hd.dictOf.mapOf.typeIs

end
end Mine

set_option autoImplicit false
set_option linter.unusedVariables false
set_option maxRecDepth 100000
namespace Mine
open PySem PySem.W PySem.Calls PyProof.Rows

theorem sub_of {Tx : String} {mro : List Value} {base : Value} {b : Bool} (h : fastBuiltinMro Tx = some mro) (hc : mro.contains base = b) : isSubtype (.type Tx) base = pure b := by
  rw [isSubtype_type, h]; show pure _ = _; rw [hc]
theorem mro_int : fastBuiltinMro "int" = some [.type "int", .type "object"] := by kernel_rfl
theorem mro_bool : fastBuiltinMro "bool" = some [.type "bool", .type "int", .type "object"] := by kernel_rfl
theorem mro_str : fastBuiltinMro "str" = some [.type "str", .type "object"] := by kernel_rfl
theorem mro_tuple : fastBuiltinMro "tuple" = some [.type "tuple", .type "object"] := by kernel_rfl
theorem mro_dict : fastBuiltinMro "dict" = some [.type "dict", .type "object"] := by kernel_rfl
theorem ty_int : typeOf (.type "int") = pure (.type "type") := by kernel_rfl
theorem ty_bool : typeOf (.type "bool") = pure (.type "type") := by kernel_rfl
theorem ty_str : typeOf (.type "str") = pure (.type "type") := by kernel_rfl
theorem ty_tuple : typeOf (.type "tuple") = pure (.type "type") := by kernel_rfl
theorem ty_dict : typeOf (.type "dict") = pure (.type "type") := by kernel_rfl
theorem isi_int_int : Isi "int" "int" true := ⟨ty_int, sub_of mro_int (by decide +kernel), by decide +kernel, by decide +kernel⟩
theorem isi_int_bool : Isi "int" "bool" false := ⟨ty_bool, sub_of mro_int (by decide +kernel), by decide +kernel, by decide +kernel⟩
theorem isi_int_str : Isi "int" "str" false := ⟨ty_str, sub_of mro_int (by decide +kernel), by decide +kernel, by decide +kernel⟩
theorem isi_bool_int : Isi "bool" "int" true := ⟨ty_int, sub_of mro_bool (by decide +kernel), by decide +kernel, by decide +kernel⟩
theorem isi_bool_bool : Isi "bool" "bool" true := ⟨ty_bool, sub_of mro_bool (by decide +kernel), by decide +kernel, by decide +kernel⟩
theorem isi_str_str : Isi "str" "str" true := ⟨ty_str, sub_of mro_str (by decide +kernel), by decide +kernel, by decide +kernel⟩
theorem isi_tuple_tuple : Isi "tuple" "tuple" true := ⟨ty_tuple, sub_of mro_tuple (by decide +kernel), by decide +kernel, by decide +kernel⟩
theorem isi_dict_dict : Isi "dict" "dict" true := ⟨ty_dict, sub_of mro_dict (by decide +kernel), by decide +kernel, by decide +kernel⟩
/-- the built-in names -/
structure Blt (B : Shared) (mg mb : Str → Option Value) : Prop where
  len_ : Bi B mg mb "len" (.builtin "len")
  isinstance_ : Bi B mg mb "isinstance" (.builtin "isinstance")
  max_ : Bi B mg mb "max" (.builtin "max")
  min_ : Bi B mg mb "min" (.builtin "min")
  sum_ : Bi B mg mb "sum" (.builtin "sum")
  sorted_ : Bi B mg mb "sorted" (.builtin "sorted")
  int_ : Bi B mg mb "int" (.type "int")
  bool_ : Bi B mg mb "bool" (.type "bool")
  str_ : Bi B mg mb "str" (.type "str")
  tuple_ : Bi B mg mb "tuple" (.type "tuple")
  list_ : Bi B mg mb "list" (.type "list")
  dict_ : Bi B mg mb "dict" (.type "dict")
  set_ : Bi B mg mb "set" (.type "set")
  range_ : Bi B mg mb "range" (.type "range")
  enumerate_ : Bi B mg mb "enumerate" (.type "enumerate")

/-- the def at a place of the text -/
def dr (p : Program) (i : Nat) : DefRec := match p.main.body[i]? with
  | some (.FunctionDef name args body _ _ _ scope _ _ pos) => ⟨name, args, body, scope, pos⟩
  | _ => ⟨"", { posonlyargs := [], args := [], vararg := none, kwonlyargs := [], kw_defaults := [], kwarg := none, defaults := [] }, [], { kind := .function, names := [], isGenerator := false, isCoroutine := false, more := [] }, ⟨0, 0, 0, 0⟩⟩
def HasF (B : Shared) (mg : Str → Option Value) (d : DefRec) : Prop :=
  ∃ a o pm code doc, mg d.name = some (.ref a) ∧ B.heap.get? a = some o ∧ o.data = .func (docDef d.name d.params d.body d.scope pm code doc) ∧ B.heap.CodeRec code d.name

theorem len_1 {vals : List Value} (h : vals.length = 1) : ∃ a, vals = [a] := List.length_eq_one_iff.mp h
theorem len_2 {vals : List Value} (h : vals.length = 2) : ∃ a b, vals = [a, b] := by
  cases vals with
  | nil => cases h
  | cons a r => obtain ⟨b, rfl⟩ := len_1 (Nat.succ.inj h); exact ⟨a, b, rfl⟩
structure Good (d : DefRec) (names : List Str) : Prop where
  bind : ∀ (pm code doc : Value) (vals : List Value), vals.length = names.length → bindArgs (docDef d.name d.params d.body d.scope pm code doc) ⟨vals, []⟩ = pure (names.zip vals)
  kinds : ∀ n ∈ names, d.scope.names.lookup n = some .local ∨ d.scope.names.lookup n = some .cell
  nodup : names.Nodup
  cnodup : (d.scope.names.map (·.1)).Nodup
  co : d.scope.isCoroutine = false
  gen : d.scope.isGenerator = false
  kind : d.scope.kind = .function

section
variable {prog : Program} {w : World} {B : Shared} {mg mb : Str → Option Value} {φ φ' : List Addr} {σ σ' : List AObj} {s s' : Shared} {env : Env} {ρ : List (Str × V)} {A : Around} {X : XT} {Q : V → List AObj → Prop}

theorem HasF.fn {d : DefRec} {names : List Str} (H : HasF B mg d) (lim : B.heap.NoLimit) (g : Good d names) : ∃ a pm code doc, mg d.name = some (.ref a) ∧ Fn B a names (docDef d.name d.params d.body d.scope pm code doc) d.body := by
  obtain ⟨a, o, pm, code, doc, h1, h2, h3, h4⟩ := H
  exact ⟨a, pm, code, doc, h1, ⟨o, h2, h3⟩, lim, h4, rfl, rfl, rfl, rfl, g.bind pm code doc, g.kinds, g.nodup, g.cnodup, g.co, g.gen, g.kind⟩

/-- the contract of a def by a walk of its body -/
theorem CF_of {d : DefRec} {names : List Str} {n : Nat} {P : List V → List AObj → (V → List AObj → Prop) → XT → Prop} (gl : Gl B mg mb) (H : HasF B mg d) (g : Good d names)
    (h : ∀ A pm code doc L a xs σ Q X, AOk n A → P xs σ Q X → xs.length = names.length ∧ WX prog w B A (callEnvC (docDef d.name d.params d.body d.scope pm code doc) L a) d.body (names.zip xs) σ (retQ σ Q) (fun _ _ _ _ => False)) :
    CF prog w B mg d.name (n + 1) P := by
  obtain ⟨a, pm, code, doc, h1, F⟩ := H.fn gl.lim g
  refine ⟨gl.g, .ref a, h1, Keep.fn F, fun A xs σ Q X hA hP => WC.clean (C_fn F ?_ hA.room fun L => ?_)⟩
  · exact (h A pm code doc 0 a xs σ Q X (hA.le (Nat.le_succ n)) hP).1
  · exact (h _ pm code doc L a xs σ Q X hA.deeper hP).2

/-! the script -/
structure Scr (B : Shared) (scr : Addr) (nums : List Int) : Prop where
  list : ∃ vs : Array Value, B.heap.IsList scr vs ∧ IntsAre vs.toList nums
  len : nums.length ≤ 63

theorem C_len_scr {scr : Addr} {nums : List Int} (S : Scr B scr nums) (q : Q (.int nums.length) σ) : WC prog w B A (.builtin "len") [.raw (.ref scr)] σ Q X := fun φ s vs G FR hv => by
  obtain ⟨v, rfl, hx⟩ := hv.one
  obtain rfl := hx.of_raw
  obtain ⟨vs, ⟨o, ho, hc, n, hd⟩, hI⟩ := S.list
  have hl : vs.size = nums.length := by simpa using hI.length
  have := S.len
  exact call_len_list ⟨o, G.base _ _ ho, hc, n, hd⟩ (by omega) (Post.tok G ⟨_, .int_ _ _, by rw [hl]; exact q⟩)
theorem S_scr {value slice : Expr} {scr : Addr} {nums : List Int} {i : Int} (S : Scr B scr nums) (h0 : 0 ≤ i) (hi : i < nums.length) (q : Q (.int (nums.getD i.toNat 0)) σ)
    (hs : PlainSlice slice := by with_unfolding_all exact fun _ _ => rfl) : WSub prog w B A value slice (.raw (.ref scr)) (.int i) σ Q X := fun φ s v u G hv hu => by
  obtain rfl := hv.of_raw; obtain ⟨t, rfl⟩ := hu.of_int
  obtain ⟨vs, ⟨o, ho, hc, n, hd⟩, hI⟩ := S.list
  have hl : s.heap.IsList scr vs := ⟨o, G.base _ _ ho, hc, n, hd⟩
  have hi' : i.toNat < nums.length := by omega
  have := S.len
  have hsz : vs.size = nums.length := by simpa using hI.length
  have hv' : vs.toList[i.toNat]? = some (vs.toList[i.toNat]'(by simp; omega)) := List.getElem?_eq_getElem _
  obtain ⟨t', e⟩ := hI.int_at i.toNat _ hv'
  refine tail_any hl.typeIs slot_list_getitem.lookup (wpAny_getItem_list hl h0 (by omega) (by rw [← Array.getElem?_toList]; exact hv') ?_) (hs _ _)
  rw [e]
  exact Post.here G ⟨_, .int_ _ _, q⟩

end
end Mine

set_option autoImplicit false
set_option linter.unusedVariables false
set_option maxRecDepth 100000
namespace Mine
open PySem PySem.W PySem.Calls PyProof.Rows

/-- the names of l stand in ρ -/
def Sub (l ρ : List (Str × V)) : Prop := ∀ x v, l.lookup x = some v → ρ.lookup x = some v
theorem Sub.refl (l : List (Str × V)) : Sub l l := fun _ _ h => h
theorem Sub.nil {ρ : List (Str × V)} : Sub [] ρ := fun _ _ h => by cases h
theorem Sub.cons {l ρ : List (Str × V)} {x : Str} {v : V} (h : LookQ ρ x (fun u => u = v ∧ Sub l ρ) False) : Sub ((x, v) :: l) ρ := by
  rcases h with ⟨u, h1, rfl, h2⟩ | h
  · intro y z hy
    by_cases e : y = x
    · subst e; rw [List.lookup_cons_self] at hy; cases hy; exact h1
    · rw [lookup_cons_ne e] at hy; exact h2 y z hy
  · exact h.elim

section
variable {prog : Program} {w : World} {B : Shared} {mg mb : Str → Option Value} {φ φ' : List Addr} {σ σ' : List AObj} {s s' : Shared} {env : Env} {ρ l : List (Str × V)} {A : Around} {X : XT} {Q : V → List AObj → Prop}

theorem Loc.sub {h : Heap} (L : Loc A B env ρ φ h) (hs : Sub l ρ) : Loc A B env l φ h :=
  ⟨L.kind, L.glob, L.blt, L.ns, L.own, L.cells, L.apart, fun x v hx => L.val x v (hs x v hx), L.frs, L.top⟩
theorem X_weak {ss : List Stmt} {Q : Fl → List (Str × V) → List AObj → Prop} (hs : Sub l ρ) (h : WX prog w B A env ss l σ Q X) : WX prog w B A env ss ρ σ Q X := fun φ s G L => h φ s G (L.sub hs)

/-- what the arms of an «if» leave -/
def joinQ {ι : Type} (C : ι → Prop) (l : ι → List (Str × V)) (f : ι → List AObj) (Q : Fl → List (Str × V) → List AObj → Prop) : Fl → List (Str × V) → List AObj → Prop
  | .next, ρ', σ' => ∃ i, C i ∧ σ' = f i ∧ Sub (l i) ρ'
  | fl, ρ', σ' => Q fl ρ' σ'
theorem J_next {ι : Type} {C : ι → Prop} {l : ι → List (Str × V)} {f : ι → List AObj} {Q : Fl → List (Str × V) → List AObj → Prop} (i : ι) (hC : C i) (hσ : σ = f i) (hs : Sub (l i) ρ) : joinQ C l f Q .next ρ σ := ⟨i, hC, hσ, hs⟩
theorem X_ifj {ι : Type} (C : ι → Prop) (l : ι → List (Str × V)) (f : ι → List AObj) {test : Expr} {body orelse : List Stmt} {pos : Pos} {rest : List Stmt} {Q : Fl → List (Str × V) → List AObj → Prop}
    (h : WT prog w B A env test ρ σ (fun b σ₁ => if b then WX prog w B A env body ρ σ₁ (joinQ C l f Q) X else WX prog w B A env orelse ρ σ₁ (joinQ C l f Q) X) X)
    (k : ∀ i, C i → WX prog w B A env rest (l i) (f i) Q X) : WX prog w B A env (.If test body orelse pos :: rest) ρ σ Q X := by
  have mono : ∀ (ss : List Stmt) (σ₁ : List AObj), WX prog w B A env ss ρ σ₁ (joinQ C l f Q) X → WX prog w B A env ss ρ σ₁ (seqQ prog w B A env rest Q X) X := fun ss σ₁ hw φ s G L =>
    wpAny_mono (hw φ s G L) (fun v s₁ ⟨φ₁, σ₂, t₁, G₁, fl, ρ', hf, L₁, q⟩ => by
      refine ⟨φ₁, σ₂, t₁, G₁, fl, ρ', hf, L₁, ?_⟩
      cases fl with
      | next => obtain ⟨i, hC, rfl, hs⟩ := q; exact X_weak hs (k i hC)
      | brk => exact q
      | cont => exact q
      | ret x => exact q) fun _ _ x => x
  refine X_cons (X_if fun φ s G L => (h φ s G L).mono fun b φ' σ' s' hb => ?_)
  cases b
  · exact mono _ _ hb
  · exact mono _ _ hb

/-- an expression that leaves the heap and gives a known value -/
theorem E_as {e : Expr} (x : V) (h : WE prog w B A env e ρ σ (fun y σ' => y = x ∧ σ' = σ) X) (q : Q x σ) : WE prog w B A env e ρ σ Q X := h.mono fun y σ' ⟨h1, h2⟩ => by subst h1 h2; exact q
theorem T_as {e : Expr} {Q : Bool → List AObj → Prop} (b : Bool) (h : WT prog w B A env e ρ σ (fun y σ' => y = b ∧ σ' = σ) X) (q : Q b σ) : WT prog w B A env e ρ σ Q X := fun φ s G L => (h φ s G L).mono fun y φ' σ' s' ⟨h1, h2⟩ => by subst h1 h2; exact q

theorem C_len_t1 {x : V} (q : Q (.int 1) σ) : WC prog w B A (.builtin "len") [.tup [x]] σ Q X := C_len_tup (by simp only [List.length_cons, List.length_nil]; decide) q
theorem C_len_t2 {x y : V} (q : Q (.int 2) σ) : WC prog w B A (.builtin "len") [.tup [x, y]] σ Q X := C_len_tup (by simp only [List.length_cons, List.length_nil]; decide) q
theorem C_len_t3 {x y z : V} (q : Q (.int 3) σ) : WC prog w B A (.builtin "len") [.tup [x, y, z]] σ Q X := C_len_tup (by simp only [List.length_cons, List.length_nil]; decide) q
theorem iteYes {b : Bool} {P P' : Prop} (h : b = true) (p : P) : if b = true then P else P' := by rw [if_pos h]; exact p
theorem iteNo {b : Bool} {P P' : Prop} (h : b = false) (p : P') : if b = true then P else P' := by rw [if_neg (by simp [h])]; exact p
end
end Mine

set_option autoImplicit false
set_option linter.unusedVariables false
set_option maxRecDepth 100000
namespace Mine
open PySem PySem.W PySem.Calls PyProof.Rows

section
variable {prog : Program} {w : World} {B : Shared} {mg mb : Str → Option Value} {φ φ' : List Addr} {σ σ' : List AObj} {s s' : Shared} {env : Env} {ρ l : List (Str × V)} {A : Around} {X : XT} {Q : V → List AObj → Prop}

/-! calls of methods -/
def GM (prog : Program) (w : World) (B : Shared) (A : Around) (x : V) (name : Str) (σ : List AObj) (id : String) : Prop :=
  ∀ φ s v (pl : Sem Bool) (R : Value × List Value → Shared → Prop) (E : Value → Shared → Prop), St prog w B φ σ s → Val φ s.heap x v → R (.builtin id, [v]) s → wpAny (model prog w) A (getMethod v name pl) R E s
theorem GM_str {x : Str} {name : Str} {id : String} (slot : Slot "str" name id) (hty : typeOf (.builtin id) = pure (.type "method_descriptor")) : GM prog w B A (.str x) name σ id := fun φ s v pl R E G hv h => by
  obtain ⟨t, rfl⟩ := hv.of_str
  exact getMethod_builtin (typeIs_str _ _ _) F.plainAttrs_str slot hty (fun a e => nomatch e) h
theorem GM_list {k : Nat} {xs : List V} {name : Str} {id : String} (hσ : σ[k]? = some (.list xs)) (slot : Slot "list" name id) (hty : typeOf (.builtin id) = pure (.type "method_descriptor")) : GM prog w B A (.ref k) name σ id := fun φ s v pl R E G hv h => by
  obtain ⟨a, rfl, ha⟩ := hv.of_ref
  obtain ⟨a', ha', vs, n, ho, hvs⟩ := G.get hσ
  rw [ha] at ha'; cases ha'
  exact getMethod_builtin ⟨_, ho, rfl⟩ F.plainAttrs_list slot hty (fun a e => by cases e; exact ⟨_, ho, rfl⟩) h
theorem E_mcall {o : Expr} {name : Str} {id : String} {apos pos : Pos} {es : List Expr} {pl : Sem Bool}
    (h : WE prog w B A env o ρ σ (fun x σ₁ => GM prog w B A x name σ₁ id ∧ WEs prog w B A env es ρ σ₁ (fun xs σ₂ => WC prog w B A (.builtin id) (x :: xs) σ₂ Q X) X) X)
    (he : eval (.Call (.Attribute o name apos) es [] pos) env = (do
      let ov ← eval o env
      standAt apos.atName
      let (f, first) ← holding [ov] (getMethod ov name pl)
      callWith pos f first (backTo pos (starEach es env)) []) := by with_unfolding_all rfl)
    (hp : ∀ pos, (backTo pos (starEach es env)).any (·.1) = false := by intro _; with_unfolding_all rfl) :
    WE prog w B A env (.Call (.Attribute o name apos) es [] pos) ρ σ Q X := fun φ s G L => by
  refine MethodCall_ ((h φ s G L).use (.refl ..) fun v s₁ φ₁ σ₁ t₁ _ G₁ ⟨x, hx, gm, h₁⟩ => ?_) he
  refine gm φ₁ s₁ v pl _ _ G₁ hx ?_
  refine callWith_builtin (by rw [hp pos]) ?_
  have main := (h₁ pos φ₁ s₁ G₁ (L.step G t₁)).use t₁ (R := fun vs s₂ => wpAny (model prog w) A (call (.builtin id) ([v] ++ vs)) (Post prog w B [] φ s (vQ Q)) (Post prog w B [] φ s X) s₂) fun vs s₂ φ₂ σ₂ t₂ t G₂ ⟨xs, hxs, h₂⟩ => (h₂ φ₂ s₂ (v :: vs) G₂ (L.frs.step t) (.cons (hx.step G₁ t₂) hxs)).last t
  exact evalArgs_any (hp pos) main

/-! str.join -/
theorem vals_strs : ∀ {texts : List Str} {vs : List Value} {h : Heap}, Vals φ h (texts.map V.str) vs → ∃ l : List (Str × Tok), vs = strValues l ∧ l.map (·.1) = texts
  | [], vs, h, e => by rw [List.map_nil, Vals] at e; subst e; exact ⟨[], rfl, rfl⟩
  | x :: r, vs, h, e => by
    rw [List.map_cons, Vals] at e
    obtain ⟨v, r', rfl, h1, h2⟩ := e
    obtain ⟨t, rfl⟩ := h1.of_str
    obtain ⟨l, rfl, rfl⟩ := vals_strs h2
    exact ⟨(x, t) :: l, rfl, rfl⟩
theorem C_join {sep : Str} {k : Nat} {texts : List Str} (hσ : σ[k]? = some (.list (texts.map V.str))) (hok : JoinOk sep texts = true) (q : Q (.str (Txt.join sep texts)) σ) : WC prog w B A (.builtin "str.join") [.str sep, .ref k] σ Q X := fun φ s vs G FR hv => by
  obtain ⟨v, u, rfl, h1, h2⟩ := hv.two
  obtain ⟨t, rfl⟩ := h1.of_str
  obtain ⟨a, rfl, ha⟩ := h2.of_ref
  obtain ⟨a', ha', vs, n, ho, hvs⟩ := G.get hσ
  rw [ha] at ha'; cases ha'
  obtain ⟨l, hl, ht⟩ := vals_strs hvs
  refine SC.join (D := a) (l := l) ⟨_, ho, rfl, n, ?_⟩ ht hok fun t' k => Post.tok G ⟨_, .str_ _ _, q⟩
  rw [← hl]
theorem join_fold : ∀ (l : List Nat) (acc : Array Nat), (l.map fun c => (⟨#[c]⟩ : Str)).foldl (fun acc p => acc ++ (#[] : Array Nat) ++ p.cps) acc = acc ++ l.toArray
  | [], acc => by simp
  | c :: r, acc => by
    rw [List.map_cons, List.foldl_cons, join_fold r]
    simp
theorem join_empty (l : List Nat) : Txt.join ⟨#[]⟩ (l.map fun c => ⟨#[c]⟩) = ⟨l.toArray⟩ := by
  unfold Txt.join Builtin.Str.glued
  cases l with
  | nil => rfl
  | cons c r =>
    have := join_fold r #[c]
    simp only [List.map_cons, List.drop_succ_cons, List.drop_zero, List.headD_cons]
    rw [this]
    simp
theorem joinOk_small {sep : Str} {texts : List Str} (h : ∀ y ∈ texts, y.length ≤ 1000) (hn : texts.length ≤ 1000) (hs : sep.length ≤ 1000) : JoinOk sep texts = true := by
  unfold JoinOk
  rw [StrLaws.joinFits h (by have : texts.length * sep.length ≤ 1000 * 1000 := Nat.mul_le_mul hn hs; omega)]
  rfl

/-! list.append, dict.get -/
theorem C_append {k : Nat} {xs : List V} {x : V} (hσ : σ[k]? = some (.list xs)) (hl : xs.length ≤ sizeLine) (q : Q .none (σ.set k (.list (xs ++ [x])))) : WC prog w B A (.builtin "list.append") [.ref k, x] σ Q X := fun φ s vs G FR hv => by
  obtain ⟨v, u, rfl, h1, h2⟩ := hv.two
  obtain ⟨a, rfl, ha⟩ := h1.of_ref
  exact list_append G ha hσ h2 hl fun h' hs G' => ⟨φ, _, Step.update hs (List.mem_of_getElem? ha), G', .none, .none_, q⟩
/-! range -/
theorem C_range1 {n : Int} (q : Q (.rng 0 n 1) σ) : WC prog w B A (.type "range") [.int n] σ Q X := fun φ s vs G FR hv => by
  obtain ⟨v, rfl, h1⟩ := hv.one
  obtain ⟨t, rfl⟩ := h1.of_int
  have hk : ∀ (ob : Obj) (b : Addr) (o : Obj), s.heap.get? b = some o → (s.heap.push ob).get? b = some o := fun ob b o e => Heap.get?_push_of_some _ e
  exact call_range_1 ⟨φ, σ, .of_keeps (hk _), (G.keeps (s' := { s with heap := _, toks := _ }) (hk _)), .rng 0 n 1, by rw [Val]; exact ⟨_, _, _, _, rfl, Heap.get?_push_size _ rfl⟩, q⟩
/-! new dicts -/
theorem St.newDict {h' : Heap} {tk : Nat} {kvs : List (Key × Value)} {es : List (Key × V)} (G : St prog w B φ σ s) (hk : ∀ b o, s.heap.get? b = some o → h'.get? b = some o) (hd : h'.DictOf (kk prog w) s.heap.objs.size kvs) (he : Ents φ s.heap es kvs) :
    Step [] φ s.heap (φ ++ [s.heap.objs.size]) h' ∧ St prog w B (φ ++ [s.heap.objs.size]) (σ ++ [.dict es none]) { s with heap := h', toks := tk } ∧ Val (φ ++ [s.heap.objs.size]) h' (.ref σ.length) (.ref s.heap.objs.size) := by
  obtain ⟨ep, hd'⟩ := hd.dictAt
  refine ⟨Step.alloc (s' := { s with heap := h' }) (get?_size _) hk, G.alloc (s' := { s with heap := h', toks := tk }) (ob := .dict es none) (get?_size _) hk ⟨kvs, ep, hd', he.mono (List.prefix_append _ _) (fun a o e _ => hk a o e), fun n e => by cases e⟩ G.fresh G.sizeNe, ?_⟩
  rw [Val, ← G.len]
  exact ⟨_, rfl, by simp⟩
theorem E_dict0 {pos : Pos} (q : Q (.ref σ.length) (σ ++ [.dict [] none])) : WE prog w B A env (.Dict [] [] pos) ρ σ Q X := fun φ s G L => by
  refine wpAny_Dict_empty ?_
  have hk : ∀ (b : Addr) (o : Obj), s.heap.get? b = some o → (s.heap.push { cls := .type "dict", data := .dict #[] }).get? b = some o := fun b o e => Heap.get?_push_of_some _ e
  obtain ⟨t, G', hv⟩ := G.newDict (tk := s.toks) (kvs := []) hk (Heap.DictOf.new ..) .nil
  exact ⟨_, _, t, G', _, hv, q⟩

theorem inS_one (x : Str) (c : Nat) : inS x ⟨#[c]⟩ = decide (c ∈ x.cps.toList) := StrLaws.found_one x c

theorem Sub.both {l ρ : List (Str × V)} {x : Str} {v : V} (h : Sub l ρ) : Sub ((x, v) :: l) ((x, v) :: ρ) := fun y z hy => by
  by_cases e : y = x
  · subst e; rw [List.lookup_cons_self] at hy ⊢; exact hy
  · rw [lookup_cons_ne e] at hy ⊢; exact h y z hy
/-- what a turn leaves -/
def turnJ {ι : Type} (D : ι → Prop) (l : ι → List (Str × V)) (f : ι → List AObj) (C : List AObj → Prop) (Q : Fl → List (Str × V) → List AObj → Prop) : Fl → List (Str × V) → List AObj → Prop
  | .next, ρ', σ' => ∃ g, D g ∧ σ' = f g ∧ C σ' ∧ Sub (l g) ρ'
  | .cont, ρ', σ' => ∃ g, D g ∧ σ' = f g ∧ C σ' ∧ Sub (l g) ρ'
  | .brk, ρ', σ' => Q .next ρ' σ'
  | .ret x, ρ', σ' => Q (.ret x) ρ' σ'
theorem TJ_next {ι : Type} {D : ι → Prop} {l : ι → List (Str × V)} {f : ι → List AObj} {C : List AObj → Prop} {Q : Fl → List (Str × V) → List AObj → Prop} (g : ι) (hD : D g) (hσ : σ = f g) (hC : C σ) (hs : Sub (l g) ρ) : turnJ D l f C Q .next ρ σ := ⟨g, hD, hσ, hC, hs⟩
theorem TJ_ret {ι : Type} {D : ι → Prop} {l : ι → List (Str × V)} {f : ι → List AObj} {C : List AObj → Prop} {Q : Fl → List (Str × V) → List AObj → Prop} {x : V} (q : Q (.ret x) ρ σ) : turnJ D l f C Q (.ret x) ρ σ := q
/-- a loop by an invariant with a ghost -/
def ForG (prog : Program) (w : World) (B : Shared) (A : Around) (env : Env) (x : Str) (body rest : List Stmt) (ρ : List (Str × V)) (Q : Fl → List (Str × V) → List AObj → Prop) (X : XT) (v : V) (σ' : List AObj) : Prop :=
  ∃ (ι : Type) (D : Nat → ι → Prop) (l : Nat → ι → List (Str × V)) (f : Nat → ι → List AObj) (σ₁ : List AObj) (n : Nat) (el : Nat → V) (C : List AObj → Prop) (X' : XT), XB A B env X' X ∧ WIt prog w B A v σ' σ₁ n el C ∧ (∃ g, D 0 g ∧ σ₁ = f 0 g ∧ C σ₁ ∧ Sub (l 0 g) ρ) ∧
    (∀ i g, i < n → D i g → C (f i g) → WX prog w B A env body ((x, el i) :: l i g) (f i g) (turnJ (D (i + 1)) (l (i + 1)) (f (i + 1)) C (seqQ prog w B A env rest Q X)) X') ∧
    (∀ g, D n g → C (f n g) → WX prog w B A env rest (l n g) (f n g) Q X)
theorem ForG.mk {x : Str} {body rest : List Stmt} {Q : Fl → List (Str × V) → List AObj → Prop} {v : V} {ι : Type} (D : Nat → ι → Prop) (l : Nat → ι → List (Str × V)) (f : Nat → ι → List AObj) {σ₁ : List AObj} {n : Nat} {el : Nat → V} {C : List AObj → Prop}
    (hit : WIt prog w B A v σ' σ₁ n el C) (g : ι) (h1 : D 0 g) (h2 : σ₁ = f 0 g) (h3 : C σ₁) (h4 : Sub (l 0 g) ρ)
    (hb : ∀ i g, i < n → D i g → C (f i g) → WX prog w B A env body ((x, el i) :: l i g) (f i g) (turnJ (D (i + 1)) (l (i + 1)) (f (i + 1)) C (seqQ prog w B A env rest Q X)) (fun _ _ _ _ => False))
    (he : ∀ g, D n g → C (f n g) → WX prog w B A env rest (l n g) (f n g) Q X) : ForG prog w B A env x body rest ρ Q X v σ' := ⟨ι, D, l, f, σ₁, n, el, C, _, .no, hit, ⟨g, h1, h2, h3, h4⟩, hb, he⟩
theorem ForG.mkx {x : Str} {body rest : List Stmt} {Q : Fl → List (Str × V) → List AObj → Prop} {v : V} {ι : Type} {l' : List (Str × V)} {R : Addr → List AObj → Prop} (D : Nat → ι → Prop) (l : Nat → ι → List (Str × V)) (f : Nat → ι → List AObj) {σ₁ : List AObj} {n : Nat} {el : Nat → V} {C : List AObj → Prop}
    (hit : WIt prog w B A v σ' σ₁ n el C) (g : ι) (h1 : D 0 g) (h2 : σ₁ = f 0 g) (h3 : C σ₁) (h4 : Sub (l 0 g) ρ)
    (hb : ∀ i g, i < n → D i g → C (f i g) → WX prog w B A env body ((x, el i) :: l i g) (f i g) (turnJ (D (i + 1)) (l (i + 1)) (f (i + 1)) C (seqQ prog w B A env rest Q (xL A B env l' (xQ R)))) (xL A B env l' (xQ R)))
    (he : ∀ g, D n g → C (f n g) → WX prog w B A env rest (l n g) (f n g) Q (xL A B env l' (xQ R))) : ForG prog w B A env x body rest ρ Q (xL A B env l' (xQ R)) v σ' := ⟨ι, D, l, f, σ₁, n, el, C, _, .exc, hit, ⟨g, h1, h2, h3, h4⟩, hb, he⟩
theorem X_fors {x : Str} {px pos : Pos} {iter : Expr} {body rest : List Stmt} {Q : Fl → List (Str × V) → List AObj → Prop} (h : WE prog w B A env iter ρ σ (fun v σ' => ForG prog w B A env x body rest ρ Q X v σ') X)
    (hx : env.kindOf x = some .local := by kernel_rfl!)
    (hs : ∀ v, foldedSetIterable iter env v = pure v := by intro _; with_unfolding_all rfl) (hl : ∀ it v, letOwnedTupleGo (.Name x px) it v = pure () := by intro _ _; with_unfolding_all rfl) :
    WX prog w B A env (.For (.Name x px) iter body [] pos :: rest) ρ σ Q X := by
  refine X_loop (h.mono fun v σ' hy => ?_) hx hs hl
  obtain ⟨ι, D, l, f, σ₁, n, el, C, X', hX, hit, ⟨g, h1, h2, h3, h4⟩, hb, he⟩ := hy
  refine ⟨σ₁, n, el, C, X', hX, fun i ρ' σ' => ∃ g, D i g ∧ σ' = f i g ∧ Sub (l i g) ρ', hit, h3, ⟨g, h1, h2, h4⟩, ?_, ?_⟩
  · rintro i ρ₂ σ₂ hi hC ⟨g, hD, rfl, hs⟩
    refine X_weak hs.both fun φ s G L => wpAny_mono (hb i g hi hD hC φ s G L) (fun v s₁ hx => ?_) fun _ _ x => x
    obtain ⟨φ₁, σ₃, t₁, G₁, fl, ρ', hf, L₁, q⟩ := hx
    refine ⟨φ₁, σ₃, t₁, G₁, fl, ρ', hf, L₁, ?_⟩
    cases fl with
    | next => obtain ⟨g, q1, q2, q3, q4⟩ := q; exact ⟨q3, g, q1, q2, q4⟩
    | cont => obtain ⟨g, q1, q2, q3, q4⟩ := q; exact ⟨q3, g, q1, q2, q4⟩
    | brk => exact q
    | ret y => exact q
  · rintro ρ₂ σ₂ hC ⟨g, hD, rfl, hs⟩
    exact X_weak hs (he g hD hC)

/-! kinds of values -/
inductive TyV (σ : List AObj) : V → String → Prop
  | int (i : Int) : TyV σ (.int i) "int"
  | bool (b : Bool) : TyV σ (.bool b) "bool"
  | str (x : Str) : TyV σ (.str x) "str"
  | none : TyV σ .none "NoneType"
  | tup (xs : List V) : TyV σ (.tup xs) "tuple"
  | list {k : Nat} {xs : List V} : σ[k]? = some (.list xs) → TyV σ (.ref k) "list"
  | dict {k : Nat} {es : List (Key × V)} {e : Option Nat} : σ[k]? = some (.dict es e) → TyV σ (.ref k) "dict"
theorem isi_any {x : V} {Tx T : String} {b : Bool} (h : TyV σ x Tx) (hi : Isi Tx T b) (q : Q (.bool b) σ) (hn : (Tx == "NoneType") = true → b = false) : WC prog w B A (.builtin "isinstance") [x, .raw (.type T)] σ Q X := by
  cases h with
  | int => exact isi_int hi q
  | bool => exact isi_bool hi q
  | str => exact isi_str hi q
  | none => obtain rfl := hn (by decide); exact isi_none hi q
  | tup => exact isi_tup hi q
  | list h => exact isi_list h hi q
  | dict h => exact isi_dict h hi q
/-- no text | no whole number -/
def NonStr (σ : List AObj) (x : V) : Prop := ∃ Tx, TyV σ x Tx ∧ Isi Tx "str" false
def NonInt (σ : List AObj) (x : V) : Prop := (∃ b, x = .bool b) ∨ ∃ Tx, TyV σ x Tx ∧ Isi Tx "int" false
def NonDict (σ : List AObj) (x : V) : Prop := ∃ Tx, TyV σ x Tx ∧ Isi Tx "dict" false
def NonTup (σ : List AObj) (x : V) : Prop := ∃ Tx, TyV σ x Tx ∧ Isi Tx "tuple" false
theorem isi_non {x : V} {T : String} (h : ∃ Tx, TyV σ x Tx ∧ Isi Tx T false) (q : Q (.bool false) σ) : WC prog w B A (.builtin "isinstance") [x, .raw (.type T)] σ Q X := let ⟨_, h1, h2⟩ := h; isi_any h1 h2 q fun _ => rfl
end
end Mine

set_option autoImplicit false
set_option linter.unusedVariables false
set_option maxRecDepth 100000
namespace Mine
open PySem PySem.W PySem.Calls PyProof.Rows

def clOf (scope : Scope) (env : Env) : List (Str × Addr) := (scope.names.filter fun p => p.2 == .free).reverse.map fun p => (p.1, (env.cells.lookup p.1).getD 0)

section
variable {prog : Program} {w : World} {B : Shared} {mg mb : Str → Option Value} {φ φ' : List Addr} {σ σ' : List AObj} {s s' : Shared} {env : Env} {ρ l : List (Str × V)} {A : Around} {X : XT} {Q : V → List AObj → Prop}

theorem cellOf_of {x : Str} (h : (env.cells.lookup x).isSome = true) : cellOf env x = pure ((env.cells.lookup x).getD 0) := by
  unfold cellOf
  cases e : env.cells.lookup x with
  | some a => rfl
  | none => rw [e] at h; cases h
theorem clos_loop : ∀ (names : List (Str × NameKind)) (acc : List (Str × Addr)), (∀ p ∈ names, (p.2 == .free) = true → (env.cells.lookup p.1).isSome = true) →
    (forIn names acc fun (x : Str × NameKind) (r : List (Str × Addr)) => (match x with
      | (name, kind) => if (kind == NameKind.free) = true then (do let a ← cellOf env name; pure (ForInStep.yield ((name, a) :: r))) else pure (ForInStep.yield r) : Sem (ForInStep (List (Str × Addr))))) =
    pure ((names.filter fun p => p.2 == .free).reverse.map (fun p => (p.1, (env.cells.lookup p.1).getD 0)) ++ acc)
  | [], acc, _ => by simp
  | (n, k) :: r, acc, h => by
    rw [List.forIn_cons]
    have hr : ∀ p ∈ r, (p.2 == .free) = true → (env.cells.lookup p.1).isSome = true := fun p hp => h p (.tail _ hp)
    cases hk : k == NameKind.free with
    | true =>
      simp only [hk, if_true]
      rw [cellOf_of (h (n, k) (.head _) hk)]
      simp only [pure_bind]
      rw [clos_loop r _ hr]
      simp [hk]
    | false =>
      simp only [hk, Bool.false_eq_true, if_false, pure_bind]
      rw [clos_loop r _ hr]
      simp [hk]
theorem closureFor_of {scope : Scope} (h : ∀ p ∈ scope.names, (p.2 == .free) = true → (env.cells.lookup p.1).isSome = true) : closureFor scope env = pure (clOf scope env) := by
  have := clos_loop (env := env) scope.names [] h
  rw [List.append_nil] at this
  unfold closureFor
  simp only [pure_bind, bind_pure]
  exact this

theorem clOf_lookup_aux : ∀ (names : List (Str × NameKind)) (y : Str), (names.map (·.1)).Nodup → (y, NameKind.free) ∈ names → (env.cells.lookup y).isSome = true →
    ((names.filter fun p => p.2 == .free).reverse.map fun p => (p.1, (env.cells.lookup p.1).getD 0)).lookup y = env.cells.lookup y := fun names y hn hm hs => by
  obtain ⟨a, ha⟩ := Option.isSome_iff_exists.mp hs
  rw [ha]
  refine lookup_of_mem ?_ ?_
  · rw [List.map_map]
    have : ((fun x => x.1) ∘ fun p : Str × NameKind => (p.1, (env.cells.lookup p.1).getD 0)) = (fun p => p.1) := rfl
    rw [this, List.map_reverse]
    refine (List.reverse_perm _).nodup_iff.mpr (hn.sublist (List.Sublist.map _ List.filter_sublist))
  · refine List.mem_map.mpr ⟨(y, .free), List.mem_reverse.mpr (List.mem_filter.mpr ⟨hm, rfl⟩), ?_⟩
    simp [ha]

theorem pair_of_name {l : List (Str × Addr)} (h : l.Pairwise fun x y => x.2 ≠ y.2) {x y : Str} {a b : Addr} (hx : (x, a) ∈ l) (hy : (y, b) ∈ l) (hne : x ≠ y) : a ≠ b := fun e => hne (name_of_addr h hx (e ▸ hy))

/-- the check of a comprehension's names -/
def compB (env : Env) (scope : Scope) (x : Str) : Bool :=
  scope.names.all (fun p => p.2 != .cell) && decide (scope.kind = .function) && scope.names.all (fun p => p.2 != .local || scope.names.lookup p.1 == some .local) && (scope.names.lookup x == some .local) &&
  scope.names.all (fun p => p.2 != .free || (env.cells.lookup p.1).isSome && env.kindOf p.1 == some .cell && (relabel scope env).names.lookup p.1 == some .cell) && decide ((scope.names.map (·.1)).Nodup)

def freeOf (scope : Scope) : List Str := (scope.names.filter fun p => p.2 == .free).map (·.1)
theorem CompOk.of {scope : Scope} {x : Str} (hc : env.cells.Pairwise fun x y => x.2 ≠ y.2) (h : compB env scope x = true) : CompOk env scope (clOf scope env) x (freeOf scope) := by
  unfold compB at h
  simp only [Bool.and_eq_true, List.all_eq_true, Bool.or_eq_true, decide_eq_true_eq, bne_iff_ne, ne_eq, beq_iff_eq] at h
  obtain ⟨⟨⟨⟨⟨h1, h2⟩, h3⟩, h4⟩, h5⟩, h6⟩ := h
  have hf : ∀ p ∈ scope.names, (p.2 == .free) = true → (env.cells.lookup p.1).isSome = true := fun p hp he => by
    rcases h5 p hp with h | h
    · exact absurd (by simpa using he) h
    · exact h.1.1
  refine ⟨closureFor_of hf, h1, h2, fun y hy he => ?_, h4, fun p hp => ?_, ?_, fun y hy => ?_⟩
  · rcases h3 y hy with h | h
    · exact absurd he h
    · exact h
  · obtain ⟨⟨n, k⟩, hq, rfl⟩ := List.mem_map.mp hp
    have hq' := List.mem_filter.mp (List.mem_reverse.mp hq)
    obtain ⟨a, ha⟩ := Option.isSome_iff_exists.mp (hf _ hq'.1 hq'.2)
    have := mem_of_lookup ha
    simpa [ha] using this
  · unfold clOf
    rw [List.pairwise_map]
    have hn : ((scope.names.filter fun p => p.2 == .free).reverse.map (·.1)).Nodup := by
      rw [List.map_reverse]
      exact (List.reverse_perm _).nodup_iff.mpr (h6.sublist (List.Sublist.map _ List.filter_sublist))
    rw [List.Nodup, List.pairwise_map] at hn
    refine hn.imp_of_mem fun {a b} ha hb hne => ?_
    have ha' := List.mem_filter.mp (List.mem_reverse.mp ha)
    have hb' := List.mem_filter.mp (List.mem_reverse.mp hb)
    obtain ⟨u, hu⟩ := Option.isSome_iff_exists.mp (hf _ ha'.1 ha'.2)
    obtain ⟨v, hv⟩ := Option.isSome_iff_exists.mp (hf _ hb'.1 hb'.2)
    simp only [hu, hv, Option.getD_some]
    exact pair_of_name hc (mem_of_lookup hu) (mem_of_lookup hv) hne
  · obtain ⟨⟨n, k⟩, hq, rfl⟩ := List.mem_map.mp hy
    have hq' := List.mem_filter.mp hq
    have hk : k = .free := by simpa using hq'.2
    subst hk
    rcases h5 _ hq'.1 with h | h
    · exact absurd rfl h
    · exact ⟨h.2, h.1.2, clOf_lookup_aux _ _ h6 hq'.1 h.1.1⟩

theorem cellsFrom_apart : ∀ (names : List (Str × NameKind)) (n : Nat) (acc : List (Str × Addr)), (acc.Pairwise fun x y => x.2 ≠ y.2) → (∀ p ∈ acc, p.2 < n) → (cellsFrom n names acc).Pairwise fun x y => x.2 ≠ y.2
  | [], n, acc, h, _ => h
  | (y, k) :: r, n, acc, h, hb => by
    unfold cellsFrom
    split
    · refine cellsFrom_apart r (n + 1) _ (List.pairwise_cons.mpr ⟨fun p hp => ?_, h⟩) fun p hp => ?_
      · exact fun (e : n = p.2) => absurd (e ▸ hb p hp) (Nat.lt_irrefl _)
      · rcases List.mem_cons.mp hp with rfl | hp
        · exact Nat.lt_succ_self _
        · exact Nat.lt_succ_of_lt (hb p hp)
    · exact cellsFrom_apart r n acc h hb
theorem env_apart {fd : FuncData} {L a : Addr} : (callEnvC fd L a).cells.Pairwise fun x y => x.2 ≠ y.2 := cellsFrom_apart _ _ _ .nil (fun _ h => nomatch h)

theorem sub_has {fv : List Str} {y : Str} {v : V} (hy : y ∈ fv) (hv : ρ.lookup y = some v) : (sub ρ fv).lookup y = some v := by
  induction fv with
  | nil => cases hy
  | cons z r ih =>
    unfold sub
    rw [List.filterMap_cons]
    by_cases e : y = z
    · subst e; rw [hv]; simp
    · have hr := ih ((List.mem_cons.mp hy).resolve_left e)
      cases hz : ρ.lookup z with
      | none => exact hr
      | some u =>
        simp only [Option.map_some]
        rw [List.lookup_cons, show (y == z) = false from by simpa using e]
        exact hr
theorem Sub.sub {fv : List Str} (hl : l.all (fun p => fv.contains p.1) = true) (hs : Sub l ρ) : Sub l (Mine.sub ρ fv) := fun y v hy => by
  refine sub_has ?_ (hs y v hy)
  have := List.all_eq_true.mp hl _ (mem_of_lookup hy)
  simpa using this
theorem E_weak {e : Expr} (hs : Sub l ρ) (h : WE prog w B A env e l σ Q X) : WE prog w B A env e ρ σ Q X := fun φ s G L => h φ s G (L.sub hs)

/-- a comprehension whose items leave the heap as it is -/
def CompG (prog : Program) (w : World) (B : Shared) (A : Around) (env cenv : Env) (x : Str) (elt : Expr) (v : V) (σ' : List AObj) (K : Nat → List AObj → List V → Prop) (l : List (Str × V)) : Prop :=
  ∃ σ₁ n el C, ∃ y : Nat → V, WIt prog w B A v σ' σ₁ n el C ∧ n ≤ sizeLine ∧ (∀ i, C (σ₁ ++ [.list ((List.range i).map y)])) ∧
    (∀ D i, i < n → WE prog w B A { cenv with locals := D } elt ((x, el i) :: l) (σ₁ ++ [.list ((List.range i).map y)]) (fun v σ₃ => v = y i ∧ σ₃ = σ₁ ++ [.list ((List.range i).map y)]) (fun _ _ _ _ => False)) ∧
    K σ₁.length σ₁ ((List.range n).map y)
theorem X_compl {elt iter : Expr} {x y : Str} {px py : Pos} {scope : Scope} {pos spos : Pos} {rest : List Stmt} {Q : Fl → List (Str × V) → List AObj → Prop} (l : List (Str × V)) (hl : l.all (fun p => (freeOf scope).contains p.1) = true) (hs : Sub l ρ) (hb : compB env scope x = true) (hc : env.cells.Pairwise fun x y => x.2 ≠ y.2)
    (h : WE prog w B A env iter ρ σ (fun v σ' => CompG prog w B A env (compEnvC scope (clOf scope env) 0 env) x elt v σ' (fun k σ₁ ys => WX prog w B A env rest ((y, .ref k) :: ρ) (σ₁ ++ [.list ys]) Q X) l) X)
    (hy : env.kindOf y = some .local := by kernel_rfl!)
    (hsw : swapsWith (.ListComp elt [⟨.Name x px, iter, [], 0⟩] scope pos) (some (.Name y py)) spos.line env = pure true := by with_unfolding_all rfl)
    (hs' : ∀ v, foldedSetIterable iter env v = pure v := by intro _; with_unfolding_all rfl) :
    WX prog w B A env (.Assign [.Name y py] (.ListComp elt [⟨.Name x px, iter, [], 0⟩] scope pos) spos :: rest) ρ σ Q X := by
  refine X_cons (X_comp (CompOk.of hc hb) (h.mono fun v σ' hx => ?_) hy hsw hs')
  obtain ⟨σ₁, n, el, C, y, hit, hn, hC, helt, hK⟩ := hx
  refine ⟨σ₁, n, el, C, fun i σ₂ => σ₂ = σ₁ ++ [.list ((List.range i).map y)], hit, hC 0, rfl, ?_, ?_⟩
  · rintro D i _ hi hCi rfl
    refine (E_weak (Sub.both (hs.sub hl)) (helt D i hi)).mono ?_
    rintro _ _ ⟨rfl, rfl⟩
    have e : (σ₁ ++ [AObj.list ((List.range i).map y)]).set σ₁.length (.list ((List.range i).map y ++ [y i])) = σ₁ ++ [.list ((List.range (i + 1)).map y)] := by
      rw [List.set_append_right _ _ (Nat.le_refl _)]
      simp [List.range_succ]
    refine ⟨(List.range i).map y, by simp, by simp; omega, ?_, ?_⟩
    · rw [e]; exact hC (i + 1)
    · exact e
  · rintro _ _ rfl
    exact hK
theorem small_size {n : Nat} (h : n ≤ 100000) : n ≤ sizeLine := Nat.le_trans h (by decide +kernel)
theorem log2_small {b : Int} (h : b.natAbs < 2 ^ 64) : b.natAbs.log2 < 9000 := by
  by_cases h0 : b.natAbs = 0
  · rw [h0]; decide
  · exact Nat.lt_of_lt_of_le ((Nat.log2_lt h0).mpr h) (by decide)
theorem at_end {ob : AObj} : (σ ++ [ob])[σ.length]? = some ob := by simp
theorem set_end {ob ob' : AObj} : (σ ++ [ob]).set σ.length ob' = σ ++ [ob'] := by rw [List.set_append_right _ _ (Nat.le_refl _)]; simp
end
end Mine

set_option autoImplicit false
set_option linter.unusedVariables false
set_option maxRecDepth 100000
namespace Mine
open PySem PySem.W PySem.Calls PyProof.Rows

/-! the equality of dicts, and the walk through a dict by list(..) and sorted(..) -/
section
variable {M : Model} {A : Around} {E : Value → Shared → Prop}
end

section
variable {prog : Program} {w : World} {A : Around} {E : Value → Shared → Prop} {s : Shared}

end
end Mine

set_option autoImplicit false
set_option linter.unusedVariables false
set_option maxRecDepth 100000
namespace Mine
open PySem PySem.W PySem.Calls PyProof.Rows

/-- a thing at r that a list can be filled from: n values that are Good -/
structure Src (prog : Program) (w : World) (T : String) (r : Addr) (n : Nat) (Good : List Value → Prop) (OK : Heap → Prop) : Prop where
  type : ∀ s : Shared, OK s.heap → s.TypeIs (.ref r) T
  keep : ∀ h h' : Heap, OK h → (∀ o, h.get? r = some o → h'.get? r = some o) → OK h'
  notList : (Value.type T == Value.type "list") = false
  notTuple : (Value.type T == Value.type "tuple") = false
  hint : ∀ (A : Around) (E : Value → Shared → Prop) (s : Shared) (Q : Bool → Shared → Prop), OK s.heap → Q false s → wpAny (model prog w) A (Builtin.List.listLengthHint (.ref r)) Q E s
  iter : ∀ (A : Around) (E : Value → Shared → Prop) (s : Shared) (Q : Value → Shared → Prop), A.handled = none → OK s.heap →
    (∀ (I : Addr) (s₁ : Shared) (fp : List Addr) (P : Nat → Value → Prop) (St : Nat → Heap → Prop), (∀ b o, s.heap.get? b = some o → s₁.heap.get? b = some o) → s₁.gens = s.gens → s₁.os = s.os →
      (∀ b ∈ fp, b = r ∨ s.heap.get? b = none) → s.heap.get? I = none → Walks prog w A I fp [I] n P St → St 0 s₁.heap → (∀ acc, ItemsOf P acc n → Good acc.toList) → Q (.ref I) s₁) → wpAny (model prog w) A (pyIter (.ref r)) Q E s

section
variable {prog : Program} {w : World} {A : Around} {E : Value → Shared → Prop} {s : Shared} {T : String} {r : Addr} {n : Nat} {Good : List Value → Prop} {OK : Heap → Prop}

/-- what filling a new list at S leaves -/
def Filled (Good : List Value → Prop) (S : Addr) (s s' : Shared) : Prop :=
  (∀ b o, b ≠ S → s.heap.get? b = some o → s'.heap.get? b = some o) ∧ s'.gens = s.gens ∧ s'.os = s.os ∧ ∃ acc c, s'.heap.get? S = some { cls := .type "list", dict := none, data := .seq acc c, slots := #[] } ∧ Good acc.toList

theorem src_extend {R : Result → Shared → Prop} (K : Src prog w T r n Good OK) (hh : A.handled = none) (hok : OK s.heap) (S : Addr) (hSr : S ≠ r) (res : Value) (c₀ : Nat) (hS : s.heap.get? S = some { cls := .type "list", data := .seq #[] c₀ })
    (hR : ∀ s', Filled Good S s s' → R (.ok (.ret res)) s') (hn : n ≤ sizeLine) :
    wpAny (model prog w) A.in1 (Builtin.List.listExtendWith (.ref S) (.ref r) res)
      (fun fin s' => match fin with | .done f => R (.ok f) s' | .again c' => c'.quiet = true ∧ codeAny (model prog w) A c' R s') (fun e s' => R (.error e) s') s := by
  unfold Builtin.List.listExtendWith
  refine wpAny_bind (wpAny_typeOf (T := T) (K.type s hok) ?_)
  have h1 : Builtin.List.listSameRef (.ref S) (.ref r) = false := by simp [Builtin.List.listSameRef, hSr]
  simp only [h1, K.notList, K.notTuple, Bool.or_false, Bool.false_eq_true, if_false]
  refine wpAny_bind (K.iter A.in1 _ s _ hh hok fun I s₁ fp P St hk hg ho hfp hI W st good => ?_)
  have hSf : S ∉ fp := fun hm => by
    rcases hfp S hm with e | e
    · exact hSr e
    · rw [e] at hS; cases hS
  have hSI : S ≠ I := fun e => by rw [e, hI] at hS; cases hS
  have hS₁ := hk S _ hS
  have key : ∀ (h : Heap) (c₁ : Nat), St 0 h → (∀ b o, b ≠ S → s.heap.get? b = some o → h.get? b = some o) →
      h.get? S = some { cls := .type "list", data := .seq #[] c₁ } → codeAny (model prog w) A (.builtin "list.extend.loop" ⟨[.ref S, .ref I, res], []⟩) R { s₁ with heap := h } := by
    intro h c₁ hst hkeep hS₂
    refine codeAny_extend_loopS W.toS hn S hSf res n 0 _ #[] c₁ rfl (Nat.zero_le _) hst hS₂ (ItemsOf.nil _) fun s' acc' c' hm hS' hacc => ?_
    refine hR s' ⟨fun b o hb e => hm.heap b o (fun hmem => ?_) (hkeep b o hb e), hm.gens.trans hg, hm.os.trans ho, acc', c', hS', good acc' hacc⟩
    rcases List.mem_cons.mp hmem with e' | hmem
    · exact hb e'
    · rw [List.mem_singleton.mp hmem, hI] at e; cases e
  refine wpAny_bind (wpAny_holding (K.hint _ _ _ _ (K.keep _ _ hok fun o e => hk r o e) ?_))
  refine wpAny_ite_split (fun _ => ?_) (fun _ => wpAny_pure ⟨plainId_quiet PySem.F.plain_extend_loop _, key s₁.heap c₀ st (fun b o _ e => hk b o e) hS₁⟩)
  refine wpAny_bind (wpAny_rule (wpAny_bind ?_))
  show wpAny _ _ (updateSeq S (·.push .none) >>= fun _ => updateSeq S (·.pop)) _ _ _
  refine wpAny_bind (wpAny_updateSeq hS₁ rfl ?_)
  have hS₂ := Heap.get?_update_self (Obj.mapSeq (·.push Value.none)) hS₁ rfl
  refine wpAny_updateSeq (hz := by seq_fits) hS₂ rfl ?_
  have hS₃ := Heap.get?_update_self (Obj.mapSeq (·.pop)) hS₂ rfl
  refine wpAny_pure ⟨plainId_quiet PySem.F.plain_extend_loop _, key _ _ ?_ (fun b o hb e => ?_) hS₃⟩
  · refine W.frame 0 _ _ st fun b hb o e => ?_
    have hbS : b ≠ S := fun h => hSf (h ▸ hb)
    exact (Heap.get?_update_other _ _ (Ne.symm hbS)).trans ((Heap.get?_update_other _ _ (Ne.symm hbS)).trans e)
  · exact (Heap.get?_update_other _ _ (Ne.symm hb)).trans ((Heap.get?_update_other _ _ (Ne.symm hb)).trans (hk b o e))

theorem src_lt (K : Src prog w T r n Good OK) (hok : OK s.heap) : r < s.heap.objs.size := by
  obtain ⟨o, ho, _⟩ := K.type s hok; exact Heap.lt_size ho

/-- list(r) -/
theorem src_list {Q : Value → Shared → Prop} (K : Src prog w T r n Good OK) (hh : A.handled = none) (hok : OK s.heap) (hn : n ≤ sizeLine)
    (hQ : ∀ s' acc c, (∀ b o, s.heap.get? b = some o → s'.heap.get? b = some o) → s'.gens = s.gens → s'.os = s.os → s'.heap.get? s.heap.objs.size = some { cls := .type "list", dict := none, data := .seq acc c, slots := #[] } → Good acc.toList → Q (.ref s.heap.objs.size) s') :
    wpAny (model prog w) A (call (.type "list") [.ref r]) Q E s := by
  refine callType_codes (Q₁ := fun obj s₁ => obj = .ref s.heap.objs.size ∧ s₁ = { s with heap := s.heap.push { cls := .type "list", data := .seq #[] } }) PySem.F.called_list (PySem.F.typeCall_list_1 _) PySem.F.entry_list_init
    (code_list_new _ ⟨rfl, rfl⟩) fun obj s₁ h₁ => ?_
  obtain ⟨rfl, rfl⟩ := h₁
  have hS : (s.heap.push { cls := .type "list", data := .seq #[] }).get? s.heap.objs.size = some { cls := .type "list", data := .seq #[] } := Heap.get?_push_size _ rfl
  have hlt := src_lt K hok
  refine ⟨⟨_, hS, rfl⟩, PySem.F.args_list_init_2 _ _, ?_⟩
  show wpAny _ _ (do let old ← Builtin.List.listItems (.ref s.heap.objs.size); Builtin.List.listUpdate (.ref s.heap.objs.size) (fun _ => #[]); letGo old.toList.reverse; Builtin.List.listExtendWith (.ref s.heap.objs.size) (.ref r) .none) _ _ _
  refine wpAny_bind (listItems_at hS rfl (wpAny_bind (listUpdate_at hS rfl (wpAny_bind (wpAny_letGo ?_)))))
  have hS₂ := Heap.get?_update_self (Obj.mapSeq (fun _ => (#[] : Array Value))) hS rfl
  have oth : ∀ b o, b ≠ s.heap.objs.size → (s.heap.push { cls := .type "list", data := .seq #[] }).get? b = some o → ((s.heap.push { cls := .type "list", data := .seq #[] }).update s.heap.objs.size (Obj.mapSeq (fun _ => (#[] : Array Value)))).get? b = some o :=
    fun b o hb e => (Heap.get?_update_other _ _ (Ne.symm hb)).trans e
  refine src_extend (A := A.in1) K hh (K.keep _ _ hok fun o e => oth r o (Nat.ne_of_lt hlt) (Heap.get?_push_of_some _ e)) s.heap.objs.size (Nat.ne_of_gt hlt) .none _ hS₂ (fun s' hF => ?_) hn
  obtain ⟨hk, hg, ho, acc, c, hS', hgood⟩ := hF
  exact ⟨rfl, hQ s' acc c (fun b o e => hk b o (Nat.ne_of_lt (Heap.lt_size e)) (oth b o (Nat.ne_of_lt (Heap.lt_size e)) (Heap.get?_push_of_some _ e))) hg ho hS' hgood⟩

/-- collect -/
theorem src_collect {R : List Value → Shared → Prop} (K : Src prog w T r n Good OK) (hh : A.handled = none) (hok : OK s.heap) (hn : n ≤ sizeLine)
    (h : ∀ s' acc, (∀ b o, s.heap.get? b = some o → s'.heap.get? b = some o) → s'.gens = s.gens → s'.os = s.os → Good acc → R acc s') :
    wpAny (model prog w) A (collect (.ref r)) R E s := by
  have hlt := src_lt K hok
  unfold collect
  refine wpAny_bind (wpAny_runValue (codeAny_builtin PySem.F.entry_proto_collect ?_))
  rw [Around.under_plainId PySem.F.plain_proto_collect _]
  show wpAny _ A.in1 (newList [] >>= fun l => again (.builtin "list.__iadd__" ⟨[l, .ref r], []⟩)) _ _ s
  refine wpAny_bind (wpAny_newObj_type ?_)
  refine wpAny_pure ⟨plainId_quiet PySem.F.plain_list_iadd _, codeAny_builtin PySem.F.entry_list_iadd ?_⟩
  rw [Around.under_plainId PySem.F.plain_list_iadd _]
  have hS₁ : (s.heap.push { cls := .type "list", data := .seq ([] : List Value).toArray }).get? s.heap.objs.size = some { cls := .type "list", data := .seq #[] } := Heap.get?_push_size _ rfl
  show wpAny _ A.in1 (Builtin.List.listExtendWith (.ref s.heap.objs.size) (.ref r) (.ref s.heap.objs.size)) _ _ _
  refine wpAny_mono (src_extend (A := A) (s := { s with heap := s.heap.push { cls := .type "list", data := .seq ([] : List Value).toArray } })
    (R := fun (q : Result) (s' : Shared) => q = .ok (.ret (.ref s.heap.objs.size)) ∧ Filled Good s.heap.objs.size { s with heap := s.heap.push { cls := .type "list", data := .seq ([] : List Value).toArray } } s')
    K hh (K.keep _ _ hok fun o e => Heap.get?_push_of_some _ e) s.heap.objs.size (Nat.ne_of_gt hlt) (.ref s.heap.objs.size) 0 hS₁ (fun s' hF => ⟨rfl, hF⟩) hn) (fun fin s' x => ?_) fun e s' x => ?_
  · have go : ∀ s₂, Filled Good s.heap.objs.size { s with heap := s.heap.push { cls := .type "list", data := .seq ([] : List Value).toArray } } s₂ → wpAny (model prog w) A (do
        let o ← load s.heap.objs.size
        match o.data with
        | .seq xs _ => pure xs.toList
        | _ => unsupported "internal:collect") R E s₂ := fun s₂ hF => by
      obtain ⟨hk, hg, ho, acc, c, hS', hgood⟩ := hF
      refine wpAny_bind (wpAny_load hS' (wpAny_pure (h s₂ acc.toList (fun b o e => hk b o (Nat.ne_of_lt (Heap.lt_size e)) (Heap.get?_push_of_some _ e)) hg ho hgood)))
    cases fin with
    | done f =>
      obtain ⟨e, hF⟩ := x
      cases e
      exact go s' hF
    | again c₁ => exact ⟨x.1, codeAny_mono x.2 fun q s₂ y => by obtain ⟨rfl, hF⟩ := y; exact go s₂ hF⟩
  · obtain ⟨e, _⟩ := x; cases e
end

/-- a dict's keys -/
def KeysGood (kvs : List (Key × Value)) (vs : List Value) : Prop := vs.length = kvs.length ∧ ∀ (i : Nat) (v : Value), vs[i]? = some v → ∃ (k : Key) (x : Value), kvs[i]? = some (k, x) ∧ k.is v = true
section
variable {prog : Program} {w : World} {d : Addr} {kvs : List (Key × Value)} {ep : Nat}
theorem hint_dict {A : Around} {E : Value → Shared → Prop} {s : Shared} {r : Addr} {Q : Bool → Shared → Prop} (hT : s.TypeIs (.ref r) "dict") (h : Q false s) : wpAny (model prog w) A (Builtin.List.listLengthHint (.ref r)) Q E s := by
  unfold Builtin.List.listLengthHint
  refine wpAny_bind (wpAny_specialOf hT PySem.F.slot_dict_len.lookup ?_)
  generalize hid : ("dict.__len__" : String) = id0
  wp_delta
  rw [show splitId id0 = some ("dict", "__len__") from by subst hid; decide +kernel]
  subst hid
  refine wpAny_bind (wpAny_isInstance (T := "dict") (b := true) hT (by rw [isSubtype_type]; kernel_rfl) ?_)
  refine wpAny_ite_split (fun hab => absurd hab (by decide)) (fun _ => ?_)
  refine wpAny_ite_split (fun _ => ?_) (fun hab => absurd (by decide +kernel) hab)
  exact wpAny_bind (wpAny_typeOf hT (wpAny_pure h))
theorem src_dict (lo : (d == sysModules) = false) : Src prog w "dict" d kvs.length (KeysGood kvs) (fun h => h.DictAt (kk prog w) d kvs ep) where
  type := fun _ hm => hm.dictOf.typeIs
  keep := fun _ _ hm hk => hm.at' fun o e => hk o e
  notList := by decide
  notTuple := by decide
  hint := fun _ _ _ _ hm hq => hint_dict hm.dictOf.typeIs hq
  iter := fun A E s Q hh hm hq => wpAny_pyIter_dict lo hm (hq _ _ [s.heap.objs.size, d] _ _ (fun b o e => Heap.get?_push_of_some _ e) rfl rfl
    (fun b hb => by rcases List.mem_cons.mp hb with rfl | hb; exact .inr (get?_size _); exact .inl (List.mem_singleton.mp hb)) (get?_size _)
    (Walks.dictKeys hh _ d (Nat.ne_of_lt hm.lt_size) kvs ep) ⟨⟨_, Heap.get?_push_size _ rfl, rfl, rfl⟩, hm.push _⟩
    fun acc hacc => ⟨by rw [Array.length_toList]; exact hacc.1, fun i v e => hacc.2 i v (by rw [← Array.getElem?_toList]; exact e)⟩)
end
end Mine

set_option autoImplicit false
set_option linter.unusedVariables false
set_option maxRecDepth 100000
namespace Mine
open PySem PySem.W PySem.Calls PyProof.Rows

mutual
inductive Dat (σ : List AObj) : V → PyData → Prop
  | none : Dat σ .none .none
  | bool (b : Bool) : Dat σ (.bool b) (.bool b)
  | int (i : Int) : Dat σ (.int i) (.int i)
  | str (x : Str) : Dat σ (.str x) (.str x)
  | tup {xs : List V} {ds : List PyData} : Dats σ xs ds → Dat σ (.tup xs) (.tuple ds)
  | list {k : Nat} {xs : List V} {ds : List PyData} : σ[k]? = some (.list xs) → Dats σ xs ds → Dat σ (.ref k) (.list ds)
inductive Dats (σ : List AObj) : List V → List PyData → Prop
  | nil : Dats σ [] []
  | cons {x : V} {d : PyData} {xs : List V} {ds : List PyData} : Dat σ x d → Dats σ xs ds → Dats σ (x :: xs) (d :: ds)
end

section
variable {prog : Program} {w : World} {B : Shared} {mg mb : Str → Option Value} {φ φ' : List Addr} {σ σ' : List AObj} {s s' : Shared} {env : Env} {ρ l : List (Str × V)} {A : Around} {X : XT} {Q : V → List AObj → Prop}

mutual
theorem Dat.reads (G : St prog w B φ σ s) : ∀ {x : V} {d : PyData} {v : Value}, Dat σ x d → Val φ s.heap x v → ∃ as, Reads s.heap v d as
  | _, _, _, .none, hv => by obtain rfl := hv.of_none; exact ⟨_, .none⟩
  | _, _, _, .bool b, hv => by obtain rfl := hv.of_bool; exact ⟨_, .bool _⟩
  | _, _, _, .int i, hv => by obtain ⟨t, rfl⟩ := hv.of_int; exact ⟨_, .int _ _⟩
  | _, _, _, .str x, hv => by obtain ⟨t, rfl⟩ := hv.of_str; exact ⟨_, .str _ _⟩
  | _, _, _, .tup hs, hv => by
    obtain ⟨a, vs, rfl, ⟨o, ho, hc, n, hd⟩, hvs⟩ := hv.of_tup
    obtain ⟨as, r⟩ := Dats.reads G hs hvs
    exact ⟨_, .tuple ho hc hd r⟩
  | _, _, _, .list hσ hs, hv => by
    obtain ⟨a, rfl, ha⟩ := hv.of_ref
    obtain ⟨a', ha', vs, n, ho, hvs⟩ := G.get hσ
    rw [ha] at ha'; cases ha'
    obtain ⟨as, r⟩ := Dats.reads G hs hvs
    exact ⟨_, .list ho rfl rfl r⟩
theorem Dats.reads (G : St prog w B φ σ s) : ∀ {xs : List V} {ds : List PyData} {vs : List Value}, Dats σ xs ds → Vals φ s.heap xs vs → ∃ as, ReadsAll s.heap vs ds as
  | _, _, _, .nil, hv => by rw [Vals] at hv; subst hv; exact ⟨_, .nil⟩
  | _, _, _, .cons h1 h2, hv => by
    rw [Vals] at hv
    obtain ⟨v, r, rfl, hv1, hv2⟩ := hv
    obtain ⟨as, r1⟩ := Dat.reads G h1 hv1
    obtain ⟨bs, r2⟩ := Dats.reads G h2 hv2
    exact ⟨_, .cons r1 r2⟩
end

theorem O_eqd {x y : V} {d e : PyData} (h1 : Dat σ x d) (h2 : Dat σ y e) (c1 : d.canLay0 = true) (c2 : e.canLay0 = true) (hu : A.units + min d.depth e.depth < cLine) (q : Q (.bool (PyData.eqv d e)) σ) : W2 prog w B A (compareOp .Eq) x y σ Q X := fun φ s v u G hv hu' => by
  obtain ⟨as, r1⟩ := h1.reads G hv
  obtain ⟨bs, r2⟩ := h2.reads G hu'
  exact SeqAt.compareEq_reads r1 r2 c1 c2 hu (Post.here G ⟨_, .bool_ _, q⟩)
theorem O_ned {x y : V} {d e : PyData} (h1 : Dat σ x d) (h2 : Dat σ y e) (c1 : d.canLay0 = true) (c2 : e.canLay0 = true) (hu : A.units + min d.depth e.depth < cLine) (q : Q (.bool (!PyData.eqv d e)) σ) : W2 prog w B A (compareOp .NotEq) x y σ Q X := fun φ s v u G hv hu' => by
  obtain ⟨as, r1⟩ := h1.reads G hv
  obtain ⟨bs, r2⟩ := h2.reads G hu'
  exact SeqAt.compareNe_reads r1 r2 c1 c2 hu (Post.here G ⟨_, .bool_ _, q⟩)

/-! equality of dicts -/
/-! dict(d), list + list -/
theorem O_addl {j k : Nat} {xs ys : List V} (h1 : σ[j]? = some (.list xs)) (h2 : σ[k]? = some (.list ys)) (hl : xs.length + ys.length ≤ sizeLine) (q : Q (.ref σ.length) (σ ++ [.list (xs ++ ys)])) : W2 prog w B A (binaryOp .Add) (.ref j) (.ref k) σ Q X := fun φ s v u G hv hu => by
  obtain ⟨a, rfl, ha⟩ := hv.of_ref
  obtain ⟨b, rfl, hb⟩ := hu.of_ref
  obtain ⟨a', ha', vs, n, ho, hvs⟩ := G.get h1
  rw [ha] at ha'; cases ha'
  obtain ⟨b', hb', ws, m, ho', hws⟩ := G.get h2
  rw [hb] at hb'; cases hb'
  have e1 : vs.size = xs.length := by simpa using hvs.length
  have e2 : ws.size = ys.length := by simpa using hws.length
  have hk : ∀ (b : Addr) (o : Obj), s.heap.get? b = some o → (s.heap.push { cls := .type "list", data := .seq (vs ++ ws) }).get? b = some o := fun b o e => Heap.get?_push_of_some _ e
  have t₂ : Step [] φ s.heap (φ ++ [s.heap.objs.size]) (s.heap.push { cls := .type "list", data := .seq (vs ++ ws) }) := Step.alloc (s' := { s with heap := s.heap.push { cls := .type "list", data := .seq (vs ++ ws) } }) (get?_size _) hk
  refine P.add_list ho ho' ⟨φ ++ [s.heap.objs.size], σ ++ [.list (xs ++ ys)], t₂, G.alloc (s' := { s with heap := _ }) (ob := .list (xs ++ ys)) (get?_size _) hk ⟨vs ++ ws, 0, Heap.get?_push_size _ rfl, ?_⟩ G.fresh G.sizeNe, .ref σ.length, ?_, q⟩ (by omega)
  · rw [Array.toList_append]
    exact (hvs.append hws).step G t₂
  · rw [Val, ← G.len]
    exact ⟨_, rfl, by simp⟩

/-! a loop over a dict's keys -/
def turnD {ι : Type} (k : Nat) (es : List (Key × V)) (e : Option Nat) (ep : Nat) (D : ι → Prop) (l : ι → List (Str × V)) (f : ι → List AObj) (Q : Fl → List (Str × V) → List AObj → Prop) : Fl → List (Str × V) → List AObj → Prop
  | .next, ρ', σ' => ∃ g, D g ∧ σ' = pin (f g) k es ep ∧ Sub (l g) ρ'
  | .cont, ρ', σ' => ∃ g, D g ∧ σ' = pin (f g) k es ep ∧ Sub (l g) ρ'
  | .brk, ρ', σ' => σ'[k]? = some (.dict es (some ep)) ∧ Q .next ρ' (σ'.set k (.dict es e))
  | .ret x, ρ', σ' => σ'[k]? = some (.dict es (some ep)) ∧ Q (.ret x) ρ' (σ'.set k (.dict es e))
theorem TD_next {ι : Type} {k : Nat} {es : List (Key × V)} {e : Option Nat} {ep : Nat} {D : ι → Prop} {l : ι → List (Str × V)} {f : ι → List AObj} {Q : Fl → List (Str × V) → List AObj → Prop} (g : ι) (hD : D g) (hσ : σ = pin (f g) k es ep) (hs : Sub (l g) ρ) : turnD k es e ep D l f Q .next ρ σ := ⟨g, hD, hσ, hs⟩
theorem TD_ret {ι : Type} {k : Nat} {es : List (Key × V)} {e : Option Nat} {ep : Nat} {D : ι → Prop} {l : ι → List (Str × V)} {f : ι → List AObj} {Q : Fl → List (Str × V) → List AObj → Prop} {x : V} (hσ : σ[k]? = some (.dict es (some ep))) (q : Q (.ret x) ρ (σ.set k (.dict es e))) : turnD k es e ep D l f Q (.ret x) ρ σ := ⟨hσ, q⟩
theorem pin_at {k : Nat} {es es₀ : List (Key × V)} {e₀ : Option Nat} {ep : Nat} (h : σ[k]? = some (.dict es₀ e₀)) : (pin σ k es ep)[k]? = some (.dict es (some ep)) := by
  rw [pin, List.getElem?_set_self (List.getElem?_eq_some_iff.mp h).1]
theorem pin_set {k : Nat} {es : List (Key × V)} {e : Option Nat} {ep : Nat} (h : σ[k]? = some (.dict es e)) : (pin σ k es ep).set k (.dict es e) = σ := by
  rw [pin, List.set_set]
  obtain ⟨hk, he⟩ := List.getElem?_eq_some_iff.mp h
  rw [← he]; simp
theorem pin_ne {j k : Nat} {es : List (Key × V)} {ep : Nat} (h : j ≠ k) : (pin σ k es ep)[j]? = σ[j]? := by rw [pin, List.getElem?_set_ne (Ne.symm h)]

theorem X_ford {x : Str} {px pos : Pos} {iter : Expr} {body rest : List Stmt} {Q : Fl → List (Str × V) → List AObj → Prop} {k : Nat} {es : List (Key × V)} {e : Option Nat} {ι : Type} (D : Nat → ι → Prop) (l : Nat → ι → List (Str × V)) (f : Nat → ι → List AObj) (g₀ : ι)
    (hh : A.handled = none) (hσ : σ[k]? = some (.dict es e))
    (hi : ∀ ep, WE prog w B A env iter ρ (pin σ k es ep) (fun v σ' => v = .ref k ∧ σ' = pin σ k es ep) X)
    (h1 : D 0 g₀) (h2 : σ = f 0 g₀) (h4 : Sub (l 0 g₀) ρ) (hf : ∀ i g, D i g → (f i g)[k]? = some (.dict es e))
    (hb : ∀ ep i g, i < es.length → D i g → WX prog w B A env body ((x, keyAt es i) :: l i g) (pin (f i g) k es ep) (turnD k es e ep (D (i + 1)) (l (i + 1)) (f (i + 1)) (seqQ prog w B A env rest Q X)) (fun _ _ _ _ => False))
    (he : ∀ g, D es.length g → WX prog w B A env rest (l es.length g) (f es.length g) Q X)
    (hx : env.kindOf x = some .local := by kernel_rfl!)
    (hs : ∀ v, foldedSetIterable iter env v = pure v := by intro _; with_unfolding_all rfl) (hl : ∀ it v, letOwnedTupleGo (.Name x px) it v = pure () := by intro _ _; with_unfolding_all rfl) :
    WX prog w B A env (.For (.Name x px) iter body [] pos :: rest) ρ σ Q X := by
  refine X_cons fun φ s G L => ?_
  obtain ⟨ep, hep, G', _⟩ := G.pin hσ
  have main : WX1 prog w B A env (.For (.Name x px) iter body [] pos) ρ (pin σ k es ep) (fun fl ρ' σ' => σ'[k]? = some (.dict es (some ep)) ∧ seqQ prog w B A env rest Q X fl ρ' (σ'.set k (.dict es e))) X := by
    refine X_for ((hi ep).mono fun v σ' ⟨e1, e2⟩ => ?_) (.inl hx) hs hl
    subst e1 e2
    refine ⟨pin σ k es ep, es.length, keyAt es, fun σ' => σ'[k]? = some (.dict es (some ep)), _, .no, fun i ρ' σ' => ∃ g, D i g ∧ σ' = pin (f i g) k es ep ∧ Sub (l i g) ρ', It_dict (e := none) hh (pin_at hσ), pin_at hσ, ⟨g₀, h1, by rw [← h2], h4⟩, ?_, ?_⟩
    · rintro i ρ₂ σ₂ hi' hC ⟨g, hD, rfl, hs'⟩
      refine X_weak hs'.both fun φ s G L => wpAny_mono (hb ep i g hi' hD φ s G L) (fun v s₁ hx => ?_) fun _ _ x => x
      obtain ⟨φ₁, σ₃, t₁, G₁, fl, ρ', hf', L₁, q⟩ := hx
      refine ⟨φ₁, σ₃, t₁, G₁, fl, ρ', hf', L₁, ?_⟩
      cases fl with
      | next => obtain ⟨g', q1, q2, q4⟩ := q; exact ⟨by rw [q2]; exact pin_at (hf _ _ q1), g', q1, q2, q4⟩
      | cont => obtain ⟨g', q1, q2, q4⟩ := q; exact ⟨by rw [q2]; exact pin_at (hf _ _ q1), g', q1, q2, q4⟩
      | brk => exact q
      | ret y => exact q
    · rintro ρ₂ σ₂ hC ⟨g, hD, rfl, hs'⟩
      refine ⟨hC, ?_⟩
      rw [pin_set (hf _ _ hD)]
      exact X_weak hs' (he g hD)
  refine wpAny_mono (main φ s G' L) (fun v s₁ hx => ?_) fun _ _ x => x
  obtain ⟨φ₁, σ₁, t₁, G₁, fl, ρ₁, hf', L₁, q1, q2⟩ := hx
  exact ⟨φ₁, σ₁.set k (.dict es e), t₁, G₁.unpin q1 hep, fl, ρ₁, hf', L₁, q2⟩

/-! slices of texts -/
theorem E_slice_to {value upper : Expr} {p pos : Pos} (h : WE prog w B A env value ρ σ (fun x σ₁ => ∃ y : Str, x = .str y ∧ y.length ≤ sizeLine ∧ WE prog w B A env upper ρ σ₁ (fun u σ₂ => ∃ j : Int, u = .int j ∧ Q (.str (Txt.slice y none (some j))) σ₂) X) X)
    : WE prog w B A env (.Subscript value (.Slice none (some upper) none p) pos) ρ σ Q X := fun φ s G L => by
  refine Subscript_ ((h φ s G L).use (.refl ..) fun a s₁ φ₁ σ₁ t₁ _ G₁ ⟨x, hx, y, ey, hy, h₁⟩ => ?_)
  subst ey
  obtain ⟨t, rfl⟩ := hx.of_str
  refine wpAny_Slice ?_
  show wpAny _ _ (pure Value.none) _ _ _
  refine wpAny_pure ?_
  show wpAny _ _ (eval upper env) _ _ _
  refine (h₁ φ₁ s₁ G₁ (L.step G t₁)).use t₁ fun b s₂ φ₂ σ₂ t₂ tt G₂ ⟨u, hu, j, ej, q⟩ => ?_
  subst ej
  obtain ⟨t', rfl⟩ := hu.of_int
  show wpAny _ _ (pure Value.none) _ _ _
  refine wpAny_pure ?_
  have it := SBH.sliceItem_ns (prog := prog) (w := w) (A := A) (E := Post prog w B [] φ s X) (P := fun h => ∀ b o, s₂.heap.get? b = some o → h.get? b = some o) (s := s₂) (x := y) (t := t) (j := j) (uj := t') (Q := Post prog w B [] φ s (vQ Q))
    (fun h ob hk b o e => Heap.get?_push_of_some _ (hk b o e)) (fun _ _ e => e) (fun h' t'' kk hk => ⟨φ₂, σ₂, tt.trans0 (.of_keeps hk), G₂.keeps (s' := { s₂ with heap := h', toks := kk }) hk, _, .str_ _ _, q⟩) hy
  obtain ⟨T, id, h1, h2, h3⟩ := it
  exact tail_any (ops := [_, _]) h2 h1 h3 rfl
theorem E_slice_from {value lower : Expr} {p pos : Pos} (h : WE prog w B A env value ρ σ (fun x σ₁ => ∃ y : Str, x = .str y ∧ y.length ≤ sizeLine ∧ WE prog w B A env lower ρ σ₁ (fun u σ₂ => ∃ j : Int, u = .int j ∧ Q (.str (Txt.slice y (some j) none)) σ₂) X) X)
    : WE prog w B A env (.Subscript value (.Slice (some lower) none none p) pos) ρ σ Q X := fun φ s G L => by
  refine Subscript_ ((h φ s G L).use (.refl ..) fun a s₁ φ₁ σ₁ t₁ _ G₁ ⟨x, hx, y, ey, hy, h₁⟩ => ?_)
  subst ey
  obtain ⟨t, rfl⟩ := hx.of_str
  refine wpAny_Slice ?_
  show wpAny _ _ (eval lower env) _ _ _
  refine (h₁ φ₁ s₁ G₁ (L.step G t₁)).use t₁ fun b s₂ φ₂ σ₂ t₂ tt G₂ ⟨u, hu, j, ej, q⟩ => ?_
  subst ej
  obtain ⟨t', rfl⟩ := hu.of_int
  show wpAny _ _ (pure Value.none) _ _ _
  refine wpAny_pure ?_
  show wpAny _ _ (pure Value.none) _ _ _
  refine wpAny_pure ?_
  have it := SBH.sliceItem_sn (prog := prog) (w := w) (A := A) (E := Post prog w B [] φ s X) (P := fun h => ∀ b o, s₂.heap.get? b = some o → h.get? b = some o) (s := s₂) (x := y) (t := t) (i := j) (ui := t') (Q := Post prog w B [] φ s (vQ Q))
    (fun h ob hk b o e => Heap.get?_push_of_some _ (hk b o e)) (fun _ _ e => e) (fun h' t'' kk hk => ⟨φ₂, σ₂, tt.trans0 (.of_keeps hk), G₂.keeps (s' := { s₂ with heap := h', toks := kk }) hk, _, .str_ _ _, q⟩) hy
  obtain ⟨T, id, h1, h2, h3⟩ := it
  exact tail_any (ops := [_, _]) h2 h1 h3 rfl
theorem R_one0 {σ₀ j2 : List AObj} {ob : AObj} (ho : ob.lt σ₀.length) (q : Q (.ref σ₀.length) (σ₀ ++ [ob])) : retQ σ₀ Q (.ret (.ref σ₀.length)) ρ (σ₀ ++ ob :: j2) := by
  have r := R_one (ρ := ρ) (j1 := ([] : List AObj)) (j2 := j2) (k := σ₀.length) (by simp) ho q
  rw [List.append_nil] at r
  exact r
theorem at_prev {a b : AObj} : (σ ++ [a] ++ [b])[σ.length]? = some a := by rw [List.getElem?_append_left (by simp)]; simp
theorem slice_to {x : Str} {j : Int} (h0 : 0 ≤ j) : Txt.slice x none (some j) = ⟨(x.cps.toList.take j.toNat).toArray⟩ := by
  by_cases hj : j ≤ x.cps.toList.length
  · have := eq_of_beq (slice_closes_to (x := x) ⟨h0, hj⟩)
    rw [this]; simp
  · have hlen : (x.length : Int) < j := by simp [Str.length] at hj ⊢; omega
    unfold Txt.slice
    have hi : (Builtin.Str.strSliceIndices none (some j) 1 x.length).length = x.length := by
      unfold Builtin.Str.strSliceIndices sliceRange
      have h1 : ¬ (j < 0) := by omega
      have e2 : max (0 : Int) (min j (x.length : Int)) = x.length := by omega
      simp only [h1, if_false, e2, show ((1 : Int) > 0) = True from by simp, if_true, List.length_map, List.length_range]
      split <;> omega
    rw [if_pos (by rw [hi]; simp)]
    have : x.cps.toList.take j.toNat = x.cps.toList := List.take_of_length_le (by simp [Str.length] at hlen ⊢; omega)
    rw [this]
theorem slice_from {x : Str} {j : Int} (h0 : 0 ≤ j) (hj : j ≤ x.length) : Txt.slice x (some j) none = ⟨(x.cps.toList.drop j.toNat).toArray⟩ := by
  have := eq_of_beq (slice_closes_fromL (x := x) h0 hj rfl)
  rw [this]
  congr 2
  refine List.take_of_length_le ?_
  simp [Str.length] at hj ⊢; omega
theorem St.nodupKeys {k : Nat} {es : List (Key × V)} {e : Option Nat} (G : St prog w B φ σ s) (hσ : σ[k]? = some (.dict es e)) : (es.map (·.1)).Nodup := by
  obtain ⟨a, ha, kvs, ep, hd, hvs, _⟩ := G.get hσ
  obtain ⟨_, _, _, _, _, _, _, _, hn⟩ := hd.dictOf
  rw [← hvs.keys]; exact hn
theorem X_keys {ss : List Stmt} {Q : Fl → List (Str × V) → List AObj → Prop} {k : Nat} {es : List (Key × V)} {e : Option Nat} (hσ : σ[k]? = some (.dict es e)) (h : (es.map (·.1)).Nodup → WX prog w B A env ss ρ σ Q X) : WX prog w B A env ss ρ σ Q X := fun φ s G L => h (G.nodupKeys hσ) φ s G L
theorem at_get {es : List (Key × V)} (hn : (es.map (·.1)).Nodup) {i : Nat} (hi : i < es.length) : at? es (es[i]).1 = some (es[i]).2 := by
  induction es generalizing i with
  | nil => simp at hi
  | cons p r ih =>
    cases i with
    | zero => simp [at?]
    | succ i =>
      simp only [List.map_cons, List.nodup_cons] at hn
      have hi' : i < r.length := by simpa using hi
      have hne : p.1 ≠ (r[i]).1 := fun e => hn.1 (e ▸ List.mem_map.mpr ⟨r[i], List.getElem_mem _, rfl⟩)
      have := ih hn.2 hi'
      simpa [at?, hne] using this
theorem keyAt_get {es : List (Key × V)} {i : Nat} (hi : i < es.length) : keyAt es i = (es[i]).1.v := by unfold keyAt; rw [List.getD_eq_getElem?_getD, List.getElem?_eq_getElem hi]; rfl
theorem TyV.pin {k : Nat} {es : List (Key × V)} {e : Option Nat} {ep : Nat} {x : V} {T : String} (hσ : σ[k]? = some (.dict es e)) (h : TyV σ x T) : TyV (Mine.pin σ k es ep) x T := by
  cases h with
  | int => exact .int _
  | bool => exact .bool _
  | str => exact .str _
  | none => exact .none
  | tup => exact .tup _
  | @list j xs h => exact .list (xs := xs) (by rw [pin_ne (fun e => by rw [e, hσ] at h; cases h)]; exact h)
  | @dict j es' e' h =>
    by_cases e : j = k
    · subst e; exact .dict (pin_at hσ)
    · exact .dict (es := es') (e := e') (by rw [pin_ne e]; exact h)
theorem TyV.append {x : V} {T : String} (more : List AObj) (h : TyV σ x T) : TyV (σ ++ more) x T := by
  cases h with
  | int => exact .int _
  | bool => exact .bool _
  | str => exact .str _
  | none => exact .none
  | tup => exact .tup _
  | @list j xs h => exact .list (xs := xs) (by rw [List.getElem?_append_left (List.getElem?_eq_some_iff.mp h).1]; exact h)
  | @dict j es' e' h => exact .dict (es := es') (e := e') (by rw [List.getElem?_append_left (List.getElem?_eq_some_iff.mp h).1]; exact h)
end
end Mine

set_option autoImplicit false
set_option linter.unusedVariables false
set_option maxRecDepth 100000
namespace Mine
open PySem PyProof.Rows

/-! list.sort of fewer than 64 items (in S7's place) -/
def sortLine : Nat := 63
theorem sort_size {n : Nat} (h : n ≤ sortLine) : n ≤ sizeLine := Nat.le_trans h (by rw [sizeLine_eq]; decide)
theorem small_sort {n : Nat} (h : n ≤ 63) : n ≤ sortLine := h
section
variable {prog : Program} {w : World} {A : Around} {E : Value → Shared → Prop} {s : Shared}
theorem list_sort_any {κ : KeyKind} (hO : κ.OneLt) {a : Addr} {vs : List Value} {n : Nat} {P : Fin → Shared → Prop} (ho : s.heap.get? a = some (seqObj "list" vs.toArray n))
    (h0 : KeysOf κ (pairsOf vs)) (hkk : ∀ v₁ v₂ rest, vs = v₁ :: v₂ :: rest → keyKind' (v₁ :: v₂ :: rest).toArray = pure oneType') (hn : vs.length ≤ sortLine)
    (h : ∀ st' : SortSt, (arrOf st').Perm (pairsOf vs) → SortedToK κ (arrOf st') (pairsOf vs).size → P (.done (.ret .none)) { s with heap := sortedHeap s.heap a vs ((arrOf st').map (·.2)) }) :
    wpAny (model prog w) A (Builtin.«list.sort» ⟨[.ref a], []⟩) P E s := list_sort_treeK hO ho h0 hkk (Nat.lt_succ_of_le hn) h
end
end Mine

set_option autoImplicit false
set_option linter.unusedVariables false
set_option maxRecDepth 100000
namespace Mine
open PySem PySem.W PySem.Calls PyProof.Rows

section
variable {prog : Program} {w : World} {B : Shared} {mg mb : Str → Option Value} {φ φ' : List Addr} {σ σ' : List AObj} {s s' : Shared} {env : Env} {ρ l : List (Str × V)} {A : Around} {X : XT} {Q : V → List AObj → Prop}

theorem vals_of {h : Heap} : ∀ {xs : List V} {vs : List Value}, vs.length = xs.length → (∀ (i : Nat) (x : V) (v : Value), xs[i]? = some x → vs[i]? = some v → Val φ h x v) → Vals φ h xs vs
  | [], [], _, _ => .nil
  | [], _ :: _, e, _ => by simp at e
  | _ :: _, [], e, _ => by simp at e
  | x :: xs, v :: vs, e, f => .cons (f 0 x v rfl rfl) (vals_of (by simpa using e) fun i y u h1 h2 => f (i + 1) y u h1 h2)

/-- a new list laid somewhere above -/
theorem St.newList {h' : Heap} {tk : Nat} {c : Addr} {xs : List V} {items : Array Value} {n : Nat} (G : St prog w B φ σ s) (hc : s.heap.objs.size ≤ c) (hk : ∀ b o, s.heap.get? b = some o → h'.get? b = some o) (ho : h'.get? c = some { cls := .type "list", data := .seq items n }) (hv : Vals φ h' xs items.toList) :
    Step [] φ s.heap (φ ++ [c]) h' ∧ St prog w B (φ ++ [c]) (σ ++ [.list xs]) { s with heap := h', toks := tk } ∧ Val (φ ++ [c]) h' (.ref σ.length) (.ref c) := by
  have hcφ : c ∉ φ := fun hm => by
    obtain ⟨o, e⟩ := G.there hm
    exact absurd (Heap.lt_size e) (Nat.not_lt.mpr hc)
  have hcs : c ≠ sysModules := fun e => by
    obtain ⟨⟨o, ho⟩, _⟩ := G.sys
    have := Heap.lt_size (G.base _ _ ho)
    rw [e] at hc
    exact absurd (Nat.lt_of_lt_of_le this hc) (by decide)
  refine ⟨Step.alloc (s' := { s with heap := h' }) (get?_of_ge hc) hk, G.alloc (s' := { s with heap := h', toks := tk }) (ob := .list xs) (get?_of_ge hc) hk ⟨items, n, ho, Vals.mono (List.prefix_append _ _) (fun _ _ e _ => e) xs hv⟩ hcφ hcs, ?_⟩
  rw [Val, ← G.len]
  exact ⟨_, rfl, by simp⟩

theorem St.newList2 {h₁ h' : Heap} {tk : Nat} {c : Addr} {xs : List V} {items : Array Value} {n : Nat} (G : St prog w B φ σ s) (hk1 : ∀ b o, s.heap.get? b = some o → h₁.get? b = some o) (hc : h₁.objs.size ≤ c) (hk : ∀ b o, s.heap.get? b = some o → h'.get? b = some o) (ho : h'.get? c = some { cls := .type "list", data := .seq items n }) (hv : Vals φ h' xs items.toList) :
    Step [] φ s.heap (φ ++ [c]) h' ∧ St prog w B (φ ++ [c]) (σ ++ [.list xs]) { s with heap := h', toks := tk } ∧ Val (φ ++ [c]) h' (.ref σ.length) (.ref c) := by
  have hnone : s.heap.get? c = none := by
    cases e : s.heap.get? c with
    | none => rfl
    | some o => exact absurd (Heap.lt_size (hk1 c o e)) (Nat.not_lt.mpr hc)
  have hcφ : c ∉ φ := fun hm => by
    obtain ⟨o, e⟩ := G.there hm
    rw [hnone] at e; cases e
  have hcs : c ≠ sysModules := fun e => by
    obtain ⟨⟨o, ho⟩, _⟩ := G.sys
    have := Heap.lt_size (hk1 _ _ (G.base _ _ ho))
    rw [e] at hc
    exact absurd (Nat.lt_of_lt_of_le this hc) (by decide)
  refine ⟨Step.alloc (s' := { s with heap := h' }) hnone hk, G.alloc (s' := { s with heap := h', toks := tk }) (ob := .list xs) hnone hk ⟨items, n, ho, Vals.mono (List.prefix_append _ _) (fun _ _ e _ => e) xs hv⟩ hcφ hcs, ?_⟩
  rw [Val, ← G.len]
  exact ⟨_, rfl, by simp⟩

theorem St.newListS {s₂ : Shared} {c : Addr} {xs : List V} {items : Array Value} {n : Nat} (G : St prog w B φ σ s) (hc : s.heap.objs.size ≤ c) (hk : ∀ b o, s.heap.get? b = some o → s₂.heap.get? b = some o) (hg : s₂.gens = s.gens) (hos : s₂.os = s.os) (ho : s₂.heap.get? c = some { cls := .type "list", data := .seq items n }) (hv : Vals φ s₂.heap xs items.toList) :
    Step [] φ s.heap (φ ++ [c]) s₂.heap ∧ St prog w B (φ ++ [c]) (σ ++ [.list xs]) s₂ ∧ Val (φ ++ [c]) s₂.heap (.ref σ.length) (.ref c) := by
  obtain ⟨t, G', hv'⟩ := G.newList (tk := s.toks) (h' := s₂.heap) hc hk ho hv
  exact ⟨t, ⟨G'.base, G'.new, G'.nodup, G'.len, G'.objs, hg.trans G.gens, hos.trans G.os, G'.sys⟩, hv'⟩
/-- list(d) -/
theorem C_list_dict {k : Nat} {es : List (Key × V)} {e : Option Nat} (hh : A.handled = none) (hσ : σ[k]? = some (.dict es e)) (hl : es.length ≤ sizeLine) (q : Q (.ref σ.length) (σ ++ [.list (es.map fun p => p.1.v)])) : WC prog w B A (.type "list") [.ref k] σ Q X := fun φ s vs G FR hv => by
  obtain ⟨v, rfl, hx⟩ := hv.one
  obtain ⟨a, rfl, ha⟩ := hx.of_ref
  obtain ⟨a', ha', kvs, ep, hd, hvs, _⟩ := G.get hσ
  rw [ha] at ha'; cases ha'
  refine src_list (src_dict (kvs := kvs) (ep := ep) (G.notSys (List.mem_of_getElem? ha))) hh hd (by rw [hvs.length]; exact hl) fun s' acc c hk hg hos ho hacc => ?_
  have hV : Vals φ s'.heap (es.map fun p => p.1.v) acc.toList := by
    refine vals_of (by rw [hacc.1, hvs.length, List.length_map]) fun i x v hx hv => ?_
    obtain ⟨key, y, h1, h2⟩ := hacc.2 i v hv
    have hk' := congrArg (fun l => l[i]?) hvs.keys
    simp only [List.getElem?_map, h1, Option.map_some] at hk'
    rw [List.getElem?_map] at hx
    cases hp : es[i]? with
    | none => rw [hp] at hx; cases hx
    | some p =>
      rw [hp] at hx hk'
      simp only [Option.map_some, Option.some.injEq] at hx hk'
      subst hx hk'
      exact Key.val h2
  obtain ⟨t, G', hv'⟩ := G.newListS (xs := es.map fun p => p.1.v) (Nat.le_refl _) hk hg hos ho hV
  exact ⟨_, _, t, G', _, hv', q⟩
end

/-! the order of texts -/
def leS (a b : Str) : Bool := !decide (b.cps.toList < a.cps.toList)
def srt (l : List Str) : List Str := l.mergeSort leS
theorem leS_total (a b : Str) : (leS a b || leS b a) = true := by
  unfold leS
  cases h : decide (b.cps.toList < a.cps.toList) with
  | false => rfl
  | true =>
    have := KeyOrd.klt_asymm (O := PyProof.Rows.strKind.toKeyOrd) (a := b.cps.toList) (b := a.cps.toList) h
    have h2 : decide (a.cps.toList < b.cps.toList) = false := this
    rw [h2]; rfl
theorem leS_trans (a b c : Str) (h1 : leS a b = true) (h2 : leS b c = true) : leS a c = true := by
  unfold leS at *
  have e1 : decide (b.cps.toList < a.cps.toList) = false := by simpa using h1
  have e2 : decide (c.cps.toList < b.cps.toList) = false := by simpa using h2
  have := KeyOrd.kle_trans (O := PyProof.Rows.strKind.toKeyOrd) (a := a.cps.toList) (b := b.cps.toList) (c := c.cps.toList) e1 e2
  have e3 : decide (c.cps.toList < a.cps.toList) = false := this
  rw [e3]; rfl
theorem leS_antisymm (a b : Str) (h1 : leS a b = true) (h2 : leS b a = true) : a = b := by
  unfold leS at *
  have e1 : decide (b.cps.toList < a.cps.toList) = false := by simpa using h1
  have e2 : decide (a.cps.toList < b.cps.toList) = false := by simpa using h2
  have := KeyOrd.kle_antisymm (O := PyProof.Rows.strKind.toKeyOrd) (a := a.cps.toList) (b := b.cps.toList) e1 e2
  obtain ⟨⟨x⟩⟩ := a; obtain ⟨⟨y⟩⟩ := b
  simp at this; subst this; rfl
theorem sorted_unique : ∀ {l m : List Str}, l.Perm m → l.Pairwise (fun a b => leS a b = true) → m.Pairwise (fun a b => leS a b = true) → l = m
  | [], m, hp, _, _ => (List.nil_perm.mp hp).symm
  | a :: l, [], hp, _, _ => by have := hp.length_eq; simp at this
  | a :: l, b :: m, hp, h1, h2 => by
    have hab : a = b := by
      rw [List.pairwise_cons] at h1 h2
      rcases List.mem_cons.mp (hp.subset (List.mem_cons_self)) with e | hm
      · exact e
      · rcases List.mem_cons.mp (hp.symm.subset (List.mem_cons_self)) with e | hm'
        · exact e.symm
        · exact leS_antisymm _ _ (h1.1 b hm') (h2.1 a hm)
    subst hab
    rw [sorted_unique (List.Perm.cons_inv hp) (List.pairwise_cons.mp h1).2 (List.pairwise_cons.mp h2).2]
theorem srt_perm (l : List Str) : (srt l).Perm l := List.mergeSort_perm l leS
theorem srt_sorted (l : List Str) : (srt l).Pairwise (fun a b => leS a b = true) := List.pairwise_mergeSort leS_trans leS_total l

theorem ltCps_lt : ∀ a b : List Nat, PySem.Spec.ltCps a b = decide (a < b)
  | [], [] => by simp [PySem.Spec.ltCps]
  | [], b :: t => by simp [PySem.Spec.ltCps]
  | a :: r, [] => by simp [PySem.Spec.ltCps]
  | a :: r, b :: t => by
    rw [PySem.Spec.ltCps, StrLaws.lt_cons_cons, ltCps_lt r t]
theorem risingS_pairwise : ∀ (p : Str) (l : List Str), risingS p l = true → (p :: l).Pairwise (fun a b => leS a b = true)
  | p, [], _ => by simp
  | p, x :: r, h => by
    have h' : (!PySem.Spec.ltCps x.cps.toList p.cps.toList && risingS x r) = true := h
    rw [ltCps_lt, Bool.and_eq_true] at h'
    have ih := risingS_pairwise x r h'.2
    refine List.pairwise_cons.mpr ⟨fun y hy => ?_, ih⟩
    rcases List.mem_cons.mp hy with rfl | hy
    · exact h'.1
    · exact leS_trans p x y h'.1 ((List.pairwise_cons.mp ih).1 y hy)
theorem sortedS_pairwise : ∀ (l : List Str), sortedS l = true → l.Pairwise (fun a b => leS a b = true)
  | [], _ => .nil
  | x :: r, h => risingS_pairwise x r h
theorem sortedS_eq {l m : List Str} (hp : l.Perm m) (h : sortedS l = true) : l = srt m :=
  sorted_unique (hp.trans (srt_perm m).symm) (sortedS_pairwise l h) (srt_sorted m)

section
variable {prog : Program} {w : World} {B : Shared} {φ φ' : List Addr} {σ σ' : List AObj} {s s' : Shared} {A : Around} {X : XT} {Q : V → List AObj → Prop}
theorem strsAre_of : ∀ (l : List (Str × Tok)), StrsAre (strValues l) (l.map (·.1))
  | [] => .nil
  | (x, t) :: r => .cons x t (strsAre_of r)
theorem StrsAre.vals {h : Heap} : ∀ {vs : List Value} {ss : List Str}, StrsAre vs ss → Vals φ h (ss.map V.str) vs
  | _, _, .nil => .nil
  | _, _, .cons x t r => .cons (.str_ _ _) (StrsAre.vals r)
/-- sorted(a list of texts) -/
theorem C_sorted_list {k : Nat} {texts : List Str} (hσ : σ[k]? = some (.list (texts.map V.str))) (hn : texts.length ≤ sortLine) (q : Q (.ref σ.length) (σ ++ [.list ((srt texts).map V.str)])) : WC prog w B A (.builtin "sorted") [.ref k] σ Q X := fun φ s vs G FR hv => by
  obtain ⟨v, rfl, hx⟩ := hv.one
  obtain ⟨a, rfl, ha⟩ := hx.of_ref
  obtain ⟨a', ha', vs, n, ho, hvs⟩ := G.get hσ
  rw [ha] at ha'; cases ha'
  obtain ⟨l, hl, ht⟩ := vals_strs hvs
  have hS : StrsAre vs.toList texts := by rw [hl, ← ht]; exact strsAre_of l
  have hlen : vs.toList.length = texts.length := by simpa using hvs.length
  have hn' : vs.toList.length ≤ sortLine := by rw [hlen]; exact hn
  have hn'' : vs.toList.length ≤ sizeLine := sort_size hn'
  refine Calls.call_function_entry kind_sorted plain_sorted entry_sorted (args_sorted1 _) ?_
  unfold Builtin.«sorted»
  refine wpAny_bind (m := checkCount "sorted" 1 1 _) (wpAny_pure ?_)
  refine wpAny_bind (collect_list (l := a) (vs := vs.toList) ⟨_, ho, rfl, n, by simp⟩ ?_)
  refine wpAny_bind (wpAny_newList ?_ (sort_size hn'))
  have hsz : ((s.heap.push (seqObj "list" #[] 0)).update s.heap.objs.size (Obj.mapSeq (· ++ vs.toList.toArray))).objs.size = s.heap.objs.size + 1 := by
    rw [Heap.size_update, size_push']
  have hoL : (((s.heap.push (seqObj "list" #[] 0)).update s.heap.objs.size (Obj.mapSeq (· ++ vs.toList.toArray))).push (seqObj "list" vs.toList.toArray 0)).get? (s.heap.objs.size + 1) = some (seqObj "list" vs.toList.toArray 0) := by
    rw [← hsz]; exact Heap.get?_push_size _ rfl
  show wpAny _ _ _ _ _ { s with heap := ((s.heap.push (seqObj "list" #[] 0)).update s.heap.objs.size (Obj.mapSeq (· ++ vs.toList.toArray))).push (seqObj "list" vs.toList.toArray 0) }
  rw [hsz]
  refine wpAny_bind (wpAny_holding (wpAny_call_entry slot_list_sort ⟨_, hoL, rfl⟩ entry_list_sort (list_sort_any strKind_oneLt hoL hS.keysOf (fun v₁ v₂ rest e => keyKind_strs (by rw [← e]; exact hS)) hn' fun st' hp hs => ⟨_, rfl, ?_⟩) (args_list_sort _)))
  obtain ⟨ss', a1, a2, a3⟩ := sorted_out_str hS hp hs
  have e := sortedS_eq a2 a3
  subst e
  refine wpAny_pure ⟨_, rfl, ?_⟩
  obtain ⟨ep, he⟩ := sortedAll_at s.heap vs.toList ((arrOf st').map (·.2))
  obtain ⟨t, G', hv'⟩ := G.newList (tk := s.toks) (c := s.heap.objs.size + 1) (xs := (srt texts).map V.str) (items := (arrOf st').map (·.2)) (n := ep) (Nat.le_succ _) (fun b o eo => sortedAll_old eo) he (StrsAre.vals a1)
  exact ⟨_, _, t, G', _, hv', q⟩

def keyS : Key → Str
  | .s x => x
  | .i _ => ⟨#[]⟩
theorem srt_congr {l m : List Str} (h : l.Perm m) : srt l = srt m := sorted_unique ((srt_perm l).trans (h.trans (srt_perm m).symm)) (srt_sorted l) (srt_sorted m)
/-- sorted(a source of texts) -/
theorem sorted_src {T : String} {r : Addr} {n : Nat} {Good : List Value → Prop} {OK : Heap → Prop} {ss : List Str} (K : Src prog w T r n Good OK) (hh : A.handled = none) (G : St prog w B φ σ s) (hok : OK s.heap) (hn : n ≤ sortLine) (hlen : ss.length = n)
    (hgood : ∀ vs, Good vs → ∃ l, StrsAre vs l ∧ l.Perm ss) (q : Q (.ref σ.length) (σ ++ [.list ((srt ss).map V.str)])) :
    wpAny (model prog w) A (call (.builtin "sorted") [.ref r]) (Post prog w B [] φ s (vQ Q)) (Post prog w B [] φ s X) s := by
  refine Calls.call_function_entry kind_sorted plain_sorted entry_sorted (args_sorted1 _) ?_
  unfold Builtin.«sorted»
  refine wpAny_bind (m := checkCount "sorted" 1 1 _) (wpAny_pure ?_)
  refine wpAny_bind (src_collect (A := A.in1) K hh hok (sort_size hn) fun s₁ acc hk hg₁ ho₁ hacc => ?_)
  obtain ⟨l, hS, hperm⟩ := hgood acc hacc
  have hl : acc.length ≤ sortLine := by rw [StrsAre.length hS, hperm.length_eq, hlen]; exact hn
  refine wpAny_bind (wpAny_newList ?_ (sort_size hl))
  have hoL : (s₁.heap.push { cls := .type "list", data := .seq acc.toArray }).get? s₁.heap.objs.size = some (seqObj "list" acc.toArray 0) := Heap.get?_push_size _ rfl
  refine wpAny_bind (wpAny_holding (wpAny_call_entry slot_list_sort ⟨_, hoL, rfl⟩ entry_list_sort (list_sort_any strKind_oneLt hoL hS.keysOf (fun v₁ v₂ rest e => keyKind_strs (by rw [← e]; exact hS)) hl fun st' hp hs => ⟨_, rfl, ?_⟩) (args_list_sort _)))
  obtain ⟨ss', a1, a2, a3⟩ := sorted_out_str hS hp hs
  have e := sortedS_eq a2 a3
  rw [srt_congr hperm] at e
  subst e
  refine wpAny_pure ⟨_, rfl, ?_⟩
  obtain ⟨e2, he⟩ := sortedHeap_at (vs := acc) (out := (arrOf st').map (·.2)) hoL
  have hkeep : ∀ b o, s.heap.get? b = some o → (sortedHeap (s₁.heap.push { cls := .type "list", data := .seq acc.toArray }) s₁.heap.objs.size acc ((arrOf st').map (·.2))).get? b = some o := fun b o eo => by
    have hlt := Heap.lt_size (hk b o eo)
    rw [sortedHeap_old (Nat.ne_of_lt hlt) (by rw [size_push']; exact Nat.lt_succ_of_lt hlt)]
    exact Heap.get?_push_of_some _ (hk b o eo)
  obtain ⟨t, G', hv'⟩ := G.newList2 (tk := s₁.toks) (xs := (srt ss).map V.str) hk (Nat.le_refl _) hkeep he (StrsAre.vals a1)
  exact ⟨_, _, t, ⟨G'.base, G'.new, G'.nodup, G'.len, G'.objs, hg₁.trans G.gens, ho₁.trans G.os, G'.sys⟩, _, hv', q⟩
theorem keys_strs : ∀ {vs : List Value} {es : List (Key × V)}, vs.length = es.length → (∀ p ∈ es, ∃ x, p.1 = Key.s x) → (∀ (j : Nat) (v : Value) (p : Key × V), vs[j]? = some v → es[j]? = some p → p.1.is v = true) → StrsAre vs (es.map fun p => keyS p.1)
  | [], [], _, _, _ => .nil
  | [], _ :: _, e, _, _ => by simp at e
  | _ :: _, [], e, _, _ => by simp at e
  | v :: vs, p :: es, e, h1, h2 => by
    obtain ⟨x, hp⟩ := h1 p (.head _)
    have hv := h2 0 v p rfl rfl
    rw [hp] at hv
    rcases Key.is_shape hv with ⟨y, t, e1, rfl⟩ | ⟨y, t, e1, rfl⟩
    · cases e1
      rw [List.map_cons, hp]
      exact .cons _ _ (keys_strs (by simpa using e) (fun q hq => h1 q (.tail _ hq)) fun j u q a b => h2 (j + 1) u q a b)
    · cases e1
/-- sorted(a dict of texts) -/
theorem C_sorted_dict {k : Nat} {es : List (Key × V)} {ep : Option Nat} (hh : A.handled = none) (hσ : σ[k]? = some (.dict es ep)) (hes : ∀ p ∈ es, ∃ x, p.1 = .s x) (h64 : es.length ≤ sortLine) (q : Q (.ref σ.length) (σ ++ [.list ((srt (es.map fun p => keyS p.1)).map V.str)])) :
    WC prog w B A (.builtin "sorted") [.ref k] σ Q X := fun φ s vs G FR hv => by
  obtain ⟨v, rfl, hx⟩ := hv.one
  obtain ⟨a, rfl, ha⟩ := hx.of_ref
  obtain ⟨a', ha', kvs, ep', hd, hvs, _⟩ := G.get hσ
  rw [ha] at ha'; cases ha'
  refine sorted_src (src_dict (kvs := kvs) (ep := ep') (G.notSys (List.mem_of_getElem? ha))) hh G hd (by rw [hvs.length]; exact h64) (by rw [List.length_map, hvs.length]) (fun vs hg => ⟨_, keys_strs (by rw [hg.1, hvs.length]) hes fun j v p h1 h2 => ?_, .refl _⟩) q
  obtain ⟨key, y, h3, h4⟩ := hg.2 j v h1
  obtain ⟨u, h5, _⟩ := hvs.get h2
  rw [h3] at h5; cases h5
  exact h4
end
end Mine

set_option autoImplicit false
set_option linter.unusedVariables false
set_option maxRecDepth 100000
namespace Mine
open PySem PySem.W PySem.Calls PyProof.Rows
open AutoSeq1 (wpAny_loadPart')

/-! enumerate(a dict) -/
section
variable {prog : Program} {w : World} {A : Around} {E : Value → Shared → Prop} {s : Shared}

end

section
variable {prog : Program} {w : World} {A : Around} {E : Value → Shared → Prop} {s : Shared}
end
end Mine

set_option autoImplicit false
set_option linter.unusedVariables false
set_option maxRecDepth 100000
namespace Mine
open PySem PySem.W PySem.Calls PyProof.Rows

section
variable {prog : Program} {w : World} {B : Shared} {mg mb : Str → Option Value} {φ φ' : List Addr} {σ σ' : List AObj} {s s' : Shared} {env : Env} {ρ l : List (Str × V)} {A : Around} {X : XT} {Q : V → List AObj → Prop}

theorem Loc.butL {h h' : Heap} {own : List Addr} (L : Loc A B env ρ φ h) (hs : ∀ b o, b ∉ own → h.get? b = some o → h'.get? b = some o) (hc : ∀ c ∈ own, c ∉ fr env) (hn : ∀ c ∈ own, ∀ o, h.get? c = some o → ¬ Still o) (hd : ∀ c ∈ own, ∀ o, h.get? c = some o → NoD o) : Loc A B env ρ φ h' := by
  have hk : ∀ a ∈ fr env, ∀ o, h.get? a = some o → ∃ o', h'.get? a = some o' ∧ Sim o o' := fun a ha o e => ⟨o, hs a o (fun h => hc a h ha) e, .refl o⟩
  refine ⟨L.kind, L.glob, L.blt, ?_, L.own, fun x d hm => ?_, L.apart, fun x v hx => ?_, L.frs.thru (fun _ h => .inl h) fun a o es n e hdt _ => ⟨o, es, n, hs a o (fun h => hd a h o e es n hdt) e, hdt⟩, L.top⟩
  · obtain ⟨m, n⟩ := L.ns; exact ⟨m, Ns.upTo n (hk _ (.head _))⟩
  · obtain ⟨v, n⟩ := L.cells x d hm; exact ⟨v, IsCell.upTo n (hk _ (mem_fr_cell hm))⟩
  · obtain ⟨val, hb, hv⟩ := L.val x v hx
    refine ⟨val, ?_, Val.mono (List.prefix_refl _) (fun a o e hst => hs a o (fun h => hn a h o e hst) e) v hv⟩
    rcases hb with ⟨k, m, n, e⟩ | ⟨k, d, e, n⟩
    · exact .inl ⟨k, m, Ns.upTo n (hk _ (.head _)), e⟩
    · exact .inr ⟨k, d, e, IsCell.upTo n (hk _ (mem_fr_cell (mem_of_lookup e)))⟩

theorem Step.at {c : Addr} {o : Obj} {h h' : Heap} {D : List Addr} (t : Step D φ h φ' h') (e : h.get? c = some o) (h1 : c ∉ φ) (h2 : c ∉ D) (hc : NoD o) : h'.get? c = some o ∧ c ∉ φ' := by
  obtain ⟨o', e', hs'⟩ := t.keep c o e h1 h2
  rw [hs'.same hc] at e'
  refine ⟨e', fun hm => ?_⟩
  rcases t.fresh c hm with h3 | h3
  · exact h1 h3
  · rw [h3] at e; cases e

end
end Mine

set_option autoImplicit false
set_option linter.unusedVariables false
set_option maxRecDepth 100000
namespace Mine
open PySem PySem.W PySem.Calls PyProof.Rows

section
variable {prog : Program} {w : World} {B : Shared} {mg mb : Str → Option Value} {φ φ' : List Addr} {σ σ' : List AObj} {s s' : Shared} {env : Env} {ρ l : List (Str × V)} {A : Around} {X : XT} {Q : V → List AObj → Prop}

theorem pin_get {j k : Nat} {es es' : List (Key × V)} {e e' : Option Nat} {ep : Nat} (hj : σ[j]? = some (.dict es' e')) (hk : σ[k]? = some (.dict es e)) : ∃ e'', (pin σ k es ep)[j]? = some (.dict es' e'') := by
  by_cases h : j = k
  · subst h; rw [hj] at hk; cases hk; exact ⟨_, pin_at hj⟩
  · exact ⟨e', by rw [pin_ne h]; exact hj⟩
theorem up_at {k : Nat} {x : AObj} {more : List AObj} (h : σ[k]? = some x) : (σ ++ more)[k]? = some x := by rw [List.getElem?_append_left (List.getElem?_eq_some_iff.mp h).1]; exact h
theorem at_end' {a b x : AObj} : (σ ++ [a] ++ [b])[(σ ++ [x]).length]? = some b := by simp
theorem S_l0 {value slice : Expr} {k : Nat} {x : V} {xs : List V} (hσ : σ[k]? = some (.list (x :: xs))) (q : Q x σ) (hs : PlainSlice slice := by with_unfolding_all exact fun _ _ => rfl) : WSub prog w B A value slice (.ref k) (.int 0) σ Q X :=
  S_list hσ (by omega) (by simp only [List.length_cons]; omega) (by omega) q hs
theorem S_l1 {value slice : Expr} {k : Nat} {x y : V} {xs : List V} (hσ : σ[k]? = some (.list (y :: x :: xs))) (q : Q x σ) (hs : PlainSlice slice := by with_unfolding_all exact fun _ _ => rfl) : WSub prog w B A value slice (.ref k) (.int 1) σ Q X :=
  S_list hσ (by omega) (by simp only [List.length_cons]; omega) (by omega) q hs
theorem O_eq_pair {a b c d : Int} (hu : A.units + 100 < cLine) (q : Q (.bool (decide (a = c ∧ b = d))) σ) : W2 prog w B A (compareOp .Eq) (.tup [.int a, .int b]) (.tup [.int c, .int d]) σ Q X := by
  refine O_eqd (.tup (.cons (.int _) (.cons (.int _) .nil))) (.tup (.cons (.int _) (.cons (.int _) .nil))) rfl rfl (by have : min (PyData.tuple [.int a, .int b]).depth (PyData.tuple [.int c, .int d]).depth ≤ 100 := (by simp [PyData.depth, PyData.depthAll]); omega) ?_
  have e : PyData.eqv (.tuple [.int a, .int b]) (.tuple [.int c, .int d]) = decide (a = c ∧ b = d) := by simp [PyData.eqv, PyData.eqvAll]; rfl
  rw [e]; exact q
theorem dats_strs : ∀ l : List Str, Dats σ (l.map V.str) (l.map PyData.str)
  | [] => .nil
  | x :: r => .cons (.str x) (dats_strs r)
theorem eqvAll_strs : ∀ l : List Str, PyData.eqvAll (l.map PyData.str) (l.map PyData.str) = true
  | [] => by simp [PyData.eqvAll]
  | x :: r => by simp [PyData.eqvAll, PyData.eqv, eqvAll_strs r]
theorem depth_strs : ∀ l : List Str, PyData.depthAll (l.map PyData.str) ≤ 1
  | [] => by simp [PyData.depthAll]
  | x :: r => by have := depth_strs r; simp [PyData.depthAll, PyData.depth]; omega
theorem canLay_strs : ∀ l : List Str, (∀ x ∈ l, PyData.strOk x = true) → PyData.canLayAll0 (l.map PyData.str) = true
  | [], _ => by simp [PyData.canLayAll0]
  | x :: r, h => by
    have h1 := h x (.head _)
    have h2 := canLay_strs r fun y hy => h y (.tail _ hy)
    simp [PyData.canLayAll0, PyData.canLay0, h1, h2]
/-- two lists of the same texts -/
theorem O_ne_strs {j k : Nat} {l : List Str} (hj : σ[j]? = some (.list (l.map V.str))) (hk : σ[k]? = some (.list (l.map V.str))) (hl : ∀ x ∈ l, PyData.strOk x = true) (hn : l.length ≤ sizeLine) (hu : A.units + 100 < cLine) (q : Q (.bool false) σ) : W2 prog w B A (compareOp .NotEq) (.ref j) (.ref k) σ Q X := by
  have hd := depth_strs l
  have c : (PyData.list (l.map PyData.str)).canLay0 = true := by simp only [PyData.canLay0]; exact canLay_strs l hl
  refine O_ned (.list hj (dats_strs l)) (.list hk (dats_strs l)) c c (by simp only [Nat.min_self, PyData.depth]; omega) ?_
  simp only [PyData.eqv, eqvAll_strs]
  exact q
end
end Mine

set_option autoImplicit false
set_option linter.unusedVariables false
set_option maxRecDepth 100000
namespace Mine
open PySem PySem.W PySem.Calls PyProof.Rows

/-! the walk through a set of texts -/
section
variable {prog : Program} {w : World} {A : Around} {E : Value → Shared → Prop} {s : Shared} {a I : Addr} {es : Array (Int × Value)} {ep : Nat} {t : SetTable}

end
end Mine

set_option autoImplicit false
set_option linter.unusedVariables false
set_option maxRecDepth 100000
namespace Mine
open PySem PySem.W PySem.Calls PyProof.Rows

section
variable {prog : Program} {w : World} {A : Around} {E : Value → Shared → Prop} {s : Shared} {a I T : Addr} {es : Array (Int × Value)} {ep : Nat} {t : SetTable} {i : Nat}

end
end Mine

set_option autoImplicit false
set_option linter.unusedVariables false
set_option maxRecDepth 100000
namespace Mine
open PySem PySem.W PySem.Calls PyProof.Rows

section
variable {prog : Program} {w : World} {A : Around} {E : Value → Shared → Prop} {s : Shared} {a I T : Addr} {es : Array (Int × Value)} {ep : Nat} {t : SetTable}

end

section
variable {prog : Program} {w : World} {a : Addr} {ss : List Str}
end
end Mine

set_option autoImplicit false
set_option linter.unusedVariables false
set_option maxRecDepth 100000
namespace Mine
open PySem PySem.W PySem.Calls PyProof.Rows

section
variable {prog : Program} {w : World} {A : Around} {E : Value → Shared → Prop} {s : Shared}

/-- the object that set() makes -/
def newSetObj (w : World) : Obj := { cls := .type "set", dict := none, data := .set #[] 0 (.fresh 0 0 (!byText w)) }
theorem newSet_S {h : Heap} {a : Addr} (e : h.get? a = some (newSetObj w)) : SetS w h a [] :=
  ⟨_, #[], 0, _, e, ⟨rfl, rfl, rfl⟩, rfl, fun e he => by simp at he, .refl _, by decide, by rfl, rfl, .inl rfl⟩
theorem code_set_new (a : Value) {Q₁ : Value → Shared → Prop} (h : Q₁ (.ref s.heap.objs.size) { s with heap := s.heap.push (newSetObj w) }) :
    codeAny (model prog w) A (.call (.builtin "set.__new__") ⟨[.type "set", a], []⟩) (wants Q₁ E) s := by
  refine codeAny_of_tree ?_
  show wpAny _ A.in1 (do checkBuiltinCall "set.__new__" ⟨[.type "set", a], []⟩; again (.builtin "set.__new__" ⟨[.type "set", a], []⟩)) _ _ s
  refine wpAny_bind (wpAny_of_eq (PySem.F.newCall_set_1 a) (wpAny_pure ⟨plainId_quiet PySem.F.plain_set_new _, codeAny_builtin PySem.F.entry_set_new ?_⟩))
  rw [Around.under_plainId PySem.F.plain_set_new _]
  unfold Builtin.«set.__new__» Builtin.Frozenset.newClass
  have hsub := sub_set_self
  obtain ⟨hp, g, d, tk, os⟩ := s
  dsimp only
  wp_walk
  refine wpAny_askSetting (wpAny_pure ?_)
  dsimp only
  simp only [newObj]
  refine wpAny_bind (wpAny_alloc (wpAny_pure ?_))
  exact wpAny_pure h

set_option maxHeartbeats 3200000 in
/-- set(a list of texts) -/
theorem call_set_strs {l : Addr} {items : Array Value} {ts : List Str} {Q : Value → Shared → Prop}
    (hh : A.handled = none) (hl : s.heap.IsList l items) (hi : ∀ (i : Nat) (v : Value), items[i]? = some v → ∃ t, v = .str (ts.getD i ⟨#[]⟩) t) (hb : items.size + 1 < scanBound)
    (h : ∀ (h' : Heap) (tk : Nat), SetS w h' s.heap.objs.size (firstS (fun i => ts.getD i ⟨#[]⟩) items.size) →
      (∀ b o, b < s.heap.objs.size → s.heap.get? b = some o → h'.get? b = some o) → Q (.ref s.heap.objs.size) { s with heap := h', toks := tk }) :
    wpAny (model prog w) A (call (.type "set") [.ref l]) Q E s := by
  obtain ⟨c, tl, hmro⟩ := PySem.F.called_set.mro
  have hmade := PySem.F.called_set.made
  have hsub := PySem.F.called_set.sub
  refine wpAny_call (codeAny_of_tree ?_)
  show wpAny _ _ (callAny (.type "set") _) _ _ _
  refine wpAny_pure ⟨Code.quiet_builtin _ (by decide +kernel), codeAny_builtin PySem.F.entry_type_call ?_⟩
  rw [Around.under_plain (weight_type_call_type "set" [.ref l] []) rfl]
  have h1 := PySem.F.called_set.notType
  have h2 := PySem.F.called_set.canCreate
  have hct := PySem.F.typeCall_set_1 (.ref l)
  repeat (any_goals (first | assumption | wp_step))
  refine codeAny_mono (code_set_new (.ref l) (E := E) (Q₁ := fun obj s₁ => obj = .ref s.heap.objs.size ∧ s₁ = { s with heap := s.heap.push (newSetObj w) }) ⟨rfl, rfl⟩) fun r s₁ hr => ?_
  cases r with
  | error e => exact hr
  | ok fl =>
    cases fl with
    | ret obj =>
      obtain ⟨rfl, rfl⟩ := hr
      have hS : (s.heap.push (newSetObj w)).get? s.heap.objs.size = some (newSetObj w) := Heap.get?_push_size _ rfl
      have hT : Shared.TypeIs { s with heap := s.heap.push (newSetObj w) } (.ref s.heap.objs.size) "set" := ⟨_, hS, rfl⟩
      have hli := PySem.F.called_set.init.lookup
      have hbi := PySem.F.called_set.init.bind (.ref s.heap.objs.size)
      repeat (any_goals (first | assumption | wp_step))
      refine codeAny_mono (codeAny_call_builtin (R := wants (fun r s₂ => r = .none ∧ ∃ h' tk, s₂ = { s with heap := h', toks := tk } ∧ SetS w h' s.heap.objs.size (firstS (fun i => ts.getD i ⟨#[]⟩) items.size) ∧
          (∀ b o, b < s.heap.objs.size → s.heap.get? b = some o → h'.get? b = some o)) E) PySem.F.called_set.init.plain PySem.F.entry_set_init (check_set_init_1 hT ?_)) fun r₂ s₂ hr₂ => ?_
      · obtain ⟨ol, hol, hcl, nl, hdl⟩ := hl
        obtain ⟨ocls, odict, odata, oslots⟩ := ol
        simp only at hcl hdl
        subst hcl; subst hdl
        have hol' : (s.heap.push (newSetObj w)).get? l = some { cls := .type "list", dict := odict, data := .seq items nl, slots := oslots } := Heap.get?_push_of_some _ hol
        have hsls := PySem.F.sub_list_set
        have hslf := PySem.F.sub_list_frozenset
        have hne : (Value.type "list" == Value.type "dict") = false := by decide
        have hl1 : (s.heap.push (newSetObj w)).IsList l items := ⟨_, hol', rfl, nl, rfl⟩
        unfold newSetObj at hol' hS hl1 hT ⊢
        unfold Builtin.«set.__init__» noKeywords Builtin.Frozenset.updateFrom
        generalize hPI : pyIter = PI
        wp_walk
        subst hPI
        refine wpAny_pyIter_list hl1 ?_
        refine wpAny_bind (wpAny_runValue ?_)
        have hlS : l < s.heap.objs.size := Heap.lt_size hol
        have hh3 : A.in1.in1.in1.handled = none := by simp [hh]
        have hz : (s.heap.push { cls := .type "set", dict := none, data := .set #[] 0 (.fresh 0 0 (!byText w)) }).objs.size = s.heap.objs.size + 1 := Heap.size_push ..
        have hneI : l ≠ (s.heap.push { cls := .type "set", dict := none, data := .set #[] 0 (.fresh 0 0 (!byText w)) }).objs.size := by
          rw [hz]; exact Nat.ne_of_lt (Nat.lt_succ_of_lt hlS)
        have hSf : s.heap.objs.size ∉ [(s.heap.push { cls := .type "set", dict := none, data := .set #[] 0 (.fresh 0 0 (!byText w)) }).objs.size, l] := by
          rw [hz]; simp only [List.mem_cons, List.mem_singleton, List.not_mem_nil, or_false, not_or]
          exact ⟨Nat.ne_of_lt (Nat.lt_succ_self _), Nat.ne_of_gt hlS⟩
        refine set_update_S ((Walks.list hh3 _ l hneI items).toS) s.heap.objs.size hSf (fun i => ts.getD i ⟨#[]⟩) hi hb (items.size - 0) 0 _ (by omega) (Nat.zero_le _)
          ⟨⟨_, Heap.get?_push_size _ rfl, rfl, rfl⟩, (hl1.push _)⟩ (newSet_S (Heap.get?_push_of_some _ hS)) fun s' hm hS' => ?_
        obtain ⟨h', g', d', tk', os'⟩ := s'
        have eg : g' = s.gens := hm.gens
        have ed : d' = s.drawn := hm.drawn
        have eo : os' = s.os := hm.os
        subst eg; subst ed; subst eo
        show wpAny _ _ _ _ _ _
        refine wpAny_pure ?_
        show wpAny _ _ (ret Value.none) _ _ _
        refine wpAny_pure ⟨rfl, h', tk', rfl, hS', fun b o hb e => ?_⟩
        have hb1 : b ≠ s.heap.objs.size := Nat.ne_of_lt hb
        have hb2 : b ≠ (s.heap.push { cls := .type "set", dict := none, data := .set #[] 0 (.fresh 0 0 (!byText w)) }).objs.size := by
          rw [hz]; exact Nat.ne_of_lt (Nat.lt_succ_of_lt hb)
        exact hm.heap b o (by simp only [List.mem_cons, List.mem_singleton, List.not_mem_nil, or_false, not_or]; exact ⟨hb1, hb2⟩) (Heap.get?_push_of_some _ (Heap.get?_push_of_some _ e))
      · cases r₂ with
        | error e => exact hr₂
        | ok fl₂ =>
          cases fl₂ with
          | ret r =>
            obtain ⟨rfl, h', tk, rfl, hS', hk'⟩ := hr₂
            repeat (any_goals (first | assumption | wp_step))
            exact h _ _ hS' hk'
          | _ => exact hr₂.elim
    | _ => exact hr.elim
end

section
variable {prog : Program} {w : World} {B : Shared} {φ φ' : List Addr} {σ σ' : List AObj} {s s' : Shared} {A : Around} {X : XT} {Q : V → List AObj → Prop}
end
end Mine

set_option autoImplicit false
set_option linter.unusedVariables false
set_option maxRecDepth 100000
namespace Mine
open PySem PySem.W PySem.Calls PyProof.Rows

section
variable {prog : Program} {w : World} {B : Shared} {mg mb : Str → Option Value} {φ φ' : List Addr} {σ σ' : List AObj} {s s' : Shared} {env : Env} {ρ l : List (Str × V)} {A : Around} {X : XT} {Q : V → List AObj → Prop}

end
end Mine

set_option autoImplicit false
set_option linter.unusedVariables false
set_option maxRecDepth 100000
namespace Mine
open PySem PySem.W PySem.Calls PyProof.Rows

section
variable {prog : Program} {w : World} {B : Shared} {mg mb : Str → Option Value} {φ φ' : List Addr} {σ σ' : List AObj} {s s' : Shared} {env : Env} {ρ l : List (Str × V)} {A : Around} {X : XT} {Q : V → List AObj → Prop}

/-- an instance and its table -/
theorem St.inst {k kn : Nat} {C : Addr} {as : List (Str × V)} {a : Addr} (G : St prog w B φ σ s) (h1 : σ[k]? = some (.inst C kn)) (h2 : σ[kn]? = some (.ns as)) (ha : φ[k]? = some a) :
    ∃ d es n, φ[kn]? = some d ∧ s.heap.get? a = some ⟨.ref C, some d, .plain, #[]⟩ ∧ s.heap.get? d = some ⟨.type "dict", none, .dict es n, #[]⟩ ∧ StrKeys es ∧ es.size ≤ as.length ∧
      (∀ x, match as.lookup x with | some v => ∃ val, nsFind es x = some val ∧ Val φ s.heap v val | none => nsFind es x = none) ∧
      InstAt s.heap a ⟨.ref C, some d, .plain, #[]⟩ C (some ⟨.type "dict", none, .dict es n, #[]⟩) := by
  obtain ⟨a', ha', d, ho, hd⟩ := G.get h1
  rw [ha] at ha'; cases ha'
  obtain ⟨d', hd', es, n, hod, hk, hsz, hl⟩ := G.get h2
  rw [hd] at hd'; cases hd'
  exact ⟨d, es, n, hd, ho, hod, hk, hsz, hl, ho, rfl, rfl, hod⟩

/-! reading an attribute -/
/-! setting an attribute -/
/-! calls of methods of a class -/
/-! contracts of methods -/
theorem Post.clean {a : Value} (G : St prog w B φ σ s) (h : Post prog w B [] φ s (vQ (Clean σ Q)) a s') : Post prog w B [] φ s (vQ Q) a s' := by
  obtain ⟨φ', σ', t, G', x, hx, c⟩ := h
  cases c with
  | all q => exact ⟨φ', σ', t, G', x, hx, q⟩
  | none hl q =>
    exact ⟨φ, σ, ⟨List.prefix_refl _, fun _ h => .inl h, t.keep⟩, G'.trunc t.pre G.len G.closed, x, Val.cut t.pre x (G.len ▸ hl) hx, q⟩
  | @one j1 j2 ob k hk hl q =>
    obtain ⟨c, hc, hcφ, G''⟩ := G'.pick t.pre G.len G.closed hl
    have hcm : c ∈ φ' := List.mem_of_getElem? hc
    refine ⟨φ ++ [c], σ ++ [ob], ⟨List.prefix_append _ _, fun a ha => (List.mem_append.mp ha).imp id fun h => ?_, t.keep⟩, G'', .ref σ.length, ?_, q⟩
    · obtain rfl := List.mem_singleton.mp h
      exact (t.fresh a hcm).resolve_left hcφ
    · rw [Val] at hx ⊢
      obtain ⟨a, rfl, ha⟩ := hx
      rw [hk, hc] at ha; cases ha
      exact ⟨c, rfl, by rw [← G.len]; simp⟩
end
end Mine

set_option autoImplicit false
set_option linter.unusedVariables false
set_option maxRecDepth 100000
namespace Mine
open PySem PySem.W PySem.Calls PyProof.Rows

/-- the built-in tail of the own exceptions -/
def vErr : List Value := [.type "ValueError", .type "Exception", .type "BaseException", .type "object"]
/-- an own exception class -/
def ExcO (B : Shared) (C : Addr) (bm : List Value) : Prop :=
  (∃ o, B.heap.get? sysModules = some o) ∧ ∃ N nm q bs hdct sn sub ab col dd k0 k1 k2 k3 k5 mN, B.heap.get? C = some (excClassObj nm q C N bs bm hdct sn sub ab col dd k0 k1 k2 k3 k5 "ValueError.__new__") ∧ B.heap.Ns N mN ∧ mN "__init__" = none ∧ OwnTail B.heap vErr bm

section
variable {prog : Program} {w : World} {B : Shared} {mg mb : Str → Option Value} {φ φ' : List Addr} {σ σ' : List AObj} {s s' : Shared} {env : Env} {ρ l : List (Str × V)} {A : Around} {X : XT} {Q : V → List AObj → Prop} {R : Addr → List AObj → Prop}

theorem xQ.mono {R' : Addr → List AObj → Prop} (h : ∀ C τ, R C τ → R' C τ) {e : Value} (x : xQ R e φ σ s) : xQ R' e φ σ s := by
  obtain ⟨C, t, τ, junk, a, h1, h2, h3, h4, h5⟩ := x
  exact ⟨C, t, τ, junk, a, h1, h2, h3, h4, h _ _ h5⟩

/-- an expression that may raise, in a frame whose names stand -/
theorem E_x {e : Expr} (hs : Sub l ρ) (h : WE prog w B A env e ρ σ Q (xQ R)) : WE prog w B A env e ρ σ Q (xL A B env l (xQ R)) := fun φ s G L =>
  wpAny_mono (h φ s G L) (fun _ _ x => x) fun e s' hx => by
    obtain ⟨φ', σ', t, G', x⟩ := hx
    exact ⟨φ', σ', t, G', x, (L.step G t).sub hs⟩

/-- raise C(..) -/
theorem X_raise {x : Str} {np cpos pos : Pos} {es : List Expr} {rest : List Stmt} {C : Addr} {bm : List Value} {Q : Fl → List (Str × V) → List AObj → Prop} (O : ExcO B C bm) (g : GC B mg x (.raw (.ref C))) (hh : A.handled = none) (hs : Sub l ρ)
    (h : WEs prog w B A env es ρ σ (fun xs σ₁ => xs.length ≤ sizeLine ∧ R C σ₁) (xL A B env l (xQ R)))
    (hx : env.kindOf x = some .globalImplicit := by kernel_rfl!)
    (hp : ∀ pos, (backTo pos (starEach es env)).any (·.1) = false := by intro _; with_unfolding_all rfl)
    (hd : (x == ("__debug__" : Str)) = false := by decide +kernel) :
    WX prog w B A env (.Raise (some (.Call (.Name x np) es [] cpos)) none pos :: rest) ρ σ Q (xL A B env l (xQ R)) := X_cons fun φ s G L => by
  obtain ⟨⟨osys, hsys⟩, N, nm, q, bs, hdct, sn, sub, ab, col, dd, k0, k1, k2, k3, k5, mN, hC, hN, hni, T⟩ := O
  obtain ⟨hg, v, hv, hval⟩ := g
  obtain rfl := hval.of_raw
  refine wpAny_Raise_call_subT (C := C) (nm := nm) (q := q) (N := N) (bs := bs) (bm := bm) (hdct := hdct) (sn := sn) (sub := sub) (ab := ab) (col := col) (dd := dd) (k0 := k0) (k1 := k1) (k2 := k2) (k3 := k3) (k5 := k5)
    F.excBase_ValueError (mN := mN) (T.hasType (by decide)) hh (hp cpos) hni ?_
  have hname : WE prog w B A env (.Name x np) ρ σ (fun y σ₁ => y = .raw (.ref C) ∧ σ₁ = σ) (fun _ _ _ _ => False) := E_global hg hv (.raw_ _) hx ⟨rfl, rfl⟩ hd
  refine wpAny_mono (hname φ s G L) (fun v s₁ hy => ?_) (fun _ _ hx => by obtain ⟨_, _, _, _, x⟩ := hx; exact x.elim)
  obtain ⟨φ₁, σ₁, t₁, G₁, y, hy, rfl, rfl⟩ := hy
  refine ⟨hy.of_raw, ?_⟩
  have L₁ := L.step G t₁
  refine evalArgs_any (hp cpos) (wpAny_mono (h cpos φ₁ s₁ G₁ L₁) (fun vs s₂ hx => ?_) fun e s₂ hx => ?_)
  · obtain ⟨φ₂, σ₂, t₂, G₂, xs, hxs, hl, hR⟩ := hx
    refine ⟨rfl, by rw [hxs.length]; exact hl, G₂.base _ _ hC, hN.keeps G₂.base, T.keeps G₂.base, fun h' e hm => ?_⟩
    obtain ⟨tp, he, _, _⟩ := hm.there
    have G₃ : St prog w B (φ₂ ++ [e]) (σ₂ ++ [.exc C none]) { s₂ with heap := h' } :=
      G₂.alloc (s' := { s₂ with heap := h' }) hm.new hm.keeps ⟨_, _, he, ⟨rfl, rfl⟩, rfl, rfl⟩ (fun hq => by obtain ⟨o, e'⟩ := G₂.there hq; rw [hm.new] at e'; cases e') (fun e' => by
        have hn := hm.new
        rw [e', G₂.base _ _ hsys] at hn; cases hn)
    have t₃ : Step [] φ₂ s₂.heap (φ₂ ++ [e]) h' := Step.alloc (s := s₂) (s' := { s₂ with heap := h' }) hm.new hm.keeps
    have tt := t₁.trans0 (t₂.trans0 t₃)
    refine ⟨φ₂ ++ [e], σ₂ ++ [.exc C none], tt.nilD, G₃, ⟨C, none, σ₂, [], e, rfl, (fun k hk => nomatch hk), rfl, ?_, hR⟩, (L.step G tt).sub hs⟩
    rw [← G₂.len]; simp
  · obtain ⟨φ₂, σ₂, t₂, G₂, x⟩ := hx
    exact ⟨φ₂, σ₂, (t₁.trans0 t₂).nilD, G₂, x⟩
end
end Mine

set_option autoImplicit false
set_option linter.unusedVariables false
set_option maxRecDepth 100000
namespace Mine
open PySem PySem.W PySem.Calls PyProof.Rows

theorem bga_kind : builtinKind "BaseException.__getattribute__" = some .slot := by decide +kernel
theorem bga_split : splitId "BaseException.__getattribute__" = some ("BaseException", "__getattribute__") := by decide +kernel
theorem check_bga {M : Model} {A : Around} {E : Value → Shared → Prop} {s : Shared} {self nm : Value} {Q : Unit → Shared → Prop} (hi : Looks M s.heap (isInstance self (.type "BaseException")) true) (q : Q () s) :
    wpAny M A (checkBuiltinCall "BaseException.__getattribute__" ⟨[self, nm], []⟩) Q E s := by
  have h := @check_slot M A E s "BaseException.__getattribute__" "BaseException" "__getattribute__" self [nm] [] Q bga_kind bga_split hi
  have h2 := F.args_bexc_ga self nm
  exact h h2 q
/-- the reading of an own exception's class -/
def excGetB (K : Frag) (C : Addr) : Bool :=
  (findIn K (.ref C) "__getattribute__" == some (some (.builtin "BaseException.__getattribute__"))) && (findIn K (.ref C) "__getattr__" == some none) &&
  (findIn K (.ref C) "__class__" == some (some (.builtin "object.__class__"))) && (specialIn K (.builtin "object.__class__") "__get__" == some (some (.builtin "getset_descriptor.__get__"))) &&
  (takesIn K (.builtin "object.__class__") == some true) && (clsIn K C).isSome && (mroIn K C (.type "object") == some true) && (mroIn K C (.type "BaseException") == some true)

section
variable {prog : Program} {w : World} {A : Around} {E : Value → Shared → Prop} {s : Shared} {K : Frag} {x C D : Addr} {ox : Obj}

theorem exc_class {Q : Option Value → Shared → Prop} (X : K.In s.heap) (I : InstAt s.heap x ox C none) (e : excGetB K C = true) (h : Q (some (.ref C)) { s with toks := s.toks + 1 }) : wpAny (model prog w) A (getAttr? (.ref x) "__class__") Q E s := by
  unfold excGetB at e
  rw [Bool.and_eq_true, Bool.and_eq_true, Bool.and_eq_true, Bool.and_eq_true, Bool.and_eq_true, Bool.and_eq_true, Bool.and_eq_true] at e
  obtain ⟨⟨⟨⟨⟨⟨⟨e1, e2⟩, e3⟩, e4⟩, e5⟩, e6⟩, e7⟩, e8⟩ := e
  replace e1 := beq_iff_eq.mp e1; replace e2 := beq_iff_eq.mp e2; replace e3 := beq_iff_eq.mp e3; replace e4 := beq_iff_eq.mp e4
  replace e5 := beq_iff_eq.mp e5; replace e7 := beq_iff_eq.mp e7; replace e8 := beq_iff_eq.mp e8
  have hf : findObj K C none "__class__" = some (.bind (.builtin "getset_descriptor.__get__") (.builtin "object.__class__")) := by
    obtain ⟨cd, hc⟩ := Option.isSome_iff_exists.mp e6
    unfold findObj
    rw [hc, Option.bind_some, e3, Option.bind_some]
    simp [e4, e5]
  obtain ⟨hh, g, d, t, os⟩ := s
  have L0 := I.type (M := model prog w)
  have L1 := looks_findIn (M := model prog w) X e1
  have L2 := looks_findIn (M := model prog w) X e2
  have L3 := looks_find (M := model prog w) X I hf
  have L4 : Looks (model prog w) hh (isInstance (.ref x) (.type "BaseException")) true := L0.andThen (looks_subIn X e8)
  unfold getAttr? getAttrBy? getAttrBy
  refine wpAny_bind (wpAny_mkText (wpAny_bind (wpAny_attempt (wpAny_holding (wpAny_bind (L0.at (wpAny_bind (L1.at ?_))))))))
  have hx2 : (onTheHeap (Value.ref C) && Value.builtin "BaseException.__getattribute__" == Value.builtin "object.__getattribute__") = false := by
    rw [show (Value.builtin "BaseException.__getattribute__" == Value.builtin "object.__getattribute__") = false from by decide +kernel]; rfl
  simp only [hx2, Bool.false_eq_true, if_false]
  unfold getAttrByItsOwn
  refine wpAny_bind (show wpAny _ _ (typeLookup (.ref C) "__getattr__") _ _ _ from L2.at ?_)
  refine wpAny_bind (wpAny_attempt (wpAny_holding ?_))
  show wpAny _ _ (boundAndCalled (.builtin "BaseException.__getattribute__") (.ref x) (.str "__class__" t)) _ _ _
  unfold boundAndCalled
  refine wpAny_bind (wpAny_of_eq (F.attr_ValueError.ga.bind (.ref x)) ?_)
  show wpAny _ _ (call (.builtin "BaseException.__getattribute__") [.ref x, .str "__class__" t]) _ _ _
  refine wpAny_call ?_
  refine codeAny_call_builtin F.attr_ValueError.ga.plain F.entry_bexc_ga ?_
  refine check_bga L4 ?_
  show wpAny _ _ (Builtin.«object.__getattribute__» _) _ _ _
  unfold Builtin.«object.__getattribute__»
  refine wpAny_bind (wpAny_pure (wpAny_bind (wpAny_pure (wpAny_bind (L0.at (wpAny_bind (L3.at ?_)))))))
  show wpAny _ _ (Builtin.ObjectAttr.bindTo (.builtin "getset_descriptor.__get__") (.builtin "object.__class__") (.ref x) (.ref C)) _ _ _
  show wpAny _ _ (holding [.builtin "object.__class__"] (call (.builtin "getset_descriptor.__get__") [.builtin "object.__class__", .ref x, .ref C]) >>= ret) _ _ _
  refine wpAny_bind (wpAny_holding (wpAny_call (class_get (s := ⟨hh, g, d, t + 1, os⟩) (ox := ox) (od := none) X I e7 (wpAny_pure ?_))))
  show wpAny _ _ (handedOut (.ref C)) _ _ _
  rw [handedOut_of rfl]
  exact wpAny_pure (wpAny_pure h)

/-- isinstance(e, c): no -/
theorem exc_not {c : Value} {Q : Value → Shared → Prop} (X : K.In s.heap) (I : InstAt s.heap x ox C none) (e : excGetB K C = true) (hty : ∀ (M : Model) h', K.In h' → Looks M h' (typeOf c) (.type "type")) (his : ∀ (M : Model) h', K.In h' → Looks M h' (isType c) true)
    (hne : (Value.ref C == c) = false) (hsub : ∀ (M : Model) h', K.In h' → Looks M h' (isSubtype (.ref C) c) false) (h : Q (.bool false) { s with toks := s.toks + 1 }) : wpAny (model prog w) A (call (.builtin "isinstance") [.ref x, c]) Q E s := by
  refine call_isinstance (S := fun _ R s => (K.In s.heap ∧ InstAt s.heap x ox C none) ∧ R (.ok (.ret (.bool false))) { s with toks := s.toks + 1 }) (fun p' w' A' R' s hs => isinstance_outer ?_ (by intro q; cases q)) ⟨⟨X, I⟩, h⟩
  obtain ⟨⟨X, I⟩, h⟩ := hs
  have hcl : (clsIn K C).isSome = true := by
    unfold excGetB at e
    rw [Bool.and_eq_true, Bool.and_eq_true, Bool.and_eq_true] at e
    exact e.1.1.2
  have hisC : Looks (model p' w') s.heap (isType (.ref C)) true := by
    unfold clsIn at hcl
    split at hcl
    · rename_i ho
      intro A' Q' E' s' k q
      unfold isType loadHead
      exact wpAny_bind (wpAny_loadPart (k _ _ (X _ _ ho)) (wpAny_pure q))
    · cases hcl
  obtain ⟨h0, g, d, tt, os⟩ := s
  have L0 := I.type (M := model p' w')
  have hs' := hsub (model p' w') h0 X
  unfold Builtin.«isinstance.nested»
  refine wpAny_bind (L0.at ?_)
  rw [if_neg (fun q => by rw [hne] at q; exact Bool.noConfusion q)]
  refine wpAny_bind ((hty _ h0 X).at ?_)
  rw [if_pos (by decide)]
  k_delta "plainIsInstance"
  refine wpAny_bind (wpAny_bind ((his _ h0 X).at ?_))
  simp only [Bool.not_true, Bool.false_eq_true, if_false]
  refine wpAny_bind ((L0.andThen hs').at ?_)
  simp only [Bool.false_eq_true, if_false]
  refine wpAny_bind (exc_class X I e ?_)
  refine wpAny_bind (hisC.at ?_)
  simp only [Bool.not_true, Bool.false_eq_true, if_false]
  refine wpAny_bind (wpAny_rule ?_)
  refine hs'.at ?_
  first
    | exact wpAny_pure h
    | exact wpAny_pure (wpAny_pure h)
    | exact wpAny_bind (wpAny_pure (wpAny_pure h))
end
end Mine

set_option autoImplicit false
set_option linter.unusedVariables false
set_option maxRecDepth 100000
namespace Mine
open PySem PySem.W PySem.Calls PyProof.Rows

/-! own exception classes out of the written heap -/
def nsB (K : Frag) (N : Addr) : Bool := match K.lookup N with
  | some ⟨_, _, .dict es _, _⟩ => (es.all fun e => match e.key with | .str _ _ => true | _ => false) && (nsFind es "__init__").isNone
  | _ => false
def tailB (K : Frag) : List Value → Bool
  | [] => false
  | v :: r => ((v :: r) == vErr) || match v with
    | .ref A => (match K.lookup A with
      | some ⟨_, _, .cls cd, _⟩ => nsB K cd.ns && tailB K r
      | _ => false)
    | _ => false
def newB (sl : List (Option Value)) : Bool := match sl with
  | [_, _, _, _, some (.builtin n), _] => n == "ValueError.__new__"
  | _ => false
def excB (K : Frag) (C : Addr) (bm : List Value) : Bool := match K.lookup C with
  | some ⟨t, _, .cls cd, sl⟩ => (t == .type "type") && (cd.mro == .ref C :: bm) && !cd.hasDel && nsB K cd.ns && newB sl.toList && tailB K bm
  | _ => false
def errB (K : Frag) (C : Addr) (bm : List Value) : Bool :=
  excB K C bm && excGetB K C && (typeIn K (.ref C) == some (.type "type")) && (instIn K (.ref C) (.type "type") == some true) && (K.lookup sysModules).isSome
theorem nsB_of {K : Frag} {h : Heap} {N : Addr} (X : K.In h) (e : nsB K N = true) : ∃ m, h.Ns N m ∧ m "__init__" = none := by
  unfold nsB at e
  split at e
  · rename_i es n sl ho
    rw [Bool.and_eq_true] at e
    refine ⟨nsFind es, ⟨_, es, n, X _ _ ho, rfl, fun d hd => ?_, fun _ => rfl⟩, by simpa using e.2⟩
    have := Array.all_eq_true_iff_forall_mem.mp e.1 d hd
    split at this
    · exact ⟨_, _, by assumption⟩
    · cases this
  · cases e
theorem tailB_of {K : Frag} {h : Heap} (X : K.In h) : ∀ {l : List Value}, tailB K l = true → OwnTail h vErr l
  | [], e => by cases e
  | v :: r, e => by
    unfold tailB at e
    rcases Bool.or_eq_true_iff.mp e with q | q
    · rw [beq_iff_eq.mp q]; exact .base
    · split at q
      · split at q
        · rename_i ho
          rw [Bool.and_eq_true] at q
          obtain ⟨m, h1, h2⟩ := nsB_of X q.1
          exact .own (X _ _ ho) h1 h2 (tailB_of X q.2)
        · cases q
      · cases q
/-- an own exception class, with the heap that is written out -/
structure Err (B : Shared) (K : Frag) (C : Addr) (bm : List Value) : Prop where
  inK : K.In B.heap
  o : ExcO B C bm
  get : excGetB K C = true
  mro : ∀ base, mroIn K C base = some ((Value.ref C :: bm).contains base)
  typ : typeIn K (.ref C) = some (.type "type")
  inst : instIn K (.ref C) (.type "type") = some true
theorem Err.of {B : Shared} {K : Frag} {C : Addr} {bm : List Value} (X : K.In B.heap) (e : errB K C bm = true) : Err B K C bm := by
  unfold errB at e
  rw [Bool.and_eq_true, Bool.and_eq_true, Bool.and_eq_true, Bool.and_eq_true] at e
  obtain ⟨⟨⟨⟨e1, e2⟩, e3⟩, e4⟩, e5⟩ := e
  unfold excB at e1
  split at e1
  · rename_i t dd cd sl ho
    rw [Bool.and_eq_true, Bool.and_eq_true, Bool.and_eq_true, Bool.and_eq_true, Bool.and_eq_true] at e1
    obtain ⟨⟨⟨⟨⟨f0, f1⟩, f2⟩, f3⟩, f4⟩, f5⟩ := e1
    have f0 := beq_iff_eq.mp f0
    have f1 := beq_iff_eq.mp f1
    refine ⟨X, ⟨?_, ?_⟩, e2, fun base => ?_, beq_iff_eq.mp e3, beq_iff_eq.mp e4⟩
    · obtain ⟨o, h⟩ := Option.isSome_iff_exists.mp e5
      exact ⟨o, X _ _ h⟩
    · obtain ⟨m, h1, h2⟩ := nsB_of X f3
      have hob := X _ _ ho
      obtain ⟨nm, bs, mro, ns, qn, hd, sn, sub, ab, col, del⟩ := cd
      dsimp only at f1 f2 f3 h1
      have f2 : del = false := by simpa using f2
      subst f0 f1 f2
      obtain ⟨sl⟩ := sl
      unfold newB at f4
      split at f4
      · rename_i k0 k1 k2 k3 n k5 hs
        have f4 := beq_iff_eq.mp f4
        subst f4
        dsimp only at hs
        subst hs
        exact ⟨ns, nm, qn, bs, hd, sn, sub, ab, col, dd, k0, k1, k2, k3, k5, m, hob, h1, h2, tailB_of X f5⟩
      · cases f4
    · unfold mroIn clsIn
      rw [ho]
      simp [f1]
  · cases e1

section
variable {prog : Program} {w : World} {B : Shared} {mg mb : Str → Option Value} {φ φ' : List Addr} {σ σ' : List AObj} {s s' : Shared} {env : Env} {ρ l : List (Str × V)} {A : Around} {X : XT} {Q : V → List AObj → Prop} {R : Addr → List AObj → Prop} {K : Frag} {C D : Addr} {bm bmD : List Value}

/-- isinstance(e, an own class) -/
theorem isi_exc {k : Nat} {t : Option Nat} {b : Bool} (hC : Err B K C bm) (hD : Err B K D bmD) (hσ : σ[k]? = some (.exc C t)) (hb : (Value.ref C :: bm).contains (.ref D) = b) (q : Q (.bool b) σ) : WC prog w B A (.builtin "isinstance") [.ref k, .raw (.ref D)] σ Q X := fun φ s vs G FR hv => by
  obtain ⟨v, u, rfl, hx, hu⟩ := hv.two
  obtain rfl := hu.of_raw
  obtain ⟨a, rfl, ha⟩ := hx.of_ref
  obtain ⟨a', ha', o, vs, ho, ⟨hc, hdi⟩, hd, _⟩ := G.get hσ
  rw [ha] at ha'; cases ha'
  have X := hC.inK.keeps G.base
  have I : InstAt s.heap a o C none := ⟨ho, hc, by unfold notCls; rw [hd], by rw [hdi]; trivial⟩
  cases b with
  | true =>
    refine isi_call (t := .ref C) X (fun M => I.type) ?_ (by intro q; cases q) (Post.here G ⟨_, .bool_ _, q⟩)
    unfold isIn
    rw [hD.typ, hD.inst]
    have h1 : (clsIn K D).isSome = true := by
      have := hD.mro (.ref D)
      unfold mroIn at this
      obtain ⟨cd, h, _⟩ := Option.bind_eq_some_iff.mp this
      rw [h]; rfl
    have h2 : subIn K (.ref C) (.ref D) = some true := by show mroIn K C (.ref D) = _; rw [hC.mro, hb]
    rw [h1, h2]; simp
  | false =>
    have hne : (Value.ref C == Value.ref D) = false := by
      rw [List.contains_cons, Bool.or_eq_false_iff] at hb
      have := hb.1
      rw [Bool.eq_false_iff] at this ⊢
      exact fun h => this (by rw [beq_iff_eq] at h ⊢; exact h.symm)
    refine exc_not X I hC.get (fun M h' X' => looks_typeIn X' hD.typ) (fun M h' X' => ?_) hne (fun M h' X' => looks_subIn X' (by show mroIn K C (.ref D) = _; rw [hC.mro, hb])) (Post.tok G ⟨_, .bool_ _, q⟩)
    have h1 : (clsIn K D).isSome = true := by
      have := hD.mro (.ref D)
      unfold mroIn at this
      obtain ⟨cd, h, _⟩ := Option.bind_eq_some_iff.mp this
      rw [h]; rfl
    unfold clsIn at h1
    split at h1
    · rename_i ho
      intro A' Q' E' s' k q
      unfold isType loadHead
      exact wpAny_bind (wpAny_loadPart (k _ _ (X' _ _ ho)) (wpAny_pure q))
    · cases h1
theorem ty_ValueError : typeOf (.type "ValueError") = pure (.type "type") := by kernel_rfl
/-- isinstance(e, ValueError) -/
theorem isi_excV {k : Nat} {t : Option Nat} (hC : Err B K C bm) (hσ : σ[k]? = some (.exc C t)) (hb : bm.contains (.type "ValueError") = true) (q : Q (.bool true) σ) : WC prog w B A (.builtin "isinstance") [.ref k, .raw (.type "ValueError")] σ Q X := fun φ s vs G FR hv => by
  obtain ⟨v, u, rfl, hx, hu⟩ := hv.two
  obtain rfl := hu.of_raw
  obtain ⟨a, rfl, ha⟩ := hx.of_ref
  obtain ⟨a', ha', o, vs, ho, ⟨hc, hdi⟩, hd, _⟩ := G.get hσ
  rw [ha] at ha'; cases ha'
  have X := hC.inK.keeps G.base
  have I : InstAt s.heap a o C none := ⟨ho, hc, by unfold notCls; rw [hd], by rw [hdi]; trivial⟩
  refine call_isinstance (S := fun _ R s => (K.In s.heap ∧ InstAt s.heap a o C none) ∧ R (.ok (.ret (.bool true))) s) (fun p' w' A' R' s hs => isinstance_outer ?_ (by intro q; cases q)) ⟨⟨X, I⟩, Post.here G ⟨_, .bool_ _, q⟩⟩
  obtain ⟨⟨X, I⟩, h⟩ := hs
  obtain ⟨h0, g, d, tt, os⟩ := s
  have L0 := I.type (M := model p' w')
  have L1 : Looks (model p' w') h0 (isSubtype (.ref C) (.type "ValueError")) true := looks_subIn X (by show mroIn K C _ = _; rw [hC.mro, List.contains_cons, hb, Bool.or_true])
  unfold Builtin.«isinstance.nested»
  refine wpAny_bind (L0.at ?_)
  rw [if_neg (by intro q; cases beq_iff_eq.mp q)]
  refine wpAny_bind (wpAny_of_eq ty_ValueError ?_)
  rw [if_pos (by decide)]
  k_delta "plainIsInstance"
  refine wpAny_bind (wpAny_bind (wpAny_pure ?_))
  simp only [Bool.not_true, Bool.false_eq_true, if_false]
  refine wpAny_bind ((L0.andThen L1).at ?_)
  simp only [if_true]
  exact wpAny_pure (wpAny_pure h)

/-! except -/
theorem Loc.mark {h : Heap} {e : Option Value} (L : Loc A B env ρ φ h) : Loc (A.mark e) B env ρ φ h := ⟨L.kind, L.glob, L.blt, L.ns, L.own, L.cells, L.apart, L.val, L.frs, L.top⟩
end

section
variable {M : Model} {A : Around} {E : Value → Shared → Prop}
variable {nm q nm' q' : Str} {C N G N' : Addr} {bs bm bs' bm' : List Value} {hdct hdct' : Bool} {sn sn' : List Str} {sub sub' : List Value} {ab ab' : Bool} {col col' : Option Bool} {dd dd' : Option Addr} {k0 k1 k2 k3 k5 j0 j1 j2 j3 j5 : Option Value} {newId newId' : String}
theorem excMatches_own {h : Heap} {g : Array GenState} {d : Drawn} {t : Nat} {os : OsState} {e : Addr} {oe : Obj} {Q : Bool → Shared → Prop}
    (hC : h.get? C = some (excClassObj nm q C N bs bm hdct sn sub ab col dd k0 k1 k2 k3 k5 newId)) (hG : h.get? G = some (excClassObj nm' q' G N' bs' bm' hdct' sn' sub' ab' col' dd' j0 j1 j2 j3 j5 newId')) (he : h.get? e = some oe) (hcls : oe.cls = .ref C)
    (hbase : bm'.contains (.type "BaseException") = true) (hin : (Value.ref C :: bm).contains (.ref G) = true)
    (hq : Q true ⟨h, g, d, t, os⟩) : wpAny M A (excMatches (.ref e) (.ref G)) Q E ⟨h, g, d, t, os⟩ := by
  have hcB : (Value.ref G :: bm').contains (.type "BaseException") = true := by rw [List.contains_cons, hbase, Bool.or_true]
  have f := tc_notTuple
  unfold excMatches
  repeat (first | (with_reducible refine wpAny_loadPart_at he ?_; rw [hcls]) | with_reducible refine wpAny_loadPart_at hG ?_ | (with_reducible refine wpAny_isSubtype_exc hG ?_; rw [hcB]) | (with_reducible refine wpAny_isSubtype_exc hC ?_; rw [hin]) | wp_step)
  exact hq
end

section
variable {prog : Program} {w : World} {B : Shared} {mg mb : Str → Option Value} {φ φ' : List Addr} {σ σ' : List AObj} {s s' : Shared} {env : Env} {ρ : List (Str × V)} {A : Around} {X : XT}

/-- try: .. except C as n: .. (the suite returns) -/
theorem X_try {body suite rest : List Stmt} {b₀ : Stmt} {x n : Str} {np hpos pos : Pos} {G : Addr} {bmG : List Value} {Q : Fl → List (Str × V) → List AObj → Prop} (l : List (Str × V)) (R : Addr → List AObj → Prop)
    (O : ExcO B G bmG) (g : GC B mg x (.raw (.ref G)))
    (hb : WX prog w B A env body ρ σ (seqQ prog w B A env rest Q X) (xL A B env l (xQ R)))
    (hh : ∀ e C t τ junk, R C τ → (∃ bm, ExcO B C bm ∧ (Value.ref C :: bm).contains (.ref G) = true) ∧
      WX prog w B (A.mark (some (.ref e))) env (b₀ :: suite) ((n, .ref τ.length) :: l) (τ ++ .exc C t :: junk) (fun fl _ σ' => ∃ v, fl = .ret v ∧ Q (.ret v) [] σ') (fun _ _ _ _ => False))
    (hx : env.kindOf x = some .globalImplicit := by kernel_rfl!) (hn : env.kindOf n = some .local := by kernel_rfl!)
    (hd : (x == ("__debug__" : Str)) = false := by decide +kernel) :
    WX prog w B A env (.Try body [.ExceptHandler (some (.Name x np)) (some n) (b₀ :: suite) hpos] [] [] pos :: rest) ρ σ Q X := X_cons fun φ s G0 L => by
  refine wpAny_Try_except (wpAny_mono (hb φ s G0 L) (fun f s₁ hx => ?_) fun e s₁ hx => ?_)
  · obtain ⟨φ₁, σ₁, t₁, G₁, fl, ρ₁, hf, L₁, q⟩ := hx
    cases fl with
    | next => obtain rfl : f = .next := hf; exact wpAny_execs_nil ⟨φ₁, σ₁, t₁, G₁, .next, ρ₁, rfl, L₁, q⟩
    | brk => obtain rfl : f = .brk := hf; exact ⟨φ₁, σ₁, t₁, G₁, .brk, ρ₁, rfl, L₁, q⟩
    | cont => obtain rfl : f = .cont := hf; exact ⟨φ₁, σ₁, t₁, G₁, .cont, ρ₁, rfl, L₁, q⟩
    | ret y => obtain ⟨u, rfl, hu⟩ := hf; exact ⟨φ₁, σ₁, t₁, G₁, .ret y, ρ₁, ⟨u, rfl, hu⟩, L₁, q⟩
  · obtain ⟨φ₁, σ₁, t₁, G₁, ⟨C, t, τ, junk, ea, rfl, htb, rfl, ha, hR⟩, L₁⟩ := hx
    refine note_W G₁ htb L₁ ha fun φ₂ t₂ junk₂ h₂ st₂ htb₂ ha₂ G₂ => ?_
    refine flight_W G₂ htb₂ ha₂ fun h₃ st₃ G₃ => ?_
    have st : Step [] φ₁ s₁.heap φ₂ h₃ := st₂.trans0 st₃
    have L₃ : Loc (A.mark (some (.ref ea))) B env l φ₂ h₃ := (L₁.step G₁ st).mark
    obtain ⟨⟨bm, OC, hin⟩, hs⟩ := hh ea C (some t₂) τ junk₂ hR
    obtain ⟨_, N, nm, q, bs, hdct, sn, sub, ab, col, dd, k0, k1, k2, k3, k5, mN, hC, hN, hni, T⟩ := OC
    obtain ⟨_, N', nm', q', bs', hdct', sn', sub', ab', col', dd', j0, j1, j2, j3, j5, mN', hG, hN', hni', T'⟩ := O
    obtain ⟨hg, v, hv, hval⟩ := g
    obtain rfl := hval.of_raw
    refine wpAny_handleBy_cons (codeAny_handlers_test ?_) (by intro q; cases q)
    have hname : WE prog w B (A.mark (some (.ref ea))) env (.Name x np) l (τ ++ .exc C (some t₂) :: junk₂) (fun y σ' => y = .raw (.ref G) ∧ σ' = τ ++ .exc C (some t₂) :: junk₂) (fun _ _ _ _ => False) := E_global hg hv (.raw_ _) hx ⟨rfl, rfl⟩ hd
    refine wpAny_mono (hname φ₂ { s₁ with heap := h₃ } G₃ L₃) (fun v s₄ hy => ?_) (fun _ _ hx => by obtain ⟨_, _, _, _, x⟩ := hx; exact x.elim)
    obtain ⟨φ₄, σ₄, st₄, G₄, y, hy, rfl, rfl⟩ := hy
    obtain rfl := hy.of_raw
    have ha₄ : φ₄[τ.length]? = some ea := idx_mono st₄.pre ha₂
    have L₄ := L₃.step G₃ st₄
    obtain ⟨oe, vs, e1, ⟨hc, _⟩, _⟩ := G₄.exc_ ha₄
    obtain ⟨h4, g4, d4, tk4, os4⟩ := s₄
    refine excMatches_own (G₄.base _ _ hC) (G₄.base _ _ hG) e1 hc (T'.hasType (by decide)) hin ?_
    show codeAny _ _ (.handlers _ [.ExceptHandler none (some n) (b₀ :: suite) hpos] env) _ _
    refine codeAny_handlers_suite_as ?_
    refine flight_W G₄ htb₂ ha₄ fun h₅ st₅ G₅ => ?_
    have L₅ := L₄.step G₄ st₅
    refine store_name (y := .ref τ.length) G₅ L₅ (by rw [Val]; exact ⟨ea, rfl, ha₄⟩) (.inl hn) fun h₆ tk₆ st₆ G₆ L₆ => ?_
    refine wpAny_mono (hs φ₄ _ G₆ L₆) (fun f s₇ hx => ?_) (fun _ _ hx => by obtain ⟨_, _, _, _, x⟩ := hx; exact x.elim)
    obtain ⟨φ₇, σ₇, st₇, G₇, fl, ρ₇, hf, L₇, v, rfl, q⟩ := hx
    obtain ⟨u, rfl, hu⟩ := hf
    obtain ⟨m, hm⟩ := L₇.ns
    refine wpAny_nameGoes hn hm (by rw [L₇.kind]; rfl) fun h₈ m' hns hsb => ?_
    have hnst : ∀ o, s₇.heap.get? env.locals = some o → ¬ Still o := fr_notStill L₇ _ (.head _)
    have hown := L₇.own _ (List.mem_cons_self (l := env.cells.map (·.2)) (a := env.locals))
    have G₈ : St prog w B φ₇ σ₇ { s₇ with heap := h₈, toks := s₇.toks + 1 } := G₇.sameBut (s' := { s₇ with heap := h₈, toks := s₇.toks + 1 }) hsb hown.1 hown.2 hnst
    have L₈ : Loc A B env [] φ₇ h₈ := ⟨L₇.kind, L₇.glob, L₇.blt, ⟨_, hns⟩, L₇.own, fun z c hz => by
        obtain ⟨v', n'⟩ := L₇.cells z c hz
        exact ⟨v', n'.sameBut hsb (locals_ne_cell L₇ hz)⟩, L₇.apart, (fun z u hz => nomatch hz), L₇.frs.at hsb.extBut (.inl (let ⟨o, es, n, e, hd, _⟩ := hns; ⟨o, es, n, e, hd⟩)), L₇.top⟩
    have t8 : Step (fr env) φ₇ s₇.heap φ₇ h₈ := ⟨List.prefix_refl _, fun _ h => .inl h, fun b o e h1 h2 => ⟨o, hsb.extBut b o (fun h => h2 (h ▸ .head _)) e, .refl o⟩⟩
    have tA : Step (fr env) φ s.heap φ₄ h₅ := t₁.transF ((st.trans0 st₄).trans0 st₅).nilD L₁
    exact ⟨φ₇, σ₇, ((tA.transF st₆ L₅).transF st₇ L₆).transF t8 L₇, G₈, .ret v, [], ⟨u, rfl, hu.sameBut hsb hnst⟩, L₈, q⟩
end
end Mine

set_option autoImplicit false
set_option linter.unusedVariables false
set_option maxRecDepth 100000
namespace Mine
open PySem PySem.W PySem.Calls PyProof.Rows

/-- as AOk, while an exception may be handled -/
structure AOk0 (n : Nat) (A : Around) : Prop where
  depth : A.depth + n ≤ 900
  units : A.units + 10 * n ≤ 9000
theorem AOk.ok0 {n : Nat} {A : Around} {e : Option Value} (h : AOk n A) : AOk0 n (A.mark e) := ⟨h.depth, h.units⟩
theorem AOk0.deeper {n : Nat} {A : Around} {env : Env} (h : AOk0 (n + 1) A) : AOk0 n (A.deeper env) := by
  obtain ⟨h1, h2⟩ := h
  exact ⟨by show A.depth + 1 + n ≤ 900; omega, by show A.units + 3 + 10 * n ≤ 9000; omega⟩
theorem AOk0.le {n m : Nat} {A : Around} (h : AOk0 n A) (hm : m ≤ n) : AOk0 m A := ⟨by have := h.depth; omega, by have := h.units; omega⟩
theorem AOk0.room {n : Nat} {A : Around} (h : AOk0 n A) : A.depth < recursionLimit := by have := h.depth; show _ < 1000; omega

section
variable (prog : Program) (w : World) (B : Shared) (mg : Str → Option Value)
/-- a contract of a global function that may be called while an exception is handled -/
def CF0 (x : Str) (n : Nat) (P : List V → List AObj → (V → List AObj → Prop) → XT → Prop) : Prop :=
  B.heap.Ns mainGlobals mg ∧ ∃ v, mg x = some v ∧ Keep B v ∧ ∀ A xs σ Q X, AOk0 n A → P xs σ Q X → WC prog w B A v xs σ Q X
end
section
variable {prog : Program} {w : World} {B : Shared} {mg mb : Str → Option Value} {φ φ' : List Addr} {σ σ' : List AObj} {s s' : Shared} {env : Env} {ρ : List (Str × V)} {A : Around} {X : XT} {Q : V → List AObj → Prop}
theorem E_cf0 {x : Str} {px pos : Pos} {es : List Expr} {n : Nat} {P : List V → List AObj → (V → List AObj → Prop) → XT → Prop} (C : CF0 prog w B mg x n P) (hA : AOk0 n A)
    (h : WEs prog w B A env es ρ σ (fun xs σ₁ => P xs σ₁ Q X) X)
    (hx : env.kindOf x = some .globalImplicit := by kernel_rfl!)
    (hp : ∀ pos, (backTo pos (starEach es env)).any (·.1) = false := by intro _; with_unfolding_all rfl)
    (hd : (x == ("__debug__" : Str)) = false := by decide +kernel) :
    WE prog w B A env (.Call (.Name x px) es [] pos) ρ σ Q X := by
  obtain ⟨hg, v, hv, hk, hc⟩ := C
  exact E_call (E_global hg hv (.raw_ _) hx ⟨rfl, fun pos φ s G L => (h pos φ s G L).mono fun vs φ' σ' s' ⟨xs, h1, h2⟩ => ⟨xs, h1, hc A xs σ' Q X hA h2⟩⟩ hd) hk hp
theorem CF0_of {d : DefRec} {names : List Str} {n : Nat} {P : List V → List AObj → (V → List AObj → Prop) → XT → Prop} (gl : Gl B mg mb) (H : HasF B mg d) (g : Good d names)
    (h : ∀ A pm code doc L a xs σ Q X, AOk0 n A → P xs σ Q X → xs.length = names.length ∧ WX prog w B A (callEnvC (docDef d.name d.params d.body d.scope pm code doc) L a) d.body (names.zip xs) σ (retQ σ Q) (fun _ _ _ _ => False)) :
    CF0 prog w B mg d.name (n + 1) P := by
  obtain ⟨a, pm, code, doc, hm, F⟩ := H.fn gl.lim g
  refine ⟨gl.g, _, hm, Keep.fn F, fun A xs σ Q X hA hP => WC.clean (C_fn F ?_ hA.room fun L => ?_)⟩
  · exact (h A pm code doc 0 a xs σ Q X (hA.le (Nat.le_succ n)) hP).1
  · exact (h _ pm code doc L a xs σ Q X hA.deeper hP).2
/-- a def that may raise -/
theorem CF_ofx {d : DefRec} {names : List Str} {n : Nat} {P : List V → List AObj → (V → List AObj → Prop) → XT → Prop} (gl : Gl B mg mb) (H : HasF B mg d) (g : Good d names)
    (h : ∀ A pm code doc L a xs σ Q X, AOk n A → P xs σ Q X → xs.length = names.length ∧ ∃ X', XOk A B (callEnvC (docDef d.name d.params d.body d.scope pm code doc) L a) X' X ∧ WX prog w B A (callEnvC (docDef d.name d.params d.body d.scope pm code doc) L a) d.body (names.zip xs) σ (retQ σ Q) X') :
    CF prog w B mg d.name (n + 1) P := by
  obtain ⟨a, pm, code, doc, hm, F⟩ := H.fn gl.lim g
  refine ⟨gl.g, _, hm, Keep.fn F, fun A xs σ Q X hA hP => WC.clean fun φ s vs G FR hv => wpAny_call (C_fn_codex F ?_ hA.room (fun L => ?_) φ s vs G FR hv)⟩
  · exact (h A pm code doc 0 a xs σ Q X (hA.le (Nat.le_succ n)) hP).1
  · exact (h _ pm code doc L a xs σ Q X hA.deeper hP).2
theorem C_int_bool {b : Bool} (q : Q (.int (if b then 1 else 0)) σ) : WC prog w B A (.type "int") [.bool b] σ Q X := fun φ s vs G FR hv => by
  obtain ⟨v, rfl, h1⟩ := hv.one
  obtain rfl := h1.of_bool
  exact call_int_bool (Post.tok G ⟨_, .int_ _ _, q⟩)
end
end Mine

set_option autoImplicit false
set_option linter.unusedVariables false
set_option maxRecDepth 100000
namespace Mine
open PySem PySem.Builtin PySem.Builtin.Str PySem.W PySem.Calls PyProof.Rows PySem.NumText
theorem str_no_int : typeLookup (.type "str") "__int__" = pure none := by rw [typeLookup_type, builtinLookup_eq_fast]; kernel_rfl
theorem str_no_index : typeLookup (.type "str") "__index__" = pure none := by rw [typeLookup_type, builtinLookup_eq_fast]; kernel_rfl
theorem str_no_trunc : typeLookup (.type "str") "__trunc__" = pure none := by rw [typeLookup_type, builtinLookup_eq_fast]; kernel_rfl
theorem wp_ift {M : Model} {A : Around} {E : Value → Shared → Prop} {s : Shared} {Q : Value → Shared → Prop} {v : Value} {text : List Nat} {n : Int}
    (hs : (text.takeWhile (· != 0)).length ≤ 640) (hr : (int_private% "readNumeral") 0 10 (text.takeWhile (· != 0)) = (int_private% "Numeral.value") n)
    (ha : ((text.takeWhile (· != 0)).length == text.length) = true) (h : Q (.int n s.toks) { s with toks := s.toks + 1 }) :
    wpAny M A ((int_private% "intFromText") v text 10) Q E s := by
  obtain ⟨hp, g, d, tk, os⟩ := s
  repeat (any_goals (first
    | assumption
    | (with_reducible refine wpAny_ite_true (decide_eq_true hs) ?_)
    | (with_reducible refine wpAny_ite_true (decide_eq_true ha) ?_)
    | wp_step))
  all_goals (try rw [hr])
  all_goals (try dsimp only)
  repeat (any_goals (first
    | assumption
    | (with_reducible refine wpAny_ite_true (decide_eq_true hs) ?_)
    | (with_reducible refine wpAny_ite_true (decide_eq_true ha) ?_)
    | wp_step))
structure Hid (p : Prop) : Prop where
  out : p
set_option maxHeartbeats 4000000 in
theorem gives_int {x : PySem.Str} {u : Tok} (hl : x.length ≤ 640) (h1 : 1 ≤ x.length) (hd : AllDigits x.cps.toList) :
    Gives (Builtin.«int.__new__» ⟨[.type "int", .str x u], []⟩) (.int (digitsVal x.cps.toList : Nat)) :=
  .of_wp fun M A E s Q h => by
    obtain ⟨hp, g, d, tk, os⟩ := s
    have f1 := F.conv_sub_int
    have f2 := F.madeHere_int
    have f3 := str_no_int
    have f4 := str_no_index
    have f5 := str_no_trunc
    have f6 : typeOf (.str x u) = pure (.type "str") := rfl
    have hs : (numSeenOf x).length ≤ 640 := Nat.le_trans (seen_length x) hl
    have hn := intText_digits hd (by intro e; simp [Str.length] at h1; simp at e; rw [e] at h1; simp at h1) (Nat.le_trans hl (by decide))
    have hr : (int_private% "readNumeral") 0 10 (numSeenOf x) = (int_private% "Numeral.value") (digitsVal x.cps.toList : Nat) ∧ ((numSeenOf x).length == (numTextOf x).length) = true := by
      rcases read0 x hs with ⟨m, h1, h2, h3⟩ | ⟨h1, _⟩
      · rw [hn] at h1; injection h1 with h1; subst h1; exact ⟨h3, h2⟩
      · rw [hn] at h1; cases h1
    have hk := Hid.mk (And.intro hs hr)
    clear hs hr hl hn
    repeat (any_goals (first
      | assumption
      | ((with_reducible show wpAny _ _ ((int_private% "intFromText") _ _ _) _ _ _); refine wp_ift hk.out.1 hk.out.2.1 hk.out.2.2 ?_)
      | wp_step))
    all_goals first | exact ⟨_, rfl, h⟩ | skip
section
variable {prog : Program} {w : World} {B : Shared} {A : Around} {σ : List AObj} {X : XT} {Q : V → List AObj → Prop}
/-- int(a text of figures) -/
theorem C_int_text {x : Str} (hl : x.length ≤ 640) (h1 : 1 ≤ x.length) (hd : AllDigits x.cps.toList) (q : Q (.int (digitsVal x.cps.toList : Nat)) σ) : WC prog w B A (.type "int") [.str x] σ Q X := fun φ s vs G FR hv => by
  obtain ⟨v, rfl, hx⟩ := hv.one
  obtain ⟨t, rfl⟩ := hx.of_str
  exact call_int_1 (gives_int hl h1 hd).meets (show (Made.int _).post _ s from ⟨rfl, Post.tok G ⟨_, .int_ _ _, q⟩⟩)
/-- str(a number) -/
theorem C_str_int {a : Int} (ha : a.natAbs.log2 < 1920) (q : Q (.str (toString a)) σ) : WC prog w B A (.type "str") [.int a] σ Q X := fun φ s vs G FR hv => by
  obtain ⟨v, rfl, hx⟩ := hv.one
  obtain ⟨t, rfl⟩ := hx.of_int
  exact P.str_of_int ha (Post.tok G ⟨_, .str_ _ _, q⟩)
/-- text * number -/
theorem O_muls {x : Str} {n : Int} (hok : MulOk x n) (q : Q (.str (Txt.mul x n)) σ) : W2 prog w B A (binaryOp .Mult) (.str x) (.int n) σ Q X := fun φ s v u G hv hu => by
  obtain ⟨t, rfl⟩ := hv.of_str; obtain ⟨t', rfl⟩ := hu.of_int
  exact SB.mul hok fun t' k => Post.tok G ⟨_, .str_ _ _, q⟩
theorem vals_numbered {φ : List Addr} {h : Heap} : ∀ (l : List (Str × Tok)), Vals φ h (l.map fun p => V.str p.1) (strValues l)
  | [] => .nil
  | (x, t) :: r => .cons (.str_ _ _) (vals_numbered r)
/-- text.split(separator) -/
theorem C_split {x y : Str} (hy : (y.length == 0) = false) (hsz : x.length ≤ sizeLine) (hn : (Txt.split x y).length ≤ sizeLine) (q : Q (.ref σ.length) (σ ++ [.list ((Txt.split x y).map V.str)])) :
    WC prog w B A (.builtin "str.split") [.str x, .str y] σ Q X := fun φ s vs G FR hv => by
  obtain ⟨v, u, rfl, hx, hu⟩ := hv.two
  obtain ⟨t, rfl⟩ := hx.of_str
  obtain ⟨t', rfl⟩ := hu.of_str
  have fin : ∀ (l : List (Str × Tok)) (tk : Nat), l.map (·.1) = Txt.split x y → Post prog w B [] φ s (vQ Q) (.ref s.heap.objs.size) { s with toks := tk, heap := s.heap.push (seqObj "list" (strValues l).toArray 0) } := fun l tk e => by
    obtain ⟨t, G', hv'⟩ := G.newList (tk := tk) (c := s.heap.objs.size) (h' := s.heap.push (seqObj "list" (strValues l).toArray 0)) (xs := (Txt.split x y).map V.str) (items := (strValues l).toArray) (n := 0) (Nat.le_refl _) (fun b o eo => Heap.get?_push_of_some _ eo) (Heap.get?_push_size _ rfl) (by rw [← e, List.map_map]; exact vals_numbered l)
    exact ⟨_, _, t, G', _, hv', q⟩
  cases h1 : (decide (x.length < y.length) || decide (strKind x < strKind y))
  · cases hf : (occurrences x y 0 x.length (x.length + 1)).isEmpty
    · have e : partsBetween x (occurrences x y 0 x.length (x.length + 1)) y.length = Txt.split x y := ((if_neg (ne_true_of_eq_false h1)).trans (if_neg (ne_true_of_eq_false hf))).symm
      refine call_meets F.slot_str_split (typeIs_str _ _ _) F.entry_str_split (F.args_str_split_2 _ _) (meets_str_split_sep x y t t' h1 hy hf hsz (by rw [e]; exact hn)) ?_
      show wants _ _ _ { s with toks := _, heap := s.heap.push { cls := .type "list", data := .seq (strsFrom s.toks (partsBetween x (occurrences x y 0 x.length (x.length + 1)) y.length)).toArray } }
      rw [strsFrom_eq]
      exact fin (numbered s.toks _) _ ((numbered_texts _ _).trans e)
    · exact call_meets F.slot_str_split (typeIs_str _ _ _) F.entry_str_split (F.args_str_split_2 _ _) (meets_str_split_not_found x y t t' h1 hy hf) (fin [(x, t)] s.toks ((if_neg (ne_true_of_eq_false h1)).trans (if_pos hf)).symm)
  · exact call_meets F.slot_str_split (typeIs_str _ _ _) F.entry_str_split (F.args_str_split_2 _ _) (meets_str_split_cannot_occur x y t t' h1) (fin [(x, t)] s.toks (if_pos h1).symm)
end
end Mine

set_option autoImplicit false
set_option linter.unusedVariables false
set_option maxRecDepth 100000
namespace Mine
open PySem PySem.W PySem.Calls PyProof.Rows

section
variable {p : Program} {loose : List Str} {mean : ExcName → Option Value} {mg mb : Str → Option Value} {B : Shared}
theorem has_of (T : Top p loose mean mg mb B.heap) (d : DefRec) {i : Nat} (hi : (recsOf p)[i]? = some d) : HasF B mg d := by
  obtain ⟨a, o, pm, code, doc, h1, h2, h3, h4⟩ := T.fn d (List.mem_of_getElem? hi)
  exact ⟨a, o, pm, code, doc, h1, h2, h3, h4⟩
def topHas (p : Program) (loose : List Str) (x : Str) : Bool := startupNames.contains x || loose.contains x || ((recsOf p).map (·.name)).contains x || ((litsOf p).map (·.1)).contains x || ((clssOf p loose).map (·.name)).contains x
theorem bi_of (T : Top p loose mean mg mb B.heap) {x : Str} {v : Value} (hb : bootBuiltins x = some v) (hx : topHas p loose x = false) (hn : (x == ("__name__" : Str)) = false) : Bi B mg mb x v := by
  unfold topHas at hx
  simp only [Bool.or_eq_false_iff] at hx
  obtain ⟨⟨⟨⟨h1, h2⟩, h3⟩, h4⟩, h5⟩ := hx
  refine ⟨T.g, T.b, T.free x ?_ ?_ ?_ ?_ ?_, by rw [T.builtins x (by simpa using hn)]; exact hb⟩ <;> (intro hm; simp_all)
def bltNames : List Str := ["len", "isinstance", "max", "min", "sum", "sorted", "int", "bool", "str", "tuple", "list", "dict", "set", "range", "enumerate"]
theorem blt_of (T : Top p loose mean mg mb B.heap) (h : bltNames.all (fun x => !topHas p loose x) = true) : Blt B mg mb := by
  have hx : ∀ x ∈ bltNames, topHas p loose x = false := fun x hx => by simpa using List.all_eq_true.mp h x hx
  refine ⟨?_, ?_, ?_, ?_, ?_, ?_, ?_, ?_, ?_, ?_, ?_, ?_, ?_, ?_, ?_⟩
  · exact bi_of T (by kernel_rfl) (hx _ (List.mem_of_getElem? (i := 0) rfl)) (by decide +kernel)
  · exact bi_of T (by kernel_rfl) (hx _ (List.mem_of_getElem? (i := 1) rfl)) (by decide +kernel)
  · exact bi_of T (by kernel_rfl) (hx _ (List.mem_of_getElem? (i := 2) rfl)) (by decide +kernel)
  · exact bi_of T (by kernel_rfl) (hx _ (List.mem_of_getElem? (i := 3) rfl)) (by decide +kernel)
  · exact bi_of T (by kernel_rfl) (hx _ (List.mem_of_getElem? (i := 4) rfl)) (by decide +kernel)
  · exact bi_of T (by kernel_rfl) (hx _ (List.mem_of_getElem? (i := 5) rfl)) (by decide +kernel)
  · exact bi_of T (by kernel_rfl) (hx _ (List.mem_of_getElem? (i := 6) rfl)) (by decide +kernel)
  · exact bi_of T (by kernel_rfl) (hx _ (List.mem_of_getElem? (i := 7) rfl)) (by decide +kernel)
  · exact bi_of T (by kernel_rfl) (hx _ (List.mem_of_getElem? (i := 8) rfl)) (by decide +kernel)
  · exact bi_of T (by kernel_rfl) (hx _ (List.mem_of_getElem? (i := 9) rfl)) (by decide +kernel)
  · exact bi_of T (by kernel_rfl) (hx _ (List.mem_of_getElem? (i := 10) rfl)) (by decide +kernel)
  · exact bi_of T (by kernel_rfl) (hx _ (List.mem_of_getElem? (i := 11) rfl)) (by decide +kernel)
  · exact bi_of T (by kernel_rfl) (hx _ (List.mem_of_getElem? (i := 12) rfl)) (by decide +kernel)
  · exact bi_of T (by kernel_rfl) (hx _ (List.mem_of_getElem? (i := 13) rfl)) (by decide +kernel)
  · exact bi_of T (by kernel_rfl) (hx _ (List.mem_of_getElem? (i := 14) rfl)) (by decide +kernel)

theorem st_nil {prog : Program} {w : World} {o : Obj} (hs : B.heap.get? cStatics = some o) : St prog w B [] [] B :=
  ⟨fun _ _ e => e, fun _ h => (nomatch h), .nil, rfl, fun k a ob h => by simp at h, rfl, rfl, ⟨o, hs⟩, fun h => (nomatch h)⟩
theorem law_end {prog : Program} {w : World} {d : DefRec} {fa scr : Addr} {c : ClaimW} {cl : Str → Option Addr} {mean' : ExcName → Option Value} {args : List WData} (T : Top p loose mean mg mb B.heap) (H : HasF B mg d) (hfa : mg d.name = some (.ref fa))
    (g : Good d ["_law_script"]) (hg : B.gens = #[]) (hr : ∀ cls, c.raises args cls = false) (hrd : ∀ h, ReadsW c.records cl h (.bool true) (.bool true) []) (hp : c.post args (.bool true) args = true)
    (h : ∀ A pm code doc L a, AOk 50 A → WX prog w B A (callEnvC (docDef d.name d.params d.body d.scope pm code doc) L a) d.body [("_law_script", .raw (.ref scr))] [] (fun fl _ _ => retV fl = .bool true) (fun _ _ _ _ => False)) :
    codeAny (model prog w) callerA (.call (.ref fa) ⟨[.ref scr], []⟩) (GoodWG c cl mean' args B) B := by
  obtain ⟨a, pm, code, doc, h1, F⟩ := H.fn T.nolimit g
  rw [hfa] at h1; cases h1
  obtain ⟨mc, ⟨o, _, _, ho, _⟩, _⟩ := T.nodigits
  have hA : AOk 51 callerA := ⟨rfl, by decide, by decide⟩
  refine codeAny_mono (C_fn_code (X := fun _ _ _ _ => False) (xs := [.raw (.ref scr)]) (Q := fun x _ => x = .bool true) F rfl hA.room (fun L => h _ pm code doc L fa hA.deeper) [] B [.ref scr] (st_nil ho) ⟨[], rfl, fun _ h => nomatch h⟩ (Vals.cons (.raw_ _) .nil)) fun r s' hr' => ?_
  match r, hr' with
  | .ok (.ret v), ⟨φ', σ', t, G', x, hx, hx'⟩ =>
    subst hx'
    obtain rfl := hx.of_bool
    exact ⟨.inl ⟨.bool true, .bool true, [], rfl, hr, hrd _, hp, fun _ => ⟨.nil, fun _ h => nomatch h⟩⟩, .of_keep G'.base, G'.os, .of_eq (G'.gens.trans hg)⟩
  | .error e, ⟨_, _, _, _, hf⟩ => exact hf.elim
theorem gc_str {x y : Str} (T : Top p loose mean mg mb B.heap) (h : valOf p x = some (.str y)) : GC B mg x (.str y) := by
  obtain ⟨v, h1, h2⟩ := T.const x _ h
  refine ⟨T.g, v, h1, ?_⟩
  have := h2 B.heap
  cases this
  exact .str_ _ _
theorem gc_int {x : Str} {n : Int} (T : Top p loose mean mg mb B.heap) (h : valOf p x = some (.int n)) : GC B mg x (.int n) := by
  obtain ⟨v, h1, h2⟩ := T.const x _ h
  refine ⟨T.g, v, h1, ?_⟩
  have := h2 B.heap
  cases this
  exact .int_ _ _
end
end Mine

set_option autoImplicit false
set_option linter.unusedVariables false
set_option maxRecDepth 100000
namespace Mine
open PySem PySem.W PySem.Calls PyProof.Rows PySem.Challenge



def KF (P : Params) : Frag := [
  (1, Obj.mk (Value.type "dict") none
  (Data.dict
    #[DictEntry.mk (PyData.keyHash P (Str.ofString "builtins"))
        (Value.str (Str.ofString "builtins") 162) (Value.ref 4),
      DictEntry.mk (PyData.keyHash P (Str.ofString "__main__"))
        (Value.str (Str.ofString "__main__") 163) (Value.ref 5)]
    2)
  #[]),
  (3, Obj.mk (Value.type "dict") none
  (Data.dict
    #[DictEntry.mk (PyData.keyHash P (Str.ofString "__name__"))
        (Value.str (Str.ofString "__name__") 165)
        (Value.str (Str.ofString "law_uf050040_10") 350),
      DictEntry.mk (PyData.keyHash P (Str.ofString "__doc__"))
        (Value.str (Str.ofString "__doc__") 166) Value.none,
      DictEntry.mk (PyData.keyHash P (Str.ofString "__package__"))
        (Value.str (Str.ofString "__package__") 167) Value.none,
      DictEntry.mk (PyData.keyHash P (Str.ofString "__loader__"))
        (Value.str (Str.ofString "__loader__") 168) (Value.builtin "__main__.__loader__#opaque"),
      DictEntry.mk (PyData.keyHash P (Str.ofString "__spec__"))
        (Value.str (Str.ofString "__spec__") 169) Value.none,
      DictEntry.mk (PyData.keyHash P (Str.ofString "__annotations__"))
        (Value.str (Str.ofString "__annotations__") 170) (Value.ref 6),
      DictEntry.mk (PyData.keyHash P (Str.ofString "__builtins__"))
        (Value.str (Str.ofString "__builtins__") 171) (Value.ref 4),
      DictEntry.mk (PyData.keyHash P (Str.ofString "__file__"))
        (Value.str (Str.ofString "__file__") 173)
        (Value.str (Str.ofString "/claim/cut.py") 172),
      DictEntry.mk (PyData.keyHash P (Str.ofString "__cached__"))
        (Value.str (Str.ofString "__cached__") 174) Value.none,
      DictEntry.mk (PyData.keyHash P (Str.ofString "GossipError"))
        (Value.str (Str.ofString "GossipError") 206) (Value.ref 24),
      DictEntry.mk (PyData.keyHash P (Str.ofString "NoName"))
        (Value.str (Str.ofString "NoName") 222) (Value.ref 37),
      DictEntry.mk (PyData.keyHash P (Str.ofString "NoAmount"))
        (Value.str (Str.ofString "NoAmount") 238) (Value.ref 49),
      DictEntry.mk (PyData.keyHash P (Str.ofString "NoPage"))
        (Value.str (Str.ofString "NoPage") 254) (Value.ref 61),
      DictEntry.mk (PyData.keyHash P (Str.ofString "Forged"))
        (Value.str (Str.ofString "Forged") 270) (Value.ref 73),
      DictEntry.mk (PyData.keyHash P (Str.ofString "NoNote"))
        (Value.str (Str.ofString "NoNote") 286) (Value.ref 85),
      DictEntry.mk (PyData.keyHash P (Str.ofString "LETTERS"))
        (Value.str (Str.ofString "LETTERS") 290)
        (Value.str (Str.ofString "abcdefghijklmnopqrstuvwxyz") 289),
      DictEntry.mk (PyData.keyHash P (Str.ofString "is_name"))
        (Value.str (Str.ofString "is_name") 298) (Value.ref 94),
      DictEntry.mk (PyData.keyHash P (Str.ofString "MOST_NAMES"))
        (Value.str (Str.ofString "MOST_NAMES") 302) (Value.int 200 301),
      DictEntry.mk (PyData.keyHash P (Str.ofString "is_part"))
        (Value.str (Str.ofString "is_part") 309) (Value.ref 101),
      DictEntry.mk (PyData.keyHash P (Str.ofString "is_share"))
        (Value.str (Str.ofString "is_share") 316) (Value.ref 108),
      DictEntry.mk (PyData.keyHash P (Str.ofString "is_page"))
        (Value.str (Str.ofString "is_page") 324) (Value.ref 115),
      DictEntry.mk (PyData.keyHash P (Str.ofString "FIGURES"))
        (Value.str (Str.ofString "FIGURES") 328) (Value.str (Str.ofString "0123456789") 327),
      DictEntry.mk (PyData.keyHash P (Str.ofString "number_of"))
        (Value.str (Str.ofString "number_of") 338) (Value.ref 122),
      DictEntry.mk (PyData.keyHash P (Str.ofString "read"))
        (Value.str (Str.ofString "read") 349) (Value.ref 129),
      DictEntry.mk (PyData.keyHash P (Str.ofString "_law_cell_at"))
        (Value.str (Str.ofString "_law_cell_at") 359) (Value.ref 136),
      DictEntry.mk (PyData.keyHash P (Str.ofString "_law_whole"))
        (Value.str (Str.ofString "_law_whole") 366) (Value.ref 143),
      DictEntry.mk (PyData.keyHash P (Str.ofString "_law_share"))
        (Value.str (Str.ofString "_law_share") 374) (Value.ref 150),
      DictEntry.mk (PyData.keyHash P (Str.ofString "_law_name_by"))
        (Value.str (Str.ofString "_law_name_by") 380) (Value.ref 155),
      DictEntry.mk (PyData.keyHash P (Str.ofString "_law_same"))
        (Value.str (Str.ofString "_law_same") 389) (Value.ref 162),
      DictEntry.mk (PyData.keyHash P (Str.ofString "_law_kind"))
        (Value.str (Str.ofString "_law_kind") 397) (Value.ref 169),
      DictEntry.mk (PyData.keyHash P (Str.ofString "_law_sign_by"))
        (Value.str (Str.ofString "_law_sign_by") 405) (Value.ref 176),
      DictEntry.mk (PyData.keyHash P (Str.ofString "_law_row_by"))
        (Value.str (Str.ofString "_law_row_by") 418) (Value.ref 183),
      DictEntry.mk (PyData.keyHash P (Str.ofString "_law_bent"))
        (Value.str (Str.ofString "_law_bent") 430) (Value.ref 190),
      DictEntry.mk (PyData.keyHash P (Str.ofString "_law_number_of"))
        (Value.str (Str.ofString "_law_number_of") 439) (Value.ref 197),
      DictEntry.mk (PyData.keyHash P (Str.ofString "_law_named"))
        (Value.str (Str.ofString "_law_named") 447) (Value.ref 204),
      DictEntry.mk (PyData.keyHash P (Str.ofString "_law_due"))
        (Value.str (Str.ofString "_law_due") 459) (Value.ref 211),
      DictEntry.mk (PyData.keyHash P (Str.ofString "law"))
        (Value.str (Str.ofString "law") 472) (Value.ref 218)]
    37)
  #[]),
  (23, Obj.mk (Value.type "dict") none
  (Data.dict
    #[DictEntry.mk (PyData.keyHash P (Str.ofString "__module__"))
        (Value.str (Str.ofString "__module__") 196)
        (Value.str (Str.ofString "gossipcount.errors") 187),
      DictEntry.mk (PyData.keyHash P (Str.ofString "__firstlineno__"))
        (Value.str (Str.ofString "__firstlineno__") 200) (Value.int 2 199),
      DictEntry.mk (PyData.keyHash P (Str.ofString "__static_attributes__"))
        (Value.str (Str.ofString "__static_attributes__") 201) (Value.ref 22),
      DictEntry.mk (PyData.keyHash P (Str.ofString "__weakref__"))
        (Value.str (Str.ofString "__weakref__") 203) (Value.ref 25),
      DictEntry.mk (PyData.keyHash P (Str.ofString "__doc__"))
        (Value.str (Str.ofString "__doc__") 204) Value.none]
    3)
  #[]),
  (24, Obj.mk (Value.type "type") none
  (Data.cls
    (ClassData.mk (Str.ofString "GossipError") [Value.type "ValueError"]
      [Value.ref 24, Value.type "ValueError", Value.type "Exception",
        Value.type "BaseException", Value.type "object"]
      23 (Str.ofString "GossipError") true []
      [Value.ref 37, Value.ref 49, Value.ref 61, Value.ref 73, Value.ref 85] false
      none false))
  #[some (Value.ref 15), none, some (Value.str (Str.ofString "GossipError") 189),
    some (Value.str (Str.ofString "GossipError") 197),
    some (Value.builtin "ValueError.__new__"), some (Value.bool true)]),
  (36, Obj.mk (Value.type "dict") none
  (Data.dict
    #[DictEntry.mk (PyData.keyHash P (Str.ofString "__module__"))
        (Value.str (Str.ofString "__module__") 214)
        (Value.str (Str.ofString "gossipcount.errors") 187),
      DictEntry.mk (PyData.keyHash P (Str.ofString "__firstlineno__"))
        (Value.str (Str.ofString "__firstlineno__") 218) (Value.int 4 217),
      DictEntry.mk (PyData.keyHash P (Str.ofString "__static_attributes__"))
        (Value.str (Str.ofString "__static_attributes__") 219) (Value.ref 35),
      DictEntry.mk (PyData.keyHash P (Str.ofString "__doc__"))
        (Value.str (Str.ofString "__doc__") 220) Value.none]
    2)
  #[]),
  (37, Obj.mk (Value.type "type") none
  (Data.cls
    (ClassData.mk (Str.ofString "NoName") [Value.ref 24]
      [Value.ref 37, Value.ref 24, Value.type "ValueError", Value.type "Exception",
        Value.type "BaseException", Value.type "object"]
      36 (Str.ofString "NoName") true [] [] false none false))
  #[some (Value.ref 28), none, some (Value.str (Str.ofString "NoName") 207),
    some (Value.str (Str.ofString "NoName") 215),
    some (Value.builtin "ValueError.__new__"), some (Value.bool true)]),
  (48, Obj.mk (Value.type "dict") none
  (Data.dict
    #[DictEntry.mk (PyData.keyHash P (Str.ofString "__module__"))
        (Value.str (Str.ofString "__module__") 230)
        (Value.str (Str.ofString "gossipcount.errors") 187),
      DictEntry.mk (PyData.keyHash P (Str.ofString "__firstlineno__"))
        (Value.str (Str.ofString "__firstlineno__") 234) (Value.int 6 233),
      DictEntry.mk (PyData.keyHash P (Str.ofString "__static_attributes__"))
        (Value.str (Str.ofString "__static_attributes__") 235) (Value.ref 47),
      DictEntry.mk (PyData.keyHash P (Str.ofString "__doc__"))
        (Value.str (Str.ofString "__doc__") 236) Value.none]
    2)
  #[]),
  (49, Obj.mk (Value.type "type") none
  (Data.cls
    (ClassData.mk (Str.ofString "NoAmount") [Value.ref 24]
      [Value.ref 49, Value.ref 24, Value.type "ValueError", Value.type "Exception",
        Value.type "BaseException", Value.type "object"]
      48 (Str.ofString "NoAmount") true [] [] false none false))
  #[some (Value.ref 40), none, some (Value.str (Str.ofString "NoAmount") 223),
    some (Value.str (Str.ofString "NoAmount") 231),
    some (Value.builtin "ValueError.__new__"), some (Value.bool true)]),
  (60, Obj.mk (Value.type "dict") none
  (Data.dict
    #[DictEntry.mk (PyData.keyHash P (Str.ofString "__module__"))
        (Value.str (Str.ofString "__module__") 246)
        (Value.str (Str.ofString "gossipcount.errors") 187),
      DictEntry.mk (PyData.keyHash P (Str.ofString "__firstlineno__"))
        (Value.str (Str.ofString "__firstlineno__") 250) (Value.int 8 249),
      DictEntry.mk (PyData.keyHash P (Str.ofString "__static_attributes__"))
        (Value.str (Str.ofString "__static_attributes__") 251) (Value.ref 59),
      DictEntry.mk (PyData.keyHash P (Str.ofString "__doc__"))
        (Value.str (Str.ofString "__doc__") 252) Value.none]
    2)
  #[]),
  (61, Obj.mk (Value.type "type") none
  (Data.cls
    (ClassData.mk (Str.ofString "NoPage") [Value.ref 24]
      [Value.ref 61, Value.ref 24, Value.type "ValueError", Value.type "Exception",
        Value.type "BaseException", Value.type "object"]
      60 (Str.ofString "NoPage") true [] [] false none false))
  #[some (Value.ref 52), none, some (Value.str (Str.ofString "NoPage") 239),
    some (Value.str (Str.ofString "NoPage") 247),
    some (Value.builtin "ValueError.__new__"), some (Value.bool true)]),
  (72, Obj.mk (Value.type "dict") none
  (Data.dict
    #[DictEntry.mk (PyData.keyHash P (Str.ofString "__module__"))
        (Value.str (Str.ofString "__module__") 262)
        (Value.str (Str.ofString "gossipcount.errors") 187),
      DictEntry.mk (PyData.keyHash P (Str.ofString "__firstlineno__"))
        (Value.str (Str.ofString "__firstlineno__") 266) (Value.int 10 265),
      DictEntry.mk (PyData.keyHash P (Str.ofString "__static_attributes__"))
        (Value.str (Str.ofString "__static_attributes__") 267) (Value.ref 71),
      DictEntry.mk (PyData.keyHash P (Str.ofString "__doc__"))
        (Value.str (Str.ofString "__doc__") 268) Value.none]
    2)
  #[]),
  (73, Obj.mk (Value.type "type") none
  (Data.cls
    (ClassData.mk (Str.ofString "Forged") [Value.ref 24]
      [Value.ref 73, Value.ref 24, Value.type "ValueError", Value.type "Exception",
        Value.type "BaseException", Value.type "object"]
      72 (Str.ofString "Forged") true [] [] false none false))
  #[some (Value.ref 64), none, some (Value.str (Str.ofString "Forged") 255),
    some (Value.str (Str.ofString "Forged") 263),
    some (Value.builtin "ValueError.__new__"), some (Value.bool true)]),
  (84, Obj.mk (Value.type "dict") none
  (Data.dict
    #[DictEntry.mk (PyData.keyHash P (Str.ofString "__module__"))
        (Value.str (Str.ofString "__module__") 278)
        (Value.str (Str.ofString "gossipcount.errors") 187),
      DictEntry.mk (PyData.keyHash P (Str.ofString "__firstlineno__"))
        (Value.str (Str.ofString "__firstlineno__") 282) (Value.int 12 281),
      DictEntry.mk (PyData.keyHash P (Str.ofString "__static_attributes__"))
        (Value.str (Str.ofString "__static_attributes__") 283) (Value.ref 83),
      DictEntry.mk (PyData.keyHash P (Str.ofString "__doc__"))
        (Value.str (Str.ofString "__doc__") 284) Value.none]
    2)
  #[]),
  (85, Obj.mk (Value.type "type") none
  (Data.cls
    (ClassData.mk (Str.ofString "NoNote") [Value.ref 24]
      [Value.ref 85, Value.ref 24, Value.type "ValueError", Value.type "Exception",
        Value.type "BaseException", Value.type "object"]
      84 (Str.ofString "NoNote") true [] [] false none false))
  #[some (Value.ref 76), none, some (Value.str (Str.ofString "NoNote") 271),
    some (Value.str (Str.ofString "NoNote") 279),
    some (Value.builtin "ValueError.__new__"), some (Value.bool true)])]


section
variable {prog : Program} {w : World} {B : Shared} {mg mb : Str → Option Value} {scr : Addr} {nums : List Int} {K : Frag}

def isL (c : Nat) : Bool := decide (97 ≤ c ∧ c ≤ 122)
def isNameS (s : Str) : Bool := decide (1 ≤ s.length ∧ s.length ≤ 8) && s.cps.toList.all isL
def letters : Str := Str.ofString "abcdefghijklmnopqrstuvwxyz"
theorem letters_list : letters.cps.toList = List.range' 97 26 := by decide +kernel
theorem in_letters (x : Str) (i : Nat) : inS letters (signAt x i) = isL (x.cps.getD i 0) := by
  unfold signAt isL
  rw [inS_one, letters_list]
  congr 1
  simp only [List.mem_range'_1, eq_iff_iff]
  omega
theorem take_all_succ (x : Str) (i : Nat) (hi : i < x.cps.size) : (x.cps.toList.take (i + 1)).all isL = ((x.cps.toList.take i).all isL && isL (x.cps.getD i 0)) := by
  rw [List.take_add_one, List.all_append]
  have : x.cps.toList[i]? = some (x.cps.getD i 0) := by simp [Array.getD_eq_getD_getElem?, hi]
  rw [this]
  simp

theorem good_is_name : Good (dr pw_uf050040_10 9) ["thing"] :=
  ⟨fun pm code doc vals h => (by obtain ⟨a, rfl⟩ := len_1 h; rfl), by decide +kernel, by decide +kernel, by decide +kernel, rfl, rfl, rfl⟩
theorem cf_is_name (gl : Gl B mg mb) (bl : Blt B mg mb) (S : Scr B scr nums) (H : HasF B mg (dr pw_uf050040_10 9)) (g_L : GC B mg "LETTERS" (.str letters)) :
    CF prog w B mg "is_name" 1 (fun xs σ Q X => (∃ s, xs = [.str s] ∧ s.length < 10 ^ 9 ∧ Q (.bool (isNameS s)) σ) ∨ (∃ x, xs = [x] ∧ NonStr σ x ∧ Q (.bool false) σ)) := by
  refine CF_of gl H good_is_name ?_
  rintro A pm code doc L a₀ _ σ Q X hA (⟨x, rfl, hx, q⟩ | ⟨x, rfl, hx, q⟩)
  all_goals refine ⟨rfl, ?_⟩

  · change WX _ _ _ _ _ (_ :: _) ((_, _) :: []) _ _ _
    refine X_ifs ?_
    with_reducible (refine T_bool ?_; refine Ts_or ?_; refine T_not ?_; refine T_value ?_; refine E_bi (Blt.isinstance_ (by assumption)) (by first | exact Keep.builtin _ | exact Keep.type _) ?_; refine Es_cons ?_; refine E_nm ?_; refine LQ_here ?_; refine Es_cons ?_; refine E_nm ?_; refine LQ_there (by decide +kernel) ?_; refine LQ_nil ?_; refine N_bi (Blt.str_ (by assumption)) ?_; refine Es_nil ?_; refine isi_str (isi_str_str) ?_; refine T_b ?_; refine iteNo (by decide) ?_; refine Ts_or ?_; refine T_not ?_)
    refine T_as (decide (1 ≤ x.length ∧ x.length ≤ 8)) ?_ ?_
    · refine T_cmp2 ?_
      with_reducible (refine E_int ?_; refine E_bi (Blt.len_ (by assumption)) (by first | exact Keep.builtin _ | exact Keep.type _) ?_; refine Es_cons ?_; refine E_nm ?_; refine LQ_here ?_; refine Es_nil ?_)
      refine C_len_str (by omega) ?_
      with_reducible (refine O_le ?_; refine T_b ?_)
      refine iteD (fun h => ?_) (fun h => ?_)
      · with_reducible (refine E_int ?_; refine O_le ?_; refine T_b ?_)
        exact ⟨by congr 1; simp; omega, rfl⟩
      · skip
        exact ⟨by symm; simp; omega, rfl⟩
    unfold isNameS at q
    refine iteDn (fun h => ?_) (fun h => ?_)
    · with_reducible (refine iteT ?_; refine X_ret ?_; refine E_bool ?_; refine sq_ret ?_)
      refine R_all ?_
      simpa [h] using q
    · with_reducible (refine Ts_or_nil ?_; refine iteF ?_; refine X_nil ?_; refine sq_next ?_)
      refine X_fors ?_
      with_reducible (refine E_nm ?_; refine LQ_here ?_)
      refine ForG.mk (ι := Unit) (fun i _ => (x.cps.toList.take i).all isL = true) (fun _ _ => [("thing", .str x)]) (fun _ _ => σ) (It_str hA.handled) () (by simp) rfl trivial (by with_reducible (refine Sub.cons ?_; refine LQ_here ?_; refine ⟨rfl, ?_⟩; exact Sub.nil)) ?_ ?_
      · rintro i ⟨⟩ hi hD -
        refine X_ifs ?_
        with_reducible (refine T_cmp1 ?_; refine E_nm ?_; refine LQ_here ?_; refine E_nm ?_; refine LQ_there (by decide +kernel) ?_; refine LQ_there (by decide +kernel) ?_; refine LQ_nil ?_; refine N_gc (by assumption) ?_)
        refine O_notins ?_
        with_reducible (refine T_b ?_)
        rw [in_letters]
        refine iteB (fun hl => ?_) (fun hl => ?_)
        · with_reducible (refine X_ret ?_; refine E_bool ?_; refine sq_ret ?_; refine TJ_ret ?_; refine sq_ret ?_)
          refine R_all ?_
          have : x.cps.toList.all isL = false := by
            rw [List.all_eq_false]
            exact ⟨x.cps.getD i 0, by simp [Array.getD_eq_getD_getElem?, hi], by simpa using hl⟩
          simpa [this] using q
        · with_reducible (refine X_nil ?_; refine sq_next ?_; refine X_nil ?_)
          exact TJ_next () (by rw [take_all_succ x i hi, hD]; simpa using hl) rfl trivial (by with_reducible (refine Sub.cons ?_; refine LQ_there (by decide +kernel) ?_; refine LQ_here ?_; refine ⟨rfl, ?_⟩; exact Sub.nil))
      · rintro ⟨⟩ hD -
        with_reducible (refine X_ret ?_; refine E_bool ?_)
        refine R_all ?_
        have e : x.cps.toList.take x.cps.size = x.cps.toList := List.take_of_length_le (by simp)
        rw [e] at hD
        simpa [h, hD] using q
  · change WX _ _ _ _ _ (_ :: _) ((_, _) :: []) _ _ _
    refine X_ifs ?_
    with_reducible (refine T_bool ?_; refine Ts_or ?_; refine T_not ?_; refine T_value ?_; refine E_bi (Blt.isinstance_ (by assumption)) (by first | exact Keep.builtin _ | exact Keep.type _) ?_; refine Es_cons ?_; refine E_nm ?_; refine LQ_here ?_; refine Es_cons ?_; refine E_nm ?_; refine LQ_there (by decide +kernel) ?_; refine LQ_nil ?_; refine N_bi (Blt.str_ (by assumption)) ?_; refine Es_nil ?_)
    refine isi_non hx ?_
    with_reducible (refine T_b ?_; refine iteYes (by decide) ?_; refine iteT ?_; refine X_ret ?_; refine E_bool ?_; refine sq_ret ?_)
    exact R_all q

theorem good_is_part : Good (dr pw_uf050040_10 12) ["thing"] :=
  ⟨fun pm code doc vals h => (by obtain ⟨a, rfl⟩ := len_1 h; rfl), by decide +kernel, by decide +kernel, by decide +kernel, rfl, rfl, rfl⟩
theorem cf_is_part (gl : Gl B mg mb) (bl : Blt B mg mb) (S : Scr B scr nums) (H : HasF B mg (dr pw_uf050040_10 12)) :
    CF prog w B mg "is_part" 1 (fun xs σ Q X => (∃ n, xs = [.int n] ∧ Q (.bool (decide (0 ≤ n ∧ n < 10 ^ 60))) σ) ∨ (∃ x, xs = [x] ∧ NonInt σ x ∧ Q (.bool false) σ)) := by
  refine CF_of gl H good_is_part ?_
  rintro A pm code doc L a₀ _ σ Q X hA (⟨n, rfl, q⟩ | ⟨x, rfl, (⟨b, rfl⟩ | hx), q⟩)
  all_goals refine ⟨rfl, ?_⟩

  · change WX _ _ _ _ _ (_ :: _) ((_, _) :: []) _ _ _
    with_reducible (refine X_ret ?_)
    refine E_boolop ?_
    with_reducible (refine Bo_and ?_; refine E_bi (Blt.isinstance_ (by assumption)) (by first | exact Keep.builtin _ | exact Keep.type _) ?_; refine Es_cons ?_; refine E_nm ?_; refine LQ_here ?_; refine Es_cons ?_; refine E_nm ?_; refine LQ_there (by decide +kernel) ?_; refine LQ_nil ?_; refine N_bi (Blt.int_ (by assumption)) ?_; refine Es_nil ?_; refine isi_int (isi_int_int) ?_; refine T_b ?_; refine iteT ?_; refine Bo_and ?_; refine E_un ?_; refine E_bi (Blt.isinstance_ (by assumption)) (by first | exact Keep.builtin _ | exact Keep.type _) ?_; refine Es_cons ?_; refine E_nm ?_; refine LQ_here ?_; refine Es_cons ?_; refine E_nm ?_; refine LQ_there (by decide +kernel) ?_; refine LQ_nil ?_; refine N_bi (Blt.bool_ (by assumption)) ?_; refine Es_nil ?_; refine isi_int (isi_int_bool) ?_; refine O_not ?_; refine T_b ?_; refine iteYes (by decide) ?_; refine Bo_one ?_)
    refine E_cmp2 ?_
    with_reducible (refine E_int ?_; refine E_nm ?_; refine LQ_here ?_; refine O_le ?_; refine T_b ?_)
    refine iteD (fun h => ?_) (fun h => ?_)
    · with_reducible (refine E_bin ?_; refine E_int ?_; refine E_int ?_; refine O_pow60 ?_; refine O_lt ?_)
      refine R_all ?_
      simpa only [h, true_and] using q
    · refine R_all ?_
      simpa only [h, false_and] using q
  · change WX _ _ _ _ _ (_ :: _) ((_, _) :: []) _ _ _
    with_reducible (refine X_ret ?_)
    refine E_boolop ?_
    with_reducible (refine Bo_and ?_; refine E_bi (Blt.isinstance_ (by assumption)) (by first | exact Keep.builtin _ | exact Keep.type _) ?_; refine Es_cons ?_; refine E_nm ?_; refine LQ_here ?_; refine Es_cons ?_; refine E_nm ?_; refine LQ_there (by decide +kernel) ?_; refine LQ_nil ?_; refine N_bi (Blt.int_ (by assumption)) ?_; refine Es_nil ?_; refine isi_bool (isi_bool_int) ?_; refine T_b ?_; refine iteT ?_; refine Bo_and ?_; refine E_un ?_; refine E_bi (Blt.isinstance_ (by assumption)) (by first | exact Keep.builtin _ | exact Keep.type _) ?_; refine Es_cons ?_; refine E_nm ?_; refine LQ_here ?_; refine Es_cons ?_; refine E_nm ?_; refine LQ_there (by decide +kernel) ?_; refine LQ_nil ?_; refine N_bi (Blt.bool_ (by assumption)) ?_; refine Es_nil ?_; refine isi_bool (isi_bool_bool) ?_; refine O_not ?_; refine T_b ?_; refine iteNo (by decide) ?_)
    exact R_all q
  · change WX _ _ _ _ _ (_ :: _) ((_, _) :: []) _ _ _
    with_reducible (refine X_ret ?_)
    refine E_boolop ?_
    with_reducible (refine Bo_and ?_; refine E_bi (Blt.isinstance_ (by assumption)) (by first | exact Keep.builtin _ | exact Keep.type _) ?_; refine Es_cons ?_; refine E_nm ?_; refine LQ_here ?_; refine Es_cons ?_; refine E_nm ?_; refine LQ_there (by decide +kernel) ?_; refine LQ_nil ?_; refine N_bi (Blt.int_ (by assumption)) ?_; refine Es_nil ?_)
    refine isi_non hx ?_
    with_reducible (refine T_b ?_; refine iteF ?_)
    exact R_all q

def shareB : V → Bool
  | .tup [.int a, .int b] => decide ((0 ≤ a ∧ a < 10 ^ 60) ∧ (0 ≤ b ∧ b < 10 ^ 60) ∧ 0 < a + b)
  | _ => false
/-- what is_share tells of a thing -/
inductive ShareR (σ : List AObj) : V → Prop
  | good (a b : Int) : ShareR σ (.tup [.int a, .int b])
  | left (x y : V) : NonInt σ x → ShareR σ (.tup [x, y])
  | right (a : Int) (y : V) : NonInt σ y → ShareR σ (.tup [.int a, y])
  | one (x : V) : ShareR σ (.tup [x])
  | three (x y z : V) : ShareR σ (.tup [x, y, z])
  | non (x : V) : NonTup σ x → ShareR σ x
theorem NonInt.map {σ σ' : List AObj} {x : V} (f : ∀ T, TyV σ x T → TyV σ' x T) (h : NonInt σ x) : NonInt σ' x := h.imp id fun ⟨T, h1, h2⟩ => ⟨T, f T h1, h2⟩
theorem ShareR.map {σ σ' : List AObj} {x : V} (f : ∀ y T, TyV σ y T → TyV σ' y T) (h : ShareR σ x) : ShareR σ' x := by
  cases h with
  | good a b => exact .good a b
  | left x y h => exact .left x y (h.map (f x))
  | right a y h => exact .right a y (h.map (f y))
  | one x => exact .one x
  | three x y z => exact .three x y z
  | non x h => obtain ⟨T, h1, h2⟩ := h; exact .non x ⟨T, f x T h1, h2⟩
theorem nonInt_not {σ : List AObj} {a : Int} (h : NonInt σ (.int a)) : False := by
  rcases h with ⟨b, e⟩ | ⟨T, h1, h2⟩
  · cases e
  · cases h1
    have := h2.2.2.2 rfl
    revert this; decide
theorem shareB_left {σ : List AObj} {x y : V} (h : NonInt σ x) : shareB (.tup [x, y]) = false := by
  unfold shareB
  split
  · rename_i a b e
    cases e
    exact (nonInt_not h).elim
  · rfl
theorem shareB_right {σ : List AObj} {x y : V} (h : NonInt σ y) : shareB (.tup [x, y]) = false := by
  unfold shareB
  split
  · rename_i a b e
    cases e
    exact (nonInt_not h).elim
  · rfl
theorem shareB_non {σ : List AObj} {x : V} (h : NonTup σ x) : shareB x = false := by
  unfold shareB
  split
  · obtain ⟨T, h1, h2⟩ := h
    cases h1
    exact absurd (h2.2.2.2 rfl) (by decide)
  · rfl
theorem shareB_one (x : V) : shareB (.tup [x]) = false := by
  unfold shareB
  split
  · rename_i e; cases e
  · rfl
theorem shareB_three (x y z : V) : shareB (.tup [x, y, z]) = false := by
  unfold shareB
  split
  · rename_i e; cases e
  · rfl

theorem good_is_share : Good (dr pw_uf050040_10 13) ["thing"] :=
  ⟨fun pm code doc vals h => (by obtain ⟨a, rfl⟩ := len_1 h; rfl), by decide +kernel, by decide +kernel, by decide +kernel, rfl, rfl, rfl⟩
theorem cf_is_share (gl : Gl B mg mb) (bl : Blt B mg mb) (S : Scr B scr nums) (H : HasF B mg (dr pw_uf050040_10 13))
    (c_is_part : CF prog w B mg "is_part" 1 (fun xs σ Q X => (∃ n, xs = [.int n] ∧ Q (.bool (decide (0 ≤ n ∧ n < 10 ^ 60))) σ) ∨ (∃ x, xs = [x] ∧ NonInt σ x ∧ Q (.bool false) σ))) :
    CF prog w B mg "is_share" 2 (fun xs σ Q X => ∃ x, xs = [x] ∧ ShareR σ x ∧ Q (.bool (shareB x)) σ) := by
  refine CF_of gl H good_is_share ?_
  rintro A pm code doc L a₀ _ σ Q X hA ⟨x, rfl, hx, q⟩
  all_goals refine ⟨rfl, ?_⟩

  cases hx with
  | good a b =>
    change WX _ _ _ _ _ (_ :: _) ((_, _) :: []) _ _ _
    refine X_ifs ?_
    with_reducible (refine T_bool ?_; refine Ts_or ?_; refine T_not ?_; refine T_value ?_; refine E_bi (Blt.isinstance_ (by assumption)) (by first | exact Keep.builtin _ | exact Keep.type _) ?_; refine Es_cons ?_; refine E_nm ?_; refine LQ_here ?_; refine Es_cons ?_; refine E_nm ?_; refine LQ_there (by decide +kernel) ?_; refine LQ_nil ?_; refine N_bi (Blt.tuple_ (by assumption)) ?_; refine Es_nil ?_; refine isi_tup (isi_tuple_tuple) ?_; refine T_b ?_; refine iteNo (by decide) ?_; refine Ts_or ?_; refine T_cmp1 ?_; refine E_bi (Blt.len_ (by assumption)) (by first | exact Keep.builtin _ | exact Keep.type _) ?_; refine Es_cons ?_; refine E_nm ?_; refine LQ_here ?_; refine Es_nil ?_; refine C_len_t2 ?_; refine E_int ?_; refine O_ne ?_; refine T_b ?_; refine iteNo (by decide) ?_; refine Ts_or_nil ?_; refine iteF ?_; refine X_nil ?_; refine sq_next ?_; refine X_ret ?_)
    refine E_boolop ?_
    with_reducible (refine Bo_and ?_; refine E_cf (by assumption) (AOk.le (by assumption) (by decide)) ?_; refine Es_cons ?_; refine E_sub ?_; refine E_nm ?_; refine LQ_here ?_; refine E_int ?_; refine S_t0 ?_; refine Es_nil ?_)
    refine .inl ⟨_, rfl, ?_⟩
    with_reducible (refine T_b ?_)
    unfold shareB at q
    refine iteD (fun h => ?_) (fun h => ?_)
    · with_reducible (refine Bo_and ?_; refine E_cf (by assumption) (AOk.le (by assumption) (by decide)) ?_; refine Es_cons ?_; refine E_sub ?_; refine E_nm ?_; refine LQ_here ?_; refine E_int ?_; refine S_t1 ?_; refine Es_nil ?_)
      refine .inl ⟨_, rfl, ?_⟩
      with_reducible (refine T_b ?_)
      refine iteD (fun h' => ?_) (fun h' => ?_)
      · with_reducible (refine Bo_one ?_; refine E_cmp1 ?_; refine E_bin ?_; refine E_sub ?_; refine E_nm ?_; refine LQ_here ?_; refine E_int ?_; refine S_t0 ?_; refine E_sub ?_; refine E_nm ?_; refine LQ_here ?_; refine E_int ?_; refine S_t1 ?_; refine O_add ?_; refine E_int ?_; refine O_gt ?_)
        refine R_all ?_
        simpa only [h, h', true_and] using q
      · refine R_all ?_
        simpa only [h, h', true_and, false_and] using q
    · refine R_all ?_
      simpa only [h, false_and] using q
  | left x y h =>
    change WX _ _ _ _ _ (_ :: _) ((_, _) :: []) _ _ _
    rw [shareB_left h] at q
    refine X_ifs ?_
    with_reducible (refine T_bool ?_; refine Ts_or ?_; refine T_not ?_; refine T_value ?_; refine E_bi (Blt.isinstance_ (by assumption)) (by first | exact Keep.builtin _ | exact Keep.type _) ?_; refine Es_cons ?_; refine E_nm ?_; refine LQ_here ?_; refine Es_cons ?_; refine E_nm ?_; refine LQ_there (by decide +kernel) ?_; refine LQ_nil ?_; refine N_bi (Blt.tuple_ (by assumption)) ?_; refine Es_nil ?_; refine isi_tup (isi_tuple_tuple) ?_; refine T_b ?_; refine iteNo (by decide) ?_; refine Ts_or ?_; refine T_cmp1 ?_; refine E_bi (Blt.len_ (by assumption)) (by first | exact Keep.builtin _ | exact Keep.type _) ?_; refine Es_cons ?_; refine E_nm ?_; refine LQ_here ?_; refine Es_nil ?_; refine C_len_t2 ?_; refine E_int ?_; refine O_ne ?_; refine T_b ?_; refine iteNo (by decide) ?_; refine Ts_or_nil ?_; refine iteF ?_; refine X_nil ?_; refine sq_next ?_; refine X_ret ?_)
    refine E_boolop ?_
    with_reducible (refine Bo_and ?_; refine E_cf (by assumption) (AOk.le (by assumption) (by decide)) ?_; refine Es_cons ?_; refine E_sub ?_; refine E_nm ?_; refine LQ_here ?_; refine E_int ?_; refine S_t0 ?_; refine Es_nil ?_)
    refine .inr ⟨_, rfl, h, ?_⟩
    with_reducible (refine T_b ?_; refine iteF ?_)
    exact R_all q
  | right a y h =>
    change WX _ _ _ _ _ (_ :: _) ((_, _) :: []) _ _ _
    rw [shareB_right h] at q
    refine X_ifs ?_
    with_reducible (refine T_bool ?_; refine Ts_or ?_; refine T_not ?_; refine T_value ?_; refine E_bi (Blt.isinstance_ (by assumption)) (by first | exact Keep.builtin _ | exact Keep.type _) ?_; refine Es_cons ?_; refine E_nm ?_; refine LQ_here ?_; refine Es_cons ?_; refine E_nm ?_; refine LQ_there (by decide +kernel) ?_; refine LQ_nil ?_; refine N_bi (Blt.tuple_ (by assumption)) ?_; refine Es_nil ?_; refine isi_tup (isi_tuple_tuple) ?_; refine T_b ?_; refine iteNo (by decide) ?_; refine Ts_or ?_; refine T_cmp1 ?_; refine E_bi (Blt.len_ (by assumption)) (by first | exact Keep.builtin _ | exact Keep.type _) ?_; refine Es_cons ?_; refine E_nm ?_; refine LQ_here ?_; refine Es_nil ?_; refine C_len_t2 ?_; refine E_int ?_; refine O_ne ?_; refine T_b ?_; refine iteNo (by decide) ?_; refine Ts_or_nil ?_; refine iteF ?_; refine X_nil ?_; refine sq_next ?_; refine X_ret ?_)
    refine E_boolop ?_
    with_reducible (refine Bo_and ?_; refine E_cf (by assumption) (AOk.le (by assumption) (by decide)) ?_; refine Es_cons ?_; refine E_sub ?_; refine E_nm ?_; refine LQ_here ?_; refine E_int ?_; refine S_t0 ?_; refine Es_nil ?_)
    refine .inl ⟨_, rfl, ?_⟩
    with_reducible (refine T_b ?_)
    refine iteD (fun h' => ?_) (fun h' => ?_)
    · with_reducible (refine Bo_and ?_; refine E_cf (by assumption) (AOk.le (by assumption) (by decide)) ?_; refine Es_cons ?_; refine E_sub ?_; refine E_nm ?_; refine LQ_here ?_; refine E_int ?_; refine S_t1 ?_; refine Es_nil ?_)
      refine .inr ⟨_, rfl, h, ?_⟩
      with_reducible (refine T_b ?_; refine iteF ?_)
      exact R_all q
    · refine R_all ?_
      rw [decide_eq_false h']
      exact q
  | one x =>
    change WX _ _ _ _ _ (_ :: _) ((_, _) :: []) _ _ _
    rw [shareB_one] at q
    refine X_ifs ?_
    with_reducible (refine T_bool ?_; refine Ts_or ?_; refine T_not ?_; refine T_value ?_; refine E_bi (Blt.isinstance_ (by assumption)) (by first | exact Keep.builtin _ | exact Keep.type _) ?_; refine Es_cons ?_; refine E_nm ?_; refine LQ_here ?_; refine Es_cons ?_; refine E_nm ?_; refine LQ_there (by decide +kernel) ?_; refine LQ_nil ?_; refine N_bi (Blt.tuple_ (by assumption)) ?_; refine Es_nil ?_; refine isi_tup (isi_tuple_tuple) ?_; refine T_b ?_; refine iteNo (by decide) ?_; refine Ts_or ?_; refine T_cmp1 ?_; refine E_bi (Blt.len_ (by assumption)) (by first | exact Keep.builtin _ | exact Keep.type _) ?_; refine Es_cons ?_; refine E_nm ?_; refine LQ_here ?_; refine Es_nil ?_; refine C_len_t1 ?_; refine E_int ?_; refine O_ne ?_; refine T_b ?_; refine iteYes (by decide) ?_; refine iteT ?_; refine X_ret ?_; refine E_bool ?_; refine sq_ret ?_)
    exact R_all q
  | three x y z =>
    change WX _ _ _ _ _ (_ :: _) ((_, _) :: []) _ _ _
    rw [shareB_three] at q
    refine X_ifs ?_
    with_reducible (refine T_bool ?_; refine Ts_or ?_; refine T_not ?_; refine T_value ?_; refine E_bi (Blt.isinstance_ (by assumption)) (by first | exact Keep.builtin _ | exact Keep.type _) ?_; refine Es_cons ?_; refine E_nm ?_; refine LQ_here ?_; refine Es_cons ?_; refine E_nm ?_; refine LQ_there (by decide +kernel) ?_; refine LQ_nil ?_; refine N_bi (Blt.tuple_ (by assumption)) ?_; refine Es_nil ?_; refine isi_tup (isi_tuple_tuple) ?_; refine T_b ?_; refine iteNo (by decide) ?_; refine Ts_or ?_; refine T_cmp1 ?_; refine E_bi (Blt.len_ (by assumption)) (by first | exact Keep.builtin _ | exact Keep.type _) ?_; refine Es_cons ?_; refine E_nm ?_; refine LQ_here ?_; refine Es_nil ?_; refine C_len_t3 ?_; refine E_int ?_; refine O_ne ?_; refine T_b ?_; refine iteYes (by decide) ?_; refine iteT ?_; refine X_ret ?_; refine E_bool ?_; refine sq_ret ?_)
    exact R_all q
  | non x h =>
    change WX _ _ _ _ _ (_ :: _) ((_, _) :: []) _ _ _
    rw [shareB_non h] at q
    refine X_ifs ?_
    with_reducible (refine T_bool ?_; refine Ts_or ?_; refine T_not ?_; refine T_value ?_; refine E_bi (Blt.isinstance_ (by assumption)) (by first | exact Keep.builtin _ | exact Keep.type _) ?_; refine Es_cons ?_; refine E_nm ?_; refine LQ_here ?_; refine Es_cons ?_; refine E_nm ?_; refine LQ_there (by decide +kernel) ?_; refine LQ_nil ?_; refine N_bi (Blt.tuple_ (by assumption)) ?_; refine Es_nil ?_)
    refine isi_non h ?_
    with_reducible (refine T_b ?_; refine iteYes (by decide) ?_; refine iteT ?_; refine X_ret ?_; refine E_bool ?_; refine sq_ret ?_)
    exact R_all q

def keyB : Key → Bool
  | .s x => isNameS x
  | .i _ => false
def keyLen : Key → Prop
  | .s x => x.length < 10 ^ 9
  | .i _ => True
def pageB (es : List (Key × V)) : Bool := decide (es.length ≤ 200) && es.all fun p => keyB p.1 && shareB p.2
theorem all_take_succ {α : Type} (f : α → Bool) (l : List α) (i : Nat) (hi : i < l.length) : (l.take (i + 1)).all f = ((l.take i).all f && f l[i]) := by
  rw [List.take_add_one, List.all_append, List.getElem?_eq_getElem hi]
  simp

theorem good_is_page : Good (dr pw_uf050040_10 14) ["thing"] :=
  ⟨fun pm code doc vals h => (by obtain ⟨a, rfl⟩ := len_1 h; rfl), by decide +kernel, by decide +kernel, by decide +kernel, rfl, rfl, rfl⟩
theorem cf_is_page (gl : Gl B mg mb) (bl : Blt B mg mb) (S : Scr B scr nums) (H : HasF B mg (dr pw_uf050040_10 14)) (g_M : GC B mg "MOST_NAMES" (.int 200))
    (c_is_name : CF prog w B mg "is_name" 1 (fun xs σ Q X => (∃ s, xs = [.str s] ∧ s.length < 10 ^ 9 ∧ Q (.bool (isNameS s)) σ) ∨ (∃ x, xs = [x] ∧ NonStr σ x ∧ Q (.bool false) σ)))
    (c_is_share : CF prog w B mg "is_share" 2 (fun xs σ Q X => ∃ x, xs = [x] ∧ ShareR σ x ∧ Q (.bool (shareB x)) σ)) :
    CF prog w B mg "is_page" 3 (fun xs σ Q X => (∃ k es e, xs = [.ref k] ∧ σ[k]? = some (.dict es e) ∧ es.length ≤ 100000 ∧ (∀ p ∈ es, keyLen p.1 ∧ ShareR σ p.2) ∧ Q (.bool (pageB es)) σ) ∨ (∃ x, xs = [x] ∧ NonDict σ x ∧ Q (.bool false) σ)) := by
  refine CF_of gl H good_is_page ?_
  rintro A pm code doc L a₀ _ σ Q X hA (⟨k, es, e, rfl, hk, hlen, hes, q⟩ | ⟨x, rfl, hx, q⟩)
  all_goals refine ⟨rfl, ?_⟩

  · change WX _ _ _ _ _ (_ :: _) ((_, _) :: []) _ _ _
    refine X_keys hk fun hnd => ?_
    refine X_ifs ?_
    with_reducible (refine T_bool ?_; refine Ts_or ?_; refine T_not ?_; refine T_value ?_; refine E_bi (Blt.isinstance_ (by assumption)) (by first | exact Keep.builtin _ | exact Keep.type _) ?_; refine Es_cons ?_; refine E_nm ?_; refine LQ_here ?_; refine Es_cons ?_; refine E_nm ?_; refine LQ_there (by decide +kernel) ?_; refine LQ_nil ?_; refine N_bi (Blt.dict_ (by assumption)) ?_; refine Es_nil ?_)
    refine isi_dict hk isi_dict_dict ?_
    with_reducible (refine T_b ?_; refine iteNo (by decide) ?_; refine Ts_or ?_; refine T_cmp1 ?_; refine E_bi (Blt.len_ (by assumption)) (by first | exact Keep.builtin _ | exact Keep.type _) ?_; refine Es_cons ?_; refine E_nm ?_; refine LQ_here ?_; refine Es_nil ?_)
    refine C_len_dict hk (by omega) ?_
    with_reducible (refine E_nm ?_; refine LQ_there (by decide +kernel) ?_; refine LQ_nil ?_; refine N_gc (by assumption) ?_; refine O_gt ?_; refine T_b ?_)
    unfold pageB at q
    refine iteD (fun h => ?_) (fun h => ?_)
    · with_reducible (refine iteT ?_; refine X_ret ?_; refine E_bool ?_; refine sq_ret ?_)
      refine R_all ?_
      rw [decide_eq_false (by omega)] at q
      exact q
    · with_reducible (refine Ts_or_nil ?_; refine iteF ?_; refine X_nil ?_; refine sq_next ?_)
      rw [decide_eq_true (by omega), Bool.true_and] at q
      refine X_ford (ι := Unit) (fun i _ => (es.take i).all (fun p => keyB p.1 && shareB p.2) = true) (fun _ _ => [("thing", .ref k)]) (fun _ _ => σ) () hA.handled hk (fun ep => ?_) (by simp) rfl (by with_reducible (refine Sub.cons ?_; refine LQ_here ?_; refine ⟨rfl, ?_⟩; exact Sub.nil)) (fun _ _ _ => hk) ?_ ?_
      · with_reducible (refine E_nm ?_; refine LQ_here ?_; refine ⟨rfl, ?_⟩)
        first | exact ⟨rfl, rfl⟩ | rfl
      · rintro ep i ⟨⟩ hi hD
        have hmem : es[i] ∈ es := List.getElem_mem hi
        obtain ⟨hkl, hsh⟩ := hes _ hmem
        have hall := all_take_succ (fun p : Key × V => keyB p.1 && shareB p.2) es i hi
        rw [hD, Bool.true_and] at hall
        have bad : (keyB es[i].1 && shareB es[i].2) = false → es.all (fun p => keyB p.1 && shareB p.2) = false := fun hb => by
          rw [List.all_eq_false]; exact ⟨_, hmem, by rw [hb]; decide⟩
        have hat := at_get hnd hi
        rw [keyAt_get hi]
        generalize es[i] = p at *
        obtain ⟨key, v⟩ := p
        dsimp only at *
        refine X_ifs ?_
        refine T_as (!(keyB key && shareB v)) ?_ ?_
        · have hsh' : ShareR (pin σ k es ep) v := hsh.map fun y T h => h.pin hk
          cases key with
          | s x =>
            with_reducible (refine T_bool ?_; refine Ts_or ?_; refine T_not ?_; refine T_value ?_; refine E_cf (by assumption) (AOk.le (by assumption) (by decide)) ?_; refine Es_cons ?_; refine E_nm ?_; refine LQ_here ?_; refine Es_nil ?_)
            refine .inl ⟨x, rfl, hkl, ?_⟩
            with_reducible (refine T_b ?_)
            refine iteB (fun hb => ?_) (fun hb => ?_)
            · have e : isNameS x = false := by simpa using hb
              skip
              exact ⟨by simp [keyB, e], rfl⟩
            · have e : isNameS x = true := by simpa using hb
              with_reducible (refine Ts_or ?_; refine T_not ?_; refine T_value ?_; refine E_cf (by assumption) (AOk.le (by assumption) (by decide)) ?_; refine Es_cons ?_; refine E_sub ?_; refine E_nm ?_; refine LQ_there (by decide +kernel) ?_; refine LQ_here ?_; refine E_nm ?_; refine LQ_here ?_)
              refine S_dict (key := .s x) (pin_at hk) hat ?_
              with_reducible (refine Es_nil ?_; refine ⟨_, rfl, ?_⟩; refine And.intro (by first | omega | with_unfolding_all exact Nat.le_of_ble_eq_true rfl) ?_; refine T_b ?_)
              try (refine ⟨hsh', ?_⟩; skip)
              refine iteB (fun hb' => ?_) (fun hb' => ?_)
              · have e' : shareB v = false := by simpa using hb'
                skip
                exact ⟨by simp [e'], rfl⟩
              · have e' : shareB v = true := by simpa using hb'
                with_reducible (refine Ts_or_nil ?_)
                exact ⟨by simp [keyB, e, e'], rfl⟩
          | i n =>
            with_reducible (refine T_bool ?_; refine Ts_or ?_; refine T_not ?_; refine T_value ?_; refine E_cf (by assumption) (AOk.le (by assumption) (by decide)) ?_; refine Es_cons ?_; refine E_nm ?_; refine LQ_here ?_; refine Es_nil ?_)
            refine .inr ⟨_, rfl, ⟨_, .int _, isi_int_str⟩, ?_⟩
            with_reducible (refine T_b ?_; refine iteYes (by decide) ?_; refine ⟨rfl, ?_⟩)
            first | rfl | exact ⟨by simp [keyB], rfl⟩
        refine iteB (fun hb => ?_) (fun hb => ?_)
        · with_reducible (refine X_ret ?_; refine E_bool ?_; refine sq_ret ?_)
          refine TD_ret (pin_at hk) ?_
          rw [pin_set hk]
          with_reducible (refine sq_ret ?_)
          rw [bad ((Bool.not_eq_true' _).mp hb)] at q
          exact R_all q
        · with_reducible (refine X_nil ?_; refine sq_next ?_; refine X_nil ?_)
          exact TD_next () (by rw [hall]; simpa using hb) rfl (by with_reducible (refine Sub.cons ?_; refine LQ_there (by decide +kernel) ?_; refine LQ_here ?_; refine ⟨rfl, ?_⟩; exact Sub.nil))
      · rintro ⟨⟩ hD
        with_reducible (refine X_ret ?_; refine E_bool ?_)
        refine R_all ?_
        rw [List.take_length] at hD
        rw [hD] at q
        exact q
  · change WX _ _ _ _ _ (_ :: _) ((_, _) :: []) _ _ _
    refine X_ifs ?_
    with_reducible (refine T_bool ?_; refine Ts_or ?_; refine T_not ?_; refine T_value ?_; refine E_bi (Blt.isinstance_ (by assumption)) (by first | exact Keep.builtin _ | exact Keep.type _) ?_; refine Es_cons ?_; refine E_nm ?_; refine LQ_here ?_; refine Es_cons ?_; refine E_nm ?_; refine LQ_there (by decide +kernel) ?_; refine LQ_nil ?_; refine N_bi (Blt.dict_ (by assumption)) ?_; refine Es_nil ?_)
    refine isi_non hx ?_
    with_reducible (refine T_b ?_; refine iteYes (by decide) ?_; refine iteT ?_; refine X_ret ?_; refine E_bool ?_; refine sq_ret ?_)
    exact R_all q

def sg (c : Nat) : Str := ⟨#[c]⟩
theorem join_sg (l : List Nat) : Txt.join (Str.ofString "") (l.map sg) = ⟨l.toArray⟩ := by
  have : Str.ofString "" = ⟨#[]⟩ := by decide +kernel
  rw [this]; exact join_empty l
theorem joinOk_sg (l : List Nat) (h : l.length ≤ 1000) : JoinOk (Str.ofString "") (l.map sg) = true := by
  refine joinOk_small (fun y hy => ?_) (by simpa using h) (by decide +kernel)
  obtain ⟨c, _, rfl⟩ := List.mem_map.mp hy
  show 1 ≤ 1000
  decide

theorem isNameS_len {x : Str} (h : isNameS x = true) : 1 ≤ x.length ∧ x.length ≤ 8 := by
  unfold isNameS at h
  simp only [Bool.and_eq_true, decide_eq_true_eq] at h
  exact h.1
theorem isNameS_all {x : Str} (h : isNameS x = true) : ∀ c ∈ x.cps.toList, isL c = true := by
  unfold isNameS at h
  simp only [Bool.and_eq_true, List.all_eq_true] at h
  exact h.2

abbrev Pg := List (Str × Int × Int)
abbrev shV (x : Int × Int) : V := .tup [.int x.1, .int x.2]
def toRow (r : Str × Int × Int) : Key × V := (.s r.1, shV r.2)
def pgE (p : Pg) : List (Key × V) := p.map toRow
def look? (p : Pg) (n : Str) : Option (Int × Int) := (p.find? fun r => r.1 = n).map (·.2)
def names (p : Pg) : List Str := p.map (·.1)
def pput (p : Pg) (n : Str) (v : Int × Int) : Pg := if p.any (fun r => r.1 = n) then p.map (fun r => if r.1 = n then (r.1, v) else r) else p ++ [(n, v)]
theorem pgE_length (p : Pg) : (pgE p).length = p.length := by simp [pgE]
theorem pgE_keys (p : Pg) : (pgE p).map (·.1) = (names p).map Key.s := by simp [pgE, names, toRow]
theorem at_pg (p : Pg) (n : Str) : at? (pgE p) (.s n) = (look? p n).map shV := by
  unfold at? look? pgE
  induction p with
  | nil => rfl
  | cons r t ih =>
    by_cases h : r.1 = n
    · simp [toRow, h]
    · simpa [toRow, h] using ih
theorem put_pg (p : Pg) (n : Str) (v : Int × Int) : put (pgE p) (.s n) (shV v) = pgE (pput p n v) := by
  unfold put pput pgE
  have e : (p.map toRow).any (fun e => e.1 = Key.s n) = p.any (fun r => r.1 = n) := by
    rw [List.any_map]; congr 1; funext r; simp [toRow]
  rw [e]
  split
  · rw [List.map_map, List.map_map]; congr 1; funext r
    by_cases h : r.1 = n <;> simp [toRow, h]
  · simp [toRow]
theorem look?_get {p : Pg} (hn : (names p).Nodup) {r : Str × Int × Int} (hr : r ∈ p) : look? p r.1 = some r.2 := by
  unfold look?
  induction p with
  | nil => cases hr
  | cons q t ih =>
    simp only [names, List.map_cons, List.nodup_cons] at hn
    rcases List.mem_cons.mp hr with rfl | h
    · simp
    · have hne : q.1 ≠ r.1 := fun e => hn.1 (e ▸ List.mem_map.mpr ⟨r, h, rfl⟩)
      simpa [hne] using ih hn.2 h
theorem names_nodup {p : Pg} (h : ((pgE p).map (·.1)).Nodup) : (names p).Nodup := by
  rw [pgE_keys] at h
  exact (List.pairwise_map.mp h).imp fun hne e => hne (congrArg Key.s e)
theorem keyAt_pg {p : Pg} {i : Nat} (hi : i < p.length) : keyAt (pgE p) i = .str (p[i]).1 := by
  rw [keyAt_get (by rw [pgE_length]; exact hi)]; simp [pgE, toRow, Key.v]
theorem at_pg_get {p : Pg} (hn : (names p).Nodup) {i : Nat} (hi : i < p.length) : at? (pgE p) (.s (p[i]).1) = some (shV (p[i]).2) := by
  rw [at_pg, look?_get hn (List.getElem_mem hi)]; rfl
def RowOk (r : Str × Int × Int) : Prop := isNameS r.1 = true ∧ 0 ≤ r.2.1 ∧ 0 ≤ r.2.2 ∧ 0 < r.2.1 + r.2.2
def PgOk (p : Pg) : Prop := (names p).Nodup ∧ ∀ r ∈ p, RowOk r
theorem PgOk.nil : PgOk [] := ⟨List.nodup_nil, fun _ h => nomatch h⟩
theorem pgE_lt (p : Pg) (n : Nat) : (AObj.dict (pgE p) none).lt n := by
  simp only [AObj.lt]
  intro q hq
  obtain ⟨r, _, rfl⟩ := List.mem_map.mp hq
  simp [toRow, V.lt, Vs.lt]
theorem isNameS_cps {x : Str} (h : isNameS x = true) : PyData.strOk x = true := by
  have := isNameS_all h
  unfold PyData.strOk
  rw [Array.all_eq_true_iff_forall_mem]
  intro c hc
  have h2 := this c (by simpa using hc)
  unfold isL at h2
  simp only [decide_eq_true_eq] at h2 ⊢
  omega

theorem srt_mem {l : List Str} {x : Str} : x ∈ srt l ↔ x ∈ l := (srt_perm l).mem_iff
theorem slice_beyond {x : Str} {j : Int} (h0 : 0 ≤ j) (hj : (x.length : Int) < j) : Txt.slice x (some j) none = ⟨#[]⟩ := by
  unfold Txt.slice
  have hi : Builtin.Str.strSliceIndices (some j) none 1 x.length = [] := by
    unfold Builtin.Str.strSliceIndices sliceRange
    have h1 : ¬ (j < 0) := by omega
    have e2 : max (0 : Int) (min j (x.length : Int)) = x.length := by omega
    simp only [h1, if_false, e2, show ((1 : Int) > 0) = True from by simp, if_true]
    simp
  rw [hi]
  by_cases h : x.length = 0
  · simp [h]
    simp [Str.length] at h
    cases x; simp at h; rw [h]
  · simp; intro e; omega
theorem slice_from' {x : Str} {j : Int} (h0 : 0 ≤ j) : Txt.slice x (some j) none = ⟨(x.cps.toList.drop j.toNat).toArray⟩ := by
  by_cases hj : j ≤ x.length
  · exact slice_from h0 hj
  · rw [slice_beyond h0 (by omega)]
    have : x.cps.toList.drop j.toNat = [] := List.drop_eq_nil_of_le (by simp [Str.length] at hj ⊢; omega)
    rw [this]
def isF (c : Nat) : Bool := decide (48 ≤ c ∧ c ≤ 57)
def figs : Str := Str.ofString "0123456789"
theorem figs_list : figs.cps.toList = List.range' 48 10 := by decide +kernel
theorem in_figs (x : Str) (i : Nat) : inS figs (signAt x i) = isF (x.cps.getD i 0) := by
  unfold signAt isF
  rw [inS_one, figs_list]
  congr 1
  simp only [List.mem_range'_1, eq_iff_iff]
  omega
theorem take_allF (x : Str) (i : Nat) (hi : i < x.cps.size) : (x.cps.toList.take (i + 1)).all isF = ((x.cps.toList.take i).all isF && isF (x.cps.getD i 0)) := by
  rw [List.take_add_one, List.all_append]
  have : x.cps.toList[i]? = some (x.cps.getD i 0) := by simp [Array.getD_eq_getD_getElem?, hi]
  rw [this]
  simp
/-- the figures behind the sign -/
def tl (x : Str) : Str := ⟨(x.cps.toList.drop 1).toArray⟩
def hdS (x : Str) : Str := ⟨(x.cps.toList.take 1).toArray⟩
theorem tl_len (x : Str) : (tl x).length = x.length - 1 := by simp [tl, Str.length]
/-- a word that tells a number behind the sign h -/
def condB (h : Str) (x : Str) : Bool := decide (hdS x = h) && decide (1 ≤ (tl x).length ∧ (tl x).length ≤ 60) && !(decide (signAt (tl x) 0 = "0") && decide (1 < (tl x).length))
def numOK (h : Str) (x : Str) : Bool := condB h x && (tl x).cps.toList.all isF
theorem condB_len {h x : Str} (hx : condB h x = true) : 1 ≤ (tl x).length ∧ (tl x).length ≤ 60 := by
  unfold condB at hx
  simp only [Bool.and_eq_true, decide_eq_true_eq] at hx
  exact hx.1.2
def numV (x : Str) : Int := (NumText.digitsVal (tl x).cps.toList : Nat)
theorem isF_all {l : List Nat} (h : l.all isF = true) : NumText.AllDigits l := fun c hc => by
  have := List.all_eq_true.mp h c hc
  simpa [isF] using this
theorem val_lt : ∀ (l : List Nat) (a : Nat), NumText.AllDigits l → l.foldl (fun acc c => acc * 10 + (c - 48)) a < (a + 1) * 10 ^ l.length
  | [], a, _ => by simp
  | c :: r, a, h => by
    have h1 := h c (.head _)
    have := val_lt r (a * 10 + (c - 48)) fun d hd => h d (.tail _ hd)
    rw [List.foldl_cons, List.length_cons, Nat.pow_succ]
    refine Nat.lt_of_lt_of_le this ?_
    rw [Nat.mul_comm (10 ^ r.length) 10, ← Nat.mul_assoc]
    exact Nat.mul_le_mul_right _ (by omega)
theorem numV_lt {h x : Str} (hx : numOK h x = true) : 0 ≤ numV x ∧ numV x < 10 ^ 60 := by
  unfold numOK at hx
  rw [Bool.and_eq_true] at hx
  have h1 := condB_len hx.1
  have h2 := hx.2
  have := val_lt _ 0 (isF_all h2)
  have h3 : 10 ^ (tl x).cps.toList.length ≤ 10 ^ 60 := Nat.pow_le_pow_right (by decide) (by simpa [Str.length] using h1.2)
  have h4 : NumText.digitsVal (tl x).cps.toList < 10 ^ 60 := by unfold NumText.digitsVal; omega
  unfold numV
  refine ⟨Int.natCast_nonneg _, ?_⟩
  have := Int.ofNat_lt.mpr h4
  simpa using this
theorem numOK_len {h x : Str} (hx : numOK h x = true) : 2 ≤ x.length := by
  unfold numOK at hx
  rw [Bool.and_eq_true] at hx
  have := (condB_len hx.1).1
  rw [tl_len] at this
  omega
abbrev sPlus : Str := "+"
abbrev sMinus : Str := "-"
/-- the row that a piece tells -/
def rowOf (last : Str) (piece : Str) : Option (Str × Int × Int) := match Txt.split piece " " with
  | [a, b, c] => if isNameS a = true ∧ leS a last = false ∧ numOK sPlus b = true ∧ numOK sMinus c = true then some (a, numV b, numV c) else none
  | _ => none
theorem rowOf_some {last piece : Str} {r : Str × Int × Int} (h : rowOf last piece = some r) : ∃ b c, Txt.split piece " " = [r.1, b, c] ∧ isNameS r.1 = true ∧ leS r.1 last = false ∧ numOK sPlus b = true ∧ numOK sMinus c = true ∧ r.2 = (numV b, numV c) := by
  unfold rowOf at h
  split at h
  · rename_i a b c e
    split at h
    · rename_i hc
      cases h
      exact ⟨b, c, e, hc.1, hc.2.1, hc.2.2.1, hc.2.2.2, rfl⟩
    · cases h
  · cases h
theorem slen_append (x y : Str) : (x ++ y).length = x.length + y.length := by
  show (x.cps ++ y.cps).size = _
  simp [Str.length]
theorem rowOf_len {last piece : Str} {r : Str × Int × Int} (h : rowOf last piece = some r) : 5 ≤ piece.length := by
  obtain ⟨b, c, e, h1, _, h2, h3, _⟩ := rowOf_some h
  have j := StrLaws.join_split piece " "
  rw [e] at j
  have := congrArg Str.length j
  simp only [Str.join, slen_append] at this
  have a1 := (isNameS_len h1).1
  have a2 := numOK_len h2
  have a3 := numOK_len h3
  omega
/-- what read gathers -/
def goR : List Str → Str → Pg → Option Pg
  | [], _, page => some page
  | p :: r, last, page => (rowOf last p).bind fun x => goR r x.1 (page ++ [x])
/-- what is due -/
def goD : List Str → Str → Pg → Option Pg
  | [], _, page => some page
  | p :: r, last, page => (rowOf last p).bind fun x => if x.2 = (0, 0) then none else goD r x.1 (page ++ [x])
def nz (p : Pg) : Bool := p.all fun x => !decide (x.2 = (0, 0))
theorem goR_pre : ∀ (ps : List Str) (last : Str) (page q : Pg), goR ps last page = some q → ∃ m, q = page ++ m ∧ m.length = ps.length
  | [], _, page, q, h => ⟨[], by cases h; simp, rfl⟩
  | p :: r, last, page, q, h => by
    unfold goR at h
    obtain ⟨x, _, h2⟩ := Option.bind_eq_some_iff.mp h
    obtain ⟨m, rfl, hm⟩ := goR_pre r x.1 _ q h2
    exact ⟨x :: m, by simp, by simp [hm]⟩
theorem goD_eq : ∀ (ps : List Str) (last : Str) (page : Pg), nz page = true → goD ps last page = (goR ps last page).bind fun q => if nz q then some q else none
  | [], _, page, h => by simp [goD, goR, h]
  | p :: r, last, page, h => by
    unfold goD goR
    cases hx : rowOf last p with
    | none => rfl
    | some x =>
      simp only [Option.bind_some]
      by_cases hz : x.2 = (0, 0)
      · rw [if_pos hz]
        cases hg : goR r x.1 (page ++ [x]) with
        | none => rfl
        | some q =>
          obtain ⟨m, rfl, _⟩ := goR_pre _ _ _ _ hg
          simp [nz, hz]
      · rw [if_neg hz]
        exact goD_eq r x.1 _ (by unfold nz at h ⊢; rw [List.all_append, h]; simp [hz])
/-- what stands of a page that is being read -/
structure Rd (last : Str) (page : Pg) : Prop where
  asc : (names page).Pairwise (fun a b => leS b a = false)
  top : ∀ r ∈ page, leS r.1 last = true
  ok : ∀ r ∈ page, isNameS r.1 = true ∧ (0 ≤ r.2.1 ∧ r.2.1 < 10 ^ 60) ∧ 0 ≤ r.2.2 ∧ r.2.2 < 10 ^ 60
theorem Rd.nil (s : Str) : Rd s [] := ⟨List.Pairwise.nil, fun _ h => (nomatch h), fun _ h => (nomatch h)⟩
theorem leS_refl (a : Str) : leS a a = true := by have := leS_total a a; simpa using this
theorem leS_of_not {a b : Str} (h : leS a b = false) : leS b a = true := by have := leS_total a b; simpa [h] using this
theorem Rd.step {last : Str} {page : Pg} {piece : Str} {x : Str × Int × Int} (R : Rd last page) (h : rowOf last piece = some x) : Rd x.1 (page ++ [x]) := by
  obtain ⟨b, c, e, h1, h2, h3, h4, h5⟩ := rowOf_some h
  have up := leS_of_not h2
  refine ⟨?_, fun r hr => ?_, fun r hr => ?_⟩
  · unfold names
    rw [List.map_append, List.pairwise_append]
    refine ⟨R.asc, by simp, fun a ha y hy => ?_⟩
    obtain ⟨r, hr, rfl⟩ := List.mem_map.mp ha
    have ey : y = x.1 := by simpa using hy
    subst ey
    cases hc : leS x.1 r.1 with
    | false => rfl
    | true => rw [leS_trans _ _ _ hc (R.top r hr)] at h2; cases h2
  · rcases List.mem_append.mp hr with hr | hr
    · exact leS_trans _ _ _ (R.top r hr) up
    · rw [List.mem_singleton.mp hr]; exact leS_refl _
  · rcases List.mem_append.mp hr with hr | hr
    · exact R.ok r hr
    · rw [List.mem_singleton.mp hr, h5]; exact ⟨h1, numV_lt h3, numV_lt h4⟩
theorem Rd.put {last : Str} {page : Pg} {a : Str} {v : Int × Int} (R : Rd last page) (h : leS a last = false) : pput page a v = page ++ [(a, v)] := by
  unfold pput
  rw [if_neg]
  intro hc
  obtain ⟨r, hr, e⟩ := List.any_eq_true.mp hc
  have e : r.1 = a := by simpa using e
  have := R.top r hr
  rw [e, h] at this
  cases this
theorem goR_ok : ∀ (ps : List Str) (last : Str) (page q : Pg), Rd last page → goR ps last page = some q → ∃ last', Rd last' q
  | [], last, page, q, R, h => ⟨last, by cases h; exact R⟩
  | p :: r, last, page, q, R, h => by
    unfold goR at h
    obtain ⟨x, h1, h2⟩ := Option.bind_eq_some_iff.mp h
    exact goR_ok r x.1 _ q (R.step h1) h2
theorem goR_each : ∀ (ps : List Str) (last : Str) (page q : Pg), goR ps last page = some q → ∀ p ∈ ps, 5 ≤ p.length
  | p :: r, last, page, q, h, y, hy => by
    unfold goR at h
    obtain ⟨x, h1, h2⟩ := Option.bind_eq_some_iff.mp h
    rcases List.mem_cons.mp hy with rfl | hy
    · exact rowOf_len h1
    · exact goR_each r x.1 _ q h2 y hy
theorem join_len : ∀ (ps : List Str) (sep : Str), sep.length = 2 → (∀ p ∈ ps, 5 ≤ p.length) → 7 * ps.length ≤ (Str.join sep ps).length + 2
  | [], _, _, _ => by simp
  | [x], sep, hs, h => by
    have := h x (.head _)
    simp only [Str.join, List.length_cons, List.length_nil]; omega
  | x :: y :: r, sep, hs, h => by
    have a1 := h x (.head _)
    have := join_len (y :: r) sep hs fun p hp => h p (.tail _ hp)
    simp only [Str.join, slen_append, List.length_cons] at this ⊢
    omega
abbrev sComma : Str := ", "
def rdP (t : Str) : Option Pg := if t = "nobody" then some [] else (goR (Txt.split t sComma) "" []).bind fun q => if nz q then some q else none
theorem goR_size {t : Str} {q : Pg} (ht : t.length ≤ 422) (h : goR (Txt.split t sComma) "" [] = some q) : q.length ≤ 60 := by
  obtain ⟨m, rfl, hm⟩ := goR_pre _ _ _ _ h
  have := join_len (Txt.split t sComma) sComma (by decide +kernel) (goR_each _ _ _ _ h)
  rw [StrLaws.join_split] at this
  simp; omega
theorem pageB_nz {last : Str} {q : Pg} (R : Rd last q) (hl : q.length ≤ 60) : pageB (pgE q) = nz q := by
  unfold pageB nz
  rw [pgE_length, decide_eq_true (by omega : q.length ≤ 200), Bool.true_and]
  unfold pgE
  rw [List.all_map]
  have : ∀ x ∈ q, ((fun p : Key × V => keyB p.1 && shareB p.2) ∘ toRow) x = !decide (x.2 = (0, 0)) := fun x hx => by
    obtain ⟨h1, h2, h3⟩ := R.ok x hx
    obtain ⟨n, a, b⟩ := x
    simp only [Function.comp, toRow, keyB, shareB] at *
    rw [h1, Bool.true_and]
    by_cases hz : a = 0 ∧ b = 0
    · obtain ⟨rfl, rfl⟩ := hz; rfl
    · rw [decide_eq_true (by refine ⟨h2, h3, ?_⟩; omega), decide_eq_false (by simpa using hz)]; rfl
  clear hl R
  induction q with
  | nil => rfl
  | cons x r ih => rw [List.all_cons, List.all_cons, this x (.head _), ih fun y hy => this y (.tail _ hy)]
theorem srt_asc {l : List Str} (h : l.Pairwise (fun a b => leS b a = false)) : l = srt l :=
  sorted_unique (srt_perm l).symm (h.imp fun h => leS_of_not h) (srt_sorted l)
theorem nameS_len9 {x : Str} (h : isNameS x = true) : x.length < 10 ^ 9 := by have := (isNameS_len h).2; omega
theorem split_size (x y : Str) (hy : 1 ≤ y.length) (hx : x.length ≤ 1000) : (Txt.split x y).length ≤ 1001 := by
  have key : ∀ (ps : List Str) (sep : Str), 1 ≤ sep.length → ps.length ≤ (Str.join sep ps).length + 1 := by
    intro ps
    induction ps with
    | nil => intros; simp
    | cons a r ih =>
      intro sep hs
      cases r with
      | nil => simp [Str.join]
      | cons b r => have := ih sep hs; simp only [Str.join, slen_append, List.length_cons] at this ⊢; omega
  have := key (Txt.split x y) y hy
  rw [StrLaws.join_split] at this
  omega

theorem rowOf_3 {last p a b c : Str} (e : Txt.split p " " = [a, b, c]) : rowOf last p = if isNameS a = true ∧ leS a last = false ∧ numOK sPlus b = true ∧ numOK sMinus c = true then some (a, numV b, numV c) else none := by
  unfold rowOf; rw [e]
theorem rowOf_not3 {last p : Str} (h : (Txt.split p " ").length ≠ 3) : rowOf last p = none := by
  unfold rowOf
  split
  · rename_i e; rw [e] at h; exact absurd rfl h
  · rfl
theorem len_three {α : Type} {l : List α} (h : l.length = 3) : ∃ a b c, l = [a, b, c] := by
  rcases l with _ | ⟨a, _ | ⟨b, _ | ⟨c, _ | ⟨d, r⟩⟩⟩⟩
  all_goals first | exact ⟨_, _, _, rfl⟩ | simp at h
theorem part_len (sep : Str) : ∀ (ps : List Str) (p : Str), p ∈ ps → p.length ≤ (Str.join sep ps).length
  | [x], p, h => by rw [List.mem_singleton.mp h]; exact Nat.le_refl _
  | x :: y :: r, p, h => by
    simp only [Str.join, slen_append]
    rcases List.mem_cons.mp h with rfl | h
    · omega
    · have := part_len sep (y :: r) p h; omega
theorem split_part {x y p : Str} (h : p ∈ Txt.split x y) : p.length ≤ x.length := by
  have := part_len y _ p h
  rwa [StrLaws.join_split] at this
theorem getD_str {l : List Str} {i : Nat} (h : i < l.length) : (l.map V.str).getD i .none = .str l[i] := by
  rw [List.getD_eq_getElem?_getD, List.getElem?_map, List.getElem?_eq_getElem h]; rfl
theorem mid0 {σ r : List AObj} {a : AObj} : (σ ++ a :: r)[σ.length]? = some a := by simp
theorem mid1 {σ r : List AObj} {a b : AObj} : (σ ++ a :: b :: r)[σ.length + 1]? = some b := by
  rw [List.getElem?_append_right (by omega)]; simp
theorem goD_cons {pcs : List Str} {i : Nat} (hi : i < pcs.length) {last : Str} {page : Pg} : goD (pcs.drop i) last page = (rowOf last pcs[i]).bind fun x => if x.2 = (0, 0) then none else goD (pcs.drop (i + 1)) x.1 (page ++ [x]) := by
  rw [List.drop_eq_getElem_cons hi]; rfl
theorem goR_cons {pcs : List Str} {i : Nat} (hi : i < pcs.length) {last : Str} {page : Pg} : goR (pcs.drop i) last page = (rowOf last pcs[i]).bind fun x => goR (pcs.drop (i + 1)) x.1 (page ++ [x]) := by
  rw [List.drop_eq_getElem_cons hi]; rfl
def dueP (t : Str) : Option Pg := if t = "nobody" then some [] else goD (Txt.split t sComma) "" []
theorem dueP_eq (t : Str) : dueP t = rdP t := by unfold dueP rdP; rw [goD_eq _ _ _ rfl]
theorem sign_tl {x : Str} (h : 2 ≤ x.length) : signAt (tl x) 0 = signAt x 1 := by
  unfold signAt tl
  congr 2
  simp [Array.getD_eq_getD_getElem?, Str.length] at h ⊢
theorem rd_facts {t : Str} {q : Pg} (ht : t.length ≤ 422) (h : rdP t = some q) : q.length ≤ 60 ∧ names q = srt (names q) ∧ ∀ r ∈ q, isNameS r.1 = true := by
  unfold rdP at h
  split at h
  · cases h; exact ⟨by decide, (srt_asc (l := []) .nil), fun _ h => (nomatch h)⟩
  · obtain ⟨q', h1, h2⟩ := Option.bind_eq_some_iff.mp h
    split at h2
    · cases h2
      obtain ⟨last, R⟩ := goR_ok _ _ _ _ (Rd.nil _) h1
      exact ⟨goR_size ht h1, srt_asc R.asc, fun r hr => (R.ok r hr).1⟩
    · cases h2
theorem mid_set2 {σ r : List AObj} {a b c l : AObj} : (σ ++ a :: b :: r ++ [l]).set σ.length c = σ ++ c :: b :: (r ++ [l]) := by simp
theorem mulOk_zero (b : Bool) : MulOk (Str.ofString "0") (if b then 1 else 0) := by
  unfold MulOk
  cases b
  · exact ⟨by decide, fun h => absurd (by decide) h, fun h => absurd (by decide) h⟩
  · exact ⟨by decide, fun _ h => absurd h (by decide), fun _ h => absurd h (by decide)⟩
theorem mul_zero_len (b : Bool) : (Txt.mul (Str.ofString "0") (if b then 1 else 0)).length ≤ 1 := by
  cases b <;> decide +kernel
theorem log2_60 {n : Int} (h0 : 0 ≤ n) (h : n ≤ 10 ^ 60) : n.natAbs.log2 < 1920 := by
  by_cases hz : n.natAbs = 0
  · rw [hz]; decide
  · refine (Nat.log2_lt hz).mpr ?_
    have : (2 : Nat) ^ 200 ≤ 2 ^ 1920 := Nat.pow_le_pow_right (by decide) (by decide)
    refine Nat.lt_of_lt_of_le ?_ this
    have h1 : n.natAbs ≤ 10 ^ 60 := by omega
    exact Nat.lt_of_le_of_lt h1 (by decide +kernel)
theorem text_60 {n : Int} (h0 : 0 ≤ n) (h : n ≤ 10 ^ 60) : (Str.ofString (toString n)).length ≤ 62 := by
  rw [PySem.ofString_length]
  refine int_text_length_le10 (k := 61) (by decide) ?_
  have h1 : n.natAbs ≤ 10 ^ 60 := by omega
  exact Nat.lt_of_le_of_lt h1 (by decide +kernel)
theorem rows_len {g : List Str} (h3 : g.length ≤ 3) (h : ∀ f ∈ g, f.length ≤ 139) : (Txt.join (Str.ofString ", ") g).length ≤ 421 := by
  show (Builtin.Str.glued _ g).length ≤ 421
  rw [PySem.size_glued]
  have e2 : (Str.ofString ", ").length = 2 := by decide +kernel
  rw [e2]
  rcases g with _ | ⟨a, _ | ⟨b, _ | ⟨c, _ | ⟨d, r⟩⟩⟩⟩
  · simp
  · have := h a (by simp); simp; omega
  · have := h a (by simp); have := h b (by simp); simp; omega
  · have := h a (by simp); have := h b (by simp); have := h c (by simp); simp; omega
  · simp at h3
theorem exc_here {τ junk : List AObj} {C : Addr} {t : Option Nat} : (τ ++ AObj.exc C t :: junk)[τ.length]? = some (.exc C t) := by simp

theorem good_number_of : Good (dr pw_uf050040_10 17) ["word", "head"] :=
  ⟨fun pm code doc vals h => (by obtain ⟨a, b, rfl⟩ := len_2 h; rfl), by decide +kernel, by decide +kernel, by decide +kernel, rfl, rfl, rfl⟩
theorem cf_number_of (gl : Gl B mg mb) (bl : Blt B mg mb) (S : Scr B scr nums) (H : HasF B mg (dr pw_uf050040_10 17)) (e_N : Err B K 85 (.ref 24 :: vErr)) (g_N : GC B mg "NoNote" (.raw (.ref 85))) (g_F : GC B mg "FIGURES" (.str figs)) :
    CF prog w B mg "number_of" 1 (fun (xs : List V) (σ : List AObj) (Q : V → List AObj → Prop) (X : XT) => ∃ x h R, xs = [.str x, .str h] ∧ X = xQ R ∧ x.length ≤ 1000 ∧ (numOK h x = true → Q (.int (numV x)) σ) ∧ (numOK h x = false → R 85 σ)) := by
  refine CF_ofx gl H good_number_of ?_
  rintro A pm code doc L a₀ _ σ Q X hA ⟨x, h, R, rfl, rfl, hl, q1, q2⟩
  all_goals refine ⟨rfl, ?_⟩

  refine ⟨_, .exc, ?_⟩
  change WX _ _ _ _ _ (_ :: _) ((_, _) :: (_, _) :: []) _ _ _
  have htl := tl_len x
  with_reducible (refine X_let ?_; refine E_slice_from ?_; refine E_nm ?_; refine LQ_here ?_; refine ⟨_, rfl, ?_⟩)
  refine ⟨small_size (by omega), ?_⟩
  with_reducible (refine E_int ?_; refine ⟨_, rfl, ?_⟩)
  rw [slice_from' (by decide), show (⟨(x.cps.toList.drop (1 : Int).toNat).toArray⟩ : Str) = tl x from rfl]
  refine X_ifs ?_
  refine T_as (!condB h x) ?_ ?_
  · unfold condB
    with_reducible (refine T_bool ?_; refine Ts_or ?_; refine T_cmp1 ?_; refine E_slice_to ?_; refine E_nm ?_; refine LQ_there (by decide +kernel) ?_; refine LQ_here ?_; refine ⟨_, rfl, ?_⟩)
    refine ⟨small_size (by omega), ?_⟩
    with_reducible (refine E_int ?_; refine ⟨_, rfl, ?_⟩; refine E_nm ?_; refine LQ_there (by decide +kernel) ?_; refine LQ_there (by decide +kernel) ?_; refine LQ_here ?_; refine O_nes ?_; refine T_b ?_)
    rw [slice_to (by decide), show (⟨(x.cps.toList.take (1 : Int).toNat).toArray⟩ : Str) = hdS x from rfl]
    refine iteDn (fun h1 => ?_) (fun h1 => ?_)
    · skip
      exact ⟨by simp [h1], rfl⟩
    · with_reducible (refine Ts_or ?_; refine T_not ?_)
      refine T_as (decide (1 ≤ (tl x).length ∧ (tl x).length ≤ 60)) ?_ ?_
      · refine T_cmp2 ?_
        with_reducible (refine E_int ?_; refine E_bi (Blt.len_ (by assumption)) (by first | exact Keep.builtin _ | exact Keep.type _) ?_; refine Es_cons ?_; refine E_nm ?_; refine LQ_here ?_; refine Es_nil ?_)
        refine C_len_str (by omega) ?_
        with_reducible (refine O_le ?_; refine T_b ?_)
        refine iteD (fun h => ?_) (fun h => ?_)
        · with_reducible (refine E_int ?_; refine O_le ?_; refine T_b ?_)
          exact ⟨by congr 1; simp; omega, rfl⟩
        · skip
          exact ⟨by symm; simp; omega, rfl⟩
      refine iteDn (fun h2 => ?_) (fun h2 => ?_)
      · skip
        exact ⟨by simp [h1, h2], rfl⟩
      · with_reducible (refine Ts_or ?_; refine T_bool ?_; refine Ts_and ?_; refine T_cmp1 ?_; refine E_sub ?_; refine E_nm ?_; refine LQ_here ?_; refine E_int ?_)
        refine S_str (by decide) (by have := h2.1; simp [Str.length] at this ⊢; omega) (by decide) ?_
        with_reducible (refine E_str ?_; refine O_eqs ?_; refine T_b ?_)
        refine iteD (fun h3 => ?_) (fun h3 => ?_)
        · with_reducible (refine Ts_and ?_; refine T_cmp1 ?_; refine E_bi (Blt.len_ (by assumption)) (by first | exact Keep.builtin _ | exact Keep.type _) ?_; refine Es_cons ?_; refine E_nm ?_; refine LQ_here ?_; refine Es_nil ?_)
          refine C_len_str (by omega) ?_
          with_reducible (refine E_int ?_; refine O_gt ?_; refine T_b ?_)
          refine iteD (fun h4 => ?_) (fun h4 => ?_)
          · with_reducible (refine Ts_and_nil ?_; refine iteT ?_)
            refine ⟨?_, rfl⟩
            rw [decide_eq_true h1, decide_eq_true h2, decide_eq_true (p := signAt (tl x) 0 = Str.ofString "0") h3, decide_eq_true (p := 1 < (tl x).length) (by omega)]; rfl
          · with_reducible (refine iteF ?_; refine Ts_or_nil ?_)
            refine ⟨?_, rfl⟩
            rw [decide_eq_true h1, decide_eq_true h2, decide_eq_false (p := 1 < (tl x).length) (by omega), Bool.and_false]; rfl
        · with_reducible (refine iteF ?_; refine Ts_or_nil ?_)
          exact ⟨by simp [h1, h2]; exact fun e => absurd e h3, rfl⟩
  refine iteB (fun h1 => ?_) (fun h1 => ?_)
  · refine X_raise e_N.o g_N hA.handled Sub.nil ?_
    with_reducible (refine Es_cons ?_; refine E_str ?_; refine Es_nil ?_; refine And.intro (by first | omega | with_unfolding_all exact Nat.le_of_ble_eq_true rfl) ?_)
    refine q2 ?_
    unfold numOK
    rw [(Bool.not_eq_true' _).mp h1]; rfl
  · have hc : condB h x = true := by simpa using h1
    have hcl := condB_len hc
    with_reducible (refine X_nil ?_; refine sq_next ?_)
    refine X_fors ?_
    with_reducible (refine E_nm ?_; refine LQ_here ?_)
    refine ForG.mkx (ι := Unit) (fun i _ => ((tl x).cps.toList.take i).all isF = true) (fun _ _ => [("figures", .str (tl x))]) (fun _ _ => σ) (It_str hA.handled) () (by simp) rfl trivial (by with_reducible (refine Sub.cons ?_; refine LQ_here ?_; refine ⟨rfl, ?_⟩; exact Sub.nil)) ?_ ?_
    · rintro i ⟨⟩ hi hD -
      refine X_ifs ?_
      with_reducible (refine T_cmp1 ?_; refine E_nm ?_; refine LQ_here ?_; refine E_nm ?_; refine LQ_there (by decide +kernel) ?_; refine LQ_there (by decide +kernel) ?_; refine LQ_nil ?_; refine N_gc (by assumption) ?_)
      refine O_notins ?_
      with_reducible (refine T_b ?_)
      rw [in_figs]
      refine iteB (fun hb => ?_) (fun hb => ?_)
      · refine X_raise e_N.o g_N hA.handled Sub.nil ?_
        with_reducible (refine Es_cons ?_; refine E_str ?_; refine Es_nil ?_; refine And.intro (by first | omega | with_unfolding_all exact Nat.le_of_ble_eq_true rfl) ?_)
        refine q2 ?_
        have : (tl x).cps.toList.all isF = false := by
          rw [List.all_eq_false]
          exact ⟨(tl x).cps.getD i 0, by simp [Array.getD_eq_getD_getElem?, hi], by simpa using hb⟩
        unfold numOK; rw [this, Bool.and_false]
      · with_reducible (refine X_nil ?_; refine sq_next ?_; refine X_nil ?_)
        exact TJ_next () (by rw [take_allF (tl x) i hi, hD]; simpa using hb) rfl trivial (by with_reducible (refine Sub.cons ?_; refine LQ_there (by decide +kernel) ?_; refine LQ_here ?_; refine ⟨rfl, ?_⟩; exact Sub.nil))
    · rintro ⟨⟩ hD -
      rw [List.take_of_length_le (by simp)] at hD
      with_reducible (refine X_ret ?_; refine E_bi (Blt.int_ (by assumption)) (by first | exact Keep.builtin _ | exact Keep.type _) ?_; refine Es_cons ?_; refine E_nm ?_; refine LQ_here ?_; refine Es_nil ?_)
      refine C_int_text (by omega) (by omega) (isF_all hD) ?_
      refine R_all (q1 ?_)
      unfold numOK; rw [hc, hD]; rfl

theorem good_l_number_of : Good (dr pw_uf050040_10 29) ["_law_word", "_law_sign"] :=
  ⟨fun pm code doc vals h => (by obtain ⟨a, b, rfl⟩ := len_2 h; rfl), by decide +kernel, by decide +kernel, by decide +kernel, rfl, rfl, rfl⟩
theorem cf_l_number_of (gl : Gl B mg mb) (bl : Blt B mg mb) (S : Scr B scr nums) (H : HasF B mg (dr pw_uf050040_10 29)) :
    CF prog w B mg "_law_number_of" 1 (fun xs σ Q X => ∃ x h, xs = [.str x, .str h] ∧ x.length ≤ 1000 ∧ Q (.int (if numOK h x = true then numV x else -1)) σ) := by
  refine CF_of gl H good_l_number_of ?_
  rintro A pm code doc L a₀ _ σ Q X hA ⟨x, h, rfl, hl, q⟩
  refine ⟨rfl, ?_⟩
  change WX _ _ _ _ _ (_ :: _) ((_, _) :: (_, _) :: []) _ _ _

  have htl := tl_len x
  have no : numOK h x = false → Q (.int (-1)) σ := fun e => by rw [if_neg (by rw [e]; decide)] at q; exact q
  refine X_ifs ?_
  refine T_as (!(decide (hdS x = h) && decide (2 ≤ x.length ∧ x.length ≤ 61))) ?_ ?_
  · with_reducible (refine T_bool ?_; refine Ts_or ?_; refine T_cmp1 ?_; refine E_slice_to ?_; refine E_nm ?_; refine LQ_here ?_; refine ⟨_, rfl, ?_⟩)
    refine ⟨small_size (by omega), ?_⟩
    with_reducible (refine E_int ?_; refine ⟨_, rfl, ?_⟩; refine E_nm ?_; refine LQ_there (by decide +kernel) ?_; refine LQ_here ?_; refine O_nes ?_; refine T_b ?_)
    rw [slice_to (by decide), show (⟨(x.cps.toList.take (1 : Int).toNat).toArray⟩ : Str) = hdS x from rfl]
    refine iteDn (fun h1 => ?_) (fun h1 => ?_)
    · skip
      exact ⟨by simp [h1], rfl⟩
    · with_reducible (refine Ts_or ?_; refine T_not ?_)
      refine T_as (decide (2 ≤ x.length ∧ x.length ≤ 61)) ?_ ?_
      · refine T_cmp2 ?_
        with_reducible (refine E_int ?_; refine E_bi (Blt.len_ (by assumption)) (by first | exact Keep.builtin _ | exact Keep.type _) ?_; refine Es_cons ?_; refine E_nm ?_; refine LQ_here ?_; refine Es_nil ?_)
        refine C_len_str (by omega) ?_
        with_reducible (refine O_le ?_; refine T_b ?_)
        refine iteD (fun h => ?_) (fun h => ?_)
        · with_reducible (refine E_int ?_; refine O_le ?_; refine T_b ?_)
          exact ⟨by congr 1; simp; omega, rfl⟩
        · skip
          exact ⟨by symm; simp; omega, rfl⟩
      refine iteDn (fun h2 => ?_) (fun h2 => ?_)
      · skip
        exact ⟨by simp [h1, h2], rfl⟩
      · with_reducible (refine Ts_or_nil ?_)
        exact ⟨by simp [h1, h2], rfl⟩
  refine iteB (fun h1 => ?_) (fun h1 => ?_)
  · with_reducible (refine X_ret ?_; refine E_un ?_; refine E_int ?_; refine O_neg ?_; refine sq_ret ?_)
    refine R_all (no ?_)
    unfold numOK condB
    simp only [Bool.not_eq_true', Bool.and_eq_false_iff, decide_eq_false_iff_not] at h1
    rcases h1 with h1 | h1
    · rw [decide_eq_false h1]; simp
    · rw [decide_eq_false (p := 1 ≤ (tl x).length ∧ (tl x).length ≤ 60) (by omega)]; simp
  · simp only [Bool.not_eq_false', Bool.and_eq_true, decide_eq_true_eq] at h1
    obtain ⟨h1, h2⟩ := h1
    with_reducible (refine X_nil ?_; refine sq_next ?_)
    refine X_fors ?_
    with_reducible (refine E_slice_from ?_; refine E_nm ?_; refine LQ_here ?_; refine ⟨_, rfl, ?_⟩)
    refine ⟨small_size (by omega), ?_⟩
    with_reducible (refine E_int ?_; refine ⟨_, rfl, ?_⟩)
    rw [slice_from' (by decide), show (⟨(x.cps.toList.drop (1 : Int).toNat).toArray⟩ : Str) = tl x from rfl]
    refine ForG.mk (ι := Unit) (fun i _ => ((tl x).cps.toList.take i).all isF = true) (fun _ _ => [("_law_word", .str x)]) (fun _ _ => σ) (It_str hA.handled) () (by simp) rfl trivial (by with_reducible (refine Sub.cons ?_; refine LQ_here ?_; refine ⟨rfl, ?_⟩; exact Sub.nil)) ?_ ?_
    · rintro i ⟨⟩ hi hD -
      refine X_ifs ?_
      with_reducible (refine T_cmp1 ?_; refine E_nm ?_; refine LQ_here ?_; refine E_str ?_)
      refine O_notins ?_
      with_reducible (refine T_b ?_)
      rw [show inS (Str.ofString "0123456789") (signAt (tl x) i) = _ from in_figs (tl x) i]
      refine iteB (fun hb => ?_) (fun hb => ?_)
      · with_reducible (refine X_ret ?_; refine E_un ?_; refine E_int ?_; refine O_neg ?_; refine sq_ret ?_; refine TJ_ret ?_; refine sq_ret ?_)
        refine R_all (no ?_)
        have : (tl x).cps.toList.all isF = false := by
          rw [List.all_eq_false]
          exact ⟨(tl x).cps.getD i 0, by simp [Array.getD_eq_getD_getElem?, hi], by simpa using hb⟩
        unfold numOK; rw [this, Bool.and_false]
      · with_reducible (refine X_nil ?_; refine sq_next ?_; refine X_nil ?_)
        exact TJ_next () (by rw [take_allF (tl x) i hi, hD]; simpa using hb) rfl trivial (by with_reducible (refine Sub.cons ?_; refine LQ_there (by decide +kernel) ?_; refine LQ_here ?_; refine ⟨rfl, ?_⟩; exact Sub.nil))
    · rintro ⟨⟩ hD -
      rw [List.take_of_length_le (by simp)] at hD
      have hz : condB h x = !(decide (signAt x 1 = "0") && decide (2 < x.length)) := by
        unfold condB
        rw [decide_eq_true h1, decide_eq_true (p := 1 ≤ (tl x).length ∧ (tl x).length ≤ 60) (by omega), sign_tl h2.1, htl]
        have : decide (1 < x.length - 1) = decide (2 < x.length) := by congr 1; simp; omega
        rw [this]; rfl
      refine X_ifs ?_
      refine T_as (!condB h x) ?_ ?_
      · rw [hz, Bool.not_not]
        with_reducible (refine T_bool ?_; refine Ts_and ?_; refine T_cmp1 ?_; refine E_sub ?_; refine E_nm ?_; refine LQ_here ?_; refine E_int ?_)
        refine S_str (by decide) (by have := h2.1; simp [Str.length] at this ⊢; omega) (by decide) ?_
        with_reducible (refine E_str ?_; refine O_eqs ?_; refine T_b ?_)
        refine iteD (fun h3 => ?_) (fun h3 => ?_)
        · with_reducible (refine Ts_and ?_; refine T_cmp1 ?_; refine E_bi (Blt.len_ (by assumption)) (by first | exact Keep.builtin _ | exact Keep.type _) ?_; refine Es_cons ?_; refine E_nm ?_; refine LQ_here ?_; refine Es_nil ?_)
          refine C_len_str (by omega) ?_
          with_reducible (refine E_int ?_; refine O_gt ?_; refine T_b ?_)
          refine iteD (fun h4 => ?_) (fun h4 => ?_)
          · with_reducible (refine Ts_and_nil ?_)
            refine ⟨?_, rfl⟩
            symm; rw [Bool.and_eq_true]; exact ⟨decide_eq_true h3, decide_eq_true (by omega)⟩
          · skip
            refine ⟨?_, rfl⟩
            symm; rw [Bool.and_eq_false_iff]; exact .inr (decide_eq_false (by omega))
        · skip
          refine ⟨?_, rfl⟩
          symm; rw [Bool.and_eq_false_iff]; exact .inl (decide_eq_false h3)
      refine iteB (fun h3 => ?_) (fun h3 => ?_)
      · with_reducible (refine X_ret ?_; refine E_un ?_; refine E_int ?_; refine O_neg ?_; refine sq_ret ?_)
        refine R_all (no ?_)
        unfold numOK
        rw [(Bool.not_eq_true' _).mp h3]; rfl
      · have hc : condB h x = true := by simpa using h3
        with_reducible (refine X_nil ?_; refine sq_next ?_; refine X_ret ?_; refine E_bi (Blt.int_ (by assumption)) (by first | exact Keep.builtin _ | exact Keep.type _) ?_; refine Es_cons ?_; refine E_slice_from ?_; refine E_nm ?_; refine LQ_here ?_; refine ⟨_, rfl, ?_⟩)
        refine ⟨small_size (by omega), ?_⟩
        with_reducible (refine E_int ?_; refine ⟨_, rfl, ?_⟩; refine Es_nil ?_)
        rw [slice_from' (by decide), show (⟨(x.cps.toList.drop (1 : Int).toNat).toArray⟩ : Str) = tl x from rfl]
        refine C_int_text (by omega) (by omega) (isF_all hD) ?_
        rw [if_pos (by unfold numOK; rw [hc, hD]; rfl)] at q
        exact R_all q

theorem good_named : Good (dr pw_uf050040_10 30) ["_law_word"] :=
  ⟨fun pm code doc vals h => (by obtain ⟨a, rfl⟩ := len_1 h; rfl), by decide +kernel, by decide +kernel, by decide +kernel, rfl, rfl, rfl⟩
theorem cf_named (gl : Gl B mg mb) (bl : Blt B mg mb) (S : Scr B scr nums) (H : HasF B mg (dr pw_uf050040_10 30)) :
    CF prog w B mg "_law_named" 1 (fun xs σ Q X => ∃ x, xs = [.str x] ∧ x.length ≤ 1000 ∧ Q (.bool (isNameS x)) σ) := by
  refine CF_of gl H good_named ?_
  rintro A pm code doc L a₀ _ σ Q X hA ⟨x, rfl, hl, q⟩
  refine ⟨rfl, ?_⟩
  change WX _ _ _ _ _ (_ :: _) ((_, _) :: []) _ _ _

  unfold isNameS at q
  refine X_fors ?_
  with_reducible (refine E_nm ?_; refine LQ_here ?_)
  refine ForG.mk (ι := Unit) (fun i _ => (x.cps.toList.take i).all isL = true) (fun _ _ => [("_law_word", .str x)]) (fun _ _ => σ) (It_str hA.handled) () (by simp) rfl trivial (by with_reducible (refine Sub.cons ?_; refine LQ_here ?_; refine ⟨rfl, ?_⟩; exact Sub.nil)) ?_ ?_
  · rintro i ⟨⟩ hi hD -
    refine X_ifs ?_
    with_reducible (refine T_cmp1 ?_; refine E_nm ?_; refine LQ_here ?_; refine E_str ?_)
    refine O_notins ?_
    with_reducible (refine T_b ?_)
    rw [show inS (Str.ofString "abcdefghijklmnopqrstuvwxyz") (signAt x i) = _ from in_letters x i]
    refine iteB (fun hl => ?_) (fun hl => ?_)
    · with_reducible (refine X_ret ?_; refine E_bool ?_; refine sq_ret ?_; refine TJ_ret ?_; refine sq_ret ?_)
      refine R_all ?_
      have : x.cps.toList.all isL = false := by
        rw [List.all_eq_false]
        exact ⟨x.cps.getD i 0, by simp [Array.getD_eq_getD_getElem?, hi], by simpa using hl⟩
      simpa [this] using q
    · with_reducible (refine X_nil ?_; refine sq_next ?_; refine X_nil ?_)
      exact TJ_next () (by rw [take_all_succ x i hi, hD]; simpa using hl) rfl trivial (by with_reducible (refine Sub.cons ?_; refine LQ_there (by decide +kernel) ?_; refine LQ_here ?_; refine ⟨rfl, ?_⟩; exact Sub.nil))
  · rintro ⟨⟩ hD -
    rw [List.take_of_length_le (by simp)] at hD
    rw [hD, Bool.and_true] at q
    with_reducible (refine X_ret ?_)
    refine E_cmp2 ?_
    with_reducible (refine E_int ?_; refine E_bi (Blt.len_ (by assumption)) (by first | exact Keep.builtin _ | exact Keep.type _) ?_; refine Es_cons ?_; refine E_nm ?_; refine LQ_here ?_; refine Es_nil ?_)
    refine C_len_str (by omega) ?_
    with_reducible (refine O_le ?_; refine T_b ?_)
    refine iteD (fun h => ?_) (fun h => ?_)
    · with_reducible (refine E_int ?_; refine O_le ?_)
      refine R_all ?_
      have e : decide (1 ≤ x.length ∧ x.length ≤ 8) = decide ((x.length : Int) ≤ 8) := by congr 1; simp; omega
      rw [← e]; exact q
    · skip
      refine R_all ?_
      rw [decide_eq_false (p := 1 ≤ x.length ∧ x.length ≤ 8) (by omega)] at q; rw [decide_eq_false h]; exact q

theorem good_due : Good (dr pw_uf050040_10 31) ["_law_text"] :=
  ⟨fun pm code doc vals h => (by obtain ⟨a, rfl⟩ := len_1 h; rfl), by decide +kernel, by decide +kernel, by decide +kernel, rfl, rfl, rfl⟩
theorem cf_due (gl : Gl B mg mb) (bl : Blt B mg mb) (S : Scr B scr nums) (H : HasF B mg (dr pw_uf050040_10 31))
    (c_named : CF prog w B mg "_law_named" 1 (fun xs σ Q X => ∃ x, xs = [.str x] ∧ x.length ≤ 1000 ∧ Q (.bool (isNameS x)) σ))
    (c_l_number_of : CF prog w B mg "_law_number_of" 1 (fun xs σ Q X => ∃ x h, xs = [.str x, .str h] ∧ x.length ≤ 1000 ∧ Q (.int (if numOK h x = true then numV x else -1)) σ)) :
    CF prog w B mg "_law_due" 3 (fun xs σ Q X => ∃ t, xs = [.str t] ∧ t.length ≤ 422 ∧ (∀ page, dueP t = some page → Q (.ref σ.length) (σ ++ [.dict (pgE page) none])) ∧ (dueP t = none → Q .none σ)) := by
  refine CF_of gl H good_due ?_
  rintro A pm code doc L a₀ _ σ Q X hA ⟨t, rfl, hl, q1, q2⟩
  refine ⟨rfl, ?_⟩
  change WX _ _ _ _ _ (_ :: _) ((_, _) :: []) _ _ _

  with_reducible (refine X_let ?_; refine E_dict0 ?_; refine X_let ?_; refine E_str ?_)
  refine X_ifs ?_
  with_reducible (refine T_cmp1 ?_; refine E_nm ?_; refine LQ_there (by decide +kernel) ?_; refine LQ_there (by decide +kernel) ?_; refine LQ_here ?_; refine E_str ?_; refine O_eqs ?_; refine T_b ?_)
  refine iteD (fun h1 => ?_) (fun h1 => ?_)
  · with_reducible (refine X_ret ?_; refine E_nm ?_; refine LQ_there (by decide +kernel) ?_; refine LQ_here ?_; refine sq_ret ?_)
    exact R_all (q1 [] (by unfold dueP; rw [if_pos h1]))
  · have hdue : dueP t = goD (Txt.split t sComma) "" [] := by unfold dueP; rw [if_neg h1]
    rw [hdue] at q1 q2
    have hn := split_size t sComma (by decide +kernel) (by omega)
    have hpl : ∀ p ∈ Txt.split t sComma, p.length ≤ 422 := fun p hp => Nat.le_trans (split_part hp) hl
    with_reducible (refine X_nil ?_; refine sq_next ?_)
    refine X_fors ?_
    refine E_mcall (name := Str.ofString "split") (id := "str.split") ?_
    with_reducible (refine E_nm ?_; refine LQ_there (by decide +kernel) ?_; refine LQ_there (by decide +kernel) ?_; refine LQ_here ?_)
    refine ⟨GM_str F.slot_str_split F.type_str_split, ?_⟩
    with_reducible (refine Es_cons ?_; refine E_str ?_; refine Es_nil ?_)
    refine C_split (by decide +kernel) (small_size (by omega)) (small_size (by show (Txt.split t sComma).length ≤ _; omega)) ?_
    rw [show Txt.split t (Str.ofString ", ") = Txt.split t sComma from rfl]
    generalize Txt.split t sComma = pcs at *
    have hk : (σ ++ [AObj.dict [] none]).length = σ.length + 1 := by simp
    rw [hk]
    refine ForG.mk (ι := List AObj × Str × Pg) (fun i g => goD pcs "" [] = goD (pcs.drop i) g.2.1 g.2.2 ∧ Rd g.2.1 g.2.2 ∧ g.2.2.length ≤ i) (fun _ g => [("_law_last", .str g.2.1), ("_law_page", .ref σ.length)]) (fun _ g => σ ++ .dict (pgE g.2.2) none :: .list (pcs.map V.str) :: g.1) (It_list hA.handled (by rw [List.append_assoc]; exact mid1)) ([], "", []) ⟨rfl, Rd.nil _, Nat.le_refl _⟩ (by simp [pgE]) (by rw [List.append_assoc]; exact mid1) (by with_reducible (refine Sub.cons ?_; refine LQ_here ?_; refine ⟨rfl, ?_⟩; refine Sub.cons ?_; refine LQ_there (by decide +kernel) ?_; refine LQ_here ?_; refine ⟨rfl, ?_⟩; exact Sub.nil)) ?_ ?_
    · rintro i ⟨junk, last, page⟩ hi ⟨hD, R, hpg⟩ -
      simp only [List.length_map] at hi
      rw [getD_str hi]
      have hp := hpl _ (List.getElem_mem hi)
      rw [goD_cons hi] at hD
      dsimp only at hD R hpg ⊢
      generalize pcs[i] = p at *
      have hw := split_size p " " (by decide +kernel) (by omega)
      have hwl : ∀ x ∈ Txt.split p " ", x.length ≤ 422 := fun x hx => Nat.le_trans (split_part hx) hp
      with_reducible (refine X_let ?_)
      refine E_mcall (name := Str.ofString "split") (id := "str.split") ?_
      with_reducible (refine E_nm ?_; refine LQ_here ?_)
      refine ⟨GM_str F.slot_str_split F.type_str_split, ?_⟩
      with_reducible (refine Es_cons ?_; refine E_str ?_; refine Es_nil ?_)
      refine C_split (by decide +kernel) (small_size (by omega)) (small_size (by omega)) ?_
      have no : rowOf last p = none → ∀ ρ τ, retQ σ Q (.ret .none) ρ (σ ++ τ) := fun e ρ τ => R_none trivial (q2 (by rw [hD, e]; rfl))
      refine X_ifs ?_
      with_reducible (refine T_bool ?_; refine Ts_or ?_; refine T_cmp1 ?_; refine E_bi (Blt.len_ (by assumption)) (by first | exact Keep.builtin _ | exact Keep.type _) ?_; refine Es_cons ?_; refine E_nm ?_; refine LQ_here ?_; refine Es_nil ?_)
      refine C_len_list at_end (by simp; omega) ?_
      with_reducible (refine E_int ?_; refine O_ne ?_; refine T_b ?_)
      refine iteDn (fun h3 => ?_) (fun h3 => ?_)
      · with_reducible (refine iteT ?_; refine X_ret ?_; refine E_none ?_; refine sq_ret ?_; refine TJ_ret ?_; refine sq_ret ?_)
        rw [List.append_assoc]
        exact no (rowOf_not3 (by intro e; exact h3 (by simp [e]))) _ _
      · obtain ⟨a, b, c, e⟩ := len_three (l := Txt.split p " ") (by simp at h3; omega)
        have hrow := rowOf_3 (last := last) e
        rw [show Txt.split p (Str.ofString " ") = [a, b, c] from e]
        rw [e] at hwl
        have la := hwl a (by simp)
        have lb := hwl b (by simp)
        have lc := hwl c (by simp)
        with_reducible (refine Ts_or ?_; refine T_not ?_; refine T_value ?_; refine E_cf (by assumption) (AOk.le (by assumption) (by decide)) ?_; refine Es_cons ?_; refine E_sub ?_; refine E_nm ?_; refine LQ_here ?_; refine E_int ?_)
        refine S_l0 at_end ?_
        with_reducible (refine Es_nil ?_; refine ⟨_, rfl, ?_⟩; refine And.intro (by first | omega | with_unfolding_all exact Nat.le_of_ble_eq_true rfl) ?_; refine T_b ?_)
        refine iteB (fun h4 => ?_) (fun h4 => ?_)
        · with_reducible (refine iteT ?_; refine X_ret ?_; refine E_none ?_; refine sq_ret ?_; refine TJ_ret ?_; refine sq_ret ?_)
          rw [List.append_assoc]
          exact no (by rw [hrow, if_neg (fun h => by rw [h.1] at h4; cases h4)]) _ _
        · have na : isNameS a = true := by simpa using h4
          with_reducible (refine Ts_or ?_; refine T_cmp1 ?_; refine E_sub ?_; refine E_nm ?_; refine LQ_here ?_; refine E_int ?_)
          refine S_l0 at_end ?_
          with_reducible (refine E_nm ?_; refine LQ_there (by decide +kernel) ?_; refine LQ_there (by decide +kernel) ?_; refine LQ_here ?_)
          refine O_les ?_
          with_reducible (refine T_b ?_)
          rw [show (!decide (last.cps.toList < a.cps.toList)) = leS a last from rfl]
          refine iteB (fun h5 => ?_) (fun h5 => ?_)
          · with_reducible (refine iteT ?_; refine X_ret ?_; refine E_none ?_; refine sq_ret ?_; refine TJ_ret ?_; refine sq_ret ?_)
            rw [List.append_assoc]
            exact no (by rw [hrow, if_neg (fun h => by rw [h.2.1] at h5; cases h5)]) _ _
          · with_reducible (refine Ts_or_nil ?_; refine iteF ?_; refine X_nil ?_; refine sq_next ?_; refine X_let ?_; refine E_tuple ?_; refine Es_cons ?_; refine E_cf (by assumption) (AOk.le (by assumption) (by decide)) ?_; refine Es_cons ?_; refine E_sub ?_; refine E_nm ?_; refine LQ_here ?_; refine E_int ?_)
            refine S_l1 at_end ?_
            with_reducible (refine Es_cons ?_; refine E_str ?_; refine Es_nil ?_; refine ⟨_, _, rfl, ?_⟩; refine And.intro (by first | omega | with_unfolding_all exact Nat.le_of_ble_eq_true rfl) ?_; refine Es_cons ?_; refine E_cf (by assumption) (AOk.le (by assumption) (by decide)) ?_; refine Es_cons ?_; refine E_sub ?_; refine E_nm ?_; refine LQ_here ?_; refine E_int ?_)
            refine S_list at_end (by decide) (by simp) (by decide) ?_
            rw [show (List.map V.str [a, b, c]).getD (2 : Int).toNat .none = .str c from rfl]
            with_reducible (refine Es_cons ?_; refine E_str ?_; refine Es_nil ?_; refine ⟨_, _, rfl, ?_⟩; refine And.intro (by first | omega | with_unfolding_all exact Nat.le_of_ble_eq_true rfl) ?_; refine Es_nil ?_; refine And.intro (by first | omega | with_unfolding_all exact Nat.le_of_ble_eq_true rfl) ?_)
            have hvb : ∃ v : Int, (if numOK (Str.ofString "+") b = true then numV b else -1) = v ∧ ((v < 0 ∧ numOK sPlus b = false) ∨ (0 ≤ v ∧ numOK sPlus b = true ∧ v = numV b)) := by
              refine ⟨_, rfl, ?_⟩
              by_cases hb : numOK sPlus b = true
              · rw [if_pos hb]; exact .inr ⟨(numV_lt hb).1, hb, rfl⟩
              · rw [if_neg hb]; exact .inl ⟨by decide, by simpa using hb⟩
            have hvc : ∃ v : Int, (if numOK (Str.ofString "-") c = true then numV c else -1) = v ∧ ((v < 0 ∧ numOK sMinus c = false) ∨ (0 ≤ v ∧ numOK sMinus c = true ∧ v = numV c)) := by
              refine ⟨_, rfl, ?_⟩
              by_cases hb : numOK sMinus c = true
              · rw [if_pos hb]; exact .inr ⟨(numV_lt hb).1, hb, rfl⟩
              · rw [if_neg hb]; exact .inl ⟨by decide, by simpa using hb⟩
            obtain ⟨vb, eb, hvb⟩ := hvb
            obtain ⟨vc, ec, hvc⟩ := hvc
            rw [eb, ec]
            refine X_ifs ?_
            refine T_as (decide (vb < 0 ∨ vc < 0 ∨ (vb = 0 ∧ vc = 0))) ?_ ?_
            · with_reducible (refine T_bool ?_; refine Ts_or ?_; refine T_cmp1 ?_; refine E_sub ?_; refine E_nm ?_; refine LQ_here ?_; refine E_int ?_; refine S_t0 ?_; refine E_int ?_; refine O_lt ?_; refine T_b ?_)
              refine iteD (fun h6 => ?_) (fun h6 => ?_)
              · skip
                exact ⟨by simp [h6], rfl⟩
              · with_reducible (refine Ts_or ?_; refine T_cmp1 ?_; refine E_sub ?_; refine E_nm ?_; refine LQ_here ?_; refine E_int ?_; refine S_t1 ?_; refine E_int ?_; refine O_lt ?_; refine T_b ?_)
                refine iteD (fun h7 => ?_) (fun h7 => ?_)
                · skip
                  exact ⟨by simp [h7], rfl⟩
                · with_reducible (refine Ts_or ?_; refine T_cmp1 ?_; refine E_nm ?_; refine LQ_here ?_; refine E_tuple ?_; refine Es_cons ?_; refine E_int ?_; refine Es_cons ?_; refine E_int ?_; refine Es_nil ?_; refine And.intro (by first | omega | with_unfolding_all exact Nat.le_of_ble_eq_true rfl) ?_)
                  refine O_eq_pair (by have := hA.units; show _ < 9900; omega) ?_
                  with_reducible (refine T_b ?_)
                  refine iteD (fun h8 => ?_) (fun h8 => ?_)
                  · skip
                    exact ⟨by simp [h8], rfl⟩
                  · with_reducible (refine Ts_or_nil ?_)
                    exact ⟨by symm; rw [decide_eq_false_iff_not]; omega, rfl⟩
            refine iteD (fun h6 => ?_) (fun h6 => ?_)
            · with_reducible (refine X_ret ?_; refine E_none ?_; refine sq_ret ?_; refine TJ_ret ?_; refine sq_ret ?_)
              rw [List.append_assoc]
              refine R_none trivial (q2 ?_)
              rw [hD, hrow]
              split
              · rename_i hg
                rcases hvb with hvb | hvb
                · rw [hvb.2] at hg; exact absurd hg.2.2.1 (by decide)
                rcases hvc with hvc | hvc
                · rw [hvc.2] at hg; exact absurd hg.2.2.2 (by decide)
                rw [Option.bind_some, if_pos]
                show (numV b, numV c) = (0, 0)
                rw [← hvb.2.2, ← hvc.2.2]
                have : vb = 0 ∧ vc = 0 := by omega
                rw [this.1, this.2]
              · rfl
            · with_reducible (refine X_nil ?_; refine sq_next ?_; refine X_let ?_; refine E_sub ?_; refine E_nm ?_; refine LQ_there (by decide +kernel) ?_; refine LQ_here ?_; refine E_int ?_)
              have hb' : 0 ≤ vb ∧ numOK sPlus b = true ∧ vb = numV b := hvb.resolve_left fun h => h6 (.inl h.1)
              have hc' : 0 ≤ vc ∧ numOK sMinus c = true ∧ vc = numV c := hvc.resolve_left fun h => h6 (.inr (.inl h.1))
              have hr : rowOf last p = some (a, vb, vc) := by rw [hrow, if_pos ⟨na, h5, hb'.2.1, hc'.2.1⟩, hb'.2.2, hc'.2.2]
              refine S_l0 at_end ?_
              with_reducible (refine X_set ?_; refine E_nm ?_; refine LQ_there (by decide +kernel) ?_; refine LQ_here ?_; refine E_nm ?_; refine LQ_there (by decide +kernel) ?_; refine LQ_there (by decide +kernel) ?_; refine LQ_there (by decide +kernel) ?_; refine LQ_there (by decide +kernel) ?_; refine LQ_there (by decide +kernel) ?_; refine LQ_here ?_; refine E_nm ?_; refine LQ_here ?_)
              refine P_dict (key := .s a) (up_at mid0) (small_size (by rw [pgE_length]; omega)) ?_
              rw [show V.tup [V.int vb, V.int vc] = shV (vb, vc) from rfl, put_pg, R.put h5, mid_set2]
              with_reducible (refine X_nil ?_)
              refine TJ_next (junk ++ [_], a, page ++ [(a, vb, vc)]) ⟨?_, R.step hr, by simp; omega⟩ rfl mid1 (by with_reducible (refine Sub.cons ?_; refine LQ_here ?_; refine ⟨rfl, ?_⟩; refine Sub.cons ?_; refine LQ_there (by decide +kernel) ?_; refine LQ_there (by decide +kernel) ?_; refine LQ_there (by decide +kernel) ?_; refine LQ_there (by decide +kernel) ?_; refine LQ_there (by decide +kernel) ?_; refine LQ_here ?_; refine ⟨rfl, ?_⟩; exact Sub.nil))
              rw [hD, hr, Option.bind_some, if_neg]
              intro e; cases e; exact h6 (.inr (.inr ⟨rfl, rfl⟩))
    · rintro ⟨junk, last, page⟩ ⟨hD, R, hpg⟩ -
      with_reducible (refine X_ret ?_; refine E_nm ?_; refine LQ_there (by decide +kernel) ?_; refine LQ_here ?_)
      refine R_one0 (pgE_lt _ _) (q1 page ?_)
      rw [hD, List.length_map, List.drop_length]; rfl

theorem good_read : Good (dr pw_uf050040_10 18) ["text"] :=
  ⟨fun pm code doc vals h => (by obtain ⟨a, rfl⟩ := len_1 h; rfl), by decide +kernel, by decide +kernel, by decide +kernel, rfl, rfl, rfl⟩
theorem cf_read (gl : Gl B mg mb) (bl : Blt B mg mb) (S : Scr B scr nums) (H : HasF B mg (dr pw_uf050040_10 18)) (e_N : Err B K 85 (.ref 24 :: vErr)) (g_N : GC B mg "NoNote" (.raw (.ref 85)))
    (c_is_name : CF prog w B mg "is_name" 1 (fun xs σ Q X => (∃ s, xs = [.str s] ∧ s.length < 10 ^ 9 ∧ Q (.bool (isNameS s)) σ) ∨ (∃ x, xs = [x] ∧ NonStr σ x ∧ Q (.bool false) σ)))
    (c_number_of : CF prog w B mg "number_of" 1 (fun (xs : List V) (σ : List AObj) (Q : V → List AObj → Prop) (X : XT) => ∃ x h R, xs = [.str x, .str h] ∧ X = xQ R ∧ x.length ≤ 1000 ∧ (numOK h x = true → Q (.int (numV x)) σ) ∧ (numOK h x = false → R 85 σ)))
    (c_is_page : CF prog w B mg "is_page" 3 (fun xs σ Q X => (∃ k es e, xs = [.ref k] ∧ σ[k]? = some (.dict es e) ∧ es.length ≤ 100000 ∧ (∀ p ∈ es, keyLen p.1 ∧ ShareR σ p.2) ∧ Q (.bool (pageB es)) σ) ∨ (∃ x, xs = [x] ∧ NonDict σ x ∧ Q (.bool false) σ))) :
    CF prog w B mg "read" 5 (fun (xs : List V) (σ : List AObj) (Q : V → List AObj → Prop) (X : XT) => ∃ t R, xs = [.str t] ∧ X = xQ R ∧ t.length ≤ 422 ∧ (∀ page, rdP t = some page → Q (.ref σ.length) (σ ++ [.dict (pgE page) none])) ∧ (rdP t = none → ∀ more, R 85 (σ ++ more))) := by
  refine CF_ofx gl H good_read ?_
  rintro A pm code doc L a₀ _ σ Q X hA ⟨t, R₀, rfl, rfl, hl, q1, q2⟩
  all_goals refine ⟨rfl, ?_⟩

  refine ⟨_, .exc, ?_⟩
  change WX _ _ _ _ _ (_ :: _) ((_, _) :: []) _ _ _
  refine X_ifs ?_
  with_reducible (refine T_cmp1 ?_; refine E_nm ?_; refine LQ_here ?_; refine E_str ?_; refine O_eqs ?_; refine T_b ?_)
  refine iteD (fun h1 => ?_) (fun h1 => ?_)
  · with_reducible (refine X_ret ?_; refine E_dict0 ?_; refine sq_ret ?_)
    exact R_all (q1 [] (by unfold rdP; rw [if_pos h1]))
  · have hdue : rdP t = (goR (Txt.split t sComma) "" []).bind fun q => if nz q then some q else none := by unfold rdP; rw [if_neg h1]
    rw [hdue] at q1 q2
    have hn := split_size t sComma (by decide +kernel) (by omega)
    have hpl : ∀ p ∈ Txt.split t sComma, p.length ≤ 422 := fun p hp => Nat.le_trans (split_part hp) hl
    have hsz : ∀ q, goR (Txt.split t sComma) "" [] = some q → q.length ≤ 60 := fun q h => goR_size hl h
    with_reducible (refine X_nil ?_; refine sq_next ?_; refine X_let ?_; refine E_dict0 ?_; refine X_let ?_; refine E_str ?_)
    refine X_fors ?_
    refine E_mcall (name := Str.ofString "split") (id := "str.split") ?_
    with_reducible (refine E_nm ?_; refine LQ_there (by decide +kernel) ?_; refine LQ_there (by decide +kernel) ?_; refine LQ_here ?_)
    refine ⟨GM_str F.slot_str_split F.type_str_split, ?_⟩
    with_reducible (refine Es_cons ?_; refine E_str ?_; refine Es_nil ?_)
    refine C_split (by decide +kernel) (small_size (by omega)) (small_size (by show (Txt.split t sComma).length ≤ _; omega)) ?_
    rw [show Txt.split t (Str.ofString ", ") = Txt.split t sComma from rfl]
    generalize Txt.split t sComma = pcs at *
    have hk : (σ ++ [AObj.dict [] none]).length = σ.length + 1 := by simp
    rw [hk]
    refine ForG.mkx (ι := List AObj × Str × Pg) (fun i g => goR pcs "" [] = goR (pcs.drop i) g.2.1 g.2.2 ∧ Rd g.2.1 g.2.2 ∧ g.2.2.length ≤ i) (fun _ g => [("last", .str g.2.1), ("page", .ref σ.length)]) (fun _ g => σ ++ .dict (pgE g.2.2) none :: .list (pcs.map V.str) :: g.1) (It_list hA.handled (by rw [List.append_assoc]; exact mid1)) ([], "", []) ⟨rfl, Rd.nil _, Nat.le_refl _⟩ (by simp [pgE]) (by rw [List.append_assoc]; exact mid1) (by with_reducible (refine Sub.cons ?_; refine LQ_here ?_; refine ⟨rfl, ?_⟩; refine Sub.cons ?_; refine LQ_there (by decide +kernel) ?_; refine LQ_here ?_; refine ⟨rfl, ?_⟩; exact Sub.nil)) ?_ ?_
    · rintro i ⟨junk, last, page⟩ hi ⟨hD, R, hpg⟩ -
      simp only [List.length_map] at hi
      rw [getD_str hi]
      have hp := hpl _ (List.getElem_mem hi)
      rw [goR_cons hi] at hD
      dsimp only at hD R hpg ⊢
      generalize pcs[i] = p at *
      have hw := split_size p " " (by decide +kernel) (by omega)
      have hwl : ∀ x ∈ Txt.split p " ", x.length ≤ 422 := fun x hx => Nat.le_trans (split_part hx) hp
      with_reducible (refine X_let ?_)
      refine E_mcall (name := Str.ofString "split") (id := "str.split") ?_
      with_reducible (refine E_nm ?_; refine LQ_here ?_)
      refine ⟨GM_str F.slot_str_split F.type_str_split, ?_⟩
      with_reducible (refine Es_cons ?_; refine E_str ?_; refine Es_nil ?_)
      refine C_split (by decide +kernel) (small_size (by omega)) (small_size (by omega)) ?_
      have no : rowOf last p = none → ∀ τ, R₀ 85 (σ ++ τ) := fun e τ => q2 (by rw [hD, e]; rfl) τ
      refine X_ifs ?_
      with_reducible (refine T_bool ?_; refine Ts_or ?_; refine T_cmp1 ?_; refine E_bi (Blt.len_ (by assumption)) (by first | exact Keep.builtin _ | exact Keep.type _) ?_; refine Es_cons ?_; refine E_nm ?_; refine LQ_here ?_; refine Es_nil ?_)
      refine C_len_list at_end (by simp; omega) ?_
      with_reducible (refine E_int ?_; refine O_ne ?_; refine T_b ?_)
      refine iteDn (fun h3 => ?_) (fun h3 => ?_)
      · refine X_raise e_N.o g_N hA.handled Sub.nil ?_
        with_reducible (refine Es_cons ?_; refine E_str ?_; refine Es_nil ?_; refine And.intro (by first | omega | with_unfolding_all exact Nat.le_of_ble_eq_true rfl) ?_)
        rw [List.append_assoc]
        exact no (rowOf_not3 (by intro e; exact h3 (by simp [e]))) _
      · obtain ⟨a, b, c, e⟩ := len_three (l := Txt.split p " ") (by simp at h3; omega)
        have hrow := rowOf_3 (last := last) e
        rw [show Txt.split p (Str.ofString " ") = [a, b, c] from e]
        rw [e] at hwl
        have la := hwl a (by simp)
        have lb := hwl b (by simp)
        have lc := hwl c (by simp)
        with_reducible (refine Ts_or ?_; refine T_not ?_; refine T_value ?_; refine E_cf (by assumption) (AOk.le (by assumption) (by decide)) ?_; refine Es_cons ?_; refine E_sub ?_; refine E_nm ?_; refine LQ_here ?_; refine E_int ?_)
        refine S_l0 at_end ?_
        with_reducible (refine Es_nil ?_)
        refine .inl ⟨a, rfl, by omega, ?_⟩
        with_reducible (refine T_b ?_)
        refine iteB (fun h4 => ?_) (fun h4 => ?_)
        · refine X_raise e_N.o g_N hA.handled Sub.nil ?_
          with_reducible (refine Es_cons ?_; refine E_str ?_; refine Es_nil ?_; refine And.intro (by first | omega | with_unfolding_all exact Nat.le_of_ble_eq_true rfl) ?_)
          rw [List.append_assoc]
          exact no (by rw [hrow, if_neg (fun h => by rw [h.1] at h4; cases h4)]) _
        · have na : isNameS a = true := by simpa using h4
          with_reducible (refine Ts_or ?_; refine T_cmp1 ?_; refine E_sub ?_; refine E_nm ?_; refine LQ_here ?_; refine E_int ?_)
          refine S_l0 at_end ?_
          with_reducible (refine E_nm ?_; refine LQ_there (by decide +kernel) ?_; refine LQ_there (by decide +kernel) ?_; refine LQ_here ?_)
          refine O_les ?_
          with_reducible (refine T_b ?_)
          rw [show (!decide (last.cps.toList < a.cps.toList)) = leS a last from rfl]
          refine iteB (fun h5 => ?_) (fun h5 => ?_)
          · refine X_raise e_N.o g_N hA.handled Sub.nil ?_
            with_reducible (refine Es_cons ?_; refine E_str ?_; refine Es_nil ?_; refine And.intro (by first | omega | with_unfolding_all exact Nat.le_of_ble_eq_true rfl) ?_)
            rw [List.append_assoc]
            exact no (by rw [hrow, if_neg (fun h => by rw [h.2.1] at h5; cases h5)]) _
          · with_reducible (refine Ts_or_nil ?_; refine iteF ?_; refine X_nil ?_; refine sq_next ?_; refine X_let ?_; refine E_sub ?_; refine E_nm ?_; refine LQ_here ?_; refine E_int ?_)
            refine S_l0 at_end ?_
            refine X_set ?_
            refine E_x Sub.nil ?_
            with_reducible (refine E_tuple ?_; refine Es_cons ?_; refine E_cf (by assumption) (AOk.le (by assumption) (by decide)) ?_; refine Es_cons ?_; refine E_sub ?_; refine E_nm ?_; refine LQ_there (by decide +kernel) ?_; refine LQ_here ?_; refine E_int ?_)
            refine S_l1 at_end ?_
            with_reducible (refine Es_cons ?_; refine E_str ?_; refine Es_nil ?_)
            refine ⟨b, _, _, rfl, rfl, by omega, fun hb => ?_, fun hb => ?_⟩
            · with_reducible (refine Es_cons ?_; refine E_cf (by assumption) (AOk.le (by assumption) (by decide)) ?_; refine Es_cons ?_; refine E_sub ?_; refine E_nm ?_; refine LQ_there (by decide +kernel) ?_; refine LQ_here ?_; refine E_int ?_)
              refine S_list at_end (by decide) (by simp) (by decide) ?_
              rw [show (List.map V.str [a, b, c]).getD (2 : Int).toNat .none = .str c from rfl]
              with_reducible (refine Es_cons ?_; refine E_str ?_; refine Es_nil ?_)
              refine ⟨c, _, _, rfl, rfl, by omega, fun hc => ?_, fun hc => ?_⟩
              · have hr : rowOf last p = some (a, numV b, numV c) := by rw [hrow, if_pos ⟨na, h5, hb, hc⟩]
                with_reducible (refine Es_nil ?_; refine And.intro (by first | omega | with_unfolding_all exact Nat.le_of_ble_eq_true rfl) ?_; refine E_nm ?_; refine LQ_there (by decide +kernel) ?_; refine LQ_there (by decide +kernel) ?_; refine LQ_there (by decide +kernel) ?_; refine LQ_there (by decide +kernel) ?_; refine LQ_here ?_; refine E_nm ?_; refine LQ_here ?_)
                refine P_dict (key := .s a) (up_at mid0) (small_size (by rw [pgE_length]; omega)) ?_
                rw [show V.tup [V.int (numV b), V.int (numV c)] = shV (numV b, numV c) from rfl, put_pg, R.put h5, mid_set2]
                with_reducible (refine X_nil ?_)
                refine TJ_next (junk ++ [_], a, page ++ [(a, numV b, numV c)]) ⟨?_, R.step hr, by simp; omega⟩ rfl mid1 (by with_reducible (refine Sub.cons ?_; refine LQ_here ?_; refine ⟨rfl, ?_⟩; refine Sub.cons ?_; refine LQ_there (by decide +kernel) ?_; refine LQ_there (by decide +kernel) ?_; refine LQ_there (by decide +kernel) ?_; refine LQ_there (by decide +kernel) ?_; refine LQ_here ?_; refine ⟨rfl, ?_⟩; exact Sub.nil))
                rw [hD, hr]; rfl
              · rw [List.append_assoc]
                exact no (by rw [hrow, if_neg (fun h => by have := h.2.2.2; rw [show numOK sMinus c = false from hc] at this; cases this)]) _
            · rw [List.append_assoc]
              exact no (by rw [hrow, if_neg (fun h => by have := h.2.2.1; rw [show numOK sPlus b = false from hb] at this; cases this)]) _
    · rintro ⟨junk, last, page⟩ ⟨hD, R, hpg⟩ -
      rw [List.length_map, List.drop_length] at hD
      dsimp only [goR] at hD
      have h60 := hsz _ hD
      rw [hD] at q1 q2
      dsimp only at R ⊢
      refine X_ifs ?_
      with_reducible (refine T_not ?_; refine T_value ?_; refine E_cf (by assumption) (AOk.le (by assumption) (by decide)) ?_; refine Es_cons ?_; refine E_nm ?_; refine LQ_there (by decide +kernel) ?_; refine LQ_here ?_; refine Es_nil ?_)
      refine .inl ⟨_, _, _, rfl, mid0, by rw [pgE_length]; omega, fun e he => ?_, ?_⟩
      · obtain ⟨r, hr, rfl⟩ := List.mem_map.mp he
        exact ⟨nameS_len9 (R.ok r hr).1, .good _ _⟩
      · rw [pageB_nz R h60]
        with_reducible (refine T_b ?_)
        refine iteB (fun h4 => ?_) (fun h4 => ?_)
        · refine X_raise e_N.o g_N hA.handled Sub.nil ?_
          with_reducible (refine Es_cons ?_; refine E_str ?_; refine Es_nil ?_; refine And.intro (by first | omega | with_unfolding_all exact Nat.le_of_ble_eq_true rfl) ?_)
          exact q2 (by rw [Option.bind_some, if_neg (by simpa using h4)]) _
        · with_reducible (refine X_nil ?_; refine sq_next ?_; refine X_ret ?_; refine E_nm ?_; refine LQ_there (by decide +kernel) ?_; refine LQ_here ?_)
          exact R_one0 (pgE_lt _ _) (q1 page (by rw [Option.bind_some, if_pos (by simpa using h4)]))

theorem good_sign_by : Good (dr pw_uf050040_10 26) ["_law_cell"] :=
  ⟨fun pm code doc vals h => (by obtain ⟨a, rfl⟩ := len_1 h; rfl), by decide +kernel, by decide +kernel, by decide +kernel, rfl, rfl, rfl⟩
theorem cf_sign_by (gl : Gl B mg mb) (bl : Blt B mg mb) (S : Scr B scr nums) (H : HasF B mg (dr pw_uf050040_10 26)) :
    CF prog w B mg "_law_sign_by" 1 (fun xs σ Q X => ∃ c, xs = [.int c] ∧ ∀ s : Str, s.length = 1 → Q (.str s) σ) := by
  refine CF_of gl H good_sign_by ?_
  rintro A pm code doc L a₀ _ σ Q X hA ⟨c, rfl, q⟩
  refine ⟨rfl, ?_⟩
  change WX _ _ _ _ _ (_ :: _) ((_, _) :: []) _ _ _

  with_reducible (refine X_let ?_; refine E_str ?_; refine X_let ?_; refine E_bin ?_; refine E_nm ?_; refine LQ_here ?_; refine E_str ?_)
  refine O_adds ?_ (small_size (by decide +kernel))
  with_reducible (refine X_let ?_; refine E_bin ?_; refine E_nm ?_; refine LQ_here ?_; refine E_str ?_)
  refine O_adds ?_ (small_size (by decide +kernel))
  with_reducible (refine X_ret ?_; refine E_sub ?_; refine E_nm ?_; refine LQ_here ?_; refine E_bin ?_; refine E_nm ?_; refine LQ_there (by decide +kernel) ?_; refine LQ_there (by decide +kernel) ?_; refine LQ_there (by decide +kernel) ?_; refine LQ_here ?_; refine E_bi (Blt.len_ (by assumption)) (by first | exact Keep.builtin _ | exact Keep.type _) ?_; refine Es_cons ?_; refine E_nm ?_; refine LQ_here ?_; refine Es_nil ?_)
  generalize hx : (_ : Str) ++ _ ++ _ = x
  have hl : x.length = 109 := by rw [← hx]; decide +kernel
  refine C_len_str (by omega) ?_
  rw [hl, show ((109 : Nat) : Int) = 109 from rfl]
  with_reducible (refine O_mod ?_ (by omega))
  refine S_str (by omega) (by have : x.cps.size = 109 := hl; omega) (by omega) ?_
  exact R_all (q _ rfl)

theorem good_bent : Good (dr pw_uf050040_10 28) ["_law_text", "_law_cell"] :=
  ⟨fun pm code doc vals h => (by obtain ⟨a, b, rfl⟩ := len_2 h; rfl), by decide +kernel, by decide +kernel, by decide +kernel, rfl, rfl, rfl⟩
theorem cf_bent (gl : Gl B mg mb) (bl : Blt B mg mb) (S : Scr B scr nums) (H : HasF B mg (dr pw_uf050040_10 28))
    (c_sign_by : CF prog w B mg "_law_sign_by" 1 (fun xs σ Q X => ∃ c, xs = [.int c] ∧ ∀ s : Str, s.length = 1 → Q (.str s) σ)) :
    CF prog w B mg "_law_bent" 2 (fun xs σ Q X => ∃ t c, xs = [.str t, .int c] ∧ t.length ≤ 421 ∧ ∀ u : Str, u.length ≤ 422 → Q (.str u) σ) := by
  refine CF_of gl H good_bent ?_
  rintro A pm code doc L a₀ _ σ Q X hA ⟨t, c, rfl, hl, q⟩
  refine ⟨rfl, ?_⟩
  change WX _ _ _ _ _ (_ :: _) ((_, _) :: (_, _) :: []) _ _ _

  with_reducible (refine X_let ?_; refine E_bi (Blt.len_ (by assumption)) (by first | exact Keep.builtin _ | exact Keep.type _) ?_; refine Es_cons ?_; refine E_nm ?_; refine LQ_here ?_; refine Es_nil ?_)
  refine C_len_str (by omega) ?_
  with_reducible (refine X_let ?_; refine E_bin ?_; refine E_bin ?_; refine E_nm ?_; refine LQ_there (by decide +kernel) ?_; refine LQ_there (by decide +kernel) ?_; refine LQ_here ?_; refine E_int ?_; refine O_div ?_ (by omega) (by decide +kernel); refine E_bin ?_; refine E_nm ?_; refine LQ_here ?_; refine E_int ?_; refine O_add ?_; refine O_mod ?_ (by omega); refine X_let ?_; refine E_cf (by assumption) (AOk.le (by assumption) (by decide)) ?_; refine Es_cons ?_; refine E_bin ?_; refine E_bin ?_; refine E_nm ?_; refine LQ_there (by decide +kernel) ?_; refine LQ_there (by decide +kernel) ?_; refine LQ_there (by decide +kernel) ?_; refine LQ_here ?_; refine E_int ?_; refine O_div ?_ (by omega) (by decide +kernel); refine E_bin ?_; refine E_nm ?_; refine LQ_there (by decide +kernel) ?_; refine LQ_here ?_; refine E_int ?_; refine O_add ?_; refine O_div ?_ (by omega) (log2_small (by omega)); refine Es_nil ?_; refine ⟨_, rfl, ?_⟩)
  intro s hs
  have a0 : 0 ≤ c / 4 % ((t.length : Int) + 1) := Int.emod_nonneg _ (by omega)
  have a1 : c / 4 % ((t.length : Int) + 1) < (t.length : Int) + 1 := Int.emod_lt_of_pos _ (by omega)
  generalize c / 4 % ((t.length : Int) + 1) = at_ at a0 a1
  have tk : (⟨(t.cps.toList.take at_.toNat).toArray⟩ : Str).length = at_.toNat := by simp [Str.length] at a1 ⊢; omega
  have dr : (⟨(t.cps.toList.drop at_.toNat).toArray⟩ : Str).length = t.length - at_.toNat := by simp [Str.length]
  have dr1 : (⟨(t.cps.toList.drop (at_ + 1).toNat).toArray⟩ : Str).length = t.length - (at_ + 1).toNat := by simp [Str.length]
  refine X_ifs ?_
  with_reducible (refine T_cmp1 ?_; refine E_bin ?_; refine E_nm ?_; refine LQ_there (by decide +kernel) ?_; refine LQ_there (by decide +kernel) ?_; refine LQ_there (by decide +kernel) ?_; refine LQ_there (by decide +kernel) ?_; refine LQ_here ?_; refine E_int ?_; refine O_mod ?_ (by omega); refine E_int ?_; refine O_eq ?_; refine T_b ?_)
  refine iteD (fun h1 => ?_) (fun h1 => ?_)
  · with_reducible (refine X_ret ?_; refine E_bin ?_; refine E_bin ?_; refine E_slice_to ?_; refine E_nm ?_; refine LQ_there (by decide +kernel) ?_; refine LQ_there (by decide +kernel) ?_; refine LQ_there (by decide +kernel) ?_; refine LQ_here ?_; refine ⟨_, rfl, ?_⟩)
    refine ⟨small_size (by omega), ?_⟩
    with_reducible (refine E_nm ?_; refine LQ_there (by decide +kernel) ?_; refine LQ_here ?_; refine ⟨_, rfl, ?_⟩; refine E_nm ?_; refine LQ_here ?_)
    rw [slice_to a0]
    refine O_adds ?_ (small_size (by omega))
    with_reducible (refine E_slice_from ?_; refine E_nm ?_; refine LQ_there (by decide +kernel) ?_; refine LQ_there (by decide +kernel) ?_; refine LQ_there (by decide +kernel) ?_; refine LQ_here ?_; refine ⟨_, rfl, ?_⟩)
    refine ⟨small_size (by omega), ?_⟩
    with_reducible (refine E_nm ?_; refine LQ_there (by decide +kernel) ?_; refine LQ_here ?_; refine ⟨_, rfl, ?_⟩)
    rw [slice_from' a0]
    refine O_adds ?_ (small_size (by rw [slen_append]; omega))
    with_reducible (refine sq_ret ?_)
    exact R_all (q _ (by rw [slen_append, slen_append]; omega))
  with_reducible (refine X_nil ?_; refine sq_next ?_)
  refine X_ifs ?_
  with_reducible (refine T_cmp1 ?_; refine E_bin ?_; refine E_nm ?_; refine LQ_there (by decide +kernel) ?_; refine LQ_there (by decide +kernel) ?_; refine LQ_there (by decide +kernel) ?_; refine LQ_there (by decide +kernel) ?_; refine LQ_here ?_; refine E_int ?_; refine O_mod ?_ (by omega); refine E_int ?_; refine O_eq ?_; refine T_b ?_)
  refine iteD (fun h2 => ?_) (fun h2 => ?_)
  · with_reducible (refine X_ret ?_; refine E_bin ?_; refine E_slice_to ?_; refine E_nm ?_; refine LQ_there (by decide +kernel) ?_; refine LQ_there (by decide +kernel) ?_; refine LQ_there (by decide +kernel) ?_; refine LQ_here ?_; refine ⟨_, rfl, ?_⟩)
    refine ⟨small_size (by omega), ?_⟩
    with_reducible (refine E_nm ?_; refine LQ_there (by decide +kernel) ?_; refine LQ_here ?_; refine ⟨_, rfl, ?_⟩; refine E_slice_from ?_; refine E_nm ?_; refine LQ_there (by decide +kernel) ?_; refine LQ_there (by decide +kernel) ?_; refine LQ_there (by decide +kernel) ?_; refine LQ_here ?_; refine ⟨_, rfl, ?_⟩)
    rw [slice_to a0]
    skip
    refine ⟨small_size (by omega), ?_⟩
    with_reducible (refine E_bin ?_; refine E_nm ?_; refine LQ_there (by decide +kernel) ?_; refine LQ_here ?_; refine E_int ?_; refine O_add ?_; refine ⟨_, rfl, ?_⟩)
    rw [slice_from' (by omega)]
    refine O_adds ?_ (small_size (by omega))
    with_reducible (refine sq_ret ?_)
    exact R_all (q _ (by rw [slen_append]; omega))
  with_reducible (refine X_nil ?_; refine sq_next ?_)
  refine X_ifs ?_
  with_reducible (refine T_cmp1 ?_; refine E_bin ?_; refine E_nm ?_; refine LQ_there (by decide +kernel) ?_; refine LQ_there (by decide +kernel) ?_; refine LQ_there (by decide +kernel) ?_; refine LQ_there (by decide +kernel) ?_; refine LQ_here ?_; refine E_int ?_; refine O_mod ?_ (by omega); refine E_int ?_; refine O_eq ?_; refine T_b ?_)
  refine iteD (fun h3 => ?_) (fun h3 => ?_)
  · with_reducible (refine X_ret ?_; refine E_bin ?_; refine E_bin ?_; refine E_slice_to ?_; refine E_nm ?_; refine LQ_there (by decide +kernel) ?_; refine LQ_there (by decide +kernel) ?_; refine LQ_there (by decide +kernel) ?_; refine LQ_here ?_; refine ⟨_, rfl, ?_⟩)
    refine ⟨small_size (by omega), ?_⟩
    with_reducible (refine E_nm ?_; refine LQ_there (by decide +kernel) ?_; refine LQ_here ?_; refine ⟨_, rfl, ?_⟩; refine E_nm ?_; refine LQ_here ?_)
    rw [slice_to a0]
    refine O_adds ?_ (small_size (by omega))
    with_reducible (refine E_slice_from ?_; refine E_nm ?_; refine LQ_there (by decide +kernel) ?_; refine LQ_there (by decide +kernel) ?_; refine LQ_there (by decide +kernel) ?_; refine LQ_here ?_; refine ⟨_, rfl, ?_⟩)
    refine ⟨small_size (by omega), ?_⟩
    with_reducible (refine E_bin ?_; refine E_nm ?_; refine LQ_there (by decide +kernel) ?_; refine LQ_here ?_; refine E_int ?_; refine O_add ?_; refine ⟨_, rfl, ?_⟩)
    rw [slice_from' (by omega)]
    refine O_adds ?_ (small_size (by rw [slen_append]; omega))
    with_reducible (refine sq_ret ?_)
    exact R_all (q _ (by rw [slen_append, slen_append]; omega))
  with_reducible (refine X_nil ?_; refine sq_next ?_; refine X_let ?_; refine E_list ?_; refine Es_cons ?_; refine E_str ?_; refine Es_cons ?_; refine E_str ?_; refine Es_cons ?_; refine E_str ?_; refine Es_cons ?_; refine E_str ?_; refine Es_cons ?_; refine E_str ?_; refine Es_cons ?_; refine E_str ?_; refine Es_cons ?_; refine E_str ?_; refine Es_cons ?_; refine E_str ?_; refine Es_cons ?_; refine E_str ?_; refine Es_nil ?_; refine And.intro (by first | omega | with_unfolding_all exact Nat.le_of_ble_eq_true rfl) ?_; refine X_let ?_; refine E_bin ?_; refine E_nm ?_; refine LQ_here ?_; refine E_list ?_; refine Es_cons ?_; refine E_str ?_; refine Es_cons ?_; refine E_str ?_; refine Es_cons ?_; refine E_str ?_; refine Es_cons ?_; refine E_str ?_; refine Es_nil ?_; refine And.intro (by first | omega | with_unfolding_all exact Nat.le_of_ble_eq_true rfl) ?_)
  refine O_addl at_prev at_end' (by decide) ?_
  with_reducible (refine X_ret ?_; refine E_sub ?_; refine E_nm ?_; refine LQ_here ?_; refine E_bin ?_; refine E_bin ?_; refine E_nm ?_; refine LQ_there (by decide +kernel) ?_; refine LQ_there (by decide +kernel) ?_; refine LQ_there (by decide +kernel) ?_; refine LQ_there (by decide +kernel) ?_; refine LQ_there (by decide +kernel) ?_; refine LQ_there (by decide +kernel) ?_; refine LQ_here ?_; refine E_int ?_; refine O_div ?_ (by omega) (by decide +kernel); refine E_int ?_; refine O_mod ?_ (by omega))
  refine S_list at_end (by omega) (by simp; omega) (by omega) ?_
  have hm : (c / 4 % 13).toNat < 13 := by omega
  generalize (c / 4 % 13).toNat = m at hm
  generalize hL : ([V.str _, V.str _, V.str _, V.str _, V.str _, V.str _, V.str _, V.str _, V.str _] ++ [V.str _, V.str _, V.str _, V.str _] : List V) = L
  have hall : ∀ x ∈ L, ∃ u : Str, x = .str u ∧ u.length ≤ 422 := by
    rw [← hL]
    intro x hx
    simp only [List.mem_cons, List.cons_append, List.nil_append, List.not_mem_nil, or_false] at hx
    rcases hx with rfl | rfl | rfl | rfl | rfl | rfl | rfl | rfl | rfl | rfl | rfl | rfl | rfl <;> exact ⟨_, rfl, by decide +kernel⟩
  have hLl : m < L.length := by rw [← hL]; exact hm
  obtain ⟨u, e, hu⟩ := hall _ (List.getElem_mem hLl)
  rw [List.getD_eq_getElem?_getD, List.getElem?_eq_getElem hLl, Option.getD_some, e, List.append_assoc, List.append_assoc]
  exact R_none trivial (q u hu)

def cellAt (nums : List Int) (k : Int) : Int := if k < nums.length then nums.getD k.toNat 0 else 0

theorem good_cell_at : Good (dr pw_uf050040_10 20) ["_law_script", "_law_k"] :=
  ⟨fun pm code doc vals h => (by obtain ⟨a, b, rfl⟩ := len_2 h; rfl), by decide +kernel, by decide +kernel, by decide +kernel, rfl, rfl, rfl⟩
theorem cf_cell_at (gl : Gl B mg mb) (bl : Blt B mg mb) (S : Scr B scr nums) (H : HasF B mg (dr pw_uf050040_10 20)) :
    CF prog w B mg "_law_cell_at" 1 (fun xs σ Q X => ∃ k, xs = [.raw (.ref scr), .int k] ∧ 0 ≤ k ∧ Q (.int (cellAt nums k)) σ) := by
  refine CF_of gl H good_cell_at ?_
  rintro A pm code doc L a₀ _ σ Q X hA ⟨k, rfl, hk, q⟩
  refine ⟨rfl, ?_⟩
  change WX _ _ _ _ _ (_ :: _) ((_, _) :: (_, _) :: []) _ _ _

  refine X_ifs ?_
  with_reducible (refine T_cmp1 ?_; refine E_nm ?_; refine LQ_there (by decide +kernel) ?_; refine LQ_here ?_; refine E_bi (Blt.len_ (by assumption)) (by first | exact Keep.builtin _ | exact Keep.type _) ?_; refine Es_cons ?_; refine E_nm ?_; refine LQ_here ?_; refine Es_nil ?_; refine C_len_scr (by assumption) ?_; refine O_lt ?_; refine T_b ?_)
  refine iteD (fun h => ?_) (fun h => ?_)
  · with_reducible (refine X_ret ?_; refine E_sub ?_; refine E_nm ?_; refine LQ_here ?_; refine E_nm ?_; refine LQ_there (by decide +kernel) ?_; refine LQ_here ?_)
    refine S_scr S hk h ?_
    with_reducible (refine sq_ret ?_)
    refine R_all ?_
    simpa [cellAt, h] using q
  · with_reducible (refine X_nil ?_; refine sq_next ?_; refine X_ret ?_; refine E_int ?_)
    refine R_all ?_
    simpa [cellAt, h] using q

theorem good_whole : Good (dr pw_uf050040_10 21) ["_law_found"] :=
  ⟨fun pm code doc vals h => (by obtain ⟨a, rfl⟩ := len_1 h; rfl), by decide +kernel, by decide +kernel, by decide +kernel, rfl, rfl, rfl⟩
theorem cf_whole (gl : Gl B mg mb) (bl : Blt B mg mb) (S : Scr B scr nums) (H : HasF B mg (dr pw_uf050040_10 21)) :
    CF prog w B mg "_law_whole" 1 (fun xs σ Q X => ∃ c, xs = [.int c] ∧ Q (.bool true) σ) := by
  refine CF_of gl H good_whole ?_
  rintro A pm code doc L a₀ _ σ Q X hA ⟨c, rfl, q⟩
  refine ⟨rfl, ?_⟩
  change WX _ _ _ _ _ (_ :: _) ((_, _) :: []) _ _ _

  with_reducible (refine X_ret ?_)
  refine E_boolop ?_
  with_reducible (refine Bo_and ?_; refine E_bi (Blt.isinstance_ (by assumption)) (by first | exact Keep.builtin _ | exact Keep.type _) ?_; refine Es_cons ?_; refine E_nm ?_; refine LQ_here ?_; refine Es_cons ?_; refine E_nm ?_; refine LQ_there (by decide +kernel) ?_; refine LQ_nil ?_; refine N_bi (Blt.int_ (by assumption)) ?_; refine Es_nil ?_; refine isi_int (isi_int_int) ?_; refine T_b ?_; refine iteT ?_; refine Bo_one ?_; refine E_un ?_; refine E_bi (Blt.isinstance_ (by assumption)) (by first | exact Keep.builtin _ | exact Keep.type _) ?_; refine Es_cons ?_; refine E_nm ?_; refine LQ_here ?_; refine Es_cons ?_; refine E_nm ?_; refine LQ_there (by decide +kernel) ?_; refine LQ_nil ?_; refine N_bi (Blt.bool_ (by assumption)) ?_; refine Es_nil ?_; refine isi_int (isi_int_bool) ?_; refine O_not ?_)
  exact R_all q

theorem good_share : Good (dr pw_uf050040_10 22) ["_law_found", "_law_due_here"] :=
  ⟨fun pm code doc vals h => (by obtain ⟨a, b, rfl⟩ := len_2 h; rfl), by decide +kernel, by decide +kernel, by decide +kernel, rfl, rfl, rfl⟩
theorem cf_share (gl : Gl B mg mb) (bl : Blt B mg mb) (S : Scr B scr nums) (H : HasF B mg (dr pw_uf050040_10 22))
    (c_whole : CF prog w B mg "_law_whole" 1 (fun xs σ Q X => ∃ c, xs = [.int c] ∧ Q (.bool true) σ)) :
    CF prog w B mg "_law_share" 2 (fun xs σ Q X => ∃ a b c d, xs = [.tup [.int a, .int b], .tup [.int c, .int d]] ∧ Q (.bool (decide (a = c ∧ b = d))) σ) := by
  refine CF_of gl H good_share ?_
  rintro A pm code doc L a₀ _ σ Q X hA ⟨a, b, c, d, rfl, q⟩
  refine ⟨rfl, ?_⟩
  change WX _ _ _ _ _ (_ :: _) ((_, _) :: (_, _) :: []) _ _ _

  refine X_ifs ?_
  with_reducible (refine T_bool ?_; refine Ts_or ?_; refine T_not ?_; refine T_value ?_; refine E_bi (Blt.isinstance_ (by assumption)) (by first | exact Keep.builtin _ | exact Keep.type _) ?_; refine Es_cons ?_; refine E_nm ?_; refine LQ_here ?_; refine Es_cons ?_; refine E_nm ?_; refine LQ_there (by decide +kernel) ?_; refine LQ_there (by decide +kernel) ?_; refine LQ_nil ?_; refine N_bi (Blt.tuple_ (by assumption)) ?_; refine Es_nil ?_; refine isi_tup (isi_tuple_tuple) ?_; refine T_b ?_; refine iteNo (by decide) ?_; refine Ts_or ?_; refine T_cmp1 ?_; refine E_bi (Blt.len_ (by assumption)) (by first | exact Keep.builtin _ | exact Keep.type _) ?_; refine Es_cons ?_; refine E_nm ?_; refine LQ_here ?_; refine Es_nil ?_; refine C_len_t2 ?_; refine E_int ?_; refine O_ne ?_; refine T_b ?_; refine iteNo (by decide) ?_; refine Ts_or_nil ?_; refine iteF ?_; refine X_nil ?_; refine sq_next ?_; refine X_ret ?_)
  refine E_boolop ?_
  with_reducible (refine Bo_and ?_; refine E_cf (by assumption) (AOk.le (by assumption) (by decide)) ?_; refine Es_cons ?_; refine E_sub ?_; refine E_nm ?_; refine LQ_here ?_; refine E_int ?_; refine S_t0 ?_; refine Es_nil ?_; refine ⟨_, rfl, ?_⟩; refine T_b ?_; refine iteT ?_; refine Bo_and ?_; refine E_cf (by assumption) (AOk.le (by assumption) (by decide)) ?_; refine Es_cons ?_; refine E_sub ?_; refine E_nm ?_; refine LQ_here ?_; refine E_int ?_; refine S_t1 ?_; refine Es_nil ?_; refine ⟨_, rfl, ?_⟩; refine T_b ?_; refine iteT ?_; refine Bo_and ?_; refine E_cmp1 ?_; refine E_sub ?_; refine E_nm ?_; refine LQ_here ?_; refine E_int ?_; refine S_t0 ?_; refine E_sub ?_; refine E_nm ?_; refine LQ_there (by decide +kernel) ?_; refine LQ_here ?_; refine E_int ?_; refine S_t0 ?_; refine O_eq ?_; refine T_b ?_)
  refine iteD (fun h => ?_) (fun h => ?_)
  · with_reducible (refine Bo_one ?_; refine E_cmp1 ?_; refine E_sub ?_; refine E_nm ?_; refine LQ_here ?_; refine E_int ?_; refine S_t1 ?_; refine E_sub ?_; refine E_nm ?_; refine LQ_there (by decide +kernel) ?_; refine LQ_here ?_; refine E_int ?_; refine S_t1 ?_; refine O_eq ?_)
    refine R_all ?_
    simpa [h] using q
  · refine R_all ?_
    simpa [h] using q

theorem letters_get {i : Nat} (h : i < 26) : letters.cps.getD i 0 = 97 + i := by
  have e : letters.cps = (List.range' 97 26).toArray := by rw [← letters_list]
  rw [e, Array.getD_eq_getD_getElem?, List.getElem?_toArray, List.getElem?_range' (by simpa using h)]
  simp
theorem letters_size : letters.cps.size = 26 := by decide +kernel
theorem letters_sign {i : Nat} (h : i < 26) : signAt letters i = sg (97 + i) := by unfold signAt sg; rw [letters_get h]
def nameL0 (c : Int) : List Nat := (List.range (1 + c % 8 - 0).toNat).map fun (k : Nat) => 97 + ((c / 8 + (0 + (k : Int)) * (1 + c / 208 % 25)) % 26).toNat
def nameL (c : Int) : List Nat := if c / 5200 % 2 = 1 then (nameL0 c).set (c / 10400 % ((nameL0 c).length : Int)).toNat (97 + (c / 83200 % 26).toNat) else nameL0 c
def nameBy (c : Int) : Str := ⟨(nameL c).toArray⟩
theorem nameL0_length (c : Int) : (nameL0 c).length = (1 + c % 8).toNat := by simp [nameL0]
theorem nameL_length (c : Int) : (nameL c).length = (1 + c % 8).toNat := by unfold nameL; split <;> simp [nameL0_length]
theorem nameL_ok (c : Int) : ∀ x ∈ nameL c, 97 ≤ x ∧ x ≤ 122 := by
  have h0 : ∀ x ∈ nameL0 c, 97 ≤ x ∧ x ≤ 122 := fun x hx => by
    obtain ⟨k, _, rfl⟩ := List.mem_map.mp hx
    omega
  intro x hx
  unfold nameL at hx
  split at hx
  · rcases List.mem_or_eq_of_mem_set hx with h | rfl
    · exact h0 x h
    · omega
  · exact h0 x hx
theorem nameBy_ok (c : Int) : isNameS (nameBy c) = true := by
  unfold isNameS nameBy
  have h1 := nameL_length c
  have h2 := nameL_ok c
  simp only [Str.length, List.size_toArray, Bool.and_eq_true, decide_eq_true_eq, List.all_eq_true]
  refine ⟨by omega, fun x hx => ?_⟩
  unfold isL
  exact decide_eq_true (h2 x (by simpa using hx))

theorem good_name_by : Good (dr pw_uf050040_10 23) ["_law_cell"] :=
  ⟨fun pm code doc vals h => (by obtain ⟨a, rfl⟩ := len_1 h; rfl), by decide +kernel, by decide +kernel, by decide +kernel, rfl, rfl, rfl⟩
theorem cf_name_by (gl : Gl B mg mb) (bl : Blt B mg mb) (S : Scr B scr nums) (H : HasF B mg (dr pw_uf050040_10 23)) :
    CF prog w B mg "_law_name_by" 2 (fun xs σ Q X => ∃ c, xs = [.int c] ∧ Q (.str (nameBy c)) σ) := by
  refine CF_of gl H good_name_by ?_
  rintro A pm code doc L a₀ _ σ Q X hA ⟨c, rfl, q⟩
  refine ⟨rfl, ?_⟩
  change WX _ _ _ _ _ (_ :: _) ((_, _) :: []) _ _ _

  with_reducible (refine X_letc ?_; refine E_str ?_; refine X_letc ?_; refine E_bin ?_; refine E_int ?_; refine E_bin ?_; refine E_bin ?_; refine E_nm ?_; refine LQ_there (by decide +kernel) ?_; refine LQ_here ?_; refine E_int ?_; refine O_div ?_ (by omega) (by decide +kernel); refine E_int ?_; refine O_mod ?_ (by omega); refine O_add ?_)
  refine X_compl [("_law_signs", .str (Str.ofString "abcdefghijklmnopqrstuvwxyz")), ("_law_step", .int (1 + c / 208 % 25)), ("_law_cell", .int c)] (by kernel_rfl!) (by with_reducible (refine Sub.cons ?_; refine LQ_there (by decide +kernel) ?_; refine LQ_here ?_; refine ⟨rfl, ?_⟩; refine Sub.cons ?_; refine LQ_here ?_; refine ⟨rfl, ?_⟩; refine Sub.cons ?_; refine LQ_there (by decide +kernel) ?_; refine LQ_there (by decide +kernel) ?_; refine LQ_here ?_; refine ⟨rfl, ?_⟩; exact Sub.nil)) (by kernel_rfl!) env_apart ?_
  with_reducible (refine E_bi (Blt.range_ (by assumption)) (by first | exact Keep.builtin _ | exact Keep.type _) ?_; refine Es_cons ?_; refine E_bin ?_; refine E_int ?_; refine E_bin ?_; refine E_nm ?_; refine LQ_there (by decide +kernel) ?_; refine LQ_there (by decide +kernel) ?_; refine LQ_here ?_; refine E_int ?_; refine O_mod ?_ (by omega); refine O_add ?_; refine Es_nil ?_; refine C_range1 ?_)
  refine ⟨σ, _, _, _, fun i => .str (sg (97 + ((c / 8 + (0 + (i : Int)) * (1 + c / 208 % 25)) % 26).toNat)), It_range hA.handled (by omega) (by omega) (by omega) (by omega), small_size (by omega), fun _ => trivial, fun D i hi => ?_, ?_⟩
  · with_reducible (refine E_sub ?_; refine E_nm ?_; refine LQ_there (by decide +kernel) ?_; refine LQ_here ?_; refine E_bin ?_; refine E_bin ?_; refine E_bin ?_; refine E_nm ?_; refine LQ_there (by decide +kernel) ?_; refine LQ_there (by decide +kernel) ?_; refine LQ_there (by decide +kernel) ?_; refine LQ_here ?_; refine E_int ?_; refine O_div ?_ (by omega) (by decide +kernel); refine E_bin ?_; refine E_nm ?_; refine LQ_here ?_; refine E_nm ?_; refine LQ_there (by decide +kernel) ?_; refine LQ_there (by decide +kernel) ?_; refine LQ_here ?_; refine O_mul ?_ (by first | exact .inl (by omega) | exact .inr (by omega)); refine O_add ?_; refine E_int ?_; refine O_mod ?_ (by omega))
    refine S_str (by omega) (by rw [show (Str.ofString "abcdefghijklmnopqrstuvwxyz").cps.size = 26 from letters_size]; omega) (by omega) ?_
    exact ⟨congrArg V.str (letters_sign (by omega)), rfl⟩
  have e0 : (List.range (1 + c % 8 - 0).toNat).map (fun (i : Nat) => V.str (sg (97 + ((c / 8 + (0 + (i : Int)) * (1 + c / 208 % 25)) % 26).toNat))) = ((nameL0 c).map sg).map V.str := by simp [nameL0, List.map_map, Function.comp_def]
  rw [e0]
  have hl := nameL0_length c
  have hl2 := nameL_length c
  have fin : ∀ ρ, retQ σ Q (.ret (.str (Txt.join (Str.ofString "") ((nameL c).map sg)))) ρ (σ ++ [.list (((nameL c).map sg).map V.str)]) := fun ρ => by
    rw [join_sg]
    exact R_none (by simp [V.lt]) q
  refine X_ifs ?_
  with_reducible (refine T_cmp1 ?_; refine E_bin ?_; refine E_bin ?_; refine E_nm ?_; refine LQ_there (by decide +kernel) ?_; refine LQ_there (by decide +kernel) ?_; refine LQ_there (by decide +kernel) ?_; refine LQ_here ?_; refine E_int ?_; refine O_div ?_ (by omega) (by decide +kernel); refine E_int ?_; refine O_mod ?_ (by omega); refine E_int ?_; refine O_eq ?_; refine T_b ?_)
  refine iteD (fun h1 => ?_) (fun h1 => ?_)
  · with_reducible (refine X_set ?_; refine E_sub ?_; refine E_nm ?_; refine LQ_there (by decide +kernel) ?_; refine LQ_there (by decide +kernel) ?_; refine LQ_here ?_; refine E_bin ?_; refine E_bin ?_; refine E_nm ?_; refine LQ_there (by decide +kernel) ?_; refine LQ_there (by decide +kernel) ?_; refine LQ_there (by decide +kernel) ?_; refine LQ_here ?_; refine E_int ?_; refine O_div ?_ (by omega) (by decide +kernel); refine E_int ?_; refine O_mod ?_ (by omega))
    refine S_str (by omega) (by rw [show (Str.ofString "abcdefghijklmnopqrstuvwxyz").cps.size = 26 from letters_size]; omega) (by omega) ?_
    rw [show signAt (Str.ofString "abcdefghijklmnopqrstuvwxyz") (c / 83200 % 26).toNat = _ from letters_sign (by omega)]
    with_reducible (refine E_nm ?_; refine LQ_here ?_; refine E_bin ?_; refine E_bin ?_; refine E_nm ?_; refine LQ_there (by decide +kernel) ?_; refine LQ_there (by decide +kernel) ?_; refine LQ_there (by decide +kernel) ?_; refine LQ_here ?_; refine E_int ?_; refine O_div ?_ (by omega) (by decide +kernel); refine E_bi (Blt.len_ (by assumption)) (by first | exact Keep.builtin _ | exact Keep.type _) ?_; refine Es_cons ?_; refine E_nm ?_; refine LQ_here ?_; refine Es_nil ?_)
    refine C_len_list at_end (by simp; omega) ?_
    skip
    have hlp : (0 : Int) < ((((nameL0 c).map sg).map V.str).length : Int) := by simp; omega
    refine O_mod ?_ hlp
    have hm := Int.emod_lt_of_pos (c / 10400) hlp
    have hm0 := Int.emod_nonneg (c / 10400) (Int.ne_of_gt hlp)
    refine P_list at_end hm0 hm (by simp at hm ⊢; omega) ?_
    rw [set_end]
    have e : (((nameL0 c).map sg).map V.str).set (c / 10400 % ((((nameL0 c).map sg).map V.str).length : Int)).toNat (V.str (sg (97 + (c / 83200 % 26).toNat))) = ((nameL c).map sg).map V.str := by
      unfold nameL; rw [if_pos h1]; simp [List.map_set]
    rw [e]
    with_reducible (refine X_nil ?_; refine sq_next ?_; refine X_ret ?_; refine E_mcall (name := Str.ofString "join") (id := "str.join") ?_; refine E_str ?_; refine ⟨GM_str F.slot_str_join F.type_str_join, ?_⟩; refine Es_cons ?_; refine E_nm ?_; refine LQ_here ?_; refine Es_nil ?_)
    refine C_join at_end (joinOk_sg _ (by omega)) ?_
    exact fin _
  · have e : ((nameL0 c).map sg).map V.str = ((nameL c).map sg).map V.str := by unfold nameL; rw [if_neg h1]
    rw [e]
    with_reducible (refine X_nil ?_; refine sq_next ?_; refine X_ret ?_; refine E_mcall (name := Str.ofString "join") (id := "str.join") ?_; refine E_str ?_; refine ⟨GM_str F.slot_str_join F.type_str_join, ?_⟩; refine Es_cons ?_; refine E_nm ?_; refine LQ_here ?_; refine Es_nil ?_)
    refine C_join at_end (joinOk_sg _ (by omega)) ?_
    exact fin _

theorem good_row_by : Good (dr pw_uf050040_10 27) ["_law_name", "_law_numbers"] :=
  ⟨fun pm code doc vals h => (by obtain ⟨a, b, rfl⟩ := len_2 h; rfl), by decide +kernel, by decide +kernel, by decide +kernel, rfl, rfl, rfl⟩
theorem cf_row_by (gl : Gl B mg mb) (bl : Blt B mg mb) (S : Scr B scr nums) (H : HasF B mg (dr pw_uf050040_10 27))
    (c_name_by : CF prog w B mg "_law_name_by" 2 (fun xs σ Q X => ∃ c, xs = [.int c] ∧ Q (.str (nameBy c)) σ)) :
    CF prog w B mg "_law_row_by" 4 (fun xs σ Q X => ∃ a b, xs = [.int a, .int b] ∧ ∀ row : Str, row.length ≤ 139 → Q (.str row) σ) := by
  refine CF_of gl H good_row_by ?_
  rintro A pm code doc L a₀ _ σ Q X hA ⟨a, b, rfl, q⟩
  refine ⟨rfl, ?_⟩
  change WX _ _ _ _ _ (_ :: _) ((_, _) :: (_, _) :: []) _ _ _

  with_reducible (refine X_let ?_; refine E_list ?_; refine Es_nil ?_; refine And.intro (by first | omega | with_unfolding_all exact Nat.le_of_ble_eq_true rfl) ?_)
  refine X_fors ?_
  with_reducible (refine E_bi (Blt.range_ (by assumption)) (by first | exact Keep.builtin _ | exact Keep.type _) ?_; refine Es_cons ?_; refine E_int ?_; refine Es_nil ?_; refine C_range1 ?_)
  refine ForG.mk (ι := List Str) (fun i g => g.length = i ∧ ∀ f ∈ g, f.length ≤ 63) (fun _ _ => [("_law_figures", .ref σ.length), ("_law_name", .int a), ("_law_numbers", .int b)]) (fun _ g => σ ++ [.list (g.map V.str)]) (It_range hA.handled (by omega) (by omega) (by omega) (by omega)) [] ⟨rfl, fun _ h => (nomatch h)⟩ rfl trivial (by with_reducible (refine Sub.cons ?_; refine LQ_here ?_; refine ⟨rfl, ?_⟩; refine Sub.cons ?_; refine LQ_there (by decide +kernel) ?_; refine LQ_here ?_; refine ⟨rfl, ?_⟩; refine Sub.cons ?_; refine LQ_there (by decide +kernel) ?_; refine LQ_there (by decide +kernel) ?_; refine LQ_here ?_; refine ⟨rfl, ?_⟩; exact Sub.nil)) ?_ ?_
  · rintro i g hi ⟨hg, hf⟩ -
    have hi : i < 2 := by simpa using hi
    with_reducible (refine X_let ?_; refine E_nm ?_; refine LQ_there (by decide +kernel) ?_; refine LQ_there (by decide +kernel) ?_; refine LQ_there (by decide +kernel) ?_; refine LQ_here ?_)
    refine X_ifj (ι := Int) (fun _ => True) (fun c => [("_law_cell", .int c), ("_law_k", .int (0 + (i : Int))), ("_law_figures", .ref σ.length), ("_law_name", .int a), ("_law_numbers", .int b)]) (fun _ => σ ++ [.list (g.map V.str)]) ?_ ?_
    · with_reducible (refine T_cmp1 ?_; refine E_nm ?_; refine LQ_there (by decide +kernel) ?_; refine LQ_here ?_; refine E_int ?_; refine O_eq ?_; refine T_b ?_)
      refine iteD (fun h => ?_) (fun h => ?_)
      · with_reducible (refine X_let ?_; refine E_bin ?_; refine E_nm ?_; refine LQ_there (by decide +kernel) ?_; refine LQ_there (by decide +kernel) ?_; refine LQ_there (by decide +kernel) ?_; refine LQ_there (by decide +kernel) ?_; refine LQ_here ?_; refine E_int ?_; refine O_div ?_ (by omega) (by decide +kernel); refine X_nil ?_)
        exact J_next (b / 6000) trivial rfl (by with_reducible (refine Sub.cons ?_; refine LQ_here ?_; refine ⟨rfl, ?_⟩; refine Sub.cons ?_; refine LQ_there (by decide +kernel) ?_; refine LQ_there (by decide +kernel) ?_; refine LQ_here ?_; refine ⟨rfl, ?_⟩; refine Sub.cons ?_; refine LQ_there (by decide +kernel) ?_; refine LQ_there (by decide +kernel) ?_; refine LQ_there (by decide +kernel) ?_; refine LQ_here ?_; refine ⟨rfl, ?_⟩; refine Sub.cons ?_; refine LQ_there (by decide +kernel) ?_; refine LQ_there (by decide +kernel) ?_; refine LQ_there (by decide +kernel) ?_; refine LQ_there (by decide +kernel) ?_; refine LQ_here ?_; refine ⟨rfl, ?_⟩; refine Sub.cons ?_; refine LQ_there (by decide +kernel) ?_; refine LQ_there (by decide +kernel) ?_; refine LQ_there (by decide +kernel) ?_; refine LQ_there (by decide +kernel) ?_; refine LQ_there (by decide +kernel) ?_; refine LQ_here ?_; refine ⟨rfl, ?_⟩; exact Sub.nil))
      · with_reducible (refine X_nil ?_)
        exact J_next b trivial rfl (by with_reducible (refine Sub.cons ?_; refine LQ_here ?_; refine ⟨rfl, ?_⟩; refine Sub.cons ?_; refine LQ_there (by decide +kernel) ?_; refine LQ_here ?_; refine ⟨rfl, ?_⟩; refine Sub.cons ?_; refine LQ_there (by decide +kernel) ?_; refine LQ_there (by decide +kernel) ?_; refine LQ_here ?_; refine ⟨rfl, ?_⟩; refine Sub.cons ?_; refine LQ_there (by decide +kernel) ?_; refine LQ_there (by decide +kernel) ?_; refine LQ_there (by decide +kernel) ?_; refine LQ_here ?_; refine ⟨rfl, ?_⟩; refine Sub.cons ?_; refine LQ_there (by decide +kernel) ?_; refine LQ_there (by decide +kernel) ?_; refine LQ_there (by decide +kernel) ?_; refine LQ_there (by decide +kernel) ?_; refine LQ_here ?_; refine ⟨rfl, ?_⟩; exact Sub.nil))
    rintro c -
    try dsimp only
    with_reducible (refine X_let ?_; refine E_bin ?_; refine E_bin ?_; refine E_nm ?_; refine LQ_here ?_; refine E_int ?_; refine O_div ?_ (by omega) (by decide +kernel); refine E_int ?_; refine O_mod ?_ (by omega))
    refine X_ifj (ι := Int) (fun n => 0 ≤ n ∧ n ≤ 10 ^ 60) (fun n => [("_law_number", .int n), ("_law_cell", .int c), ("_law_k", .int (0 + (i : Int))), ("_law_figures", .ref σ.length), ("_law_name", .int a), ("_law_numbers", .int b)]) (fun _ => σ ++ [.list (g.map V.str)]) ?_ ?_
    · with_reducible (refine T_cmp1 ?_; refine E_bin ?_; refine E_nm ?_; refine LQ_there (by decide +kernel) ?_; refine LQ_here ?_; refine E_int ?_; refine O_mod ?_ (by omega); refine E_int ?_; refine O_eq ?_; refine T_b ?_)
      refine iteD (fun h => ?_) (fun h => ?_)
      · with_reducible (refine X_let ?_; refine E_int ?_; refine X_nil ?_)
        exact J_next 0 (by decide) rfl (by with_reducible (refine Sub.cons ?_; refine LQ_here ?_; refine ⟨rfl, ?_⟩; refine Sub.cons ?_; refine LQ_there (by decide +kernel) ?_; refine LQ_there (by decide +kernel) ?_; refine LQ_here ?_; refine ⟨rfl, ?_⟩; refine Sub.cons ?_; refine LQ_there (by decide +kernel) ?_; refine LQ_there (by decide +kernel) ?_; refine LQ_there (by decide +kernel) ?_; refine LQ_here ?_; refine ⟨rfl, ?_⟩; refine Sub.cons ?_; refine LQ_there (by decide +kernel) ?_; refine LQ_there (by decide +kernel) ?_; refine LQ_there (by decide +kernel) ?_; refine LQ_there (by decide +kernel) ?_; refine LQ_here ?_; refine ⟨rfl, ?_⟩; refine Sub.cons ?_; refine LQ_there (by decide +kernel) ?_; refine LQ_there (by decide +kernel) ?_; refine LQ_there (by decide +kernel) ?_; refine LQ_there (by decide +kernel) ?_; refine LQ_there (by decide +kernel) ?_; refine LQ_here ?_; refine ⟨rfl, ?_⟩; refine Sub.cons ?_; refine LQ_there (by decide +kernel) ?_; refine LQ_there (by decide +kernel) ?_; refine LQ_there (by decide +kernel) ?_; refine LQ_there (by decide +kernel) ?_; refine LQ_there (by decide +kernel) ?_; refine LQ_there (by decide +kernel) ?_; refine LQ_here ?_; refine ⟨rfl, ?_⟩; exact Sub.nil))
      · with_reducible (refine X_nil ?_)
        exact J_next (c / 6 % 1000) (by first | omega | (dsimp only; omega)) rfl (by with_reducible (refine Sub.cons ?_; refine LQ_here ?_; refine ⟨rfl, ?_⟩; refine Sub.cons ?_; refine LQ_there (by decide +kernel) ?_; refine LQ_here ?_; refine ⟨rfl, ?_⟩; refine Sub.cons ?_; refine LQ_there (by decide +kernel) ?_; refine LQ_there (by decide +kernel) ?_; refine LQ_here ?_; refine ⟨rfl, ?_⟩; refine Sub.cons ?_; refine LQ_there (by decide +kernel) ?_; refine LQ_there (by decide +kernel) ?_; refine LQ_there (by decide +kernel) ?_; refine LQ_here ?_; refine ⟨rfl, ?_⟩; refine Sub.cons ?_; refine LQ_there (by decide +kernel) ?_; refine LQ_there (by decide +kernel) ?_; refine LQ_there (by decide +kernel) ?_; refine LQ_there (by decide +kernel) ?_; refine LQ_here ?_; refine ⟨rfl, ?_⟩; refine Sub.cons ?_; refine LQ_there (by decide +kernel) ?_; refine LQ_there (by decide +kernel) ?_; refine LQ_there (by decide +kernel) ?_; refine LQ_there (by decide +kernel) ?_; refine LQ_there (by decide +kernel) ?_; refine LQ_here ?_; refine ⟨rfl, ?_⟩; exact Sub.nil))
    rintro n₀ hn₀
    try dsimp only
    refine X_ifj (ι := Int) (fun n => 0 ≤ n ∧ n ≤ 10 ^ 60) (fun n => [("_law_number", .int n), ("_law_cell", .int c), ("_law_k", .int (0 + (i : Int))), ("_law_figures", .ref σ.length), ("_law_name", .int a), ("_law_numbers", .int b)]) (fun _ => σ ++ [.list (g.map V.str)]) ?_ ?_
    · with_reducible (refine T_cmp1 ?_; refine E_bin ?_; refine E_nm ?_; refine LQ_there (by decide +kernel) ?_; refine LQ_here ?_; refine E_int ?_; refine O_mod ?_ (by omega); refine E_int ?_; refine O_eq ?_; refine T_b ?_)
      refine iteD (fun h => ?_) (fun h => ?_)
      · with_reducible (refine X_let ?_; refine E_bin ?_; refine E_bin ?_; refine E_bin ?_; refine E_int ?_; refine E_int ?_; refine O_pow60 ?_; refine E_int ?_; refine O_sub ?_; refine E_bin ?_; refine E_bin ?_; refine E_nm ?_; refine LQ_there (by decide +kernel) ?_; refine LQ_here ?_; refine E_int ?_; refine O_div ?_ (by omega) (by decide +kernel); refine E_int ?_; refine O_mod ?_ (by omega); refine O_add ?_; refine X_nil ?_)
        exact J_next (10 ^ 60 - 1 + c / 6 % 2) (by first | omega | (dsimp only; omega)) rfl (by with_reducible (refine Sub.cons ?_; refine LQ_here ?_; refine ⟨rfl, ?_⟩; refine Sub.cons ?_; refine LQ_there (by decide +kernel) ?_; refine LQ_there (by decide +kernel) ?_; refine LQ_here ?_; refine ⟨rfl, ?_⟩; refine Sub.cons ?_; refine LQ_there (by decide +kernel) ?_; refine LQ_there (by decide +kernel) ?_; refine LQ_there (by decide +kernel) ?_; refine LQ_here ?_; refine ⟨rfl, ?_⟩; refine Sub.cons ?_; refine LQ_there (by decide +kernel) ?_; refine LQ_there (by decide +kernel) ?_; refine LQ_there (by decide +kernel) ?_; refine LQ_there (by decide +kernel) ?_; refine LQ_here ?_; refine ⟨rfl, ?_⟩; refine Sub.cons ?_; refine LQ_there (by decide +kernel) ?_; refine LQ_there (by decide +kernel) ?_; refine LQ_there (by decide +kernel) ?_; refine LQ_there (by decide +kernel) ?_; refine LQ_there (by decide +kernel) ?_; refine LQ_here ?_; refine ⟨rfl, ?_⟩; refine Sub.cons ?_; refine LQ_there (by decide +kernel) ?_; refine LQ_there (by decide +kernel) ?_; refine LQ_there (by decide +kernel) ?_; refine LQ_there (by decide +kernel) ?_; refine LQ_there (by decide +kernel) ?_; refine LQ_there (by decide +kernel) ?_; refine LQ_here ?_; refine ⟨rfl, ?_⟩; exact Sub.nil))
      · with_reducible (refine X_nil ?_)
        exact J_next n₀ hn₀ rfl (by with_reducible (refine Sub.cons ?_; refine LQ_here ?_; refine ⟨rfl, ?_⟩; refine Sub.cons ?_; refine LQ_there (by decide +kernel) ?_; refine LQ_here ?_; refine ⟨rfl, ?_⟩; refine Sub.cons ?_; refine LQ_there (by decide +kernel) ?_; refine LQ_there (by decide +kernel) ?_; refine LQ_here ?_; refine ⟨rfl, ?_⟩; refine Sub.cons ?_; refine LQ_there (by decide +kernel) ?_; refine LQ_there (by decide +kernel) ?_; refine LQ_there (by decide +kernel) ?_; refine LQ_here ?_; refine ⟨rfl, ?_⟩; refine Sub.cons ?_; refine LQ_there (by decide +kernel) ?_; refine LQ_there (by decide +kernel) ?_; refine LQ_there (by decide +kernel) ?_; refine LQ_there (by decide +kernel) ?_; refine LQ_here ?_; refine ⟨rfl, ?_⟩; refine Sub.cons ?_; refine LQ_there (by decide +kernel) ?_; refine LQ_there (by decide +kernel) ?_; refine LQ_there (by decide +kernel) ?_; refine LQ_there (by decide +kernel) ?_; refine LQ_there (by decide +kernel) ?_; refine LQ_here ?_; refine ⟨rfl, ?_⟩; exact Sub.nil))
    rintro n hn
    try dsimp only
    with_reducible (refine X_do ?_; refine E_mcall (name := Str.ofString "append") (id := "list.append") ?_; refine E_nm ?_; refine LQ_there (by decide +kernel) ?_; refine LQ_there (by decide +kernel) ?_; refine LQ_there (by decide +kernel) ?_; refine LQ_here ?_)
    refine ⟨GM_list at_end F.slot_list_append F.type_list_append, ?_⟩
    with_reducible (refine Es_cons ?_; refine E_bin ?_; refine E_bin ?_; refine E_str ?_; refine E_bi (Blt.int_ (by assumption)) (by first | exact Keep.builtin _ | exact Keep.type _) ?_; refine Es_cons ?_)
    refine E_as (.bool (decide (c % 6 = 2 ∧ c / 6 % 3 = 0))) ?_ ?_
    · refine E_boolop ?_
      with_reducible (refine Bo_and ?_; refine E_cmp1 ?_; refine E_bin ?_; refine E_nm ?_; refine LQ_there (by decide +kernel) ?_; refine LQ_here ?_; refine E_int ?_; refine O_mod ?_ (by omega); refine E_int ?_; refine O_eq ?_; refine T_b ?_)
      refine iteD (fun h => ?_) (fun h => ?_)
      · with_reducible (refine Bo_one ?_; refine E_cmp1 ?_; refine E_bin ?_; refine E_bin ?_; refine E_nm ?_; refine LQ_there (by decide +kernel) ?_; refine LQ_here ?_; refine E_int ?_; refine O_div ?_ (by omega) (by decide +kernel); refine E_int ?_; refine O_mod ?_ (by omega); refine E_int ?_; refine O_eq ?_)
        exact ⟨by simp [h], rfl⟩
      · exact ⟨by simp [h], rfl⟩
    generalize decide (c % 6 = 2 ∧ c / 6 % 3 = 0) = bb
    with_reducible (refine Es_nil ?_)
    refine C_int_bool ?_
    refine O_muls (mulOk_zero bb) ?_
    have hz := mul_zero_len bb
    generalize Txt.mul _ _ = z at hz ⊢
    with_reducible (refine E_bi (Blt.str_ (by assumption)) (by first | exact Keep.builtin _ | exact Keep.type _) ?_; refine Es_cons ?_; refine E_nm ?_; refine LQ_here ?_; refine Es_nil ?_)
    refine C_str_int (log2_60 hn.1 hn.2) ?_
    have ht := text_60 hn.1 hn.2
    generalize (↑(toString n) : Str) = tx at ht ⊢
    refine O_adds ?_ (small_size (by omega))
    with_reducible (refine Es_nil ?_)
    refine C_append at_end (small_size (by simp; omega)) ?_
    rw [set_end]
    with_reducible (refine X_nil ?_)
    refine TJ_next (g ++ [z ++ tx]) ⟨by simp [hg], fun f h => ?_⟩ (by simp) trivial (by with_reducible (refine Sub.cons ?_; refine LQ_there (by decide +kernel) ?_; refine LQ_there (by decide +kernel) ?_; refine LQ_there (by decide +kernel) ?_; refine LQ_here ?_; refine ⟨rfl, ?_⟩; refine Sub.cons ?_; refine LQ_there (by decide +kernel) ?_; refine LQ_there (by decide +kernel) ?_; refine LQ_there (by decide +kernel) ?_; refine LQ_there (by decide +kernel) ?_; refine LQ_here ?_; refine ⟨rfl, ?_⟩; refine Sub.cons ?_; refine LQ_there (by decide +kernel) ?_; refine LQ_there (by decide +kernel) ?_; refine LQ_there (by decide +kernel) ?_; refine LQ_there (by decide +kernel) ?_; refine LQ_there (by decide +kernel) ?_; refine LQ_here ?_; refine ⟨rfl, ?_⟩; exact Sub.nil))
    rcases List.mem_append.mp h with h | h
    · exact hf f h
    · rw [List.mem_singleton.mp h, slen_append]; omega
  · rintro g ⟨hg, hf⟩ -
    obtain ⟨f0, f1, rfl⟩ : ∃ x y, g = [x, y] := by
      rcases g with _ | ⟨x, _ | ⟨y, _ | ⟨z, r⟩⟩⟩
      all_goals first | exact ⟨_, _, rfl⟩ | (simp at hg)
    have l0 := hf f0 (by simp)
    have l1 := hf f1 (by simp)
    with_reducible (refine X_let ?_; refine E_cf (by assumption) (AOk.le (by assumption) (by decide)) ?_; refine Es_cons ?_; refine E_nm ?_; refine LQ_there (by decide +kernel) ?_; refine LQ_here ?_; refine Es_nil ?_; refine ⟨_, rfl, ?_⟩)
    have hnm := (isNameS_len (nameBy_ok a)).2
    generalize nameBy a = nm at hnm
    refine X_ifj (ι := Str) (fun x => x.length ≤ 9) (fun x => [("_law_word", .str x), ("_law_figures", .ref σ.length), ("_law_name", .int a), ("_law_numbers", .int b)]) (fun _ => σ ++ [.list ([f0, f1].map V.str)]) ?_ ?_
    · with_reducible (refine T_cmp1 ?_; refine E_bin ?_; refine E_bin ?_; refine E_nm ?_; refine LQ_there (by decide +kernel) ?_; refine LQ_there (by decide +kernel) ?_; refine LQ_here ?_; refine E_int ?_; refine O_div ?_ (by omega) (by decide +kernel); refine E_int ?_; refine O_mod ?_ (by omega); refine E_int ?_; refine O_eq ?_; refine T_b ?_)
      have hq : (Str.ofString "q").length = 1 := by decide +kernel
      refine iteD (fun h => ?_) (fun h => ?_)
      · with_reducible (refine X_let ?_; refine E_bin ?_; refine E_nm ?_; refine LQ_here ?_; refine E_str ?_)
        refine O_adds ?_ (small_size (by omega))
        with_reducible (refine X_nil ?_)
        exact J_next (nm ++ Str.ofString "q") (by rw [slen_append]; omega) rfl (by with_reducible (refine Sub.cons ?_; refine LQ_here ?_; refine ⟨rfl, ?_⟩; refine Sub.cons ?_; refine LQ_there (by decide +kernel) ?_; refine LQ_there (by decide +kernel) ?_; refine LQ_here ?_; refine ⟨rfl, ?_⟩; refine Sub.cons ?_; refine LQ_there (by decide +kernel) ?_; refine LQ_there (by decide +kernel) ?_; refine LQ_there (by decide +kernel) ?_; refine LQ_here ?_; refine ⟨rfl, ?_⟩; refine Sub.cons ?_; refine LQ_there (by decide +kernel) ?_; refine LQ_there (by decide +kernel) ?_; refine LQ_there (by decide +kernel) ?_; refine LQ_there (by decide +kernel) ?_; refine LQ_here ?_; refine ⟨rfl, ?_⟩; exact Sub.nil))
      · with_reducible (refine X_nil ?_)
        exact J_next nm (by first | omega | (dsimp only; omega)) rfl (by with_reducible (refine Sub.cons ?_; refine LQ_here ?_; refine ⟨rfl, ?_⟩; refine Sub.cons ?_; refine LQ_there (by decide +kernel) ?_; refine LQ_here ?_; refine ⟨rfl, ?_⟩; refine Sub.cons ?_; refine LQ_there (by decide +kernel) ?_; refine LQ_there (by decide +kernel) ?_; refine LQ_here ?_; refine ⟨rfl, ?_⟩; refine Sub.cons ?_; refine LQ_there (by decide +kernel) ?_; refine LQ_there (by decide +kernel) ?_; refine LQ_there (by decide +kernel) ?_; refine LQ_here ?_; refine ⟨rfl, ?_⟩; exact Sub.nil))
    rintro x hx
    try dsimp only at hx ⊢
    have e1 : (Str.ofString " +").length = 2 := by decide +kernel
    have e2 : (Str.ofString " -").length = 2 := by decide +kernel
    with_reducible (refine X_ret ?_; refine E_bin ?_; refine E_bin ?_; refine E_bin ?_; refine E_bin ?_; refine E_nm ?_; refine LQ_here ?_; refine E_str ?_)
    refine O_adds ?_ (small_size (by omega))
    with_reducible (refine E_sub ?_; refine E_nm ?_; refine LQ_there (by decide +kernel) ?_; refine LQ_here ?_; refine E_int ?_)
    refine S_l0 at_end ?_
    refine O_adds ?_ (small_size (by rw [slen_append]; omega))
    with_reducible (refine E_str ?_)
    refine O_adds ?_ (small_size (by rw [slen_append, slen_append]; omega))
    with_reducible (refine E_sub ?_; refine E_nm ?_; refine LQ_there (by decide +kernel) ?_; refine LQ_here ?_; refine E_int ?_)
    refine S_l1 at_end ?_
    refine O_adds ?_ (small_size (by rw [slen_append, slen_append, slen_append]; omega))
    exact R_none trivial (q _ (by rw [slen_append, slen_append, slen_append, slen_append]; omega))

theorem good_same : Good (dr pw_uf050040_10 24) ["_law_found", "_law_due_here"] :=
  ⟨fun pm code doc vals h => (by obtain ⟨a, b, rfl⟩ := len_2 h; rfl), by decide +kernel, by decide +kernel, by decide +kernel, rfl, rfl, rfl⟩
theorem cf_same (gl : Gl B mg mb) (bl : Blt B mg mb) (S : Scr B scr nums) (H : HasF B mg (dr pw_uf050040_10 24))
    (c_share : CF prog w B mg "_law_share" 2 (fun xs σ Q X => ∃ a b c d, xs = [.tup [.int a, .int b], .tup [.int c, .int d]] ∧ Q (.bool (decide (a = c ∧ b = d))) σ)) :
    CF prog w B mg "_law_same" 3 (fun xs σ Q X => ∃ j k F D e e', σ[j]? = some (.dict (pgE F) e) ∧ σ[k]? = some (.dict (pgE D) e') ∧ (names F = srt (names D) ∧ (∀ r ∈ F, r ∈ D) ∧ D.length ≤ 60 ∧ ∀ r ∈ D, isNameS r.1 = true) ∧ xs = [.ref j, .ref k] ∧ Q (.bool true) σ) := by
  refine CF_of gl H good_same ?_
  rintro A pm code doc L a₀ _ σ Q X hA ⟨j, k, F, D, e, e', hj, hk, ⟨hns, hsub, hlen, hok⟩, rfl, q⟩
  refine ⟨rfl, ?_⟩
  change WX _ _ _ _ _ (_ :: _) ((_, _) :: (_, _) :: []) _ _ _

  refine X_keys hk fun hnd => ?_
  replace hnd := names_nodup hnd
  refine X_keys hj fun hnf => ?_
  replace hnf := names_nodup hnf
  have hfl : F.length = D.length := by
    have := congrArg List.length hns
    rw [(srt_perm _).length_eq] at this
    simpa [names] using this
  refine X_ifs ?_
  with_reducible (refine T_bool ?_; refine Ts_or ?_; refine T_not ?_; refine T_value ?_; refine E_bi (Blt.isinstance_ (by assumption)) (by first | exact Keep.builtin _ | exact Keep.type _) ?_; refine Es_cons ?_; refine E_nm ?_; refine LQ_here ?_; refine Es_cons ?_; refine E_nm ?_; refine LQ_there (by decide +kernel) ?_; refine LQ_there (by decide +kernel) ?_; refine LQ_nil ?_; refine N_bi (Blt.dict_ (by assumption)) ?_; refine Es_nil ?_)
  refine isi_dict hj isi_dict_dict ?_
  with_reducible (refine T_b ?_; refine iteNo (by decide) ?_; refine Ts_or ?_; refine T_cmp1 ?_; refine E_bi (Blt.list_ (by assumption)) (by first | exact Keep.builtin _ | exact Keep.type _) ?_; refine Es_cons ?_; refine E_nm ?_; refine LQ_here ?_; refine Es_nil ?_)
  refine C_list_dict hA.handled hj (small_size (by rw [pgE_length]; omega)) ?_
  with_reducible (refine E_bi (Blt.sorted_ (by assumption)) (by first | exact Keep.builtin _ | exact Keep.type _) ?_; refine Es_cons ?_; refine E_nm ?_; refine LQ_there (by decide +kernel) ?_; refine LQ_here ?_; refine Es_nil ?_)
  refine C_sorted_dict hA.handled (up_at hk) (fun q hq => ?_) (small_sort (by rw [pgE_length]; omega)) ?_
  · obtain ⟨x, _, rfl⟩ := List.mem_map.mp hq
    exact ⟨x.1, rfl⟩
  have ek : (pgE D).map (fun p => keyS p.1) = names D := by simp [pgE, toRow, keyS, names]
  have ef : (pgE F).map (fun p => p.1.v) = (srt (names D)).map V.str := by rw [← hns]; simp [pgE, toRow, names, Key.v]
  rw [ek, ef]
  skip
  refine O_ne_strs at_prev at_end' (fun x hx => ?_) (small_size (by rw [(srt_perm _).length_eq]; simp [names]; omega)) (by have := hA.units; show _ < 9900; omega) ?_
  · obtain ⟨r, hr, rfl⟩ := List.mem_map.mp (srt_mem.mp hx)
    exact isNameS_cps (hok r hr)
  with_reducible (refine T_b ?_; refine iteF ?_; refine Ts_or_nil ?_; refine iteF ?_; refine X_nil ?_; refine sq_next ?_)
  generalize ht1 : AObj.list ((srt (names D)).map V.str) = o1
  refine X_ford (ι := Unit) (fun i _ => True) (fun _ _ => [("_law_found", .ref j), ("_law_due_here", .ref k)]) (fun _ _ => σ ++ [o1] ++ [o1]) () hA.handled (up_at (up_at hj)) (fun ep => ?_) trivial rfl (by with_reducible (refine Sub.cons ?_; refine LQ_here ?_; refine ⟨rfl, ?_⟩; refine Sub.cons ?_; refine LQ_there (by decide +kernel) ?_; refine LQ_here ?_; refine ⟨rfl, ?_⟩; exact Sub.nil)) (fun _ _ _ => up_at (up_at hj)) ?_ ?_
  · with_reducible (refine E_nm ?_; refine LQ_here ?_; refine ⟨rfl, ?_⟩)
    first | exact ⟨rfl, rfl⟩ | rfl
  · rintro ep i ⟨⟩ hi -
    rw [pgE_length] at hi
    rw [keyAt_pg hi]
    have hat := at_pg_get hnf hi
    have hin := hsub _ (List.getElem_mem hi)
    generalize F[i] = x at *
    obtain ⟨n, v⟩ := x
    dsimp only at *
    have hat2 : at? (pgE D) (.s n) = some (shV v) := by rw [at_pg, look?_get hnd hin]; rfl
    obtain ⟨e₁, hk'⟩ := pin_get (ep := ep) (up_at (more := [o1]) (up_at (more := [o1]) hk)) (up_at (up_at hj))
    have hup : (pin (σ ++ [o1] ++ [o1]) j (pgE F) ep)[j]? = some (.dict (pgE F) (some ep)) := pin_at (up_at (up_at hj))
    refine X_ifs ?_
    with_reducible (refine T_bool ?_; refine Ts_or ?_; refine T_not ?_; refine T_value ?_; refine E_bi (Blt.isinstance_ (by assumption)) (by first | exact Keep.builtin _ | exact Keep.type _) ?_; refine Es_cons ?_; refine E_nm ?_; refine LQ_here ?_; refine Es_cons ?_; refine E_nm ?_; refine LQ_there (by decide +kernel) ?_; refine LQ_there (by decide +kernel) ?_; refine LQ_there (by decide +kernel) ?_; refine LQ_nil ?_; refine N_bi (Blt.str_ (by assumption)) ?_; refine Es_nil ?_; refine isi_str (isi_str_str) ?_; refine T_b ?_; refine iteNo (by decide) ?_; refine Ts_or ?_; refine T_not ?_; refine T_value ?_; refine E_cf (by assumption) (AOk.le (by assumption) (by decide)) ?_; refine Es_cons ?_; refine E_sub ?_; refine E_nm ?_; refine LQ_there (by decide +kernel) ?_; refine LQ_here ?_; refine E_nm ?_; refine LQ_here ?_)
    refine S_dict (key := .s _) hup hat ?_
    with_reducible (refine Es_cons ?_; refine E_sub ?_; refine E_nm ?_; refine LQ_there (by decide +kernel) ?_; refine LQ_there (by decide +kernel) ?_; refine LQ_here ?_; refine E_nm ?_; refine LQ_here ?_)
    refine S_dict (key := .s _) hk' hat2 ?_
    with_reducible (refine Es_nil ?_; refine ⟨_, _, _, _, rfl, ?_⟩; refine T_b ?_)
    refine iteDn (fun h => absurd ⟨rfl, rfl⟩ h) (fun h => ?_)
    with_reducible (refine Ts_or_nil ?_; refine iteF ?_; refine X_nil ?_; refine sq_next ?_; refine X_nil ?_)
    exact TD_next () trivial rfl (by with_reducible (refine Sub.cons ?_; refine LQ_there (by decide +kernel) ?_; refine LQ_here ?_; refine ⟨rfl, ?_⟩; refine Sub.cons ?_; refine LQ_there (by decide +kernel) ?_; refine LQ_there (by decide +kernel) ?_; refine LQ_here ?_; refine ⟨rfl, ?_⟩; exact Sub.nil))
  · rintro ⟨⟩ -
    with_reducible (refine X_ret ?_; refine E_bool ?_)
    rw [List.append_assoc]
    exact R_none trivial q

/-- which word an own exception is told by -/
inductive KindOf : Addr → Str → Prop
  | note : KindOf 85 "note"

theorem good_kind : Good (dr pw_uf050040_10 25) ["_law_error"] :=
  ⟨fun pm code doc vals h => (by obtain ⟨a, rfl⟩ := len_1 h; rfl), by decide +kernel, by decide +kernel, by decide +kernel, rfl, rfl, rfl⟩
theorem cf_kind (gl : Gl B mg mb) (bl : Blt B mg mb) (S : Scr B scr nums) (H : HasF B mg (dr pw_uf050040_10 25)) (e_GossipError : Err B K 24 vErr) (g_GossipError : GC B mg "GossipError" (.raw (.ref 24))) (e_NoName : Err B K 37 (.ref 24 :: vErr)) (g_NoName : GC B mg "NoName" (.raw (.ref 37))) (e_NoAmount : Err B K 49 (.ref 24 :: vErr)) (g_NoAmount : GC B mg "NoAmount" (.raw (.ref 49))) (e_NoPage : Err B K 61 (.ref 24 :: vErr)) (g_NoPage : GC B mg "NoPage" (.raw (.ref 61))) (e_Forged : Err B K 73 (.ref 24 :: vErr)) (g_Forged : GC B mg "Forged" (.raw (.ref 73))) (e_NoNote : Err B K 85 (.ref 24 :: vErr)) (g_NoNote : GC B mg "NoNote" (.raw (.ref 85))) (v_bi : Bi B mg mb "ValueError" (.type "ValueError")) :
    CF0 prog w B mg "_law_kind" 1 (fun xs σ Q X => ∃ k C t w, xs = [.ref k] ∧ σ[k]? = some (.exc C t) ∧ KindOf C w ∧ Q (.str w) σ) := by
  refine CF0_of gl H good_kind ?_
  rintro A pm code doc L a₀ _ σ Q X hA ⟨k, C, t, w₀, rfl, hk, hw, q⟩
  refine ⟨rfl, ?_⟩
  change WX _ _ _ _ _ (_ :: _) ((_, _) :: []) _ _ _

  with_reducible (refine X_let ?_; refine E_list ?_; refine Es_nil ?_; refine And.intro (by first | omega | with_unfolding_all exact Nat.le_of_ble_eq_true rfl) ?_)
  cases hw with
  | note =>
    refine X_ifs ?_
    with_reducible (refine T_value ?_; refine E_bi (Blt.isinstance_ (by assumption)) (by first | exact Keep.builtin _ | exact Keep.type _) ?_; refine Es_cons ?_; refine E_nm ?_; refine LQ_there (by decide +kernel) ?_; refine LQ_here ?_; refine Es_cons ?_; refine E_nm ?_; refine LQ_there (by decide +kernel) ?_; refine LQ_there (by decide +kernel) ?_; refine LQ_nil ?_; refine N_gc (by assumption) ?_; refine Es_nil ?_)
    refine isi_exc (b := false) e_NoNote e_NoName (up_at hk) (by decide) ?_
    with_reducible (refine T_b ?_; refine iteF ?_; refine X_nil ?_; refine sq_next ?_)
    refine X_ifs ?_
    with_reducible (refine T_value ?_; refine E_bi (Blt.isinstance_ (by assumption)) (by first | exact Keep.builtin _ | exact Keep.type _) ?_; refine Es_cons ?_; refine E_nm ?_; refine LQ_there (by decide +kernel) ?_; refine LQ_here ?_; refine Es_cons ?_; refine E_nm ?_; refine LQ_there (by decide +kernel) ?_; refine LQ_there (by decide +kernel) ?_; refine LQ_nil ?_; refine N_gc (by assumption) ?_; refine Es_nil ?_)
    refine isi_exc (b := false) e_NoNote e_NoAmount (up_at hk) (by decide) ?_
    with_reducible (refine T_b ?_; refine iteF ?_; refine X_nil ?_; refine sq_next ?_)
    refine X_ifs ?_
    with_reducible (refine T_value ?_; refine E_bi (Blt.isinstance_ (by assumption)) (by first | exact Keep.builtin _ | exact Keep.type _) ?_; refine Es_cons ?_; refine E_nm ?_; refine LQ_there (by decide +kernel) ?_; refine LQ_here ?_; refine Es_cons ?_; refine E_nm ?_; refine LQ_there (by decide +kernel) ?_; refine LQ_there (by decide +kernel) ?_; refine LQ_nil ?_; refine N_gc (by assumption) ?_; refine Es_nil ?_)
    refine isi_exc (b := false) e_NoNote e_NoPage (up_at hk) (by decide) ?_
    with_reducible (refine T_b ?_; refine iteF ?_; refine X_nil ?_; refine sq_next ?_)
    refine X_ifs ?_
    with_reducible (refine T_value ?_; refine E_bi (Blt.isinstance_ (by assumption)) (by first | exact Keep.builtin _ | exact Keep.type _) ?_; refine Es_cons ?_; refine E_nm ?_; refine LQ_there (by decide +kernel) ?_; refine LQ_here ?_; refine Es_cons ?_; refine E_nm ?_; refine LQ_there (by decide +kernel) ?_; refine LQ_there (by decide +kernel) ?_; refine LQ_nil ?_; refine N_gc (by assumption) ?_; refine Es_nil ?_)
    refine isi_exc (b := false) e_NoNote e_Forged (up_at hk) (by decide) ?_
    with_reducible (refine T_b ?_; refine iteF ?_; refine X_nil ?_; refine sq_next ?_)
    refine X_ifs ?_
    with_reducible (refine T_value ?_; refine E_bi (Blt.isinstance_ (by assumption)) (by first | exact Keep.builtin _ | exact Keep.type _) ?_; refine Es_cons ?_; refine E_nm ?_; refine LQ_there (by decide +kernel) ?_; refine LQ_here ?_; refine Es_cons ?_; refine E_nm ?_; refine LQ_there (by decide +kernel) ?_; refine LQ_there (by decide +kernel) ?_; refine LQ_nil ?_; refine N_gc (by assumption) ?_; refine Es_nil ?_)
    refine isi_exc (b := true) e_NoNote e_NoNote (up_at hk) (by decide) ?_
    with_reducible (refine T_b ?_; refine iteT ?_; refine X_do ?_; refine E_mcall (name := Str.ofString "append") (id := "list.append") ?_; refine E_nm ?_; refine LQ_here ?_)
    refine ⟨GM_list at_end F.slot_list_append F.type_list_append, ?_⟩
    with_reducible (refine Es_cons ?_; refine E_str ?_; refine Es_nil ?_)
    refine C_append at_end (by decide) ?_
    rw [set_end]
    with_reducible (refine X_nil ?_; refine sq_next ?_)
    refine X_ifs ?_
    with_reducible (refine T_bool ?_; refine Ts_or ?_; refine T_cmp1 ?_; refine E_bi (Blt.len_ (by assumption)) (by first | exact Keep.builtin _ | exact Keep.type _) ?_; refine Es_cons ?_; refine E_nm ?_; refine LQ_here ?_; refine Es_nil ?_)
    refine C_len_list at_end (by decide) ?_
    with_reducible (refine E_int ?_; refine O_ne ?_; refine T_b ?_; refine iteNo (by decide) ?_; refine Ts_or ?_; refine T_not ?_; refine T_value ?_; refine E_bi (Blt.isinstance_ (by assumption)) (by first | exact Keep.builtin _ | exact Keep.type _) ?_; refine Es_cons ?_; refine E_nm ?_; refine LQ_there (by decide +kernel) ?_; refine LQ_here ?_; refine Es_cons ?_; refine E_nm ?_; refine LQ_there (by decide +kernel) ?_; refine LQ_there (by decide +kernel) ?_; refine LQ_nil ?_)
    refine N_bi v_bi ?_
    with_reducible (refine Es_nil ?_)
    refine isi_excV e_NoNote (up_at hk) (by decide) ?_
    with_reducible (refine T_b ?_; refine iteNo (by decide) ?_; refine Ts_or_nil ?_; refine iteF ?_; refine X_nil ?_; refine sq_next ?_; refine X_ret ?_; refine E_sub ?_; refine E_nm ?_; refine LQ_here ?_; refine E_int ?_)
    refine S_l0 at_end ?_
    exact R_none (by simp [V.lt]) q

theorem good_law : Good (dr pw_uf050040_10 32) ["_law_script"] :=
  ⟨fun pm code doc vals h => (by obtain ⟨a, rfl⟩ := len_1 h; rfl), by decide +kernel, by decide +kernel, by decide +kernel, rfl, rfl, rfl⟩
theorem law_ok (bl : Blt B mg mb) (S : Scr B scr nums) (e_GossipError : Err B K 24 vErr) (g_GossipError : GC B mg "GossipError" (.raw (.ref 24))) (e_NoName : Err B K 37 (.ref 24 :: vErr)) (g_NoName : GC B mg "NoName" (.raw (.ref 37))) (e_NoAmount : Err B K 49 (.ref 24 :: vErr)) (g_NoAmount : GC B mg "NoAmount" (.raw (.ref 49))) (e_NoPage : Err B K 61 (.ref 24 :: vErr)) (g_NoPage : GC B mg "NoPage" (.raw (.ref 61))) (e_Forged : Err B K 73 (.ref 24 :: vErr)) (g_Forged : GC B mg "Forged" (.raw (.ref 73))) (e_NoNote : Err B K 85 (.ref 24 :: vErr)) (g_NoNote : GC B mg "NoNote" (.raw (.ref 85)))
    (c_cell_at : CF prog w B mg "_law_cell_at" 1 (fun xs σ Q X => ∃ k, xs = [.raw (.ref scr), .int k] ∧ 0 ≤ k ∧ Q (.int (cellAt nums k)) σ))
    (c_row_by : CF prog w B mg "_law_row_by" 4 (fun xs σ Q X => ∃ a b, xs = [.int a, .int b] ∧ ∀ row : Str, row.length ≤ 139 → Q (.str row) σ))
    (c_bent : CF prog w B mg "_law_bent" 2 (fun xs σ Q X => ∃ t c, xs = [.str t, .int c] ∧ t.length ≤ 421 ∧ ∀ u : Str, u.length ≤ 422 → Q (.str u) σ))
    (c_due : CF prog w B mg "_law_due" 3 (fun xs σ Q X => ∃ t, xs = [.str t] ∧ t.length ≤ 422 ∧ (∀ page, dueP t = some page → Q (.ref σ.length) (σ ++ [.dict (pgE page) none])) ∧ (dueP t = none → Q .none σ)))
    (c_read : CF prog w B mg "read" 5 (fun (xs : List V) (σ : List AObj) (Q : V → List AObj → Prop) (X : XT) => ∃ t R, xs = [.str t] ∧ X = xQ R ∧ t.length ≤ 422 ∧ (∀ page, rdP t = some page → Q (.ref σ.length) (σ ++ [.dict (pgE page) none])) ∧ (rdP t = none → ∀ more, R 85 (σ ++ more))))
    (c_same : CF prog w B mg "_law_same" 3 (fun xs σ Q X => ∃ j k F D e e', σ[j]? = some (.dict (pgE F) e) ∧ σ[k]? = some (.dict (pgE D) e') ∧ (names F = srt (names D) ∧ (∀ r ∈ F, r ∈ D) ∧ D.length ≤ 60 ∧ ∀ r ∈ D, isNameS r.1 = true) ∧ xs = [.ref j, .ref k] ∧ Q (.bool true) σ))
    (c_kind : CF0 prog w B mg "_law_kind" 1 (fun xs σ Q X => ∃ k C t w, xs = [.ref k] ∧ σ[k]? = some (.exc C t) ∧ KindOf C w ∧ Q (.str w) σ))
    {A : Around} (hA : AOk 20 A) (pm code doc : Value) (L a₀ : Addr) (σ : List AObj) (hσ : σ = []) :
    WX prog w B A (callEnvC (docDef (dr pw_uf050040_10 32).name (dr pw_uf050040_10 32).params (dr pw_uf050040_10 32).body (dr pw_uf050040_10 32).scope pm code doc) L a₀) (dr pw_uf050040_10 32).body [("_law_script", .raw (.ref scr))] σ (fun fl _ _ => retV fl = .bool true) (fun _ _ _ _ => False) := by
  change WX _ _ _ _ _ (_ :: _) _ _ _ _

  subst hσ
  with_reducible (refine X_let ?_; refine E_list ?_; refine Es_nil ?_; refine And.intro (by first | omega | with_unfolding_all exact Nat.le_of_ble_eq_true rfl) ?_)
  refine X_fors ?_
  with_reducible (refine E_bi (Blt.range_ (by assumption)) (by first | exact Keep.builtin _ | exact Keep.type _) ?_; refine Es_cons ?_; refine E_bin ?_; refine E_cf (by assumption) (AOk.le (by assumption) (by decide)) ?_; refine Es_cons ?_; refine E_nm ?_; refine LQ_there (by decide +kernel) ?_; refine LQ_here ?_; refine Es_cons ?_; refine E_int ?_; refine Es_nil ?_; refine ⟨_, rfl, ?_⟩; refine And.intro (by first | omega | with_unfolding_all exact Nat.le_of_ble_eq_true rfl) ?_; refine E_int ?_; refine O_mod ?_ (by omega); refine Es_nil ?_; refine C_range1 ?_)
  refine ForG.mk (ι := List Str) (fun i g => g.length = i ∧ ∀ f ∈ g, f.length ≤ 139) (fun _ _ => [("_law_rows", .ref 0), ("_law_script", .raw (.ref scr))]) (fun _ g => [.list (g.map V.str)]) (It_range hA.handled (by omega) (by omega) (by omega) (by omega)) [] ⟨rfl, fun _ h => (nomatch h)⟩ rfl trivial (by with_reducible (refine Sub.cons ?_; refine LQ_here ?_; refine ⟨rfl, ?_⟩; refine Sub.cons ?_; refine LQ_there (by decide +kernel) ?_; refine LQ_here ?_; refine ⟨rfl, ?_⟩; exact Sub.nil)) ?_ ?_
  · rintro i g hi ⟨hg, hf⟩ -
    have hi : i < 3 := by omega
    with_reducible (refine X_do ?_; refine E_mcall (name := Str.ofString "append") (id := "list.append") ?_; refine E_nm ?_; refine LQ_there (by decide +kernel) ?_; refine LQ_here ?_)
    refine ⟨GM_list (k := 0) rfl F.slot_list_append F.type_list_append, ?_⟩
    with_reducible (refine Es_cons ?_; refine E_cf (by assumption) (AOk.le (by assumption) (by decide)) ?_; refine Es_cons ?_; refine E_cf (by assumption) (AOk.le (by assumption) (by decide)) ?_; refine Es_cons ?_; refine E_nm ?_; refine LQ_there (by decide +kernel) ?_; refine LQ_there (by decide +kernel) ?_; refine LQ_here ?_; refine Es_cons ?_; refine E_bin ?_; refine E_int ?_; refine E_nm ?_; refine LQ_here ?_; refine O_add ?_; refine Es_nil ?_; refine ⟨_, rfl, ?_⟩; refine And.intro (by first | omega | with_unfolding_all exact Nat.le_of_ble_eq_true rfl) ?_; refine Es_cons ?_; refine E_cf (by assumption) (AOk.le (by assumption) (by decide)) ?_; refine Es_cons ?_; refine E_nm ?_; refine LQ_there (by decide +kernel) ?_; refine LQ_there (by decide +kernel) ?_; refine LQ_here ?_; refine Es_cons ?_; refine E_bin ?_; refine E_int ?_; refine E_nm ?_; refine LQ_here ?_; refine O_add ?_; refine Es_nil ?_; refine ⟨_, rfl, ?_⟩; refine And.intro (by first | omega | with_unfolding_all exact Nat.le_of_ble_eq_true rfl) ?_; refine Es_nil ?_; refine ⟨_, _, rfl, ?_⟩)
    intro row hrow
    with_reducible (refine Es_nil ?_)
    refine C_append (k := 0) rfl (small_size (by simp; omega)) ?_
    with_reducible (refine X_nil ?_)
    refine TJ_next (g ++ [row]) ⟨by simp [hg], fun f h => ?_⟩ (by simp) trivial (by with_reducible (refine Sub.cons ?_; refine LQ_there (by decide +kernel) ?_; refine LQ_here ?_; refine ⟨rfl, ?_⟩; refine Sub.cons ?_; refine LQ_there (by decide +kernel) ?_; refine LQ_there (by decide +kernel) ?_; refine LQ_here ?_; refine ⟨rfl, ?_⟩; exact Sub.nil))
    rcases List.mem_append.mp h with h | h
    · exact hf f h
    · rw [List.mem_singleton.mp h]; exact hrow
  · rintro g ⟨hg, hf⟩ -
    have hg3 : g.length ≤ 3 := by omega
    clear hg
    refine X_ifj (ι := List AObj × Nat × List Str) (fun g => g.1[g.2.1]? = some (.list (g.2.2.map V.str)) ∧ g.2.2.length ≤ 3 ∧ ∀ f ∈ g.2.2, f.length ≤ 139) (fun g => [("_law_rows", .ref g.2.1), ("_law_script", .raw (.ref scr))]) (fun g => g.1) ?_ ?_
    · with_reducible (refine T_cmp1 ?_; refine E_bin ?_; refine E_bin ?_; refine E_cf (by assumption) (AOk.le (by assumption) (by decide)) ?_; refine Es_cons ?_; refine E_nm ?_; refine LQ_there (by decide +kernel) ?_; refine LQ_here ?_; refine Es_cons ?_; refine E_int ?_; refine Es_nil ?_; refine ⟨_, rfl, ?_⟩; refine And.intro (by first | omega | with_unfolding_all exact Nat.le_of_ble_eq_true rfl) ?_; refine E_int ?_; refine O_div ?_ (by omega) (by decide +kernel); refine E_int ?_; refine O_mod ?_ (by omega); refine E_int ?_; refine O_gt ?_; refine T_b ?_)
      refine iteD (fun h => ?_) (fun h => ?_)
      · with_reducible (refine X_let ?_; refine E_bi (Blt.sorted_ (by assumption)) (by first | exact Keep.builtin _ | exact Keep.type _) ?_; refine Es_cons ?_; refine E_nm ?_; refine LQ_here ?_; refine Es_nil ?_)
        refine C_sorted_list (k := 0) rfl (small_sort (by omega)) ?_
        with_reducible (refine X_nil ?_)
        refine J_next (_, _, srt g) ⟨at_end, ?_, fun f hf' => hf f ((srt_perm g).mem_iff.mp hf')⟩ rfl (by with_reducible (refine Sub.cons ?_; refine LQ_here ?_; refine ⟨rfl, ?_⟩; refine Sub.cons ?_; refine LQ_there (by decide +kernel) ?_; refine LQ_there (by decide +kernel) ?_; refine LQ_here ?_; refine ⟨rfl, ?_⟩; exact Sub.nil))
        rw [(srt_perm g).length_eq]; exact hg3
      · with_reducible (refine X_nil ?_)
        exact J_next (_, 0, g) ⟨rfl, hg3, hf⟩ rfl (by with_reducible (refine Sub.cons ?_; refine LQ_here ?_; refine ⟨rfl, ?_⟩; refine Sub.cons ?_; refine LQ_there (by decide +kernel) ?_; refine LQ_here ?_; refine ⟨rfl, ?_⟩; exact Sub.nil))
    clear hf hg3 g
    rintro ⟨τ, k, g⟩ ⟨hk, hg3, hf⟩
    dsimp only at hk hg3 hf ⊢
    with_reducible (refine X_let ?_; refine E_mcall (name := Str.ofString "join") (id := "str.join") ?_; refine E_str ?_; refine ⟨GM_str F.slot_str_join F.type_str_join, ?_⟩; refine Es_cons ?_; refine E_nm ?_; refine LQ_here ?_; refine Es_nil ?_)
    refine C_join hk (joinOk_small (fun y hy => Nat.le_trans (hf y hy) (by decide)) (by omega) (by decide +kernel)) ?_
    have hjl : (Txt.join (Str.ofString ", ") g).length ≤ 421 := rows_len hg3 hf
    generalize Txt.join (Str.ofString ", ") g = t₀ at hjl
    skip
    refine X_ifj (ι := Str) (fun t => t.length ≤ 421) (fun t => [("_law_text", .str t), ("_law_script", .raw (.ref scr))]) (fun _ => τ) ?_ ?_
    · with_reducible (refine T_cmp1 ?_; refine E_nm ?_; refine LQ_here ?_; refine E_str ?_; refine O_eqs ?_; refine T_b ?_)
      refine iteD (fun h => ?_) (fun h => ?_)
      · with_reducible (refine X_let ?_; refine E_str ?_; refine X_nil ?_)
        exact J_next (Str.ofString "nobody") (by decide +kernel) rfl (by with_reducible (refine Sub.cons ?_; refine LQ_here ?_; refine ⟨rfl, ?_⟩; refine Sub.cons ?_; refine LQ_there (by decide +kernel) ?_; refine LQ_there (by decide +kernel) ?_; refine LQ_there (by decide +kernel) ?_; refine LQ_here ?_; refine ⟨rfl, ?_⟩; exact Sub.nil))
      · with_reducible (refine X_nil ?_)
        exact J_next t₀ hjl rfl (by with_reducible (refine Sub.cons ?_; refine LQ_here ?_; refine ⟨rfl, ?_⟩; refine Sub.cons ?_; refine LQ_there (by decide +kernel) ?_; refine LQ_there (by decide +kernel) ?_; refine LQ_here ?_; refine ⟨rfl, ?_⟩; exact Sub.nil))
    clear hjl t₀
    rintro t₀ hjl
    try dsimp only at hjl ⊢
    refine X_ifj (ι := Str) (fun t => t.length ≤ 422) (fun t => [("_law_text", .str t), ("_law_script", .raw (.ref scr))]) (fun _ => τ) ?_ ?_
    · with_reducible (refine T_cmp1 ?_; refine E_bin ?_; refine E_cf (by assumption) (AOk.le (by assumption) (by decide)) ?_; refine Es_cons ?_; refine E_nm ?_; refine LQ_there (by decide +kernel) ?_; refine LQ_here ?_; refine Es_cons ?_; refine E_int ?_; refine Es_nil ?_; refine ⟨_, rfl, ?_⟩; refine And.intro (by first | omega | with_unfolding_all exact Nat.le_of_ble_eq_true rfl) ?_; refine E_int ?_; refine O_mod ?_ (by omega); refine E_int ?_; refine O_gt ?_; refine T_b ?_)
      refine iteD (fun h => ?_) (fun h => ?_)
      · with_reducible (refine X_let ?_; refine E_cf (by assumption) (AOk.le (by assumption) (by decide)) ?_; refine Es_cons ?_; refine E_nm ?_; refine LQ_here ?_; refine Es_cons ?_; refine E_bin ?_; refine E_cf (by assumption) (AOk.le (by assumption) (by decide)) ?_; refine Es_cons ?_; refine E_nm ?_; refine LQ_there (by decide +kernel) ?_; refine LQ_here ?_; refine Es_cons ?_; refine E_int ?_; refine Es_nil ?_; refine ⟨_, rfl, ?_⟩; refine And.intro (by first | omega | with_unfolding_all exact Nat.le_of_ble_eq_true rfl) ?_; refine E_int ?_; refine O_div ?_ (by omega) (by decide +kernel); refine Es_nil ?_; refine ⟨_, _, rfl, ?_⟩; refine And.intro (by first | omega | with_unfolding_all exact Nat.le_of_ble_eq_true rfl) ?_)
        refine fun u hu => ?_
        with_reducible (refine X_nil ?_)
        exact J_next u hu rfl (by with_reducible (refine Sub.cons ?_; refine LQ_here ?_; refine ⟨rfl, ?_⟩; refine Sub.cons ?_; refine LQ_there (by decide +kernel) ?_; refine LQ_there (by decide +kernel) ?_; refine LQ_here ?_; refine ⟨rfl, ?_⟩; exact Sub.nil))
      · with_reducible (refine X_nil ?_)
        exact J_next t₀ (Nat.le_succ_of_le hjl) rfl (by with_reducible (refine Sub.cons ?_; refine LQ_here ?_; refine ⟨rfl, ?_⟩; refine Sub.cons ?_; refine LQ_there (by decide +kernel) ?_; refine LQ_here ?_; refine ⟨rfl, ?_⟩; exact Sub.nil))
    clear hjl t₀
    rintro t ht
    try dsimp only at ht ⊢
    with_reducible (refine X_let ?_; refine E_cf (by assumption) (AOk.le (by assumption) (by decide)) ?_; refine Es_cons ?_; refine E_nm ?_; refine LQ_here ?_; refine Es_nil ?_; refine ⟨_, rfl, ?_⟩; refine And.intro (by first | omega | with_unfolding_all exact Nat.le_of_ble_eq_true rfl) ?_)
    refine ⟨fun page hp => ?_, fun hn => ?_⟩
    · have hp' := hp
      rw [dueP_eq] at hp'
      obtain ⟨f1, f2, f3⟩ := rd_facts ht hp'
      refine X_try [] (fun _ _ => False) e_GossipError.o g_GossipError ?_ ?_
      · refine X_let (E_x Sub.nil ?_)
        with_reducible (refine E_cf (by assumption) (AOk.le (by assumption) (by decide)) ?_; refine Es_cons ?_; refine E_nm ?_; refine LQ_there (by decide +kernel) ?_; refine LQ_here ?_; refine Es_nil ?_)
        refine ⟨_, _, rfl, rfl, ht, fun page' h' => ?_, fun h' => ?_⟩
        · rw [hp'] at h'; cases h'
          with_reducible (refine X_nil ?_; refine sq_next ?_; refine X_ret ?_)
          refine E_boolop ?_
          with_reducible (refine Bo_and ?_; refine E_cmp1 ?_; refine E_nm ?_; refine LQ_there (by decide +kernel) ?_; refine LQ_here ?_; refine E_none ?_)
          refine O_isnot_ref_none ?_
          with_reducible (refine T_b ?_; refine iteT ?_; refine Bo_one ?_; refine E_cf (by assumption) (AOk.le (by assumption) (by decide)) ?_; refine Es_cons ?_; refine E_nm ?_; refine LQ_here ?_; refine Es_cons ?_; refine E_nm ?_; refine LQ_there (by decide +kernel) ?_; refine LQ_here ?_; refine Es_nil ?_)
          refine ⟨_, _, page, page, _, _, at_end, at_prev, ⟨f2, fun r hr => hr, f1, f3⟩, rfl, ?_⟩
          rfl
        · rw [hp'] at h'; cases h'
      · rintro e C t' τ' junk ⟨⟩
    · have hn' := hn
      rw [dueP_eq] at hn'
      refine X_try [("_law_due_here", .none)] (fun C _ => C = 85) e_GossipError.o g_GossipError ?_ ?_
      · refine X_let (E_x (by with_reducible (refine Sub.cons ?_; refine LQ_here ?_; refine ⟨rfl, ?_⟩; exact Sub.nil)) ?_)
        with_reducible (refine E_cf (by assumption) (AOk.le (by assumption) (by decide)) ?_; refine Es_cons ?_; refine E_nm ?_; refine LQ_there (by decide +kernel) ?_; refine LQ_here ?_; refine Es_nil ?_)
        refine ⟨_, _, rfl, rfl, ht, fun page' h' => ?_, fun _ _ => rfl⟩
        rw [hn'] at h'; cases h'
      · rintro e C t' τ' junk rfl
        refine ⟨⟨_, e_NoNote.o, by decide⟩, ?_⟩
        with_reducible (refine X_ret ?_)
        refine E_boolop ?_
        with_reducible (refine Bo_and ?_; refine E_cmp1 ?_; refine E_nm ?_; refine LQ_there (by decide +kernel) ?_; refine LQ_here ?_; refine E_none ?_)
        refine O_is_none ?_
        with_reducible (refine T_b ?_; refine iteT ?_; refine Bo_one ?_; refine E_cmp1 ?_)
        refine E_cf0 c_kind (AOk0.le (AOk.ok0 hA) (by decide)) ?_
        with_reducible (refine Es_cons ?_; refine E_nm ?_; refine LQ_here ?_; refine Es_nil ?_)
        refine ⟨_, _, _, _, rfl, exc_here, .note, ?_⟩
        with_reducible (refine E_str ?_; refine O_eqs ?_; refine ⟨_, rfl, ?_⟩)
        rfl

end
end Mine

open PySem PySem.W PyProof.Rows PySem.Challenge
open Mine
set_option maxRecDepth 100000 in
set_option maxHeartbeats 8000000 in
theorem PySem.Challenge.cw_uf050040_10_holds : PySem.Challenge.rw_uf050040_10.Holds := by
  w_on
  o_law
  o_head (kHook KF [1, 3, 23, 24, 36, 37, 48, 49, 60, 61, 72, 73, 84, 85] (fun _ => by kernel_rfl))
  (case hw => w_witness2)
  w_strict (
  intro w s₀ s₁ mg mb G Y fa o pm cd doc dV kV ho hd hcd hD hmg hg args vals as hpre hlay hrd hwl hlo
  refine Ground.open G ?_
  intro T B D TE TW
  try (refine guard_noD D (by decide +kernel) ?_; clear D)
  wrow_args hpre hlay hrd hwl hlo
  all_goals (first | refine enter_call ?_ | refine enter_callW ?_)
  clear hD hd hcd
  have bl : Blt s₁ mg mb := blt_of T (by decide +kernel)
  have gl : Gl s₁ mg mb := ⟨T.g, T.b, T.nolimit⟩
  rename_i hL _ _ _ hI _ hn _
  have S := Scr.mk ⟨_, hL, by simpa using hI⟩ (by omega)
  have g_L : GC s₁ mg "LETTERS" (.str letters) := gc_str T (by kernel_rfl!)
  have g_F : GC s₁ mg "FIGURES" (.str figs) := gc_str T (by kernel_rfl!)
  have g_M : GC s₁ mg "MOST_NAMES" (.int 200) := gc_int T (by kernel_rfl!)
  have v_bi : Bi s₁ mg mb "ValueError" (.type "ValueError") := bi_of T (by kernel_rfl!) (by decide +kernel) (by decide +kernel)
  have f_is_name := has_of T (dr Challenge.pw_uf050040_10 9) (i := 0) (by kernel_rfl)
  have f_is_part := has_of T (dr Challenge.pw_uf050040_10 12) (i := 1) (by kernel_rfl)
  have f_is_share := has_of T (dr Challenge.pw_uf050040_10 13) (i := 2) (by kernel_rfl)
  have f_is_page := has_of T (dr Challenge.pw_uf050040_10 14) (i := 3) (by kernel_rfl)
  have f_number_of := has_of T (dr Challenge.pw_uf050040_10 17) (i := 4) (by kernel_rfl)
  have f_read := has_of T (dr Challenge.pw_uf050040_10 18) (i := 5) (by kernel_rfl)
  have f_cell_at := has_of T (dr Challenge.pw_uf050040_10 20) (i := 6) (by kernel_rfl)
  have f_whole := has_of T (dr Challenge.pw_uf050040_10 21) (i := 7) (by kernel_rfl)
  have f_share := has_of T (dr Challenge.pw_uf050040_10 22) (i := 8) (by kernel_rfl)
  have f_name_by := has_of T (dr Challenge.pw_uf050040_10 23) (i := 9) (by kernel_rfl)
  have f_same := has_of T (dr Challenge.pw_uf050040_10 24) (i := 10) (by kernel_rfl)
  have f_kind := has_of T (dr Challenge.pw_uf050040_10 25) (i := 11) (by kernel_rfl)
  have f_sign_by := has_of T (dr Challenge.pw_uf050040_10 26) (i := 12) (by kernel_rfl)
  have f_row_by := has_of T (dr Challenge.pw_uf050040_10 27) (i := 13) (by kernel_rfl)
  have f_bent := has_of T (dr Challenge.pw_uf050040_10 28) (i := 14) (by kernel_rfl)
  have f_l_number_of := has_of T (dr Challenge.pw_uf050040_10 29) (i := 15) (by kernel_rfl)
  have f_named := has_of T (dr Challenge.pw_uf050040_10 30) (i := 16) (by kernel_rfl)
  have f_due := has_of T (dr Challenge.pw_uf050040_10 31) (i := 17) (by kernel_rfl)
  have f_law := has_of T (dr Challenge.pw_uf050040_10 32) (i := 18) (by kernel_rfl)
  have KX := kIn_of Y
  have e_GossipError : Err s₁ (KF w.params) 24 vErr := Err.of KX (by kernel_rfl)
  have g_GossipError : GC s₁ mg "GossipError" (.raw (.ref 24)) := ⟨T.g, _, mg_of KX T.g (by kernel_rfl), .raw_ _⟩
  have e_NoName : Err s₁ (KF w.params) 37 (.ref 24 :: vErr) := Err.of KX (by kernel_rfl)
  have g_NoName : GC s₁ mg "NoName" (.raw (.ref 37)) := ⟨T.g, _, mg_of KX T.g (by kernel_rfl), .raw_ _⟩
  have e_NoAmount : Err s₁ (KF w.params) 49 (.ref 24 :: vErr) := Err.of KX (by kernel_rfl)
  have g_NoAmount : GC s₁ mg "NoAmount" (.raw (.ref 49)) := ⟨T.g, _, mg_of KX T.g (by kernel_rfl), .raw_ _⟩
  have e_NoPage : Err s₁ (KF w.params) 61 (.ref 24 :: vErr) := Err.of KX (by kernel_rfl)
  have g_NoPage : GC s₁ mg "NoPage" (.raw (.ref 61)) := ⟨T.g, _, mg_of KX T.g (by kernel_rfl), .raw_ _⟩
  have e_Forged : Err s₁ (KF w.params) 73 (.ref 24 :: vErr) := Err.of KX (by kernel_rfl)
  have g_Forged : GC s₁ mg "Forged" (.raw (.ref 73)) := ⟨T.g, _, mg_of KX T.g (by kernel_rfl), .raw_ _⟩
  have e_NoNote : Err s₁ (KF w.params) 85 (.ref 24 :: vErr) := Err.of KX (by kernel_rfl)
  have g_NoNote : GC s₁ mg "NoNote" (.raw (.ref 85)) := ⟨T.g, _, mg_of KX T.g (by kernel_rfl), .raw_ _⟩
  have c_is_name := cf_is_name (prog := rw_uf050040_10.row.prog) (w := w) gl bl S f_is_name g_L 
  have c_is_part := cf_is_part (prog := rw_uf050040_10.row.prog) (w := w) gl bl S f_is_part  
  have c_is_share := cf_is_share (prog := rw_uf050040_10.row.prog) (w := w) gl bl S f_is_share  c_is_part
  have c_is_page := cf_is_page (prog := rw_uf050040_10.row.prog) (w := w) gl bl S f_is_page g_M c_is_name c_is_share
  have c_number_of := cf_number_of (prog := rw_uf050040_10.row.prog) (w := w) gl bl S f_number_of e_NoNote g_NoNote g_F 
  have c_l_number_of := cf_l_number_of (prog := rw_uf050040_10.row.prog) (w := w) gl bl S f_l_number_of  
  have c_named := cf_named (prog := rw_uf050040_10.row.prog) (w := w) gl bl S f_named  
  have c_due := cf_due (prog := rw_uf050040_10.row.prog) (w := w) gl bl S f_due  c_named c_l_number_of
  have c_read := cf_read (prog := rw_uf050040_10.row.prog) (w := w) gl bl S f_read e_NoNote g_NoNote c_is_name c_number_of c_is_page
  have c_sign_by := cf_sign_by (prog := rw_uf050040_10.row.prog) (w := w) gl bl S f_sign_by  
  have c_bent := cf_bent (prog := rw_uf050040_10.row.prog) (w := w) gl bl S f_bent  c_sign_by
  have c_cell_at := cf_cell_at (prog := rw_uf050040_10.row.prog) (w := w) gl bl S f_cell_at  
  have c_whole := cf_whole (prog := rw_uf050040_10.row.prog) (w := w) gl bl S f_whole  
  have c_share := cf_share (prog := rw_uf050040_10.row.prog) (w := w) gl bl S f_share  c_whole
  have c_name_by := cf_name_by (prog := rw_uf050040_10.row.prog) (w := w) gl bl S f_name_by  
  have c_row_by := cf_row_by (prog := rw_uf050040_10.row.prog) (w := w) gl bl S f_row_by  c_name_by
  have c_same := cf_same (prog := rw_uf050040_10.row.prog) (w := w) gl bl S f_same  c_share
  have c_kind := cf_kind (prog := rw_uf050040_10.row.prog) (w := w) gl bl S f_kind e_GossipError g_GossipError e_NoName g_NoName e_NoAmount g_NoAmount e_NoPage g_NoPage e_Forged g_Forged e_NoNote g_NoNote v_bi 
  refine law_end T f_law hmg good_law hg (fun _ => rfl) (fun _ => .bool _) (by first | rfl | kernel_rfl) fun A pm code doc L a hA => ?_
  exact law_ok bl S e_GossipError g_GossipError e_NoName g_NoName e_NoAmount g_NoAmount e_NoPage g_NoPage e_Forged g_Forged e_NoNote g_NoNote c_cell_at c_row_by c_bent c_due c_read c_same c_kind (hA.le (by decide)) pm code doc L a _ rfl)
