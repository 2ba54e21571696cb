import PyProof.Rows.All
import Wide.All
import Wide.FinOn
import Open.Line
import OpenK.KWalk
import OpenK.KMake
import OpenK.KMore
import PyProof.SetRoads
import PyProof.DictKinds
import PyProof.Rows.SetFrom
import PyProof.CompFree
import PyProof.DictCalls
import PyProof.DictWalks
import PyProof.WalksMore
import PyProof.StrWalks
import PyProof.Rows.Many
import PyProof.Rows.Tup
import PyProof.Rows.EqMixed
import PyProof.Cells
import PyProof.Raises
import PyProof.Rules3
import PyProof.AssignAttr
import PyProof.Rows.TupSub
import PyProof.Rows.Chain
import PyProof.Rows.AttrNodeAny
import PyProof.LetGo
import PyProof.TupleIter
import PyProof.SliceSyntax
import PyProof.RaisesMany
import PyProof.ForAny
import PyProof.RangeFor
import PyProof.PureInt
import PyProof.NoPylong
import PyProof.Rows.RuleB_floordiv
import PyProof.Rows.RuleB_mod
import PyProof.Rows.RuleB_pow
import PyProof.Rows.RuleB_small
import PyProof.Rows.RuleC_bool
import PyProof.Rows.StrRules
import PyProof.FString5
import PyProof.IsRules
import PyProof.WalkInts
import PyProof.Rows.Nodes
import PyProof.Rows.Method
import PyProof.PureCalls
import PyProof.Rows.StrTemp
import PyProof.Rows.TupMore
import PyProof.IsiNone
import PyProof.IsInstanceH
import PyProof.StrLawsJoin
import PyProof.StrLawsIn
import PyProof.DictTable
import PyProof.DictCopy
import PyProof.CollectWalk
import PyProof.CollectIter
import PyProof.EqAt
import PyProof.ListNew
import PyProof.ListRange
import PyProof.Rows.SortShell
import KE.KDictOf
import PyProof.NeData
import PyProof.StrBlockH
import PyProof.Rows.SortShellK
import PyProof.Rows.SortStr
import PyProof.EnumMake
import PyProof.SumAny
import PyProof.ExcClass2
import PyProof.RulesAs
import PyProof.ExcBaseAll.ValueError
import PyProof.ExcAttrAll.ValueError
import PyProof.Conv_int_bool
import PyProof.SliceMore
import PyProof.Rows.SeqSlice
import PyProof.AutoSeq1
import PyProof.Rows.Range3
import PySem.Challenge.RW_uf050040_14
set_option Elab.async false
set_option autoImplicit false
set_option linter.unusedVariables false
set_option maxRecDepth 100000
namespace Mine
open PySem

/-! sets of texts -/
def unS : Value → Str
  | .str x _ => x
  | _ => ⟨#[]⟩
def byText (w : World) : Bool := w.params.followText "set-order"
/-- the elements and the table of a set of texts -/
structure SetIn (w : World) (es : Array (Int × Value)) (t : SetTable) (ss : List Str) : Prop where
  txts : ∀ e ∈ es.toList, ∃ x k, e = (hashStr w x, Value.str x k)
  perm : (es.toList.map fun e => unS e.2).Perm ss
  small : es.size < scanBound
  fits : t.fits es.size = true
  led : t.led = !byText w
  plain : es.size = 0 ∨ t.plain = false
def SetS (w : World) (h : Heap) (a : Addr) (ss : List Str) : Prop :=
  ∃ o es ep t, h.get? a = some o ∧ o.ExactSet ∧ o.data = .set es ep t ∧ SetIn w es t ss
theorem SetS.at {w : World} {h h' : Heap} {a : Addr} {ss : List Str} (x : SetS w h a ss) (e : ∀ o, h.get? a = some o → h'.get? a = some o) : SetS w h' a ss :=
  let ⟨o, es, ep, t, ho, r⟩ := x; ⟨o, es, ep, t, e _ ho, r⟩
def addS (l : List Str) (x : Str) : List Str := if x ∈ l then l else l ++ [x]

theorem laid_led {mask finger moves : Nat} {led plain : Bool} {hs : Array Int} {t' : SetTable} {order : Array Nat} (h : SetTable.laid mask finger moves led plain hs = some (t', order)) : t'.led = led ∧ t'.plain = plain := by
  unfold SetTable.laid at h
  cases ho : SetTable.layClean mask hs with
  | none => rw [ho] at h; cases h
  | some owner => rw [ho] at h; injection h with h; injection h with h1 h2; rw [← h1]; exact ⟨rfl, rfl⟩
theorem relayAll_led (t : SetTable) (es : Array (Int × Value)) (n : Nat) : (relayAll t es n).2.1.led = t.led ∧ (t.plain = false → (relayAll t es n).2.1.plain = false) := by
  unfold relayAll
  split
  · rename_i t' order he
    have := laid_led he
    dsimp only
    split
    · exact ⟨this.1, fun h => this.2.trans h⟩
    · exact ⟨rfl, fun _ => rfl⟩
  · exact ⟨rfl, fun _ => rfl⟩
theorem layNew_led (t : SetTable) (es : Array (Int × Value)) (h : Int) (x : Value) : (layNew t es h x).2.1.led = t.led := by
  unfold layNew
  split
  · unfold SetTable.put SetTable.orStandIn
    dsimp only
    (repeat' split) <;> rfl
  · rfl

section
variable {prog : Program} {w : World} {A : Around} {E : Value → Shared → Prop} {s : Shared}

theorem SetIn.elems {es : Array (Int × Value)} {t : SetTable} {ss : List Str} (h : SetIn w es t ss) : ElemsOf (strKind prog w) es.toList := fun e he => by
  obtain ⟨x, k, rfl⟩ := h.txts e he
  exact ⟨⟨x, by simp [strKind, Value.isStrOf], rfl⟩, rfl⟩
theorem putSet_at {h : Heap} {a : Addr} {o : Obj} {es : Array (Int × Value)} {ep : Nat} {t : SetTable} (ho : h.get? a = some o) (hd : o.data = .set es ep t) (es' : Array (Int × Value)) (t' : SetTable) :
    (h.update a (Obj.putSet es' t')).get? a = some { o with data := .set es' (ep + 1) t' } := by
  have := Heap.get?_update_self (Obj.putSet es' t') ho (by rw [putSet_of es' t' hd]; rfl)
  rw [putSet_of es' t' hd] at this; exact this

theorem addTailS {g : Bool → Sem Unit} (hg : ∀ (b : Bool) (s₁ : Shared) (Q' : Unit → Shared → Prop), Q' () s₁ → wpAny (model prog w) A (g b) Q' E s₁)
    {a : Addr} {o : Obj} {es : Array (Int × Value)} {ep : Nat} {t : SetTable} (ho : s.heap.get? a = some o) (hex : o.ExactSet) (hd : o.data = .set es ep t)
    {es1 : Array (Int × Value)} {t2 : SetTable} {ss : List Str} (h1 : SetIn w es1 t2 ss) (hp2 : t2.plain = false) {wasDummy : Bool} {R : Option Bool → Shared → Prop}
    (h : ∀ h', Heap.SameBut a s.heap h' → SetS w h' a ss → R (some true) { s with heap := h' }) :
    wpAny (model prog w) A (do
        storeSet a es1 t2
        if (!wasDummy && t2.tooFull) = true then do
            g (relayAll t2 es1 (SetTable.grown es1.size)).2.2
            storeSet a (relayAll t2 es1 (SetTable.grown es1.size)).1 (relayAll t2 es1 (SetTable.grown es1.size)).2.1
            pure (some true)
          else pure (some true)) R E s := by
  refine wpAny_bind (wpAny_storeSet_of ho hd ?_ (fits_of_scanBound h1.small))
  have ho1 := putSet_at ho hd es1 t2
  have hsb1 := Heap.SameBut.update s.heap a (Obj.putSet es1 t2)
  split
  · have hp := relayAll_perm t2 es1 (SetTable.grown es1.size)
    have hfr := relayAll_fits t2 es1 (SetTable.grown es1.size)
    have hl := relayAll_led t2 es1 (SetTable.grown es1.size)
    generalize relayAll t2 es1 (SetTable.grown es1.size) = Rl at hp hfr hl ⊢
    obtain ⟨es2, t3, gave2⟩ := Rl
    dsimp only at hp hfr hl ⊢
    have hsz : es2.size = es1.size := by rw [← Array.length_toList, hp.length_eq, Array.length_toList]
    have h2 : SetIn w es2 t3 ss := ⟨fun e he => h1.txts e (hp.mem_iff.mp he), (hp.map _).trans h1.perm, by rw [hsz]; exact h1.small, hfr, hl.1.trans h1.led, .inr (hl.2 hp2)⟩
    refine wpAny_bind (hg _ _ _ (wpAny_bind (wpAny_storeSet_of ho1 rfl (wpAny_pure (h _ (hsb1.trans (Heap.SameBut.update _ a _)) ?_)) (fits_of_scanBound h2.small))))
    exact ⟨_, es2, _, t3, putSet_at ho1 rfl es2 t3, hex, rfl, h2⟩
  · exact wpAny_pure (h _ hsb1 ⟨_, es1, _, t2, ho1, hex, rfl, h1⟩)

theorem setAdd_S {a : Addr} {ss : List Str} {x : Str} {k : Tok} {Q : Bool → Shared → Prop} (hS : SetS w s.heap a ss) (hroom : ss.length + 1 < scanBound)
    (h : ∀ r h', Heap.SameBut a s.heap h' → SetS w h' a (addS ss x) → Q r { s with heap := h', toks := s.toks + 1 }) : wpAny (model prog w) A (setAdd a (.str x k)) Q E s := by
  obtain ⟨o, es, ep, t, ho, hex, hd, hin⟩ := hS
  have hkey : (strKind prog w).is x (.str x k) = true := by simp [strKind, Value.isStrOf]
  have hel := hin.elems (prog := prog)
  have hsz : es.size = ss.length := by rw [← hin.perm.length_eq, List.length_map, Array.length_toList]
  have hb1 : es.size + 1 < scanBound := by rw [hsz]; exact hroom
  unfold setAdd
  refine wpAny_holding (wpAny_bind ((strKind prog w).pyHash hkey ?_))
  unfold setAddHashed setAddHashedIn
  refine wpAny_holding (wpAny_bind (wpAny_setState_of (s := { s with toks := s.toks + 1 }) ho hd hin.fits ?_))
  dsimp only
  rw [byScan_of (x := .str x k) rfl hin.small hel]
  simp only [↓reduceIte]
  unfold setAddByScan
  refine wpAny_bind (wpAny_bind (wpAny_rule (wpAny_bind (wpAny_setScan_of (s := { s with toks := s.toks + 1 }) hkey ho hd hin.fits hel ?_))))
  have mem_iff : ∀ j (hj : j < es.toList.length), (strKind prog w).is x es.toList[j].2 = true → x ∈ ss := fun j hj hp => by
    obtain ⟨y, u, e⟩ := hin.txts _ (List.getElem_mem hj)
    rw [e] at hp
    obtain ⟨t', e'⟩ := Value.isStrOf_shape (show Value.isStrOf x (.str y u) = true from hp)
    injection e' with e1 e2
    subst e1
    exact hin.perm.mem_iff.mp (List.mem_map.mpr ⟨_, List.getElem_mem hj, by rw [e]; rfl⟩)
  cases hr : List.findIdx? (fun e => (strKind prog w).is x e.2) es.toList with
  | some j =>
    dsimp only
    obtain ⟨hj, hpj, _⟩ := List.findIdx?_eq_some_iff_getElem.mp hr
    have hx := mem_iff j hj hpj
    refine wpAny_pure (wpAny_pure (h _ s.heap (Heap.SameBut.refl a s.heap) ?_))
    unfold addS
    rw [if_pos hx]
    exact ⟨o, es, ep, t, ho, hex, hd, hin⟩
  | none =>
    dsimp only
    have hx : x ∉ ss := fun hm => by
      obtain ⟨e, he, hu⟩ := List.mem_map.mp (hin.perm.mem_iff.mpr hm)
      obtain ⟨y, u, rfl⟩ := hin.txts e he
      have hu' : y = x := hu
      subst hu'
      have := List.findIdx?_eq_none_iff.mp hr _ he
      simp [strKind, Value.isStrOf] at this
    have hperm := layNew_perm t es (hashStr w x) (.str x k)
    have hfits := layNew_fits t es (hashStr w x) (.str x k)
    have hled := layNew_led t es (hashStr w x) (.str x k)
    show wpAny (model prog w) A _ _ E _
    generalize hL : layNew t es ((strKind prog w).hash x) (.str x k) = L
    rw [show layNew t es (hashStr w x) (.str x k) = L from hL] at hperm hfits hled
    obtain ⟨es1, t1, wasDummy, gave⟩ := L
    dsimp only at hperm hfits hled ⊢
    rw [Array.toList_push] at hperm
    have hsz1 : es1.size = es.size + 1 := by rw [← Array.length_toList, hperm.length_eq, List.length_append, Array.length_toList]; rfl
    have hin1 : ∀ t2 : SetTable, t2.fits es1.size = true → t2.led = t1.led → t2.plain = false → SetIn w es1 t2 (addS ss x) := fun t2 f1 f2 f3 => by
      refine ⟨fun e he => ?_, ?_, by rw [hsz1]; exact hb1, f1, f2.trans (hled.trans hin.led), .inr f3⟩
      · rcases List.mem_append.mp (hperm.mem_iff.mp he) with he | he
        · exact hin.txts e he
        · rw [List.mem_singleton.mp he]; exact ⟨x, k, rfl⟩
      · unfold addS
        rw [if_neg hx]
        refine (hperm.map _).trans ?_
        rw [List.map_append]
        exact List.Perm.append_right _ hin.perm
    have hgw : ∀ (b : Bool) (s₁ : Shared) (Q' : Unit → Shared → Prop), Q' () s₁ → wpAny (model prog w) A (match b with | true => rule "set.scan.the-table-gave-way" | false => pure ()) Q' E s₁ :=
      fun b s₁ Q' hq => by cases b <;> first | exact wpAny_pure hq | exact wpAny_rule hq
    refine wpAny_bind (hgw _ _ _ ?_)
    have hend : ∀ h', Heap.SameBut a s.heap h' → SetS w h' a (addS ss x) → Q true { s with heap := h', toks := s.toks + 1 } := fun h' hsb hS' => h _ h' hsb hS'
    split
    · refine wpAny_bind ?_
      rw [hashByValue_scannable 8 (x := .str x k) rfl]
      refine wpAny_pure ?_
      refine addTailS (s := { s with toks := s.toks + 1 }) hgw ho hex hd (hin1 _ ?_ ?_ ?_) ?_ ?_
      · exact SetTable.fits_plain_off hfits
      · rfl
      · rfl
      · rfl
      · intro h' hsb hS'; dsimp only; exact wpAny_pure (hend h' hsb hS')
    · rename_i hpl
      refine wpAny_bind (wpAny_pure ?_)
      simp only [↓reduceIte]
      have hpl' : t1.plain = false := by simpa using hpl
      refine addTailS (s := { s with toks := s.toks + 1 }) hgw ho hex hd (hin1 _ hfits rfl hpl') hpl' ?_
      intro h' hsb hS'; dsimp only; exact wpAny_pure (hend h' hsb hS')
end

def firstS (val : Nat → Str) (i : Nat) : List Str := ((List.range i).map val).foldl addS []
theorem firstS_succ (val : Nat → Str) (i : Nat) : firstS val (i + 1) = addS (firstS val i) (val i) := by
  unfold firstS; rw [List.range_succ, List.map_append, List.foldl_append]; rfl
theorem addS_len (l : List Str) (x : Str) : (addS l x).length ≤ l.length + 1 := by unfold addS; split <;> simp
theorem firstS_len (val : Nat → Str) : ∀ i, (firstS val i).length ≤ i
  | 0 => Nat.le_refl _
  | i + 1 => by rw [firstS_succ]; exact Nat.le_trans (addS_len _ _) (Nat.succ_le_succ (firstS_len val i))

section
variable {prog : Program} {w : World} {A : Around} {R : Result → Shared → Prop} {I : Addr} {fp wr : List Addr} {G : Array GenState → Array GenState → Prop} {n : Nat} {P : Nat → Value → Prop} {St : Nat → Shared → Prop}
theorem set_update_S (W : WalksS prog w A.in1 I fp wr G n P St) (S : Addr) (hSf : S ∉ fp) (val : Nat → Str) (hval : ∀ i v, P i v → ∃ t, v = .str (val i) t) (hb : n + 1 < scanBound) :
    ∀ (k i : Nat) (s : Shared), n - i = k → i ≤ n → St i s → SetS w s.heap S (firstS val i) →
      (∀ s', Moved (S :: wr) G s s' → SetS w s'.heap S (firstS val n) → R (.ok (.ret .none)) s') →
      codeAny (model prog w) A (.builtin "set.update.loop" ⟨[.ref S, .ref I], []⟩) R s := by
  have hSw : S ∉ wr := fun h => hSf (W.sub _ h)
  have hsub : ∀ b ∈ wr, b ∈ S :: wr := fun b hb => List.mem_cons_of_mem _ hb
  intro k
  induction k with
  | zero =>
    intro i s hk hi hst hS hR
    have hin : i = n := by (clear hR hS hst hsub hSw hb hval hSf W; lia)
    subst hin
    refine codeAny_builtin PyProof.Rows.F.entry_set_update_loop ?_
    rw [Around.under_plainId PyProof.Rows.F.plain_set_update_loop _]
    show wpAny _ A.in1 (pyNext (.ref I) >>= _) _ _ s
    refine wpAny_bind (W.done s _ _ hst fun s' hm => ?_)
    show wpAny _ A.in1 (ret Value.none) _ _ s'
    exact wpAny_pure (hR s' (hm.mono hsub) (hS.at fun o e => hm.heap S _ hSw e))
  | succ k ih =>
    intro i s hk hi hst hS hR
    have hlt : i < n := by (clear hR hS hst hi ih hsub hSw hb hval hSf W; omega)
    refine codeAny_builtin PyProof.Rows.F.entry_set_update_loop ?_
    rw [Around.under_plainId PyProof.Rows.F.plain_set_update_loop _]
    show wpAny _ A.in1 (pyNext (.ref I) >>= _) _ _ s
    refine wpAny_bind (W.item i s _ _ hlt hst fun v s' hP hst' hm => ?_)
    obtain ⟨t, rfl⟩ := hval i v hP
    have hS' : SetS w s'.heap S (firstS val i) := hS.at fun o e => hm.heap S _ hSw e
    show wpAny _ A.in1 (holding [Value.str (val i) t] (setAdd S (.str (val i) t)) >>= _) _ _ s'
    refine wpAny_bind (wpAny_holding ?_)
    refine setAdd_S hS' (by have := firstS_len val i; omega) fun r h' hsb hS2 => ?_
    rw [← firstS_succ] at hS2
    refine wpAny_pure ⟨plainId_quiet PyProof.Rows.F.plain_set_update_loop _, ih (i + 1) _ (by omega) hlt (W.frame _ s' _ _ hst' (Nat.le_succ _) fun b hb o e => ?_) hS2 fun s'' hm'' hS'' => ?_⟩
    · rw [hsb.2 b (fun h : b = S => hSf (by rw [← h]; exact hb))]; exact e
    · refine hR s'' (Moved.trans W.gtrans ((hm.mono hsub).then_heap (Nat.le_succ _) fun b o hb e => ?_) hm'') hS''
      rw [hsb.2 b (fun h : b = S => hb (by rw [h]; exact List.mem_cons_self))]; exact e
end
end Mine

set_option autoImplicit false
set_option linter.unusedVariables false
namespace Mine
open PySem PySem.Calls PyProof.Rows

/-- abstract values -/
inductive V where
  | none
  | bool (b : Bool)
  | int (i : Int)
  | str (s : Str)
  | tup (xs : List V)
  | ref (k : Nat)
  | raw (v : Value)
  | rng (a b c : Int)

/-- keys of dicts -/
inductive Key where
  | s (x : Str)
  | i (n : Int)
  deriving DecidableEq

/-- abstract objects -/
inductive AObj where
  | list (xs : List V)
  | dict (es : List (Key × V)) (ep : Option Nat)
  | inst (C : Addr) (k : Nat)
  | ns (as : List (Str × V))
  | set (ss : List Str)
  | exc (C : Addr) (t : Option Nat)
  | tb

mutual
def Val (φ : List Addr) (h : Heap) : V → Value → Prop
  | .none, v => v = .none
  | .bool b, v => v = .bool b
  | .int i, v => ∃ t, v = .int i t
  | .str s, v => ∃ t, v = .str s t
  | .tup xs, v => ∃ a vs, v = .ref a ∧ IsTup h a vs ∧ Vals φ h xs vs.toList
  | .ref k, v => ∃ a, v = .ref a ∧ φ[k]? = some a
  | .raw u, v => v = u
  | .rng a b c, v => ∃ r t u k, v = .ref r ∧ h.get? r = some { cls := .type "range", data := .fields #[.int a t, .int b u, .int c k] }
def Vals (φ : List Addr) (h : Heap) : List V → List Value → Prop
  | [], vs => vs = []
  | x :: xs, vs => ∃ v r, vs = v :: r ∧ Val φ h x v ∧ Vals φ h xs r
end

/-- objects that never change but in their slots -/
def Still (o : Obj) : Prop := (o.cls = .type "tuple" ∧ ∃ vs n, o.data = .seq vs n) ∨ (o.cls = .type "range" ∧ ∃ vs, o.data = .fields vs)

mutual
theorem Val.mono {φ φ' : List Addr} {h h' : Heap} (hp : φ <+: φ')
    (hk : ∀ a o, h.get? a = some o → Still o → h'.get? a = some o) :
    ∀ (x : V) {v : Value}, Val φ h x v → Val φ' h' x v
  | .none, _, e => by simpa [Val] using e
  | .bool _, _, e => by simpa [Val] using e
  | .int _, _, e => by simpa [Val] using e
  | .str _, _, e => by simpa [Val] using e
  | .tup xs, v, e => by
    rw [Val] at e ⊢
    obtain ⟨a, vs, rfl, ⟨o, ho, hc, n, hd⟩, hv⟩ := e
    exact ⟨a, vs, rfl, ⟨o, hk a o ho (.inl ⟨hc, vs, n, hd⟩), hc, n, hd⟩, Vals.mono hp hk xs hv⟩
  | .ref k, _, e => by
    rw [Val] at e ⊢
    obtain ⟨a, rfl, ha⟩ := e
    refine ⟨a, rfl, ?_⟩
    obtain ⟨r, rfl⟩ := hp
    rw [List.getElem?_append_left (List.getElem?_eq_some_iff.mp ha).1]; exact ha
  | .raw _, _, e => by simpa [Val] using e
  | .rng a b c, _, e => by
    rw [Val] at e ⊢
    obtain ⟨r, t, u, k, rfl, ho⟩ := e
    exact ⟨r, t, u, k, rfl, hk r _ ho (.inr ⟨rfl, _, rfl⟩)⟩
theorem Vals.mono {φ φ' : List Addr} {h h' : Heap} (hp : φ <+: φ')
    (hk : ∀ a o, h.get? a = some o → Still o → h'.get? a = some o) :
    ∀ (xs : List V) {vs : List Value}, Vals φ h xs vs → Vals φ' h' xs vs
  | [], _, e => by simpa [Vals] using e
  | x :: xs, _, e => by
    rw [Vals] at e ⊢
    obtain ⟨v, r, rfl, h1, h2⟩ := e
    exact ⟨v, r, rfl, Val.mono hp hk x h1, Vals.mono hp hk xs h2⟩
end

theorem Vals.length {φ : List Addr} {h : Heap} : ∀ {xs : List V} {vs : List Value}, Vals φ h xs vs → vs.length = xs.length
  | [], _, e => by rw [Vals] at e; subst e; rfl
  | _ :: _, _, e => by
    rw [Vals] at e
    obtain ⟨v, r, rfl, _, h2⟩ := e
    simp [Vals.length h2]

theorem Vals.nil {φ : List Addr} {h : Heap} : Vals φ h [] [] := by rw [Vals]
theorem Vals.cons {φ : List Addr} {h : Heap} {x : V} {xs : List V} {v : Value} {vs : List Value} (h1 : Val φ h x v) (h2 : Vals φ h xs vs) : Vals φ h (x :: xs) (v :: vs) := by
  rw [Vals]; exact ⟨v, vs, rfl, h1, h2⟩

theorem Vals.get {φ : List Addr} {h : Heap} : ∀ {xs : List V} {vs : List Value}, Vals φ h xs vs → ∀ {i : Nat} {x : V}, xs[i]? = some x → ∃ v, vs[i]? = some v ∧ Val φ h x v
  | [], _, _, i, x, hx => by simp at hx
  | y :: ys, _, e, i, x, hx => by
    rw [Vals] at e
    obtain ⟨v, r, rfl, h1, h2⟩ := e
    cases i with
    | zero => simp at hx; subst hx; exact ⟨v, rfl, h1⟩
    | succ i => simpa using Vals.get h2 (by simpa using hx)

theorem Vals.append {φ : List Addr} {h : Heap} : ∀ {xs ys : List V} {vs ws : List Value}, Vals φ h xs vs → Vals φ h ys ws → Vals φ h (xs ++ ys) (vs ++ ws)
  | [], _, _, _, e, f => by rw [Vals] at e; subst e; exact f
  | x :: xs, _, _, _, e, f => by
    rw [Vals] at e
    obtain ⟨v, r, rfl, h1, h2⟩ := e
    exact .cons h1 (Vals.append h2 f)

section kk
variable (prog : Program) (w : World)

theorem eqBool_str_int {A : Around} {E : Value → Shared → Prop} {s : Shared} {x : Str} {n : Int} {t u : Tok} {Q : Bool → Shared → Prop} (h : Q false s) :
    wpAny (model prog w) A (PySem.eqBool (.str x t) (.int n u)) Q E s := by
  unfold PySem.eqBool
  refine wpAny_holding ?_
  rw [if_neg (show ¬ ((Value.str x t == Value.int n u) = true) from Bool.false_ne_true)]
  show wpAny _ _ (richCompare .Eq _ _ >>= fun r => truthOfDropped r) Q E s
  exact wpAny_bind (show wpAny _ _ (compareOp .Eq _ _) _ _ _ from EqMixed.eq_str_int (wpAny_truthy_bool h))
theorem eqBool_int_str {A : Around} {E : Value → Shared → Prop} {s : Shared} {x : Str} {n : Int} {t u : Tok} {Q : Bool → Shared → Prop} (h : Q false s) :
    wpAny (model prog w) A (PySem.eqBool (.int n u) (.str x t)) Q E s := by
  unfold PySem.eqBool
  refine wpAny_holding ?_
  rw [if_neg (show ¬ ((Value.int n u == Value.str x t) = true) from Bool.false_ne_true)]
  show wpAny _ _ (richCompare .Eq _ _ >>= fun r => truthOfDropped r) Q E s
  exact wpAny_bind (show wpAny _ _ (compareOp .Eq _ _) _ _ _ from EqMixed.eq_int_str (wpAny_truthy_bool h))

def Key.is : Key → Value → Bool
  | .s x, v => Value.isStrOf x v
  | .i n, v => Value.isInt n v
def Key.hash (w : World) : Key → Int
  | .s x => hashStr w x
  | .i n => hashInt n
theorem Key.is_shape {k : Key} {v : Value} (h : k.is v = true) : (∃ x t, k = .s x ∧ v = .str x t) ∨ ∃ n t, k = .i n ∧ v = .int n t := by
  cases k with
  | s x => obtain ⟨t, rfl⟩ := Value.isStrOf_shape h; exact .inl ⟨x, t, rfl, rfl⟩
  | i n => obtain ⟨t, rfl⟩ := Value.isInt_shape h; exact .inr ⟨n, t, rfl, rfl⟩

def kk : KeyKind prog w Key where
  is := Key.is
  hash := Key.hash w
  inj := fun v a b ha hb => by
    rcases Key.is_shape ha with ⟨x, t, rfl, rfl⟩ | ⟨x, t, rfl, rfl⟩ <;> rcases Key.is_shape hb with ⟨y, u, rfl, e⟩ | ⟨y, u, rfl, e⟩ <;> cases e <;> rfl
  byValue := fun k v h => by rcases Key.is_shape h with ⟨x, t, rfl, rfl⟩ | ⟨x, t, rfl, rfl⟩ <;> rfl
  pyHash := fun hv h => by
    rcases Key.is_shape hv with ⟨x, t, rfl, rfl⟩ | ⟨x, t, rfl, rfl⟩
    · exact wpAny_pyHash_str h
    · exact wpAny_pyHash_int h
  eqBool := fun {A E s a b u v Q} hu hv h => by
    rcases Key.is_shape hu with ⟨x, t, rfl, rfl⟩ | ⟨x, t, rfl, rfl⟩ <;> rcases Key.is_shape hv with ⟨y, u, rfl, rfl⟩ | ⟨y, u, rfl, rfl⟩
    · refine wpAny_eqBool_str ?_
      have : decide (Key.s x = Key.s y) = decide (x = y) := by simp
      rwa [this] at h
    · refine eqBool_str_int prog w ?_
      simpa using h
    · refine eqBool_int_str prog w ?_
      simpa using h
    · refine wpAny_eqBool_int ?_
      have : decide (Key.i x = Key.i y) = (x == y) := by simp; rfl
      rwa [this] at h
  «strs» := fun k x t v h => by
    rcases Key.is_shape h with ⟨y, u, rfl, e⟩ | ⟨y, u, rfl, e⟩
    · cases e; cases v <;> rfl
    · cases e
end kk

def Key.v : Key → V
  | .s x => .str x
  | .i n => .int n

/-- the entries of a dict -/
inductive Ents (φ : List Addr) (h : Heap) : List (Key × V) → List (Key × Value) → Prop
  | nil : Ents φ h [] []
  | cons {k : Key} {x : V} {v : Value} {es : List (Key × V)} {kvs : List (Key × Value)} : Val φ h x v → Ents φ h es kvs → Ents φ h ((k, x) :: es) ((k, v) :: kvs)

theorem Ents.mono {φ φ' : List Addr} {h h' : Heap} (hp : φ <+: φ')
    (hk : ∀ a o, h.get? a = some o → Still o → h'.get? a = some o) {es : List (Key × V)} {kvs : List (Key × Value)} (e : Ents φ h es kvs) : Ents φ' h' es kvs := by
  induction e with
  | nil => exact .nil
  | cons h1 _ ih => exact .cons (Val.mono hp hk _ h1) ih
theorem Ents.keys {φ : List Addr} {h : Heap} {es : List (Key × V)} {kvs : List (Key × Value)} (e : Ents φ h es kvs) : kvs.map (·.1) = es.map (·.1) := by
  induction e with
  | nil => rfl
  | cons _ _ ih => simp [ih]
theorem Ents.length {φ : List Addr} {h : Heap} {es : List (Key × V)} {kvs : List (Key × Value)} (e : Ents φ h es kvs) : kvs.length = es.length := by
  induction e with
  | nil => rfl
  | cons _ _ ih => simp [ih]

/-- what a dict says of a key -/
def at? (es : List (Key × V)) (k : Key) : Option V := (es.find? fun e => e.1 = k).map (·.2)
/-- a dict with a key put -/
def put (es : List (Key × V)) (k : Key) (x : V) : List (Key × V) :=
  if es.any (fun e => e.1 = k) then es.map (fun e => if e.1 = k then (e.1, x) else e) else es ++ [(k, x)]

theorem Ents.at? {φ : List Addr} {h : Heap} {es : List (Key × V)} {kvs : List (Key × Value)} (e : Ents φ h es kvs) (k : Key) :
    (∃ x v, at? es k = some x ∧ valueAt kvs k = some v ∧ Val φ h x v) ∨ (at? es k = none ∧ valueAt kvs k = none) := by
  induction e with
  | nil => exact .inr ⟨rfl, rfl⟩
  | @cons k' x v es kvs h1 _ ih =>
    by_cases hk : k' = k
    · subst hk; exact .inl ⟨x, v, by simp [Mine.at?], by simp [valueAt], h1⟩
    · simpa [Mine.at?, valueAt, hk] using ih
theorem Ents.append {φ : List Addr} {h : Heap} {es es' : List (Key × V)} {kvs kvs' : List (Key × Value)} (e : Ents φ h es kvs) (e' : Ents φ h es' kvs') : Ents φ h (es ++ es') (kvs ++ kvs') := by
  induction e with
  | nil => exact e'
  | cons h1 _ ih => exact .cons h1 ih
theorem Ents.any {φ : List Addr} {h : Heap} {es : List (Key × V)} {kvs : List (Key × Value)} (e : Ents φ h es kvs) (k : Key) : (kvs.any fun e => e.1 = k) = es.any fun e => e.1 = k := by
  induction e with
  | nil => rfl
  | cons _ _ ih => simp only [List.any_cons, ih]
theorem Ents.put {φ : List Addr} {h : Heap} {es : List (Key × V)} {kvs : List (Key × Value)} (e : Ents φ h es kvs) (k : Key) {x : V} {v : Value} (hx : Val φ h x v) : Ents φ h (put es k x) (stored kvs k v) := by
  unfold Mine.put stored
  rw [e.any k]
  split
  · rename_i hany; clear hany
    induction e with
    | nil => exact .nil
    | @cons k' x' v' es kvs h1 _ ih =>
      simp only [List.map_cons]
      by_cases hk : k' = k
      · simp only [hk, if_true]; exact .cons hx ih
      · simp only [hk, if_false]; exact .cons h1 ih
  · exact e.append (.cons hx .nil)

section st
variable (prog : Program) (w : World)

/-- how an abstract object lies -/
def ObjR (φ : List Addr) (h : Heap) (a : Addr) : AObj → Prop
  | .list xs => ∃ vs n, h.get? a = some { cls := .type "list", data := .seq vs n } ∧ Vals φ h xs vs.toList
  | .dict es e => ∃ kvs ep, h.DictAt (kk prog w) a kvs ep ∧ Ents φ h es kvs ∧ ∀ n, e = some n → ep = n
  | .inst C k => ∃ d, h.get? a = some { cls := .ref C, dict := some d, data := .plain } ∧ φ[k]? = some d
  | .set ss => SetS w h a ss
  | .exc C t => ∃ o vs, h.get? a = some o ∧ (o.cls = .ref C ∧ o.dict = none) ∧ o.data = .fields vs ∧ match t with
      | none => vs[1]? = some .none
      | some k => ∃ T, vs[1]? = some (.ref T) ∧ φ[k]? = some T
  | .tb => ∃ o ts x, h.get? a = some o ∧ o.cls = .type "traceback" ∧ o.data = .fields ts ∧ ts[3]? = some x
  | .ns as => ∃ es n, h.get? a = some { cls := .type "dict", data := .dict es n } ∧ StrKeys es ∧ es.size ≤ as.length ∧
      ∀ x, match as.lookup x with
        | some v => ∃ val, nsFind es x = some val ∧ Val φ h v val
        | none => nsFind es x = none

/-- the state: what the call has made (at φ) is σ; the base stands -/
structure St (B : Shared) (φ : List Addr) (σ : List AObj) (s : Shared) : Prop where
  base : ∀ b o, B.heap.get? b = some o → s.heap.get? b = some o
  new : ∀ a ∈ φ, B.heap.get? a = none
  nodup : φ.Nodup
  len : φ.length = σ.length
  objs : ∀ (k : Nat) (a : Addr) (ob : AObj), φ[k]? = some a → σ[k]? = some ob → ObjR prog w φ s.heap a ob
  gens : s.gens = B.gens
  os : s.os = B.os
  sys : (∃ o, B.heap.get? cStatics = some o) ∧ sysModules ∉ φ

/-- the same object, but for a frame's slots -/
def NoD (o : Obj) : Prop := ∀ es n, o.data ≠ .dict es n
theorem NoD.fields {o : Obj} {vs : Array Value} (h : o.data = .fields vs) : NoD o := fun _ _ e => by rw [h] at e; cases e
def Sim (o o' : Obj) : Prop := o' = o ∨ (¬ NoD o ∧ o'.cls = o.cls ∧ o'.dict = o.dict ∧ o'.data = o.data)
theorem Sim.refl (o : Obj) : Sim o o := .inl rfl
theorem Sim.cls {o o' : Obj} (h : Sim o o') : o'.cls = o.cls := h.elim (fun e => by rw [e]) fun h => h.2.1
theorem Sim.dict {o o' : Obj} (h : Sim o o') : o'.dict = o.dict := h.elim (fun e => by rw [e]) fun h => h.2.2.1
theorem Sim.data {o o' : Obj} (h : Sim o o') : o'.data = o.data := h.elim (fun e => by rw [e]) fun h => h.2.2.2
theorem Sim.trans {a b c : Obj} (h : Sim a b) (g : Sim b c) : Sim a c := by
  rcases h with rfl | h
  · exact g
  · exact .inr ⟨h.1, g.cls.trans h.2.1, g.dict.trans h.2.2.1, g.data.trans h.2.2.2⟩
theorem Sim.same {o o' : Obj} (h : Sim o o') (hc : NoD o) : o' = o := by
  rcases h with h | h
  · exact h
  · exact absurd hc h.1

/-- from one state to a later one; D: what else may change -/
structure Step (D φ : List Addr) (h : Heap) (φ' : List Addr) (h' : Heap) : Prop where
  pre : φ <+: φ'
  fresh : ∀ a ∈ φ', a ∈ φ ∨ h.get? a = none
  keep : ∀ b o, h.get? b = some o → b ∉ φ → b ∉ D → ∃ o', h'.get? b = some o' ∧ Sim o o'

theorem Step.refl (D φ : List Addr) (h : Heap) : Step D φ h φ h := ⟨List.prefix_refl _, fun _ ha => .inl ha, fun _ o e _ _ => ⟨o, e, .refl o⟩⟩
theorem Step.mono {D D' φ φ' : List Addr} {h h' : Heap} (s : Step D φ h φ' h') (hd : ∀ a ∈ D, a ∈ D') : Step D' φ h φ' h' :=
  ⟨s.pre, s.fresh, fun b o e h1 h2 => s.keep b o e h1 fun hb => h2 (hd b hb)⟩
theorem Step.nilD {D φ φ' : List Addr} {h h' : Heap} (s : Step [] φ h φ' h') : Step D φ h φ' h' := s.mono fun _ h => nomatch h
theorem Step.trans {D φ φ₁ φ₂ : List Addr} {h h₁ h₂ : Heap} (s : Step D φ h φ₁ h₁) (t : Step D φ₁ h₁ φ₂ h₂) (hD : ∀ a ∈ D, a ∉ φ₁ ∧ a ∉ φ₂ ∨ h.get? a = none) : Step D φ h φ₂ h₂ := by
  refine ⟨s.pre.trans t.pre, fun a ha => ?_, fun b o e h1 h2 => ?_⟩
  · rcases t.fresh a ha with h3 | h3
    · exact s.fresh a h3
    · by_cases h4 : a ∈ φ
      · exact .inl h4
      · cases e : h.get? a with
        | none => exact .inr rfl
        | some o =>
          by_cases h5 : a ∈ D
          · rcases hD a h5 with h6 | h6
            · exact absurd ha h6.2
            · rw [h6] at e; cases e
          · obtain ⟨o', h6, _⟩ := s.keep a o e h4 h5
            rw [h6] at h3; cases h3
  · obtain ⟨o₁, e₁, a1⟩ := s.keep b o e h1 h2
    have h3 : b ∉ φ₁ := fun hb => by
      rcases s.fresh b hb with h4 | h4
      · exact h1 h4
      · rw [h4] at e; cases e
    obtain ⟨o₂, e₂, b1⟩ := t.keep b o₁ e₁ h3 h2
    exact ⟨o₂, e₂, a1.trans b1⟩
theorem Step.trans0 {φ φ₁ φ₂ : List Addr} {h h₁ h₂ : Heap} (s : Step [] φ h φ₁ h₁) (t : Step [] φ₁ h₁ φ₂ h₂) : Step [] φ h φ₂ h₂ := s.trans t fun _ h => nomatch h

theorem Step.of_keeps {φ : List Addr} {h h' : Heap} (hk : ∀ b o, h.get? b = some o → h'.get? b = some o) : Step [] φ h φ h' :=
  ⟨List.prefix_refl _, fun _ ha => .inl ha, fun b o e _ _ => ⟨o, hk b o e, .refl o⟩⟩

variable {prog w}
variable {B : Shared} {φ φ' : List Addr} {σ σ' : List AObj} {s : Shared}

theorem notStill_dict {o : Obj} {es : Array DictEntry} {n : Nat} (h : o.data = .dict es n) : ¬ Still o := by
  rintro (⟨_, vs, m, h'⟩ | ⟨_, vs, h'⟩) <;> rw [h] at h' <;> cases h'
theorem notStill_cell {o : Obj} {v : Option Value} (h : o.data = .cell v) : ¬ Still o := by
  rintro (⟨_, vs, m, h'⟩ | ⟨_, vs, h'⟩) <;> rw [h] at h' <;> cases h'
theorem notStill_type {o : Obj} {T : String} (h : o.cls = .type T) (h1 : T ≠ "tuple") (h2 : T ≠ "range") : ¬ Still o := by
  rintro (⟨h', _⟩ | ⟨h', _⟩)
  · rw [h] at h'; exact h1 (by injection h')
  · rw [h] at h'; exact h2 (by injection h')
theorem ObjR.notStill {h : Heap} {a : Addr} {o : Obj} {ob : AObj} (r : ObjR prog w φ h a ob) (ho : h.get? a = some o) : ¬ Still o := by
  cases ob with
  | list xs =>
    obtain ⟨vs, n, e, _⟩ := r
    rw [e] at ho; cases ho
    exact notStill_type rfl (by decide) (by decide)
  | dict es e =>
    obtain ⟨kvs, ep, ⟨o', es', e, hx, hd, _⟩, _⟩ := r
    rw [e] at ho; cases ho
    exact notStill_type hx.1 (by decide) (by decide)
  | inst C k =>
    obtain ⟨d, e, _⟩ := r
    rw [e] at ho; cases ho
    rintro (⟨h, _⟩ | ⟨h, _⟩) <;> cases h
  | ns as =>
    obtain ⟨es, n, e, _⟩ := r
    rw [e] at ho; cases ho
    exact notStill_type rfl (by decide) (by decide)
  | set ss =>
    obtain ⟨o', es, ep, t, e, hx, _⟩ := r
    rw [e] at ho; cases ho
    exact notStill_type hx.1 (by decide) (by decide)
  | exc C t =>
    obtain ⟨o', vs, e, hc, _⟩ := r
    rw [e] at ho; cases ho
    rintro (⟨h, _⟩ | ⟨h, _⟩) <;> rw [hc.1] at h <;> cases h
  | tb =>
    obtain ⟨o', ts, x, e, hc, _⟩ := r
    rw [e] at ho; cases ho
    exact notStill_type hc (by decide) (by decide)

theorem St.notStill (G : St prog w B φ σ s) {a : Addr} {o : Obj} (ha : a ∈ φ) (ho : s.heap.get? a = some o) : ¬ Still o := by
  obtain ⟨k, hk, rfl⟩ := List.mem_iff_getElem.mp ha
  have hk' : k < σ.length := G.len ▸ hk
  exact (G.objs k _ σ[k] (List.getElem?_eq_getElem hk) (List.getElem?_eq_getElem hk')).notStill ho

/-- what stands still stays through a step, if the changed frames are no still objects -/
theorem Step.still {D : List Addr} {h' : Heap} (G : St prog w B φ σ s) (t : Step D φ s.heap φ' h') (hD : ∀ a ∈ D, ∀ o, s.heap.get? a = some o → ¬ Still o) :
    ∀ a o, s.heap.get? a = some o → Still o → h'.get? a = some o := fun a o e hs => by
  obtain ⟨o', h1, h2⟩ := t.keep a o e (fun ha => G.notStill ha e hs) fun ha => hD a ha o e hs
  obtain rfl := h2.same fun es n hc => by
    rcases hs with ⟨_, _, _, h⟩ | ⟨_, _, h⟩ <;> rw [h] at hc <;> cases hc
  exact h1
theorem Val.step {h' : Heap} {x : V} {v : Value} (hv : Val φ s.heap x v) (G : St prog w B φ σ s) (t : Step [] φ s.heap φ' h') : Val φ' h' x v :=
  Val.mono t.pre (t.still G fun _ h => nomatch h) x hv
theorem Vals.step {h' : Heap} {xs : List V} {vs : List Value} (hv : Vals φ s.heap xs vs) (G : St prog w B φ σ s) (t : Step [] φ s.heap φ' h') : Vals φ' h' xs vs :=
  Vals.mono t.pre (t.still G fun _ h => nomatch h) xs hv

/-- an object of the abstract heap through a change elsewhere -/
theorem ObjR.mono {h h' : Heap} {a : Addr} {ob : AObj} (r : ObjR prog w φ h a ob) (hp : φ <+: φ')
    (hk : ∀ a o, h.get? a = some o → Still o → h'.get? a = some o) (ha : ∀ o, h.get? a = some o → h'.get? a = some o) : ObjR prog w φ' h' a ob := by
  have hidx : ∀ {k d : Nat}, φ[k]? = some d → φ'[k]? = some d := fun {k d} e => by
    obtain ⟨r, rfl⟩ := hp
    rw [List.getElem?_append_left (List.getElem?_eq_some_iff.mp e).1]; exact e
  cases ob with
  | list xs => obtain ⟨vs, n, e, hv⟩ := r; exact ⟨vs, n, ha _ e, Vals.mono hp hk xs hv⟩
  | dict es e =>
    obtain ⟨kvs, ep, ⟨o, es', e, r⟩, hv, hn⟩ := r
    exact ⟨kvs, ep, ⟨o, es', ha _ e, r⟩, hv.mono hp hk, hn⟩
  | inst C k => obtain ⟨d, e, hd⟩ := r; exact ⟨d, ha _ e, hidx hd⟩
  | set ss => exact SetS.at r ha
  | exc C t =>
    obtain ⟨o, vs, e, h1, h2, h3⟩ := r
    refine ⟨o, vs, ha _ e, h1, h2, ?_⟩
    cases t with
    | none => exact h3
    | some k => obtain ⟨T, e1, e2⟩ := h3; exact ⟨T, e1, hidx e2⟩
  | tb => obtain ⟨o, ts, x, e, r⟩ := r; exact ⟨o, ts, x, ha _ e, r⟩
  | ns as =>
    obtain ⟨es, n, e, h1, h2, h3⟩ := r
    refine ⟨es, n, ha _ e, h1, h2, fun x => ?_⟩
    have := h3 x
    cases hx : as.lookup x with
    | none => rw [hx] at this; exact this
    | some v => rw [hx] at this; obtain ⟨val, e1, e2⟩ := this; exact ⟨val, e1, Val.mono hp hk v e2⟩

/-- a state through a change that keeps all -/
theorem St.keeps {s' : Shared} (G : St prog w B φ σ s) (hk : ∀ b o, s.heap.get? b = some o → s'.heap.get? b = some o) (hg : s'.gens = s.gens := by rfl) (ho : s'.os = s.os := by rfl) : St prog w B φ σ s' :=
  ⟨fun b o e => hk b o (G.base b o e), G.new, G.nodup, G.len, fun k a ob h1 h2 => (G.objs k a ob h1 h2).mono (List.prefix_refl _) (fun a o e _ => hk a o e) fun o e => hk a o e, hg.trans G.gens, ho.trans G.os, G.sys⟩
/-- a state through a change of one object that is not the call's and not still -/
theorem St.sameBut {s' : Shared} {c : Addr} (G : St prog w B φ σ s) (hs : Heap.SameBut c s.heap s'.heap) (hc : c ∉ φ) (hb : B.heap.get? c = none) (hn : ∀ o, s.heap.get? c = some o → ¬ Still o)
    (hg : s'.gens = s.gens := by rfl) (ho : s'.os = s.os := by rfl) : St prog w B φ σ s' := by
  refine ⟨fun b o e => hs.extBut b o (fun h => by rw [h, hb] at e; cases e) (G.base b o e), G.new, G.nodup, G.len, fun k a ob h1 h2 => ?_, hg.trans G.gens, ho.trans G.os, G.sys⟩
  refine (G.objs k a ob h1 h2).mono (List.prefix_refl _) (fun a o e hst => hs.extBut a o (fun h => hn o (h ▸ e) hst) e) fun o e => hs.extBut a o (fun h => hc (h ▸ List.mem_of_getElem? h1)) e
theorem Val.sameBut {h h' : Heap} {c : Addr} {x : V} {v : Value} (hv : Val φ h x v) (hs : Heap.SameBut c h h') (hn : ∀ o, h.get? c = some o → ¬ Still o) : Val φ h' x v :=
  Val.mono (List.prefix_refl _) (fun a o e hst => hs.extBut a o (fun h => hn o (h ▸ e) hst) e) x hv

theorem St.sub (G : St prog w B φ σ s) {b : Addr} {o : Obj} (hb : B.heap.get? b = some o) : b ∉ φ := fun h => by rw [G.new b h] at hb; cases hb
theorem St.fresh (G : St prog w B φ σ s) : s.heap.objs.size ∉ φ := fun h => by
  obtain ⟨k, hk, e⟩ := List.mem_iff_getElem.mp h
  have hk' : k < σ.length := G.len ▸ hk
  have r := G.objs k _ σ[k] (List.getElem?_eq_getElem hk) (List.getElem?_eq_getElem hk')
  have : ∃ o, s.heap.get? φ[k] = some o := by
    cases hob : σ[k] with
    | list xs => rw [hob] at r; obtain ⟨vs, n, e, _⟩ := r; exact ⟨_, e⟩
    | dict es e => rw [hob] at r; obtain ⟨kvs, ep, ⟨o, es', e, _⟩, _⟩ := r; exact ⟨_, e⟩
    | inst C k => rw [hob] at r; obtain ⟨d, e, _⟩ := r; exact ⟨_, e⟩
    | ns as => rw [hob] at r; obtain ⟨es, n, e, _⟩ := r; exact ⟨_, e⟩
    | set ss => rw [hob] at r; obtain ⟨o', es, ep, t, e, _⟩ := r; exact ⟨_, e⟩
    | exc C t => rw [hob] at r; obtain ⟨o', vs, e, _⟩ := r; exact ⟨_, e⟩
    | tb => rw [hob] at r; obtain ⟨o', ts, x, e, _⟩ := r; exact ⟨_, e⟩
  obtain ⟨o, ho⟩ := this
  rw [e] at ho
  exact absurd (Heap.lt_size ho) (Nat.lt_irrefl _)
theorem get?_size (h : Heap) : h.get? h.objs.size = none := by
  cases e : h.get? h.objs.size with
  | none => rfl
  | some o => exact absurd (Heap.lt_size e) (Nat.lt_irrefl _)
theorem get?_of_ge {h : Heap} {a : Addr} (ha : h.objs.size ≤ a) : h.get? a = none := by
  cases e : h.get? a with
  | none => rfl
  | some o => exact absurd (Heap.lt_size e) (Nat.not_lt.mpr ha)
theorem St.baseSize (G : St prog w B φ σ s) {a : Addr} (ha : s.heap.get? a = none) : B.heap.get? a = none := by
  cases e : B.heap.get? a with
  | none => rfl
  | some o => rw [G.base a o e] at ha; cases ha

theorem St.sizeNe (G : St prog w B φ σ s) : s.heap.objs.size ≠ sysModules := fun e => by
  obtain ⟨⟨o, ho⟩, _⟩ := G.sys
  have := Heap.lt_size (G.base _ _ ho)
  rw [e] at this
  exact absurd this (by decide)

/-- a new object onto the heap -/
theorem St.alloc {s' : Shared} {ob : AObj} {c : Addr} (G : St prog w B φ σ s) (hc : s.heap.get? c = none) (hk : ∀ b o, s.heap.get? b = some o → s'.heap.get? b = some o) (r : ObjR prog w (φ ++ [c]) s'.heap c ob)
    (hcφ : c ∉ φ) (hcs : c ≠ sysModules) (hg : s'.gens = s.gens := by rfl) (ho : s'.os = s.os := by rfl) : St prog w B (φ ++ [c]) (σ ++ [ob]) s' := by
  refine ⟨fun b o e => hk b o (G.base b o e), fun a ha => ?_, ?_, by simp [G.len], fun k a ob' h1 h2 => ?_, hg.trans G.gens, ho.trans G.os, G.sys.1, fun h => (List.mem_append.mp h).elim G.sys.2 fun h => hcs (List.mem_singleton.mp h).symm⟩
  · rcases List.mem_append.mp ha with h | h
    · exact G.new a h
    · obtain rfl := List.mem_singleton.mp h; exact G.baseSize hc
  · exact List.nodup_append.mpr ⟨G.nodup, by simp, fun a ha b hb e => hcφ (by obtain rfl := List.mem_singleton.mp hb; exact e ▸ ha)⟩
  · by_cases hlt : k < φ.length
    · rw [List.getElem?_append_left hlt] at h1
      rw [List.getElem?_append_left (G.len ▸ hlt)] at h2
      exact (G.objs k a ob' h1 h2).mono (List.prefix_append _ _) (fun a o e _ => hk a o e) fun o e => hk a o e
    · have h3 : k = φ.length := by
        have := (List.getElem?_eq_some_iff.mp h1).1
        simp at this; (clear h2 h1 ho hg hcs hcφ r hk hc G; lia)
      subst h3
      rw [List.getElem?_append_right (Nat.le_refl _)] at h1
      rw [G.len, List.getElem?_append_right (Nat.le_refl _)] at h2
      simp at h1 h2
      subst h1 h2
      exact r
theorem Step.alloc {s' : Shared} {c : Addr} {D : List Addr} (hc : s.heap.get? c = none) (hk : ∀ b o, s.heap.get? b = some o → s'.heap.get? b = some o) : Step D φ s.heap (φ ++ [c]) s'.heap :=
  ⟨List.prefix_append _ _, fun a ha => (List.mem_append.mp ha).imp id fun h => by obtain rfl := List.mem_singleton.mp h; exact hc, fun b o e _ _ => ⟨o, hk b o e, .refl o⟩⟩

/-- an object of the call's changed -/
theorem St.update {s' : Shared} {k : Nat} {c : Addr} {ob : AObj} (G : St prog w B φ σ s) (hc : φ[k]? = some c) (hs : Heap.SameBut c s.heap s'.heap) (r : ObjR prog w φ s'.heap c ob)
    (hg : s'.gens = s.gens := by rfl) (ho : s'.os = s.os := by rfl) : St prog w B φ (σ.set k ob) s' := by
  have hcm := List.mem_of_getElem? hc
  refine ⟨fun b o e => hs.extBut b o (fun h => G.sub e (h ▸ hcm)) (G.base b o e), G.new, G.nodup, by simp [G.len], fun j a ob' h1 h2 => ?_, hg.trans G.gens, ho.trans G.os, G.sys⟩
  by_cases hj : j = k
  · subst hj
    rw [hc] at h1; cases h1
    have hlt : j < σ.length := G.len ▸ (List.getElem?_eq_some_iff.mp hc).1
    rw [List.getElem?_set_self hlt] at h2; cases h2
    exact r
  · rw [List.getElem?_set_ne (Ne.symm hj)] at h2
    refine (G.objs j a ob' h1 h2).mono (List.prefix_refl _) (fun a o e hst => hs.extBut a o (fun h => ?_) e) fun o e => hs.extBut a o (fun h => hj ?_) e
    · exact G.notStill (h ▸ hcm) e hst
    · subst h
      have e1 := List.getElem?_eq_some_iff.mp h1
      have e2 := List.getElem?_eq_some_iff.mp hc
      obtain ⟨l1, e1⟩ := e1
      obtain ⟨l2, e2⟩ := e2
      exact (List.getElem_inj G.nodup).mp (e1.trans e2.symm)
theorem Step.update {D : List Addr} {h h' : Heap} {c : Addr} (hs : Heap.SameBut c h h') (hc : c ∈ φ) : Step D φ h φ h' :=
  ⟨List.prefix_refl _, fun _ ha => .inl ha, fun b o e hb _ => ⟨o, hs.extBut b o (fun h => hb (h ▸ hc)) e, .refl o⟩⟩
end st

end Mine

set_option autoImplicit false
set_option linter.unusedVariables false
namespace Mine
open PySem PySem.Calls PyProof.Rows

/-- a name of the frame has this value -/
def Bnd (env : Env) (h : Heap) (x : Str) (val : Value) : Prop :=
  (env.kindOf x = some .local ∧ ∃ m, h.Ns env.locals m ∧ m x = some val) ∨
  ((env.kindOf x = some .cell ∨ env.kindOf x = some .free) ∧ ∃ c, env.cells.lookup x = some c ∧ h.IsCell c (some val))

/-- what a frame's own statements may change beside the call's objects -/
def fr (env : Env) : List Addr := env.locals :: env.cells.map (·.2)

/-- a frame's table stands -/
def FrOk (B : Shared) (φ : List Addr) (h : Heap) (e : Env) : Prop :=
  e.scope.kind ≠ .module ∧ ∃ L o es n, e.frame = some L ∧ L ∉ φ ∧ B.heap.get? L = none ∧ h.get? L = some o ∧ o.data = .dict es n
/-- the frames of the stack stand -/
def Frs (A : Around) (B : Shared) (φ : List Addr) (h : Heap) : Prop := ∃ l, A.frames = some l ∧ ∀ e ∈ l, FrOk B φ h e
theorem FrOk.thru {B : Shared} {φ φ' : List Addr} {h h' : Heap} {e : Env} (f : FrOk B φ h e) (hφ : ∀ a ∈ φ', a ∈ φ ∨ h.get? a = none) (hk : ∀ a o es n, h.get? a = some o → o.data = .dict es n → a ∉ φ → ∃ o' es' n', h'.get? a = some o' ∧ o'.data = .dict es' n') : FrOk B φ' h' e := by
  obtain ⟨h1, L, o, es, n, h2, h3, h4, h5, h6⟩ := f
  obtain ⟨o', es', n', h7, h8⟩ := hk L o es n h5 h6 h3
  refine ⟨h1, L, o', es', n', h2, fun hm => ?_, h4, h7, h8⟩
  rcases hφ L hm with h | h
  · exact h3 h
  · rw [h5] at h; cases h
theorem Frs.thru {A : Around} {B : Shared} {φ φ' : List Addr} {h h' : Heap} (f : Frs A B φ h) (hφ : ∀ a ∈ φ', a ∈ φ ∨ h.get? a = none) (hk : ∀ a o es n, h.get? a = some o → o.data = .dict es n → a ∉ φ → ∃ o' es' n', h'.get? a = some o' ∧ o'.data = .dict es' n') : Frs A B φ' h' := by
  obtain ⟨l, h1, h2⟩ := f
  exact ⟨l, h1, fun e he => (h2 e he).thru hφ hk⟩
theorem Frs.step {A : Around} {B : Shared} {φ φ' : List Addr} {h h' : Heap} (f : Frs A B φ h) (t : Step [] φ h φ' h') : Frs A B φ' h' :=
  f.thru t.fresh fun a o es n e hd hφ => by
    obtain ⟨o', e', hs⟩ := t.keep a o e hφ (fun h => nomatch h)
    exact ⟨o', es, n, e', hs.data.trans hd⟩
/-- a heap changed at one place, which holds a table still -/
theorem Frs.at {A : Around} {B : Shared} {φ : List Addr} {h h' : Heap} {c : Addr} (f : Frs A B φ h) (hs : ∀ b o, b ≠ c → h.get? b = some o → h'.get? b = some o) (hc : (∃ o' es' n', h'.get? c = some o' ∧ o'.data = .dict es' n') ∨ ∀ o, h.get? c = some o → NoD o) : Frs A B φ h' :=
  f.thru (fun _ h => .inl h) fun a o es n e hd _ => by
    by_cases ha : a = c
    · subst ha
      rcases hc with hc | hc
      · exact hc
      · exact absurd hd (hc o e es n)
    · exact ⟨o, es, n, hs a o ha e, hd⟩

theorem Frs.atφ {A : Around} {B : Shared} {φ : List Addr} {h h' : Heap} {c : Addr} (f : Frs A B φ h) (hs : ∀ b o, b ≠ c → h.get? b = some o → h'.get? b = some o) (hc : c ∈ φ) : Frs A B φ h' :=
  f.thru (fun _ h => .inl h) fun a o es n e hd ha => ⟨o, es, n, hs a o (fun h => ha (h ▸ hc)) e, hd⟩

structure Loc (A : Around) (B : Shared) (env : Env) (ρ : List (Str × V)) (φ : List Addr) (h : Heap) : Prop where
  kind : env.scope.kind = .function
  glob : env.globals = mainGlobals
  blt : env.builtins = builtinsNs
  ns : ∃ m, h.Ns env.locals m
  own : ∀ a ∈ fr env, a ∉ φ ∧ B.heap.get? a = none
  cells : ∀ x c, (x, c) ∈ env.cells → ∃ v, h.IsCell c v
  apart : env.cells.Pairwise fun x y => x.2 ≠ y.2
  val : ∀ x v, ρ.lookup x = some v → ∃ val, Bnd env h x val ∧ Val φ h v val
  frs : Frs A B φ h
  top : ∃ e₀ r, A.frames = some (e₀ :: r) ∧ e₀.frame = env.frame

section
variable {prog : Program} {w : World} {B : Shared} {φ φ' : List Addr} {σ σ' : List AObj} {s s' : Shared} {env : Env} {ρ ρ' : List (Str × V)} {A : Around}

theorem Ns.upTo {h h' : Heap} {a : Addr} {m : Str → Option Value} (n : h.Ns a m) (hk : ∀ o, h.get? a = some o → ∃ o', h'.get? a = some o' ∧ Sim o o') : h'.Ns a m := by
  obtain ⟨o, es, ep, e, hd, r⟩ := n
  obtain ⟨o', e', hs⟩ := hk o e
  exact ⟨o', es, ep, e', hs.data.trans hd, r⟩
theorem IsCell.upTo {h h' : Heap} {a : Addr} {v : Option Value} (n : h.IsCell a v) (hk : ∀ o, h.get? a = some o → ∃ o', h'.get? a = some o' ∧ Sim o o') : h'.IsCell a v := by
  obtain ⟨o, e, hd⟩ := n
  obtain ⟨o', e', hs⟩ := hk o e
  exact ⟨o', e', hs.data.trans hd⟩
theorem mem_fr_cell {x : Str} {c : Addr} (h : (x, c) ∈ env.cells) : c ∈ fr env := List.mem_cons_of_mem _ (List.mem_map.mpr ⟨(x, c), h, rfl⟩)
/-- the frame's own objects lie in the heap -/
theorem Loc.there {h : Heap} (L : Loc A B env ρ φ h) {a : Addr} (ha : a ∈ fr env) : ∃ o, h.get? a = some o ∧ ¬ Still o := by
  rcases List.mem_cons.mp ha with rfl | ha
  · obtain ⟨m, o, es, ep, e, hd, _⟩ := L.ns
    exact ⟨o, e, notStill_dict hd⟩
  · obtain ⟨⟨x, c⟩, hm, rfl⟩ := List.mem_map.mp ha
    obtain ⟨v, o, e, hd⟩ := L.cells x c hm
    exact ⟨o, e, notStill_cell hd⟩

theorem Loc.step {h' : Heap} (L : Loc A B env ρ φ s.heap) (G : St prog w B φ σ s) (t : Step [] φ s.heap φ' h') : Loc A B env ρ φ' h' := by
  have hk : ∀ a ∈ fr env, ∀ o, s.heap.get? a = some o → ∃ o', h'.get? a = some o' ∧ Sim o o' := fun a ha o e => t.keep a o e (L.own a ha).1 (fun h => nomatch h)
  refine ⟨L.kind, L.glob, L.blt, ?_, fun a ha => ⟨fun h => ?_, (L.own a ha).2⟩, fun x c hm => ?_, L.apart, fun x v hx => ?_, L.frs.step t, L.top⟩
  · obtain ⟨m, n⟩ := L.ns; exact ⟨m, Ns.upTo n (hk _ (.head _))⟩
  · rcases t.fresh a h with h1 | h1
    · exact (L.own a ha).1 h1
    · obtain ⟨o, e, _⟩ := L.there ha; rw [e] at h1; cases h1
  · obtain ⟨v, n⟩ := L.cells x c hm; exact ⟨v, IsCell.upTo n (hk _ (mem_fr_cell hm))⟩
  · obtain ⟨val, hb, hv⟩ := L.val x v hx
    refine ⟨val, ?_, hv.step G t⟩
    rcases hb with ⟨k, m, n, e⟩ | ⟨k, c, e, n⟩
    · exact .inl ⟨k, m, Ns.upTo n (hk _ (.head _)), e⟩
    · exact .inr ⟨k, c, e, IsCell.upTo n (hk _ (mem_fr_cell (mem_of_lookup e)))⟩
theorem Loc.weaken {h : Heap} (L : Loc A B env ρ φ h) (hs : ∀ x v, ρ'.lookup x = some v → ρ.lookup x = some v) : Loc A B env ρ' φ h :=
  ⟨L.kind, L.glob, L.blt, L.ns, L.own, L.cells, L.apart, fun x v hx => L.val x v (hs x v hx), L.frs, L.top⟩

theorem fr_notStill {h : Heap} (L : Loc A B env ρ φ h) : ∀ a ∈ fr env, ∀ o, h.get? a = some o → ¬ Still o := fun a ha o e => by
  obtain ⟨o', e', hs⟩ := L.there ha
  rw [e'] at e; cases e; exact hs
end

abbrev XT := Value → List Addr → List AObj → Shared → Prop

section
variable (prog : Program) (w : World) (B : Shared)
def Post {α : Type} (D φ : List Addr) (s : Shared) (Q : α → List Addr → List AObj → Shared → Prop) : α → Shared → Prop :=
  fun a s' => ∃ φ' σ', Step D φ s.heap φ' s'.heap ∧ St prog w B φ' σ' s' ∧ Q a φ' σ' s'
def vQ (Q : V → List AObj → Prop) : Value → List Addr → List AObj → Shared → Prop := fun v φ' σ' s' => ∃ x, Val φ' s'.heap x v ∧ Q x σ'
def bQ {α : Type} (Q : α → List AObj → Prop) : α → List Addr → List AObj → Shared → Prop := fun b _ σ' _ => Q b σ'

/-- a computation from a state -/
def W {α : Type} (A : Around) (t : Sem α) (φ : List Addr) (s : Shared) (Q : α → List Addr → List AObj → Shared → Prop) (X : XT) : Prop :=
  wpAny (model prog w) A t (Post prog w B [] φ s Q) (Post prog w B [] φ s X) s
/-- an expression -/
def WE (A : Around) (env : Env) (e : Expr) (ρ : List (Str × V)) (σ : List AObj) (Q : V → List AObj → Prop) (X : XT) : Prop :=
  ∀ φ s, St prog w B φ σ s → Loc A B env ρ φ s.heap → W prog w B A (eval e env) φ s (vQ Q) X
/-- a test -/
def WT (A : Around) (env : Env) (e : Expr) (ρ : List (Str × V)) (σ : List AObj) (Q : Bool → List AObj → Prop) (X : XT) : Prop :=
  ∀ φ s, St prog w B φ σ s → Loc A B env ρ φ s.heap → W prog w B A (isTrue e env (eval e env)) φ s (bQ Q) X
/-- a row of expressions -/
def WEs (A : Around) (env : Env) (es : List Expr) (ρ : List (Str × V)) (σ : List AObj) (Q : List V → List AObj → Prop) (X : XT) : Prop :=
  ∀ pos φ s, St prog w B φ σ s → Loc A B env ρ φ s.heap → W prog w B A (spliced (backTo pos (starEach es env))) φ s (fun vs φ' σ' s' => ∃ xs, Vals φ' s'.heap xs vs ∧ Q xs σ') X
def W1 {α : Type} (A : Around) (t : Value → Sem α) (x : V) (σ : List AObj) (Q : α → List Addr → List AObj → Shared → Prop) (X : XT) : Prop :=
  ∀ φ s v, St prog w B φ σ s → Val φ s.heap x v → W prog w B A (t v) φ s Q X
def W2 (A : Around) (t : Value → Value → Sem Value) (x y : V) (σ : List AObj) (Q : V → List AObj → Prop) (X : XT) : Prop :=
  ∀ φ s v u, St prog w B φ σ s → Val φ s.heap x v → Val φ s.heap y u → W prog w B A (t v u) φ s (vQ Q) X
/-- a call -/
def WC (A : Around) (f : Value) (xs : List V) (σ : List AObj) (Q : V → List AObj → Prop) (X : XT) : Prop :=
  ∀ φ s vs, St prog w B φ σ s → Frs A B φ s.heap → Vals φ s.heap xs vs → W prog w B A (call f vs) φ s (vQ Q) X
end

section
variable {prog : Program} {w : World} {B : Shared} {φ φ₁ : List Addr} {σ : List AObj} {s s₁ : Shared} {env : Env} {ρ : List (Str × V)} {A : Around} {X : XT}

theorem Post.trans {α : Type} {Q : α → List Addr → List AObj → Shared → Prop} {a : α} {s' : Shared} (t : Step [] φ s.heap φ₁ s₁.heap) (h : Post prog w B [] φ₁ s₁ Q a s') : Post prog w B [] φ s Q a s' := by
  obtain ⟨φ', σ', t', G', q⟩ := h
  exact ⟨φ', σ', t.trans0 t', G', q⟩
/-- use of a computation in a later state -/
theorem W.use {α : Type} {t : Sem α} {Q : α → List Addr → List AObj → Shared → Prop} {R : α → Shared → Prop} (h : W prog w B A t φ₁ s₁ Q X) (t₁ : Step [] φ s.heap φ₁ s₁.heap)
    (k : ∀ a s₂ φ₂ σ₂, Step [] φ₁ s₁.heap φ₂ s₂.heap → Step [] φ s.heap φ₂ s₂.heap → St prog w B φ₂ σ₂ s₂ → Q a φ₂ σ₂ s₂ → R a s₂) : wpAny (model prog w) A t R (Post prog w B [] φ s X) s₁ :=
  wpAny_mono h (fun a s₂ ⟨φ₂, σ₂, t₂, G₂, q⟩ => k a s₂ φ₂ σ₂ t₂ (t₁.trans0 t₂) G₂ q) fun e s' hx => hx.trans t₁
theorem W.useV {t : Sem Value} {Q : V → List AObj → Prop} {R : Value → Shared → Prop} (h : W prog w B A t φ₁ s₁ (vQ Q) X) (t₁ : Step [] φ s.heap φ₁ s₁.heap)
    (k : ∀ a s₂ φ₂ σ₂, Step [] φ₁ s₁.heap φ₂ s₂.heap → Step [] φ s.heap φ₂ s₂.heap → St prog w B φ₂ σ₂ s₂ → ∀ x, Val φ₂ s₂.heap x a → Q x σ₂ → R a s₂) : wpAny (model prog w) A t R (Post prog w B [] φ s X) s₁ :=
  h.use t₁ fun a s₂ φ₂ σ₂ t₂ t G q => q.elim fun x h => k a s₂ φ₂ σ₂ t₂ t G x h.1 h.2
theorem W.last {α : Type} {t : Sem α} {Q : α → List Addr → List AObj → Shared → Prop} (h : W prog w B A t φ₁ s₁ Q X) (t₁ : Step [] φ s.heap φ₁ s₁.heap) : wpAny (model prog w) A t (Post prog w B [] φ s Q) (Post prog w B [] φ s X) s₁ :=
  h.use t₁ fun _ _ _ _ _ t G q => ⟨_, _, t, G, q⟩
/-- an end without a change -/
theorem Post.here {α : Type} {Q : α → List Addr → List AObj → Shared → Prop} {a : α} (G : St prog w B φ σ s) (q : Q a φ σ s) : Post prog w B [] φ s Q a s := ⟨φ, σ, .refl .., G, q⟩
theorem St.toks (G : St prog w B φ σ s) (t : Nat) : St prog w B φ σ { s with toks := t } := G.keeps fun _ _ e => e
theorem Post.tok {α : Type} {Q : α → List Addr → List AObj → Shared → Prop} {a : α} {t : Nat} (G : St prog w B φ σ s) (q : Q a φ σ { s with toks := t }) : Post prog w B [] φ s Q a { s with toks := t } := ⟨φ, σ, .refl .., G.toks t, q⟩

theorem W.mono {α : Type} {t : Sem α} {Q Q' : α → List Addr → List AObj → Shared → Prop} (h : W prog w B A t φ s Q X) (hq : ∀ a φ' σ' s', Q a φ' σ' s' → Q' a φ' σ' s') : W prog w B A t φ s Q' X :=
  wpAny_mono h (fun _ _ ⟨φ', σ', t, G, q⟩ => ⟨φ', σ', t, G, hq _ _ _ _ q⟩) fun _ _ x => x
theorem WC.mono {f : Value} {xs : List V} {Q Q' : V → List AObj → Prop} (h : WC prog w B A f xs σ Q X) (hq : ∀ x σ', Q x σ' → Q' x σ') : WC prog w B A f xs σ Q' X :=
  fun φ s vs G FR hv => (h φ s vs G FR hv).mono fun _ _ _ _ ⟨x, hx, q⟩ => ⟨x, hx, hq _ _ q⟩
theorem WE.mono {e : Expr} {Q Q' : V → List AObj → Prop} (h : WE prog w B A env e ρ σ Q X) (hq : ∀ x σ', Q x σ' → Q' x σ') : WE prog w B A env e ρ σ Q' X :=
  fun φ s G L => (h φ s G L).mono fun _ _ _ _ ⟨x, hx, q⟩ => ⟨x, hx, hq _ _ q⟩

/-! expressions -/
theorem E_int {i : Int} {k : Nat} {pos : Pos} {Q : V → List AObj → Prop} (q : Q (.int i) σ) : WE prog w B A env (.Constant (.int i) k pos) ρ σ Q X :=
  fun φ s G _ => wpAny_Constant_int (Post.tok G ⟨.int i, by rw [Val]; exact ⟨_, rfl⟩, q⟩)
theorem E_str {x : Str} {k : Nat} {pos : Pos} {Q : V → List AObj → Prop} (q : Q (.str x) σ) : WE prog w B A env (.Constant (.str x) k pos) ρ σ Q X :=
  fun φ s G _ => Calls.Constant_str (Post.tok G ⟨.str x, by rw [Val]; exact ⟨_, rfl⟩, q⟩)
theorem E_bool {b : Bool} {k : Nat} {pos : Pos} {Q : V → List AObj → Prop} (q : Q (.bool b) σ) : WE prog w B A env (.Constant (.bool b) k pos) ρ σ Q X :=
  fun φ s G _ => wpAny_Constant_bool (Post.here G ⟨.bool b, by rw [Val], q⟩)
theorem loadName_Bnd {x : Str} {val : Value} {Q : Value → Shared → Prop} {E : Value → Shared → Prop} {M : Model} (hk : env.scope.kind = .function) (hb : Bnd env s.heap x val) (q : Q val s) (hn : (x == ("__classdict__" : Str)) = false := by decide) :
    wpAny M A (loadName env x) Q E s := by
  rcases hb with ⟨k, m, n, e⟩ | ⟨k | k, c, e, n⟩
  · exact wpAny_loadName_local hk k n e q
  · exact wpAny_loadName_cell hk k e n q
  · exact wpAny_loadName_free hk k e n q hn
theorem E_name {x : Str} {pos : Pos} {v : V} {Q : V → List AObj → Prop} (hx : ρ.lookup x = some v) (q : Q v σ) (hd : (x == ("__debug__" : Str)) = false := by decide) (hn : (x == ("__classdict__" : Str)) = false := by decide) :
    WE prog w B A env (.Name x pos) ρ σ Q X := fun φ s G L => by
  obtain ⟨val, hb, hv⟩ := L.val x v hx
  exact wpAny_Name (loadName_Bnd L.kind hb (Post.here G ⟨v, hv, q⟩) hn) hd
theorem E_global {x : Str} {pos : Pos} {mg : Str → Option Value} {v : Value} {y : V} {Q : V → List AObj → Prop} (hg : B.heap.Ns mainGlobals mg) (hv : mg x = some v) (hy : Val [] B.heap y v) (hx : env.kindOf x = some .globalImplicit) (q : Q y σ)
    (hd : (x == ("__debug__" : Str)) = false := by decide) : WE prog w B A env (.Name x pos) ρ σ Q X := fun φ s G L => by
  refine Name_function_global L.kind hx (loadGlobal_global (mg := mg) (L.glob ▸ hg.keeps G.base) hv (Post.here G ⟨y, ?_, q⟩)) hd
  exact Val.mono (List.nil_prefix) (fun a o e _ => G.base a o e) y hy
theorem E_builtin {x : Str} {pos : Pos} {mg mb : Str → Option Value} {v : Value} {Q : V → List AObj → Prop} (hg : B.heap.Ns mainGlobals mg) (hmiss : mg x = none) (hb : B.heap.Ns builtinsNs mb) (hv : mb x = some v) (hx : env.kindOf x = some .globalImplicit) (q : Q (.raw v) σ)
    (hd : (x == ("__debug__" : Str)) = false := by decide) : WE prog w B A env (.Name x pos) ρ σ Q X := fun φ s G L => by
  refine Name_function_global L.kind hx (loadGlobal_builtin (mg := mg) (mb := mb) (L.glob ▸ hg.keeps G.base) hmiss (L.blt ▸ hb.keeps G.base) hv (Post.here G ⟨.raw v, by rw [Val], q⟩)) hd

theorem E_bin {l r : Expr} {op : Operator} {pos : Pos} {Q : V → List AObj → Prop}
    (h : WE prog w B A env l ρ σ (fun x σ₁ => WE prog w B A env r ρ σ₁ (fun y σ₂ => W2 prog w B A (binaryOp op) x y σ₂ Q X) X) X) : WE prog w B A env (.BinOp l op r pos) ρ σ Q X := fun φ s G L =>
  wpAny_BinOp ((h φ s G L).useV (.refl ..) fun a s₁ φ₁ σ₁ t₁ _ G₁ x hx h₁ => (h₁ φ₁ s₁ G₁ (L.step G t₁)).useV t₁ fun b s₂ φ₂ σ₂ t₂ t G₂ y hy h₂ => (h₂ φ₂ s₂ a b G₂ (hx.step G₁ t₂) hy).last t)
theorem E_cmp1 {l r : Expr} {op : CmpOp} {pos : Pos} {Q : V → List AObj → Prop}
    (h : WE prog w B A env l ρ σ (fun x σ₁ => WE prog w B A env r ρ σ₁ (fun y σ₂ => W2 prog w B A (compareOp op) x y σ₂ Q X) X) X) (hm : behindInMarks op r = false := by with_unfolding_all rfl) :
    WE prog w B A env (.Compare l [op] [r] pos) ρ σ Q X := fun φ s G L =>
  wpAny_Compare1 ((h φ s G L).useV (.refl ..) fun a s₁ φ₁ σ₁ t₁ _ G₁ x hx h₁ => (h₁ φ₁ s₁ G₁ (L.step G t₁)).useV t₁ fun b s₂ φ₂ σ₂ t₂ t G₂ y hy h₂ => (h₂ φ₂ s₂ a b G₂ (hx.step G₁ t₂) hy).last t) hm
theorem E_un {x : Expr} {op : UnaryOp} {pos : Pos} {Q : V → List AObj → Prop}
    (h : WE prog w B A env x ρ σ (fun x σ₁ => W1 prog w B A (unaryOp op) x σ₁ (vQ Q) X) X) : WE prog w B A env (.UnaryOp op x pos) ρ σ Q X := fun φ s G L =>
  wpAny_UnaryOp ((h φ s G L).useV (.refl ..) fun a s₁ φ₁ σ₁ t₁ _ G₁ x hx h₁ => (h₁ φ₁ s₁ a G₁ hx).last t₁)
theorem E_ifexp {test body orelse : Expr} {pos : Pos} {Q : V → List AObj → Prop}
    (h : WT prog w B A env test ρ σ (fun b σ₁ => if b then WE prog w B A env body ρ σ₁ Q X else WE prog w B A env orelse ρ σ₁ Q X) X) : WE prog w B A env (.IfExp test body orelse pos) ρ σ Q X := fun φ s G L =>
  wpAny_IfExp ((h φ s G L).use (.refl ..) fun b s₁ φ₁ σ₁ t₁ _ G₁ h₁ => by
    cases b
    · exact (h₁ φ₁ s₁ G₁ (L.step G t₁)).last t₁
    · exact (h₁ φ₁ s₁ G₁ (L.step G t₁)).last t₁)
/-! tests -/
theorem T_value {e : Expr} {Q : Bool → List AObj → Prop} (h : WE prog w B A env e ρ σ (fun v σ₁ => W1 prog w B A truthy v σ₁ (bQ Q) X) X)
    (he : ∀ whole, isTrue e env whole = (do let v ← whole; standAt e.pos; holding [v] (truthy v)) := by intro _; with_unfolding_all rfl) : WT prog w B A env e ρ σ Q X := fun φ s G L =>
  wpAny_isTrue_value ((h φ s G L).useV (.refl ..) fun a s₁ φ₁ σ₁ t₁ _ G₁ x hx h₁ => (h₁ φ₁ s₁ a G₁ hx).last t₁) (he _)
theorem T_not {e : Expr} {pos : Pos} {Q : Bool → List AObj → Prop} (h : WT prog w B A env e ρ σ (fun b σ₁ => Q (!b) σ₁) X) : WT prog w B A env (.UnaryOp .Not e pos) ρ σ Q X := fun φ s G L =>
  wpAny_isTrue_Not ((h φ s G L).use (.refl ..) fun b s₁ φ₁ σ₁ t₁ _ G₁ h₁ => ⟨_, _, t₁, G₁, h₁⟩)
theorem T_cmp1 {l r : Expr} {op : CmpOp} {pos : Pos} {Q : Bool → List AObj → Prop}
    (h : WE prog w B A env l ρ σ (fun x σ₁ => WE prog w B A env r ρ σ₁ (fun y σ₂ => W2 prog w B A (compareOp op) x y σ₂ (fun z σ₃ => W1 prog w B A truthy z σ₃ (bQ Q) X) X) X) X) (hm : behindInMarks op r = false := by with_unfolding_all rfl) :
    WT prog w B A env (.Compare l [op] [r] pos) ρ σ Q X := fun φ s G L =>
  wpAny_isTrue_Compare1 ((h φ s G L).useV (.refl ..) fun a s₁ φ₁ σ₁ t₁ _ G₁ x hx h₁ => (h₁ φ₁ s₁ G₁ (L.step G t₁)).useV t₁ fun b s₂ φ₂ σ₂ t₂ t G₂ y hy h₂ => (h₂ φ₂ s₂ a b G₂ (hx.step G₁ t₂) hy).use t
    fun c s₃ φ₃ σ₃ t₃ t' G₃ ⟨z, hz, h₃⟩ => (h₃ φ₃ s₃ c G₃ hz).last t') hm
/-- all | any of a row of tests -/
def WTs (prog : Program) (w : World) (B : Shared) (A : Around) (env : Env) (op : BoolOp) (es : List Expr) (ρ : List (Str × V)) (σ : List AObj) (Q : Bool → List AObj → Prop) (X : XT) : Prop :=
  ∀ φ s, St prog w B φ σ s → Loc A B env ρ φ s.heap → W prog w B A (allTrue op es env) φ s (bQ Q) X
theorem T_bool {op : BoolOp} {es : List Expr} {pos : Pos} {Q : Bool → List AObj → Prop} (h : WTs prog w B A env op es ρ σ Q X) : WT prog w B A env (.BoolOp op es pos) ρ σ Q X := fun φ s G L => wpAny_isTrue_BoolOp (h φ s G L)
theorem Ts_and_nil {Q : Bool → List AObj → Prop} (q : Q true σ) : WTs prog w B A env .And [] ρ σ Q X := fun φ s G _ => wpAny_allTrue_And_nil (Post.here G q)
theorem Ts_or_nil {Q : Bool → List AObj → Prop} (q : Q false σ) : WTs prog w B A env .Or [] ρ σ Q X := fun φ s G _ => wpAny_allTrue_Or_nil (Post.here G q)
theorem Ts_and {e : Expr} {es : List Expr} {Q : Bool → List AObj → Prop} (h : WT prog w B A env e ρ σ (fun b σ₁ => if b then WTs prog w B A env .And es ρ σ₁ Q X else Q false σ₁) X) : WTs prog w B A env .And (e :: es) ρ σ Q X := fun φ s G L =>
  wpAny_allTrue_And_cons ((h φ s G L).use (.refl ..) fun b s₁ φ₁ σ₁ t₁ _ G₁ h₁ => by
    cases b
    · exact ⟨_, _, t₁, G₁, h₁⟩
    · exact (h₁ φ₁ s₁ G₁ (L.step G t₁)).last t₁)
theorem Ts_or {e : Expr} {es : List Expr} {Q : Bool → List AObj → Prop} (h : WT prog w B A env e ρ σ (fun b σ₁ => if b then Q true σ₁ else WTs prog w B A env .Or es ρ σ₁ Q X) X) : WTs prog w B A env .Or (e :: es) ρ σ Q X := fun φ s G L =>
  wpAny_allTrue_Or_cons ((h φ s G L).use (.refl ..) fun b s₁ φ₁ σ₁ t₁ _ G₁ h₁ => by
    cases b
    · exact (h₁ φ₁ s₁ G₁ (L.step G t₁)).last t₁
    · exact ⟨_, _, t₁, G₁, h₁⟩)

/-! rows of expressions -/
theorem Es_nil {Q : List V → List AObj → Prop} (q : Q [] σ) : WEs prog w B A env [] ρ σ Q X := fun pos φ s G _ => spliced_nil (Post.here G ⟨[], .nil, q⟩)
theorem Es_cons {e : Expr} {es : List Expr} {Q : List V → List AObj → Prop} (h : WE prog w B A env e ρ σ (fun x σ₁ => WEs prog w B A env es ρ σ₁ (fun xs σ₂ => Q (x :: xs) σ₂) X) X)
    (hs : ∀ r, starEach (e :: r) env = (false, eval e env) :: starEach r env := by intro _; with_unfolding_all rfl) : WEs prog w B A env (e :: es) ρ σ Q X := fun pos φ s G L => by
  rw [hs]
  show wpAny _ _ (spliced ((false, _) :: backTo pos (starEach es env))) _ _ _
  refine spliced_cons ?_
  show wpAny _ _ (eval e env) _ _ _
  refine (h φ s G L).useV (.refl ..) fun a s₁ φ₁ σ₁ t₁ _ G₁ x hx h₁ => ?_
  exact (h₁ pos φ₁ s₁ G₁ (L.step G t₁)).use t₁ fun vs s₂ φ₂ σ₂ t₂ t G₂ ⟨xs, hxs, q⟩ => ⟨_, _, t, G₂, x :: xs, .cons (hx.step G₁ t₂) hxs, q⟩

/-- a new tuple -/
theorem E_tuple {es : List Expr} {k : Nat} {pos : Pos} {Q : V → List AObj → Prop} (h : WEs prog w B A env es ρ σ (fun xs σ₁ => xs.length ≤ sizeLine ∧ Q (.tup xs) σ₁) X) : WE prog w B A env (.Tuple es k pos) ρ σ Q X := fun φ s G L =>
  wpAny_Tuple_spliced ((h pos φ s G L).use (.refl ..) fun vs s₁ φ₁ σ₁ t₁ _ G₁ ⟨xs, hxs, hl, q⟩ => ⟨hxs.length ▸ hl, by
    have hk : ∀ b o, s₁.heap.get? b = some o → (s₁.heap.push { cls := .type "tuple", data := .seq vs.toArray }).get? b = some o := fun b o e => Heap.get?_push_of_some _ e
    refine ⟨φ₁, σ₁, t₁.trans0 (.of_keeps hk), G₁.keeps hk, .tup xs, ?_, q⟩
    rw [Val]
    exact ⟨_, vs.toArray, rfl, ⟨_, Heap.get?_push_size _ rfl, rfl, _, rfl⟩, by simpa using hxs.step G₁ (.of_keeps hk)⟩⟩)
/-- a new list -/
theorem E_list {es : List Expr} {pos : Pos} {Q : V → List AObj → Prop} (h : WEs prog w B A env es ρ σ (fun xs σ₁ => xs.length ≤ sizeLine ∧ Q (.ref σ₁.length) (σ₁ ++ [.list xs])) X) : WE prog w B A env (.List es pos) ρ σ Q X := fun φ s G L =>
  wpAny_List_spliced ((h pos φ s G L).use (.refl ..) fun vs s₁ φ₁ σ₁ t₁ _ G₁ ⟨xs, hxs, hl, q⟩ => ⟨hxs.length ▸ hl, by
    have hk : ∀ b o, s₁.heap.get? b = some o → (s₁.heap.push { cls := .type "list", data := .seq vs.toArray }).get? b = some o := fun b o e => Heap.get?_push_of_some _ e
    have hc := get?_size s₁.heap
    have t₂ : Step [] φ₁ s₁.heap (φ₁ ++ [s₁.heap.objs.size]) (s₁.heap.push { cls := .type "list", data := .seq vs.toArray }) := Step.alloc (s' := { s₁ with heap := s₁.heap.push { cls := .type "list", data := .seq vs.toArray } }) hc hk
    refine ⟨φ₁ ++ [s₁.heap.objs.size], σ₁ ++ [.list xs], t₁.trans0 t₂, G₁.alloc (ob := .list xs) hc hk ⟨vs.toArray, 0, Heap.get?_push_size _ rfl, by simpa using hxs.step G₁ t₂⟩ G₁.fresh G₁.sizeNe, .ref σ₁.length, ?_, q⟩
    rw [Val, ← G₁.len]
    exact ⟨_, rfl, by simp⟩⟩)
end
end Mine

set_option autoImplicit false
set_option linter.unusedVariables false
namespace Mine
open PySem PySem.Calls PyProof.Rows

theorem dict_mapFields (f : Array Value → Array Value) (o : Obj) : (Obj.mapFields f o).dict = o.dict := by
  obtain ⟨c, d, dt, sl⟩ := o
  cases dt <;> rfl
/-- the traceback stands where the exception says -/
def TbOk (σ : List AObj) (t : Option Nat) : Prop := ∀ k, t = some k → σ[k]? = some .tb
/-- an exception of an own class flies; ahead of it stands τ -/
def xQ (R : Addr → List AObj → Prop) : XT := fun e φ' σ' _ => ∃ C t τ junk a, σ' = τ ++ .exc C t :: junk ∧ TbOk σ' t ∧ e = .ref a ∧ φ'[τ.length]? = some a ∧ R C τ
/-- the frame stands too -/
def xL (A : Around) (B : Shared) (env : Env) (l : List (Str × V)) (X : XT) : XT := fun e φ' σ' s' => X e φ' σ' s' ∧ Loc A B env l φ' s'.heap

section
variable {prog : Program} {w : World} {B : Shared} {φ φ₁ : List Addr} {σ τ junk : List AObj} {s s₁ : Shared} {env : Env} {ρ : List (Str × V)} {A : Around} {X : XT} {C : Addr} {t : Option Nat} {ea : Addr} {E : Value → Shared → Prop}

theorem St.butL {s' : Shared} {own : List Addr} (G : St prog w B φ σ s) (hs : ∀ b o, b ∉ own → s.heap.get? b = some o → s'.heap.get? b = some o) (hc : ∀ c ∈ own, c ∉ φ) (hb : ∀ c ∈ own, B.heap.get? c = none) (hn : ∀ c ∈ own, ∀ o, s.heap.get? c = some o → ¬ Still o)
    (hg : s'.gens = s.gens := by rfl) (ho : s'.os = s.os := by rfl) : St prog w B φ σ s' := by
  refine ⟨fun b o e => hs b o (fun h => by rw [hb b h] at e; cases e) (G.base b o e), G.new, G.nodup, G.len, fun k a ob h1 h2 => ?_, hg.trans G.gens, ho.trans G.os, G.sys⟩
  refine (G.objs k a ob h1 h2).mono (List.prefix_refl _) (fun a o e hst => hs a o (fun h => hn a h o e hst) e) fun o e => hs a o (fun h => hc a h (List.mem_of_getElem? h1)) e

theorem FrOk.fun_ {h : Heap} : ∀ {l : List Env}, (∀ e ∈ l, FrOk B φ h e) → h.FunFrames B.heap l
  | [], _ => trivial
  | e :: r, f => by
    obtain ⟨h1, L, o, es, n, h2, h3, h4, h5, h6⟩ := f e (.head _)
    exact ⟨h1, ⟨L, o, h2, h4, h5, fun vs q => by rw [h6] at q; cases q⟩, FrOk.fun_ fun e he => f e (.tail _ he)⟩

/-- the frame's object is taken: slots alone change -/
theorem frameOf_W {Q : Value → Shared → Prop} (G : St prog w B φ σ s) (L : Loc A B env ρ φ s.heap)
    (k : ∀ F h', env.frame = some F → Step [] φ s.heap φ h' → St prog w B φ σ { s with heap := h' } → Q (.ref F) { s with heap := h' }) : wpAny (model prog w) A (frameOf env) Q E s := by
  obtain ⟨l, hl, hf⟩ := L.frs
  obtain ⟨e₀, r, h0, h1⟩ := L.top
  rw [hl] at h0; cases h0
  obtain ⟨_, F, o, es, n, hF, _⟩ := hf e₀ (.head _)
  unfold PySem.frameOf
  refine wpAny_bind (wpAny_frameEnvs hl ?_)
  have hdw : ((e₀ :: r).dropWhile fun x => x.frame != env.frame) = e₀ :: r := by simp [List.dropWhile, h1]
  rw [hdw]
  unfold frameObject
  refine wpAny_bind (wpAny_bind (wpAny_readyFrames_fun (FrOk.fun_ hf) fun h₁ hs => wpAny_pure ?_))
  rw [hF]
  have hm : ∀ c ∈ (e₀ :: r).filterMap (·.frame), c ∉ φ ∧ B.heap.get? c = none ∧ ∃ o es n, s.heap.get? c = some o ∧ o.data = .dict es n := fun c hc => by
    obtain ⟨e, he, hc⟩ := List.mem_filterMap.mp hc
    obtain ⟨_, L, o, es, n, h2, h3, h4, h5, h6⟩ := hf e he
    rw [h2] at hc; cases hc
    exact ⟨h3, h4, o, es, n, h5, h6⟩
  refine wpAny_pure (k F h₁ (h1 ▸ hF) ⟨List.prefix_refl _, fun _ h => .inl h, fun b o e h1 _ => ?_⟩ (G.butL (s' := { s with heap := h₁ }) (fun b o hb e => (hs.2.1 b hb).trans e) (fun c hc => (hm c hc).1) (fun c hc => (hm c hc).2.1) fun c hc o e => ?_))
  · by_cases hb : b ∈ (e₀ :: r).filterMap (·.frame)
    · obtain ⟨_, _, o', es, n, e', hd⟩ := hm b hb
      rw [e'] at e; cases e
      obtain ⟨sl, e2⟩ := hs.2.2 b _ e'
      exact ⟨_, e2, .inr ⟨fun h => h es n hd, rfl, rfl, rfl⟩⟩
    · exact ⟨o, (hs.2.1 b hb).trans e, .refl o⟩
  · obtain ⟨_, _, o', es, n, e', hd⟩ := hm c hc
    rw [e'] at e; cases e
    exact notStill_dict hd

theorem St.exc_ (G : St prog w B φ (τ ++ .exc C t :: junk) s) (ha : φ[τ.length]? = some ea) : ObjR prog w φ s.heap ea (.exc C t) :=
  G.objs _ _ _ ha (by simp)

theorem idx_up {k : Nat} {a : Addr} (c : Addr) (h : φ[k]? = some a) : (φ ++ [c])[k]? = some a := by
  rw [List.getElem?_append_left (List.getElem?_eq_some_iff.mp h).1]; exact h

/-- the place of the frame is put into the exception's traceback -/
theorem note_tail {Q : Unit → Shared → Prop} {head : Value} {b : Bool} {F : Addr} (hF : env.frame = some F) (G : St prog w B φ (τ ++ .exc C t :: junk) s) (L : Loc A B env ρ φ s.heap) (ha : φ[τ.length]? = some ea)
    (k : ∀ φ' t' junk' h', Step [] φ s.heap φ' h' → TbOk (τ ++ .exc C (some t') :: junk') (some t') → φ'[τ.length]? = some ea → St prog w B φ' (τ ++ .exc C (some t') :: junk') { s with heap := h' } → Q () { s with heap := h' }) :
    wpAny (model prog w) A (do setField (.ref ea) 1 (← EntryCells.newEntry head (← frameOf env) .none (rawInt F) .none (← entryPlaceOf F b))) Q E s := by
  refine wpAny_bind (frameOf_W G L fun F' h₁ hF' t₁ G₁ => ?_)
  rw [hF] at hF'; cases hF'
  refine wpAny_bind (wpAny_entryPlaceOf fun pl hpl => ?_)
  unfold EntryCells.newEntry newFields
  refine wpAny_bind (wpAny_newObj_type ?_ (hpl.sizeOk5 _ _ _ _ _))
  obtain ⟨o, vs, e1, hc, hd, ht⟩ := G₁.exc_ ha
  dsimp only at e1
  have hsz : 1 < vs.size := by
    cases t with
    | none => exact (Array.getElem?_eq_some_iff.mp ht).1
    | some j => obtain ⟨T, ht, _⟩ := ht; exact (Array.getElem?_eq_some_iff.mp ht).1
  generalize hob : ({ cls := .type "traceback", dict := none, data := .fields ([head, .ref F, .none, rawInt F, .none] ++ (if pl.isEmpty then List.replicate 6 Value.none else pl)).toArray } : Obj) = ob
  have hk2 : ∀ b o, h₁.get? b = some o → (h₁.push ob).get? b = some o := fun b o e => Heap.get?_push_of_some _ e
  have hnew : (h₁.push ob).get? h₁.objs.size = some ob := Heap.get?_push_size _ (by subst hob; rfl)
  have G₂ : St prog w B (φ ++ [h₁.objs.size]) (τ ++ .exc C t :: junk ++ [.tb]) { s with heap := h₁.push ob } :=
    G₁.alloc (s' := { s with heap := h₁.push ob }) (get?_size _) hk2 (by subst hob; exact ⟨_, _, rawInt F, hnew, rfl, rfl, by simp⟩) G₁.fresh G₁.sizeNe
  have t₂ : Step [] φ h₁ (φ ++ [h₁.objs.size]) (h₁.push ob) := Step.alloc (s := { s with heap := h₁ }) (s' := { s with heap := h₁.push ob }) (get?_size _) hk2
  have ha2 := idx_up h₁.objs.size ha
  have he2 := hk2 _ _ e1
  refine wpAny_setField he2 hd hsz ?_
  have hd3 := Obj.data_mapFields hd (·.setIfInBounds 1 (Value.ref h₁.objs.size))
  have he3 := Heap.get?_update_self (Obj.mapFields (·.setIfInBounds 1 (Value.ref h₁.objs.size))) he2 (Obj.isFreed_of_fields hd3)
  have hsb : Heap.SameBut ea (h₁.push ob) ((h₁.push ob).update ea (Obj.mapFields (·.setIfInBounds 1 (Value.ref h₁.objs.size)))) := Heap.SameBut.update ..
  have hlen : φ.length = (τ ++ AObj.exc C t :: junk).length := G.len
  have hidx : (φ ++ [h₁.objs.size])[(τ ++ AObj.exc C t :: junk).length]? = some h₁.objs.size := by rw [← hlen]; simp
  have G₃ := G₂.update (s' := { s with heap := (h₁.push ob).update ea (Obj.mapFields (·.setIfInBounds 1 (Value.ref h₁.objs.size))) }) (ob := .exc C (some (τ ++ AObj.exc C t :: junk).length)) ha2 hsb
    ⟨_, _, he3, ⟨(Obj.cls_mapFields _ _).trans hc.1, (dict_mapFields _ _).trans hc.2⟩, hd3, _, by simp [hsz], hidx⟩
  have es : (τ ++ AObj.exc C t :: junk ++ [AObj.tb]).set τ.length (.exc C (some (τ ++ AObj.exc C t :: junk).length)) = τ ++ .exc C (some (τ ++ AObj.exc C t :: junk).length) :: (junk ++ [.tb]) := by
    rw [List.append_assoc, List.set_append_right _ _ (Nat.le_refl _), Nat.sub_self]; rfl
  rw [es] at G₃
  refine k _ _ _ _ (t₁.trans0 (t₂.trans0 (Step.update hsb (List.mem_of_getElem? ha2)))) (fun j hj => ?_) ha2 G₃
  cases hj
  rw [List.getElem?_append_right (by simp)]
  simp [Nat.add_sub_cancel_left]

/-- an exception is noted in its frame -/
theorem note_W {Q : Unit → Shared → Prop} (G : St prog w B φ (τ ++ .exc C t :: junk) s) (htb : TbOk (τ ++ .exc C t :: junk) t) (L : Loc A B env ρ φ s.heap) (ha : φ[τ.length]? = some ea)
    (k : ∀ φ' t' junk' h', Step [] φ s.heap φ' h' → TbOk (τ ++ .exc C (some t') :: junk') (some t') → φ'[τ.length]? = some ea → St prog w B φ' (τ ++ .exc C (some t') :: junk') { s with heap := h' } → Q () { s with heap := h' }) :
    wpAny (model prog w) A (noteFrame (.ref ea) env) Q E s := by
  have hF : ∃ F, env.frame = some F := by
    obtain ⟨l, hl, hf⟩ := L.frs
    obtain ⟨e₀, r, h0, h1⟩ := L.top
    rw [hl] at h0; cases h0
    obtain ⟨_, F, _, _, _, hF, _⟩ := hf e₀ (.head _)
    exact ⟨F, h1 ▸ hF⟩
  obtain ⟨F, hF⟩ := hF
  obtain ⟨o, vs, e1, hc, hd, ht⟩ := G.exc_ ha
  unfold noteFrame
  simp only [hF]
  cases t with
  | none =>
    refine wpAny_bind (wpAny_field e1 hd ht ?_)
    rw [if_neg (by decide)]
    exact note_tail hF G L ha k
  | some j =>
    obtain ⟨T, ht, hT⟩ := ht
    refine wpAny_bind (wpAny_field e1 hd ht ?_)
    rw [if_pos (show (Value.ref T != Value.none) = true from by simp)]
    obtain ⟨oT, ts, x, eT, hcT, hdT, h3⟩ := G.objs _ _ _ hT (htb j rfl)
    refine wpAny_bind (wpAny_field eT hdT h3 ?_)
    by_cases hx : (x == rawInt F) = true
    · rw [if_pos hx]
      exact wpAny_pure (k φ j junk s.heap (.refl ..) htb ha G)
    · rw [if_neg hx]
      refine wpAny_bind (wpAny_setField eT hdT (Array.getElem?_eq_some_iff.mp h3).1 ?_)
      have hd3 := Obj.data_mapFields hdT (·.setIfInBounds 3 Value.none)
      have he3 := Heap.get?_update_self (Obj.mapFields (·.setIfInBounds 3 Value.none)) eT (Obj.isFreed_of_fields hd3)
      have hsb : Heap.SameBut T s.heap (s.heap.update T (Obj.mapFields (·.setIfInBounds 3 Value.none))) := Heap.SameBut.update ..
      have G₁ := G.update (s' := { s with heap := s.heap.update T (Obj.mapFields (·.setIfInBounds 3 Value.none)) }) (ob := .tb) hT hsb ⟨_, _, .none, he3, (Obj.cls_mapFields _ _).trans hcT, hd3, by simp [(Array.getElem?_eq_some_iff.mp h3).1]⟩
      have es : (τ ++ AObj.exc C (some j) :: junk).set j .tb = τ ++ AObj.exc C (some j) :: junk := by
        have hj := htb j rfl
        obtain ⟨hlt, he⟩ := List.getElem?_eq_some_iff.mp hj
        refine List.ext_getElem? fun i => ?_
        by_cases hi : i = j
        · subst hi; rw [List.getElem?_set_self hlt, hj]
        · rw [List.getElem?_set_ne (Ne.symm hi)]
      rw [es] at G₁
      have t₁ : Step [] φ s.heap φ (s.heap.update T (Obj.mapFields (·.setIfInBounds 3 Value.none))) := Step.update hsb (List.mem_of_getElem? hT)
      exact note_tail (s := { s with heap := s.heap.update T (Obj.mapFields (·.setIfInBounds 3 Value.none)) }) hF G₁ (L.step G t₁) ha fun φ' t' junk' h' t₂ hb ha' G' => k φ' t' junk' h' (t₁.trans0 t₂) hb ha' G'

theorem flight_W {Q : Unit → Shared → Prop} {j : Nat} {fr : Option Addr} (G : St prog w B φ (τ ++ .exc C (some j) :: junk) s) (htb : TbOk (τ ++ .exc C (some j) :: junk) (some j)) (ha : φ[τ.length]? = some ea)
    (k : ∀ h', Step [] φ s.heap φ h' → St prog w B φ (τ ++ .exc C (some j) :: junk) { s with heap := h' } → Q () { s with heap := h' }) :
    wpAny (model prog w) A (setFlight (.ref ea) fr) Q E s := by
  obtain ⟨o, vs, e1, hc, hd, T, ht, hT⟩ := G.exc_ ha
  obtain ⟨oT, ts, x, eT, hcT, hdT, h3⟩ := G.objs _ _ _ hT (htb j rfl)
  unfold setFlight
  refine wpAny_bind (wpAny_field e1 hd ht ?_)
  rw [if_pos (show (Value.ref T != Value.none) = true from by simp)]
  generalize (fr.elim Value.none fun f => rawInt f) = u
  refine wpAny_setField eT hdT (Array.getElem?_eq_some_iff.mp h3).1 ?_
  have hd3 := Obj.data_mapFields hdT (·.setIfInBounds 3 u)
  have he3 := Heap.get?_update_self (Obj.mapFields (·.setIfInBounds 3 u)) eT (Obj.isFreed_of_fields hd3)
  have hsb : Heap.SameBut T s.heap (s.heap.update T (Obj.mapFields (·.setIfInBounds 3 u))) := Heap.SameBut.update ..
  have G₁ := G.update (s' := { s with heap := s.heap.update T (Obj.mapFields (·.setIfInBounds 3 u)) }) (ob := .tb) hT hsb ⟨_, _, u, he3, (Obj.cls_mapFields _ _).trans hcT, hd3, by simp [(Array.getElem?_eq_some_iff.mp h3).1]⟩
  have es : (τ ++ AObj.exc C (some j) :: junk).set j .tb = τ ++ AObj.exc C (some j) :: junk := by
    have hj := htb j rfl
    obtain ⟨hlt, he⟩ := List.getElem?_eq_some_iff.mp hj
    refine List.ext_getElem? fun i => ?_
    by_cases hi : i = j
    · subst hi; rw [List.getElem?_set_self hlt, hj]
    · rw [List.getElem?_set_ne (Ne.symm hi)]
  rw [es] at G₁
  exact k _ (Step.update hsb (List.mem_of_getElem? hT)) G₁

/-- an exception leaves the frame -/
theorem leave_W {Q : Unit → Shared → Prop} (G : St prog w B φ (τ ++ .exc C t :: junk) s) (htb : TbOk (τ ++ .exc C t :: junk) t) (L : Loc A B env ρ φ s.heap) (ha : φ[τ.length]? = some ea)
    (k : ∀ φ' t' junk' h', Step [] φ s.heap φ' h' → TbOk (τ ++ .exc C (some t') :: junk') (some t') → φ'[τ.length]? = some ea → St prog w B φ' (τ ++ .exc C (some t') :: junk') { s with heap := h' } → Q () { s with heap := h' }) :
    wpAny (model prog w) A (leaving env (.ref ea)) Q E s := by
  unfold leaving
  exact wpAny_bind (note_W G htb L ha fun φ' t' junk' h' t₁ hb ha' G' => flight_W G' hb ha' fun h'' t₂ G'' => k φ' t' junk' h'' (t₁.trans0 t₂) hb ha' G'')

/-- an exception comes out of an own activation of the frame (a loop) -/
theorem came_W {Q : Value → Shared → Prop} (G : St prog w B φ (τ ++ .exc C t :: junk) s) (htb : TbOk (τ ++ .exc C t :: junk) t) (L : Loc A B env ρ φ s.heap) (ha : φ[τ.length]? = some ea)
    (k : ∀ φ' t' junk' h', Step [] φ s.heap φ' h' → TbOk (τ ++ .exc C (some t') :: junk') (some t') → φ'[τ.length]? = some ea → St prog w B φ' (τ ++ .exc C (some t') :: junk') { s with heap := h' } → Q (.ref ea) { s with heap := h' }) :
    notedBy (model prog w) A env (cameBackBy (model prog w) A env Q) (.ref ea) s := by
  refine note_W G htb L ha fun φ' t' junk' h' t₁ hb ha' G' => ?_
  obtain ⟨o, vs, e1, hc, hd, T, ht, hT⟩ := G'.exc_ ha'
  refine wpAny_bind (wpAny_field e1 hd ht ?_)
  rw [if_neg (show ¬ ((Value.ref T == Value.none) = true) from by simp)]
  exact flight_W G' hb ha' fun h'' t₂ G'' => k φ' t' junk' h'' (t₁.trans0 t₂) hb ha' G''
end
end Mine

set_option autoImplicit false
set_option linter.unusedVariables false
namespace Mine
open PySem PySem.Calls PyProof.Rows

inductive Fl where
  | next
  | brk
  | cont
  | ret (x : V)

def FlR (φ : List Addr) (h : Heap) : Fl → Flow → Prop
  | .next, f => f = .next
  | .brk, f => f = .brk
  | .cont, f => f = .cont
  | .ret x, f => ∃ v, f = .ret v ∧ Val φ h x v

section
variable (prog : Program) (w : World) (B : Shared)
def fQ (A : Around) (env : Env) (Q : Fl → List (Str × V) → List AObj → Prop) : Flow → List Addr → List AObj → Shared → Prop :=
  fun f φ' σ' s' => ∃ fl ρ', FlR φ' s'.heap fl f ∧ Loc A B env ρ' φ' s'.heap ∧ Q fl ρ' σ'
/-- a statement -/
def WX1 (A : Around) (env : Env) (st : Stmt) (ρ : List (Str × V)) (σ : List AObj) (Q : Fl → List (Str × V) → List AObj → Prop) (X : XT) : Prop :=
  ∀ φ s, St prog w B φ σ s → Loc A B env ρ φ s.heap → wpAny (model prog w) A (exec st env) (Post prog w B (fr env) φ s (fQ B A env Q)) (Post prog w B (fr env) φ s X) s
/-- a row of statements -/
def WX (A : Around) (env : Env) (ss : List Stmt) (ρ : List (Str × V)) (σ : List AObj) (Q : Fl → List (Str × V) → List AObj → Prop) (X : XT) : Prop :=
  ∀ φ s, St prog w B φ σ s → Loc A B env ρ φ s.heap → wpAny (model prog w) A (execs ss env) (Post prog w B (fr env) φ s (fQ B A env Q)) (Post prog w B (fr env) φ s X) s
end

section
variable {prog : Program} {w : World} {B : Shared} {φ φ₁ φ₂ : List Addr} {σ : List AObj} {s s₁ : Shared} {env : Env} {ρ ρ₁ : List (Str × V)} {A : Around} {X : XT}

theorem Step.transF {h h₁ h₂ : Heap} (t : Step (fr env) φ h φ₁ h₁) (u : Step (fr env) φ₁ h₁ φ₂ h₂) (L : Loc A B env ρ₁ φ₁ h₁) : Step (fr env) φ h φ₂ h₂ :=
  t.trans u fun a ha => .inl ⟨(L.own a ha).1, fun h => by
    rcases u.fresh a h with h1 | h1
    · exact (L.own a ha).1 h1
    · obtain ⟨o, e, _⟩ := L.there ha; rw [e] at h1; cases h1⟩

/-- behind an expression: the rest of a statement -/
theorem WE.then {e : Expr} {Q : V → List AObj → Prop} {R : Value → Shared → Prop} (h : WE prog w B A env e ρ σ Q X) (G : St prog w B φ σ s) (L : Loc A B env ρ φ s.heap)
    (k : ∀ v s₁ φ₁ σ₁ x, Step [] φ s.heap φ₁ s₁.heap → St prog w B φ₁ σ₁ s₁ → Loc A B env ρ φ₁ s₁.heap → Val φ₁ s₁.heap x v → Q x σ₁ → R v s₁) :
    wpAny (model prog w) A (eval e env) R (Post prog w B (fr env) φ s X) s :=
  wpAny_mono (h φ s G L) (fun v s₁ ⟨φ₁, σ₁, t, G₁, x, hx, q⟩ => k v s₁ φ₁ σ₁ x t G₁ (L.step G t) hx q) fun e s' ⟨φ', σ', t, G', x⟩ => ⟨φ', σ', t.nilD, G', x⟩
theorem WT.then {e : Expr} {Q : Bool → List AObj → Prop} {R : Bool → Shared → Prop} (h : WT prog w B A env e ρ σ Q X) (G : St prog w B φ σ s) (L : Loc A B env ρ φ s.heap)
    (k : ∀ b s₁ φ₁ σ₁, Step [] φ s.heap φ₁ s₁.heap → St prog w B φ₁ σ₁ s₁ → Loc A B env ρ φ₁ s₁.heap → Q b σ₁ → R b s₁) :
    wpAny (model prog w) A (isTrue e env (eval e env)) R (Post prog w B (fr env) φ s X) s :=
  wpAny_mono (h φ s G L) (fun v s₁ ⟨φ₁, σ₁, t, G₁, q⟩ => k v s₁ φ₁ σ₁ t G₁ (L.step G t) q) fun e s' ⟨φ', σ', t, G', x⟩ => ⟨φ', σ', t.nilD, G', x⟩

theorem Post.transF {α : Type} {Q : α → List Addr → List AObj → Shared → Prop} {a : α} {s' : Shared} (t : Step (fr env) φ s.heap φ₁ s₁.heap) (L : Loc A B env ρ₁ φ₁ s₁.heap) (h : Post prog w B (fr env) φ₁ s₁ Q a s') : Post prog w B (fr env) φ s Q a s' := by
  obtain ⟨φ', σ', t', G', q⟩ := h
  exact ⟨φ', σ', t.transF t' L, G', q⟩
theorem WX.last {ss : List Stmt} {Q : Fl → List (Str × V) → List AObj → Prop} {σ₁ : List AObj} (h : WX prog w B A env ss ρ₁ σ₁ Q X) (G₁ : St prog w B φ₁ σ₁ s₁) (L₁ : Loc A B env ρ₁ φ₁ s₁.heap) (t : Step (fr env) φ s.heap φ₁ s₁.heap) :
    wpAny (model prog w) A (execs ss env) (Post prog w B (fr env) φ s (fQ B A env Q)) (Post prog w B (fr env) φ s X) s₁ :=
  wpAny_mono (h φ₁ s₁ G₁ L₁) (fun _ _ p => p.transF t L₁) fun _ _ p => p.transF t L₁

/-! statements -/
theorem X_nil {Q : Fl → List (Str × V) → List AObj → Prop} (q : Q .next ρ σ) : WX prog w B A env [] ρ σ Q X :=
  fun φ s G L => wpAny_execs_nil ⟨φ, σ, .refl .., G, .next, ρ, rfl, L, q⟩
/-- the rest behind a statement -/
def seqQ (prog : Program) (w : World) (B : Shared) (A : Around) (env : Env) (rest : List Stmt) (Q : Fl → List (Str × V) → List AObj → Prop) (X : XT) : Fl → List (Str × V) → List AObj → Prop
  | .next, ρ', σ' => WX prog w B A env rest ρ' σ' Q X
  | f, ρ', σ' => Q f ρ' σ'
theorem X_cons {st : Stmt} {rest : List Stmt} {Q : Fl → List (Str × V) → List AObj → Prop} (h : WX1 prog w B A env st ρ σ (seqQ prog w B A env rest Q X) X) : WX prog w B A env (st :: rest) ρ σ Q X :=
  fun φ s G L => wpAny_execs_cons (wpAny_mono (h φ s G L) (fun f s₁ ⟨φ₁, σ₁, t₁, G₁, fl, ρ₁, hf, L₁, q⟩ => by
    cases fl with
    | next => obtain rfl : f = .next := hf; exact WX.last q G₁ L₁ t₁
    | brk => obtain rfl : f = .brk := hf; exact ⟨φ₁, σ₁, t₁, G₁, .brk, ρ₁, rfl, L₁, q⟩
    | cont => obtain rfl : f = .cont := hf; exact ⟨φ₁, σ₁, t₁, G₁, .cont, ρ₁, rfl, L₁, q⟩
    | ret x => obtain ⟨v, rfl, hv⟩ := hf; exact ⟨φ₁, σ₁, t₁, G₁, .ret x, ρ₁, ⟨v, rfl, hv⟩, L₁, q⟩) fun _ _ x => x)
theorem X_return {e : Expr} {pos : Pos} {Q : Fl → List (Str × V) → List AObj → Prop} (h : WE prog w B A env e ρ σ (fun x σ₁ => Q (.ret x) ρ σ₁) X) : WX1 prog w B A env (.Return (some e) pos) ρ σ Q X :=
  fun φ s G L => wpAny_Return_some (h.then G L fun v s₁ φ₁ σ₁ x t G₁ L₁ hx q => ⟨φ₁, σ₁, t.nilD, G₁, .ret x, ρ, ⟨v, rfl, hx⟩, L₁, q⟩)
theorem X_expr {e : Expr} {pos : Pos} {Q : Fl → List (Str × V) → List AObj → Prop} (h : WE prog w B A env e ρ σ (fun _ σ₁ => Q .next ρ σ₁) X)
    (hi : interactive env = false := by with_unfolding_all rfl) (hs : swapsWith e none pos.line env = pure false := by with_unfolding_all rfl) : WX1 prog w B A env (.Expr e pos) ρ σ Q X :=
  fun φ s G L => wpAny_Expr_any (h.then G L fun v s₁ φ₁ σ₁ x t G₁ L₁ hx q => ⟨φ₁, σ₁, t.nilD, G₁, .next, ρ, rfl, L₁, q⟩) hi hs
theorem X_if {test : Expr} {body orelse : List Stmt} {pos : Pos} {Q : Fl → List (Str × V) → List AObj → Prop}
    (h : WT prog w B A env test ρ σ (fun b σ₁ => if b then WX prog w B A env body ρ σ₁ Q X else WX prog w B A env orelse ρ σ₁ Q X) X) : WX1 prog w B A env (.If test body orelse pos) ρ σ Q X :=
  fun φ s G L => wpAny_If (h.then G L fun b s₁ φ₁ σ₁ t G₁ L₁ q => by
    cases b
    · exact WX.last q G₁ L₁ t.nilD
    · exact WX.last q G₁ L₁ t.nilD)

theorem Bnd.sameBut {h h' : Heap} {c : Addr} {y : Str} {val : Value} (hb : Bnd env h y val) (hs : Heap.SameBut c h h') (hl : env.kindOf y = some .local → c ≠ env.locals) (hc : ∀ d, (y, d) ∈ env.cells → d ≠ c) : Bnd env h' y val := by
  rcases hb with ⟨k, m, n, e⟩ | ⟨k, d, e, n⟩
  · exact .inl ⟨k, m, n.sameBut hs (Ne.symm (hl k)), e⟩
  · exact .inr ⟨k, d, e, n.sameBut hs (hc d (mem_of_lookup e))⟩

theorem locals_ne_cell {h : Heap} (L : Loc A B env ρ φ h) {x : Str} {c : Addr} (hm : (x, c) ∈ env.cells) : c ≠ env.locals := fun e => by
  obtain ⟨m, o, es, ep, e1, hd, _⟩ := L.ns
  obtain ⟨v, o', e2, hd'⟩ := L.cells x c hm
  rw [e, e1] at e2; cases e2
  rw [hd] at hd'; cases hd'

theorem lookup_cons_ne {ρ : List (Str × V)} {x y : Str} {v : V} (h : y ≠ x) : ((x, v) :: ρ).lookup y = ρ.lookup y := by
  rw [List.lookup_cons]
  have : (y == x) = false := by simpa using h
  rw [this]

/-- a local name stored -/
theorem store_local {x : Str} {v : Value} {y : V} {Q : Unit → Shared → Prop} {E : Value → Shared → Prop} (G : St prog w B φ σ s) (L : Loc A B env ρ φ s.heap) (hv : Val φ s.heap y v)
    (hx : env.kindOf x = some .local)
    (k : ∀ h' tk, Heap.SameBut env.locals s.heap h' → St prog w B φ σ { s with heap := h', toks := tk } → Loc A B env ((x, y) :: ρ) φ h' → Q () { s with heap := h', toks := tk }) :
    wpAny (model prog w) A (storeName env x v) Q E s := by
  obtain ⟨m, hm⟩ := L.ns
  refine wpAny_storeName_local hx hm (fun h' hn hs => ?_) (by rw [L.kind]; rfl)
  have hns : ∀ o, s.heap.get? env.locals = some o → ¬ Still o := fr_notStill L _ (.head _)
  have hown := L.own _ (List.mem_cons_self (l := env.cells.map (·.2)) (a := env.locals))
  refine k h' _ hs (G.sameBut (s' := { s with heap := h', toks := s.toks + 1 }) hs hown.1 hown.2 hns) ⟨L.kind, L.glob, L.blt, ⟨_, hn⟩, L.own, fun z c hz => ?_, L.apart, fun z u hz => ?_, L.frs.at hs.extBut (.inl (let ⟨o, es, n, e, hd, _⟩ := hn; ⟨o, es, n, e, hd⟩)), L.top⟩
  · obtain ⟨v', n'⟩ := L.cells z c hz
    exact ⟨v', n'.sameBut hs (locals_ne_cell L hz)⟩
  · by_cases hzx : z = x
    · subst hzx
      rw [List.lookup_cons_self] at hz; cases hz
      exact ⟨v, .inl ⟨hx, _, hn, by simp⟩, hv.sameBut hs hns⟩
    · rw [lookup_cons_ne hzx] at hz
      obtain ⟨val, hb, hv'⟩ := L.val z u hz
      refine ⟨val, ?_, hv'.sameBut hs hns⟩
      rcases hb with ⟨k', m', n', e'⟩ | ⟨k', d, e', n'⟩
      · refine .inl ⟨k', _, hn, ?_⟩
        obtain ⟨o1, es1, ep1, a1, a2, a3, a4⟩ := hm
        obtain ⟨o2, es2, ep2, b1, b2, b3, b4⟩ := n'
        rw [a1] at b1; cases b1; rw [a2] at b2; cases b2
        rw [if_neg hzx, ← a4 z, b4 z]; exact e'
      · exact .inr ⟨k', d, e', n'.sameBut hs (locals_ne_cell L (mem_of_lookup e'))⟩

/-- a name stored -/
theorem store_name {x : Str} {v : Value} {y : V} {Q : Unit → Shared → Prop} {E : Value → Shared → Prop} (G : St prog w B φ σ s) (L : Loc A B env ρ φ s.heap) (hv : Val φ s.heap y v)
    (hx : env.kindOf x = some .local ∨ env.kindOf x = some .cell ∧ (env.cells.lookup x).isSome = true)
    (k : ∀ h' tk, Step (fr env) φ s.heap φ h' → St prog w B φ σ { s with heap := h', toks := tk } → Loc A B env ((x, y) :: ρ) φ h' → Q () { s with heap := h', toks := tk }) :
    wpAny (model prog w) A (storeName env x v) Q E s := by
  rcases hx with hx | ⟨hx, hc⟩
  · exact store_local G L hv hx fun h' tk hs G' L' => k h' tk ⟨List.prefix_refl _, fun _ h => .inl h, fun b o e h1 h2 => ⟨o, hs.extBut b o (fun h => h2 (h ▸ .head _)) e, .refl o⟩⟩ G' L'
  · obtain ⟨c, hc⟩ := Option.isSome_iff_exists.mp hc
    have hcm := mem_of_lookup hc
    obtain ⟨v₀, hc0⟩ := L.cells x c hcm
    refine wpAny_storeName_cell L.kind hx hc hc0 fun h' hn hs => ?_
    have hns : ∀ o, s.heap.get? c = some o → ¬ Still o := fr_notStill L _ (mem_fr_cell hcm)
    have hown := L.own _ (mem_fr_cell hcm)
    refine k h' s.toks ⟨List.prefix_refl _, fun _ h => .inl h, fun b o e h1 h2 => ⟨o, hs.extBut b o (fun h => h2 (h ▸ mem_fr_cell hcm)) e, .refl o⟩⟩ (G.sameBut (s' := { s with heap := h' }) hs hown.1 hown.2 hns) ⟨L.kind, L.glob, L.blt, ?_, L.own, fun z d hz => ?_, L.apart, fun z u hz => ?_, L.frs.at hs.extBut (.inr fun o e es n hd => by obtain ⟨o', e', hd'⟩ := hc0; rw [e'] at e; cases e; rw [hd'] at hd; cases hd), L.top⟩
    · obtain ⟨m, hm⟩ := L.ns; exact ⟨m, hm.sameBut hs (Ne.symm (locals_ne_cell L hcm))⟩
    · by_cases hdc : d = c
      · subst hdc; exact ⟨_, hn⟩
      · obtain ⟨v', n'⟩ := L.cells z d hz; exact ⟨v', n'.sameBut hs hdc⟩
    · by_cases hzx : z = x
      · subst hzx
        rw [List.lookup_cons_self] at hz; cases hz
        exact ⟨v, .inr ⟨.inl hx, c, hc, hn⟩, hv.sameBut hs hns⟩
      · rw [lookup_cons_ne hzx] at hz
        obtain ⟨val, hb, hv'⟩ := L.val z u hz
        refine ⟨val, hb.sameBut hs (fun _ => locals_ne_cell L hcm) fun d hd e => hzx ?_, hv'.sameBut hs hns⟩
        exact name_of_addr L.apart hd (e ▸ hcm)

theorem X_assign {x : Str} {e : Expr} {px pos : Pos} {Q : Fl → List (Str × V) → List AObj → Prop} (h : WE prog w B A env e ρ σ (fun y σ₁ => Q .next ((x, y) :: ρ) σ₁) X)
    (hx : env.kindOf x = some .local ∨ env.kindOf x = some .cell ∧ (env.cells.lookup x).isSome = true)
    (hs : swapsWith e (some (.Name x px)) pos.line env = pure false := by with_unfolding_all rfl) : WX1 prog w B A env (.Assign [.Name x px] e pos) ρ σ Q X :=
  fun φ s G L => wpAny_Assign_Name (h.then G L fun v s₁ φ₁ σ₁ y t G₁ L₁ hy q => store_name G₁ L₁ hy hx fun h' tk t' G' L' => ⟨φ₁, σ₁, Step.transF t.nilD t' L₁, G', .next, _, rfl, L', q⟩) hs
end
end Mine

set_option autoImplicit false
set_option linter.unusedVariables false
namespace Mine
open PySem PySem.Calls PyProof.Rows

/-! what a value names of the heap -/
mutual
def V.lt (n : Nat) : V → Prop
  | .ref k => k < n
  | .tup xs => Vs.lt n xs
  | _ => True
def Vs.lt (n : Nat) : List V → Prop
  | [] => True
  | x :: xs => V.lt n x ∧ Vs.lt n xs
end
mutual
theorem Val.isLt {φ : List Addr} {h : Heap} : ∀ (x : V) {v : Value}, Val φ h x v → x.lt φ.length
  | .none, _, _ | .bool _, _, _ | .int _, _, _ | .str _, _, _ | .raw _, _, _ | .rng .., _, _ => by simp [V.lt]
  | .ref k, _, e => by rw [Val] at e; obtain ⟨a, _, ha⟩ := e; rw [V.lt]; exact (List.getElem?_eq_some_iff.mp ha).1
  | .tup xs, _, e => by rw [Val] at e; obtain ⟨a, vs, _, _, hv⟩ := e; rw [V.lt]; exact Vals.isLt xs hv
theorem Vals.isLt {φ : List Addr} {h : Heap} : ∀ (xs : List V) {vs : List Value}, Vals φ h xs vs → Vs.lt φ.length xs
  | [], _, _ => by simp [Vs.lt]
  | x :: xs, _, e => by rw [Vals] at e; obtain ⟨v, r, _, h1, h2⟩ := e; rw [Vs.lt]; exact ⟨Val.isLt x h1, Vals.isLt xs h2⟩
end
mutual
theorem Val.cut {φ φ' : List Addr} {h : Heap} (hp : φ <+: φ') : ∀ (x : V) {v : Value}, x.lt φ.length → Val φ' h x v → Val φ h x v
  | .none, _, _, e | .bool _, _, _, e | .int _, _, _, e | .str _, _, _, e | .raw _, _, _, e | .rng .., _, _, e => by simpa [Val] using e
  | .ref k, _, hl, e => by
    rw [Val] at e ⊢
    rw [V.lt] at hl
    obtain ⟨a, rfl, ha⟩ := e
    obtain ⟨r, rfl⟩ := hp
    rw [List.getElem?_append_left hl] at ha
    exact ⟨a, rfl, ha⟩
  | .tup xs, _, hl, e => by
    rw [Val] at e ⊢
    rw [V.lt] at hl
    obtain ⟨a, vs, h1, h2, hv⟩ := e
    exact ⟨a, vs, h1, h2, Vals.cut hp xs hl hv⟩
theorem Vals.cut {φ φ' : List Addr} {h : Heap} (hp : φ <+: φ') : ∀ (xs : List V) {vs : List Value}, Vs.lt φ.length xs → Vals φ' h xs vs → Vals φ h xs vs
  | [], _, _, e => by simpa [Vals] using e
  | x :: xs, _, hl, e => by
    rw [Vals] at e ⊢
    rw [Vs.lt] at hl
    obtain ⟨v, r, h0, h1, h2⟩ := e
    exact ⟨v, r, h0, Val.cut hp x hl.1 h1, Vals.cut hp xs hl.2 h2⟩
end

def AObj.lt (n : Nat) : AObj → Prop
  | .list xs => Vs.lt n xs
  | .dict es _ => ∀ e ∈ es, e.2.lt n
  | .inst _ k => k < n
  | .ns as => ∀ x v, as.lookup x = some v → v.lt n
  | .set _ => True
  | .exc _ t => ∀ k, t = some k → k < n
  | .tb => True

theorem Ents.isLt {φ : List Addr} {h : Heap} {es : List (Key × V)} {kvs : List (Key × Value)} (e : Ents φ h es kvs) : ∀ p ∈ es, p.2.lt φ.length := by
  induction e with
  | nil => intro p hp; cases hp
  | cons h1 _ ih => intro p hp; rcases List.mem_cons.mp hp with rfl | hp; exact Val.isLt _ h1; exact ih p hp
theorem Ents.cut {φ φ' : List Addr} {h : Heap} (hp : φ <+: φ') {es : List (Key × V)} {kvs : List (Key × Value)} (e : Ents φ' h es kvs) (hl : ∀ p ∈ es, p.2.lt φ.length) : Ents φ h es kvs := by
  induction e with
  | nil => exact .nil
  | cons h1 _ ih => exact .cons (Val.cut hp _ (hl _ (.head _)) h1) (ih fun p hp => hl p (.tail _ hp))

section
variable {prog : Program} {w : World} {B : Shared} {φ φ' φ₁ : List Addr} {σ σ' : List AObj} {s s' s₁ : Shared} {env : Env} {ρ : List (Str × V)} {A : Around} {X : XT}

theorem ObjR.isLt {h : Heap} {a : Addr} {ob : AObj} (r : ObjR prog w φ h a ob) : ob.lt φ.length := by
  cases ob with
  | list xs => obtain ⟨vs, n, _, hv⟩ := r; exact Vals.isLt _ hv
  | dict es e => obtain ⟨kvs, ep, _, hv, _⟩ := r; exact hv.isLt
  | inst C k => obtain ⟨d, _, hd⟩ := r; exact (List.getElem?_eq_some_iff.mp hd).1
  | set ss => trivial
  | exc C t =>
    obtain ⟨o, vs, _, _, _, h⟩ := r
    intro k hk
    subst hk
    obtain ⟨T, _, hT⟩ := h
    exact (List.getElem?_eq_some_iff.mp hT).1
  | tb => trivial
  | ns as =>
    obtain ⟨es, n, _, _, _, h3⟩ := r
    intro x v hx
    have := h3 x
    rw [hx] at this
    obtain ⟨val, _, hv⟩ := this
    exact Val.isLt _ hv
theorem ObjR.cut {h : Heap} {a : Addr} {ob : AObj} (hp : φ <+: φ') (r : ObjR prog w φ' h a ob) (hl : ob.lt φ.length) : ObjR prog w φ h a ob := by
  cases ob with
  | list xs => obtain ⟨vs, n, e, hv⟩ := r; exact ⟨vs, n, e, Vals.cut hp _ hl hv⟩
  | dict es e => obtain ⟨kvs, ep, h1, hv, h2⟩ := r; exact ⟨kvs, ep, h1, hv.cut hp hl, h2⟩
  | set ss => exact r
  | tb => exact r
  | exc C t =>
    obtain ⟨o, vs, h1, h2, h3, h⟩ := r
    refine ⟨o, vs, h1, h2, h3, ?_⟩
    cases t with
    | none => exact h
    | some k =>
      obtain ⟨T, e, hT⟩ := h
      obtain ⟨r, rfl⟩ := hp
      rw [List.getElem?_append_left (hl k rfl)] at hT
      exact ⟨T, e, hT⟩
  | inst C k =>
    obtain ⟨d, e, hd⟩ := r
    obtain ⟨r, rfl⟩ := hp
    rw [List.getElem?_append_left hl] at hd
    exact ⟨d, e, hd⟩
  | ns as =>
    obtain ⟨es, n, e, h1, h2, h3⟩ := r
    refine ⟨es, n, e, h1, h2, fun x => ?_⟩
    have := h3 x
    cases hx : as.lookup x with
    | none => rw [hx] at this; exact this
    | some v => rw [hx] at this; obtain ⟨val, e1, e2⟩ := this; exact ⟨val, e1, Val.cut hp v (hl x v hx) e2⟩

theorem St.closed (G : St prog w B φ σ s) : ∀ ob ∈ σ, ob.lt σ.length := fun ob ho => by
  obtain ⟨k, hk, rfl⟩ := List.mem_iff_getElem.mp ho
  rw [← G.len]
  exact (G.objs k _ σ[k] (List.getElem?_eq_getElem (G.len ▸ hk)) (List.getElem?_eq_getElem hk)).isLt

/-- what is behind is forgotten -/
theorem St.trunc {σ₁ junk : List AObj} (G : St prog w B φ' (σ₁ ++ junk) s) (hp : φ <+: φ') (hn : φ.length = σ₁.length) (hc : ∀ ob ∈ σ₁, ob.lt σ₁.length) : St prog w B φ σ₁ s := by
  refine ⟨G.base, fun a ha => G.new a (hp.subset ha), G.nodup.sublist hp.sublist, hn, fun k a ob h1 h2 => ?_, G.gens, G.os, G.sys.1, fun h => G.sys.2 (hp.subset h)⟩
  have hk := (List.getElem?_eq_some_iff.mp h1).1
  obtain ⟨r, rfl⟩ := hp
  refine (G.objs k a ob (by rw [List.getElem?_append_left hk]; exact h1) (by rw [List.getElem?_append_left (hn ▸ hk)]; exact h2)).cut (List.prefix_append _ _) (hn ▸ hc ob (List.mem_of_getElem? h2))
/-- one object of what is behind is kept -/
theorem St.pick {j1 j2 : List AObj} {ob : AObj} (G : St prog w B φ' (σ ++ j1 ++ ob :: j2) s') (hp : φ <+: φ') (hn : φ.length = σ.length) (hc : ∀ ob ∈ σ, ob.lt σ.length) (ho : ob.lt σ.length) :
    ∃ c, φ'[σ.length + j1.length]? = some c ∧ c ∉ φ ∧ St prog w B (φ ++ [c]) (σ ++ [ob]) s' := by
  have hl : σ.length + j1.length < φ'.length := by rw [G.len]; simp
  have hidx := List.getElem?_eq_getElem hl
  refine ⟨φ'[σ.length + j1.length], hidx, fun hm => ?_, ?_⟩
  · obtain ⟨i, hi, e⟩ := List.mem_iff_getElem.mp hm
    have h1 : φ'[i]'(Nat.lt_of_lt_of_le hi hp.length_le) = φ'[σ.length + j1.length] := by
      rw [← e]
      exact (hp.getElem hi).symm
    have := (List.getElem_inj G.nodup).mp h1
    (clear h1 e hm hidx hl ho hc hp G; lia)
  · have hc' : φ'[σ.length + j1.length] ∉ φ := fun hm => by
      obtain ⟨i, hi, e⟩ := List.mem_iff_getElem.mp hm
      have h1 : φ'[i]'(Nat.lt_of_lt_of_le hi hp.length_le) = φ'[σ.length + j1.length] := by
        rw [← e]
        exact (hp.getElem hi).symm
      have := (List.getElem_inj G.nodup).mp h1
      (clear h1 e hm hidx hl ho hc hp G; lia)
    have r := G.objs _ _ ob hidx (by rw [List.append_assoc, List.getElem?_append_right (by (clear hc' hidx hl ho hc hn hp G; lia)), List.getElem?_append_right (by (clear hc' hidx hl ho hc hn hp G; lia))]; simp)
    have r' := r.cut hp (hn ▸ ho)
    refine ⟨G.base, fun a ha => ?_, ?_, by simp [hn], fun k a ob' h1 h2 => ?_, G.gens, G.os, G.sys.1, fun h => (List.mem_append.mp h).elim (fun h => G.sys.2 (hp.subset h)) fun h => G.sys.2 ((List.mem_singleton.mp h) ▸ List.getElem_mem _)⟩
    · rcases List.mem_append.mp ha with h | h
      · exact G.new a (hp.subset h)
      · obtain rfl := List.mem_singleton.mp h; exact G.new _ (List.getElem_mem _)
    · exact List.nodup_append.mpr ⟨G.nodup.sublist hp.sublist, by simp, fun a ha b hb e => hc' (by obtain rfl := List.mem_singleton.mp hb; exact e ▸ ha)⟩
    · by_cases hk : k < φ.length
      · rw [List.getElem?_append_left hk] at h1
        rw [List.getElem?_append_left (hn ▸ hk)] at h2
        have h3 : φ'[k]? = some a := by obtain ⟨r, rfl⟩ := hp; rw [List.getElem?_append_left hk]; exact h1
        refine ((G.objs k a ob' h3 (by rw [List.append_assoc, List.getElem?_append_left (hn ▸ hk)]; exact h2)).cut hp (hn ▸ hc ob' (List.mem_of_getElem? h2))).mono (List.prefix_append _ _) (fun _ _ e _ => e) fun _ e => e
      · have hk' : k = φ.length := by
          have := (List.getElem?_eq_some_iff.mp h1).1
          simp at this; (clear h2 h1 r' r hc' hidx hl ho hc hn hp G; lia)
        subst hk'
        rw [List.getElem?_append_right (Nat.le_refl _)] at h1
        rw [hn, List.getElem?_append_right (Nat.le_refl _)] at h2
        simp at h1 h2
        subst h1 h2
        exact r'.mono (List.prefix_append _ _) (fun _ _ e _ => e) fun _ e => e

/-- what may be forgotten behind a call -/
inductive Clean (σ : List AObj) (Q : V → List AObj → Prop) : V → List AObj → Prop
  | all {x : V} {σ' : List AObj} : Q x σ' → Clean σ Q x σ'
  | none {x : V} {junk : List AObj} : x.lt σ.length → Q x σ → Clean σ Q x (σ ++ junk)
  | one {j1 j2 : List AObj} {ob : AObj} {k : Nat} : k = σ.length + j1.length → ob.lt σ.length → Q (.ref σ.length) (σ ++ [ob]) → Clean σ Q (.ref k) (σ ++ j1 ++ ob :: j2)

theorem WC.clean {f : Value} {xs : List V} {Q : V → List AObj → Prop} (h : WC prog w B A f xs σ (Clean σ Q) X) : WC prog w B A f xs σ Q X := fun φ s vs G FR hv =>
  wpAny_mono (h φ s vs G FR hv) (fun v s' ⟨φ', σ', t, G', x, hx, c⟩ => by
    cases c with
    | all q => exact ⟨φ', σ', t, G', x, hx, q⟩
    | none hl q =>
      refine ⟨φ, σ, ⟨List.prefix_refl _, fun _ h => .inl h, t.keep⟩, G'.trunc t.pre G.len G.closed, x, Val.cut t.pre x (G.len ▸ hl) hx, q⟩
    | @one j1 j2 ob k hk hl q =>
      obtain ⟨c, hc, hcφ, G''⟩ := G'.pick t.pre G.len G.closed hl
      have hcm : c ∈ φ' := List.mem_of_getElem? hc
      refine ⟨φ ++ [c], σ ++ [ob], ⟨List.prefix_append _ _, fun a ha => (List.mem_append.mp ha).imp id fun h => ?_, t.keep⟩, G'', .ref σ.length, ?_, q⟩
      · obtain rfl := List.mem_singleton.mp h
        exact (t.fresh a hcm).resolve_left hcφ
      · rw [Val] at hx ⊢
        obtain ⟨a, rfl, ha⟩ := hx
        rw [hk, hc] at ha; cases ha
        exact ⟨c, rfl, by rw [← G.len]; simp⟩) fun _ _ x => x

theorem St.there (G : St prog w B φ σ s) {a : Addr} (ha : a ∈ φ) : ∃ o, s.heap.get? a = some o := by
  obtain ⟨k, hk, rfl⟩ := List.mem_iff_getElem.mp ha
  have hk' : k < σ.length := G.len ▸ hk
  have r := G.objs k _ σ[k] (List.getElem?_eq_getElem hk) (List.getElem?_eq_getElem hk')
  cases hob : σ[k] with
  | list xs => rw [hob] at r; obtain ⟨vs, n, e, _⟩ := r; exact ⟨_, e⟩
  | dict es e => rw [hob] at r; obtain ⟨kvs, ep, ⟨o, es', e, _⟩, _⟩ := r; exact ⟨_, e⟩
  | inst C k => rw [hob] at r; obtain ⟨d, e, _⟩ := r; exact ⟨_, e⟩
  | ns as => rw [hob] at r; obtain ⟨es, n, e, _⟩ := r; exact ⟨_, e⟩
  | set ss => rw [hob] at r; obtain ⟨o', es, ep, t, e, _⟩ := r; exact ⟨_, e⟩
  | exc C t => rw [hob] at r; obtain ⟨o', vs, e, _⟩ := r; exact ⟨_, e⟩
  | tb => rw [hob] at r; obtain ⟨o', ts, x, e, _⟩ := r; exact ⟨_, e⟩

/-! calls of the text's own defs -/
theorem cellsFrom_has : ∀ (names : List (Str × NameKind)) (n : Nat) (acc : List (Str × Addr)) (x : Str), ((acc.lookup x).isSome = true ∨ names.lookup x = some .cell) → ((cellsFrom n names acc).lookup x).isSome = true
  | [], n, acc, x, h => by
    rcases h with h | h
    · exact h
    · cases h
  | (y, k) :: r, n, acc, x, h => by
    unfold cellsFrom
    by_cases hk : (k == NameKind.cell) = true
    · rw [if_pos hk]
      refine cellsFrom_has r (n + 1) _ x ?_
      by_cases hx : x = y
      · subst hx; left; simp
      · rcases h with h | h
        · left; rw [List.lookup_cons]; rw [show (x == y) = false from by simpa using hx]; exact h
        · right; rw [List.lookup_cons, show (x == y) = false from by simpa using hx] at h; exact h
    · rw [if_neg hk]
      refine cellsFrom_has r n _ x ?_
      rcases h with h | h
      · exact .inl h
      · by_cases hx : x = y
        · subst hx; rw [List.lookup_cons_self] at h; cases h; exact absurd rfl hk
        · rw [List.lookup_cons, show (x == y) = false from by simpa using hx] at h; exact .inr h
theorem cellsFrom_keys : ∀ (names : List (Str × NameKind)) (n : Nat) (acc : List (Str × Addr)), ((names.map (·.1)) ++ acc.map (·.1)).Nodup → ((cellsFrom n names acc).map (·.1)).Nodup
  | [], n, acc, h => by unfold cellsFrom; simpa using h
  | (y, k) :: r, n, acc, h => by
    unfold cellsFrom
    split
    · refine cellsFrom_keys r (n + 1) _ ?_
      simp only [List.map_cons]
      exact (List.perm_middle.nodup_iff).mpr (by simpa using h)
    · refine cellsFrom_keys r n _ ?_
      simp only [List.map_cons, List.cons_append, List.nodup_cons] at h
      exact h.2
theorem lookup_of_mem {α : Type} : ∀ {l : List (Str × α)} {x : Str} {c : α}, (l.map (·.1)).Nodup → (x, c) ∈ l → l.lookup x = some c
  | (y, d) :: r, x, c, hn, hm => by
    rcases List.mem_cons.mp hm with e | hm
    · cases e; simp
    · simp only [List.map_cons, List.nodup_cons] at hn
      have hxy : x ≠ y := fun e => hn.1 (e ▸ List.mem_map.mpr ⟨(x, c), hm, rfl⟩)
      rw [List.lookup_cons, show (x == y) = false from by simpa using hxy]
      exact lookup_of_mem hn.2 hm

/-- a def of the text: its names, its body -/
structure Fn (B : Shared) (a : Addr) (names : List Str) (fd : FuncData) (body : List Stmt) : Prop where
  at_ : ∃ o, B.heap.get? a = some o ∧ o.data = .func fd
  lim : B.heap.NoLimit
  code : B.heap.CodeRec fd.code fd.qualname
  body : fd.body = .stmts body
  clo : fd.closure = []
  glob : fd.globals = mainGlobals
  blt : fd.builtins = builtinsNs
  bind : ∀ vals : List Value, vals.length = names.length → bindArgs fd ⟨vals, []⟩ = pure (names.zip vals)
  kinds : ∀ n ∈ names, fd.scope.names.lookup n = some .local ∨ fd.scope.names.lookup n = some .cell
  nodup : names.Nodup
  cnodup : (fd.scope.names.map (·.1)).Nodup
  co : fd.scope.isCoroutine = false
  gen : fd.scope.isGenerator = false
  kind : fd.scope.kind = .function

def retV : Fl → V
  | .ret x => x
  | _ => .none

theorem bindL_at (kindOf : Str → Option NameKind) : ∀ (binds : List (Str × Value)) (m : Str → Option Value) (x : Str), kindOf x = some .local →
    bindL kindOf binds m x = (binds.reverse.lookup x).or (m x)
  | [], m, x, _ => by simp [bindL]
  | (n, v) :: r, m, x, hx => by
    rw [bindL, bindL_at kindOf r _ x hx, List.reverse_cons, List.lookup_append]
    by_cases hn : kindOf n = some .local
    · rw [if_pos hn]
      by_cases hxn : x = n
      · subst hxn; simp
      · simp [hxn, List.lookup_cons, show (x == n) = false from by simpa using hxn]
    · rw [if_neg hn]
      have hxn : x ≠ n := fun e => hn (e ▸ hx)
      simp [List.lookup_cons, show (x == n) = false from by simpa using hxn]
theorem bindC_at (kindOf : Str → Option NameKind) : ∀ (binds : List (Str × Value)) (m : Str → Option Value) (x : Str), kindOf x = some .cell →
    bindC kindOf binds m x = (binds.reverse.lookup x).or (m x)
  | [], m, x, _ => by simp [bindC]
  | (n, v) :: r, m, x, hx => by
    rw [bindC, bindC_at kindOf r _ x hx, List.reverse_cons, List.lookup_append]
    by_cases hn : kindOf n = some .local
    · rw [if_pos hn]
      have hxn : x ≠ n := fun e => by rw [e] at hx; rw [hx] at hn; cases hn
      simp [List.lookup_cons, show (x == n) = false from by simpa using hxn]
    · rw [if_neg hn]
      by_cases hxn : x = n
      · subst hxn; simp
      · simp [hxn, List.lookup_cons, show (x == n) = false from by simpa using hxn]
theorem lookup_reverse_of_nodup {α : Type} {l : List (Str × α)} (h : (l.map (·.1)).Nodup) (x : Str) : l.reverse.lookup x = l.lookup x := by
  cases e : l.lookup x with
  | some v =>
    exact lookup_of_mem (by rw [List.map_reverse]; exact (List.reverse_perm _).nodup_iff.mpr h) (List.mem_reverse.mpr (mem_of_lookup e))
  | none =>
    cases e' : l.reverse.lookup x with
    | none => rfl
    | some v => rw [lookup_of_mem h (List.mem_reverse.mp (mem_of_lookup e'))] at e; cases e
theorem zip_lookup_vals {h : Heap} : ∀ {names : List Str} {xs : List V} {vs : List Value}, Vals φ h xs vs → ∀ {x : Str} {v : V}, (names.zip xs).lookup x = some v → ∃ val, (names.zip vs).lookup x = some val ∧ Val φ h v val
  | [], _, _, _, x, v, hx => by simp at hx
  | n :: ns, [], _, _, x, v, hx => by simp at hx
  | n :: ns, y :: ys, _, e, x, v, hx => by
    rw [Vals] at e
    obtain ⟨u, r, rfl, h1, h2⟩ := e
    rw [List.zip_cons_cons, List.lookup_cons] at hx ⊢
    cases hb : x == n with
    | true => rw [hb] at hx; cases hx; exact ⟨u, rfl, h1⟩
    | false => rw [hb] at hx; exact zip_lookup_vals h2 hx
theorem zip_keys_mem {α : Type} : ∀ {names : List Str} {xs : List α} {x : Str} {v : α}, (names.zip xs).lookup x = some v → x ∈ names := fun {names xs x v} h => (List.of_mem_zip (mem_of_lookup h)).1

/-- what a def's body may raise, and what then comes out of the call -/
inductive XOk (A : Around) (B : Shared) (env : Env) : XT → XT → Prop
  | no {X : XT} : XOk A B env (fun _ _ _ _ => False) X
  | exc {R : Addr → List AObj → Prop} : XOk A B env (xL A B env [] (xQ R)) (xQ R)
theorem C_fn_codex {a : Addr} {names : List Str} {fd : FuncData} {body : List Stmt} {xs : List V} {Q : V → List AObj → Prop} (F : Fn B a names fd body) (hlen : xs.length = names.length) (hroom : A.depth < recursionLimit)
    (h : ∀ L, ∃ X', XOk (A.deeper (callEnvC fd L a)) B (callEnvC fd L a) X' X ∧ WX prog w B (A.deeper (callEnvC fd L a)) (callEnvC fd L a) body (names.zip xs) σ (fun fl _ σ' => Q (retV fl) σ') X') :
    ∀ φ s vs, St prog w B φ σ s → Frs A B φ s.heap → Vals φ s.heap xs vs → codeAny (model prog w) A (.call (.ref a) ⟨vs, []⟩) (fun r s' => match r with | .ok (.ret v) => Post prog w B [] φ s (vQ Q) v s' | .ok _ => False | .error e => Post prog w B [] φ s X e s') s := fun φ s vs G FR hv => by
  obtain ⟨o, ho, hd⟩ := F.at_
  have hvl : vs.length = names.length := hv.length.trans hlen
  refine codeAny_call_cells hroom (G.base _ _ ho) hd (F.lim.keeps G.base) (F.code.keeps G.base) F.body (F.bind vs hvl) F.clo (fun p hp => ?_) (fun s₁ ic => ?_) F.co F.gen F.kind
  · have hn : p.1 ∈ names := (List.of_mem_zip hp).1
    rcases F.kinds _ hn with h1 | h1
    · exact .inl h1
    · exact .inr ⟨h1, cellsFrom_has _ _ _ _ (.inr h1)⟩
  · have hk := ic.toInCall.keep
    obtain ⟨h₁, tk, rfl⟩ := ic.toInCall.same
    have G₁ : St prog w B φ σ { s with heap := h₁, toks := tk } := G.keeps hk
    have hL : s.heap.get? s.heap.objs.size = none := get?_size _
    have hcl : ((callEnvC fd s.heap.objs.size a).cells.map (·.1)).Nodup := cellsFrom_keys _ _ _ (by simpa using F.cnodup)
    have hnew : ∀ c ∈ fr (callEnvC fd s.heap.objs.size a), s.heap.get? c = none := fun c hc => by
      rcases List.mem_cons.mp hc with rfl | hc
      · exact hL
      · obtain ⟨⟨x, d⟩, hm, rfl⟩ := List.mem_map.mp hc
        exact get?_of_ge (Nat.le_of_lt (ic.above x d hm))
    have tt : Step [] φ s.heap φ h₁ := .of_keeps hk
    have L₁ : Loc (A.deeper (callEnvC fd s.heap.objs.size a)) B (callEnvC fd s.heap.objs.size a) (names.zip xs) φ h₁ := by
      refine ⟨F.kind, F.glob, F.blt, ⟨_, ic.toInCall.ns⟩, fun c hc => ⟨fun hm => ?_, G.baseSize (hnew c hc)⟩, fun x c hm => ⟨_, ic.cell x c (lookup_of_mem hcl hm)⟩, ic.apart, fun x v hx => ?_, ?_, ?_⟩
      · obtain ⟨o', e'⟩ := G.there hm
        rw [hnew c hc] at e'; cases e'
      · have hn := zip_keys_mem hx
        obtain ⟨val, hval, hvv⟩ := zip_lookup_vals (hv.step G (.of_keeps hk)) hx
        have hbl : (names.zip vs).reverse.lookup x = some val := by
          rw [lookup_reverse_of_nodup]; exact hval
          rw [List.map_fst_zip (by (clear hvv hval hn hx tt hnew hcl hL G₁ hk ic hd ho hv FR G h hroom hlen F; lia))]; exact F.nodup
        refine ⟨val, ?_, hvv⟩
        rcases F.kinds x hn with h1 | h1
        · exact .inl ⟨h1, _, ic.toInCall.ns, by rw [bindL_at _ _ _ _ h1, hbl]; rfl⟩
        · obtain ⟨c, hc⟩ := Option.isSome_iff_exists.mp (cellsFrom_has fd.scope.names (s.heap.objs.size + 1) [] x (.inr h1))
          refine .inr ⟨.inl h1, c, hc, ?_⟩
          have := ic.cell x c hc
          rw [bindC_at _ _ _ _ h1, hbl] at this
          exact this
      · obtain ⟨l, hl, hf⟩ := FR.step tt
        refine ⟨_ :: l, Around.frames_deeper hl, fun e he => ?_⟩
        rcases List.mem_cons.mp he with rfl | he
        · obtain ⟨o, es, n, e1, hd, _⟩ := ic.toInCall.ns
          exact ⟨by rw [show (callEnvC fd s.heap.objs.size a).scope.kind = _ from F.kind]; simp, _, o, es, n, rfl, G.fresh, G.baseSize hL, e1, hd⟩
        · exact hf e he
      · obtain ⟨l, hl, _⟩ := FR
        exact ⟨_, l, Around.frames_deeper hl, rfl⟩
    have out : ∀ φ' (s' : Shared), Step (fr (callEnvC fd s.heap.objs.size a)) φ h₁ φ' s'.heap → Step [] φ s.heap φ' s'.heap := fun φ' s' t => by
      refine ⟨t.pre, fun b hb => ?_, fun b o e h1 _ => t.keep b o (hk b o e) h1 fun hb => ?_⟩
      · rcases t.fresh b hb with h1 | h1
        · exact .inl h1
        · right
          cases e : s.heap.get? b with
          | none => rfl
          | some o => rw [hk b o e] at h1; cases h1
      · rw [hnew b hb] at e; cases e
    obtain ⟨X', hX, hb⟩ := h s.heap.objs.size
    refine wpAny_mono (hb φ _ G₁ L₁) (fun f s' hx => ?_) (fun e s' hx => ?_)
    rotate_left
    · obtain ⟨φ', σ', t, G', x⟩ := hx
      cases hX with
      | no => exact x.elim
      | exc =>
        obtain ⟨⟨C, tt, τ, junk, ea, rfl, htb, rfl, ha, hR⟩, L'⟩ := x
        exact leave_W G' htb L' ha fun φ₂ t₂ junk₂ h₂ st htb₂ ha₂ G₂ => ⟨φ₂, _, (out _ _ t).trans0 st, G₂, C, some t₂, τ, junk₂, ea, rfl, htb₂, rfl, ha₂, hR⟩
    obtain ⟨φ', σ', t, G', fl, ρ', hf, L', q⟩ := hx
    have t' := out _ _ t
    refine ⟨φ', σ', t', G', retV fl, ?_, q⟩
    cases fl with
    | next => obtain rfl : f = .next := hf; simp [retV, Val]
    | brk => obtain rfl : f = .brk := hf; simp [retV, Val]
    | cont => obtain rfl : f = .cont := hf; simp [retV, Val]
    | ret x => obtain ⟨v, rfl, hv⟩ := hf; exact hv
theorem C_fn_code {a : Addr} {names : List Str} {fd : FuncData} {body : List Stmt} {xs : List V} {Q : V → List AObj → Prop} (F : Fn B a names fd body) (hlen : xs.length = names.length) (hroom : A.depth < recursionLimit)
    (h : ∀ L, WX prog w B (A.deeper (callEnvC fd L a)) (callEnvC fd L a) body (names.zip xs) σ (fun fl _ σ' => Q (retV fl) σ') (fun _ _ _ _ => False)) :
    ∀ φ s vs, St prog w B φ σ s → Frs A B φ s.heap → Vals φ s.heap xs vs → codeAny (model prog w) A (.call (.ref a) ⟨vs, []⟩) (fun r s' => match r with | .ok (.ret v) => Post prog w B [] φ s (vQ Q) v s' | .ok _ => False | .error e => Post prog w B [] φ s X e s') s :=
  C_fn_codex F hlen hroom fun L => ⟨_, .no, h L⟩
theorem C_fn {a : Addr} {names : List Str} {fd : FuncData} {body : List Stmt} {xs : List V} {Q : V → List AObj → Prop} (F : Fn B a names fd body) (hlen : xs.length = names.length) (hroom : A.depth < recursionLimit)
    (h : ∀ L, WX prog w B (A.deeper (callEnvC fd L a)) (callEnvC fd L a) body (names.zip xs) σ (fun fl _ σ' => Q (retV fl) σ') (fun _ _ _ _ => False)) :
    WC prog w B A (.ref a) xs σ Q X := fun φ s vs G FR hv => wpAny_call (C_fn_code F hlen hroom h φ s vs G FR hv)
end
end Mine

set_option autoImplicit false
set_option linter.unusedVariables false
namespace Mine
open PySem PySem.Calls PyProof.Rows

section
variable {prog : Program} {w : World} {B : Shared} {φ : List Addr} {σ : List AObj} {s : Shared} {env : Env} {ρ : List (Str × V)} {A : Around} {X : XT} {Q : V → List AObj → Prop}

theorem Val.int_ {h : Heap} (i : Int) (t : Tok) : Val φ h (.int i) (.int i t) := by rw [Val]; exact ⟨t, rfl⟩
theorem Val.str_ {h : Heap} (x : Str) (t : Tok) : Val φ h (.str x) (.str x t) := by rw [Val]; exact ⟨t, rfl⟩
theorem Val.bool_ {h : Heap} (b : Bool) : Val φ h (.bool b) (.bool b) := by rw [Val]
theorem Val.none_ {h : Heap} : Val φ h .none .none := by rw [Val]
theorem Val.of_int {h : Heap} {i : Int} {v : Value} (e : Val φ h (.int i) v) : ∃ t, v = .int i t := by rw [Val] at e; exact e
theorem Val.of_str {h : Heap} {x : Str} {v : Value} (e : Val φ h (.str x) v) : ∃ t, v = .str x t := by rw [Val] at e; exact e
theorem Val.of_bool {h : Heap} {b : Bool} {v : Value} (e : Val φ h (.bool b) v) : v = .bool b := by rw [Val] at e; exact e
theorem Val.of_none {h : Heap} {v : Value} (e : Val φ h .none v) : v = .none := by rw [Val] at e; exact e
theorem Val.of_raw {h : Heap} {u v : Value} (e : Val φ h (.raw u) v) : v = u := by rw [Val] at e; exact e
theorem Val.of_ref {h : Heap} {k : Nat} {v : Value} (e : Val φ h (.ref k) v) : ∃ a, v = .ref a ∧ φ[k]? = some a := by rw [Val] at e; exact e
theorem Val.of_tup {h : Heap} {xs : List V} {v : Value} (e : Val φ h (.tup xs) v) : ∃ a vs, v = .ref a ∧ IsTup h a vs ∧ Vals φ h xs vs.toList := by rw [Val] at e; exact e
theorem Val.raw_ {h : Heap} (v : Value) : Val φ h (.raw v) v := by rw [Val]

theorem beqD {α : Type} [DecidableEq α] (a b : α) : (a == b) = decide (a = b) := by rw [Bool.eq_iff_iff]; simp

/-! ints -/
theorem O_add {a b : Int} (q : Q (.int (a + b)) σ) : W2 prog w B A (binaryOp .Add) (.int a) (.int b) σ Q X := fun φ s v u G hv hu => by
  obtain ⟨t, rfl⟩ := hv.of_int; obtain ⟨t', rfl⟩ := hu.of_int
  exact wpAny_add_int (Post.tok G ⟨_, .int_ _ _, q⟩)
theorem O_sub {a b : Int} (q : Q (.int (a - b)) σ) : W2 prog w B A (binaryOp .Sub) (.int a) (.int b) σ Q X := fun φ s v u G hv hu => by
  obtain ⟨t, rfl⟩ := hv.of_int; obtain ⟨t', rfl⟩ := hu.of_int
  exact P.sub_int (Post.tok G ⟨_, .int_ _ _, q⟩)
theorem O_mul {a b : Int} (q : Q (.int (a * b)) σ) (hm : a.natAbs < 2 ^ 63 ∨ b.natAbs < 2 ^ 63) : W2 prog w B A (binaryOp .Mult) (.int a) (.int b) σ Q X := fun φ s v u G hv hu => by
  obtain ⟨t, rfl⟩ := hv.of_int; obtain ⟨t', rfl⟩ := hu.of_int
  exact P.mul_int (Post.tok G ⟨_, .int_ _ _, q⟩) (hm.elim (fun h => IntMulOk.of_left (intBits_le_64 (by omega) (by omega))) fun h => IntMulOk.of_right (intBits_le_64 (by omega) (by omega)))
theorem O_div {a b : Int} (q : Q (.int (a / b)) σ) (hb : 0 < b) (hs : b.natAbs.log2 < 9000) : W2 prog w B A (binaryOp .FloorDiv) (.int a) (.int b) σ Q X := fun φ s v u G hv hu => by
  obtain ⟨t, rfl⟩ := hv.of_int; obtain ⟨t', rfl⟩ := hu.of_int
  refine floordiv_int (by (clear hu hv G hs q; omega)) ?_ (.inl (PyProof.noPylong_of_log2 hs))
  rw [Int.fdiv_eq_ediv_of_nonneg _ (by (clear hu hv G hs q; lia))]
  exact Post.tok G ⟨_, .int_ _ _, q⟩
theorem O_mod {a b : Int} (q : Q (.int (a % b)) σ) (hb : 0 < b) : W2 prog w B A (binaryOp .Mod) (.int a) (.int b) σ Q X := fun φ s v u G hv hu => by
  obtain ⟨t, rfl⟩ := hv.of_int; obtain ⟨t', rfl⟩ := hu.of_int
  refine mod_int' (by omega) ?_
  rw [Int.fmod_eq_emod_of_nonneg _ (by (clear hu hv G q; lia))]
  exact Post.tok G ⟨_, .int_ _ _, q⟩
theorem O_pow {a : Int} {n : Int} (q : Q (.int (a ^ n.toNat)) σ) (hn : 0 ≤ n) (hn2 : n ≤ 1000000) (ha : a.natAbs < 2 ^ 64) : W2 prog w B A (binaryOp .Pow) (.int a) (.int n) σ Q X := fun φ s v u G hv hu => by
  obtain ⟨t, rfl⟩ := hv.of_int; obtain ⟨t', rfl⟩ := hu.of_int
  exact pow_int_small hn hn2 ha (Post.tok G ⟨_, .int_ _ _, q⟩)
theorem O_lt {a b : Int} (q : Q (.bool (decide (a < b))) σ) : W2 prog w B A (compareOp .Lt) (.int a) (.int b) σ Q X := fun φ s v u G hv hu => by
  obtain ⟨t, rfl⟩ := hv.of_int; obtain ⟨t', rfl⟩ := hu.of_int
  exact P.lt_int (Post.here G ⟨_, .bool_ _, q⟩)
theorem O_le {a b : Int} (q : Q (.bool (decide (a ≤ b))) σ) : W2 prog w B A (compareOp .LtE) (.int a) (.int b) σ Q X := fun φ s v u G hv hu => by
  obtain ⟨t, rfl⟩ := hv.of_int; obtain ⟨t', rfl⟩ := hu.of_int
  exact P.le_int (Post.here G ⟨_, .bool_ _, q⟩)
theorem O_gt {a b : Int} (q : Q (.bool (decide (b < a))) σ) : W2 prog w B A (compareOp .Gt) (.int a) (.int b) σ Q X := fun φ s v u G hv hu => by
  obtain ⟨t, rfl⟩ := hv.of_int; obtain ⟨t', rfl⟩ := hu.of_int
  exact P.gt_int (Post.here G ⟨_, .bool_ _, q⟩)
theorem O_ge {a b : Int} (q : Q (.bool (decide (b ≤ a))) σ) : W2 prog w B A (compareOp .GtE) (.int a) (.int b) σ Q X := fun φ s v u G hv hu => by
  obtain ⟨t, rfl⟩ := hv.of_int; obtain ⟨t', rfl⟩ := hu.of_int
  exact P.ge_int (Post.here G ⟨_, .bool_ _, q⟩)
theorem O_eq {a b : Int} (q : Q (.bool (decide (a = b))) σ) : W2 prog w B A (compareOp .Eq) (.int a) (.int b) σ Q X := fun φ s v u G hv hu => by
  obtain ⟨t, rfl⟩ := hv.of_int; obtain ⟨t', rfl⟩ := hu.of_int
  exact P.eq_int (Post.here G ⟨_, .bool_ _, by rw [beqD]; exact q⟩)
theorem O_ne {a b : Int} (q : Q (.bool (!decide (a = b))) σ) : W2 prog w B A (compareOp .NotEq) (.int a) (.int b) σ Q X := fun φ s v u G hv hu => by
  obtain ⟨t, rfl⟩ := hv.of_int; obtain ⟨t', rfl⟩ := hu.of_int
  exact P.ne_int (Post.here G ⟨_, .bool_ _, by rw [bne, beqD]; exact q⟩)

/-! strs -/
theorem O_adds {x y : Str} (q : Q (.str (x ++ y)) σ) (hsz : x.length + y.length ≤ sizeLine) : W2 prog w B A (binaryOp .Add) (.str x) (.str y) σ Q X := fun φ s v u G hv hu => by
  obtain ⟨t, rfl⟩ := hv.of_str; obtain ⟨t', rfl⟩ := hu.of_str
  exact PyProof.Rows.add_str (fun t' tk => Post.tok G ⟨_, .str_ _ _, q⟩) hsz
theorem O_nes {x y : Str} (q : Q (.bool (!decide (x = y))) σ) : W2 prog w B A (compareOp .NotEq) (.str x) (.str y) σ Q X := fun φ s v u G hv hu => by
  obtain ⟨t, rfl⟩ := hv.of_str; obtain ⟨t', rfl⟩ := hu.of_str
  exact PyProof.Rows.ne_str (Post.here G ⟨_, .bool_ _, by rw [bne, beqD]; exact q⟩)
/-- a text in a text -/
def inS (x y : Str) : Bool := !(Builtin.Str.occurrences x y 0 x.length 1).isEmpty
theorem O_notins {x y : Str} (q : Q (.bool (!inS x y)) σ) : W2 prog w B A (compareOp .NotIn) (.str y) (.str x) σ Q X := fun φ s v u G hv hu => by
  obtain ⟨t, rfl⟩ := hv.of_str; obtain ⟨t', rfl⟩ := hu.of_str
  exact PyProof.Rows.notIn_str (Post.here G ⟨_, .bool_ _, q⟩)

/-! bools -/
/-! is -/
/-! truth -/
theorem T_b {b : Bool} {Q : Bool → List AObj → Prop} (q : Q b σ) : W1 prog w B A truthy (.bool b) σ (bQ Q) X := fun φ s v G hv => by
  obtain rfl := hv.of_bool
  exact wpAny_truthy_bool (Post.here G q)
theorem O_not {b : Bool} (q : Q (.bool (!b)) σ) : W1 prog w B A (unaryOp .Not) (.bool b) σ (vQ Q) X := fun φ s v G hv => by
  obtain rfl := hv.of_bool
  exact not_of (wpAny_truthy_bool (Post.here G ⟨_, .bool_ _, q⟩))

/-! chains of comparisons -/
theorem E_cmp2 {l r₁ r₂ : Expr} {op₁ op₂ : CmpOp} {pos : Pos}
    (h : WE prog w B A env l ρ σ (fun x σ₁ => WE prog w B A env r₁ ρ σ₁ (fun y σ₂ => W2 prog w B A (compareOp op₁) x y σ₂ (fun c σ₃ => W1 prog w B A truthy c σ₃ (bQ fun b σ₄ =>
      if b then WE prog w B A env r₂ ρ σ₄ (fun z σ₅ => W2 prog w B A (compareOp op₂) y z σ₅ Q X) X else Q c σ₄) X) X) X) X)
    (hm : lastMarks [op₁, op₂] [r₁, r₂] = false := by with_unfolding_all rfl) : WE prog w B A env (.Compare l [op₁, op₂] [r₁, r₂] pos) ρ σ Q X := fun φ s G L =>
  Compare_chain ((h φ s G L).useV (.refl ..) fun a s₁ φ₁ σ₁ t₁ _ G₁ x hx h₁ => chain_link ((h₁ φ₁ s₁ G₁ (L.step G t₁)).useV t₁ fun b s₂ φ₂ σ₂ t₂ t G₂ y hy h₂ =>
    (h₂ φ₂ s₂ a b G₂ (hx.step G₁ t₂) hy).useV t fun c s₃ φ₃ σ₃ t₃ t' G₃ z hz h₃ => (h₃ φ₃ s₃ c G₃ hz).use t' fun d s₄ φ₄ σ₄ t₄ t'' G₄ h₄ => by
      cases d
      · exact ⟨_, _, t'', G₄, z, hz.step G₃ t₄, h₄⟩
      · exact chain_last ((h₄ φ₄ s₄ G₄ (L.step G t'')).useV t'' fun e s₅ φ₅ σ₅ t₅ t5 G₅ z' hz' h₅ => (h₅ φ₅ s₅ b e G₅ (hy.step G₂ (t₃.trans0 (t₄.trans0 t₅))) hz').last t5))) hm
theorem T_cmp2 {l r₁ r₂ : Expr} {op₁ op₂ : CmpOp} {pos : Pos} {Q : Bool → List AObj → Prop}
    (h : WE prog w B A env l ρ σ (fun x σ₁ => WE prog w B A env r₁ ρ σ₁ (fun y σ₂ => W2 prog w B A (compareOp op₁) x y σ₂ (fun c σ₃ => W1 prog w B A truthy c σ₃ (bQ fun b σ₄ =>
      if b then WE prog w B A env r₂ ρ σ₄ (fun z σ₅ => W2 prog w B A (compareOp op₂) y z σ₅ (fun c' σ₆ => W1 prog w B A truthy c' σ₆ (bQ Q) X) X) X else Q false σ₄) X) X) X) X)
    (hm : lastMarks [op₁, op₂] [r₁, r₂] = false := by with_unfolding_all rfl) : WT prog w B A env (.Compare l [op₁, op₂] [r₁, r₂] pos) ρ σ Q X := fun φ s G L =>
  isTrue_chain ((h φ s G L).useV (.refl ..) fun a s₁ φ₁ σ₁ t₁ _ G₁ x hx h₁ => test_link ((h₁ φ₁ s₁ G₁ (L.step G t₁)).useV t₁ fun b s₂ φ₂ σ₂ t₂ t G₂ y hy h₂ =>
    (h₂ φ₂ s₂ a b G₂ (hx.step G₁ t₂) hy).useV t fun c s₃ φ₃ σ₃ t₃ t' G₃ z hz h₃ => (h₃ φ₃ s₃ c G₃ hz).use t' fun d s₄ φ₄ σ₄ t₄ t'' G₄ h₄ => by
      cases d
      · exact ⟨_, _, t'', G₄, h₄⟩
      · exact test_last ((h₄ φ₄ s₄ G₄ (L.step G t'')).useV t'' fun e s₅ φ₅ σ₅ t₅ t5 G₅ z' hz' h₅ => (h₅ φ₅ s₅ b e G₅ (hy.step G₂ (t₃.trans0 (t₄.trans0 t₅))) hz').use t5
          fun c' s₆ φ₆ σ₆ t₆ t6 G₆ ⟨y', hy', h₆⟩ => (h₆ φ₆ s₆ c' G₆ hy').last t6))) hm

/-! and, or of any number, as values -/
def WBo (prog : Program) (w : World) (B : Shared) (A : Around) (env : Env) (op : BoolOp) (es : List Expr) (ρ : List (Str × V)) (σ : List AObj) (Q : V → List AObj → Prop) (X : XT) : Prop :=
  ∀ pos φ s, St prog w B φ σ s → Loc A B env ρ φ s.heap → W prog w B A (boolOp pos op (evalEach es env)) φ s (vQ Q) X
theorem E_boolop {op : BoolOp} {es : List Expr} {pos : Pos} (h : WBo prog w B A env op es ρ σ Q X) : WE prog w B A env (.BoolOp op es pos) ρ σ Q X := fun φ s G L => h pos φ s G L
theorem Bo_one {op : BoolOp} {e : Expr} (h : WE prog w B A env e ρ σ Q X) : WBo prog w B A env op [e] ρ σ Q X := fun pos φ s G L => h φ s G L
theorem Bo_and {e e' : Expr} {es : List Expr} (h : WE prog w B A env e ρ σ (fun v σ₁ => W1 prog w B A truthy v σ₁ (bQ fun b σ₂ => if b then WBo prog w B A env .And (e' :: es) ρ σ₂ Q X else Q v σ₂) X) X) : WBo prog w B A env .And (e :: e' :: es) ρ σ Q X := fun pos φ s G L => by
  show wpAny _ _ (do
    let v ← eval e env
    standAt pos
    let t ← holding [v] (truthy v)
    match BoolOp.And, t with
    | .And, false | .Or, true => pure v
    | _, _ => boolOp pos .And (evalEach (e' :: es) env)) _ _ _
  refine wpAny_bind ((h φ s G L).useV (.refl ..) fun a s₁ φ₁ σ₁ t₁ _ G₁ x hx h₁ => wpAny_bind (wpAny_standAt (wpAny_bind (wpAny_holding ((h₁ φ₁ s₁ a G₁ hx).use t₁ fun b s₂ φ₂ σ₂ t₂ t G₂ h₂ => ?_)))))
  cases b
  · exact wpAny_pure ⟨_, _, t, G₂, x, hx.step G₁ t₂, h₂⟩
  · exact (h₂ pos φ₂ s₂ G₂ (L.step G t)).last t
/-! built-ins of ints -/
theorem C_max {a b : Int} (hh : A.handled = none) (q : Q (.int (max a b)) σ) : WC prog w B A (.builtin "max") [.int a, .int b] σ Q X := fun φ s vs G FR hv => by
  rw [Vals] at hv; obtain ⟨v, r, rfl, h1, hv⟩ := hv
  rw [Vals] at hv; obtain ⟨u, r, rfl, h2, hv⟩ := hv
  rw [Vals] at hv; subst hv
  obtain ⟨t, rfl⟩ := h1.of_int; obtain ⟨t', rfl⟩ := h2.of_int
  refine max_two_ints hh fun h' tk hk => ⟨φ, σ, .of_keeps hk, G.keeps hk, .int (max a b), ?_, q⟩
  split
  · rw [Int.max_eq_right (by (clear hk h2 h1 FR G q hh; lia))]; exact .int_ _ _
  · rw [Int.max_eq_left (by (clear hk h2 h1 FR G q hh; lia))]; exact .int_ _ _
theorem C_min {a b : Int} (hh : A.handled = none) (q : Q (.int (min a b)) σ) : WC prog w B A (.builtin "min") [.int a, .int b] σ Q X := fun φ s vs G FR hv => by
  rw [Vals] at hv; obtain ⟨v, r, rfl, h1, hv⟩ := hv
  rw [Vals] at hv; obtain ⟨u, r, rfl, h2, hv⟩ := hv
  rw [Vals] at hv; subst hv
  obtain ⟨t, rfl⟩ := h1.of_int; obtain ⟨t', rfl⟩ := h2.of_int
  refine min_two_ints hh fun h' tk hk => ⟨φ, σ, .of_keeps hk, G.keeps hk, .int (min a b), ?_, q⟩
  split
  · rw [Int.min_eq_right (by (clear hk h2 h1 FR G q hh; lia))]; exact .int_ _ _
  · rw [Int.min_eq_left (by (clear hk h2 h1 FR G q hh; lia))]; exact .int_ _ _
end
end Mine

set_option autoImplicit false
set_option linter.unusedVariables false
namespace Mine
open PySem PySem.W PySem.Calls PyProof.Rows

/-- what may be called plainly -/
def Keep (B : Shared) (f : Value) : Prop :=
  ∀ (M : Model) (h : Heap), (∀ b o, B.heap.get? b = some o → h.get? b = some o) → ∃ k, (k = Keeper.frame ∨ k = Keeper.machine ∨ k = Keeper.boundFrame) ∧ Looks M h (keeperOf f) k

section
variable {prog : Program} {w : World} {B : Shared} {φ : List Addr} {σ : List AObj} {s : Shared} {env : Env} {ρ : List (Str × V)} {A : Around} {X : XT} {Q : V → List AObj → Prop}

theorem Keep.builtin (id : String) : Keep B (.builtin id) := fun M h _ => ⟨.machine, .inr (.inl rfl), .now⟩
theorem Keep.type (T : String) : Keep B (.type T) := fun M h _ => ⟨.machine, .inr (.inl rfl), .now⟩
theorem Keep.fn {a : Addr} {names : List Str} {fd : FuncData} {body : List Stmt} (F : Fn B a names fd body) : Keep B (.ref a) := fun M h hk => by
  obtain ⟨o, ho, hd⟩ := F.at_
  refine ⟨.frame, .inl rfl, (Looks.ld (part := none) (hk _ _ ho)).andThen ?_⟩
  rw [hd]; exact .now
theorem evalArgs_any {M : Model} {E : Value → Shared → Prop} {f : Value} {args : List (Bool × Sem Value)} {R : Args → Shared → Prop} (hp : args.any (·.1) = false) (h : wpAny M A (spliced args) (fun vs s' => R ⟨vs, []⟩ s') E s) :
    wpAny M A (evalArgs f true args []) R E s := by
  match args, hp, h with
  | [], _, h =>
    unfold evalArgs
    show wpAny M A (spliced [] >>= _) R E s
    refine wpAny_bind (wpAny_mono h (fun vs s' h' => ?_) fun _ _ x => x)
    refine wpAny_holding ?_
    exact wpAny_bind (wpAny_pure (wpAny_bind (wpAny_pure (wpAny_pure h'))))
  | (false, x) :: rest, _, h => exact evalArgs_plain h
  | (true, x) :: rest, hp, _ => simp at hp

theorem E_call {f : Value} {x : Str} {px pos : Pos} {es : List Expr} (hf : WE prog w B A env (.Name x px) ρ σ (fun y σ₁ => y = .raw f ∧ WEs prog w B A env es ρ σ₁ (fun xs σ₂ => WC prog w B A f xs σ₂ Q X) X) X) (hk : Keep B f)
    (hp : ∀ pos, (backTo pos (starEach es env)).any (·.1) = false := by intro _; with_unfolding_all rfl) :
    WE prog w B A env (.Call (.Name x px) es [] pos) ρ σ Q X := fun φ s G L => by
  refine wpAny_Call_NameR ((hf φ s G L).useV (.refl ..) fun v s₁ φ₁ σ₁ t₁ _ G₁ y hy ⟨e, h₁⟩ => ?_)
  subst e
  have hv := hy.of_raw
  subst hv
  refine callWith_of (P := fun h => ∀ b o, B.heap.get? b = some o → h.get? b = some o) (by rw [hp pos]; rfl) (fun h hb => hk _ h hb) ?_
  have main := (h₁ pos φ₁ s₁ G₁ (L.step G t₁)).use t₁ (R := fun vs s₂ => (∀ b o, B.heap.get? b = some o → s₂.heap.get? b = some o) ∧ wpAny (model prog w) A (call v ([] ++ vs)) (Post prog w B [] φ s (vQ Q)) (Post prog w B [] φ s X) s₂) fun vs s₂ φ₂ σ₂ t₂ t G₂ ⟨xs, hxs, h₂⟩ => ⟨G₂.base, (h₂ φ₂ s₂ vs G₂ (L.frs.step t) hxs).last t⟩
  exact evalArgs_any (hp pos) main
end
end Mine

set_option autoImplicit false
set_option linter.unusedVariables false
namespace Mine
open PySem PySem.W PySem.Calls PyProof.Rows

section
variable {prog : Program} {w : World} {B : Shared} {φ φ' : List Addr} {σ σ' : List AObj} {s s' : Shared} {env : Env} {ρ : List (Str × V)} {A : Around} {X : XT} {Q : V → List AObj → Prop}

/-- an iterator at I that hands out n values -/
structure Itr (prog : Program) (w : World) (B : Shared) (A : Around) (I : Addr) (n : Nat) (el : Nat → V) (C : List AObj → Prop) (Ss : Nat → List Addr → Heap → Prop) : Prop where
  obj : ∀ i φ h, Ss i φ h → ∃ o, h.get? I = some o ∧ NoD o ∧ ¬ Still o
  frame : ∀ i φ φ' h h', Ss i φ h → φ <+: φ' → (∀ o, h.get? I = some o → h'.get? I = some o) → (∀ a o, h.get? a = some o → Still o → h'.get? a = some o) → Ss i φ' h'
  item : ∀ i φ σ s (Q : Option Value → Shared → Prop) (E : Value → Shared → Prop), i < n → St prog w B φ σ s → C σ → Ss i φ s.heap →
    (∀ v h' tk, Val φ h' (el i) v → Ss (i + 1) φ h' → (∀ b o, b ≠ I → s.heap.get? b = some o → h'.get? b = some o) → Q (some v) { s with heap := h', toks := tk }) → wpAny (model prog w) A (pyNext (.ref I)) Q E s
  done : ∀ φ σ s (Q : Option Value → Shared → Prop) (E : Value → Shared → Prop), St prog w B φ σ s → C σ → Ss n φ s.heap →
    (∀ h' tk, (∀ b o, b ≠ I → s.heap.get? b = some o → h'.get? b = some o) → Q none { s with heap := h', toks := tk }) → wpAny (model prog w) A (pyNext (.ref I)) Q E s
  self : ∀ i φ s (Q : Value → Shared → Prop) (E : Value → Shared → Prop), Ss i φ s.heap → Q (.ref I) s → wpAny (model prog w) A (pyIter (.ref I)) Q E s

/-- a value that can be walked; σ₁: the heap while it is walked -/
def WIt (prog : Program) (w : World) (B : Shared) (A : Around) (x : V) (σ σ₁ : List AObj) (n : Nat) (el : Nat → V) (C : List AObj → Prop) : Prop :=
  ∀ φ s v (R : Value → Shared → Prop) (E : Value → Shared → Prop), St prog w B φ σ s → Val φ s.heap x v →
    (∀ I h₁ Ss, (∀ b o, s.heap.get? b = some o → h₁.get? b = some o) → s.heap.get? I = none → I ∉ φ → Itr prog w B A I n el C Ss → Ss 0 φ h₁ → St prog w B φ σ₁ { s with heap := h₁ } → R (.ref I) { s with heap := h₁ }) →
    wpAny (model prog w) A (pyIter v) R E s

theorem St.but {s' : Shared} {c : Addr} (G : St prog w B φ σ s) (hs : ∀ b o, b ≠ c → s.heap.get? b = some o → s'.heap.get? b = some o) (hc : c ∉ φ) (hb : B.heap.get? c = none) (hn : ∀ o, s.heap.get? c = some o → ¬ Still o)
    (hg : s'.gens = s.gens := by rfl) (ho : s'.os = s.os := by rfl) : St prog w B φ σ s' := by
  refine ⟨fun b o e => hs b o (fun h => by rw [h, hb] at e; cases e) (G.base b o e), G.new, G.nodup, G.len, fun k a ob h1 h2 => ?_, hg.trans G.gens, ho.trans G.os, G.sys⟩
  refine (G.objs k a ob h1 h2).mono (List.prefix_refl _) (fun a o e hst => hs a o (fun h => hn o (h ▸ e) hst) e) fun o e => hs a o (fun h => hc (h ▸ List.mem_of_getElem? h1)) e
theorem Loc.but {h h' : Heap} {c : Addr} (L : Loc A B env ρ φ h) (hs : ∀ b o, b ≠ c → h.get? b = some o → h'.get? b = some o) (hc : c ∉ fr env) (hn : ∀ o, h.get? c = some o → ¬ Still o) (hF : Frs A B φ h') : Loc A B env ρ φ h' := by
  have hk : ∀ a ∈ fr env, ∀ o, h.get? a = some o → ∃ o', h'.get? a = some o' ∧ Sim o o' := fun a ha o e => ⟨o, hs a o (fun h => hc (h ▸ ha)) e, .refl o⟩
  refine ⟨L.kind, L.glob, L.blt, ?_, L.own, fun x d hm => ?_, L.apart, fun x v hx => ?_, hF, L.top⟩
  · obtain ⟨m, n⟩ := L.ns; exact ⟨m, Ns.upTo n (hk _ (.head _))⟩
  · obtain ⟨v, n⟩ := L.cells x d hm; exact ⟨v, IsCell.upTo n (hk _ (mem_fr_cell hm))⟩
  · obtain ⟨val, hb, hv⟩ := L.val x v hx
    refine ⟨val, ?_, Val.mono (List.prefix_refl _) (fun a o e hst => hs a o (fun h => hn o (h ▸ e) hst) e) v hv⟩
    rcases hb with ⟨k, m, n, e⟩ | ⟨k, d, e, n⟩
    · exact .inl ⟨k, m, Ns.upTo n (hk _ (.head _)), e⟩
    · exact .inr ⟨k, d, e, IsCell.upTo n (hk _ (mem_fr_cell (mem_of_lookup e)))⟩

/-- what a turn of a loop leaves -/
def turnQ (Iv : List (Str × V) → List AObj → Prop) (C : List AObj → Prop) (Q : Fl → List (Str × V) → List AObj → Prop) : Fl → List (Str × V) → List AObj → Prop
  | .next, ρ', σ' => C σ' ∧ Iv ρ' σ'
  | .cont, ρ', σ' => C σ' ∧ Iv ρ' σ'
  | .brk, ρ', σ' => Q .next ρ' σ'
  | .ret x, ρ', σ' => Q (.ret x) ρ' σ'

/-- what a loop's body may raise, and what then comes out of the loop -/
inductive XB (A : Around) (B : Shared) (env : Env) : XT → XT → Prop
  | no {X : XT} : XB A B env (fun _ _ _ _ => False) X
  | exc {l : List (Str × V)} {R : Addr → List AObj → Prop} : XB A B env (xL A B env l (xQ R)) (xL A B env l (xQ R))
theorem X_for {x : Str} {px pos : Pos} {iter : Expr} {body : List Stmt} {Q : Fl → List (Str × V) → List AObj → Prop} 
    (h : WE prog w B A env iter ρ σ (fun v σ' => ∃ σ₁ n el C X', XB A B env X' X ∧ ∃ Iv : Nat → List (Str × V) → List AObj → Prop, WIt prog w B A v σ' σ₁ n el C ∧ C σ₁ ∧ Iv 0 ρ σ₁ ∧
      (∀ i ρ₂ σ₂, i < n → C σ₂ → Iv i ρ₂ σ₂ → WX prog w B A env body ((x, el i) :: ρ₂) σ₂ (turnQ (Iv (i + 1)) C Q) X') ∧
      (∀ ρ₂ σ₂, C σ₂ → Iv n ρ₂ σ₂ → Q .next ρ₂ σ₂)) X)
    (hx : env.kindOf x = some .local ∨ env.kindOf x = some .cell ∧ (env.cells.lookup x).isSome = true)
    (hs : ∀ v, foldedSetIterable iter env v = pure v := by intro _; with_unfolding_all rfl) (hl : ∀ it v, letOwnedTupleGo (.Name x px) it v = pure () := by intro _ _; with_unfolding_all rfl) :
    WX1 prog w B A env (.For (.Name x px) iter body [] pos) ρ σ Q X := fun φ s G L => by
  refine wpAny_For (h.then G L fun v s₁ φ₁ σ' y t₁ G₁ L₁ hy hq => ?_) hs
  obtain ⟨σ₁, n, el, C, X', hXB, Iv, hit, hC, hI, hbody, hend⟩ := hq
  refine hit φ₁ s₁ v _ _ G₁ hy fun I h₁ Ss hk hI0 hIφ W hS G₂ => ?_
  have tk0 : Step [] φ₁ s₁.heap φ₁ h₁ := .of_keeps hk
  have L₂ : Loc A B env ρ φ₁ h₁ := L₁.step G₁ tk0
  have hIfr : I ∉ fr env := fun hm => by obtain ⟨o, e, _⟩ := L₁.there hm; rw [hI0] at e; cases e
  have hIB : B.heap.get? I = none := G₁.baseSize hI0
  have hI0' : s.heap.get? I = none := by
    cases e : s.heap.get? I with
    | none => rfl
    | some o =>
      by_cases hm : I ∈ φ
      · exact absurd (t₁.pre.subset hm) hIφ
      · obtain ⟨o', e', _⟩ := t₁.keep I o e hm (fun h => nomatch h); rw [hI0] at e'; cases e'
  have t₂ : Step (fr env) φ s.heap φ₁ h₁ := Step.nilD (t₁.trans0 tk0)
  -- the loop
  refine codeAny_forLoop_any (fun k s' => ∃ i φ' σ' ρ', k = n - i ∧ i ≤ n ∧ Step (fr env) φ s.heap φ' s'.heap ∧ St prog w B φ' σ' s' ∧ Loc A B env ρ' φ' s'.heap ∧ I ∉ φ' ∧ Ss i φ' s'.heap ∧ C σ' ∧ Iv i ρ' σ') ?_ n
    ⟨0, φ₁, σ₁, ρ, rfl, Nat.zero_le _, t₂, G₂, L₂, hIφ, hS, hC, hI⟩
  rintro k s' ⟨i, φ', σ', ρ', rfl, hin, tt, G', L', hIφ', hS', hC', hI'⟩
  by_cases hlt : i < n
  · refine W.item i φ' σ' s' _ _ hlt G' hC' hS' fun v h₃ tk hv hS₃ hk₃ => ?_
    refine wpAny_of_eq (hl _ _) ?_
    obtain ⟨oI, heI, hcI, hnI⟩ := W.obj _ _ _ hS'
    have hnI' : ∀ o, s'.heap.get? I = some o → ¬ Still o := fun o e => by rw [heI] at e; cases e; exact hnI
    have G₃ : St prog w B φ' σ' { s' with heap := h₃, toks := tk } := G'.but (s' := { s' with heap := h₃, toks := tk }) hk₃ hIφ' hIB hnI'
    have L₃ : Loc A B env ρ' φ' h₃ := L'.but hk₃ hIfr hnI' (L'.frs.at hk₃ (.inr fun o e => by rw [heI] at e; cases e; exact hcI))
    refine wpAny_assign_Name (store_name (s := { s' with heap := h₃, toks := tk }) G₃ L₃ hv hx fun h₄ tk₄ t₄ G₄ L₄ => ?_)
    have t3 : Step (fr env) φ s.heap φ' h₃ := by
      refine ⟨tt.pre, tt.fresh, fun b o e h1 h2 => ?_⟩
      obtain ⟨o', e', hs'⟩ := tt.keep b o e h1 h2
      exact ⟨o', hk₃ b o' (fun h => by rw [h, hI0'] at e; cases e) e', hs'⟩
    refine wpAny_mono (hbody i ρ' σ' hlt hC' hI' φ' _ G₄ L₄) (fun f s₅ hx => ?_) (fun e s₅ hx => ?_)
    rotate_left
    · obtain ⟨φ₅, σ₅, t₅, G₅, x⟩ := hx
      cases hXB with
      | no => exact x.elim
      | exc =>
        obtain ⟨⟨C, tq, τ, junk, ea, rfl, htb, rfl, ha, hR⟩, L₅⟩ := x
        exact came_W G₅ htb L₅ ha fun φ₂ t₂ junk₂ h₂ st htb₂ ha₂ G₂ => ⟨φ₂, _, ((t3.transF t₄ L₃).transF t₅ L₄).transF st.nilD L₅, G₂, ⟨C, some t₂, τ, junk₂, ea, rfl, htb₂, rfl, ha₂, hR⟩, L₅.step G₅ st⟩
    obtain ⟨φ₅, σ₅, t₅, G₅, fl, ρ₅, hf, L₅, q⟩ := hx
    have t5 : Step (fr env) φ s.heap φ₅ s₅.heap := (t3.transF t₄ L₃).transF t₅ L₄
    have hS₄ : Ss (i + 1) φ' h₄ := by
      obtain ⟨oJ, heJ, hcJ, hnJ⟩ := W.obj _ _ _ hS₃
      refine W.frame _ _ _ _ _ hS₃ (List.prefix_refl _) (fun o e => ?_) (t₄.still G₃ (fr_notStill L₃))
      rw [heJ] at e; cases e
      obtain ⟨o', e', hs'⟩ := t₄.keep I oJ heJ hIφ' hIfr
      rw [hs'.same hcJ] at e'; exact e'
    have hIφ₅ : I ∉ φ₅ := fun hm => by
      obtain ⟨oJ, heJ, hcJ, hnJ⟩ := W.obj _ _ _ hS₄
      rcases t₅.fresh I hm with h | h
      · exact hIφ' h
      · rw [heJ] at h; cases h
    have hS₅ : Ss (i + 1) φ₅ s₅.heap := by
      obtain ⟨oJ, heJ, hcJ, hnJ⟩ := W.obj _ _ _ hS₄
      refine W.frame _ _ _ _ _ hS₄ t₅.pre (fun o e => ?_) (t₅.still G₄ (fr_notStill L₄))
      rw [heJ] at e; cases e
      obtain ⟨o', e', hs'⟩ := t₅.keep I oJ heJ hIφ' hIfr
      rw [hs'.same hcJ] at e'; exact e'
    cases fl with
    | next => obtain rfl : f = .next := hf; exact ⟨n - (i + 1), by (clear q hS₅ hIφ₅ hS₄ t5 L₅ G₅ t₅ t3 L₄ G₄ t₄ L₃ G₃ hnI' hnI hcI heI hk₃ hS₃ hv hI' hC' hS' hIφ' L' G' tt hin t₂ hI0' hIB hIfr L₂ tk0 G₂ hS W hIφ hI0 hk hend hbody hI hC hit hXB hy L₁ G₁ t₁ L G hl hs hx h; lia), i + 1, φ₅, σ₅, ρ₅, rfl, hlt, t5, G₅, L₅, hIφ₅, hS₅, q.1, q.2⟩
    | cont => obtain rfl : f = .cont := hf; exact ⟨n - (i + 1), by (clear q hS₅ hIφ₅ hS₄ t5 L₅ G₅ t₅ t3 L₄ G₄ t₄ L₃ G₃ hnI' hnI hcI heI hk₃ hS₃ hv hI' hC' hS' hIφ' L' G' tt hin t₂ hI0' hIB hIfr L₂ tk0 G₂ hS W hIφ hI0 hk hend hbody hI hC hit hXB hy L₁ G₁ t₁ L G hl hs hx h; lia), i + 1, φ₅, σ₅, ρ₅, rfl, hlt, t5, G₅, L₅, hIφ₅, hS₅, q.1, q.2⟩
    | brk => obtain rfl : f = .brk := hf; exact ⟨φ₅, σ₅, t5, G₅, .next, ρ₅, rfl, L₅, q⟩
    | ret y => obtain ⟨u, rfl, hu⟩ := hf; exact ⟨φ₅, σ₅, t5, G₅, .ret y, ρ₅, ⟨u, rfl, hu⟩, L₅, q⟩
  · have hin' : i = n := by (clear hI' hC' hS' hIφ' L' G' tt t₂ hI0' hIB hIfr L₂ tk0 G₂ hS W hIφ hI0 hk hend hbody hI hC hit hXB hy L₁ G₁ t₁ L G hl hs hx h; lia)
    subst hin'
    refine W.done φ' σ' s' _ _ G' hC' hS' fun h₃ tk hk₃ => ?_
    obtain ⟨oI, heI, hcI, hnI⟩ := W.obj _ _ _ hS'
    have hnI' : ∀ o, s'.heap.get? I = some o → ¬ Still o := fun o e => by rw [heI] at e; cases e; exact hnI
    have G₃ : St prog w B φ' σ' { s' with heap := h₃, toks := tk } := G'.but (s' := { s' with heap := h₃, toks := tk }) hk₃ hIφ' hIB hnI'
    have L₃ : Loc A B env ρ' φ' h₃ := L'.but hk₃ hIfr hnI' (L'.frs.at hk₃ (.inr fun o e => by rw [heI] at e; cases e; exact hcI))
    have t3 : Step (fr env) φ s.heap φ' h₃ := by
      refine ⟨tt.pre, tt.fresh, fun b o e h1 h2 => ?_⟩
      obtain ⟨o', e', hs'⟩ := tt.keep b o e h1 h2
      exact ⟨o', hk₃ b o' (fun h => by rw [h, hI0'] at e; cases e) e', hs'⟩
    exact wpAny_execs_nil ⟨φ', σ', t3, G₃, .next, ρ', rfl, L₃, hend ρ' σ' hC' hI'⟩
end
end Mine

set_option autoImplicit false
set_option linter.unusedVariables false
namespace Mine
open PySem PySem.W PySem.Calls PyProof.Rows

section
variable {prog : Program} {w : World} {B : Shared} {φ φ' : List Addr} {σ σ' : List AObj} {s s' : Shared} {env : Env} {ρ : List (Str × V)} {A : Around} {X : XT} {Q : V → List AObj → Prop}

theorem St.get (G : St prog w B φ σ s) {k : Nat} {ob : AObj} (h : σ[k]? = some ob) : ∃ a, φ[k]? = some a ∧ ObjR prog w φ s.heap a ob := by
  have hk := (List.getElem?_eq_some_iff.mp h).1
  have e := List.getElem?_eq_getElem (l := φ) (i := k) (G.len ▸ hk)
  exact ⟨_, e, G.objs k _ ob e h⟩
theorem idx_mono {k : Nat} {a : Addr} (hp : φ <+: φ') (h : φ[k]? = some a) : φ'[k]? = some a := by
  obtain ⟨r, rfl⟩ := hp
  rw [List.getElem?_append_left (List.getElem?_eq_some_iff.mp h).1]; exact h

/-- from the library's walks: sources that the call's objects do not touch -/
theorem Itr.ofWalks {I : Addr} {n : Nat} {el : Nat → V} {P : Nat → Value → Prop} {Sw : Nat → Heap → Prop} (W : Walks prog w A I [I] [I] n P Sw)
    (hobj : ∀ i h, Sw i h → ∃ o, h.get? I = some o ∧ NoD o ∧ ¬ Still o) (hel : ∀ (φ : List Addr) h i v, P i v → Val φ h (el i) v) :
    Itr prog w B A I n el (fun _ => True) (fun i _ h => Sw i h) where
  obj := fun i _ h hs => hobj i h hs
  frame := fun i _ _ h h' hs _ hk _ => W.frame i h h' hs fun b hb o e => by simp at hb; subst hb; exact hk o e
  item := fun i φ σ s Q E hi _ _ hs hq => W.item i s Q E hi hs fun v h' tk hP hS hk => hq v h' tk (hel _ _ _ _ hP) hS fun b o hb e => hk b o (by simpa using hb) e
  done := fun φ σ s Q E _ _ hs hq => W.done s Q E hs fun h' tk hk => hq h' tk fun b o hb e => hk b o (by simpa using hb) e
  self := fun i φ s Q E hs hq => W.self i s Q E hs hq

/-- range(a, b) -/
theorem It_range {a b : Int} (hh : A.handled = none) (h1 : -(2 ^ 62) ≤ a) (h2 : a < 2 ^ 62) (h3 : -(2 ^ 62) ≤ b) (h4 : b < 2 ^ 62) :
    WIt prog w B A (.rng a b 1) σ σ (b - a).toNat (fun i => .int (a + i)) (fun _ => True) := fun φ s v R E G hv k => by
  rw [Val] at hv
  obtain ⟨r, t, u, kk, rfl, ho⟩ := hv
  refine wpAny_pyIter_range ho (small_one h1 h2 h3 h4) ?_
  have hsz : Builtin.Range.rangeSize a b 1 = ((b - a).toNat : Int) := by rw [rangeSize_one]; split <;> omega
  have hk : ∀ (c : Addr) (o : Obj), s.heap.get? c = some o → (s.heap.push { cls := .type "range_iterator", data := .fields #[rawInt a, rawInt (Builtin.Range.rangeSize a b 1), rawInt 1] }).get? c = some o := fun c o e => Heap.get?_push_of_some _ e
  refine k s.heap.objs.size _ _ hk (get?_size _) G.fresh (Itr.ofWalks (Walks.range hh s.heap.objs.size a 1 (b - a).toNat) (fun i h hs => ⟨_, hs, .fields rfl, notStill_type rfl (by decide) (by decide)⟩) fun φ h i v ⟨t, e⟩ => by subst e; simpa using Val.int_ _ _) ?_ (G.keeps hk)
  show IsRangeIter _ _ (a + ((0 : Nat) : Int) * 1) (((b - a).toNat : Int) - ((0 : Nat) : Int)) 1
  have e1 : (a + ((0 : Nat) : Int) * 1) = a := by simp
  have e2 : (((b - a).toNat : Int) - ((0 : Nat) : Int)) = Builtin.Range.rangeSize a b 1 := by rw [hsz]; simp
  rw [e1, e2]
  exact Heap.get?_push_size _ rfl

/-- the signs of a text -/
def signAt (x : Str) (i : Nat) : Str := ⟨#[x.cps.getD i 0]⟩
theorem It_str {x : Str} (hh : A.handled = none) : WIt prog w B A (.str x) σ σ x.cps.size (fun i => .str (signAt x i)) (fun _ => True) := fun φ s v R E G hv k => by
  obtain ⟨t, rfl⟩ := hv.of_str
  have hk : ∀ (ob : Obj) (c : Addr) (o : Obj), s.heap.get? c = some o → (s.heap.push ob).get? c = some o := fun ob c o e => Heap.get?_push_of_some _ e
  have hel : ∀ (φ : List Addr) (h : Heap) (i : Nat) (v : Value), SignAt x i v → Val φ h (.str (signAt x i)) v := fun φ h i v ⟨c, u, hc, e⟩ => by
    subst e
    have : signAt x i = ⟨#[c]⟩ := by unfold signAt; rw [Array.getD_eq_getD_getElem?, hc]; rfl
    rw [this]; exact .str_ _ _
  cases ha : x.cps.all (· < 128)
  · refine wpAny_pyIter_wide ha (k s.heap.objs.size _ _ (hk _) (get?_size _) G.fresh (Itr.ofWalks (Walks.strWide hh s.heap.objs.size x t) (fun i h hs => ?_) hel) ⟨_, Heap.get?_push_size _ rfl, rfl, rfl⟩ (G.keeps (hk _)))
    obtain ⟨o, ho, hc, hd⟩ := hs
    exact ⟨o, ho, .fields hd, notStill_type hc (by decide) (by decide)⟩
  · refine wpAny_pyIter_ascii ha (k s.heap.objs.size _ _ (hk _) (get?_size _) G.fresh (Itr.ofWalks (Walks.strAscii hh s.heap.objs.size x t) (fun i h hs => ?_) hel) ⟨_, Heap.get?_push_size _ rfl, rfl, rfl⟩ (G.keeps (hk _)))
    obtain ⟨o, ho, hc, hd⟩ := hs
    exact ⟨o, ho, .fields hd, notStill_type hc (by decide) (by decide)⟩

/-- the items of a list of the call's -/
theorem It_list {k : Nat} {xs : List V} (hh : A.handled = none) (hσ : σ[k]? = some (.list xs)) : WIt prog w B A (.ref k) σ σ xs.length (fun i => xs.getD i .none) (fun σ' => σ'[k]? = some (.list xs)) := fun φ s v R E G hv kont => by
  obtain ⟨a, rfl, ha⟩ := hv.of_ref
  obtain ⟨a', ha', vs, n, ho, hvs⟩ := G.get hσ
  rw [ha] at ha'; cases ha'
  have hk : ∀ (c : Addr) (o : Obj), s.heap.get? c = some o → (s.heap.push { cls := .type "list_iterator", data := .fields #[.ref a, .int 0 0] }).get? c = some o := fun c o e => Heap.get?_push_of_some _ e
  refine wpAny_pyIter_list ⟨_, ho, rfl, n, rfl⟩ (kont s.heap.objs.size _ (fun i φ h => ∃ a, φ[k]? = some a ∧ a ≠ s.heap.objs.size ∧ h.IsListIter s.heap.objs.size a i) hk (get?_size _) G.fresh ?_ ⟨a, ha, fun e => ?_, ⟨_, Heap.get?_push_size _ rfl, rfl, rfl⟩⟩ (G.keeps hk))
  · refine ⟨fun i φ h ⟨a, _, _, o, ho, hc, hd⟩ => ⟨o, ho, .fields hd, notStill_type hc (by decide) (by decide)⟩, fun i φ φ' h h' ⟨a, ha, hne, o, ho, r⟩ hp hk _ => ⟨a, idx_mono hp ha, hne, o, hk o ho, r⟩, ?_, ?_, fun i φ s Q E ⟨a, _, _, hs⟩ hq => wpAny_pyIter_listiter hs hq⟩
    · intro i φ' σ' s' Q E hi G' hC ⟨a, ha, hne, hs⟩ hq
      obtain ⟨a', ha', vs, n, ho, hvs⟩ := G'.get hC
      rw [ha] at ha'; cases ha'
      obtain ⟨v, hv, hvv⟩ := hvs.get (i := i) (x := xs.getD i .none) (by rw [List.getD_eq_getElem?_getD, List.getElem?_eq_getElem hi]; rfl)
      refine wpAny_pyNext_list_item hs ⟨_, ho, rfl, n, rfl⟩ (by rw [← Array.getElem?_toList]; exact hv) fun h' hs' hsb => ?_
      obtain ⟨oI, heI, hcI, _⟩ := hs
      exact hq v h' _ (hvv.sameBut hsb fun o e => by rw [heI] at e; cases e; exact notStill_type hcI (by decide) (by decide)) ⟨a, ha, hne, hs'⟩ fun b o hb e => hsb.extBut b o hb e
    · intro φ' σ' s' Q E G' hC ⟨a, ha, hne, hs⟩ hq
      obtain ⟨a', ha', vs, n, ho, hvs⟩ := G'.get hC
      rw [ha] at ha'; cases ha'
      refine wpAny_pyNext_list_end hh hs ⟨_, ho, rfl, n, rfl⟩ ?_ fun h' hx => hq h' _ fun b o hb e => hx b o hb e
      have := hvs.length
      rw [← Array.getElem?_toList, List.getElem?_eq_none]; (clear ho hvs hq hs hne ha hC G' hk hv kont G hσ hh; lia)
  · rw [e, get?_size] at ho; cases ho

theorem St.notSys (G : St prog w B φ σ s) {a : Addr} (ha : a ∈ φ) : (a == sysModules) = false := by
  cases e : a == sysModules with
  | false => rfl
  | true => exact absurd (eq_of_beq e ▸ ha) G.sys.2

/-- a dict with its epoch held -/
def pin (σ : List AObj) (k : Nat) (es : List (Key × V)) (ep : Nat) : List AObj := σ.set k (.dict es (some ep))
theorem St.pin {k : Nat} {es : List (Key × V)} {e : Option Nat} (G : St prog w B φ σ s) (hσ : σ[k]? = some (.dict es e)) : ∃ ep, (∀ n, e = some n → ep = n) ∧ St prog w B φ (pin σ k es ep) s ∧
    ∃ a kvs, φ[k]? = some a ∧ s.heap.DictAt (kk prog w) a kvs ep ∧ Ents φ s.heap es kvs := by
  obtain ⟨a, ha, kvs, ep, h1, h2, h3⟩ := G.get hσ
  refine ⟨ep, h3, ?_, a, kvs, ha, h1, h2⟩
  have hk := (List.getElem?_eq_some_iff.mp hσ).1
  refine ⟨G.base, G.new, G.nodup, by simp [Mine.pin, G.len], fun j b ob j1 j2 => ?_, G.gens, G.os, G.sys⟩
  by_cases hj : j = k
  · subst hj
    rw [Mine.pin, List.getElem?_set_self hk] at j2; cases j2
    rw [ha] at j1; cases j1
    exact ⟨kvs, ep, h1, h2, fun n e => by cases e; rfl⟩
  · rw [Mine.pin, List.getElem?_set_ne (Ne.symm hj)] at j2
    exact G.objs j b ob j1 j2
theorem St.unpin {k : Nat} {es : List (Key × V)} {e : Option Nat} {ep : Nat} (G : St prog w B φ σ s) (hσ : σ[k]? = some (.dict es (some ep))) (he : ∀ n, e = some n → ep = n) : St prog w B φ (σ.set k (.dict es e)) s := by
  have hk := (List.getElem?_eq_some_iff.mp hσ).1
  refine ⟨G.base, G.new, G.nodup, by simp [G.len], fun j b ob j1 j2 => ?_, G.gens, G.os, G.sys⟩
  by_cases hj : j = k
  · subst hj
    rw [List.getElem?_set_self hk] at j2; cases j2
    obtain ⟨a, ha, kvs, ep', h1, h2, h3⟩ := G.get hσ
    rw [ha] at j1; cases j1
    have := h3 ep rfl
    subst this
    exact ⟨kvs, ep', h1, h2, he⟩
  · rw [List.getElem?_set_ne (Ne.symm hj)] at j2
    exact G.objs j b ob j1 j2

theorem Ents.get {h : Heap} : ∀ {es : List (Key × V)} {kvs : List (Key × Value)}, Ents φ h es kvs → ∀ {i : Nat} {p : Key × V}, es[i]? = some p → ∃ v, kvs[i]? = some (p.1, v) ∧ Val φ h p.2 v
  | _, _, .nil, i, p, hp => by simp at hp
  | _, _, .cons h1 h2, 0, p, hp => by simp at hp; subst hp; exact ⟨_, rfl, h1⟩
  | _, _, .cons h1 h2, i + 1, p, hp => by simpa using Ents.get h2 (by simpa using hp)
theorem Key.val {h : Heap} {k : Key} {v : Value} (e : k.is v = true) : Val φ h k.v v := by
  rcases Key.is_shape e with ⟨x, t, rfl, rfl⟩ | ⟨n, t, rfl, rfl⟩
  · exact .str_ _ _
  · exact .int_ _ _
def keyAt (es : List (Key × V)) (i : Nat) : V := (es.getD i (.i 0, .none)).1.v

/-- the keys of a dict of the call's -/
theorem It_dict {k : Nat} {es : List (Key × V)} {e : Option Nat} {ep : Nat} (hh : A.handled = none) (hσ : σ[k]? = some (.dict es (some ep)))   :
    WIt prog w B A (.ref k) σ σ es.length (keyAt es) (fun σ' => σ'[k]? = some (.dict es (some ep))) := fun φ s v R E G hv kont => by
  obtain ⟨a, rfl, ha⟩ := hv.of_ref
  obtain ⟨a', ha', kvs, ep', hd, hvs, hep⟩ := G.get hσ
  rw [ha] at ha'; cases ha'
  obtain rfl := hep ep rfl
  have hlen := hvs.length
  have hk : ∀ (c : Addr) (o : Obj), s.heap.get? c = some o → (s.heap.push { cls := .type "dict_keyiterator", data := .fields #[.ref a, .int 0 0, .int kvs.length 0, .int ep' 0] }).get? c = some o := fun c o e => Heap.get?_push_of_some _ e
  refine wpAny_pyIter_dict (G.notSys (List.mem_of_getElem? ha)) hd (kont s.heap.objs.size _ (fun i φ h => ∃ a, φ[k]? = some a ∧ a ≠ s.heap.objs.size ∧ h.IsKeyIter s.heap.objs.size a i es.length ep') hk (get?_size _) G.fresh ?_ ⟨a, ha, fun e => ?_, ⟨_, Heap.get?_push_size _ rfl, rfl, by rw [hlen]; rfl⟩⟩ (G.keeps hk))
  · refine ⟨fun i φ h ⟨a, _, _, o, ho, hc, hd⟩ => ⟨o, ho, .fields hd, notStill_type hc (by decide) (by decide)⟩, fun i φ φ' h h' ⟨a, ha, hne, o, ho, r⟩ hp hk _ => ⟨a, idx_mono hp ha, hne, o, hk o ho, r⟩, ?_, ?_, fun i φ s Q E ⟨a, _, _, hs⟩ hq => wpAny_pyIter_keyiter hs hq⟩
    · intro i φ' σ' s' Q E hi G' hC ⟨a, ha, hne, hs⟩ hq
      obtain ⟨a', ha', kvs, ep2, hd2, hvs2, hep2⟩ := G'.get hC
      rw [ha] at ha'; cases ha'
      have hee := hep2 _ rfl
      subst hee
      obtain ⟨v, hv, hvv⟩ := hvs2.get (i := i) (p := es[i]) (List.getElem?_eq_getElem hi)
      refine wpAny_pyNext_dict_item (by rw [hvs2.length]; exact hs) hd2 hv fun key h' hkey hs' hsb => ?_
      rw [hvs2.length] at hs'
      refine hq key h' _ ?_ ⟨a, ha, hne, hs'⟩ fun b o hb e => hsb.extBut b o hb e
      have : keyAt es i = (es[i]).1.v := by unfold keyAt; rw [List.getD_eq_getElem?_getD, List.getElem?_eq_getElem hi]; rfl
      rw [this]; exact Key.val hkey
    · intro φ' σ' s' Q E G' hC ⟨a, ha, hne, hs⟩ hq
      obtain ⟨a', ha', kvs, ep2, hd2, hvs2, hep2⟩ := G'.get hC
      rw [ha] at ha'; cases ha'
      have hee := hep2 _ rfl
      subst hee
      refine wpAny_pyNext_dict_end hh (by rw [hvs2.length]; exact hs) hd2 ?_ fun h' hx => hq h' _ fun b o hb e => hx b o hb e
      rw [List.getElem?_eq_none]; rw [hvs2.length]; exact Nat.le_refl _
  · have := hd.lt_size; rw [e] at this; exact Nat.lt_irrefl _ this
end
end Mine

set_option autoImplicit false
set_option linter.unusedVariables false
namespace Mine
open PySem PySem.W PySem.Calls PyProof.Rows

/-- the names that a comprehension sees of its frame -/
def sub (ρ : List (Str × V)) (fv : List Str) : List (Str × V) := fv.filterMap fun x => (ρ.lookup x).map fun v => (x, v)
theorem sub_lookup {ρ : List (Str × V)} : ∀ {fv : List Str} {x : Str} {v : V}, (sub ρ fv).lookup x = some v → x ∈ fv ∧ ρ.lookup x = some v
  | [], x, v, h => by simp [sub] at h
  | y :: r, x, v, h => by
    unfold sub at h
    rw [List.filterMap_cons] at h
    cases e : ρ.lookup y with
    | none => rw [e] at h; simp only [Option.map_none] at h; obtain ⟨h1, h2⟩ := sub_lookup (fv := r) h; exact ⟨.tail _ h1, h2⟩
    | some u =>
      rw [e] at h
      simp only [Option.map_some, List.lookup_cons] at h
      cases hb : x == y with
      | true => rw [hb] at h; cases h; have := eq_of_beq hb; subst this; exact ⟨.head _, e⟩
      | false => rw [hb] at h; obtain ⟨h1, h2⟩ := sub_lookup (fv := r) h; exact ⟨.tail _ h1, h2⟩

section
variable {prog : Program} {w : World} {B : Shared} {φ φ' : List Addr} {σ σ' : List AObj} {s s' : Shared} {env : Env} {ρ : List (Str × V)} {A : Around} {X : XT} {Q : V → List AObj → Prop}

/-- what a comprehension's names must be -/
structure CompOk (env : Env) (scope : Scope) (cl : List (Str × Addr)) (x : Str) (fv : List Str) : Prop where
  clos : closureFor scope env = pure cl
  cell : ∀ y ∈ scope.names, y.2 ≠ .cell
  kind : scope.kind = .function
  names : ∀ y ∈ scope.names, y.2 = .local → scope.names.lookup y.1 = some .local
  x : scope.names.lookup x = some .local
  mem : ∀ p ∈ cl, p ∈ env.cells
  apart : cl.Pairwise fun x y => x.2 ≠ y.2
  fv : ∀ y ∈ fv, (relabel scope env).names.lookup y = some .cell ∧ env.kindOf y = some .cell ∧ cl.lookup y = env.cells.lookup y

/-- a list through its own changes -/
theorem St.setList {k : Nat} {c : Addr} {ys : List V} {s' : Shared} {items : Array Value} {n : Nat} (G : St prog w B φ σ s) (hc : φ[k]? = some c) (hs : Heap.SameBut c s.heap s'.heap) (ho : s'.heap.get? c = some { cls := .type "list", data := .seq items n })
    (hv : Vals φ s.heap ys items.toList) (hn : ∀ o, s.heap.get? c = some o → ¬ Still o) (hg : s'.gens = s.gens := by rfl) (hos : s'.os = s.os := by rfl) : St prog w B φ (σ.set k (.list ys)) s' :=
  G.update hc hs ⟨items, n, ho, Vals.mono (List.prefix_refl _) (fun a o e hst => hs.extBut a o (fun h => hn o (h ▸ e) hst) e) ys hv⟩ hg hos

theorem list_append {k : Nat} {a : Addr} {ys : List V} {y : V} {v : Value} {R : Value → Shared → Prop} {E : Value → Shared → Prop} (G : St prog w B φ σ s) (hk : φ[k]? = some a) (hσ : σ[k]? = some (.list ys)) (hy : Val φ s.heap y v) (hl : ys.length ≤ sizeLine)
    (h : ∀ h', Heap.SameBut a s.heap h' → St prog w B φ (σ.set k (.list (ys ++ [y]))) { s with heap := h' } → R .none { s with heap := h' }) :
    wpAny (model prog w) A (call (.builtin "list.append") [.ref a, v]) R E s := by
  obtain ⟨a', ha', vs, n, ho, hvs⟩ := G.get hσ
  rw [hk] at ha'; cases ha'
  have hn : ∀ o, s.heap.get? a = some o → ¬ Still o := fun o e => G.notStill (List.mem_of_getElem? hk) e
  refine wpAny_list_append_plain (hsz := by have := hvs.length; simp at this; (clear hn ho hvs h hy hσ hk G; lia)) ⟨n, ho⟩ fun h' ⟨n', ho'⟩ hs => h h' hs (G.setList (s' := { s with heap := h' }) hk hs ho' ?_ hn)
  simpa using hvs.append (Vals.cons hy .nil)

/-- the walk of a comprehension: what it leaves in acc -/
theorem comp_core {elt iter : Expr} {x : Str} {px : Pos} {scope : Scope} {cl : List (Str × Addr)} {pos : Pos} {fv : List Str} {I : Addr} {n : Nat} {el : Nat → V} {C : List AObj → Prop} {Ss : Nat → List Addr → Heap → Prop} {RR : Value → Addr → Result → Shared → Prop} {E : Value → Shared → Prop}
    (K : CompOk env scope cl x fv) (W : Itr prog w B A I n el C Ss) (G : St prog w B φ σ s) (L : Loc A B env ρ φ s.heap) (hIφ : I ∉ φ) (hIB : B.heap.get? I = none) (hIfr : I ∉ fr env) (hS : Ss 0 φ s.heap)
    (Iv : Nat → List AObj → Prop) (hC : C (σ ++ [.list []])) (hI : Iv 0 (σ ++ [.list []]))
    (helt : ∀ D i σ₂, i < n → C σ₂ → Iv i σ₂ → WE prog w B A (compEnvC scope cl D env) elt ((x, el i) :: sub ρ fv) σ₂ (fun y σ₃ => ∃ ys, σ₃[σ.length]? = some (.list ys) ∧ ys.length ≤ sizeLine ∧ C (σ₃.set σ.length (.list (ys ++ [y]))) ∧ Iv (i + 1) (σ₃.set σ.length (.list (ys ++ [y])))) (fun _ _ _ _ => False))
    (hRR : ∀ a D φ' σ' h' tk gs dr os, φ'[σ.length]? = some a → s.heap.get? D = none → D ∉ φ' → B.heap.get? D = none → (∃ m, h'.Ns D m) → (∀ b o, b ≠ I → s.heap.get? b = some o → b ∉ φ → ∃ o', h'.get? b = some o' ∧ Sim o o') → φ <+: φ' → (∀ b ∈ φ', b ∈ φ ∨ s.heap.get? b = none) →
      St prog w B φ' σ' ⟨h', gs, dr, tk, os⟩ → C σ' → Iv n σ' → RR (.ref a) D (.ok .next) ⟨h', gs, dr, tk, os⟩) :
    wpAny (model prog w) A (newList []) (fun acc s₃ => wpAny (model prog w) A (newFunctionEnv scope env.globals cl [] env.qual none .none (some env)) (fun cenv s₄ =>
      codeAny (model prog w) A (.compStart (.ListComp elt [⟨.Name x px, iter, [], 0⟩] scope pos) 0 (.ref I) acc { cenv with scope := relabel scope env }) (RR acc cenv.locals) s₄) E s₃) E s := by
  refine wpAny_newList ?_ (by simp)
  -- the list
  have hk1 : ∀ b o, s.heap.get? b = some o → (s.heap.push { cls := .type "list", data := .seq ([] : List Value).toArray }).get? b = some o := fun b o e => Heap.get?_push_of_some _ e
  have t1 : Step [] φ s.heap (φ ++ [s.heap.objs.size]) (s.heap.push { cls := .type "list", data := .seq ([] : List Value).toArray }) := Step.alloc (s' := { s with heap := s.heap.push { cls := .type "list", data := .seq ([] : List Value).toArray } }) (get?_size _) hk1
  have G1 : St prog w B (φ ++ [s.heap.objs.size]) (σ ++ [.list []]) { s with heap := s.heap.push { cls := .type "list", data := .seq ([] : List Value).toArray } } :=
    G.alloc (ob := .list []) (get?_size _) hk1 ⟨_, 0, Heap.get?_push_size _ rfl, by simpa using Vals.nil⟩ G.fresh G.sizeNe
  -- the frame of the comprehension
  refine wpAny_newFunctionEnv K.cell (by intro y hy; simp at hy) (fun h2 hns2 hsb2 => ?_) K.kind
  dsimp only at hns2 hsb2 ⊢
  generalize hH : s.heap.push { cls := .type "list", dict := none, data := .seq ([] : List Value).toArray } = H at hk1 t1 G1 hns2 hsb2 ⊢
  have hHs : H.objs.size = s.heap.objs.size + 1 := by rw [← hH, Heap.size_push]
  have hD0 : H.get? H.objs.size = none := get?_size _
  have hk2 : ∀ b o, H.get? b = some o → h2.get? b = some o := fun b o e => hsb2.extBut b o (Nat.ne_of_lt (Heap.lt_size e)) (Heap.get?_push_of_some _ e)
  have G2 : St prog w B (φ ++ [s.heap.objs.size]) (σ ++ [.list []]) { s with heap := h2, toks := s.toks + ([] : List (Str × Value)).length } := G1.keeps (s' := { s with heap := h2, toks := s.toks + ([] : List (Str × Value)).length }) hk2
  have hkk : ∀ b o, s.heap.get? b = some o → h2.get? b = some o := fun b o e => hk2 b o (hk1 b o e)
  have hDφ : H.objs.size ∉ φ ++ [s.heap.objs.size] := G1.fresh
  have hDB : B.heap.get? H.objs.size = none := G1.baseSize hD0
  have hDs : s.heap.get? H.objs.size = none := get?_of_ge (by (clear hDB hDφ hkk G2 hk2 hD0 hsb2 hns2 G1 t1 hk1 hH hRR helt hI hC hS hIfr hIB hIφ L G W K; lia))
  have hla : (φ ++ [s.heap.objs.size])[σ.length]? = some s.heap.objs.size := by rw [← G.len]; simp
  have hIs : ∃ o, s.heap.get? I = some o ∧ NoD o ∧ ¬ Still o := W.obj _ _ _ hS
  have hIlt : I < s.heap.objs.size := let ⟨_, e, _⟩ := hIs; Heap.lt_size e
  have hID : I ≠ H.objs.size := Nat.ne_of_lt (by rw [hHs]; exact Nat.lt_succ_of_lt hIlt)
  have hIφ1 : I ∉ φ ++ [s.heap.objs.size] := fun h => (List.mem_append.mp h).elim hIφ fun h => Nat.ne_of_lt hIlt (List.mem_singleton.mp h)
  have hS2 : Ss 0 (φ ++ [s.heap.objs.size]) h2 := W.frame _ _ _ _ _ hS (List.prefix_append _ _) (fun o e => hkk _ _ e) fun a o e _ => hkk _ _ e
  -- the names in it
  have hIfr2 : I ∉ fr (compEnvC scope cl H.objs.size env) := fun h => by
    rcases List.mem_cons.mp h with h | h
    · exact hID h
    · obtain ⟨p, hp, e⟩ := List.mem_map.mp h
      exact hIfr (e ▸ mem_fr_cell (x := p.1) (c := p.2) (K.mem p hp))
  have L2 : Loc A B (compEnvC scope cl H.objs.size env) (sub ρ fv) (φ ++ [s.heap.objs.size]) h2 := by
    have Le := (L.step G t1)
    refine ⟨K.kind, L.glob, L.blt, ⟨_, hns2⟩, fun a ha => ?_, fun y c hm => ?_, K.apart, fun y v hy => ?_, Le.frs.step (.of_keeps hk2), L.top⟩
    · rcases List.mem_cons.mp ha with rfl | ha
      · exact ⟨hDφ, hDB⟩
      · obtain ⟨p, hp, e⟩ := List.mem_map.mp ha
        exact Le.own a (e ▸ mem_fr_cell (x := p.1) (c := p.2) (K.mem p hp))
    · obtain ⟨v, hv⟩ := L.cells y c (K.mem _ hm)
      exact ⟨v, hv.keeps hkk⟩
    · obtain ⟨hyf, hyl⟩ := sub_lookup hy
      obtain ⟨hy1, hy2, hy3⟩ := K.fv y hyf
      obtain ⟨val, hb, hv⟩ := L.val y v hyl
      refine ⟨val, ?_, (hv.step G t1).step G1 (.of_keeps hk2)⟩
      rcases hb with ⟨k, _⟩ | ⟨k, c, e, hc⟩
      · rw [hy2] at k; cases k
      · exact .inr ⟨.inl hy1, c, hy3.trans e, hc.keeps hkk⟩
  -- the loop
  have loop : codeAny (model prog w) A (.compLoop (.ListComp elt [⟨.Name x px, iter, [], 0⟩] scope pos) 0 (.ref I) (.ref s.heap.objs.size) (compEnvC scope cl H.objs.size env)) (RR (.ref s.heap.objs.size) H.objs.size) { s with heap := h2, toks := s.toks + ([] : List (Str × Value)).length } := by
    refine codeAny_compLoop_list (fun k s' => ∃ i φ' σ', k = n - i ∧ i ≤ n ∧ φ ++ [s.heap.objs.size] <+: φ' ∧ (∀ b ∈ φ', b ∈ φ ++ [s.heap.objs.size] ∨ h2.get? b = none) ∧
      (∀ b o, b ≠ I → h2.get? b = some o → b ∉ φ ++ [s.heap.objs.size] → b ≠ H.objs.size → ∃ o', s'.heap.get? b = some o' ∧ Sim o o') ∧
      St prog w B φ' σ' s' ∧ Loc A B (compEnvC scope cl H.objs.size env) (sub ρ fv) φ' s'.heap ∧ I ∉ φ' ∧ Ss i φ' s'.heap ∧ C σ' ∧ Iv i σ') ?_ n
      ⟨0, _, _, rfl, Nat.zero_le _, List.prefix_refl _, fun b h => .inl h, fun b o _ e _ _ => ⟨o, e, .refl o⟩, G2, L2, hIφ1, hS2, hC, hI⟩
    rintro k s' ⟨i, φ', σ', rfl, hin, hp, hfr, hkp, G', L', hIφ', hS', hC', hI'⟩
    obtain ⟨oI, heI, hcI, hnI⟩ := W.obj _ _ _ hS'
    have hnI' : ∀ o, s'.heap.get? I = some o → ¬ Still o := fun o e => by rw [heI] at e; cases e; exact hnI
    by_cases hlt : i < n
    · refine W.item i φ' σ' s' _ _ hlt G' hC' hS' fun v h₃ tk hv hS₃ hk₃ => ?_
      have G₃ : St prog w B φ' σ' { s' with heap := h₃, toks := tk } := G'.but (s' := { s' with heap := h₃, toks := tk }) hk₃ hIφ' hIB hnI'
      have L₃ : Loc A B (compEnvC scope cl H.objs.size env) (sub ρ fv) φ' h₃ := L'.but hk₃ hIfr2 hnI' (L'.frs.at hk₃ (.inr fun o e => by obtain ⟨oI, heI, hcI, _⟩ := W.obj _ _ _ hS'; rw [heI] at e; cases e; exact hcI))
      obtain ⟨oJ, heJ, hcJ, hnJ⟩ := W.obj _ _ _ hS₃
      refine wpAny_assign_Name (store_local (s := { s' with heap := h₃, toks := tk }) (y := el i) G₃ L₃ hv (lookup_relabel_local K.x) fun h₄ tk₄ hs₄ G₄ L₄ => ?_)
      have hD4 : (compEnvC scope cl H.objs.size env).locals = H.objs.size := rfl
      rw [hD4] at hs₄
      refine wpAny_mono (helt H.objs.size i σ' hlt hC' hI' φ' _ G₄ L₄) (fun y s₅ hx => ?_) (fun e s₅ hx => by obtain ⟨_, _, _, _, x⟩ := hx; exact x.elim)
      obtain ⟨φ₅, σ₅, t₅, G₅, yv, hyv, ys, hys, hyl, hC5, hI5⟩ := hx
      have hla' : φ₅[σ.length]? = some s.heap.objs.size := idx_mono t₅.pre (idx_mono hp hla)
      have ham : s.heap.objs.size ∈ φ ++ [s.heap.objs.size] := List.mem_append_right _ (.head _)
      refine list_append G₅ hla' hys hyv hyl fun h₆ hs₆ G₆ => ?_
      have eI4 : h₄.get? I = some oJ := hs₄.extBut I oJ hID heJ
      have hIφ₅ : I ∉ φ₅ := fun hm => by
        rcases t₅.fresh I hm with h | h
        · exact hIφ' h
        · rw [eI4] at h; cases h
      have eI5 : s₅.heap.get? I = some oJ := by
        obtain ⟨o', e', hs'⟩ := t₅.keep I oJ eI4 hIφ' (fun h => nomatch h)
        rw [hs'.same hcJ] at e'; exact e'
      have hIa : I ≠ s.heap.objs.size := Nat.ne_of_lt hIlt
      have eI6 : h₆.get? I = some oJ := hs₆.extBut I oJ hIa eI5
      have hS₄ : Ss (i + 1) φ' h₄ := W.frame _ _ _ _ _ hS₃ (List.prefix_refl _) (fun o e => by rw [heJ] at e; cases e; exact eI4) fun a o e hst => hs₄.extBut a o (fun h => fr_notStill L₃ _ (.head _) o (by rw [h] at e; exact e) hst) e
      have hS₅ : Ss (i + 1) φ₅ s₅.heap := W.frame _ _ _ _ _ hS₄ t₅.pre (fun o e => by rw [eI4] at e; cases e; exact eI5) (t₅.still G₄ fun _ h => nomatch h)
      have ham5 : s.heap.objs.size ∈ φ₅ := List.mem_of_getElem? hla'
      have hS₆ : Ss (i + 1) φ₅ h₆ := W.frame _ _ _ _ _ hS₅ (List.prefix_refl _) (fun o e => by rw [eI5] at e; cases e; exact eI6) fun a o e hst => hs₆.extBut a o (fun h => G₅.notStill (h ▸ ham5) e hst) e
      refine ⟨n - (i + 1), by (clear hS₆ ham5 hS₅ hS₄ eI6 hIa eI5 hIφ₅ eI4 G₆ hs₆ ham hla' hI5 hC5 hyl hys hyv G₅ t₅ hD4 L₄ G₄ hs₄ hnJ hcJ heJ L₃ G₃ hk₃ hS₃ hv hnI' hnI hcI heI hI' hC' hS' hIφ' L' G' hkp hfr hp hin L2 hIfr2 hS2 hIφ1 hID hIlt hIs hla hDs hDB hDφ hkk G2 hk2 hD0 hHs hsb2 hns2 G1 t1 hk1 hH hRR helt hI hC hS hIfr hIB hIφ L G W K; lia), i + 1, φ₅, _, rfl, hlt, hp.trans t₅.pre, fun b hb => ?_, fun b o hb e h1 h2 => ?_, G₆, ?_, hIφ₅, hS₆, hC5, hI5⟩
      · rcases t₅.fresh b hb with h | h
        · exact hfr b h
        · by_cases hbH : b = H.objs.size
          · subst hbH
            obtain ⟨o, e, _⟩ := L₄.there (.head _)
            rw [hD4, h] at e; cases e
          · by_cases hbI : b = I
            · subst hbI; rw [eI4] at h; cases h
            · cases e : h2.get? b with
              | none => exact .inr rfl
              | some o =>
                by_cases hbφ : b ∈ φ ++ [s.heap.objs.size]
                · exact .inl hbφ
                · obtain ⟨o', e', _⟩ := hkp b o hbI e hbφ hbH
                  have := hs₄.extBut b o' hbH (hk₃ b o' hbI e')
                  rw [h] at this; cases this
      · obtain ⟨o', e', hs'⟩ := hkp b o hb e h1 h2
        have e4 := hs₄.extBut b o' h2 (hk₃ b o' hb e')
        have hbφ' : b ∉ φ' := fun hm => by
          rcases hfr b hm with h | h
          · exact h1 h
          · rw [e] at h; cases h
        obtain ⟨o5, e5, hs5⟩ := t₅.keep b o' e4 hbφ' (fun h => nomatch h)
        exact ⟨o5, hs₆.extBut b o5 (fun h => h1 (h ▸ ham)) e5, hs'.trans hs5⟩
      · have L5 := (L₄.weaken (ρ' := sub ρ fv) fun z v hz => by
          by_cases hzx : z = x
          · subst hzx
            obtain ⟨hzf, _⟩ := sub_lookup hz
            have h1 := (K.fv z hzf).1
            have h2 : (relabel scope env).names.lookup z = some .local := lookup_relabel_local K.x
            rw [h2] at h1; cases h1
          · rw [lookup_cons_ne hzx]; exact hz).step G₄ t₅
        refine L5.but (c := s.heap.objs.size) (fun b o hb e => hs₆.extBut b o hb e) (fun hm => (L5.own _ hm).1 ham5) (fun o e => G₅.notStill ham5 e) (L5.frs.atφ (fun b o hb e => hs₆.extBut b o hb e) ham5)
    · have hin' : i = n := by (clear hnI' hnI hcI heI hI' hC' hS' hIφ' L' G' hkp hfr hp L2 hIfr2 hS2 hIφ1 hID hIlt hIs hla hDs hDB hDφ hkk G2 hk2 hD0 hHs hsb2 hns2 G1 t1 hk1 hH hRR helt hI hC hS hIfr hIB hIφ L G W K; lia)
      subst hin'
      refine W.done φ' σ' s' _ _ G' hC' hS' fun h₃ tk hk₃ => ?_
      have G₃ : St prog w B φ' σ' { s' with heap := h₃, toks := tk } := G'.but (s' := { s' with heap := h₃, toks := tk }) hk₃ hIφ' hIB hnI'
      have L₃ : Loc A B (compEnvC scope cl H.objs.size env) (sub ρ fv) φ' h₃ := L'.but hk₃ hIfr2 hnI' (L'.frs.at hk₃ (.inr fun o e => by obtain ⟨oI, heI, hcI, _⟩ := W.obj _ _ _ hS'; rw [heI] at e; cases e; exact hcI))
      refine hRR s.heap.objs.size H.objs.size φ' σ' h₃ tk _ _ _ (idx_mono hp hla) hDs (L₃.own _ (.head _)).1 hDB L₃.ns (fun b o hb e h1 => ?_) ((List.prefix_append _ _).trans hp) (fun b hb => ?_) G₃ hC' hI'
      · have hbs : b ≠ s.heap.objs.size := fun h => by rw [h, get?_size] at e; cases e
        have hbH : b ≠ H.objs.size := fun h => by rw [h, hDs] at e; cases e
        obtain ⟨o', e', hs'⟩ := hkp b o hb (hkk b o e) (fun h => (List.mem_append.mp h).elim h1 fun h => hbs (List.mem_singleton.mp h)) hbH
        exact ⟨o', hk₃ b o' hb e', hs'⟩
      · rcases hfr b hb with h | h
        · rcases List.mem_append.mp h with h | h
          · exact .inl h
          · obtain rfl := List.mem_singleton.mp h; exact .inr (get?_size _)
        · right
          cases e : s.heap.get? b with
          | none => rfl
          | some o => rw [hkk b o e] at h; cases h
  exact codeAny_compStart_list loop (W.self 0 _ _ _ _ hS2 loop)

/-- a comprehension, as a value -/
theorem E_comp {elt iter : Expr} {x : Str} {px : Pos} {scope : Scope} {cl : List (Str × Addr)} {pos : Pos} {fv : List Str} (K : CompOk env scope cl x fv)
    (h : WE prog w B A env iter ρ σ (fun v σ' => ∃ σ₁ n el C, ∃ Iv : Nat → List AObj → Prop, WIt prog w B A v σ' σ₁ n el C ∧ C (σ₁ ++ [.list []]) ∧ Iv 0 (σ₁ ++ [.list []]) ∧
      (∀ D i σ₂, i < n → C σ₂ → Iv i σ₂ → WE prog w B A (compEnvC scope cl D env) elt ((x, el i) :: sub ρ fv) σ₂ (fun y σ₃ => ∃ ys, σ₃[σ₁.length]? = some (.list ys) ∧ ys.length ≤ sizeLine ∧ C (σ₃.set σ₁.length (.list (ys ++ [y]))) ∧ Iv (i + 1) (σ₃.set σ₁.length (.list (ys ++ [y])))) (fun _ _ _ _ => False)) ∧
      (∀ σ₂, C σ₂ → Iv n σ₂ → Q (.ref σ₁.length) σ₂)) X)
    (hs : ∀ v, foldedSetIterable iter env v = pure v := by intro _; with_unfolding_all rfl) :
    WE prog w B A env (.ListComp elt [⟨.Name x px, iter, [], 0⟩] scope pos) ρ σ Q X := fun φ s G L => by
  show wpAny _ _ _ _ _ _
  rw [eval_ListComp]
  refine wpAny_comprehension_free (use := none) rfl hs K.clos K.kind K.names ((h φ s G L).useV (.refl ..) fun v s₁ φ₁ σ' t₁ _ G₁ y hy hq => ?_)
  obtain ⟨σ₁, n, el, C, Iv, hit, hC, hI, helt, hend⟩ := hq
  have L₁ := L.step G t₁
  refine hit φ₁ s₁ v _ _ G₁ hy fun I h₁ Ss hk hI0 hIφ W hS G₂ => ?_
  have tk0 : Step [] φ₁ s₁.heap φ₁ h₁ := .of_keeps hk
  have L₂ : Loc A B env ρ φ₁ h₁ := L₁.step G₁ tk0
  have hIfr : I ∉ fr env := fun hm => by obtain ⟨o, e, _⟩ := L₁.there hm; rw [hI0] at e; cases e
  refine comp_core (RR := fun acc D => compPost (model prog w) A (Post prog w B [] φ s X) none (Post prog w B [] φ s (vQ Q)) acc D) (s := { s₁ with heap := h₁ }) K W G₂ L₂ hIφ (G₁.baseSize hI0) hIfr hS Iv hC hI helt ?_
  intro a D φ' σ₂ h' tk gs dr os ha hD hDφ hDB hns hkp hpre hfr G' hC' hI'
  obtain ⟨m, hm⟩ := hns
  refine ⟨m, hm, fun h'' hsb => ?_⟩
  have hnD : ∀ o, h'.get? D = some o → ¬ Still o := fun o e => by
    obtain ⟨o', es, ep, e', hd, _⟩ := hm
    rw [e] at e'; cases e'; exact notStill_dict hd
  have G'' : St prog w B φ' σ₂ ⟨h'', gs, dr, tk, os⟩ := G'.sameBut (s' := ⟨h'', gs, dr, tk, os⟩) hsb hDφ hDB hnD
  have t' : Step [] φ₁ s₁.heap φ' h'' := by
    refine ⟨hpre, fun b hb => (hfr b hb).imp id fun h => ?_, fun b o e h1 _ => ?_⟩
    · cases e : s₁.heap.get? b with
      | none => rfl
      | some o => rw [hk b o e] at h; cases h
    · obtain ⟨o', e', hs'⟩ := hkp b o (fun h => by rw [h, hI0] at e; cases e) (hk b o e) h1
      exact ⟨o', hsb.extBut b o' (fun h => by rw [h] at e; have := hk _ _ e; rw [hD] at this; cases this) e', hs'⟩
  refine ⟨φ', σ₂, t₁.trans0 t', G'', .ref σ₁.length, ?_, hend σ₂ hC' hI'⟩
  rw [Val]; exact ⟨a, rfl, ha⟩

/-- a comprehension stored under a name of the frame on the same line -/
theorem X_comp {elt iter : Expr} {x y : Str} {px py : Pos} {scope : Scope} {cl : List (Str × Addr)} {pos spos : Pos} {fv : List Str} {Q : Fl → List (Str × V) → List AObj → Prop} (K : CompOk env scope cl x fv)
    (h : WE prog w B A env iter ρ σ (fun v σ' => ∃ σ₁ n el C, ∃ Iv : Nat → List AObj → Prop, WIt prog w B A v σ' σ₁ n el C ∧ C (σ₁ ++ [.list []]) ∧ Iv 0 (σ₁ ++ [.list []]) ∧
      (∀ D i σ₂, i < n → C σ₂ → Iv i σ₂ → WE prog w B A (compEnvC scope cl D env) elt ((x, el i) :: sub ρ fv) σ₂ (fun y σ₃ => ∃ ys, σ₃[σ₁.length]? = some (.list ys) ∧ ys.length ≤ sizeLine ∧ C (σ₃.set σ₁.length (.list (ys ++ [y]))) ∧ Iv (i + 1) (σ₃.set σ₁.length (.list (ys ++ [y])))) (fun _ _ _ _ => False)) ∧
      (∀ σ₂, C σ₂ → Iv n σ₂ → Q .next ((y, .ref σ₁.length) :: ρ) σ₂)) X)
    (hy : env.kindOf y = some .local)
    (hsw : swapsWith (.ListComp elt [⟨.Name x px, iter, [], 0⟩] scope pos) (some (.Name y py)) spos.line env = pure true := by rfl)
    (hs : ∀ v, foldedSetIterable iter env v = pure v := by intro _; with_unfolding_all rfl) :
    WX1 prog w B A env (.Assign [.Name y py] (.ListComp elt [⟨.Name x px, iter, [], 0⟩] scope pos) spos) ρ σ Q X := fun φ s G L => by
  show wpAny _ _ _ _ _ _
  rw [exec_Assign_Name_used _ _ _ _ hsw]
  refine wpAny_bind (wpAny_standAt (wpAny_bind ?_))
  show wpAny _ A (do let _ ← comprehension (.ListComp elt [⟨.Name x px, iter, [], 0⟩] scope pos) scope env _ (newList []) false (eval iter env) (some (assign (.Name y py) env))) _ _ s
  refine wpAny_bind (wpAny_mono (wpAny_comprehension_free (use := some (assign (.Name y py) env)) (Q := fun _ s' => Post prog w B (fr env) φ s (fQ B A env Q) .next s') rfl hs K.clos K.kind K.names ?_) (fun _ s' hq => wpAny_pure (wpAny_pure hq)) fun _ _ e => e)
  refine h.then G L fun v s₁ φ₁ σ' vx t₁ G₁ L₁ hvx hq => ?_
  obtain ⟨σ₁, n, el, C, Iv, hit, hC, hI, helt, hend⟩ := hq
  refine hit φ₁ s₁ v _ _ G₁ hvx fun I h₁ Ss hk hI0 hIφ W hS G₂ => ?_
  have tk0 : Step [] φ₁ s₁.heap φ₁ h₁ := .of_keeps hk
  have L₂ : Loc A B env ρ φ₁ h₁ := L₁.step G₁ tk0
  have hIfr : I ∉ fr env := fun hm => by obtain ⟨o, e, _⟩ := L₁.there hm; rw [hI0] at e; cases e
  refine comp_core (RR := fun acc D => compPost (model prog w) A (Post prog w B (fr env) φ s X) (some (assign (.Name y py) env)) (fun _ s' => Post prog w B (fr env) φ s (fQ B A env Q) .next s') acc D) (s := { s₁ with heap := h₁ }) K W G₂ L₂ hIφ (G₁.baseSize hI0) hIfr hS Iv hC hI helt ?_
  intro a D φ' σ₂ h' tk gs dr os ha hD hDφ hDB hns hkp hpre hfr G' hC' hI'
  have hnD : ∀ o, h'.get? D = some o → ¬ Still o := fun o e => by
    obtain ⟨m, o', es, ep, e', hd, _⟩ := hns
    rw [e] at e'; cases e'; exact notStill_dict hd
  have t' : Step [] φ₁ s₁.heap φ' h' := by
    refine ⟨hpre, fun b hb => (hfr b hb).imp id fun h => ?_, fun b o e h1 _ => hkp b o (fun h => by rw [h, hI0] at e; cases e) (hk b o e) h1⟩
    cases e : s₁.heap.get? b with
    | none => rfl
    | some o => rw [hk b o e] at h; cases h
  have L' : Loc A B env ρ φ' h' := L₁.step G₁ t'
  have hDfr : D ∉ fr env := fun hm => by obtain ⟨o, e, _⟩ := L₁.there hm; have := hk _ _ e; rw [hD] at this; cases this
  show wpAny _ A (assign (.Name y py) env (.ref a)) _ _ _
  refine wpAny_assign_Name (store_local (s := ⟨h', gs, dr, tk, os⟩) (y := .ref σ₁.length) G' L' (by rw [Val]; exact ⟨a, rfl, ha⟩) hy fun h₅ tk₅ hs₅ G₅ L₅ => ?_)
  obtain ⟨m, hm⟩ := hns
  have hLD : D ≠ env.locals := fun h => hDfr (h ▸ .head _)
  refine ⟨m, hm.sameBut hs₅ hLD, fun h'' hsb => ?_⟩
  have hnD5 : ∀ o, h₅.get? D = some o → ¬ Still o := fun o e => by
    obtain ⟨o', es, ep, e', hd, _⟩ := hm.sameBut hs₅ hLD
    rw [e] at e'; cases e'; exact notStill_dict hd
  have G'' : St prog w B φ' σ₂ ⟨h'', gs, dr, tk₅, os⟩ := G₅.sameBut (s' := ⟨h'', gs, dr, tk₅, os⟩) hsb hDφ hDB hnD5
  have L'' : Loc A B env ((y, .ref σ₁.length) :: ρ) φ' h'' := L₅.but (fun b o hb e => hsb.extBut b o hb e) hDfr hnD5 (by
    obtain ⟨l, hl, hf⟩ := L₅.frs
    obtain ⟨l', hl', hf'⟩ := L₁.frs
    rw [hl] at hl'; cases hl'
    refine ⟨l, hl, fun e he => ?_⟩
    obtain ⟨k, L, o, es, n, a1, a2, a3, a4, a5⟩ := hf e he
    obtain ⟨_, L0, o0, _, _, b1, _, _, b4, _⟩ := hf' e he
    rw [a1] at b1; cases b1
    exact ⟨k, L, o, es, n, a1, a2, a3, hsb.extBut L o (fun h => by rw [h] at b4; have := hk _ _ b4; rw [hD] at this; cases this) a4, a5⟩)
  have t'' : Step (fr env) φ₁ s₁.heap φ' h'' := by
    refine ⟨t'.pre, t'.fresh, fun b o e h1 h2 => ?_⟩
    obtain ⟨o', e', hs'⟩ := t'.keep b o e h1 (fun h => nomatch h)
    exact ⟨o', hsb.extBut b o' (fun h => by rw [h] at e; have := hk _ _ e; rw [hD] at this; cases this) (hs₅.extBut b o' (fun h => h2 (h ▸ .head _)) e'), hs'⟩
  exact ⟨φ', σ₂, Step.transF t₁.nilD t'' L₁, G'', .next, _, rfl, L'', hend σ₂ hC' hI'⟩
end
end Mine

set_option autoImplicit false
set_option linter.unusedVariables false
set_option maxRecDepth 100000
namespace Mine
open PySem PySem.W PySem.Calls PyProof.Rows

section
variable {prog : Program} {w : World} {B : Shared} {φ φ' : List Addr} {σ σ' : List AObj} {s s' : Shared} {env : Env} {ρ : List (Str × V)} {A : Around} {X : XT} {Q : V → List AObj → Prop}

/-- an item of a plain list stored -/
theorem setItem_plain {l : Addr} {items : Array Value} {n : Nat} {k : Int} {t : Tok} {v : Value} {R : Unit → Shared → Prop} {E : Value → Shared → Prop} (ho : s.heap.get? l = some { cls := .type "list", data := .seq items n }) (h0 : 0 ≤ k) (hf : k < 2 ^ 63) (hj : k < items.size)
    (h : ∀ h' n', h'.get? l = some { cls := .type "list", data := .seq (items.setIfInBounds k.toNat v) n' } → Heap.SameBut l s.heap h' → R () { s with heap := h' }) :
    wpAny (model prog w) A (setItem (.ref l) (.int k t) v) R E s := by
  have hT : s.TypeIs (.ref l) "list" := ⟨_, ho, rfl⟩
  unfold setItem
  try with_reducible refine wpAny_holding ?_
  first | refine wpAny_bind (wpAny_pure ?_) | skip
  refine wpAny_bind (wpAny_sequenceKey hT (by decide) ?_)
  refine wpAny_bind (wpAny_callSpecial?_slot (name := Str.ofString "__setitem__") hT slot_list_setitem
    (wpAny_call_entry slot_list_setitem hT entry_list_setitem ?_ (args_list_setitem _ _ _)))
  show wpAny _ _ (Builtin.List.listSubscript? (.int k t) >>= _) _ _ s
  refine wpAny_bind (wpAny_listSubscript_int (fitsIndex_of h0 hf) ?_)
  clear hf
  obtain ⟨j, rfl⟩ := Int.eq_ofNat_of_zero_le h0
  have hj' : j < items.size := by (clear h h0 hT ho; lia)
  show wpAny _ _ ((seqItemAt l j >>= fun r => pure (r.map (j, ·))) >>= _) _ _ s
  refine wpAny_bind (wpAny_bind (wpAny_seqItemAt ho rfl (wpAny_pure ?_)))
  rw [Array.getElem?_eq_getElem hj']
  show wpAny _ _ (setSeqItemAt l j v >>= _) _ _ s
  have hfin : (s.heap.update l (Obj.mapSeq (·.setIfInBounds j v))).get? l = some { cls := .type "list", data := .seq (items.setIfInBounds j v) n } := by
    rw [Heap.get?_update_self _ ho rfl]
    simp [Obj.mapSeq]
  refine wpAny_bind (wpAny_setSeqItemAt ho rfl ?_)
  exact wpAny_pure ⟨.none, rfl, wpAny_pure (h _ _ hfin (Heap.SameBut.update ..))⟩

/-! subscripts -/
def WSub (prog : Program) (w : World) (B : Shared) (A : Around) (value slice : Expr) (x y : V) (σ : List AObj) (Q : V → List AObj → Prop) (X : XT) : Prop :=
  ∀ φ s v u, St prog w B φ σ s → Val φ s.heap x v → Val φ s.heap y u → W prog w B A (subscriptTail value slice v u) φ s (vQ Q) X
theorem E_sub {value slice : Expr} {pos : Pos} (h : WE prog w B A env value ρ σ (fun x σ₁ => WE prog w B A env slice ρ σ₁ (fun y σ₂ => WSub prog w B A value slice x y σ₂ Q X) X) X) : WE prog w B A env (.Subscript value slice pos) ρ σ Q X := fun φ s G L =>
  Subscript_ ((h φ s G L).useV (.refl ..) fun a s₁ φ₁ σ₁ t₁ _ G₁ x hx h₁ => (h₁ φ₁ s₁ G₁ (L.step G t₁)).useV t₁ fun b s₂ φ₂ σ₂ t₂ t G₂ y hy h₂ => (h₂ φ₂ s₂ a b G₂ (hx.step G₁ t₂) hy).last t)

/-- a slice's expression is no Slice -/
def PlainSlice (slice : Expr) : Prop := ∀ o i, subscripted slice false o i = operate [o, i] (getItem o i)

theorem S_list {value slice : Expr} {k : Nat} {xs : List V} {i : Int} (hσ : σ[k]? = some (.list xs)) (h0 : 0 ≤ i) (hi : i < xs.length) (hf : i < 2 ^ 63) (q : Q (xs.getD i.toNat .none) σ)
    (hs : PlainSlice slice := by with_unfolding_all exact fun _ _ => rfl) : WSub prog w B A value slice (.ref k) (.int i) σ Q X := fun φ s v u G hv hu => by
  obtain ⟨a, rfl, ha⟩ := hv.of_ref; obtain ⟨t, rfl⟩ := hu.of_int
  obtain ⟨a', ha', vs, n, ho, hvs⟩ := G.get hσ
  rw [ha] at ha'; cases ha'
  have hi' : i.toNat < xs.length := by (clear ho hvs hu hv ha G hs q hf hσ; lia)
  obtain ⟨y, hy, hyv⟩ := hvs.get (i := i.toNat) (x := xs.getD i.toNat .none) (by rw [List.getD_eq_getElem?_getD, List.getElem?_eq_getElem hi']; rfl)
  have hl : s.heap.IsList a vs := ⟨_, ho, rfl, n, rfl⟩
  exact tail_any hl.typeIs slot_list_getitem.lookup (wpAny_getItem_list hl h0 hf (by rw [← Array.getElem?_toList]; exact hy) (Post.here G ⟨_, hyv, q⟩)) (hs _ _)
theorem S_tup {value slice : Expr} {xs : List V} {i : Int} (h0 : 0 ≤ i) (hi : i < xs.length) (hf : i < 2 ^ 63) (q : Q (xs.getD i.toNat .none) σ)
    (hs : PlainSlice slice := by with_unfolding_all exact fun _ _ => rfl) : WSub prog w B A value slice (.tup xs) (.int i) σ Q X := fun φ s v u G hv hu => by
  obtain ⟨a, vs, rfl, ht, hvs⟩ := hv.of_tup; obtain ⟨t, rfl⟩ := hu.of_int
  have hi' : i.toNat < xs.length := by (clear hu hvs ht hv G hs q hf; lia)
  obtain ⟨y, hy, hyv⟩ := hvs.get (i := i.toNat) (x := xs.getD i.toNat .none) (by rw [List.getD_eq_getElem?_getD, List.getElem?_eq_getElem hi']; rfl)
  have hlen := hvs.length
  have hsz : vs.size = xs.length := by simpa using hlen
  refine tail_any ht.typeIs slot_tuple_getitem.lookup (getItem_tuple ht (by (clear hsz hlen hyv hy hi' hu hvs ht hv G hs q hf hi; lia)) hf (j := i.toNat) ?_ (by rw [← Array.getElem?_toList]; exact hy) (Post.here G ⟨_, hyv, q⟩)) (hs _ _)
  unfold seqIndex?
  rw [hsz]
  simp only [show ¬ (i < 0) by (clear hsz hlen hyv hy hi' hu hvs ht hv G hs q hf hi; omega), if_false]
  simp; (clear hsz hlen hyv hy hi' hu hvs ht hv G hs q hf; lia)
theorem S_t0 {value slice : Expr} {x : V} {xs : List V} (q : Q x σ) (hs : PlainSlice slice := by with_unfolding_all exact fun _ _ => rfl) : WSub prog w B A value slice (.tup (x :: xs)) (.int 0) σ Q X :=
  S_tup (by decide) (by simp only [List.length_cons]; (clear hs q; lia)) (by decide) q hs
theorem S_t1 {value slice : Expr} {x y : V} {xs : List V} (q : Q y σ) (hs : PlainSlice slice := by with_unfolding_all exact fun _ _ => rfl) : WSub prog w B A value slice (.tup (x :: y :: xs)) (.int 1) σ Q X :=
  S_tup (by decide) (by simp only [List.length_cons]; (clear hs q; lia)) (by decide) q hs
theorem S_str {value slice : Expr} {x : Str} {i : Int} (h0 : 0 ≤ i) (hi : i < x.cps.size) (hf : i < 2 ^ 63) (q : Q (.str (signAt x i.toNat)) σ)
    (hs : PlainSlice slice := by with_unfolding_all exact fun _ _ => rfl) : WSub prog w B A value slice (.str x) (.int i) σ Q X := fun φ s v u G hv hu => by
  obtain ⟨t, rfl⟩ := hv.of_str; obtain ⟨t', rfl⟩ := hu.of_int
  have hi' : i.toNat < x.cps.size := by (clear hu hv G hs q hf; lia)
  refine tail_any (typeIs_str s x t) F.slot_str_getitem.lookup (P.getItem_str (c := x.cps.getD i.toNat 0) (by simp; (clear hi' hu hv G hs q hi; lia)) ?_ (Post.tok G ⟨_, .str_ _ _, q⟩)) (hs _ _)
  unfold seqIndex?
  have hl : x.length = x.cps.size := rfl
  simp only [show ¬ (i < 0) by (clear hl hi' hu hv G hs q hf hi; omega), if_false, hl]
  simp [Array.getD_eq_getD_getElem?, hi', h0, hi]
theorem S_dict {value slice : Expr} {k : Nat} {es : List (Key × V)} {e : Option Nat} {key : Key} {x : V} (hσ : σ[k]? = some (.dict es e)) (hx : at? es key = some x) (q : Q x σ)
    (hs : PlainSlice slice := by with_unfolding_all exact fun _ _ => rfl) : WSub prog w B A value slice (.ref k) key.v σ Q X := fun φ s v u G hv hu => by
  obtain ⟨a, rfl, ha⟩ := hv.of_ref
  obtain ⟨a', ha', kvs, ep, hd, hvs, _⟩ := G.get hσ
  rw [ha] at ha'; cases ha'
  have hkey : (kk prog w).is key u = true := by
    cases key with
    | s y => obtain ⟨t, rfl⟩ := hu.of_str; simp [kk, Key.is, Value.isStrOf]
    | i n => obtain ⟨t, rfl⟩ := hu.of_int; simp [kk, Key.is, Value.isInt]
  rcases hvs.at? key with ⟨y, z, h1, h2, h3⟩ | ⟨h1, _⟩
  · rw [hx] at h1; cases h1
    have hm := hd.dictOf.mapOf
    exact tail_any hm.typeIs slot_dict_getitem.lookup (wpAny_getItem_of hkey hm h2 (Post.tok G ⟨_, h3, q⟩)) (hs _ _)
  · rw [hx] at h1; cases h1

/-! stores -/
def WSet (prog : Program) (w : World) (B : Shared) (A : Around) (x y z : V) (σ : List AObj) (Q : List AObj → Prop) (X : XT) : Prop :=
  ∀ φ s v u t, St prog w B φ σ s → Val φ s.heap x v → Val φ s.heap y u → Val φ s.heap z t → W prog w B A (setItem v u t) φ s (bQ fun _ σ' => Q σ') X
theorem X_setitem {o i value : Expr} {p pos : Pos} {Q : Fl → List (Str × V) → List AObj → Prop}
    (h : WE prog w B A env value ρ σ (fun z σ₁ => WE prog w B A env o ρ σ₁ (fun x σ₂ => WE prog w B A env i ρ σ₂ (fun y σ₃ => WSet prog w B A x y z σ₃ (fun σ₄ => Q .next ρ σ₄) X) X) X) X)
    (hs : swapsWith value (some (.Subscript o i p)) pos.line env = pure false := by with_unfolding_all rfl) : WX1 prog w B A env (.Assign [.Subscript o i p] value pos) ρ σ Q X := fun φ s G L => by
  refine wpAny_Assign_Subscript ?_ hs
  refine h.then G L fun vz s₁ φ₁ σ₁ z t₁ G₁ L₁ hz h₁ => ?_
  refine wpAny_mono (h₁ φ₁ s₁ G₁ L₁) (fun vx s₂ ⟨φ₂, σ₂, t₂, G₂, x, hx, h₂⟩ => ?_) fun e s' ⟨φ', σ', t', G', x⟩ => ⟨φ', σ', (t₁.trans0 t').nilD, G', x⟩
  refine wpAny_mono (h₂ φ₂ s₂ G₂ (L₁.step G₁ t₂)) (fun vy s₃ ⟨φ₃, σ₃, t₃, G₃, y, hy, h₃⟩ => ?_) fun e s' ⟨φ', σ', t', G', x⟩ => ⟨φ', σ', (t₁.trans0 (t₂.trans0 t')).nilD, G', x⟩
  have L₃ := (L₁.step G₁ t₂).step G₂ t₃
  refine wpAny_mono (h₃ φ₃ s₃ vx vy vz G₃ (hx.step G₂ t₃) hy (hz.step G₁ (t₂.trans0 t₃))) (fun _ s₄ ⟨φ₄, σ₄, t₄, G₄, q⟩ => ?_) fun e s' ⟨φ', σ', t', G', x⟩ => ⟨φ', σ', (t₁.trans0 (t₂.trans0 (t₃.trans0 t'))).nilD, G', x⟩
  exact ⟨φ₄, σ₄, (t₁.trans0 (t₂.trans0 (t₃.trans0 t₄))).nilD, G₄, .next, ρ, rfl, L₃.step G₃ t₄, q⟩
theorem P_list {k : Nat} {xs : List V} {i : Int} {z : V} {Q : List AObj → Prop} (hσ : σ[k]? = some (.list xs)) (h0 : 0 ≤ i) (hi : i < xs.length) (hf : i < 2 ^ 63) (q : Q (σ.set k (.list (xs.set i.toNat z)))) : WSet prog w B A (.ref k) (.int i) z σ Q X := fun φ s v u t G hv hu hz => by
  obtain ⟨a, rfl, ha⟩ := hv.of_ref; obtain ⟨tk, rfl⟩ := hu.of_int
  obtain ⟨a', ha', vs, n, ho, hvs⟩ := G.get hσ
  rw [ha] at ha'; cases ha'
  have hlen : vs.size = xs.length := by simpa using hvs.length
  have hn : ∀ o, s.heap.get? a = some o → ¬ Still o := fun o e => G.notStill (List.mem_of_getElem? ha) e
  refine setItem_plain ho h0 hf (by (clear hn ho hvs hu hv ha hz G q hf h0 hσ; lia)) fun h' n' ho' hsb => ⟨φ, _, Step.update hsb (List.mem_of_getElem? ha), G.setList (s' := { s with heap := h' }) (ys := xs.set i.toNat z) ha hsb ho' ?_ hn, q⟩
  rw [Array.toList_setIfInBounds]
  clear q hσ hlen ho ho'
  generalize vs.toList = l at hvs
  generalize i.toNat = j
  clear h0 hi hf hu
  induction xs generalizing l j with
  | nil => rw [Vals] at hvs; subst hvs; simpa using Vals.nil
  | cons x xs ih =>
    rw [Vals] at hvs
    obtain ⟨v, r, rfl, h1, h2⟩ := hvs
    cases j with
    | zero => simpa using Vals.cons hz h2
    | succ j => simpa using Vals.cons h1 (ih r h2 j)
theorem P_dict {k : Nat} {es : List (Key × V)} {key : Key} {z : V} {Q : List AObj → Prop} (hσ : σ[k]? = some (.dict es none)) (hl : es.length ≤ sizeLine) (q : Q (σ.set k (.dict (put es key z) none))) : WSet prog w B A (.ref k) key.v z σ Q X := fun φ s v u t G hv hu hz => by
  obtain ⟨a, rfl, ha⟩ := hv.of_ref
  obtain ⟨a', ha', kvs, ep, hd, hvs, _⟩ := G.get hσ
  rw [ha] at ha'; cases ha'
  have hkey : (kk prog w).is key u = true := by
    cases key with
    | s y => obtain ⟨t, rfl⟩ := hu.of_str; simp [kk, Key.is, Value.isStrOf]
    | i n => obtain ⟨t, rfl⟩ := hu.of_int; simp [kk, Key.is, Value.isInt]
  have hn : ∀ o, s.heap.get? a = some o → ¬ Still o := fun o e => G.notStill (List.mem_of_getElem? ha) e
  refine wpAny_setItem_pairs hkey hd.dictOf (fun h' hd' hsb => ?_) (by rw [hvs.length]; exact hl)
  obtain ⟨ep', hd''⟩ := hd'.dictAt
  refine ⟨φ, _, Step.update hsb (List.mem_of_getElem? ha), G.update (s' := { s with heap := h', toks := s.toks + 1 }) (ob := .dict (put es key z) none) ha hsb ⟨_, ep', hd'', ?_, fun n e => by cases e⟩, q⟩
  exact (hvs.put key hz).mono (List.prefix_refl _) fun a o e hst => hsb.extBut a o (fun h => hn o (h ▸ e) hst) e

/-! a key in a dict -/
theorem O_in_dict {k : Nat} {es : List (Key × V)} {e : Option Nat} {key : Key} (hσ : σ[k]? = some (.dict es e)) (q : Q (.bool (at? es key).isSome) σ) : W2 prog w B A (compareOp .In) key.v (.ref k) σ Q X := fun φ s u v G hu hv => by
  obtain ⟨a, rfl, ha⟩ := hv.of_ref
  obtain ⟨a', ha', kvs, ep, hd, hvs, _⟩ := G.get hσ
  rw [ha] at ha'; cases ha'
  have hkey : (kk prog w).is key u = true := by
    cases key with
    | s y => obtain ⟨t, rfl⟩ := hu.of_str; simp [kk, Key.is, Value.isStrOf]
    | i n => obtain ⟨t, rfl⟩ := hu.of_int; simp [kk, Key.is, Value.isInt]
  refine wpAny_in_of hkey (G.notSys (List.mem_of_getElem? ha)) hd.dictOf.mapOf (Post.tok G ⟨_, .bool_ _, ?_⟩)
  rcases hvs.at? key with ⟨y, z, h1, h2, _⟩ | ⟨h1, h2⟩ <;> rw [h1] at q <;> rw [h2] <;> exact q
/-! len -/
theorem Vals.one {h : Heap} {x : V} {vs : List Value} (hv : Vals φ h [x] vs) : ∃ v, vs = [v] ∧ Val φ h x v := by
  rw [Vals] at hv; obtain ⟨v, r, rfl, h1, hv⟩ := hv
  rw [Vals] at hv; subst hv
  exact ⟨v, rfl, h1⟩
theorem Vals.two {h : Heap} {x y : V} {vs : List Value} (hv : Vals φ h [x, y] vs) : ∃ v u, vs = [v, u] ∧ Val φ h x v ∧ Val φ h y u := by
  rw [Vals] at hv; obtain ⟨v, r, rfl, h1, hv⟩ := hv
  obtain ⟨u, rfl, h2⟩ := hv.one
  exact ⟨v, u, rfl, h1, h2⟩
theorem Vals.three {h : Heap} {x y z : V} {vs : List Value} (hv : Vals φ h [x, y, z] vs) : ∃ v u t, vs = [v, u, t] ∧ Val φ h x v ∧ Val φ h y u ∧ Val φ h z t := by
  rw [Vals] at hv; obtain ⟨v, r, rfl, h1, hv⟩ := hv
  obtain ⟨u, t, rfl, h2, h3⟩ := hv.two
  exact ⟨v, u, t, rfl, h1, h2, h3⟩
theorem C_len_list {k : Nat} {xs : List V} (hσ : σ[k]? = some (.list xs)) (hf : (xs.length : Int) < 2 ^ 63) (q : Q (.int xs.length) σ) : WC prog w B A (.builtin "len") [.ref k] σ Q X := fun φ s vs G FR hv => by
  obtain ⟨v, rfl, hx⟩ := hv.one
  obtain ⟨a, rfl, ha⟩ := hx.of_ref
  obtain ⟨a', ha', vs, n, ho, hvs⟩ := G.get hσ
  rw [ha] at ha'; cases ha'
  have hlen : vs.size = xs.length := by simpa using hvs.length
  exact call_len_list ⟨_, ho, rfl, n, rfl⟩ (by rw [hlen]; exact hf) (Post.tok G ⟨_, .int_ _ _, by rw [hlen]; exact q⟩)
theorem C_len_dict {k : Nat} {es : List (Key × V)} {e : Option Nat} (hσ : σ[k]? = some (.dict es e)) (hf : (es.length : Int) < 2 ^ 63) (q : Q (.int es.length) σ) : WC prog w B A (.builtin "len") [.ref k] σ Q X := fun φ s vs G FR hv => by
  obtain ⟨v, rfl, hx⟩ := hv.one
  obtain ⟨a, rfl, ha⟩ := hx.of_ref
  obtain ⟨a', ha', kvs, ep, hd, hvs, _⟩ := G.get hσ
  rw [ha] at ha'; cases ha'
  exact call_len_dict (G.notSys (List.mem_of_getElem? ha)) hd.dictOf (by rw [hvs.length]; exact hf) (Post.tok G ⟨_, .int_ _ _, by rw [hvs.length]; exact q⟩)
theorem C_len_str {x : Str} (hf : (x.length : Int) < 2 ^ 63) (q : Q (.int x.length) σ) : WC prog w B A (.builtin "len") [.str x] σ Q X := fun φ s vs G FR hv => by
  obtain ⟨v, rfl, hx⟩ := hv.one
  obtain ⟨t, rfl⟩ := hx.of_str
  exact PyProof.Rows.len_str (by (clear hv hx FR G q; lia)) (Post.tok G ⟨_, .int_ _ _, q⟩)
theorem C_len_tup {xs : List V} (hf : (xs.length : Int) < 2 ^ 63) (q : Q (.int xs.length) σ) : WC prog w B A (.builtin "len") [.tup xs] σ Q X := fun φ s vs G FR hv => by
  obtain ⟨v, rfl, hx⟩ := hv.one
  obtain ⟨a, vs, rfl, ht, hvs⟩ := hx.of_tup
  have hlen : vs.size = xs.length := by simpa using hvs.length
  exact len_tuple ht (by rw [hlen]; exact hf) (Post.tok G ⟨_, .int_ _ _, by rw [hlen]; exact q⟩)
end
end Mine

set_option autoImplicit false
set_option linter.unusedVariables false
set_option maxRecDepth 100000
namespace Mine
open PySem PySem.W PySem.Calls PyProof.Rows

structure AOk (n : Nat) (A : Around) : Prop where
  handled : A.handled = none
  depth : A.depth + n ≤ 900
  units : A.units + 10 * n ≤ 9000
theorem AOk.deeper {n : Nat} {A : Around} {env : Env} (h : AOk (n + 1) A) : AOk n (A.deeper env) :=
  ⟨h.handled, by have := h.depth; show A.depth + 1 + n ≤ 900; (clear h; lia), by have := h.units; show A.units + 3 + 10 * n ≤ 9000; (clear h; lia)⟩
theorem AOk.le {n m : Nat} {A : Around} (h : AOk n A) (hm : m ≤ n) : AOk m A := ⟨h.handled, by have := h.depth; (clear h; lia), by have := h.units; (clear h; lia)⟩
theorem AOk.room {n : Nat} {A : Around} (h : AOk n A) : A.depth < recursionLimit := by have := h.depth; show A.depth < 1000; (clear h; lia)

/-- the globals and the built-ins -/
structure Gl (B : Shared) (mg mb : Str → Option Value) : Prop where
  g : B.heap.Ns mainGlobals mg
  b : B.heap.Ns builtinsNs mb
  lim : B.heap.NoLimit

section
variable (prog : Program) (w : World) (B : Shared) (mg mb : Str → Option Value)
/-- a contract of a global function -/
def CF (x : Str) (n : Nat) (P : List V → List AObj → (V → List AObj → Prop) → XT → Prop) : Prop :=
  B.heap.Ns mainGlobals mg ∧ ∃ v, mg x = some v ∧ Keep B v ∧ ∀ A xs σ Q X, AOk n A → P xs σ Q X → WC prog w B A v xs σ Q X
/-- a built-in name -/
def Bi (x : Str) (v : Value) : Prop := B.heap.Ns mainGlobals mg ∧ B.heap.Ns builtinsNs mb ∧ mg x = none ∧ mb x = some v
end

section
variable {prog : Program} {w : World} {B : Shared} {mg mb : Str → Option Value} {φ φ' : List Addr} {σ σ' : List AObj} {s s' : Shared} {env : Env} {ρ : List (Str × V)} {A : Around} {X : XT} {Q : V → List AObj → Prop}

theorem E_cf {x : Str} {px pos : Pos} {es : List Expr} {n : Nat} {P : List V → List AObj → (V → List AObj → Prop) → XT → Prop} (C : CF prog w B mg x n P) (hA : AOk n A)
    (h : WEs prog w B A env es ρ σ (fun xs σ₁ => P xs σ₁ Q X) X)
    (hx : env.kindOf x = some .globalImplicit := by kernel_rfl!)
    (hp : ∀ pos, (backTo pos (starEach es env)).any (·.1) = false := by intro _; with_unfolding_all rfl)
    (hd : (x == ("__debug__" : Str)) = false := by decide +kernel) :
    WE prog w B A env (.Call (.Name x px) es [] pos) ρ σ Q X := by
  obtain ⟨hg, v, hv, hk, hP⟩ := C
  refine E_call (f := v) (E_global hg hv (Val.raw_ v) hx ⟨rfl, ?_⟩ hd) hk hp
  exact fun p φ s G L => (h p φ s G L).mono fun a φ' σ' s' ⟨xs, hxs, q⟩ => ⟨xs, hxs, hP A xs σ' Q X hA q⟩
theorem E_bi {x : Str} {px pos : Pos} {es : List Expr} {v : Value} (C : Bi B mg mb x v) (hk : Keep B v)
    (h : WEs prog w B A env es ρ σ (fun xs σ₁ => WC prog w B A v xs σ₁ Q X) X)
    (hx : env.kindOf x = some .globalImplicit := by kernel_rfl!)
    (hp : ∀ pos, (backTo pos (starEach es env)).any (·.1) = false := by intro _; with_unfolding_all rfl)
    (hd : (x == ("__debug__" : Str)) = false := by decide +kernel) :
    WE prog w B A env (.Call (.Name x px) es [] pos) ρ σ Q X :=
  E_call (f := v) (E_builtin C.1 C.2.2.1 C.2.1 C.2.2.2 hx ⟨rfl, h⟩ hd) hk hp
/-! statements in a row -/
theorem X_ret {e : Expr} {pos : Pos} {rest : List Stmt} {Q : Fl → List (Str × V) → List AObj → Prop} (h : WE prog w B A env e ρ σ (fun x σ₁ => Q (.ret x) ρ σ₁) X) : WX prog w B A env (.Return (some e) pos :: rest) ρ σ Q X :=
  X_cons (X_return h)
theorem X_let {x : Str} {e : Expr} {px pos : Pos} {rest : List Stmt} {Q : Fl → List (Str × V) → List AObj → Prop} (h : WE prog w B A env e ρ σ (fun y σ₁ => WX prog w B A env rest ((x, y) :: ρ) σ₁ Q X) X)
    (hx : env.kindOf x = some .local := by kernel_rfl!)
    (hs : swapsWith e (some (.Name x px)) pos.line env = pure false := by with_unfolding_all rfl) : WX prog w B A env (.Assign [.Name x px] e pos :: rest) ρ σ Q X :=
  X_cons (X_assign h (.inl hx) hs)
theorem X_letc {x : Str} {e : Expr} {px pos : Pos} {rest : List Stmt} {Q : Fl → List (Str × V) → List AObj → Prop} (h : WE prog w B A env e ρ σ (fun y σ₁ => WX prog w B A env rest ((x, y) :: ρ) σ₁ Q X) X)
    (hx : env.kindOf x = some .cell := by kernel_rfl!) (hc : (env.cells.lookup x).isSome = true := by kernel_rfl!)
    (hs : swapsWith e (some (.Name x px)) pos.line env = pure false := by with_unfolding_all rfl) : WX prog w B A env (.Assign [.Name x px] e pos :: rest) ρ σ Q X :=
  X_cons (X_assign h (.inr ⟨hx, hc⟩) hs)
theorem X_do {e : Expr} {pos : Pos} {rest : List Stmt} {Q : Fl → List (Str × V) → List AObj → Prop} (h : WE prog w B A env e ρ σ (fun _ σ₁ => WX prog w B A env rest ρ σ₁ Q X) X)
    (hi : interactive env = false := by with_unfolding_all rfl) (hs : swapsWith e none pos.line env = pure false := by with_unfolding_all rfl) : WX prog w B A env (.Expr e pos :: rest) ρ σ Q X := X_cons (X_expr h hi hs)
theorem X_ifs {test : Expr} {body orelse : List Stmt} {pos : Pos} {rest : List Stmt} {Q : Fl → List (Str × V) → List AObj → Prop}
    (h : WT prog w B A env test ρ σ (fun b σ₁ => if b then WX prog w B A env body ρ σ₁ (seqQ prog w B A env rest Q X) X else WX prog w B A env orelse ρ σ₁ (seqQ prog w B A env rest Q X) X) X) : WX prog w B A env (.If test body orelse pos :: rest) ρ σ Q X := X_cons (X_if h)
theorem X_set {o i value : Expr} {p pos : Pos} {rest : List Stmt} {Q : Fl → List (Str × V) → List AObj → Prop}
    (h : WE prog w B A env value ρ σ (fun z σ₁ => WE prog w B A env o ρ σ₁ (fun x σ₂ => WE prog w B A env i ρ σ₂ (fun y σ₃ => WSet prog w B A x y z σ₃ (fun σ₄ => WX prog w B A env rest ρ σ₄ Q X) X) X) X) X)
    (hs : swapsWith value (some (.Subscript o i p)) pos.line env = pure false := by with_unfolding_all rfl) : WX prog w B A env (.Assign [.Subscript o i p] value pos :: rest) ρ σ Q X := X_cons (X_setitem h hs)
theorem X_loop {x : Str} {px pos : Pos} {iter : Expr} {body rest : List Stmt} {Q : Fl → List (Str × V) → List AObj → Prop} 
    (h : WE prog w B A env iter ρ σ (fun v σ' => ∃ σ₁ n el C X', XB A B env X' X ∧ ∃ Iv : Nat → List (Str × V) → List AObj → Prop, WIt prog w B A v σ' σ₁ n el C ∧ C σ₁ ∧ Iv 0 ρ σ₁ ∧
      (∀ i ρ₂ σ₂, i < n → C σ₂ → Iv i ρ₂ σ₂ → WX prog w B A env body ((x, el i) :: ρ₂) σ₂ (turnQ (Iv (i + 1)) C (seqQ prog w B A env rest Q X)) X') ∧
      (∀ ρ₂ σ₂, C σ₂ → Iv n ρ₂ σ₂ → WX prog w B A env rest ρ₂ σ₂ Q X)) X)
    (hx : env.kindOf x = some .local := by kernel_rfl!)
    (hs : ∀ v, foldedSetIterable iter env v = pure v := by intro _; with_unfolding_all rfl) (hl : ∀ it v, letOwnedTupleGo (.Name x px) it v = pure () := by intro _ _; with_unfolding_all rfl) :
    WX prog w B A env (.For (.Name x px) iter body [] pos :: rest) ρ σ Q X := X_cons (X_for h (.inl hx) hs hl)

/-! ends of rows -/
theorem sq_ret {rest : List Stmt} {Q : Fl → List (Str × V) → List AObj → Prop} {x : V} (q : Q (.ret x) ρ σ) : seqQ prog w B A env rest Q X (.ret x) ρ σ := q
theorem sq_next {rest : List Stmt} {Q : Fl → List (Str × V) → List AObj → Prop} (q : WX prog w B A env rest ρ σ Q X) : seqQ prog w B A env rest Q X .next ρ σ := q
/-- the end of a def -/
def retQ (σ : List AObj) (Q : V → List AObj → Prop) : Fl → List (Str × V) → List AObj → Prop := fun fl _ σ' => Clean σ Q (retV fl) σ'
theorem R_all {σ₀ : List AObj} {x : V} (q : Q x σ) : retQ σ₀ Q (.ret x) ρ σ := .all q
theorem R_next {σ₀ : List AObj} (q : Q .none σ) : retQ σ₀ Q .next ρ σ := .all q
theorem R_none {σ₀ junk : List AObj} {x : V} (hx : x.lt σ₀.length) (q : Q x σ₀) : retQ σ₀ Q (.ret x) ρ (σ₀ ++ junk) := .none hx q
theorem R_one {σ₀ j1 j2 : List AObj} {ob : AObj} {k : Nat} (hk : k = σ₀.length + j1.length) (ho : ob.lt σ₀.length) (q : Q (.ref σ₀.length) (σ₀ ++ [ob])) : retQ σ₀ Q (.ret (.ref k)) ρ (σ₀ ++ j1 ++ ob :: j2) := .one hk ho q
theorem O_pow60 (q : Q (.int (10 ^ 60)) σ) : W2 prog w B A (binaryOp .Pow) (.int 10) (.int 60) σ Q X := O_pow q (by decide) (by decide) (by decide)

/-! names -/
theorem look_here {x y : Str} {v : V} {ρ : List (Str × V)} (h : x = y) : ((y, v) :: ρ).lookup x = some v := by subst h; simp
theorem look_there {x y : Str} {u v : V} {ρ : List (Str × V)} (h : (x == y) = false) (hr : ρ.lookup x = some v) : ((y, u) :: ρ).lookup x = some v := by rw [List.lookup_cons, h]; exact hr

def LookQ (ρ : List (Str × V)) (x : Str) (P : V → Prop) (R : Prop) : Prop := (∃ v, ρ.lookup x = some v ∧ P v) ∨ R
theorem LQ_here {x : Str} {v : V} {ρ : List (Str × V)} {P : V → Prop} {R : Prop} (p : P v) : LookQ ((x, v) :: ρ) x P R := .inl ⟨v, look_here rfl, p⟩
theorem LQ_there {x y : Str} {u : V} {ρ : List (Str × V)} {P : V → Prop} {R : Prop} (h : (x == y) = false) (p : LookQ ρ x P R) : LookQ ((y, u) :: ρ) x P R := p.imp (fun ⟨v, h1, h2⟩ => ⟨v, look_there h h1, h2⟩) id
theorem LQ_nil {x : Str} {P : V → Prop} {R : Prop} (r : R) : LookQ [] x P R := .inr r
/-- a global name -/
def NG (prog : Program) (w : World) (B : Shared) (A : Around) (env : Env) (x : Str) (ρ : List (Str × V)) (σ : List AObj) (Q : V → List AObj → Prop) (X : XT) : Prop := ∀ pos, WE prog w B A env (.Name x pos) ρ σ Q X
theorem E_nm {x : Str} {pos : Pos} (h : LookQ ρ x (fun v => Q v σ) (NG prog w B A env x ρ σ Q X)) (hd : (x == ("__debug__" : Str)) = false := by decide +kernel) (hn : (x == ("__classdict__" : Str)) = false := by decide +kernel) :
    WE prog w B A env (.Name x pos) ρ σ Q X := h.elim (fun ⟨v, h1, h2⟩ => E_name h1 h2 hd hn) fun h => h pos
theorem N_bi {x : Str} {v : Value} (C : Bi B mg mb x v) (q : Q (.raw v) σ)
    (hx : env.kindOf x = some .globalImplicit := by kernel_rfl!)
    (hd : (x == ("__debug__" : Str)) = false := by decide +kernel) :
    NG prog w B A env x ρ σ Q X := fun pos => E_builtin C.1 C.2.2.1 C.2.1 C.2.2.2 hx q hd
/-- a global constant -/
def GC (B : Shared) (mg : Str → Option Value) (x : Str) (y : V) : Prop := B.heap.Ns mainGlobals mg ∧ ∃ v, mg x = some v ∧ Val [] B.heap y v
theorem N_gc {x : Str} {y : V} (C : GC B mg x y) (q : Q y σ)
    (hx : env.kindOf x = some .globalImplicit := by kernel_rfl!)
    (hd : (x == ("__debug__" : Str)) = false := by decide +kernel) :
    NG prog w B A env x ρ σ Q X := fun pos => let ⟨h1, _, h2, h3⟩ := C; E_global h1 h2 h3 hx q hd

/-! branches -/
theorem iteD {c : Prop} [Decidable c] {P P' : Prop} (h1 : c → P) (h2 : ¬ c → P') : if (decide c) = true then P else P' := by
  by_cases hc : c
  · rw [if_pos (decide_eq_true hc)]; exact h1 hc
  · rw [if_neg (by simpa using hc)]; exact h2 hc
theorem iteDn {c : Prop} [Decidable c] {P P' : Prop} (h1 : ¬ c → P) (h2 : c → P') : if (!decide c) = true then P else P' := by
  by_cases hc : c
  · rw [if_neg (by simpa using hc)]; exact h2 hc
  · rw [if_pos (by simpa using hc)]; exact h1 hc
theorem iteB {b : Bool} {P P' : Prop} (h1 : b = true → P) (h2 : b = false → P') : if b = true then P else P' := by
  cases b
  · exact h2 rfl
  · exact h1 rfl
theorem iteT {P P' : Prop} (h1 : P) : if true = true then P else P' := h1
theorem iteF {P P' : Prop} (h1 : P') : if false = true then P else P' := h1

/-! isinstance -/
def Isi (Tx T : String) (b : Bool) : Prop := typeOf (.type T) = pure (.type "type") ∧ isSubtype (.type Tx) (.type T) = pure b ∧ (Value.type Tx == Value.type T) = (Tx == T) ∧ (b = false → (Tx == T) = false)
theorem Isi.ne {Tx T : String} (h : Isi Tx T false) : (Value.type Tx == Value.type T) = false := h.2.2.1.trans (h.2.2.2 rfl)

theorem isi_yes {x : V} {Tx T : String} (h : Isi Tx T true) (ht : ∀ φ s v, St prog w B φ σ s → Val φ s.heap x v → s.TypeIs v Tx) (q : Q (.bool true) σ) : WC prog w B A (.builtin "isinstance") [x, .raw (.type T)] σ Q X := fun φ s vs G FR hv => by
  obtain ⟨v, u, rfl, hx, hu⟩ := hv.two
  obtain rfl := hu.of_raw
  exact call_isinstance_yes (ht φ s v G hx) h.1 h.2.1 (Post.here G ⟨_, .bool_ _, q⟩)

theorem isi_int {i : Int} {T : String} {b : Bool} (h : Isi "int" T b) (q : Q (.bool b) σ) : WC prog w B A (.builtin "isinstance") [.int i, .raw (.type T)] σ Q X := by
  cases b
  · intro φ s vs G FR hv
    obtain ⟨v, u, rfl, hx, hu⟩ := hv.two
    obtain rfl := hu.of_raw
    obtain ⟨t, rfl⟩ := hx.of_int
    exact call_isinstance (isinstance_false_int h.ne h.1 h.2.1) (Post.tok G ⟨_, .bool_ _, q⟩)
  · exact isi_yes h (fun φ s v G hx => by obtain ⟨t, rfl⟩ := hx.of_int; exact rfl) q
theorem isi_str {i : Str} {T : String} {b : Bool} (h : Isi "str" T b) (q : Q (.bool b) σ) : WC prog w B A (.builtin "isinstance") [.str i, .raw (.type T)] σ Q X := by
  cases b
  · intro φ s vs G FR hv
    obtain ⟨v, u, rfl, hx, hu⟩ := hv.two
    obtain rfl := hu.of_raw
    obtain ⟨t, rfl⟩ := hx.of_str
    exact call_isinstance (isinstance_false_str h.ne h.1 h.2.1) (Post.tok G ⟨_, .bool_ _, q⟩)
  · exact isi_yes h (fun φ s v G hx => by obtain ⟨t, rfl⟩ := hx.of_str; exact typeIs_str s i t) q
theorem isi_bool {i : Bool} {T : String} {b : Bool} (h : Isi "bool" T b) (q : Q (.bool b) σ) : WC prog w B A (.builtin "isinstance") [.bool i, .raw (.type T)] σ Q X := by
  cases b
  · intro φ s vs G FR hv
    obtain ⟨v, u, rfl, hx, hu⟩ := hv.two
    obtain rfl := hu.of_raw
    obtain rfl := hx.of_bool
    exact call_isinstance (isinstance_false_bool h.ne h.1 h.2.1) (Post.tok G ⟨_, .bool_ _, q⟩)
  · exact isi_yes h (fun φ s v G hx => by obtain rfl := hx.of_bool; exact rfl) q
theorem isi_none {T : String} (h : Isi "NoneType" T false) (q : Q (.bool false) σ) : WC prog w B A (.builtin "isinstance") [.none, .raw (.type T)] σ Q X := fun φ s vs G FR hv => by
    obtain ⟨v, u, rfl, hx, hu⟩ := hv.two
    obtain rfl := hu.of_raw
    obtain rfl := hx.of_none
    exact call_isinstance (isinstance_false_none h.ne h.1 h.2.1) (Post.tok G ⟨_, .bool_ _, q⟩)
theorem isi_tup {xs : List V} {T : String} {b : Bool} (h : Isi "tuple" T b) (q : Q (.bool b) σ) : WC prog w B A (.builtin "isinstance") [.tup xs, .raw (.type T)] σ Q X := by
  cases b
  · intro φ s vs G FR hv
    obtain ⟨v, u, rfl, hx, hu⟩ := hv.two
    obtain rfl := hu.of_raw
    obtain ⟨a, vs, rfl, ⟨o, ho, hc, _⟩, _⟩ := hx.of_tup
    exact call_isinstance (isinstance_false_tuple h.ne h.1 h.2.1) ⟨⟨o, ho, hc⟩, Post.tok G ⟨_, .bool_ _, q⟩⟩
  · exact isi_yes h (fun φ s v G hx => by obtain ⟨a, vs, rfl, ht, _⟩ := hx.of_tup; exact ht.typeIs) q
theorem isi_list {k : Nat} {xs : List V} {T : String} {b : Bool} (hσ : σ[k]? = some (.list xs)) (h : Isi "list" T b) (q : Q (.bool b) σ) : WC prog w B A (.builtin "isinstance") [.ref k, .raw (.type T)] σ Q X := by
  cases b
  · intro φ s vs G FR hv
    obtain ⟨v, u, rfl, hx, hu⟩ := hv.two
    obtain rfl := hu.of_raw
    obtain ⟨a, rfl, ha⟩ := hx.of_ref
    obtain ⟨a', ha', vs, n, ho, hvs⟩ := G.get hσ
    rw [ha] at ha'; cases ha'
    exact call_isinstance (isinstance_false_list h.ne h.1 h.2.1) ⟨⟨_, ho, rfl⟩, Post.tok G ⟨_, .bool_ _, q⟩⟩
  · refine isi_yes h (fun φ s v G hx => ?_) q
    obtain ⟨a, rfl, ha⟩ := hx.of_ref
    obtain ⟨a', ha', vs, n, ho, hvs⟩ := G.get hσ
    rw [ha] at ha'; cases ha'
    exact ⟨_, ho, rfl⟩
theorem isi_dict {k : Nat} {es : List (Key × V)} {e : Option Nat} {T : String} {b : Bool} (hσ : σ[k]? = some (.dict es e)) (h : Isi "dict" T b) (q : Q (.bool b) σ) : WC prog w B A (.builtin "isinstance") [.ref k, .raw (.type T)] σ Q X := by
  cases b
  · intro φ s vs G FR hv
    obtain ⟨v, u, rfl, hx, hu⟩ := hv.two
    obtain rfl := hu.of_raw
    obtain ⟨a, rfl, ha⟩ := hx.of_ref
    obtain ⟨a', ha', kvs, ep, hd, hvs, _⟩ := G.get hσ
    rw [ha] at ha'; cases ha'
    have ⟨o, ho, hc⟩ := hd.dictOf.mapOf.typeIs
    exact call_isinstance (isinstance_false_dict h.ne h.1 h.2.1) ⟨⟨o, ho, hc⟩, Post.tok G ⟨_, .bool_ _, q⟩⟩
  · refine isi_yes h (fun φ s v G hx => ?_) q
    obtain ⟨a, rfl, ha⟩ := hx.of_ref
    obtain ⟨a', ha', kvs, ep, hd, hvs, _⟩ := G.get hσ
    rw [ha] at ha'; cases ha'
    exact hd.dictOf.mapOf.typeIs

end
end Mine

set_option autoImplicit false
set_option linter.unusedVariables false
set_option maxRecDepth 100000
namespace Mine
open PySem PySem.W PySem.Calls PyProof.Rows

theorem sub_of {Tx : String} {mro : List Value} {base : Value} {b : Bool} (h : fastBuiltinMro Tx = some mro) (hc : mro.contains base = b) : isSubtype (.type Tx) base = pure b := by
  rw [isSubtype_type, h]; show pure _ = _; rw [hc]
theorem mro_int : fastBuiltinMro "int" = some [.type "int", .type "object"] := by kernel_rfl
theorem mro_bool : fastBuiltinMro "bool" = some [.type "bool", .type "int", .type "object"] := by kernel_rfl
theorem mro_str : fastBuiltinMro "str" = some [.type "str", .type "object"] := by kernel_rfl
theorem mro_tuple : fastBuiltinMro "tuple" = some [.type "tuple", .type "object"] := by kernel_rfl
theorem mro_dict : fastBuiltinMro "dict" = some [.type "dict", .type "object"] := by kernel_rfl
theorem ty_int : typeOf (.type "int") = pure (.type "type") := by kernel_rfl
theorem ty_bool : typeOf (.type "bool") = pure (.type "type") := by kernel_rfl
theorem ty_str : typeOf (.type "str") = pure (.type "type") := by kernel_rfl
theorem ty_tuple : typeOf (.type "tuple") = pure (.type "type") := by kernel_rfl
theorem ty_dict : typeOf (.type "dict") = pure (.type "type") := by kernel_rfl
theorem isi_int_int : Isi "int" "int" true := ⟨ty_int, sub_of mro_int (by decide +kernel), by decide +kernel, by decide +kernel⟩
theorem isi_int_bool : Isi "int" "bool" false := ⟨ty_bool, sub_of mro_int (by decide +kernel), by decide +kernel, by decide +kernel⟩
theorem isi_int_str : Isi "int" "str" false := ⟨ty_str, sub_of mro_int (by decide +kernel), by decide +kernel, by decide +kernel⟩
theorem isi_bool_int : Isi "bool" "int" true := ⟨ty_int, sub_of mro_bool (by decide +kernel), by decide +kernel, by decide +kernel⟩
theorem isi_bool_bool : Isi "bool" "bool" true := ⟨ty_bool, sub_of mro_bool (by decide +kernel), by decide +kernel, by decide +kernel⟩
theorem isi_str_str : Isi "str" "str" true := ⟨ty_str, sub_of mro_str (by decide +kernel), by decide +kernel, by decide +kernel⟩
theorem isi_tuple_tuple : Isi "tuple" "tuple" true := ⟨ty_tuple, sub_of mro_tuple (by decide +kernel), by decide +kernel, by decide +kernel⟩
theorem isi_dict_dict : Isi "dict" "dict" true := ⟨ty_dict, sub_of mro_dict (by decide +kernel), by decide +kernel, by decide +kernel⟩
/-- the built-in names -/
structure Blt (B : Shared) (mg mb : Str → Option Value) : Prop where
  len_ : Bi B mg mb "len" (.builtin "len")
  isinstance_ : Bi B mg mb "isinstance" (.builtin "isinstance")
  max_ : Bi B mg mb "max" (.builtin "max")
  min_ : Bi B mg mb "min" (.builtin "min")
  sum_ : Bi B mg mb "sum" (.builtin "sum")
  sorted_ : Bi B mg mb "sorted" (.builtin "sorted")
  int_ : Bi B mg mb "int" (.type "int")
  bool_ : Bi B mg mb "bool" (.type "bool")
  str_ : Bi B mg mb "str" (.type "str")
  tuple_ : Bi B mg mb "tuple" (.type "tuple")
  list_ : Bi B mg mb "list" (.type "list")
  dict_ : Bi B mg mb "dict" (.type "dict")
  set_ : Bi B mg mb "set" (.type "set")
  range_ : Bi B mg mb "range" (.type "range")
  enumerate_ : Bi B mg mb "enumerate" (.type "enumerate")

/-- the def at a place of the text -/
def dr (p : Program) (i : Nat) : DefRec := match p.main.body[i]? with
  | some (.FunctionDef name args body _ _ _ scope _ _ pos) => ⟨name, args, body, scope, pos⟩
  | _ => ⟨"", { posonlyargs := [], args := [], vararg := none, kwonlyargs := [], kw_defaults := [], kwarg := none, defaults := [] }, [], { kind := .function, names := [], isGenerator := false, isCoroutine := false, more := [] }, ⟨0, 0, 0, 0⟩⟩
def HasF (B : Shared) (mg : Str → Option Value) (d : DefRec) : Prop :=
  ∃ a o pm code doc, mg d.name = some (.ref a) ∧ B.heap.get? a = some o ∧ o.data = .func (docDef d.name d.params d.body d.scope pm code doc) ∧ B.heap.CodeRec code d.name

theorem len_1 {vals : List Value} (h : vals.length = 1) : ∃ a, vals = [a] := List.length_eq_one_iff.mp h
theorem len_2 {vals : List Value} (h : vals.length = 2) : ∃ a b, vals = [a, b] := by
  cases vals with
  | nil => cases h
  | cons a r => obtain ⟨b, rfl⟩ := len_1 (Nat.succ.inj h); exact ⟨a, b, rfl⟩
theorem len_3 {vals : List Value} (h : vals.length = 3) : ∃ a b c, vals = [a, b, c] := by
  cases vals with
  | nil => cases h
  | cons a r => obtain ⟨b, c, rfl⟩ := len_2 (Nat.succ.inj h); exact ⟨a, b, c, rfl⟩
structure Good (d : DefRec) (names : List Str) : Prop where
  bind : ∀ (pm code doc : Value) (vals : List Value), vals.length = names.length → bindArgs (docDef d.name d.params d.body d.scope pm code doc) ⟨vals, []⟩ = pure (names.zip vals)
  kinds : ∀ n ∈ names, d.scope.names.lookup n = some .local ∨ d.scope.names.lookup n = some .cell
  nodup : names.Nodup
  cnodup : (d.scope.names.map (·.1)).Nodup
  co : d.scope.isCoroutine = false
  gen : d.scope.isGenerator = false
  kind : d.scope.kind = .function

section
variable {prog : Program} {w : World} {B : Shared} {mg mb : Str → Option Value} {φ φ' : List Addr} {σ σ' : List AObj} {s s' : Shared} {env : Env} {ρ : List (Str × V)} {A : Around} {X : XT} {Q : V → List AObj → Prop}

theorem HasF.fn {d : DefRec} {names : List Str} (H : HasF B mg d) (lim : B.heap.NoLimit) (g : Good d names) : ∃ a pm code doc, mg d.name = some (.ref a) ∧ Fn B a names (docDef d.name d.params d.body d.scope pm code doc) d.body := by
  obtain ⟨a, o, pm, code, doc, h1, h2, h3, h4⟩ := H
  exact ⟨a, pm, code, doc, h1, ⟨o, h2, h3⟩, lim, h4, rfl, rfl, rfl, rfl, g.bind pm code doc, g.kinds, g.nodup, g.cnodup, g.co, g.gen, g.kind⟩

/-- the contract of a def by a walk of its body -/
theorem CF_of {d : DefRec} {names : List Str} {n : Nat} {P : List V → List AObj → (V → List AObj → Prop) → XT → Prop} (gl : Gl B mg mb) (H : HasF B mg d) (g : Good d names)
    (h : ∀ A pm code doc L a xs σ Q X, AOk n A → P xs σ Q X → xs.length = names.length ∧ WX prog w B A (callEnvC (docDef d.name d.params d.body d.scope pm code doc) L a) d.body (names.zip xs) σ (retQ σ Q) (fun _ _ _ _ => False)) :
    CF prog w B mg d.name (n + 1) P := by
  obtain ⟨a, pm, code, doc, h1, F⟩ := H.fn gl.lim g
  refine ⟨gl.g, .ref a, h1, Keep.fn F, fun A xs σ Q X hA hP => WC.clean (C_fn F ?_ hA.room fun L => ?_)⟩
  · exact (h A pm code doc 0 a xs σ Q X (hA.le (Nat.le_succ n)) hP).1
  · exact (h _ pm code doc L a xs σ Q X hA.deeper hP).2

/-! the script -/
structure Scr (B : Shared) (scr : Addr) (nums : List Int) : Prop where
  list : ∃ vs : Array Value, B.heap.IsList scr vs ∧ IntsAre vs.toList nums
  len : nums.length ≤ 63

theorem C_len_scr {scr : Addr} {nums : List Int} (S : Scr B scr nums) (q : Q (.int nums.length) σ) : WC prog w B A (.builtin "len") [.raw (.ref scr)] σ Q X := fun φ s vs G FR hv => by
  obtain ⟨v, rfl, hx⟩ := hv.one
  obtain rfl := hx.of_raw
  obtain ⟨vs, ⟨o, ho, hc, n, hd⟩, hI⟩ := S.list
  have hl : vs.size = nums.length := by simpa using hI.length
  have := S.len
  exact call_len_list ⟨o, G.base _ _ ho, hc, n, hd⟩ (by (clear hd hc ho hI hv hx FR G q S; lia)) (Post.tok G ⟨_, .int_ _ _, by rw [hl]; exact q⟩)
theorem S_scr {value slice : Expr} {scr : Addr} {nums : List Int} {i : Int} (S : Scr B scr nums) (h0 : 0 ≤ i) (hi : i < nums.length) (q : Q (.int (nums.getD i.toNat 0)) σ)
    (hs : PlainSlice slice := by with_unfolding_all exact fun _ _ => rfl) : WSub prog w B A value slice (.raw (.ref scr)) (.int i) σ Q X := fun φ s v u G hv hu => by
  obtain rfl := hv.of_raw; obtain ⟨t, rfl⟩ := hu.of_int
  obtain ⟨vs, ⟨o, ho, hc, n, hd⟩, hI⟩ := S.list
  have hl : s.heap.IsList scr vs := ⟨o, G.base _ _ ho, hc, n, hd⟩
  have hi' : i.toNat < nums.length := by (clear hl hd hc ho hI hu hv G hs q S; lia)
  have := S.len
  have hsz : vs.size = nums.length := by simpa using hI.length
  have hv' : vs.toList[i.toNat]? = some (vs.toList[i.toNat]'(by simp; omega)) := List.getElem?_eq_getElem _
  obtain ⟨t', e⟩ := hI.int_at i.toNat _ hv'
  refine tail_any hl.typeIs slot_list_getitem.lookup (wpAny_getItem_list hl h0 (by (clear e hv' hsz hi' hl hd hc ho hI hu hv G hs q h0 S; lia)) (by rw [← Array.getElem?_toList]; exact hv') ?_) (hs _ _)
  rw [e]
  exact Post.here G ⟨_, .int_ _ _, q⟩

end
end Mine

set_option autoImplicit false
set_option linter.unusedVariables false
set_option maxRecDepth 100000
namespace Mine
open PySem PySem.W PySem.Calls PyProof.Rows

/-- the names of l stand in ρ -/
def Sub (l ρ : List (Str × V)) : Prop := ∀ x v, l.lookup x = some v → ρ.lookup x = some v
theorem Sub.refl (l : List (Str × V)) : Sub l l := fun _ _ h => h
theorem Sub.nil {ρ : List (Str × V)} : Sub [] ρ := fun _ _ h => by cases h
theorem Sub.cons {l ρ : List (Str × V)} {x : Str} {v : V} (h : LookQ ρ x (fun u => u = v ∧ Sub l ρ) False) : Sub ((x, v) :: l) ρ := by
  rcases h with ⟨u, h1, rfl, h2⟩ | h
  · intro y z hy
    by_cases e : y = x
    · subst e; rw [List.lookup_cons_self] at hy; cases hy; exact h1
    · rw [lookup_cons_ne e] at hy; exact h2 y z hy
  · exact h.elim

section
variable {prog : Program} {w : World} {B : Shared} {mg mb : Str → Option Value} {φ φ' : List Addr} {σ σ' : List AObj} {s s' : Shared} {env : Env} {ρ l : List (Str × V)} {A : Around} {X : XT} {Q : V → List AObj → Prop}

theorem Loc.sub {h : Heap} (L : Loc A B env ρ φ h) (hs : Sub l ρ) : Loc A B env l φ h :=
  ⟨L.kind, L.glob, L.blt, L.ns, L.own, L.cells, L.apart, fun x v hx => L.val x v (hs x v hx), L.frs, L.top⟩
theorem X_weak {ss : List Stmt} {Q : Fl → List (Str × V) → List AObj → Prop} (hs : Sub l ρ) (h : WX prog w B A env ss l σ Q X) : WX prog w B A env ss ρ σ Q X := fun φ s G L => h φ s G (L.sub hs)

/-- what the arms of an «if» leave -/
def joinQ {ι : Type} (C : ι → Prop) (l : ι → List (Str × V)) (f : ι → List AObj) (Q : Fl → List (Str × V) → List AObj → Prop) : Fl → List (Str × V) → List AObj → Prop
  | .next, ρ', σ' => ∃ i, C i ∧ σ' = f i ∧ Sub (l i) ρ'
  | fl, ρ', σ' => Q fl ρ' σ'
theorem J_next {ι : Type} {C : ι → Prop} {l : ι → List (Str × V)} {f : ι → List AObj} {Q : Fl → List (Str × V) → List AObj → Prop} (i : ι) (hC : C i) (hσ : σ = f i) (hs : Sub (l i) ρ) : joinQ C l f Q .next ρ σ := ⟨i, hC, hσ, hs⟩
theorem X_ifj {ι : Type} (C : ι → Prop) (l : ι → List (Str × V)) (f : ι → List AObj) {test : Expr} {body orelse : List Stmt} {pos : Pos} {rest : List Stmt} {Q : Fl → List (Str × V) → List AObj → Prop}
    (h : WT prog w B A env test ρ σ (fun b σ₁ => if b then WX prog w B A env body ρ σ₁ (joinQ C l f Q) X else WX prog w B A env orelse ρ σ₁ (joinQ C l f Q) X) X)
    (k : ∀ i, C i → WX prog w B A env rest (l i) (f i) Q X) : WX prog w B A env (.If test body orelse pos :: rest) ρ σ Q X := by
  have mono : ∀ (ss : List Stmt) (σ₁ : List AObj), WX prog w B A env ss ρ σ₁ (joinQ C l f Q) X → WX prog w B A env ss ρ σ₁ (seqQ prog w B A env rest Q X) X := fun ss σ₁ hw φ s G L =>
    wpAny_mono (hw φ s G L) (fun v s₁ ⟨φ₁, σ₂, t₁, G₁, fl, ρ', hf, L₁, q⟩ => by
      refine ⟨φ₁, σ₂, t₁, G₁, fl, ρ', hf, L₁, ?_⟩
      cases fl with
      | next => obtain ⟨i, hC, rfl, hs⟩ := q; exact X_weak hs (k i hC)
      | brk => exact q
      | cont => exact q
      | ret x => exact q) fun _ _ x => x
  refine X_cons (X_if fun φ s G L => (h φ s G L).mono fun b φ' σ' s' hb => ?_)
  cases b
  · exact mono _ _ hb
  · exact mono _ _ hb

/-- an expression that leaves the heap and gives a known value -/
theorem E_as {e : Expr} (x : V) (h : WE prog w B A env e ρ σ (fun y σ' => y = x ∧ σ' = σ) X) (q : Q x σ) : WE prog w B A env e ρ σ Q X := h.mono fun y σ' ⟨h1, h2⟩ => by subst h1 h2; exact q
theorem T_as {e : Expr} {Q : Bool → List AObj → Prop} (b : Bool) (h : WT prog w B A env e ρ σ (fun y σ' => y = b ∧ σ' = σ) X) (q : Q b σ) : WT prog w B A env e ρ σ Q X := fun φ s G L => (h φ s G L).mono fun y φ' σ' s' ⟨h1, h2⟩ => by subst h1 h2; exact q

theorem C_len_t1 {x : V} (q : Q (.int 1) σ) : WC prog w B A (.builtin "len") [.tup [x]] σ Q X := C_len_tup (by simp only [List.length_cons, List.length_nil]; decide) q
theorem C_len_t2 {x y : V} (q : Q (.int 2) σ) : WC prog w B A (.builtin "len") [.tup [x, y]] σ Q X := C_len_tup (by simp only [List.length_cons, List.length_nil]; decide) q
theorem C_len_t3 {x y z : V} (q : Q (.int 3) σ) : WC prog w B A (.builtin "len") [.tup [x, y, z]] σ Q X := C_len_tup (by simp only [List.length_cons, List.length_nil]; decide) q
theorem iteYes {b : Bool} {P P' : Prop} (h : b = true) (p : P) : if b = true then P else P' := by rw [if_pos h]; exact p
theorem iteNo {b : Bool} {P P' : Prop} (h : b = false) (p : P') : if b = true then P else P' := by rw [if_neg (by simp [h])]; exact p
end
end Mine

set_option autoImplicit false
set_option linter.unusedVariables false
set_option maxRecDepth 100000
namespace Mine
open PySem PySem.W PySem.Calls PyProof.Rows

section
variable {prog : Program} {w : World} {B : Shared} {mg mb : Str → Option Value} {φ φ' : List Addr} {σ σ' : List AObj} {s s' : Shared} {env : Env} {ρ l : List (Str × V)} {A : Around} {X : XT} {Q : V → List AObj → Prop}

/-! calls of methods -/
def GM (prog : Program) (w : World) (B : Shared) (A : Around) (x : V) (name : Str) (σ : List AObj) (id : String) : Prop :=
  ∀ φ s v (pl : Sem Bool) (R : Value × List Value → Shared → Prop) (E : Value → Shared → Prop), St prog w B φ σ s → Val φ s.heap x v → R (.builtin id, [v]) s → wpAny (model prog w) A (getMethod v name pl) R E s
theorem GM_str {x : Str} {name : Str} {id : String} (slot : Slot "str" name id) (hty : typeOf (.builtin id) = pure (.type "method_descriptor")) : GM prog w B A (.str x) name σ id := fun φ s v pl R E G hv h => by
  obtain ⟨t, rfl⟩ := hv.of_str
  exact getMethod_builtin (typeIs_str _ _ _) F.plainAttrs_str slot hty (fun a e => nomatch e) h
theorem GM_list {k : Nat} {xs : List V} {name : Str} {id : String} (hσ : σ[k]? = some (.list xs)) (slot : Slot "list" name id) (hty : typeOf (.builtin id) = pure (.type "method_descriptor")) : GM prog w B A (.ref k) name σ id := fun φ s v pl R E G hv h => by
  obtain ⟨a, rfl, ha⟩ := hv.of_ref
  obtain ⟨a', ha', vs, n, ho, hvs⟩ := G.get hσ
  rw [ha] at ha'; cases ha'
  exact getMethod_builtin ⟨_, ho, rfl⟩ F.plainAttrs_list slot hty (fun a e => by cases e; exact ⟨_, ho, rfl⟩) h
theorem GM_dict {k : Nat} {es : List (Key × V)} {ep : Option Nat} {name : Str} {id : String} (hσ : σ[k]? = some (.dict es ep)) (slot : Slot "dict" name id) (hty : typeOf (.builtin id) = pure (.type "method_descriptor")) : GM prog w B A (.ref k) name σ id := fun φ s v pl R E G hv h => by
  obtain ⟨a, rfl, ha⟩ := hv.of_ref
  obtain ⟨a', ha', kvs, ep, hd, hvs, _⟩ := G.get hσ
  rw [ha] at ha'; cases ha'
  exact getMethod_builtin hd.dictOf.mapOf.typeIs F.plainAttrs_dict slot hty hd.dictOf.mapOf.noDict h

theorem E_mcall {o : Expr} {name : Str} {id : String} {apos pos : Pos} {es : List Expr} {pl : Sem Bool}
    (h : WE prog w B A env o ρ σ (fun x σ₁ => GM prog w B A x name σ₁ id ∧ WEs prog w B A env es ρ σ₁ (fun xs σ₂ => WC prog w B A (.builtin id) (x :: xs) σ₂ Q X) X) X)
    (he : eval (.Call (.Attribute o name apos) es [] pos) env = (do
      let ov ← eval o env
      standAt apos.atName
      let (f, first) ← holding [ov] (getMethod ov name pl)
      callWith pos f first (backTo pos (starEach es env)) []) := by with_unfolding_all rfl)
    (hp : ∀ pos, (backTo pos (starEach es env)).any (·.1) = false := by intro _; with_unfolding_all rfl) :
    WE prog w B A env (.Call (.Attribute o name apos) es [] pos) ρ σ Q X := fun φ s G L => by
  refine MethodCall_ ((h φ s G L).useV (.refl ..) fun v s₁ φ₁ σ₁ t₁ _ G₁ x hx ⟨gm, h₁⟩ => ?_) he
  refine gm φ₁ s₁ v pl _ _ G₁ hx ?_
  refine callWith_builtin (by rw [hp pos]) ?_
  have main := (h₁ pos φ₁ s₁ G₁ (L.step G t₁)).use t₁ (R := fun vs s₂ => wpAny (model prog w) A (call (.builtin id) ([v] ++ vs)) (Post prog w B [] φ s (vQ Q)) (Post prog w B [] φ s X) s₂) fun vs s₂ φ₂ σ₂ t₂ t G₂ ⟨xs, hxs, h₂⟩ => (h₂ φ₂ s₂ (v :: vs) G₂ (L.frs.step t) (.cons (hx.step G₁ t₂) hxs)).last t
  exact evalArgs_any (hp pos) main

/-! str.join -/
theorem vals_strs : ∀ {texts : List Str} {vs : List Value} {h : Heap}, Vals φ h (texts.map V.str) vs → ∃ l : List (Str × Tok), vs = strValues l ∧ l.map (·.1) = texts
  | [], vs, h, e => by rw [List.map_nil, Vals] at e; subst e; exact ⟨[], rfl, rfl⟩
  | x :: r, vs, h, e => by
    rw [List.map_cons, Vals] at e
    obtain ⟨v, r', rfl, h1, h2⟩ := e
    obtain ⟨t, rfl⟩ := h1.of_str
    obtain ⟨l, rfl, rfl⟩ := vals_strs h2
    exact ⟨(x, t) :: l, rfl, rfl⟩
theorem C_join {sep : Str} {k : Nat} {texts : List Str} (hσ : σ[k]? = some (.list (texts.map V.str))) (hok : JoinOk sep texts = true) (q : Q (.str (Txt.join sep texts)) σ) : WC prog w B A (.builtin "str.join") [.str sep, .ref k] σ Q X := fun φ s vs G FR hv => by
  obtain ⟨v, u, rfl, h1, h2⟩ := hv.two
  obtain ⟨t, rfl⟩ := h1.of_str
  obtain ⟨a, rfl, ha⟩ := h2.of_ref
  obtain ⟨a', ha', vs, n, ho, hvs⟩ := G.get hσ
  rw [ha] at ha'; cases ha'
  obtain ⟨l, hl, ht⟩ := vals_strs hvs
  refine SC.join (D := a) (l := l) ⟨_, ho, rfl, n, ?_⟩ ht hok fun t' k => Post.tok G ⟨_, .str_ _ _, q⟩
  rw [← hl]
theorem join_fold : ∀ (l : List Nat) (acc : Array Nat), (l.map fun c => (⟨#[c]⟩ : Str)).foldl (fun acc p => acc ++ (#[] : Array Nat) ++ p.cps) acc = acc ++ l.toArray
  | [], acc => by simp
  | c :: r, acc => by
    rw [List.map_cons, List.foldl_cons, join_fold r]
    simp
theorem join_empty (l : List Nat) : Txt.join ⟨#[]⟩ (l.map fun c => ⟨#[c]⟩) = ⟨l.toArray⟩ := by
  unfold Txt.join Builtin.Str.glued
  cases l with
  | nil => rfl
  | cons c r =>
    have := join_fold r #[c]
    simp only [List.map_cons, List.drop_succ_cons, List.drop_zero, List.headD_cons]
    rw [this]
    simp
theorem joinOk_small {sep : Str} {texts : List Str} (h : ∀ y ∈ texts, y.length ≤ 1000) (hn : texts.length ≤ 1000) (hs : sep.length ≤ 1000) : JoinOk sep texts = true := by
  unfold JoinOk
  rw [StrLaws.joinFits h (by have : texts.length * sep.length ≤ 1000 * 1000 := Nat.mul_le_mul hn hs; (clear hs h; lia))]
  rfl

/-! list.append, dict.get -/
theorem C_append {k : Nat} {xs : List V} {x : V} (hσ : σ[k]? = some (.list xs)) (hl : xs.length ≤ sizeLine) (q : Q .none (σ.set k (.list (xs ++ [x])))) : WC prog w B A (.builtin "list.append") [.ref k, x] σ Q X := fun φ s vs G FR hv => by
  obtain ⟨v, u, rfl, h1, h2⟩ := hv.two
  obtain ⟨a, rfl, ha⟩ := h1.of_ref
  exact list_append G ha hσ h2 hl fun h' hs G' => ⟨φ, _, Step.update hs (List.mem_of_getElem? ha), G', .none, .none_, q⟩
theorem key_is {key : Key} {h : Heap} {u : Value} (hu : Val φ h key.v u) : (kk prog w).is key u = true := by
  cases key with
  | s y => obtain ⟨t, rfl⟩ := hu.of_str; simp [kk, Key.is, Value.isStrOf]
  | i n => obtain ⟨t, rfl⟩ := hu.of_int; simp [kk, Key.is, Value.isInt]
theorem C_get {k : Nat} {es : List (Key × V)} {e : Option Nat} {key : Key} {d : V} (hσ : σ[k]? = some (.dict es e)) (q : Q ((at? es key).getD d) σ) : WC prog w B A (.builtin "dict.get") [.ref k, key.v, d] σ Q X := fun φ s vs G FR hv => by
  obtain ⟨v, u, t, rfl, h1, h2, h3⟩ := hv.three
  obtain ⟨a, rfl, ha⟩ := h1.of_ref
  obtain ⟨a', ha', kvs, ep, hd, hvs, _⟩ := G.get hσ
  rw [ha] at ha'; cases ha'
  have hkey : (kk prog w).is key u = true := key_is h2
  refine call_meetsIn F.slot_dict_get hd.dictOf.mapOf.typeIs F.entry_dict_get (F.args_dict_get_3 _ _ _) (meets_dict_get_default (kk prog w) a hkey (G.notSys (List.mem_of_getElem? ha)) t) ⟨_, hd.dictOf.mapOf, ?_⟩
  rcases hvs.at? key with ⟨y, z, e1, e2, e3⟩ | ⟨e1, e2⟩
  · rw [e1] at q; exact Post.tok G ⟨_, by rw [e2]; exact e3, q⟩
  · rw [e1] at q; exact Post.tok G ⟨_, by rw [e2]; exact h3, q⟩
theorem C_get_s {k : Nat} {es : List (Key × V)} {e : Option Nat} {x : Str} {d : V} (hσ : σ[k]? = some (.dict es e)) (q : Q ((at? es (.s x)).getD d) σ) : WC prog w B A (.builtin "dict.get") [.ref k, .str x, d] σ Q X := C_get (key := .s x) hσ q
/-! range -/
theorem C_range1 {n : Int} (q : Q (.rng 0 n 1) σ) : WC prog w B A (.type "range") [.int n] σ Q X := fun φ s vs G FR hv => by
  obtain ⟨v, rfl, h1⟩ := hv.one
  obtain ⟨t, rfl⟩ := h1.of_int
  have hk : ∀ (ob : Obj) (b : Addr) (o : Obj), s.heap.get? b = some o → (s.heap.push ob).get? b = some o := fun ob b o e => Heap.get?_push_of_some _ e
  exact call_range_1 ⟨φ, σ, .of_keeps (hk _), (G.keeps (s' := { s with heap := _, toks := _ }) (hk _)), .rng 0 n 1, by rw [Val]; exact ⟨_, _, _, _, rfl, Heap.get?_push_size _ rfl⟩, q⟩
/-! new dicts -/
theorem St.newDict {h' : Heap} {tk : Nat} {kvs : List (Key × Value)} {es : List (Key × V)} (G : St prog w B φ σ s) (hk : ∀ b o, s.heap.get? b = some o → h'.get? b = some o) (hd : h'.DictOf (kk prog w) s.heap.objs.size kvs) (he : Ents φ s.heap es kvs) :
    Step [] φ s.heap (φ ++ [s.heap.objs.size]) h' ∧ St prog w B (φ ++ [s.heap.objs.size]) (σ ++ [.dict es none]) { s with heap := h', toks := tk } ∧ Val (φ ++ [s.heap.objs.size]) h' (.ref σ.length) (.ref s.heap.objs.size) := by
  obtain ⟨ep, hd'⟩ := hd.dictAt
  refine ⟨Step.alloc (s' := { s with heap := h' }) (get?_size _) hk, G.alloc (s' := { s with heap := h', toks := tk }) (ob := .dict es none) (get?_size _) hk ⟨kvs, ep, hd', he.mono (List.prefix_append _ _) (fun a o e _ => hk a o e), fun n e => by cases e⟩ G.fresh G.sizeNe, ?_⟩
  rw [Val, ← G.len]
  exact ⟨_, rfl, by simp⟩
theorem E_dict0 {pos : Pos} (q : Q (.ref σ.length) (σ ++ [.dict [] none])) : WE prog w B A env (.Dict [] [] pos) ρ σ Q X := fun φ s G L => by
  refine wpAny_Dict_empty ?_
  have hk : ∀ (b : Addr) (o : Obj), s.heap.get? b = some o → (s.heap.push { cls := .type "dict", data := .dict #[] }).get? b = some o := fun b o e => Heap.get?_push_of_some _ e
  obtain ⟨t, G', hv⟩ := G.newDict (tk := s.toks) (kvs := []) hk (Heap.DictOf.new ..) .nil
  exact ⟨_, _, t, G', _, hv, q⟩

theorem inS_one (x : Str) (c : Nat) : inS x ⟨#[c]⟩ = decide (c ∈ x.cps.toList) := StrLaws.found_one x c

theorem Sub.both {l ρ : List (Str × V)} {x : Str} {v : V} (h : Sub l ρ) : Sub ((x, v) :: l) ((x, v) :: ρ) := fun y z hy => by
  by_cases e : y = x
  · subst e; rw [List.lookup_cons_self] at hy ⊢; exact hy
  · rw [lookup_cons_ne e] at hy ⊢; exact h y z hy
/-- what a turn leaves -/
def turnJ {ι : Type} (D : ι → Prop) (l : ι → List (Str × V)) (f : ι → List AObj) (C : List AObj → Prop) (Q : Fl → List (Str × V) → List AObj → Prop) : Fl → List (Str × V) → List AObj → Prop
  | .next, ρ', σ' => ∃ g, D g ∧ σ' = f g ∧ C σ' ∧ Sub (l g) ρ'
  | .cont, ρ', σ' => ∃ g, D g ∧ σ' = f g ∧ C σ' ∧ Sub (l g) ρ'
  | .brk, ρ', σ' => Q .next ρ' σ'
  | .ret x, ρ', σ' => Q (.ret x) ρ' σ'
theorem TJ_next {ι : Type} {D : ι → Prop} {l : ι → List (Str × V)} {f : ι → List AObj} {C : List AObj → Prop} {Q : Fl → List (Str × V) → List AObj → Prop} (g : ι) (hD : D g) (hσ : σ = f g) (hC : C σ) (hs : Sub (l g) ρ) : turnJ D l f C Q .next ρ σ := ⟨g, hD, hσ, hC, hs⟩
theorem TJ_ret {ι : Type} {D : ι → Prop} {l : ι → List (Str × V)} {f : ι → List AObj} {C : List AObj → Prop} {Q : Fl → List (Str × V) → List AObj → Prop} {x : V} (q : Q (.ret x) ρ σ) : turnJ D l f C Q (.ret x) ρ σ := q
/-- a loop by an invariant with a ghost -/
def ForG (prog : Program) (w : World) (B : Shared) (A : Around) (env : Env) (x : Str) (body rest : List Stmt) (ρ : List (Str × V)) (Q : Fl → List (Str × V) → List AObj → Prop) (X : XT) (v : V) (σ' : List AObj) : Prop :=
  ∃ (ι : Type) (D : Nat → ι → Prop) (l : Nat → ι → List (Str × V)) (f : Nat → ι → List AObj) (σ₁ : List AObj) (n : Nat) (el : Nat → V) (C : List AObj → Prop) (X' : XT), XB A B env X' X ∧ WIt prog w B A v σ' σ₁ n el C ∧ (∃ g, D 0 g ∧ σ₁ = f 0 g ∧ C σ₁ ∧ Sub (l 0 g) ρ) ∧
    (∀ i g, i < n → D i g → C (f i g) → WX prog w B A env body ((x, el i) :: l i g) (f i g) (turnJ (D (i + 1)) (l (i + 1)) (f (i + 1)) C (seqQ prog w B A env rest Q X)) X') ∧
    (∀ g, D n g → C (f n g) → WX prog w B A env rest (l n g) (f n g) Q X)
theorem ForG.mk {x : Str} {body rest : List Stmt} {Q : Fl → List (Str × V) → List AObj → Prop} {v : V} {ι : Type} (D : Nat → ι → Prop) (l : Nat → ι → List (Str × V)) (f : Nat → ι → List AObj) {σ₁ : List AObj} {n : Nat} {el : Nat → V} {C : List AObj → Prop}
    (hit : WIt prog w B A v σ' σ₁ n el C) (g : ι) (h1 : D 0 g) (h2 : σ₁ = f 0 g) (h3 : C σ₁) (h4 : Sub (l 0 g) ρ)
    (hb : ∀ i g, i < n → D i g → C (f i g) → WX prog w B A env body ((x, el i) :: l i g) (f i g) (turnJ (D (i + 1)) (l (i + 1)) (f (i + 1)) C (seqQ prog w B A env rest Q X)) (fun _ _ _ _ => False))
    (he : ∀ g, D n g → C (f n g) → WX prog w B A env rest (l n g) (f n g) Q X) : ForG prog w B A env x body rest ρ Q X v σ' := ⟨ι, D, l, f, σ₁, n, el, C, _, .no, hit, ⟨g, h1, h2, h3, h4⟩, hb, he⟩
theorem X_fors {x : Str} {px pos : Pos} {iter : Expr} {body rest : List Stmt} {Q : Fl → List (Str × V) → List AObj → Prop} (h : WE prog w B A env iter ρ σ (fun v σ' => ForG prog w B A env x body rest ρ Q X v σ') X)
    (hx : env.kindOf x = some .local := by kernel_rfl!)
    (hs : ∀ v, foldedSetIterable iter env v = pure v := by intro _; with_unfolding_all rfl) (hl : ∀ it v, letOwnedTupleGo (.Name x px) it v = pure () := by intro _ _; with_unfolding_all rfl) :
    WX prog w B A env (.For (.Name x px) iter body [] pos :: rest) ρ σ Q X := by
  refine X_loop (h.mono fun v σ' hy => ?_) hx hs hl
  obtain ⟨ι, D, l, f, σ₁, n, el, C, X', hX, hit, ⟨g, h1, h2, h3, h4⟩, hb, he⟩ := hy
  refine ⟨σ₁, n, el, C, X', hX, fun i ρ' σ' => ∃ g, D i g ∧ σ' = f i g ∧ Sub (l i g) ρ', hit, h3, ⟨g, h1, h2, h4⟩, ?_, ?_⟩
  · rintro i ρ₂ σ₂ hi hC ⟨g, hD, rfl, hs⟩
    refine X_weak hs.both fun φ s G L => wpAny_mono (hb i g hi hD hC φ s G L) (fun v s₁ hx => ?_) fun _ _ x => x
    obtain ⟨φ₁, σ₃, t₁, G₁, fl, ρ', hf, L₁, q⟩ := hx
    refine ⟨φ₁, σ₃, t₁, G₁, fl, ρ', hf, L₁, ?_⟩
    cases fl with
    | next => obtain ⟨g, q1, q2, q3, q4⟩ := q; exact ⟨q3, g, q1, q2, q4⟩
    | cont => obtain ⟨g, q1, q2, q3, q4⟩ := q; exact ⟨q3, g, q1, q2, q4⟩
    | brk => exact q
    | ret y => exact q
  · rintro ρ₂ σ₂ hC ⟨g, hD, rfl, hs⟩
    exact X_weak hs (he g hD hC)

/-! kinds of values -/
inductive TyV (σ : List AObj) : V → String → Prop
  | int (i : Int) : TyV σ (.int i) "int"
  | bool (b : Bool) : TyV σ (.bool b) "bool"
  | str (x : Str) : TyV σ (.str x) "str"
  | none : TyV σ .none "NoneType"
  | tup (xs : List V) : TyV σ (.tup xs) "tuple"
  | list {k : Nat} {xs : List V} : σ[k]? = some (.list xs) → TyV σ (.ref k) "list"
  | dict {k : Nat} {es : List (Key × V)} {e : Option Nat} : σ[k]? = some (.dict es e) → TyV σ (.ref k) "dict"
theorem isi_any {x : V} {Tx T : String} {b : Bool} (h : TyV σ x Tx) (hi : Isi Tx T b) (q : Q (.bool b) σ) (hn : (Tx == "NoneType") = true → b = false) : WC prog w B A (.builtin "isinstance") [x, .raw (.type T)] σ Q X := by
  cases h with
  | int => exact isi_int hi q
  | bool => exact isi_bool hi q
  | str => exact isi_str hi q
  | none => obtain rfl := hn (by decide); exact isi_none hi q
  | tup => exact isi_tup hi q
  | list h => exact isi_list h hi q
  | dict h => exact isi_dict h hi q
/-- no text | no whole number -/
def NonStr (σ : List AObj) (x : V) : Prop := ∃ Tx, TyV σ x Tx ∧ Isi Tx "str" false
def NonInt (σ : List AObj) (x : V) : Prop := (∃ b, x = .bool b) ∨ ∃ Tx, TyV σ x Tx ∧ Isi Tx "int" false
def NonDict (σ : List AObj) (x : V) : Prop := ∃ Tx, TyV σ x Tx ∧ Isi Tx "dict" false
def NonTup (σ : List AObj) (x : V) : Prop := ∃ Tx, TyV σ x Tx ∧ Isi Tx "tuple" false
theorem isi_non {x : V} {T : String} (h : ∃ Tx, TyV σ x Tx ∧ Isi Tx T false) (q : Q (.bool false) σ) : WC prog w B A (.builtin "isinstance") [x, .raw (.type T)] σ Q X := let ⟨_, h1, h2⟩ := h; isi_any h1 h2 q fun _ => rfl
end
end Mine

set_option autoImplicit false
set_option linter.unusedVariables false
set_option maxRecDepth 100000
namespace Mine
open PySem PySem.W PySem.Calls PyProof.Rows

def clOf (scope : Scope) (env : Env) : List (Str × Addr) := (scope.names.filter fun p => p.2 == .free).reverse.map fun p => (p.1, (env.cells.lookup p.1).getD 0)

section
variable {prog : Program} {w : World} {B : Shared} {mg mb : Str → Option Value} {φ φ' : List Addr} {σ σ' : List AObj} {s s' : Shared} {env : Env} {ρ l : List (Str × V)} {A : Around} {X : XT} {Q : V → List AObj → Prop}

theorem cellOf_of {x : Str} (h : (env.cells.lookup x).isSome = true) : cellOf env x = pure ((env.cells.lookup x).getD 0) := by
  unfold cellOf
  cases e : env.cells.lookup x with
  | some a => rfl
  | none => rw [e] at h; cases h
theorem clos_loop : ∀ (names : List (Str × NameKind)) (acc : List (Str × Addr)), (∀ p ∈ names, (p.2 == .free) = true → (env.cells.lookup p.1).isSome = true) →
    (forIn names acc fun (x : Str × NameKind) (r : List (Str × Addr)) => (match x with
      | (name, kind) => if (kind == NameKind.free) = true then (do let a ← cellOf env name; pure (ForInStep.yield ((name, a) :: r))) else pure (ForInStep.yield r) : Sem (ForInStep (List (Str × Addr))))) =
    pure ((names.filter fun p => p.2 == .free).reverse.map (fun p => (p.1, (env.cells.lookup p.1).getD 0)) ++ acc)
  | [], acc, _ => by simp
  | (n, k) :: r, acc, h => by
    rw [List.forIn_cons]
    have hr : ∀ p ∈ r, (p.2 == .free) = true → (env.cells.lookup p.1).isSome = true := fun p hp => h p (.tail _ hp)
    cases hk : k == NameKind.free with
    | true =>
      simp only [hk, if_true]
      rw [cellOf_of (h (n, k) (.head _) hk)]
      simp only [pure_bind]
      rw [clos_loop r _ hr]
      simp [hk]
    | false =>
      simp only [hk, Bool.false_eq_true, if_false, pure_bind]
      rw [clos_loop r _ hr]
      simp [hk]
theorem closureFor_of {scope : Scope} (h : ∀ p ∈ scope.names, (p.2 == .free) = true → (env.cells.lookup p.1).isSome = true) : closureFor scope env = pure (clOf scope env) := by
  have := clos_loop (env := env) scope.names [] h
  rw [List.append_nil] at this
  unfold closureFor
  simp only [pure_bind, bind_pure]
  exact this

theorem clOf_lookup_aux : ∀ (names : List (Str × NameKind)) (y : Str), (names.map (·.1)).Nodup → (y, NameKind.free) ∈ names → (env.cells.lookup y).isSome = true →
    ((names.filter fun p => p.2 == .free).reverse.map fun p => (p.1, (env.cells.lookup p.1).getD 0)).lookup y = env.cells.lookup y := fun names y hn hm hs => by
  obtain ⟨a, ha⟩ := Option.isSome_iff_exists.mp hs
  rw [ha]
  refine lookup_of_mem ?_ ?_
  · rw [List.map_map]
    have : ((fun x => x.1) ∘ fun p : Str × NameKind => (p.1, (env.cells.lookup p.1).getD 0)) = (fun p => p.1) := rfl
    rw [this, List.map_reverse]
    refine (List.reverse_perm _).nodup_iff.mpr (hn.sublist (List.Sublist.map _ List.filter_sublist))
  · refine List.mem_map.mpr ⟨(y, .free), List.mem_reverse.mpr (List.mem_filter.mpr ⟨hm, rfl⟩), ?_⟩
    simp [ha]

theorem pair_of_name {l : List (Str × Addr)} (h : l.Pairwise fun x y => x.2 ≠ y.2) {x y : Str} {a b : Addr} (hx : (x, a) ∈ l) (hy : (y, b) ∈ l) (hne : x ≠ y) : a ≠ b := fun e => hne (name_of_addr h hx (e ▸ hy))

/-- the check of a comprehension's names -/
def compB (env : Env) (scope : Scope) (x : Str) : Bool :=
  scope.names.all (fun p => p.2 != .cell) && decide (scope.kind = .function) && scope.names.all (fun p => p.2 != .local || scope.names.lookup p.1 == some .local) && (scope.names.lookup x == some .local) &&
  scope.names.all (fun p => p.2 != .free || (env.cells.lookup p.1).isSome && env.kindOf p.1 == some .cell && (relabel scope env).names.lookup p.1 == some .cell) && decide ((scope.names.map (·.1)).Nodup)

def freeOf (scope : Scope) : List Str := (scope.names.filter fun p => p.2 == .free).map (·.1)
theorem CompOk.of {scope : Scope} {x : Str} (hc : env.cells.Pairwise fun x y => x.2 ≠ y.2) (h : compB env scope x = true) : CompOk env scope (clOf scope env) x (freeOf scope) := by
  unfold compB at h
  simp only [Bool.and_eq_true, List.all_eq_true, Bool.or_eq_true, decide_eq_true_eq, bne_iff_ne, ne_eq, beq_iff_eq] at h
  obtain ⟨⟨⟨⟨⟨h1, h2⟩, h3⟩, h4⟩, h5⟩, h6⟩ := h
  have hf : ∀ p ∈ scope.names, (p.2 == .free) = true → (env.cells.lookup p.1).isSome = true := fun p hp he => by
    rcases h5 p hp with h | h
    · exact absurd (by simpa using he) h
    · exact h.1.1
  refine ⟨closureFor_of hf, h1, h2, fun y hy he => ?_, h4, fun p hp => ?_, ?_, fun y hy => ?_⟩
  · rcases h3 y hy with h | h
    · exact absurd he h
    · exact h
  · obtain ⟨⟨n, k⟩, hq, rfl⟩ := List.mem_map.mp hp
    have hq' := List.mem_filter.mp (List.mem_reverse.mp hq)
    obtain ⟨a, ha⟩ := Option.isSome_iff_exists.mp (hf _ hq'.1 hq'.2)
    have := mem_of_lookup ha
    simpa [ha] using this
  · unfold clOf
    rw [List.pairwise_map]
    have hn : ((scope.names.filter fun p => p.2 == .free).reverse.map (·.1)).Nodup := by
      rw [List.map_reverse]
      exact (List.reverse_perm _).nodup_iff.mpr (h6.sublist (List.Sublist.map _ List.filter_sublist))
    rw [List.Nodup, List.pairwise_map] at hn
    refine hn.imp_of_mem fun {a b} ha hb hne => ?_
    have ha' := List.mem_filter.mp (List.mem_reverse.mp ha)
    have hb' := List.mem_filter.mp (List.mem_reverse.mp hb)
    obtain ⟨u, hu⟩ := Option.isSome_iff_exists.mp (hf _ ha'.1 ha'.2)
    obtain ⟨v, hv⟩ := Option.isSome_iff_exists.mp (hf _ hb'.1 hb'.2)
    simp only [hu, hv, Option.getD_some]
    exact pair_of_name hc (mem_of_lookup hu) (mem_of_lookup hv) hne
  · obtain ⟨⟨n, k⟩, hq, rfl⟩ := List.mem_map.mp hy
    have hq' := List.mem_filter.mp hq
    have hk : k = .free := by simpa using hq'.2
    subst hk
    rcases h5 _ hq'.1 with h | h
    · exact absurd rfl h
    · exact ⟨h.2, h.1.2, clOf_lookup_aux _ _ h6 hq'.1 h.1.1⟩

theorem cellsFrom_apart : ∀ (names : List (Str × NameKind)) (n : Nat) (acc : List (Str × Addr)), (acc.Pairwise fun x y => x.2 ≠ y.2) → (∀ p ∈ acc, p.2 < n) → (cellsFrom n names acc).Pairwise fun x y => x.2 ≠ y.2
  | [], n, acc, h, _ => h
  | (y, k) :: r, n, acc, h, hb => by
    unfold cellsFrom
    split
    · refine cellsFrom_apart r (n + 1) _ (List.pairwise_cons.mpr ⟨fun p hp => ?_, h⟩) fun p hp => ?_
      · exact fun (e : n = p.2) => absurd (e ▸ hb p hp) (Nat.lt_irrefl _)
      · rcases List.mem_cons.mp hp with rfl | hp
        · exact Nat.lt_succ_self _
        · exact Nat.lt_succ_of_lt (hb p hp)
    · exact cellsFrom_apart r n acc h hb
theorem env_apart {fd : FuncData} {L a : Addr} : (callEnvC fd L a).cells.Pairwise fun x y => x.2 ≠ y.2 := cellsFrom_apart _ _ _ .nil (fun _ h => nomatch h)

theorem sub_has {fv : List Str} {y : Str} {v : V} (hy : y ∈ fv) (hv : ρ.lookup y = some v) : (sub ρ fv).lookup y = some v := by
  induction fv with
  | nil => cases hy
  | cons z r ih =>
    unfold sub
    rw [List.filterMap_cons]
    by_cases e : y = z
    · subst e; rw [hv]; simp
    · have hr := ih ((List.mem_cons.mp hy).resolve_left e)
      cases hz : ρ.lookup z with
      | none => exact hr
      | some u =>
        simp only [Option.map_some]
        rw [List.lookup_cons, show (y == z) = false from by simpa using e]
        exact hr
theorem Sub.sub {fv : List Str} (hl : l.all (fun p => fv.contains p.1) = true) (hs : Sub l ρ) : Sub l (Mine.sub ρ fv) := fun y v hy => by
  refine sub_has ?_ (hs y v hy)
  have := List.all_eq_true.mp hl _ (mem_of_lookup hy)
  simpa using this
theorem E_weak {e : Expr} (hs : Sub l ρ) (h : WE prog w B A env e l σ Q X) : WE prog w B A env e ρ σ Q X := fun φ s G L => h φ s G (L.sub hs)

/-- a comprehension whose items leave the heap as it is -/
def CompG (prog : Program) (w : World) (B : Shared) (A : Around) (env cenv : Env) (x : Str) (elt : Expr) (v : V) (σ' : List AObj) (K : Nat → List AObj → List V → Prop) (l : List (Str × V)) : Prop :=
  ∃ σ₁ n el C, ∃ y : Nat → V, WIt prog w B A v σ' σ₁ n el C ∧ n ≤ sizeLine ∧ (∀ i, C (σ₁ ++ [.list ((List.range i).map y)])) ∧
    (∀ D i, i < n → WE prog w B A { cenv with locals := D } elt ((x, el i) :: l) (σ₁ ++ [.list ((List.range i).map y)]) (fun v σ₃ => v = y i ∧ σ₃ = σ₁ ++ [.list ((List.range i).map y)]) (fun _ _ _ _ => False)) ∧
    K σ₁.length σ₁ ((List.range n).map y)
theorem X_compl {elt iter : Expr} {x y : Str} {px py : Pos} {scope : Scope} {pos spos : Pos} {rest : List Stmt} {Q : Fl → List (Str × V) → List AObj → Prop} (l : List (Str × V)) (hl : l.all (fun p => (freeOf scope).contains p.1) = true) (hs : Sub l ρ) (hb : compB env scope x = true) (hc : env.cells.Pairwise fun x y => x.2 ≠ y.2)
    (h : WE prog w B A env iter ρ σ (fun v σ' => CompG prog w B A env (compEnvC scope (clOf scope env) 0 env) x elt v σ' (fun k σ₁ ys => WX prog w B A env rest ((y, .ref k) :: ρ) (σ₁ ++ [.list ys]) Q X) l) X)
    (hy : env.kindOf y = some .local := by kernel_rfl!)
    (hsw : swapsWith (.ListComp elt [⟨.Name x px, iter, [], 0⟩] scope pos) (some (.Name y py)) spos.line env = pure true := by with_unfolding_all rfl)
    (hs' : ∀ v, foldedSetIterable iter env v = pure v := by intro _; with_unfolding_all rfl) :
    WX prog w B A env (.Assign [.Name y py] (.ListComp elt [⟨.Name x px, iter, [], 0⟩] scope pos) spos :: rest) ρ σ Q X := by
  refine X_cons (X_comp (CompOk.of hc hb) (h.mono fun v σ' hx => ?_) hy hsw hs')
  obtain ⟨σ₁, n, el, C, y, hit, hn, hC, helt, hK⟩ := hx
  refine ⟨σ₁, n, el, C, fun i σ₂ => σ₂ = σ₁ ++ [.list ((List.range i).map y)], hit, hC 0, rfl, ?_, ?_⟩
  · rintro D i _ hi hCi rfl
    refine (E_weak (Sub.both (hs.sub hl)) (helt D i hi)).mono ?_
    rintro _ _ ⟨rfl, rfl⟩
    have e : (σ₁ ++ [AObj.list ((List.range i).map y)]).set σ₁.length (.list ((List.range i).map y ++ [y i])) = σ₁ ++ [.list ((List.range (i + 1)).map y)] := by
      rw [List.set_append_right _ _ (Nat.le_refl _)]
      simp [List.range_succ]
    refine ⟨(List.range i).map y, by simp, by simp; (clear e hCi hK helt hC hit hs' hsw hy h hc hb hs hl; lia), ?_, ?_⟩
    · rw [e]; exact hC (i + 1)
    · exact e
  · rintro _ _ rfl
    exact hK
theorem E_compl {elt iter : Expr} {x : Str} {px : Pos} {scope : Scope} {pos : Pos} (l : List (Str × V)) (hl : l.all (fun p => (freeOf scope).contains p.1) = true) (hs : Sub l ρ) (hb : compB env scope x = true) (hc : env.cells.Pairwise fun x y => x.2 ≠ y.2)
    (h : WE prog w B A env iter ρ σ (fun v σ' => CompG prog w B A env (compEnvC scope (clOf scope env) 0 env) x elt v σ' (fun k σ₁ ys => Q (.ref k) (σ₁ ++ [.list ys])) l) X)
    (hs' : ∀ v, foldedSetIterable iter env v = pure v := by intro _; with_unfolding_all rfl) :
    WE prog w B A env (.ListComp elt [⟨.Name x px, iter, [], 0⟩] scope pos) ρ σ Q X := by
  refine E_comp (CompOk.of hc hb) (h.mono fun v σ' hx => ?_) hs'
  obtain ⟨σ₁, n, el, C, y, hit, hn, hC, helt, hK⟩ := hx
  refine ⟨σ₁, n, el, C, fun i σ₂ => σ₂ = σ₁ ++ [.list ((List.range i).map y)], hit, hC 0, rfl, ?_, ?_⟩
  · rintro D i _ hi hCi rfl
    refine (E_weak (Sub.both (hs.sub hl)) (helt D i hi)).mono ?_
    rintro _ _ ⟨rfl, rfl⟩
    have e : (σ₁ ++ [AObj.list ((List.range i).map y)]).set σ₁.length (.list ((List.range i).map y ++ [y i])) = σ₁ ++ [.list ((List.range (i + 1)).map y)] := by
      rw [List.set_append_right _ _ (Nat.le_refl _)]
      simp [List.range_succ]
    refine ⟨(List.range i).map y, by simp, by simp; (clear e hCi hK helt hC hit hs' h hc hb hs hl; lia), ?_, ?_⟩
    · rw [e]; exact hC (i + 1)
    · exact e
  · rintro _ _ rfl
    exact hK
theorem small_size {n : Nat} (h : n ≤ 100000) : n ≤ sizeLine := Nat.le_trans h (by decide +kernel)
theorem at_end {ob : AObj} : (σ ++ [ob])[σ.length]? = some ob := by simp
theorem set_end {ob ob' : AObj} : (σ ++ [ob]).set σ.length ob' = σ ++ [ob'] := by rw [List.set_append_right _ _ (Nat.le_refl _)]; simp
end
end Mine

set_option autoImplicit false
set_option linter.unusedVariables false
set_option maxRecDepth 100000
namespace Mine
open PySem PySem.W PySem.Calls PyProof.Rows

/-! the equality of dicts, and the walk through a dict by list(..) and sorted(..) -/
section
variable {M : Model} {A : Around} {E : Value → Shared → Prop}
end

section
variable {prog : Program} {w : World} {A : Around} {E : Value → Shared → Prop} {s : Shared}

end
end Mine

set_option autoImplicit false
set_option linter.unusedVariables false
set_option maxRecDepth 100000
namespace Mine
open PySem PySem.W PySem.Calls PyProof.Rows

/-- a thing at r that a list can be filled from: n values that are Good -/
structure Src (prog : Program) (w : World) (T : String) (r : Addr) (n : Nat) (Good : List Value → Prop) (OK : Heap → Prop) : Prop where
  type : ∀ s : Shared, OK s.heap → s.TypeIs (.ref r) T
  keep : ∀ h h' : Heap, OK h → (∀ o, h.get? r = some o → h'.get? r = some o) → OK h'
  notList : (Value.type T == Value.type "list") = false
  notTuple : (Value.type T == Value.type "tuple") = false
  hint : ∀ (A : Around) (E : Value → Shared → Prop) (s : Shared) (Q : Bool → Shared → Prop), OK s.heap → Q false s → wpAny (model prog w) A (Builtin.List.listLengthHint (.ref r)) Q E s
  iter : ∀ (A : Around) (E : Value → Shared → Prop) (s : Shared) (Q : Value → Shared → Prop), A.handled = none → OK s.heap →
    (∀ (I : Addr) (s₁ : Shared) (fp : List Addr) (P : Nat → Value → Prop) (St : Nat → Heap → Prop), (∀ b o, s.heap.get? b = some o → s₁.heap.get? b = some o) → s₁.gens = s.gens → s₁.os = s.os →
      (∀ b ∈ fp, b = r ∨ s.heap.get? b = none) → s.heap.get? I = none → Walks prog w A I fp [I] n P St → St 0 s₁.heap → (∀ acc, ItemsOf P acc n → Good acc.toList) → Q (.ref I) s₁) → wpAny (model prog w) A (pyIter (.ref r)) Q E s

section
variable {prog : Program} {w : World} {A : Around} {E : Value → Shared → Prop} {s : Shared} {T : String} {r : Addr} {n : Nat} {Good : List Value → Prop} {OK : Heap → Prop}

/-- what filling a new list at S leaves -/
def Filled (Good : List Value → Prop) (S : Addr) (s s' : Shared) : Prop :=
  (∀ b o, b ≠ S → s.heap.get? b = some o → s'.heap.get? b = some o) ∧ s'.gens = s.gens ∧ s'.os = s.os ∧ ∃ acc c, s'.heap.get? S = some { cls := .type "list", dict := none, data := .seq acc c, slots := #[] } ∧ Good acc.toList

theorem src_extend {R : Result → Shared → Prop} (K : Src prog w T r n Good OK) (hh : A.handled = none) (hok : OK s.heap) (S : Addr) (hSr : S ≠ r) (res : Value) (c₀ : Nat) (hS : s.heap.get? S = some { cls := .type "list", data := .seq #[] c₀ })
    (hR : ∀ s', Filled Good S s s' → R (.ok (.ret res)) s') (hn : n ≤ sizeLine) :
    wpAny (model prog w) A.in1 (Builtin.List.listExtendWith (.ref S) (.ref r) res)
      (fun fin s' => match fin with | .done f => R (.ok f) s' | .again c' => c'.quiet = true ∧ codeAny (model prog w) A c' R s') (fun e s' => R (.error e) s') s := by
  unfold Builtin.List.listExtendWith
  refine wpAny_bind (wpAny_typeOf (T := T) (K.type s hok) ?_)
  have h1 : Builtin.List.listSameRef (.ref S) (.ref r) = false := by simp [Builtin.List.listSameRef, hSr]
  simp only [h1, K.notList, K.notTuple, Bool.or_false, Bool.false_eq_true, if_false]
  refine wpAny_bind (K.iter A.in1 _ s _ hh hok fun I s₁ fp P St hk hg ho hfp hI W st good => ?_)
  have hSf : S ∉ fp := fun hm => by
    rcases hfp S hm with e | e
    · exact hSr e
    · rw [e] at hS; cases hS
  have hSI : S ≠ I := fun e => by rw [e, hI] at hS; cases hS
  have hS₁ := hk S _ hS
  have key : ∀ (h : Heap) (c₁ : Nat), St 0 h → (∀ b o, b ≠ S → s.heap.get? b = some o → h.get? b = some o) →
      h.get? S = some { cls := .type "list", data := .seq #[] c₁ } → codeAny (model prog w) A (.builtin "list.extend.loop" ⟨[.ref S, .ref I, res], []⟩) R { s₁ with heap := h } := by
    intro h c₁ hst hkeep hS₂
    refine codeAny_extend_loopS W.toS hn S hSf res n 0 _ #[] c₁ rfl (Nat.zero_le _) hst hS₂ (ItemsOf.nil _) fun s' acc' c' hm hS' hacc => ?_
    refine hR s' ⟨fun b o hb e => hm.heap b o (fun hmem => ?_) (hkeep b o hb e), hm.gens.trans hg, hm.os.trans ho, acc', c', hS', good acc' hacc⟩
    rcases List.mem_cons.mp hmem with e' | hmem
    · exact hb e'
    · rw [List.mem_singleton.mp hmem, hI] at e; cases e
  refine wpAny_bind (wpAny_holding (K.hint _ _ _ _ (K.keep _ _ hok fun o e => hk r o e) ?_))
  refine wpAny_ite_split (fun _ => ?_) (fun _ => wpAny_pure ⟨plainId_quiet PySem.F.plain_extend_loop _, key s₁.heap c₀ st (fun b o _ e => hk b o e) hS₁⟩)
  refine wpAny_bind (wpAny_rule (wpAny_bind ?_))
  show wpAny _ _ (updateSeq S (·.push .none) >>= fun _ => updateSeq S (·.pop)) _ _ _
  refine wpAny_bind (wpAny_updateSeq hS₁ rfl ?_)
  have hS₂ := Heap.get?_update_self (Obj.mapSeq (·.push Value.none)) hS₁ rfl
  refine wpAny_updateSeq (hz := by seq_fits) hS₂ rfl ?_
  have hS₃ := Heap.get?_update_self (Obj.mapSeq (·.pop)) hS₂ rfl
  refine wpAny_pure ⟨plainId_quiet PySem.F.plain_extend_loop _, key _ _ ?_ (fun b o hb e => ?_) hS₃⟩
  · refine W.frame 0 _ _ st fun b hb o e => ?_
    have hbS : b ≠ S := fun h => hSf (h ▸ hb)
    exact (Heap.get?_update_other _ _ (Ne.symm hbS)).trans ((Heap.get?_update_other _ _ (Ne.symm hbS)).trans e)
  · exact (Heap.get?_update_other _ _ (Ne.symm hb)).trans ((Heap.get?_update_other _ _ (Ne.symm hb)).trans (hk b o e))

theorem src_lt (K : Src prog w T r n Good OK) (hok : OK s.heap) : r < s.heap.objs.size := by
  obtain ⟨o, ho, _⟩ := K.type s hok; exact Heap.lt_size ho

/-- list(r) -/
theorem src_list {Q : Value → Shared → Prop} (K : Src prog w T r n Good OK) (hh : A.handled = none) (hok : OK s.heap) (hn : n ≤ sizeLine)
    (hQ : ∀ s' acc c, (∀ b o, s.heap.get? b = some o → s'.heap.get? b = some o) → s'.gens = s.gens → s'.os = s.os → s'.heap.get? s.heap.objs.size = some { cls := .type "list", dict := none, data := .seq acc c, slots := #[] } → Good acc.toList → Q (.ref s.heap.objs.size) s') :
    wpAny (model prog w) A (call (.type "list") [.ref r]) Q E s := by
  refine callType_codes (Q₁ := fun obj s₁ => obj = .ref s.heap.objs.size ∧ s₁ = { s with heap := s.heap.push { cls := .type "list", data := .seq #[] } }) PySem.F.called_list (PySem.F.typeCall_list_1 _) PySem.F.entry_list_init
    (code_list_new _ ⟨rfl, rfl⟩) fun obj s₁ h₁ => ?_
  obtain ⟨rfl, rfl⟩ := h₁
  have hS : (s.heap.push { cls := .type "list", data := .seq #[] }).get? s.heap.objs.size = some { cls := .type "list", data := .seq #[] } := Heap.get?_push_size _ rfl
  have hlt := src_lt K hok
  refine ⟨⟨_, hS, rfl⟩, PySem.F.args_list_init_2 _ _, ?_⟩
  show wpAny _ _ (do let old ← Builtin.List.listItems (.ref s.heap.objs.size); Builtin.List.listUpdate (.ref s.heap.objs.size) (fun _ => #[]); letGo old.toList.reverse; Builtin.List.listExtendWith (.ref s.heap.objs.size) (.ref r) .none) _ _ _
  refine wpAny_bind (listItems_at hS rfl (wpAny_bind (listUpdate_at hS rfl (wpAny_bind (wpAny_letGo ?_)))))
  have hS₂ := Heap.get?_update_self (Obj.mapSeq (fun _ => (#[] : Array Value))) hS rfl
  have oth : ∀ b o, b ≠ s.heap.objs.size → (s.heap.push { cls := .type "list", data := .seq #[] }).get? b = some o → ((s.heap.push { cls := .type "list", data := .seq #[] }).update s.heap.objs.size (Obj.mapSeq (fun _ => (#[] : Array Value)))).get? b = some o :=
    fun b o hb e => (Heap.get?_update_other _ _ (Ne.symm hb)).trans e
  refine src_extend (A := A.in1) K hh (K.keep _ _ hok fun o e => oth r o (Nat.ne_of_lt hlt) (Heap.get?_push_of_some _ e)) s.heap.objs.size (Nat.ne_of_gt hlt) .none _ hS₂ (fun s' hF => ?_) hn
  obtain ⟨hk, hg, ho, acc, c, hS', hgood⟩ := hF
  exact ⟨rfl, hQ s' acc c (fun b o e => hk b o (Nat.ne_of_lt (Heap.lt_size e)) (oth b o (Nat.ne_of_lt (Heap.lt_size e)) (Heap.get?_push_of_some _ e))) hg ho hS' hgood⟩

/-- collect -/
theorem src_collect {R : List Value → Shared → Prop} (K : Src prog w T r n Good OK) (hh : A.handled = none) (hok : OK s.heap) (hn : n ≤ sizeLine)
    (h : ∀ s' acc, (∀ b o, s.heap.get? b = some o → s'.heap.get? b = some o) → s'.gens = s.gens → s'.os = s.os → Good acc → R acc s') :
    wpAny (model prog w) A (collect (.ref r)) R E s := by
  have hlt := src_lt K hok
  unfold collect
  refine wpAny_bind (wpAny_runValue (codeAny_builtin PySem.F.entry_proto_collect ?_))
  rw [Around.under_plainId PySem.F.plain_proto_collect _]
  show wpAny _ A.in1 (newList [] >>= fun l => again (.builtin "list.__iadd__" ⟨[l, .ref r], []⟩)) _ _ s
  refine wpAny_bind (wpAny_newObj_type ?_)
  refine wpAny_pure ⟨plainId_quiet PySem.F.plain_list_iadd _, codeAny_builtin PySem.F.entry_list_iadd ?_⟩
  rw [Around.under_plainId PySem.F.plain_list_iadd _]
  have hS₁ : (s.heap.push { cls := .type "list", data := .seq ([] : List Value).toArray }).get? s.heap.objs.size = some { cls := .type "list", data := .seq #[] } := Heap.get?_push_size _ rfl
  show wpAny _ A.in1 (Builtin.List.listExtendWith (.ref s.heap.objs.size) (.ref r) (.ref s.heap.objs.size)) _ _ _
  refine wpAny_mono (src_extend (A := A) (s := { s with heap := s.heap.push { cls := .type "list", data := .seq ([] : List Value).toArray } })
    (R := fun (q : Result) (s' : Shared) => q = .ok (.ret (.ref s.heap.objs.size)) ∧ Filled Good s.heap.objs.size { s with heap := s.heap.push { cls := .type "list", data := .seq ([] : List Value).toArray } } s')
    K hh (K.keep _ _ hok fun o e => Heap.get?_push_of_some _ e) s.heap.objs.size (Nat.ne_of_gt hlt) (.ref s.heap.objs.size) 0 hS₁ (fun s' hF => ⟨rfl, hF⟩) hn) (fun fin s' x => ?_) fun e s' x => ?_
  · have go : ∀ s₂, Filled Good s.heap.objs.size { s with heap := s.heap.push { cls := .type "list", data := .seq ([] : List Value).toArray } } s₂ → wpAny (model prog w) A (do
        let o ← load s.heap.objs.size
        match o.data with
        | .seq xs _ => pure xs.toList
        | _ => unsupported "internal:collect") R E s₂ := fun s₂ hF => by
      obtain ⟨hk, hg, ho, acc, c, hS', hgood⟩ := hF
      refine wpAny_bind (wpAny_load hS' (wpAny_pure (h s₂ acc.toList (fun b o e => hk b o (Nat.ne_of_lt (Heap.lt_size e)) (Heap.get?_push_of_some _ e)) hg ho hgood)))
    cases fin with
    | done f =>
      obtain ⟨e, hF⟩ := x
      cases e
      exact go s' hF
    | again c₁ => exact ⟨x.1, codeAny_mono x.2 fun q s₂ y => by obtain ⟨rfl, hF⟩ := y; exact go s₂ hF⟩
  · obtain ⟨e, _⟩ := x; cases e
end

/-- a dict's keys -/
def KeysGood (kvs : List (Key × Value)) (vs : List Value) : Prop := vs.length = kvs.length ∧ ∀ (i : Nat) (v : Value), vs[i]? = some v → ∃ (k : Key) (x : Value), kvs[i]? = some (k, x) ∧ k.is v = true
section
variable {prog : Program} {w : World} {d : Addr} {kvs : List (Key × Value)} {ep : Nat}
theorem hint_dict {A : Around} {E : Value → Shared → Prop} {s : Shared} {r : Addr} {Q : Bool → Shared → Prop} (hT : s.TypeIs (.ref r) "dict") (h : Q false s) : wpAny (model prog w) A (Builtin.List.listLengthHint (.ref r)) Q E s := by
  unfold Builtin.List.listLengthHint
  refine wpAny_bind (wpAny_specialOf hT PySem.F.slot_dict_len.lookup ?_)
  generalize hid : ("dict.__len__" : String) = id0
  wp_delta
  rw [show splitId id0 = some ("dict", "__len__") from by subst hid; decide +kernel]
  subst hid
  refine wpAny_bind (wpAny_isInstance (T := "dict") (b := true) hT (by rw [isSubtype_type]; kernel_rfl) ?_)
  refine wpAny_ite_split (fun hab => absurd hab (by decide)) (fun _ => ?_)
  refine wpAny_ite_split (fun _ => ?_) (fun hab => absurd (by decide +kernel) hab)
  exact wpAny_bind (wpAny_typeOf hT (wpAny_pure h))
theorem src_dict (lo : (d == sysModules) = false) : Src prog w "dict" d kvs.length (KeysGood kvs) (fun h => h.DictAt (kk prog w) d kvs ep) where
  type := fun _ hm => hm.dictOf.typeIs
  keep := fun _ _ hm hk => hm.at' fun o e => hk o e
  notList := by decide
  notTuple := by decide
  hint := fun _ _ _ _ hm hq => hint_dict hm.dictOf.typeIs hq
  iter := fun A E s Q hh hm hq => wpAny_pyIter_dict lo hm (hq _ _ [s.heap.objs.size, d] _ _ (fun b o e => Heap.get?_push_of_some _ e) rfl rfl
    (fun b hb => by rcases List.mem_cons.mp hb with rfl | hb; exact .inr (get?_size _); exact .inl (List.mem_singleton.mp hb)) (get?_size _)
    (Walks.dictKeys hh _ d (Nat.ne_of_lt hm.lt_size) kvs ep) ⟨⟨_, Heap.get?_push_size _ rfl, rfl, rfl⟩, hm.push _⟩
    fun acc hacc => ⟨by rw [Array.length_toList]; exact hacc.1, fun i v e => hacc.2 i v (by rw [← Array.getElem?_toList]; exact e)⟩)
end
end Mine

set_option autoImplicit false
set_option linter.unusedVariables false
set_option maxRecDepth 100000
namespace Mine
open PySem PySem.W PySem.Calls PyProof.Rows

mutual
inductive Dat (σ : List AObj) : V → PyData → Prop
  | none : Dat σ .none .none
  | bool (b : Bool) : Dat σ (.bool b) (.bool b)
  | int (i : Int) : Dat σ (.int i) (.int i)
  | str (x : Str) : Dat σ (.str x) (.str x)
  | tup {xs : List V} {ds : List PyData} : Dats σ xs ds → Dat σ (.tup xs) (.tuple ds)
  | list {k : Nat} {xs : List V} {ds : List PyData} : σ[k]? = some (.list xs) → Dats σ xs ds → Dat σ (.ref k) (.list ds)
inductive Dats (σ : List AObj) : List V → List PyData → Prop
  | nil : Dats σ [] []
  | cons {x : V} {d : PyData} {xs : List V} {ds : List PyData} : Dat σ x d → Dats σ xs ds → Dats σ (x :: xs) (d :: ds)
end

section
variable {prog : Program} {w : World} {B : Shared} {mg mb : Str → Option Value} {φ φ' : List Addr} {σ σ' : List AObj} {s s' : Shared} {env : Env} {ρ l : List (Str × V)} {A : Around} {X : XT} {Q : V → List AObj → Prop}

mutual
theorem Dat.reads (G : St prog w B φ σ s) : ∀ {x : V} {d : PyData} {v : Value}, Dat σ x d → Val φ s.heap x v → ∃ as, Reads s.heap v d as
  | _, _, _, .none, hv => by obtain rfl := hv.of_none; exact ⟨_, .none⟩
  | _, _, _, .bool b, hv => by obtain rfl := hv.of_bool; exact ⟨_, .bool _⟩
  | _, _, _, .int i, hv => by obtain ⟨t, rfl⟩ := hv.of_int; exact ⟨_, .int _ _⟩
  | _, _, _, .str x, hv => by obtain ⟨t, rfl⟩ := hv.of_str; exact ⟨_, .str _ _⟩
  | _, _, _, .tup hs, hv => by
    obtain ⟨a, vs, rfl, ⟨o, ho, hc, n, hd⟩, hvs⟩ := hv.of_tup
    obtain ⟨as, r⟩ := Dats.reads G hs hvs
    exact ⟨_, .tuple ho hc hd r⟩
  | _, _, _, .list hσ hs, hv => by
    obtain ⟨a, rfl, ha⟩ := hv.of_ref
    obtain ⟨a', ha', vs, n, ho, hvs⟩ := G.get hσ
    rw [ha] at ha'; cases ha'
    obtain ⟨as, r⟩ := Dats.reads G hs hvs
    exact ⟨_, .list ho rfl rfl r⟩
theorem Dats.reads (G : St prog w B φ σ s) : ∀ {xs : List V} {ds : List PyData} {vs : List Value}, Dats σ xs ds → Vals φ s.heap xs vs → ∃ as, ReadsAll s.heap vs ds as
  | _, _, _, .nil, hv => by rw [Vals] at hv; subst hv; exact ⟨_, .nil⟩
  | _, _, _, .cons h1 h2, hv => by
    rw [Vals] at hv
    obtain ⟨v, r, rfl, hv1, hv2⟩ := hv
    obtain ⟨as, r1⟩ := Dat.reads G h1 hv1
    obtain ⟨bs, r2⟩ := Dats.reads G h2 hv2
    exact ⟨_, .cons r1 r2⟩
end

theorem O_eqd {x y : V} {d e : PyData} (h1 : Dat σ x d) (h2 : Dat σ y e) (c1 : d.canLay0 = true) (c2 : e.canLay0 = true) (hu : A.units + min d.depth e.depth < cLine) (q : Q (.bool (PyData.eqv d e)) σ) : W2 prog w B A (compareOp .Eq) x y σ Q X := fun φ s v u G hv hu' => by
  obtain ⟨as, r1⟩ := h1.reads G hv
  obtain ⟨bs, r2⟩ := h2.reads G hu'
  exact SeqAt.compareEq_reads r1 r2 c1 c2 hu (Post.here G ⟨_, .bool_ _, q⟩)
theorem O_ned {x y : V} {d e : PyData} (h1 : Dat σ x d) (h2 : Dat σ y e) (c1 : d.canLay0 = true) (c2 : e.canLay0 = true) (hu : A.units + min d.depth e.depth < cLine) (q : Q (.bool (!PyData.eqv d e)) σ) : W2 prog w B A (compareOp .NotEq) x y σ Q X := fun φ s v u G hv hu' => by
  obtain ⟨as, r1⟩ := h1.reads G hv
  obtain ⟨bs, r2⟩ := h2.reads G hu'
  exact SeqAt.compareNe_reads r1 r2 c1 c2 hu (Post.here G ⟨_, .bool_ _, q⟩)

/-! equality of dicts -/
/-! dict(d), list + list -/
theorem C_dict_copy {k : Nat} {es : List (Key × V)} {e : Option Nat} (hσ : σ[k]? = some (.dict es e)) (hl : es.length ≤ sizeLine) (q : Q (.ref σ.length) (σ ++ [.dict es none])) : WC prog w B A (.type "dict") [.ref k] σ Q X := fun φ s vs G FR hv => by
  obtain ⟨v, rfl, hx⟩ := hv.one
  obtain ⟨a, rfl, ha⟩ := hx.of_ref
  obtain ⟨a', ha', kvs, ep, hd, hvs, _⟩ := G.get hσ
  rw [ha] at ha'; cases ha'
  refine kt_call_dict (knd := kk prog w) (G.notSys (List.mem_of_getElem? ha)) hd.dictOf (by rw [hvs.length]; exact hl) fun h' hd' hs => ?_
  have hk : ∀ b o, s.heap.get? b = some o → h'.get? b = some o := fun b o eo => hs.extBut b o (fun h => by rw [h, get?_size] at eo; cases eo) (Heap.get?_push_of_some _ eo)
  obtain ⟨t, G', hv'⟩ := G.newDict (tk := s.toks) hk hd' hvs
  exact ⟨_, _, t, G', _, hv', q⟩
theorem O_addl {j k : Nat} {xs ys : List V} (h1 : σ[j]? = some (.list xs)) (h2 : σ[k]? = some (.list ys)) (hl : xs.length + ys.length ≤ sizeLine) (q : Q (.ref σ.length) (σ ++ [.list (xs ++ ys)])) : W2 prog w B A (binaryOp .Add) (.ref j) (.ref k) σ Q X := fun φ s v u G hv hu => by
  obtain ⟨a, rfl, ha⟩ := hv.of_ref
  obtain ⟨b, rfl, hb⟩ := hu.of_ref
  obtain ⟨a', ha', vs, n, ho, hvs⟩ := G.get h1
  rw [ha] at ha'; cases ha'
  obtain ⟨b', hb', ws, m, ho', hws⟩ := G.get h2
  rw [hb] at hb'; cases hb'
  have e1 : vs.size = xs.length := by simpa using hvs.length
  have e2 : ws.size = ys.length := by simpa using hws.length
  have hk : ∀ (b : Addr) (o : Obj), s.heap.get? b = some o → (s.heap.push { cls := .type "list", data := .seq (vs ++ ws) }).get? b = some o := fun b o e => Heap.get?_push_of_some _ e
  have t₂ : Step [] φ s.heap (φ ++ [s.heap.objs.size]) (s.heap.push { cls := .type "list", data := .seq (vs ++ ws) }) := Step.alloc (s' := { s with heap := s.heap.push { cls := .type "list", data := .seq (vs ++ ws) } }) (get?_size _) hk
  refine P.add_list ho ho' ⟨φ ++ [s.heap.objs.size], σ ++ [.list (xs ++ ys)], t₂, G.alloc (s' := { s with heap := _ }) (ob := .list (xs ++ ys)) (get?_size _) hk ⟨vs ++ ws, 0, Heap.get?_push_size _ rfl, ?_⟩ G.fresh G.sizeNe, .ref σ.length, ?_, q⟩ (by (clear t₂ hk ho' hws ho hvs hu hb hv ha G q h2 h1; lia))
  · rw [Array.toList_append]
    exact (hvs.append hws).step G t₂
  · rw [Val, ← G.len]
    exact ⟨_, rfl, by simp⟩

/-! a loop over a dict's keys -/
def turnD {ι : Type} (k : Nat) (es : List (Key × V)) (e : Option Nat) (ep : Nat) (D : ι → Prop) (l : ι → List (Str × V)) (f : ι → List AObj) (Q : Fl → List (Str × V) → List AObj → Prop) : Fl → List (Str × V) → List AObj → Prop
  | .next, ρ', σ' => ∃ g, D g ∧ σ' = pin (f g) k es ep ∧ Sub (l g) ρ'
  | .cont, ρ', σ' => ∃ g, D g ∧ σ' = pin (f g) k es ep ∧ Sub (l g) ρ'
  | .brk, ρ', σ' => σ'[k]? = some (.dict es (some ep)) ∧ Q .next ρ' (σ'.set k (.dict es e))
  | .ret x, ρ', σ' => σ'[k]? = some (.dict es (some ep)) ∧ Q (.ret x) ρ' (σ'.set k (.dict es e))
theorem TD_next {ι : Type} {k : Nat} {es : List (Key × V)} {e : Option Nat} {ep : Nat} {D : ι → Prop} {l : ι → List (Str × V)} {f : ι → List AObj} {Q : Fl → List (Str × V) → List AObj → Prop} (g : ι) (hD : D g) (hσ : σ = pin (f g) k es ep) (hs : Sub (l g) ρ) : turnD k es e ep D l f Q .next ρ σ := ⟨g, hD, hσ, hs⟩
theorem TD_ret {ι : Type} {k : Nat} {es : List (Key × V)} {e : Option Nat} {ep : Nat} {D : ι → Prop} {l : ι → List (Str × V)} {f : ι → List AObj} {Q : Fl → List (Str × V) → List AObj → Prop} {x : V} (hσ : σ[k]? = some (.dict es (some ep))) (q : Q (.ret x) ρ (σ.set k (.dict es e))) : turnD k es e ep D l f Q (.ret x) ρ σ := ⟨hσ, q⟩
theorem pin_at {k : Nat} {es es₀ : List (Key × V)} {e₀ : Option Nat} {ep : Nat} (h : σ[k]? = some (.dict es₀ e₀)) : (pin σ k es ep)[k]? = some (.dict es (some ep)) := by
  rw [pin, List.getElem?_set_self (List.getElem?_eq_some_iff.mp h).1]
theorem pin_set {k : Nat} {es : List (Key × V)} {e : Option Nat} {ep : Nat} (h : σ[k]? = some (.dict es e)) : (pin σ k es ep).set k (.dict es e) = σ := by
  rw [pin, List.set_set]
  obtain ⟨hk, he⟩ := List.getElem?_eq_some_iff.mp h
  rw [← he]; simp
theorem pin_ne {j k : Nat} {es : List (Key × V)} {ep : Nat} (h : j ≠ k) : (pin σ k es ep)[j]? = σ[j]? := by rw [pin, List.getElem?_set_ne (Ne.symm h)]

theorem X_ford {x : Str} {px pos : Pos} {iter : Expr} {body rest : List Stmt} {Q : Fl → List (Str × V) → List AObj → Prop} {k : Nat} {es : List (Key × V)} {e : Option Nat} {ι : Type} (D : Nat → ι → Prop) (l : Nat → ι → List (Str × V)) (f : Nat → ι → List AObj) (g₀ : ι)
    (hh : A.handled = none) (hσ : σ[k]? = some (.dict es e))
    (hi : ∀ ep, WE prog w B A env iter ρ (pin σ k es ep) (fun v σ' => v = .ref k ∧ σ' = pin σ k es ep) X)
    (h1 : D 0 g₀) (h2 : σ = f 0 g₀) (h4 : Sub (l 0 g₀) ρ) (hf : ∀ i g, D i g → (f i g)[k]? = some (.dict es e))
    (hb : ∀ ep i g, i < es.length → D i g → WX prog w B A env body ((x, keyAt es i) :: l i g) (pin (f i g) k es ep) (turnD k es e ep (D (i + 1)) (l (i + 1)) (f (i + 1)) (seqQ prog w B A env rest Q X)) (fun _ _ _ _ => False))
    (he : ∀ g, D es.length g → WX prog w B A env rest (l es.length g) (f es.length g) Q X)
    (hx : env.kindOf x = some .local := by kernel_rfl!)
    (hs : ∀ v, foldedSetIterable iter env v = pure v := by intro _; with_unfolding_all rfl) (hl : ∀ it v, letOwnedTupleGo (.Name x px) it v = pure () := by intro _ _; with_unfolding_all rfl) :
    WX prog w B A env (.For (.Name x px) iter body [] pos :: rest) ρ σ Q X := by
  refine X_cons fun φ s G L => ?_
  obtain ⟨ep, hep, G', _⟩ := G.pin hσ
  have main : WX1 prog w B A env (.For (.Name x px) iter body [] pos) ρ (pin σ k es ep) (fun fl ρ' σ' => σ'[k]? = some (.dict es (some ep)) ∧ seqQ prog w B A env rest Q X fl ρ' (σ'.set k (.dict es e))) X := by
    refine X_for ((hi ep).mono fun v σ' ⟨e1, e2⟩ => ?_) (.inl hx) hs hl
    subst e1 e2
    refine ⟨pin σ k es ep, es.length, keyAt es, fun σ' => σ'[k]? = some (.dict es (some ep)), _, .no, fun i ρ' σ' => ∃ g, D i g ∧ σ' = pin (f i g) k es ep ∧ Sub (l i g) ρ', It_dict (e := none) hh (pin_at hσ), pin_at hσ, ⟨g₀, h1, by rw [← h2], h4⟩, ?_, ?_⟩
    · rintro i ρ₂ σ₂ hi' hC ⟨g, hD, rfl, hs'⟩
      refine X_weak hs'.both fun φ s G L => wpAny_mono (hb ep i g hi' hD φ s G L) (fun v s₁ hx => ?_) fun _ _ x => x
      obtain ⟨φ₁, σ₃, t₁, G₁, fl, ρ', hf', L₁, q⟩ := hx
      refine ⟨φ₁, σ₃, t₁, G₁, fl, ρ', hf', L₁, ?_⟩
      cases fl with
      | next => obtain ⟨g', q1, q2, q4⟩ := q; exact ⟨by rw [q2]; exact pin_at (hf _ _ q1), g', q1, q2, q4⟩
      | cont => obtain ⟨g', q1, q2, q4⟩ := q; exact ⟨by rw [q2]; exact pin_at (hf _ _ q1), g', q1, q2, q4⟩
      | brk => exact q
      | ret y => exact q
    · rintro ρ₂ σ₂ hC ⟨g, hD, rfl, hs'⟩
      refine ⟨hC, ?_⟩
      rw [pin_set (hf _ _ hD)]
      exact X_weak hs' (he g hD)
  refine wpAny_mono (main φ s G' L) (fun v s₁ hx => ?_) fun _ _ x => x
  obtain ⟨φ₁, σ₁, t₁, G₁, fl, ρ₁, hf', L₁, q1, q2⟩ := hx
  exact ⟨φ₁, σ₁.set k (.dict es e), t₁, G₁.unpin q1 hep, fl, ρ₁, hf', L₁, q2⟩

/-! slices of texts -/
theorem E_slice_to {value upper : Expr} {p pos : Pos} (h : WE prog w B A env value ρ σ (fun x σ₁ => ∃ y : Str, x = .str y ∧ y.length ≤ sizeLine ∧ WE prog w B A env upper ρ σ₁ (fun u σ₂ => ∃ j : Int, u = .int j ∧ Q (.str (Txt.slice y none (some j))) σ₂) X) X)
    : WE prog w B A env (.Subscript value (.Slice none (some upper) none p) pos) ρ σ Q X := fun φ s G L => by
  refine Subscript_ ((h φ s G L).useV (.refl ..) fun a s₁ φ₁ σ₁ t₁ _ G₁ x hx ⟨y, ey, hy, h₁⟩ => ?_)
  subst ey
  obtain ⟨t, rfl⟩ := hx.of_str
  refine wpAny_Slice ?_
  show wpAny _ _ (pure Value.none) _ _ _
  refine wpAny_pure ?_
  show wpAny _ _ (eval upper env) _ _ _
  refine (h₁ φ₁ s₁ G₁ (L.step G t₁)).useV t₁ fun b s₂ φ₂ σ₂ t₂ tt G₂ u hu ⟨j, ej, q⟩ => ?_
  subst ej
  obtain ⟨t', rfl⟩ := hu.of_int
  show wpAny _ _ (pure Value.none) _ _ _
  refine wpAny_pure ?_
  have it := SBH.sliceItem_ns (prog := prog) (w := w) (A := A) (E := Post prog w B [] φ s X) (P := fun h => ∀ b o, s₂.heap.get? b = some o → h.get? b = some o) (s := s₂) (x := y) (t := t) (j := j) (uj := t') (Q := Post prog w B [] φ s (vQ Q))
    (fun h ob hk b o e => Heap.get?_push_of_some _ (hk b o e)) (fun _ _ e => e) (fun h' t'' kk hk => ⟨φ₂, σ₂, tt.trans0 (.of_keeps hk), G₂.keeps (s' := { s₂ with heap := h', toks := kk }) hk, _, .str_ _ _, q⟩) hy
  obtain ⟨T, id, h1, h2, h3⟩ := it
  exact tail_any (ops := [_, _]) h2 h1 h3 rfl
theorem E_slice_from {value lower : Expr} {p pos : Pos} (h : WE prog w B A env value ρ σ (fun x σ₁ => ∃ y : Str, x = .str y ∧ y.length ≤ sizeLine ∧ WE prog w B A env lower ρ σ₁ (fun u σ₂ => ∃ j : Int, u = .int j ∧ Q (.str (Txt.slice y (some j) none)) σ₂) X) X)
    : WE prog w B A env (.Subscript value (.Slice (some lower) none none p) pos) ρ σ Q X := fun φ s G L => by
  refine Subscript_ ((h φ s G L).useV (.refl ..) fun a s₁ φ₁ σ₁ t₁ _ G₁ x hx ⟨y, ey, hy, h₁⟩ => ?_)
  subst ey
  obtain ⟨t, rfl⟩ := hx.of_str
  refine wpAny_Slice ?_
  show wpAny _ _ (eval lower env) _ _ _
  refine (h₁ φ₁ s₁ G₁ (L.step G t₁)).useV t₁ fun b s₂ φ₂ σ₂ t₂ tt G₂ u hu ⟨j, ej, q⟩ => ?_
  subst ej
  obtain ⟨t', rfl⟩ := hu.of_int
  show wpAny _ _ (pure Value.none) _ _ _
  refine wpAny_pure ?_
  show wpAny _ _ (pure Value.none) _ _ _
  refine wpAny_pure ?_
  have it := SBH.sliceItem_sn (prog := prog) (w := w) (A := A) (E := Post prog w B [] φ s X) (P := fun h => ∀ b o, s₂.heap.get? b = some o → h.get? b = some o) (s := s₂) (x := y) (t := t) (i := j) (ui := t') (Q := Post prog w B [] φ s (vQ Q))
    (fun h ob hk b o e => Heap.get?_push_of_some _ (hk b o e)) (fun _ _ e => e) (fun h' t'' kk hk => ⟨φ₂, σ₂, tt.trans0 (.of_keeps hk), G₂.keeps (s' := { s₂ with heap := h', toks := kk }) hk, _, .str_ _ _, q⟩) hy
  obtain ⟨T, id, h1, h2, h3⟩ := it
  exact tail_any (ops := [_, _]) h2 h1 h3 rfl
theorem R_one0 {σ₀ j2 : List AObj} {ob : AObj} (ho : ob.lt σ₀.length) (q : Q (.ref σ₀.length) (σ₀ ++ [ob])) : retQ σ₀ Q (.ret (.ref σ₀.length)) ρ (σ₀ ++ ob :: j2) := by
  have r := R_one (ρ := ρ) (j1 := ([] : List AObj)) (j2 := j2) (k := σ₀.length) (by simp) ho q
  rw [List.append_nil] at r
  exact r
theorem set_prev {a b c : AObj} : (σ ++ [a] ++ [b]).set σ.length c = σ ++ [c] ++ [b] := by rw [List.set_append_left _ _ (by simp), set_end]
theorem at_prev {a b : AObj} : (σ ++ [a] ++ [b])[σ.length]? = some a := by rw [List.getElem?_append_left (by simp)]; simp
theorem slice_to {x : Str} {j : Int} (h0 : 0 ≤ j) : Txt.slice x none (some j) = ⟨(x.cps.toList.take j.toNat).toArray⟩ := by
  by_cases hj : j ≤ x.cps.toList.length
  · have := eq_of_beq (slice_closes_to (x := x) ⟨h0, hj⟩)
    rw [this]; simp
  · have hlen : (x.length : Int) < j := by simp [Str.length] at hj ⊢; omega
    unfold Txt.slice
    have hi : (Builtin.Str.strSliceIndices none (some j) 1 x.length).length = x.length := by
      unfold Builtin.Str.strSliceIndices sliceRange
      have h1 : ¬ (j < 0) := by (clear hlen hj; omega)
      have e2 : max (0 : Int) (min j (x.length : Int)) = x.length := by (clear h1 hj h0; lia)
      simp only [h1, if_false, e2, show ((1 : Int) > 0) = True from by simp, if_true, List.length_map, List.length_range]
      split <;> omega
    rw [if_pos (by rw [hi]; simp)]
    have : x.cps.toList.take j.toNat = x.cps.toList := List.take_of_length_le (by simp [Str.length] at hlen ⊢; (clear hi hj h0; lia))
    rw [this]
theorem slice_from {x : Str} {j : Int} (h0 : 0 ≤ j) (hj : j ≤ x.length) : Txt.slice x (some j) none = ⟨(x.cps.toList.drop j.toNat).toArray⟩ := by
  have := eq_of_beq (slice_closes_fromL (x := x) h0 hj rfl)
  rw [this]
  congr 2
  refine List.take_of_length_le ?_
  simp [Str.length] at hj ⊢; (clear this hj h0; omega)
theorem St.nodupKeys {k : Nat} {es : List (Key × V)} {e : Option Nat} (G : St prog w B φ σ s) (hσ : σ[k]? = some (.dict es e)) : (es.map (·.1)).Nodup := by
  obtain ⟨a, ha, kvs, ep, hd, hvs, _⟩ := G.get hσ
  obtain ⟨_, _, _, _, _, _, _, _, hn⟩ := hd.dictOf
  rw [← hvs.keys]; exact hn
theorem X_keys {ss : List Stmt} {Q : Fl → List (Str × V) → List AObj → Prop} {k : Nat} {es : List (Key × V)} {e : Option Nat} (hσ : σ[k]? = some (.dict es e)) (h : (es.map (·.1)).Nodup → WX prog w B A env ss ρ σ Q X) : WX prog w B A env ss ρ σ Q X := fun φ s G L => h (G.nodupKeys hσ) φ s G L
theorem at_get {es : List (Key × V)} (hn : (es.map (·.1)).Nodup) {i : Nat} (hi : i < es.length) : at? es (es[i]).1 = some (es[i]).2 := by
  induction es generalizing i with
  | nil => simp at hi
  | cons p r ih =>
    cases i with
    | zero => simp [at?]
    | succ i =>
      simp only [List.map_cons, List.nodup_cons] at hn
      have hi' : i < r.length := by simpa using hi
      have hne : p.1 ≠ (r[i]).1 := fun e => hn.1 (e ▸ List.mem_map.mpr ⟨r[i], List.getElem_mem _, rfl⟩)
      have := ih hn.2 hi'
      simpa [at?, hne] using this
theorem keyAt_get {es : List (Key × V)} {i : Nat} (hi : i < es.length) : keyAt es i = (es[i]).1.v := by unfold keyAt; rw [List.getD_eq_getElem?_getD, List.getElem?_eq_getElem hi]; rfl
theorem TyV.pin {k : Nat} {es : List (Key × V)} {e : Option Nat} {ep : Nat} {x : V} {T : String} (hσ : σ[k]? = some (.dict es e)) (h : TyV σ x T) : TyV (Mine.pin σ k es ep) x T := by
  cases h with
  | int => exact .int _
  | bool => exact .bool _
  | str => exact .str _
  | none => exact .none
  | tup => exact .tup _
  | @list j xs h => exact .list (xs := xs) (by rw [pin_ne (fun e => by rw [e, hσ] at h; cases h)]; exact h)
  | @dict j es' e' h =>
    by_cases e : j = k
    · subst e; exact .dict (pin_at hσ)
    · exact .dict (es := es') (e := e') (by rw [pin_ne e]; exact h)
theorem TyV.append {x : V} {T : String} (more : List AObj) (h : TyV σ x T) : TyV (σ ++ more) x T := by
  cases h with
  | int => exact .int _
  | bool => exact .bool _
  | str => exact .str _
  | none => exact .none
  | tup => exact .tup _
  | @list j xs h => exact .list (xs := xs) (by rw [List.getElem?_append_left (List.getElem?_eq_some_iff.mp h).1]; exact h)
  | @dict j es' e' h => exact .dict (es := es') (e := e') (by rw [List.getElem?_append_left (List.getElem?_eq_some_iff.mp h).1]; exact h)
end
end Mine

set_option autoImplicit false
set_option linter.unusedVariables false
set_option maxRecDepth 100000
namespace Mine
open PySem PyProof.Rows

/-! list.sort of fewer than 64 items (in S7's place) -/
def sortLine : Nat := 63
theorem sort_size {n : Nat} (h : n ≤ sortLine) : n ≤ sizeLine := Nat.le_trans h (by rw [sizeLine_eq]; decide)
theorem small_sort {n : Nat} (h : n ≤ 63) : n ≤ sortLine := h
section
variable {prog : Program} {w : World} {A : Around} {E : Value → Shared → Prop} {s : Shared}
theorem list_sort_any {κ : KeyKind} (hO : κ.OneLt) {a : Addr} {vs : List Value} {n : Nat} {P : Fin → Shared → Prop} (ho : s.heap.get? a = some (seqObj "list" vs.toArray n))
    (h0 : KeysOf κ (pairsOf vs)) (hkk : ∀ v₁ v₂ rest, vs = v₁ :: v₂ :: rest → keyKind' (v₁ :: v₂ :: rest).toArray = pure oneType') (hn : vs.length ≤ sortLine)
    (h : ∀ st' : SortSt, (arrOf st').Perm (pairsOf vs) → SortedToK κ (arrOf st') (pairsOf vs).size → P (.done (.ret .none)) { s with heap := sortedHeap s.heap a vs ((arrOf st').map (·.2)) }) :
    wpAny (model prog w) A (Builtin.«list.sort» ⟨[.ref a], []⟩) P E s := list_sort_treeK hO ho h0 hkk (Nat.lt_succ_of_le hn) h
end
end Mine

set_option autoImplicit false
set_option linter.unusedVariables false
set_option maxRecDepth 100000
namespace Mine
open PySem PySem.W PySem.Calls PyProof.Rows

section
variable {prog : Program} {w : World} {B : Shared} {mg mb : Str → Option Value} {φ φ' : List Addr} {σ σ' : List AObj} {s s' : Shared} {env : Env} {ρ l : List (Str × V)} {A : Around} {X : XT} {Q : V → List AObj → Prop}

theorem vals_of {h : Heap} : ∀ {xs : List V} {vs : List Value}, vs.length = xs.length → (∀ (i : Nat) (x : V) (v : Value), xs[i]? = some x → vs[i]? = some v → Val φ h x v) → Vals φ h xs vs
  | [], [], _, _ => .nil
  | [], _ :: _, e, _ => by simp at e
  | _ :: _, [], e, _ => by simp at e
  | x :: xs, v :: vs, e, f => .cons (f 0 x v rfl rfl) (vals_of (by simpa using e) fun i y u h1 h2 => f (i + 1) y u h1 h2)

/-- a new list laid somewhere above -/
theorem St.newList {h' : Heap} {tk : Nat} {c : Addr} {xs : List V} {items : Array Value} {n : Nat} (G : St prog w B φ σ s) (hc : s.heap.objs.size ≤ c) (hk : ∀ b o, s.heap.get? b = some o → h'.get? b = some o) (ho : h'.get? c = some { cls := .type "list", data := .seq items n }) (hv : Vals φ h' xs items.toList) :
    Step [] φ s.heap (φ ++ [c]) h' ∧ St prog w B (φ ++ [c]) (σ ++ [.list xs]) { s with heap := h', toks := tk } ∧ Val (φ ++ [c]) h' (.ref σ.length) (.ref c) := by
  have hcφ : c ∉ φ := fun hm => by
    obtain ⟨o, e⟩ := G.there hm
    exact absurd (Heap.lt_size e) (Nat.not_lt.mpr hc)
  have hcs : c ≠ sysModules := fun e => by
    obtain ⟨⟨o, ho⟩, _⟩ := G.sys
    have := Heap.lt_size (G.base _ _ ho)
    rw [e] at hc
    exact absurd (Nat.lt_of_lt_of_le this hc) (by decide)
  refine ⟨Step.alloc (s' := { s with heap := h' }) (get?_of_ge hc) hk, G.alloc (s' := { s with heap := h', toks := tk }) (ob := .list xs) (get?_of_ge hc) hk ⟨items, n, ho, Vals.mono (List.prefix_append _ _) (fun _ _ e _ => e) xs hv⟩ hcφ hcs, ?_⟩
  rw [Val, ← G.len]
  exact ⟨_, rfl, by simp⟩

theorem St.newList2 {h₁ h' : Heap} {tk : Nat} {c : Addr} {xs : List V} {items : Array Value} {n : Nat} (G : St prog w B φ σ s) (hk1 : ∀ b o, s.heap.get? b = some o → h₁.get? b = some o) (hc : h₁.objs.size ≤ c) (hk : ∀ b o, s.heap.get? b = some o → h'.get? b = some o) (ho : h'.get? c = some { cls := .type "list", data := .seq items n }) (hv : Vals φ h' xs items.toList) :
    Step [] φ s.heap (φ ++ [c]) h' ∧ St prog w B (φ ++ [c]) (σ ++ [.list xs]) { s with heap := h', toks := tk } ∧ Val (φ ++ [c]) h' (.ref σ.length) (.ref c) := by
  have hnone : s.heap.get? c = none := by
    cases e : s.heap.get? c with
    | none => rfl
    | some o => exact absurd (Heap.lt_size (hk1 c o e)) (Nat.not_lt.mpr hc)
  have hcφ : c ∉ φ := fun hm => by
    obtain ⟨o, e⟩ := G.there hm
    rw [hnone] at e; cases e
  have hcs : c ≠ sysModules := fun e => by
    obtain ⟨⟨o, ho⟩, _⟩ := G.sys
    have := Heap.lt_size (hk1 _ _ (G.base _ _ ho))
    rw [e] at hc
    exact absurd (Nat.lt_of_lt_of_le this hc) (by decide)
  refine ⟨Step.alloc (s' := { s with heap := h' }) hnone hk, G.alloc (s' := { s with heap := h', toks := tk }) (ob := .list xs) hnone hk ⟨items, n, ho, Vals.mono (List.prefix_append _ _) (fun _ _ e _ => e) xs hv⟩ hcφ hcs, ?_⟩
  rw [Val, ← G.len]
  exact ⟨_, rfl, by simp⟩

theorem St.newListS {s₂ : Shared} {c : Addr} {xs : List V} {items : Array Value} {n : Nat} (G : St prog w B φ σ s) (hc : s.heap.objs.size ≤ c) (hk : ∀ b o, s.heap.get? b = some o → s₂.heap.get? b = some o) (hg : s₂.gens = s.gens) (hos : s₂.os = s.os) (ho : s₂.heap.get? c = some { cls := .type "list", data := .seq items n }) (hv : Vals φ s₂.heap xs items.toList) :
    Step [] φ s.heap (φ ++ [c]) s₂.heap ∧ St prog w B (φ ++ [c]) (σ ++ [.list xs]) s₂ ∧ Val (φ ++ [c]) s₂.heap (.ref σ.length) (.ref c) := by
  obtain ⟨t, G', hv'⟩ := G.newList (tk := s.toks) (h' := s₂.heap) hc hk ho hv
  exact ⟨t, ⟨G'.base, G'.new, G'.nodup, G'.len, G'.objs, hg.trans G.gens, hos.trans G.os, G'.sys⟩, hv'⟩
/-- list(d) -/
theorem C_list_dict {k : Nat} {es : List (Key × V)} {e : Option Nat} (hh : A.handled = none) (hσ : σ[k]? = some (.dict es e)) (hl : es.length ≤ sizeLine) (q : Q (.ref σ.length) (σ ++ [.list (es.map fun p => p.1.v)])) : WC prog w B A (.type "list") [.ref k] σ Q X := fun φ s vs G FR hv => by
  obtain ⟨v, rfl, hx⟩ := hv.one
  obtain ⟨a, rfl, ha⟩ := hx.of_ref
  obtain ⟨a', ha', kvs, ep, hd, hvs, _⟩ := G.get hσ
  rw [ha] at ha'; cases ha'
  refine src_list (src_dict (kvs := kvs) (ep := ep) (G.notSys (List.mem_of_getElem? ha))) hh hd (by rw [hvs.length]; exact hl) fun s' acc c hk hg hos ho hacc => ?_
  have hV : Vals φ s'.heap (es.map fun p => p.1.v) acc.toList := by
    refine vals_of (by rw [hacc.1, hvs.length, List.length_map]) fun i x v hx hv => ?_
    obtain ⟨key, y, h1, h2⟩ := hacc.2 i v hv
    have hk' := congrArg (fun l => l[i]?) hvs.keys
    simp only [List.getElem?_map, h1, Option.map_some] at hk'
    rw [List.getElem?_map] at hx
    cases hp : es[i]? with
    | none => rw [hp] at hx; cases hx
    | some p =>
      rw [hp] at hx hk'
      simp only [Option.map_some, Option.some.injEq] at hx hk'
      subst hx hk'
      exact Key.val h2
  obtain ⟨t, G', hv'⟩ := G.newListS (xs := es.map fun p => p.1.v) (Nat.le_refl _) hk hg hos ho hV
  exact ⟨_, _, t, G', _, hv', q⟩
end

/-! the order of texts -/
def leS (a b : Str) : Bool := !decide (b.cps.toList < a.cps.toList)
def srt (l : List Str) : List Str := l.mergeSort leS
theorem leS_total (a b : Str) : (leS a b || leS b a) = true := by
  unfold leS
  cases h : decide (b.cps.toList < a.cps.toList) with
  | false => rfl
  | true =>
    have := KeyOrd.klt_asymm (O := PyProof.Rows.strKind.toKeyOrd) (a := b.cps.toList) (b := a.cps.toList) h
    have h2 : decide (a.cps.toList < b.cps.toList) = false := this
    rw [h2]; rfl
theorem leS_trans (a b c : Str) (h1 : leS a b = true) (h2 : leS b c = true) : leS a c = true := by
  unfold leS at *
  have e1 : decide (b.cps.toList < a.cps.toList) = false := by simpa using h1
  have e2 : decide (c.cps.toList < b.cps.toList) = false := by simpa using h2
  have := KeyOrd.kle_trans (O := PyProof.Rows.strKind.toKeyOrd) (a := a.cps.toList) (b := b.cps.toList) (c := c.cps.toList) e1 e2
  have e3 : decide (c.cps.toList < a.cps.toList) = false := this
  rw [e3]; rfl
theorem leS_antisymm (a b : Str) (h1 : leS a b = true) (h2 : leS b a = true) : a = b := by
  unfold leS at *
  have e1 : decide (b.cps.toList < a.cps.toList) = false := by simpa using h1
  have e2 : decide (a.cps.toList < b.cps.toList) = false := by simpa using h2
  have := KeyOrd.kle_antisymm (O := PyProof.Rows.strKind.toKeyOrd) (a := a.cps.toList) (b := b.cps.toList) e1 e2
  obtain ⟨⟨x⟩⟩ := a; obtain ⟨⟨y⟩⟩ := b
  simp at this; subst this; rfl
theorem sorted_unique : ∀ {l m : List Str}, l.Perm m → l.Pairwise (fun a b => leS a b = true) → m.Pairwise (fun a b => leS a b = true) → l = m
  | [], m, hp, _, _ => (List.nil_perm.mp hp).symm
  | a :: l, [], hp, _, _ => by have := hp.length_eq; simp at this
  | a :: l, b :: m, hp, h1, h2 => by
    have hab : a = b := by
      rw [List.pairwise_cons] at h1 h2
      rcases List.mem_cons.mp (hp.subset (List.mem_cons_self)) with e | hm
      · exact e
      · rcases List.mem_cons.mp (hp.symm.subset (List.mem_cons_self)) with e | hm'
        · exact e.symm
        · exact leS_antisymm _ _ (h1.1 b hm') (h2.1 a hm)
    subst hab
    rw [sorted_unique (List.Perm.cons_inv hp) (List.pairwise_cons.mp h1).2 (List.pairwise_cons.mp h2).2]
theorem srt_perm (l : List Str) : (srt l).Perm l := List.mergeSort_perm l leS
theorem srt_sorted (l : List Str) : (srt l).Pairwise (fun a b => leS a b = true) := List.pairwise_mergeSort leS_trans leS_total l

theorem ltCps_lt : ∀ a b : List Nat, PySem.Spec.ltCps a b = decide (a < b)
  | [], [] => by simp [PySem.Spec.ltCps]
  | [], b :: t => by simp [PySem.Spec.ltCps]
  | a :: r, [] => by simp [PySem.Spec.ltCps]
  | a :: r, b :: t => by
    rw [PySem.Spec.ltCps, StrLaws.lt_cons_cons, ltCps_lt r t]
theorem risingS_pairwise : ∀ (p : Str) (l : List Str), risingS p l = true → (p :: l).Pairwise (fun a b => leS a b = true)
  | p, [], _ => by simp
  | p, x :: r, h => by
    have h' : (!PySem.Spec.ltCps x.cps.toList p.cps.toList && risingS x r) = true := h
    rw [ltCps_lt, Bool.and_eq_true] at h'
    have ih := risingS_pairwise x r h'.2
    refine List.pairwise_cons.mpr ⟨fun y hy => ?_, ih⟩
    rcases List.mem_cons.mp hy with rfl | hy
    · exact h'.1
    · exact leS_trans p x y h'.1 ((List.pairwise_cons.mp ih).1 y hy)
theorem sortedS_pairwise : ∀ (l : List Str), sortedS l = true → l.Pairwise (fun a b => leS a b = true)
  | [], _ => .nil
  | x :: r, h => risingS_pairwise x r h
theorem sortedS_eq {l m : List Str} (hp : l.Perm m) (h : sortedS l = true) : l = srt m :=
  sorted_unique (hp.trans (srt_perm m).symm) (sortedS_pairwise l h) (srt_sorted m)

section
variable {prog : Program} {w : World} {B : Shared} {φ φ' : List Addr} {σ σ' : List AObj} {s s' : Shared} {A : Around} {X : XT} {Q : V → List AObj → Prop}
theorem StrsAre.vals {h : Heap} : ∀ {vs : List Value} {ss : List Str}, StrsAre vs ss → Vals φ h (ss.map V.str) vs
  | _, _, .nil => .nil
  | _, _, .cons x t r => .cons (.str_ _ _) (StrsAre.vals r)
def keyS : Key → Str
  | .s x => x
  | .i _ => ⟨#[]⟩
theorem srt_congr {l m : List Str} (h : l.Perm m) : srt l = srt m := sorted_unique ((srt_perm l).trans (h.trans (srt_perm m).symm)) (srt_sorted l) (srt_sorted m)
/-- sorted(a source of texts) -/
theorem sorted_src {T : String} {r : Addr} {n : Nat} {Good : List Value → Prop} {OK : Heap → Prop} {ss : List Str} (K : Src prog w T r n Good OK) (hh : A.handled = none) (G : St prog w B φ σ s) (hok : OK s.heap) (hn : n ≤ sortLine) (hlen : ss.length = n)
    (hgood : ∀ vs, Good vs → ∃ l, StrsAre vs l ∧ l.Perm ss) (q : Q (.ref σ.length) (σ ++ [.list ((srt ss).map V.str)])) :
    wpAny (model prog w) A (call (.builtin "sorted") [.ref r]) (Post prog w B [] φ s (vQ Q)) (Post prog w B [] φ s X) s := by
  refine Calls.call_function_entry kind_sorted plain_sorted entry_sorted (args_sorted1 _) ?_
  unfold Builtin.«sorted»
  refine wpAny_bind (m := checkCount "sorted" 1 1 _) (wpAny_pure ?_)
  refine wpAny_bind (src_collect (A := A.in1) K hh hok (sort_size hn) fun s₁ acc hk hg₁ ho₁ hacc => ?_)
  obtain ⟨l, hS, hperm⟩ := hgood acc hacc
  have hl : acc.length ≤ sortLine := by rw [StrsAre.length hS, hperm.length_eq, hlen]; exact hn
  refine wpAny_bind (wpAny_newList ?_ (sort_size hl))
  have hoL : (s₁.heap.push { cls := .type "list", data := .seq acc.toArray }).get? s₁.heap.objs.size = some (seqObj "list" acc.toArray 0) := Heap.get?_push_size _ rfl
  refine wpAny_bind (wpAny_holding (wpAny_call_entry slot_list_sort ⟨_, hoL, rfl⟩ entry_list_sort (list_sort_any strKind_oneLt hoL hS.keysOf (fun v₁ v₂ rest e => keyKind_strs (by rw [← e]; exact hS)) hl fun st' hp hs => ⟨_, rfl, ?_⟩) (args_list_sort _)))
  obtain ⟨ss', a1, a2, a3⟩ := sorted_out_str hS hp hs
  have e := sortedS_eq a2 a3
  rw [srt_congr hperm] at e
  subst e
  refine wpAny_pure ⟨_, rfl, ?_⟩
  obtain ⟨e2, he⟩ := sortedHeap_at (vs := acc) (out := (arrOf st').map (·.2)) hoL
  have hkeep : ∀ b o, s.heap.get? b = some o → (sortedHeap (s₁.heap.push { cls := .type "list", data := .seq acc.toArray }) s₁.heap.objs.size acc ((arrOf st').map (·.2))).get? b = some o := fun b o eo => by
    have hlt := Heap.lt_size (hk b o eo)
    rw [sortedHeap_old (Nat.ne_of_lt hlt) (by rw [size_push']; exact Nat.lt_succ_of_lt hlt)]
    exact Heap.get?_push_of_some _ (hk b o eo)
  obtain ⟨t, G', hv'⟩ := G.newList2 (tk := s₁.toks) (xs := (srt ss).map V.str) hk (Nat.le_refl _) hkeep he (StrsAre.vals a1)
  exact ⟨_, _, t, ⟨G'.base, G'.new, G'.nodup, G'.len, G'.objs, hg₁.trans G.gens, ho₁.trans G.os, G'.sys⟩, _, hv', q⟩
theorem keys_strs : ∀ {vs : List Value} {es : List (Key × V)}, vs.length = es.length → (∀ p ∈ es, ∃ x, p.1 = Key.s x) → (∀ (j : Nat) (v : Value) (p : Key × V), vs[j]? = some v → es[j]? = some p → p.1.is v = true) → StrsAre vs (es.map fun p => keyS p.1)
  | [], [], _, _, _ => .nil
  | [], _ :: _, e, _, _ => by simp at e
  | _ :: _, [], e, _, _ => by simp at e
  | v :: vs, p :: es, e, h1, h2 => by
    obtain ⟨x, hp⟩ := h1 p (.head _)
    have hv := h2 0 v p rfl rfl
    rw [hp] at hv
    rcases Key.is_shape hv with ⟨y, t, e1, rfl⟩ | ⟨y, t, e1, rfl⟩
    · cases e1
      rw [List.map_cons, hp]
      exact .cons _ _ (keys_strs (by simpa using e) (fun q hq => h1 q (.tail _ hq)) fun j u q a b => h2 (j + 1) u q a b)
    · cases e1
/-- sorted(a dict of texts) -/
theorem C_sorted_dict {k : Nat} {es : List (Key × V)} {ep : Option Nat} (hh : A.handled = none) (hσ : σ[k]? = some (.dict es ep)) (hes : ∀ p ∈ es, ∃ x, p.1 = .s x) (h64 : es.length ≤ sortLine) (q : Q (.ref σ.length) (σ ++ [.list ((srt (es.map fun p => keyS p.1)).map V.str)])) :
    WC prog w B A (.builtin "sorted") [.ref k] σ Q X := fun φ s vs G FR hv => by
  obtain ⟨v, rfl, hx⟩ := hv.one
  obtain ⟨a, rfl, ha⟩ := hx.of_ref
  obtain ⟨a', ha', kvs, ep', hd, hvs, _⟩ := G.get hσ
  rw [ha] at ha'; cases ha'
  refine sorted_src (src_dict (kvs := kvs) (ep := ep') (G.notSys (List.mem_of_getElem? ha))) hh G hd (by rw [hvs.length]; exact h64) (by rw [List.length_map, hvs.length]) (fun vs hg => ⟨_, keys_strs (by rw [hg.1, hvs.length]) hes fun j v p h1 h2 => ?_, .refl _⟩) q
  obtain ⟨key, y, h3, h4⟩ := hg.2 j v h1
  obtain ⟨u, h5, _⟩ := hvs.get h2
  rw [h3] at h5; cases h5
  exact h4
end
end Mine

set_option autoImplicit false
set_option linter.unusedVariables false
set_option maxRecDepth 100000
namespace Mine
open PySem PySem.W PySem.Calls PyProof.Rows
open AutoSeq1 (wpAny_loadPart')

/-! enumerate(a dict) -/
section
variable {prog : Program} {w : World} {A : Around} {E : Value → Shared → Prop} {s : Shared}

theorem nextOf_dict_item {it d : Addr} {i ep : Nat} {kvs : List (Key × Value)} {k : Key} {v : Value} {Q : Value → Shared → Prop} (hit : s.heap.IsKeyIter it d i kvs.length ep)
    (hm : s.heap.DictAt (kk prog w) d kvs ep) (hx : kvs[i]? = some (k, v))
    (hQ : ∀ key h', (kk prog w).is k key = true → h'.IsKeyIter it d (i + 1) kvs.length ep → Heap.SameBut it s.heap h' → Q key { s with heap := h' }) :
    wpAny (model prog w) A (Builtin.SmallTypes.nextOf (.ref it)) Q E s := by
  obtain ⟨o, ho, hc, hd⟩ := id hit
  obtain ⟨od, es, hod, hcd, hdd, hk, hp, hn⟩ := id hm
  unfold Builtin.SmallTypes.nextOf
  refine wpAny_bind (wpAny_callSpecial?_slot (name := Str.ofString "__next__") hit.typeIs PySem.F.slot_dict_keyiterator_next
    (wpAny_call_entry PySem.F.slot_dict_keyiterator_next hit.typeIs PySem.F.entry_dict_keyiterator_next ?_ (PySem.F.args_dict_keyiterator_next_1 _)))
  refine wpAny_bind (wpAny_pure (wpAny_bind (wpAny_bind ?_)))
  first | refine wpAny_bind (wpAny_typeNameOfWhole_keyiter hit.typeIs (wpAny_pure ?_)) | refine wpAny_bind (wpAny_typeNameOf_keyiter hit.typeIs (wpAny_pure ?_))
  refine wpAny_bind (wpAny_fieldsOf ho hd ?_)
  have hown : Builtin.Dict_items.ownsTuple "dict_keyiterator" = false := by decide
  simp only [hown, Bool.false_eq_true, if_false]
  show wpAny _ _ (if (Value.ref d == Value.none) = true then _ else _) _ _ s
  rw [if_neg (show ¬ ((Value.ref d == Value.none) = true) from Bool.false_ne_true)]
  refine wpAny_bind (wpAny_pure (wpAny_bind (wpAny_dictEntries hod hdd ?_)))
  have hsz : es.size = kvs.length := by rw [← hp.length]; simp
  rw [if_neg (by rw [hsz]; simp)]
  refine wpAny_bind (wpAny_pure (wpAny_bind (wpAny_dictEpoch hod hdd ?_)))
  rw [if_neg (by simp)]
  refine wpAny_pure ?_
  have hlt : i < es.size := by
    rw [hsz]
    exact (List.getElem?_eq_some_iff.mp hx).1
  have hkey : (kk prog w).is k es[i].key = true := (hp.get? (e := es[i]) (by simp [hlt]) hx).1
  simp only [show ¬ ((i : Int) < 0) from by (clear hkey hlt hsz hown hn hp hk hdd hcd hod hd hc ho hQ hx hm hit; lia), if_false, Int.toNat_natCast, Array.getElem?_eq_getElem hlt]
  refine wpAny_bind ?_
  first | refine wpAny_bind (wpAny_typeNameOfWhole_keyiter hit.typeIs (wpAny_pure ?_)) | refine wpAny_bind (wpAny_typeNameOf_keyiter hit.typeIs (wpAny_pure ?_))
  refine wpAny_bind (wpAny_isOneOf_keyiter hit.typeIs ?_)
  show wpAny _ _ (setField (.ref it) 1 (rawInt ((i : Int) + 1)) >>= _) _ _ s
  refine wpAny_bind (wpAny_setField ho hd (by simp) ?_)
  have hit' : (s.heap.update it (Obj.mapFields (·.setIfInBounds 1 (rawInt ((i : Int) + 1))))).IsKeyIter it d (i + 1) kvs.length ep :=
    ⟨_, Heap.get?_update_self _ ho (Obj.isFreed_of_fields (Obj.data_mapFields hd _)), (Obj.cls_mapFields ..).trans hc, by rw [Obj.data_mapFields hd]; simp [rawInt]⟩
  refine wpAny_bind (wpAny_holding (wpAny_bind (wpAny_isOneOf_keyiter (s := { s with heap := s.heap.update it (Obj.mapFields (·.setIfInBounds 1 (rawInt ((i : Int) + 1)))) }) hit'.typeIs ?_)))
  show wpAny _ _ (pure es[i].key) _ _ _
  exact wpAny_pure (wpAny_pure ⟨_, rfl, wpAny_pure (hQ _ _ hkey hit' (Heap.SameBut.update ..))⟩)

theorem nextOf_dict_end {it d : Addr} {i ep : Nat} {kvs : List (Key × Value)} {Q : Value → Shared → Prop} (hh : A.handled = none) (hit : s.heap.IsKeyIter it d i kvs.length ep)
    (hm : s.heap.DictAt (kk prog w) d kvs ep) (hx : kvs[i]? = none)
    (hE : ∀ h' e, Heap.ExtBut it s.heap h' → (∃ o, h'.get? e = some o ∧ o.cls = .type "StopIteration") → E (.ref e) { s with heap := h' }) :
    wpAny (model prog w) A (Builtin.SmallTypes.nextOf (.ref it)) Q E s := by
  obtain ⟨o, ho, hc, hd⟩ := id hit
  obtain ⟨od, es, hod, hcd, hdd, hk, hp, hn⟩ := id hm
  unfold Builtin.SmallTypes.nextOf
  refine wpAny_bind (wpAny_callSpecial?_slot (name := Str.ofString "__next__") hit.typeIs PySem.F.slot_dict_keyiterator_next
    (wpAny_call_entry PySem.F.slot_dict_keyiterator_next hit.typeIs PySem.F.entry_dict_keyiterator_next ?_ (PySem.F.args_dict_keyiterator_next_1 _)))
  refine wpAny_bind (wpAny_pure (wpAny_bind (wpAny_bind ?_)))
  first | refine wpAny_bind (wpAny_typeNameOfWhole_keyiter hit.typeIs (wpAny_pure ?_)) | refine wpAny_bind (wpAny_typeNameOf_keyiter hit.typeIs (wpAny_pure ?_))
  refine wpAny_bind (wpAny_fieldsOf ho hd ?_)
  have hown : Builtin.Dict_items.ownsTuple "dict_keyiterator" = false := by decide
  simp only [hown, Bool.false_eq_true, if_false]
  show wpAny _ _ (if (Value.ref d == Value.none) = true then _ else _) _ _ s
  rw [if_neg (show ¬ ((Value.ref d == Value.none) = true) from Bool.false_ne_true)]
  refine wpAny_bind (wpAny_pure (wpAny_bind (wpAny_dictEntries hod hdd ?_)))
  have hsz : es.size = kvs.length := by rw [← hp.length]; simp
  rw [if_neg (by rw [hsz]; simp)]
  refine wpAny_bind (wpAny_pure (wpAny_bind (wpAny_dictEpoch hod hdd ?_)))
  rw [if_neg (by simp)]
  refine wpAny_pure ?_
  have hge : es.size ≤ i := by rw [hsz]; simpa using hx
  simp only [show ¬ ((i : Int) < 0) from by (clear hge hsz hown hn hp hk hdd hcd hod hd hc ho hE hx hm hit hh; lia), if_false, Int.toNat_natCast, Array.getElem?_eq_none hge]
  refine wpAny_bind ?_
  first | refine wpAny_bind (wpAny_typeNameOfWhole_keyiter hit.typeIs (wpAny_pure ?_)) | refine wpAny_bind (wpAny_typeNameOf_keyiter hit.typeIs (wpAny_pure ?_))
  show wpAny _ _ (setField (.ref it) 0 .none >>= _) _ _ s
  refine wpAny_bind (wpAny_setField ho hd (by simp) ?_)
  show wpAny _ _ (newExc (.type "StopIteration") [] >>= _) _ _ _
  refine wpAny_bind ?_
  simp only [newExc, newTuple]
  refine wpAny_bind (wpAny_newObj_type ?_ (by size_fits))
  refine wpAny_bind (m := firstArgMember _ _) (wpAny_of_eq (a := Value.none) (by first | rfl | (simp only [firstArgMember]; rfl)) ?_)
  refine wpAny_newObj_type ?_ (by size_fits)
  simp only [raiseNew]
  refine wpAny_bind (wpAny_handled ?_)
  first | rw [show A.in1.handled = none from hh] | rw [hh]
  refine wpAny_bind (wpAny_pure (wpAny_throw ?_))
  exact hE _ _ (((Heap.SameBut.update ..).extBut.push _).push _) ⟨_, Heap.get?_push_size _ rfl, rfl⟩

theorem pyNext_enumD_item {e it d : Addr} {i ep : Nat} {kvs : List (Key × Value)} {k : Key} {v old : Value} {Q : Option Value → Shared → Prop}
    (he : IsEnum s.heap e it i old) (hit : s.heap.IsKeyIter it d i kvs.length ep) (hm : s.heap.DictAt (kk prog w) d kvs ep) (hx : kvs[i]? = some (k, v)) (hne : e ≠ it)
    (hQ : ∀ key h', (kk prog w).is k key = true → IsEnumOut h' e it ((i : Int) + 1) key s.heap.objs.size → h'.IsKeyIter it d (i + 1) kvs.length ep →
      h'.get? s.heap.objs.size = some { cls := .type "tuple", data := .seq #[.int i s.toks, key] } → h'.objs.size = s.heap.objs.size + 1 →
      (∀ b o, b ≠ e → b ≠ it → s.heap.get? b = some o → h'.get? b = some o) → Q (some (.ref s.heap.objs.size)) { s with heap := h', toks := s.toks + 1 }) :
    wpAny (model prog w) A (pyNext (.ref e)) Q E s := by
  have hT : s.TypeIs (.ref e) "enumerate" := ⟨_, he, rfl⟩
  unfold pyNext
  refine wpAny_bind (wpAny_attempt (wpAny_callSpecial?_slot (name := Str.ofString "__next__") hT PySem.F.slot_enumerate_next
    (wpAny_call_entry PySem.F.slot_enumerate_next hT PySem.F.entry_enumerate_next ?_ (PySem.F.args_enumerate_next_1 _))))
  obtain ⟨hp, g, dd, tk, os⟩ := s
  show wpAny _ _ (field (.ref e) 2 >>= _) _ _ _
  refine wpAny_bind (wpAny_field he rfl (x := .ref it) rfl ?_)
  refine wpAny_bind (nextOf_dict_item hit hm hx fun x h₁ hkx hit₁ hs₁ => ?_)
  replace hs₁ : Heap.SameBut it hp h₁ := hs₁
  have he₁ : IsEnum h₁ e it i old := (hs₁.2 e hne).trans he
  show wpAny _ _ (field (.ref e) 3 >>= _) _ _ ⟨h₁, g, dd, tk, os⟩
  refine wpAny_bind (wpAny_field he₁ rfl (x := rawInt i) rfl ?_)
  show wpAny _ _ (field (.ref e) 4 >>= _) _ _ ⟨h₁, g, dd, tk, os⟩
  refine wpAny_bind (wpAny_field he₁ rfl (x := .none) rfl ?_)
  show wpAny _ _ (mkInt i >>= _) _ _ ⟨h₁, g, dd, tk, os⟩
  refine wpAny_bind (wpAny_mkInt ?_)
  show wpAny _ _ (setField (.ref e) 3 (rawInt ((i : Int) + 1)) >>= _) _ _ ⟨h₁, g, dd, tk + 1, os⟩
  refine wpAny_bind (wpAny_setField_rec he₁ (by simp) fun h₂ he₂ hs₂ => ?_)
  replace hs₂ : Heap.SameBut e h₁ h₂ := hs₂
  replace he₂ : IsEnum h₂ e it ((i : Int) + 1) old := he₂
  show wpAny _ _ (setField (.ref e) 4 .none >>= _) _ _ ⟨h₂, g, dd, tk + 1, os⟩
  refine wpAny_bind (wpAny_setField_rec he₂ (by simp) fun h₃ he₃ hs₃ => ?_)
  replace hs₃ : Heap.SameBut e h₂ h₃ := hs₃
  replace he₃ : IsEnum h₃ e it ((i : Int) + 1) old := he₃
  show wpAny _ _ (newTuple [.int i tk, x] >>= _) _ _ ⟨h₃, g, dd, tk + 1, os⟩
  refine wpAny_bind (wpAny_newTuple ?_)
  have he₄ : IsEnum (h₃.push { cls := .type "tuple", data := .seq #[.int i tk, x] }) e it ((i : Int) + 1) old := Heap.get?_push_of_some _ he₃
  generalize hh₄ : h₃.push { cls := .type "tuple", data := .seq #[.int i tk, x] } = h₄ at he₄
  have hsz : h₃.objs.size = hp.objs.size := by rw [hs₃.1, hs₂.1, hs₁.1]
  have hel : e < hp.objs.size := Heap.lt_size he
  have ht₄ : h₄.get? hp.objs.size = some { cls := .type "tuple", data := .seq #[.int i tk, x] } := by rw [← hh₄, ← hsz]; exact Heap.get?_push_size _ rfl
  have hz₄ : h₄.objs.size = hp.objs.size + 1 := by rw [← hh₄, Heap.size_push, hsz]
  have hk₄ : ∀ b o, b ≠ e → b ≠ it → hp.get? b = some o → h₄.get? b = some o := fun b o hbe hbi hb => by
    rw [← hh₄]; exact Heap.get?_push_of_some _ (hs₃.extBut b o hbe (hs₂.extBut b o hbe (hs₁.extBut b o hbi hb)))
  have hit₄ : h₄.IsKeyIter it d (i + 1) kvs.length ep := by
    rw [← hh₄]; obtain ⟨o, ho, r⟩ := (hit₁.extBut hs₂.extBut (Ne.symm hne)).extBut hs₃.extBut (Ne.symm hne); exact ⟨o, Heap.get?_push_of_some _ ho, r⟩
  show wpAny _ _ (Builtin.SmallTypes.ownedTupleIsFree (.ref e) >>= _) _ _ ⟨h₄, g, dd, tk + 1, os⟩
  rw [hsz]
  clear hh₄ he₃ hs₃ he₂ hs₂ he₁ hs₁ hit₁ hsz h₃ h₂ h₁
  refine wpAny_bind ?_
  unfold Builtin.SmallTypes.ownedTupleIsFree
  refine wpAny_bind (wpAny_field he₄ rfl (x := .none) rfl (wpAny_pure ?_))
  simp only [if_true]
  refine wpAny_bind (wpAny_rule (wpAny_bind (wpAny_field he₄ rfl (x := old) rfl (wpAny_bind (wpAny_setField_rec he₄ (by simp) fun h₅ he₅ hs₅ => ?_)))))
  replace hs₅ : Heap.SameBut e h₄ h₅ := hs₅
  replace he₅ : IsEnum h₅ e it ((i : Int) + 1) x := he₅
  show wpAny _ _ (Builtin.SmallTypes.ownedTupleHandOut (.ref e) (.ref hp.objs.size) >>= _) _ _ ⟨h₅, g, dd, tk + 1, os⟩
  refine wpAny_bind ?_
  unfold Builtin.SmallTypes.ownedTupleHandOut
  refine wpAny_bind (wpAny_setField_rec he₅ (by simp) fun h₆ he₆ hs₆ => ?_)
  replace hs₆ : Heap.SameBut e h₅ h₆ := hs₆
  replace he₆ : IsEnumOut h₆ e it ((i : Int) + 1) x hp.objs.size := he₆
  refine wpAny_setField_rec he₆ (by simp) fun h₇ he₇ hs₇ => ?_
  replace hs₇ : Heap.SameBut e h₆ h₇ := hs₇
  replace he₇ : IsEnumOut h₇ e it ((i : Int) + 1) x hp.objs.size := he₇
  refine wpAny_bind (wpAny_letGo (wpAny_pure ⟨_, rfl, wpAny_pure (hQ x h₇ hkx he₇ ?_ ?_ ?_ ?_)⟩))
  · exact ((hit₄.extBut hs₅.extBut (Ne.symm hne)).extBut hs₆.extBut (Ne.symm hne)).extBut hs₇.extBut (Ne.symm hne)
  · exact hs₇.extBut _ _ (Nat.ne_of_gt hel) (hs₆.extBut _ _ (Nat.ne_of_gt hel) (hs₅.extBut _ _ (Nat.ne_of_gt hel) ht₄))
  · rw [hs₇.1, hs₆.1, hs₅.1, hz₄]
  · exact fun b o hbe hbi hb => hs₇.extBut b o hbe (hs₆.extBut b o hbe (hs₅.extBut b o hbe (hk₄ b o hbe hbi hb)))

theorem pyNext_enumD_end {e it d : Addr} {i ep : Nat} {kvs : List (Key × Value)} {old : Value} {Q : Option Value → Shared → Prop} (hh : A.handled = none)
    (he : IsEnum s.heap e it i old) (hit : s.heap.IsKeyIter it d i kvs.length ep) (hm : s.heap.DictAt (kk prog w) d kvs ep) (hx : kvs[i]? = none)
    (hQ : ∀ h', Heap.ExtBut it s.heap h' → Q none { s with heap := h' }) : wpAny (model prog w) A (pyNext (.ref e)) Q E s := by
  have hT : s.TypeIs (.ref e) "enumerate" := ⟨_, he, rfl⟩
  unfold pyNext
  refine wpAny_bind (wpAny_attempt (wpAny_callSpecial?_slot (name := Str.ofString "__next__") hT PySem.F.slot_enumerate_next
    (wpAny_call_entry PySem.F.slot_enumerate_next hT PySem.F.entry_enumerate_next ?_ (PySem.F.args_enumerate_next_1 _))))
  show wpAny _ _ (field (.ref e) 2 >>= _) _ _ _
  refine wpAny_bind (wpAny_field he rfl (x := .ref it) rfl ?_)
  refine wpAny_bind (nextOf_dict_end hh hit hm hx fun h' x he' hx' => ?_)
  obtain ⟨o, ho, hc⟩ := hx'
  refine wpAny_bind (wpAny_isInstance (T := "StopIteration") (b := true) ⟨o, ho, hc⟩ isSubtype_stop ?_)
  exact wpAny_pure (hQ _ he')
end

/-- a dict's object, no more -/
def RawD (h : Heap) (d : Addr) (es : Array DictEntry) (ep : Nat) : Prop := ∃ o, h.get? d = some o ∧ o.cls = .type "dict" ∧ o.data = .dict es ep
section
variable {prog : Program} {w : World} {A : Around} {E : Value → Shared → Prop} {s : Shared}
theorem pyIter_rawD {d : Addr} {es : Array DictEntry} {ep : Nat} {Q : Value → Shared → Prop} (hd : (d == sysModules) = false) (hm : RawD s.heap d es ep)
    (hQ : Q (.ref s.heap.objs.size) { s with heap := s.heap.push { cls := .type "dict_keyiterator", data := .fields #[.ref d, .int 0 0, .int es.size 0, .int ep 0] } }) :
    wpAny (model prog w) A (pyIter (.ref d)) Q E s := by
  obtain ⟨o, ho, hc, hdat⟩ := id hm
  have hT : s.TypeIs (.ref d) "dict" := ⟨o, ho, hc⟩
  refine wpAny_pyIter_slot hT PySem.F.slot_dict_iter (wpAny_call_entry PySem.F.slot_dict_iter hT PySem.F.entry_dict_iter ?_ (PySem.F.args_dict_iter_1 _))
  unfold Builtin.«dict.__iter__»
  refine wpAny_bind ?_
  unfold Builtin.Dict.dictSlotNone
  refine wpAny_bind (wpAny_notOrdered_dict hT ?_)
  show wpAny _ _ (pure (Value.ref d)) _ _ s
  refine wpAny_pure ?_
  show wpAny _ _ (Builtin.Dict.showsAll d >>= _) _ _ s
  unfold Builtin.Dict.showsAll
  rw [if_neg (by rw [hd]; exact Bool.false_ne_true)]
  refine wpAny_bind (wpAny_pure (wpAny_bind (wpAny_dictEntries ho hdat (wpAny_bind (wpAny_dictEpoch ho hdat ?_)))))
  refine wpAny_bind (wpAny_newObj_type (wpAny_pure ⟨_, rfl, "dict_keyiterator", _, ⟨_, Heap.get?_push_size _ rfl, rfl⟩, PySem.F.slot_dict_keyiterator_next.lookup, ?_⟩))
  simpa [rawInt] using hQ

theorem meets_enumerate_newD (d : Addr) (es : Array DictEntry) (ep : Nat) (dct : Option Addr) (sl : Array (Option Value)) (hd : (d == sysModules) = false) :
    Meets (Builtin.«enumerate.__new__» ⟨[.type "enumerate", .ref d], []⟩) (fun _ R s => s.heap.get? d = some { cls := .type "dict", dict := dct, data := .dict es ep, slots := sl } ∧
      R (.ok (.ret (.ref (s.heap.push { cls := .type "dict_keyiterator", data := .fields #[.ref d, .int 0 0, .int es.size 0, .int ep 0] }).objs.size)))
        { s with heap := (s.heap.push { cls := .type "dict_keyiterator", data := .fields #[.ref d, .int 0 0, .int es.size 0, .int ep 0] }).push { cls := .type "enumerate", data := .fields #[.none, .bool false, .ref s.heap.objs.size, rawInt 0, .none, .none] } }) :=
  .of_wp fun prog w A R s h => by
    obtain ⟨hp, g, dd, tk, os⟩ := s; obtain ⟨hl, h⟩ := h
    have hsub := sub_enumerate
    have hL : RawD (Shared.heap ⟨hp, g, dd, tk, os⟩) d es ep := ⟨_, hl, rfl, rfl⟩
    wp_walk using wpAny_loadPart' hl
    refine wpAny_stack_any fun st => wpAny_pure ?_
    split
    · rename_i c _ _ _ _ _
      cases (c == Value.type "enumerate")
      · wp_walk using wpAny_loadPart' hl, pyIter_rawD hd hL
        exact ⟨_, rfl, h⟩
      · wp_walk using wpAny_loadPart' hl, pyIter_rawD hd hL
        exact ⟨_, rfl, h⟩
    · wp_walk using wpAny_loadPart' hl, pyIter_rawD hd hL
      exact ⟨_, rfl, h⟩

theorem call_enumerate_dict {d : Addr} {kvs : List (Key × Value)} {ep : Nat} {Q : Value → Shared → Prop} (hd : (d == sysModules) = false) (hm : s.heap.DictAt (kk prog w) d kvs ep)
    (h : ∀ h', IsEnum h' (s.heap.objs.size + 1) s.heap.objs.size 0 .none → h'.IsKeyIter s.heap.objs.size d 0 kvs.length ep → h'.objs.size = s.heap.objs.size + 2 →
      (∀ b o, s.heap.get? b = some o → h'.get? b = some o) → Q (.ref (s.heap.objs.size + 1)) { s with heap := h' }) :
    wpAny (model prog w) A (call (.type "enumerate") [.ref d]) Q E s := by
  obtain ⟨⟨c, dct, dt, sl⟩, es, ho, hc, hdat, hk, hp, hn⟩ := id hm
  replace hc : c = .type "dict" := hc.1
  replace hdat : dt = .dict es ep := hdat
  subst hc hdat
  have hsz : es.size = kvs.length := by rw [← hp.length]; simp
  refine callType_new PySem.F.called_enumerate (by decide) (PySem.F.typeCall_enumerate_1 _) (PySem.F.newCall_enumerate_1 _) (fun obj => PySem.F.args_object_init_2 obj _) PySem.F.entry_enumerate_new
    (meets_enumerate_newD d es ep dct sl hd) ⟨ho, ?_⟩
  have hz : (s.heap.push { cls := .type "dict_keyiterator", data := .fields #[.ref d, .int 0 0, .int es.size 0, .int ep 0] }).objs.size = s.heap.objs.size + 1 := Heap.size_push ..
  show _ ∧ _
  rw [hz]
  have he : IsEnum ((s.heap.push { cls := .type "dict_keyiterator", data := .fields #[.ref d, .int 0 0, .int es.size 0, .int ep 0] }).push
      { cls := .type "enumerate", data := .fields #[.none, .bool false, .ref s.heap.objs.size, rawInt 0, .none, .none] }) (s.heap.objs.size + 1) s.heap.objs.size 0 .none := by
    have := Heap.get?_push_size (s.heap.push { cls := .type "dict_keyiterator", data := .fields #[.ref d, .int 0 0, .int es.size 0, .int ep 0] })
      (o := { cls := .type "enumerate", data := .fields #[.none, .bool false, .ref s.heap.objs.size, rawInt 0, .none, .none] }) rfl
    rw [hz] at this; exact this
  refine ⟨⟨_, he, rfl⟩, h _ he ⟨_, Heap.get?_push_of_some _ (Heap.get?_push_size _ rfl), rfl, ?_⟩ (by rw [Heap.size_push, hz]) fun b o x => Heap.get?_push_of_some _ (Heap.get?_push_of_some _ x)⟩
  rw [hsz]; rfl
end
end Mine

set_option autoImplicit false
set_option linter.unusedVariables false
set_option maxRecDepth 100000
namespace Mine
open PySem PySem.W PySem.Calls PyProof.Rows

section
variable {prog : Program} {w : World} {B : Shared} {mg mb : Str → Option Value} {φ φ' : List Addr} {σ σ' : List AObj} {s s' : Shared} {env : Env} {ρ l : List (Str × V)} {A : Around} {X : XT} {Q : V → List AObj → Prop}

theorem Loc.butL {h h' : Heap} {own : List Addr} (L : Loc A B env ρ φ h) (hs : ∀ b o, b ∉ own → h.get? b = some o → h'.get? b = some o) (hc : ∀ c ∈ own, c ∉ fr env) (hn : ∀ c ∈ own, ∀ o, h.get? c = some o → ¬ Still o) (hd : ∀ c ∈ own, ∀ o, h.get? c = some o → NoD o) : Loc A B env ρ φ h' := by
  have hk : ∀ a ∈ fr env, ∀ o, h.get? a = some o → ∃ o', h'.get? a = some o' ∧ Sim o o' := fun a ha o e => ⟨o, hs a o (fun h => hc a h ha) e, .refl o⟩
  refine ⟨L.kind, L.glob, L.blt, ?_, L.own, fun x d hm => ?_, L.apart, fun x v hx => ?_, L.frs.thru (fun _ h => .inl h) fun a o es n e hdt _ => ⟨o, es, n, hs a o (fun h => hd a h o e es n hdt) e, hdt⟩, L.top⟩
  · obtain ⟨m, n⟩ := L.ns; exact ⟨m, Ns.upTo n (hk _ (.head _))⟩
  · obtain ⟨v, n⟩ := L.cells x d hm; exact ⟨v, IsCell.upTo n (hk _ (mem_fr_cell hm))⟩
  · obtain ⟨val, hb, hv⟩ := L.val x v hx
    refine ⟨val, ?_, Val.mono (List.prefix_refl _) (fun a o e hst => hs a o (fun h => hn a h o e hst) e) v hv⟩
    rcases hb with ⟨k, m, n, e⟩ | ⟨k, d, e, n⟩
    · exact .inl ⟨k, m, Ns.upTo n (hk _ (.head _)), e⟩
    · exact .inr ⟨k, d, e, IsCell.upTo n (hk _ (mem_fr_cell (mem_of_lookup e)))⟩

/-- a call of a builtin, raw: what comes of it is any R -/
theorem E_biR {x : Str} {px pos : Pos} {es : List Expr} {v : Value} {R : Value → Shared → Prop} (C : Bi B mg mb x v) (hk : Keep B v) (G : St prog w B φ σ s) (L : Loc A B env ρ φ s.heap)
    (h : WEs prog w B A env es ρ σ (fun xs σ₂ => ∀ φ₂ s₂ vs, Step [] φ s.heap φ₂ s₂.heap → St prog w B φ₂ σ₂ s₂ → Vals φ₂ s₂.heap xs vs → wpAny (model prog w) A (call v vs) R (Post prog w B [] φ s X) s₂) X)
    (hx : env.kindOf x = some .globalImplicit := by kernel_rfl!)
    (hp : ∀ pos, (backTo pos (starEach es env)).any (·.1) = false := by intro _; with_unfolding_all rfl)
    (hd : (x == ("__debug__" : Str)) = false := by decide +kernel) :
    wpAny (model prog w) A (eval (.Call (.Name x px) es [] pos) env) R (Post prog w B [] φ s X) s := by
  have hf : WE prog w B A env (.Name x px) ρ σ (fun y σ₁ => y = .raw v ∧ σ₁ = σ) X := E_builtin C.1 C.2.2.1 C.2.1 C.2.2.2 hx ⟨rfl, rfl⟩ hd
  refine wpAny_Call_NameR ((hf φ s G L).useV (.refl ..) fun v' s₁ φ₁ σ₁ t₁ _ G₁ y hy ⟨e, e'⟩ => ?_)
  subst e e'
  have hv := hy.of_raw
  subst hv
  refine callWith_of (P := fun h => ∀ b o, B.heap.get? b = some o → h.get? b = some o) (by rw [hp pos]; rfl) (fun h hb => hk _ h hb) ?_
  have main := (h pos φ₁ s₁ G₁ (L.step G t₁)).use t₁ (R := fun vs s₂ => (∀ b o, B.heap.get? b = some o → s₂.heap.get? b = some o) ∧ wpAny (model prog w) A (call v' ([] ++ vs)) R (Post prog w B [] φ s X) s₂) fun vs s₂ φ₂ σ₂ t₂ t G₂ ⟨xs, hxs, h₂⟩ => ⟨G₂.base, h₂ φ₂ s₂ vs t G₂ hxs⟩
  exact evalArgs_any (hp pos) main

theorem Step.at {c : Addr} {o : Obj} {h h' : Heap} {D : List Addr} (t : Step D φ h φ' h') (e : h.get? c = some o) (h1 : c ∉ φ) (h2 : c ∉ D) (hc : NoD o) : h'.get? c = some o ∧ c ∉ φ' := by
  obtain ⟨o', e', hs'⟩ := t.keep c o e h1 h2
  rw [hs'.same hc] at e'
  refine ⟨e', fun hm => ?_⟩
  rcases t.fresh c hm with h3 | h3
  · exact h1 h3
  · rw [h3] at e; cases e

theorem X_enum1 {xk xn : Str} {pk pn pt pe pos pos' : Pos} {ctx : _} {arg : Expr} {body : List Stmt} {Q : Fl → List (Str × V) → List AObj → Prop} {k : Nat} {es : List (Key × V)} {ep : Nat}
    (be : Bi B mg mb "enumerate" (.type "enumerate")) (hh : A.handled = none) (hσ : σ[k]? = some (.dict es (some ep)))
    (hi : WEs prog w B A env [arg] ρ σ (fun vs σ' => vs = [.ref k] ∧ σ' = σ) X)
    (Iv : Nat → List (Str × V) → List AObj → Prop) (h0 : Iv 0 ρ σ)
    (hbody : ∀ i ρ₂ σ₂, i < es.length → σ₂[k]? = some (.dict es (some ep)) → Iv i ρ₂ σ₂ → WX prog w B A env body ((xn, keyAt es i) :: (xk, .int i) :: ρ₂) σ₂ (turnQ (Iv (i + 1)) (fun σ' => σ'[k]? = some (.dict es (some ep))) Q) (fun _ _ _ _ => False))
    (hend : ∀ ρ₂ σ₂, σ₂[k]? = some (.dict es (some ep)) → Iv es.length ρ₂ σ₂ → Q .next ρ₂ σ₂)
    (hxk : env.kindOf xk = some .local) (hxn : env.kindOf xn = some .local)
    (hx : env.kindOf ("enumerate" : Str) = some .globalImplicit)
    (hp : ∀ pos, (backTo pos (starEach [arg] env)).any (·.1) = false)
    (hs : ∀ v, foldedSetIterable (.Call (.Name "enumerate" pe) [arg] [] pos') env v = pure v) :
    WX1 prog w B A env (.For (.Tuple [.Name xk pk, .Name xn pn] ctx pt) (.Call (.Name "enumerate" pe) [arg] [] pos') body [] pos) ρ σ Q X := fun φ s G L => by
  refine wpAny_For (wpAny_mono (E_biR (R := fun x s₁ => wpAny (model prog w) A (pyIter x) (fun it s₂ => codeAny (model prog w) A (.forLoop (.Tuple [.Name xk pk, .Name xn pn] ctx pt) it body [] env) (fun r s' => match r with | .ok f => Post prog w B (fr env) φ s (fQ B A env Q) f s' | .error e => cameBackBy (model prog w) A env (Post prog w B (fr env) φ s X) e s') s₂) (Post prog w B (fr env) φ s X) s₁) be (.type _) G L ?_ hx hp) (fun _ _ h => h) fun e s' ⟨φ', σ', t, r⟩ => ⟨φ', σ', t.nilD, r⟩) hs
  refine fun p φ₀ s₀ G₀ L₀ => wpAny_mono (hi p φ₀ s₀ G₀ L₀) (fun vs₀ s₁₀ hx => ?_) fun _ _ x => x
  obtain ⟨φ₁₀, σ₁₀, t₁₀, G₁₀, xs, hxs, e1, e2⟩ := hx
  refine ⟨φ₁₀, σ₁₀, t₁₀, G₁₀, xs, hxs, ?_⟩
  rw [e1, e2]
  clear e1 e2 hxs G₁₀ t₁₀ L₀ G₀
  intro φ₁ s₁ vs t₁ G₁ hvs
  obtain ⟨v, rfl, hv⟩ := hvs.one
  obtain ⟨a, rfl, ha⟩ := hv.of_ref
  obtain ⟨a', ha', kvs, ep', hd, hvs', hep⟩ := G₁.get hσ
  rw [ha] at ha'; cases ha'
  obtain rfl := hep ep rfl
  have L₁ : Loc A B env ρ φ₁ s₁.heap := L.step G t₁
  refine call_enumerate_dict (G₁.notSys (List.mem_of_getElem? ha)) hd fun h₁ hE hI hsz hk => ?_
  refine wpAny_pyIter_enum (s := { s₁ with heap := h₁ }) hE ?_
  have hlen := hvs'.length
  rw [hlen] at hI
  generalize hie : s₁.heap.objs.size = it at *
  have heit : it + 1 ≠ it := Nat.succ_ne_self _
  have n1 : s₁.heap.get? it = none := by rw [← hie]; exact get?_size _
  have n2 : s₁.heap.get? (it + 1) = none := by rw [← hie]; exact get?_of_ge (Nat.le_succ _)
  generalize it + 1 = e at *
  have hfr : ∀ c, s₁.heap.get? c = none → c ∉ fr env ∧ c ∉ φ₁ ∧ B.heap.get? c = none ∧ s.heap.get? c = none := fun c hc => by
    have c1 : c ∉ φ₁ := fun hm => by obtain ⟨o, e⟩ := G₁.there hm; rw [hc] at e; cases e
    refine ⟨fun hm => (by obtain ⟨o, e, _⟩ := L₁.there hm; rw [hc] at e; cases e), c1, G₁.baseSize hc, ?_⟩
    cases h : s.heap.get? c with
    | none => rfl
    | some o =>
      have hnm : c ∉ φ := fun hm => c1 (t₁.pre.subset hm)
      obtain ⟨o', e', _⟩ := t₁.keep c o h hnm (fun h => nomatch h)
      rw [hc] at e'; cases e'
  obtain ⟨i1, i2, i3, i4⟩ := hfr it n1
  obtain ⟨e1, e2, e3, e4⟩ := hfr e n2
  have G₂ : St prog w B φ₁ σ { s₁ with heap := h₁ } := G₁.keeps (s' := { s₁ with heap := h₁ }) hk
  have L₂ : Loc A B env ρ φ₁ h₁ := L₁.step G₁ (.of_keeps hk)
  have t₂ : Step (fr env) φ s.heap φ₁ h₁ := Step.nilD (t₁.trans0 (.of_keeps hk))
  have nstE : ∀ {h : Heap} {i : Int} {old : Value}, IsEnum h e it i old → ∀ o, h.get? e = some o → NoD o ∧ ¬ Still o := fun he o ho => by
    rw [he] at ho; cases ho
    exact ⟨.fields rfl, notStill_type rfl (by decide) (by decide)⟩
  have nstI : ∀ {h : Heap} {d : Addr} {i n ep : Nat}, h.IsKeyIter it d i n ep → ∀ o, h.get? it = some o → NoD o ∧ ¬ Still o := fun he o ho => by
    obtain ⟨o', h1, hc, hd⟩ := he
    rw [h1] at ho; cases ho
    exact ⟨.fields hd, notStill_type hc (by decide) (by decide)⟩
  refine codeAny_forLoop_any (fun m s' => ∃ i φ' σ' ρ' old a, m = es.length - i ∧ i ≤ es.length ∧ Step (fr env) φ s.heap φ' s'.heap ∧ St prog w B φ' σ' s' ∧ Loc A B env ρ' φ' s'.heap ∧ e ∉ φ' ∧ it ∉ φ' ∧ φ'[k]? = some a ∧ IsEnum s'.heap e it (i : Nat) old ∧ s'.heap.IsKeyIter it a i es.length ep' ∧ σ'[k]? = some (.dict es (some ep')) ∧ Iv i ρ' σ') ?_ es.length
    ⟨0, φ₁, σ, ρ, .none, a, rfl, Nat.zero_le _, t₂, G₂, L₂, e2, i2, ha, hE, hI, hσ, h0⟩
  clear hI hE hk hsz G₂ L₂ t₂ hfr n1 n2 h0 hlen hvs' hd ha hv hvs
  rintro m s' ⟨i, φ', σ', ρ', old, a, rfl, hin, tt, G', L', he', hi', ha, hE, hI, hC, hIv⟩
  obtain ⟨a', ha', kvs', ep2, hd, hvs', hep'⟩ := G'.get hC
  rw [ha] at ha'; cases ha'
  have hee := hep' _ rfl
  subst hee
  have hlen := hvs'.length
  rw [← hlen] at hI
  have own1 : ∀ (b : Addr) (o : Obj), b ∉ [e, it] → b ≠ e ∧ b ≠ it := fun b o hb => ⟨fun h => hb (by simp [h]), fun h => hb (by simp [h])⟩
  have tStep : ∀ h₃ : Heap, (∀ b o, b ∉ [e, it] → s'.heap.get? b = some o → h₃.get? b = some o) → Step (fr env) φ s.heap φ' h₃ := fun h₃ hk₃ => by
    refine ⟨tt.pre, tt.fresh, fun b o eb h1 h2 => ?_⟩
    obtain ⟨o', e', hs'⟩ := tt.keep b o eb h1 h2
    refine ⟨o', hk₃ b o' (fun h => ?_) e', hs'⟩
    rcases List.mem_cons.mp h with h | h
    · rw [h, e4] at eb; cases eb
    · rcases List.mem_cons.mp h with h | h
      · rw [h, i4] at eb; cases eb
      · cases h
  have ownφ : ∀ c ∈ [e, it], c ∉ φ' := fun c hc => by
    rcases List.mem_cons.mp hc with rfl | hc
    · exact he'
    · rcases List.mem_cons.mp hc with rfl | hc
      · exact hi'
      · cases hc
  have ownB : ∀ c ∈ [e, it], B.heap.get? c = none := fun c hc => by
    rcases List.mem_cons.mp hc with rfl | hc
    · exact e3
    · rcases List.mem_cons.mp hc with rfl | hc
      · exact i3
      · cases hc
  have ownF : ∀ c ∈ [e, it], c ∉ fr env := fun c hc => by
    rcases List.mem_cons.mp hc with rfl | hc
    · exact e1
    · rcases List.mem_cons.mp hc with rfl | hc
      · exact i1
      · cases hc
  have ownS : ∀ c ∈ [e, it], ∀ o, s'.heap.get? c = some o → ¬ Still o := fun c hc o ho => by
    rcases List.mem_cons.mp hc with rfl | hc
    · exact (nstE hE o ho).2
    · rcases List.mem_cons.mp hc with rfl | hc
      · exact (nstI hI o ho).2
      · cases hc
  have ownN : ∀ c ∈ [e, it], ∀ o, s'.heap.get? c = some o → NoD o := fun c hc o ho => by
    rcases List.mem_cons.mp hc with rfl | hc
    · exact (nstE hE o ho).1
    · rcases List.mem_cons.mp hc with rfl | hc
      · exact (nstI hI o ho).1
      · cases hc
  by_cases hlt : i < es.length
  · obtain ⟨v, hv, _⟩ := hvs'.get (i := i) (p := es[i]) (List.getElem?_eq_getElem hlt)
    refine pyNext_enumD_item hE hI hd hv heit fun key h₂ hkey heo hit₂ ht₂ hz₂ hk₂ => ?_
    have heH : e < s'.heap.objs.size := Heap.lt_size hE
    refine wpAny_letOwnedTupleGo_enum (s := { s' with heap := h₂, toks := s'.toks + 1 }) heo fun h₃ he₃ hs₃ => ?_
    replace hs₃ : Heap.SameBut e h₂ h₃ := hs₃
    have ht₃ : h₃.IsTuple s'.heap.objs.size #[.int i s'.toks, key] := ⟨_, (hs₃.2 _ (Nat.ne_of_gt heH)).trans ht₂, rfl, _, rfl⟩
    have hz₃ : h₃.objs.size = s'.heap.objs.size + 1 := hs₃.1.trans hz₂
    refine wpAny_assign_Tuple (s := { s' with heap := h₃, toks := s'.toks + 1 }) hh ht₃ rfl rfl fun h₄ hx₄ => ?_
    replace hx₄ : Heap.ExtBut h₃.objs.size h₃ h₄ := hx₄
    have old₄ : ∀ b o, b < s'.heap.objs.size → h₃.get? b = some o → h₄.get? b = some o := fun b o hb x => hx₄ b o (by rw [hz₃]; exact Nat.ne_of_lt (Nat.lt_succ_of_lt hb)) x
    have hk₄ : ∀ b o, b ∉ [e, it] → s'.heap.get? b = some o → h₄.get? b = some o := fun b o hb x =>
      old₄ b o (Heap.lt_size x) (hs₃.extBut b o (own1 b o hb).1 (hk₂ b o (own1 b o hb).1 (own1 b o hb).2 x))
    have G₄ : St prog w B φ' σ' { s' with heap := h₄, toks := s'.toks + 1 } := G'.butL (s' := { s' with heap := h₄, toks := s'.toks + 1 }) hk₄ ownφ ownB ownS
    have L₄ : Loc A B env ρ' φ' h₄ := L'.butL hk₄ ownF ownS ownN
    have hE₄ : IsEnum h₄ e it ((i : Int) + 1) key := old₄ e _ heH he₃
    have hI₄ : h₄.IsKeyIter it a (i + 1) kvs'.length ep2 := (hit₂.extBut hs₃.extBut (Ne.symm heit)).at fun o x => old₄ it o (by obtain ⟨o', x', _⟩ := hI; exact Heap.lt_size x') x
    have t₄ := tStep h₄ hk₄
    show wpAny _ A (do holding [key] (assign (.Name xk pk) env (.int i s'.toks)); do holding [] (assign (.Name xn pn) env key); pure ()) _ _ _
    refine wpAny_bind (wpAny_holding (wpAny_assign_Name (store_name (s := { s' with heap := h₄, toks := s'.toks + 1 }) G₄ L₄ (.int_ _ _) (.inl hxk) fun h₅ tk₅ t₅ G₅ L₅ => ?_)))
    refine wpAny_bind (wpAny_holding (wpAny_assign_Name (store_name G₅ L₅ (Key.val hkey) (.inl hxn) fun h₆ tk₆ t₆ G₆ L₆ => wpAny_pure ?_)))
    have hkA : (es[i]).1.v = keyAt es i := (by unfold keyAt; rw [List.getD_eq_getElem?_getD, List.getElem?_eq_getElem hlt]; rfl)
    rw [hkA] at L₆
    refine wpAny_mono (hbody i ρ' σ' hlt hC hIv φ' _ G₆ L₆) (fun f s₇ hx => ?_) (fun e s₅ hx => by obtain ⟨_, _, _, _, x⟩ := hx; exact x.elim)
    obtain ⟨φ₇, σ₇, t₇, G₇, fl, ρ₇, hf, L₇, q⟩ := hx
    have t7 : Step (fr env) φ s.heap φ₇ s₇.heap := ((t₄.transF t₅ L₄).transF t₆ L₅).transF t₇ L₆
    have hE₇ : IsEnum s₇.heap e it ((i : Int) + 1) key ∧ e ∉ φ₇ := by
      obtain ⟨x1, y1⟩ := t₅.at hE₄ he' e1 (nstE hE₄ _ hE₄).1
      obtain ⟨x2, y2⟩ := t₆.at x1 y1 e1 (nstE hE₄ _ hE₄).1
      exact t₇.at x2 y2 e1 (nstE hE₄ _ hE₄).1
    have hI₇ : s₇.heap.IsKeyIter it a (i + 1) kvs'.length ep2 ∧ it ∉ φ₇ := by
      obtain ⟨o, ho, hc, r⟩ := hI₄
      have hf : NoD o := .fields r
      obtain ⟨x1, y1⟩ := t₅.at ho hi' i1 hf
      obtain ⟨x2, y2⟩ := t₆.at x1 y1 i1 hf
      obtain ⟨x3, y3⟩ := t₇.at x2 y2 i1 hf
      exact ⟨⟨o, x3, hc, r⟩, y3⟩
    have ha₇ : φ₇[k]? = some a := idx_mono t₇.pre ha
    have hE7 : IsEnum s₇.heap e it ((i + 1 : Nat) : Int) key := by have := hE₇.1; rwa [show ((i + 1 : Nat) : Int) = (i : Int) + 1 by (clear this ha₇ hI₇ hE₇ t7 q L₇ hf G₇ t₇ hkA L₆ G₆ t₆ L₅ G₅ t₅ t₄ hI₄ hE₄ L₄ G₄ hk₄ old₄ hx₄ hz₃ ht₃ hs₃ he₃ heH hk₂ hz₂ ht₂ hit₂ heo hkey hv ownN ownS ownF ownB ownφ tStep own1 hlen hep' hC hI hep hend hbody hσ hd hvs' hIv hE ha hi' he' L' G' tt hin nstI nstE e4 e3 e2 e1 i4 i3 i2 i1 heit hie L₁ G₁ t₁ L G hs hp hx hxn hxk hi hh be; lia)]
    have hI7 : s₇.heap.IsKeyIter it a (i + 1) es.length ep2 := by have := hI₇.1; rwa [hlen] at this
    cases fl with
    | next => obtain rfl : f = .next := hf; exact ⟨es.length - (i + 1), by (clear q hI7 hE7 ha₇ hI₇ hE₇ t7 L₇ G₇ t₇ hkA L₆ G₆ t₆ L₅ G₅ t₅ t₄ hI₄ hE₄ L₄ G₄ hk₄ old₄ hx₄ hz₃ ht₃ hs₃ he₃ heH hk₂ hz₂ ht₂ hit₂ heo hkey hv ownN ownS ownF ownB ownφ tStep own1 hlen hep' hC hI hep hend hbody hσ hd hvs' hIv hE ha hi' he' L' G' tt hin nstI nstE e4 e3 e2 e1 i4 i3 i2 i1 heit hie L₁ G₁ t₁ L G hs hp hx hxn hxk hi hh be; omega), i + 1, φ₇, σ₇, ρ₇, key, a, rfl, hlt, t7, G₇, L₇, hE₇.2, hI₇.2, ha₇, hE7, hI7, q.1, q.2⟩
    | cont => obtain rfl : f = .cont := hf; exact ⟨es.length - (i + 1), by (clear q hI7 hE7 ha₇ hI₇ hE₇ t7 L₇ G₇ t₇ hkA L₆ G₆ t₆ L₅ G₅ t₅ t₄ hI₄ hE₄ L₄ G₄ hk₄ old₄ hx₄ hz₃ ht₃ hs₃ he₃ heH hk₂ hz₂ ht₂ hit₂ heo hkey hv ownN ownS ownF ownB ownφ tStep own1 hlen hep' hC hI hep hend hbody hσ hd hvs' hIv hE ha hi' he' L' G' tt hin nstI nstE e4 e3 e2 e1 i4 i3 i2 i1 heit hie L₁ G₁ t₁ L G hs hp hx hxn hxk hi hh be; omega), i + 1, φ₇, σ₇, ρ₇, key, a, rfl, hlt, t7, G₇, L₇, hE₇.2, hI₇.2, ha₇, hE7, hI7, q.1, q.2⟩
    | brk => obtain rfl : f = .brk := hf; exact ⟨φ₇, σ₇, t7, G₇, .next, ρ₇, rfl, L₇, q⟩
    | ret y => obtain ⟨u, rfl, hu⟩ := hf; exact ⟨φ₇, σ₇, t7, G₇, .ret y, ρ₇, ⟨u, rfl, hu⟩, L₇, q⟩
  · have hin' : i = es.length := by (clear ownN ownS ownF ownB ownφ tStep own1 hlen hep' hC hI hep hend hbody hσ hd hvs' hIv hE ha hi' he' L' G' tt nstI nstE e4 e3 e2 e1 i4 i3 i2 i1 heit hie L₁ G₁ t₁ L G hs hp hx hxn hxk hi hh be; lia)
    subst hin'
    refine pyNext_enumD_end hh hE hI hd (by rw [List.getElem?_eq_none]; rw [hlen]; exact Nat.le_refl _) fun h₃ hk₃ => ?_
    have hk₄ : ∀ b o, b ∉ [e, it] → s'.heap.get? b = some o → h₃.get? b = some o := fun b o hb x => hk₃ b o (own1 b o hb).2 x
    have G₄ : St prog w B φ' σ' { s' with heap := h₃ } := G'.butL (s' := { s' with heap := h₃ }) hk₄ ownφ ownB ownS
    exact wpAny_execs_nil ⟨φ', σ', tStep h₃ hk₄, G₄, .next, ρ', rfl, L'.butL hk₄ ownF ownS ownN, hend ρ' σ' hC hIv⟩
end
end Mine

set_option autoImplicit false
set_option linter.unusedVariables false
set_option maxRecDepth 100000
namespace Mine
open PySem PySem.W PySem.Calls PyProof.Rows

section
variable {prog : Program} {w : World} {B : Shared} {mg mb : Str → Option Value} {φ φ' : List Addr} {σ σ' : List AObj} {s s' : Shared} {env : Env} {ρ l : List (Str × V)} {A : Around} {X : XT} {Q : V → List AObj → Prop}

/-- for k, name in enumerate(d) -/
theorem X_fore {xk xn : Str} {pk pn pt pe pos pos' : Pos} {ctx : _} {arg : Expr} {body rest : List Stmt} {Q : Fl → List (Str × V) → List AObj → Prop} {k : Nat} {es : List (Key × V)} {e : Option Nat} {ι : Type} (D : Nat → ι → Prop) (l : Nat → ι → List (Str × V)) (f : Nat → ι → List AObj) (g₀ : ι)
    (be : Bi B mg mb "enumerate" (.type "enumerate")) (hh : A.handled = none) (hσ : σ[k]? = some (.dict es e))
    (hi : ∀ ep, WEs prog w B A env [arg] ρ (pin σ k es ep) (fun vs σ' => vs = [.ref k] ∧ σ' = pin σ k es ep) X)
    (h1 : D 0 g₀) (h2 : σ = f 0 g₀) (h4 : Sub (l 0 g₀) ρ) (hf : ∀ i g, D i g → (f i g)[k]? = some (.dict es e))
    (hb : ∀ ep i g, i < es.length → D i g → WX prog w B A env body ((xn, keyAt es i) :: (xk, .int i) :: l i g) (pin (f i g) k es ep) (turnD k es e ep (D (i + 1)) (l (i + 1)) (f (i + 1)) (seqQ prog w B A env rest Q X)) (fun _ _ _ _ => False))
    (he : ∀ g, D es.length g → WX prog w B A env rest (l es.length g) (f es.length g) Q X)
    (hxk : env.kindOf xk = some .local := by kernel_rfl!) (hxn : env.kindOf xn = some .local := by kernel_rfl!)
    (hx : env.kindOf ("enumerate" : Str) = some .globalImplicit := by kernel_rfl!)
    (hp : ∀ pos, (backTo pos (starEach [arg] env)).any (·.1) = false := by intro _; with_unfolding_all rfl)
    (hs : ∀ v, foldedSetIterable (.Call (.Name "enumerate" pe) [arg] [] pos') env v = pure v := by intro _; with_unfolding_all rfl) :
    WX prog w B A env (.For (.Tuple [.Name xk pk, .Name xn pn] ctx pt) (.Call (.Name "enumerate" pe) [arg] [] pos') body [] pos :: rest) ρ σ Q X := by
  refine X_cons fun φ s G L => ?_
  obtain ⟨ep, hep, G', _⟩ := G.pin hσ
  have main : WX1 prog w B A env (.For (.Tuple [.Name xk pk, .Name xn pn] ctx pt) (.Call (.Name "enumerate" pe) [arg] [] pos') body [] pos) ρ (pin σ k es ep) (fun fl ρ' σ' => σ'[k]? = some (.dict es (some ep)) ∧ seqQ prog w B A env rest Q X fl ρ' (σ'.set k (.dict es e))) X := by
    refine X_enum1 (ep := ep) be hh (pin_at hσ) (hi ep) (fun i ρ' σ' => ∃ g, D i g ∧ σ' = pin (f i g) k es ep ∧ Sub (l i g) ρ') ⟨g₀, h1, by rw [← h2], h4⟩ ?_ ?_ hxk hxn hx hp hs
    · rintro i ρ₂ σ₂ hi' hC ⟨g, hD, rfl, hs'⟩
      refine X_weak hs'.both.both fun φ s G L => wpAny_mono (hb ep i g hi' hD φ s G L) (fun v s₁ hx => ?_) fun _ _ x => x
      obtain ⟨φ₁, σ₃, t₁, G₁, fl, ρ', hf', L₁, q⟩ := hx
      refine ⟨φ₁, σ₃, t₁, G₁, fl, ρ', hf', L₁, ?_⟩
      cases fl with
      | next => obtain ⟨g', q1, q2, q4⟩ := q; exact ⟨by rw [q2]; exact pin_at (hf _ _ q1), g', q1, q2, q4⟩
      | cont => obtain ⟨g', q1, q2, q4⟩ := q; exact ⟨by rw [q2]; exact pin_at (hf _ _ q1), g', q1, q2, q4⟩
      | brk => exact q
      | ret y => exact q
    · rintro ρ₂ σ₂ hC ⟨g, hD, rfl, hs'⟩
      refine ⟨hC, ?_⟩
      rw [pin_set (hf _ _ hD)]
      exact X_weak hs' (he g hD)
  refine wpAny_mono (main φ s G' L) (fun v s₁ hx => ?_) fun _ _ x => x
  obtain ⟨φ₁, σ₁, t₁, G₁, fl, ρ₁, hf', L₁, q1, q2⟩ := hx
  exact ⟨φ₁, σ₁.set k (.dict es e), t₁, G₁.unpin q1 hep, fl, ρ₁, hf', L₁, q2⟩

theorem pin_get {j k : Nat} {es es' : List (Key × V)} {e e' : Option Nat} {ep : Nat} (hj : σ[j]? = some (.dict es' e')) (hk : σ[k]? = some (.dict es e)) : ∃ e'', (pin σ k es ep)[j]? = some (.dict es' e'') := by
  by_cases h : j = k
  · subst h; rw [hj] at hk; cases hk; exact ⟨_, pin_at hj⟩
  · exact ⟨e', by rw [pin_ne h]; exact hj⟩
theorem pin_end_at {k : Nat} {es : List (Key × V)} {ep : Nat} {x : AObj} (h : k < σ.length) : (pin (σ ++ [x]) k es ep)[σ.length]? = some x := by rw [pin_ne (by (exact Nat.ne_of_gt (by assumption)))]; simp
theorem pin_end_set {k : Nat} {es : List (Key × V)} {ep : Nat} {x y : AObj} (h : k < σ.length) : (pin (σ ++ [x]) k es ep).set σ.length y = pin (σ ++ [y]) k es ep := by
  unfold pin
  rw [List.set_append_left _ _ h, List.set_append_left _ _ h]
  have hl : σ.length = (σ.set k (AObj.dict es (some ep))).length := by simp
  rw [hl, List.set_append_right _ _ (Nat.le_refl _)]
  simp
theorem up_at {k : Nat} {x : AObj} {more : List AObj} (h : σ[k]? = some x) : (σ ++ more)[k]? = some x := by rw [List.getElem?_append_left (List.getElem?_eq_some_iff.mp h).1]; exact h
theorem at_end' {a b x : AObj} : (σ ++ [a] ++ [b])[(σ ++ [x]).length]? = some b := by simp
theorem at_len {k : Nat} {x : AObj} (h : σ[k]? = some x) : k < σ.length := (List.getElem?_eq_some_iff.mp h).1
theorem O_eq_pair {a b c d : Int} (hu : A.units + 100 < cLine) (q : Q (.bool (decide (a = c ∧ b = d))) σ) : W2 prog w B A (compareOp .Eq) (.tup [.int a, .int b]) (.tup [.int c, .int d]) σ Q X := by
  refine O_eqd (.tup (.cons (.int _) (.cons (.int _) .nil))) (.tup (.cons (.int _) (.cons (.int _) .nil))) rfl rfl (by have : min (PyData.tuple [.int a, .int b]).depth (PyData.tuple [.int c, .int d]).depth ≤ 100 := (by simp [PyData.depth, PyData.depthAll]); (clear q; lia)) ?_
  have e : PyData.eqv (.tuple [.int a, .int b]) (.tuple [.int c, .int d]) = decide (a = c ∧ b = d) := by simp [PyData.eqv, PyData.eqvAll]; rfl
  rw [e]; exact q
theorem O_ne_pair {a b c d : Int} (hu : A.units + 100 < cLine) (q : Q (.bool (!decide (a = c ∧ b = d))) σ) : W2 prog w B A (compareOp .NotEq) (.tup [.int a, .int b]) (.tup [.int c, .int d]) σ Q X := by
  refine O_ned (.tup (.cons (.int _) (.cons (.int _) .nil))) (.tup (.cons (.int _) (.cons (.int _) .nil))) rfl rfl (by have : min (PyData.tuple [.int a, .int b]).depth (PyData.tuple [.int c, .int d]).depth ≤ 100 := (by simp [PyData.depth, PyData.depthAll]); (clear q; lia)) ?_
  have e : PyData.eqv (.tuple [.int a, .int b]) (.tuple [.int c, .int d]) = decide (a = c ∧ b = d) := by simp [PyData.eqv, PyData.eqvAll]; rfl
  rw [e]; exact q
theorem dats_strs : ∀ l : List Str, Dats σ (l.map V.str) (l.map PyData.str)
  | [] => .nil
  | x :: r => .cons (.str x) (dats_strs r)
theorem eqvAll_strs : ∀ l : List Str, PyData.eqvAll (l.map PyData.str) (l.map PyData.str) = true
  | [] => by simp [PyData.eqvAll]
  | x :: r => by simp [PyData.eqvAll, PyData.eqv, eqvAll_strs r]
theorem depth_strs : ∀ l : List Str, PyData.depthAll (l.map PyData.str) ≤ 1
  | [] => by simp [PyData.depthAll]
  | x :: r => by have := depth_strs r; simp [PyData.depthAll, PyData.depth]; omega
theorem canLay_strs : ∀ l : List Str, (∀ x ∈ l, PyData.strOk x = true) → PyData.canLayAll0 (l.map PyData.str) = true
  | [], _ => by simp [PyData.canLayAll0]
  | x :: r, h => by
    have h1 := h x (.head _)
    have h2 := canLay_strs r fun y hy => h y (.tail _ hy)
    simp [PyData.canLayAll0, PyData.canLay0, h1, h2]
/-- two lists of the same texts -/
theorem O_ne_strs {j k : Nat} {l : List Str} (hj : σ[j]? = some (.list (l.map V.str))) (hk : σ[k]? = some (.list (l.map V.str))) (hl : ∀ x ∈ l, PyData.strOk x = true) (hn : l.length ≤ sizeLine) (hu : A.units + 100 < cLine) (q : Q (.bool false) σ) : W2 prog w B A (compareOp .NotEq) (.ref j) (.ref k) σ Q X := by
  have hd := depth_strs l
  have c : (PyData.list (l.map PyData.str)).canLay0 = true := by simp only [PyData.canLay0]; exact canLay_strs l hl
  refine O_ned (.list hj (dats_strs l)) (.list hk (dats_strs l)) c c (by simp only [Nat.min_self, PyData.depth]; (clear c q hn hl hk hj; lia)) ?_
  simp only [PyData.eqv, eqvAll_strs]
  exact q
end
end Mine

set_option autoImplicit false
set_option linter.unusedVariables false
set_option maxRecDepth 100000
namespace Mine
open PySem PySem.W PySem.Calls PyProof.Rows

/-! the walk through a set of texts -/
theorem slot_si_next : Slot "set_iterator" "__next__" "set_iterator.__next__" :=
  .of (owner := "set_iterator") (n := "__next__") (by rw [typeLookup_type, builtinLookup_eq_fast]; kernel_rfl) (by decide +kernel) (by decide +kernel) (by decide +kernel)
    (by first | exact .inl (by decide +kernel) | exact .inr (by decide +kernel)) (by rw [isSubtype_type]; kernel_rfl)
theorem entry_si_next : entryFor table "set_iterator.__next__" = some Builtin.«set_iterator.__next__» := entryFor_of_tree (by kernel_rfl)
theorem args_si_next (a : Value) : argsOk "set_iterator.__next__" ⟨[a], []⟩ := by unfold argsOk; kernel_rfl
theorem slot_si_iter : Slot "set_iterator" "__iter__" "set_iterator.__iter__" :=
  .of (owner := "set_iterator") (n := "__iter__") (by rw [typeLookup_type, builtinLookup_eq_fast]; kernel_rfl) (by decide +kernel) (by decide +kernel) (by decide +kernel)
    (by first | exact .inl (by decide +kernel) | exact .inr (by decide +kernel)) (by rw [isSubtype_type]; kernel_rfl)
theorem entry_si_iter : entryFor table "set_iterator.__iter__" = some Builtin.«dict_keyiterator.__iter__» :=
  entryFor_alias (id' := "dict_keyiterator.__iter__") (by kernel_rfl) rfl (by decide +kernel) (by kernel_rfl)
theorem args_si_iter (a : Value) : argsOk "set_iterator.__iter__" ⟨[a], []⟩ := by unfold argsOk; kernel_rfl
theorem entry_set_iter : entryFor table "set.__iter__" = some Builtin.«frozenset.__iter__» :=
  entryFor_alias (id' := "frozenset.__iter__") (by kernel_rfl) rfl (by decide +kernel) (by kernel_rfl)

theorem erase_perm {α : Type} : ∀ (l : List α) (i : Nat) (h : i < l.length), (l[i] :: l.eraseIdx i).Perm l
  | [], i, h => absurd h (Nat.not_lt_zero i)
  | x :: r, 0, h => .refl _
  | x :: r, i + 1, h => (List.Perm.swap x _ _).trans (List.Perm.cons x (erase_perm r i (Nat.lt_of_succ_lt_succ h)))
theorem pick_perm {α : Type} (next : Nat → Nat) : ∀ (n k : Nat) (left : List α) (out : Array α), left.length = n → (pickOrder.go next n k left out).toList.Perm (out.toList ++ left)
  | 0, k, left, out, e => by obtain rfl := List.eq_nil_of_length_eq_zero e; simp [pickOrder.go]
  | n + 1, k, left, out, e => by
    have hlt : next k % left.length < left.length := Nat.mod_lt _ (by (lia))
    unfold pickOrder.go
    rw [List.getElem?_eq_getElem hlt]
    dsimp only
    refine (pick_perm next n (k + 1) _ _ (by rw [List.length_eraseIdx_of_lt hlt, e]; rfl)).trans ?_
    rw [Array.toList_push, List.append_assoc]
    exact List.Perm.append_left _ (erase_perm _ _ hlt)
theorem pickOrder_perm {α : Type} (next : Nat → Nat) (xs : Array α) : (pickOrder next xs).toList.Perm xs.toList := by
  have := pick_perm next xs.size 0 xs.toList #[] (by simp)
  simpa [pickOrder] using this

theorem setNext_eq (a : Addr) (slot given epochThen : Nat) : setNext a slot given epochThen = (do
    let (es, epoch, t) ← setState a
    if ← setsByText then
      if epoch != epochThen then unsupported "set_iterator.__next__:elements-changed"
      return ((← setWalk a)[given]?).map fun e => (e.2, slot)
    if (!t.plain && decide (es.size > 1)) = true then unsupported "set_iterator.__next__:the-table-is-plain-no-more"
    (if (!t.led && !es.isEmpty) = true then unsupported "set:maker-not-led" else pure () : Sem Unit)
    let i := SetTable.below t.place slot
    return match es[i]?, t.place[i]? with
      | some (_, x), some j => some (x, j + 1)
      | _, _ => none) := rfl
theorem setWalk_eq (a : Addr) : setWalk a = (do
    let (es, epoch, t) ← setState a
    if ← setsByText then return pickOrder ((← ask).params.setOrder a epoch) es
    if (!t.plain && decide (es.size > 1)) = true then return (← drawOrder es.size es.toList).toArray
    (if (!t.led && decide (es.size > 1)) = true then unsupported "set:maker-not-led" else pure () : Sem Unit)
    return es) := rfl
theorem setDrawn_eq (a : Addr) : setDrawn a = (do
    let (es, _, t) ← setState a
    let byText ← setsByText
    return !byText && (!t.plain && decide (es.size > 1))) := rfl

/-- the set's object -/
def SetAt (h : Heap) (a : Addr) (es : Array (Int × Value)) (ep : Nat) (t : SetTable) : Prop := ∃ o, h.get? a = some o ∧ o.ExactSet ∧ o.data = .set es ep t
def IsSI (h : Heap) (I : Addr) (f : Value) (i : Nat) (a : Addr) (n ep : Nat) : Prop :=
  h.get? I = some { cls := .type "set_iterator", data := .fields #[f, .int i 0, .ref a, .int n 0, .int ep 0] }

section
variable {prog : Program} {w : World} {A : Around} {E : Value → Shared → Prop} {s : Shared} {a I : Addr} {es : Array (Int × Value)} {ep : Nat} {t : SetTable}

theorem wpAny_byText {Q : Bool → Shared → Prop} (h : Q (byText w) s) : wpAny (model prog w) A setsByText Q E s := by
  unfold setsByText
  exact wpAny_bind (wpAny_askSetting (wpAny_pure h))
theorem wpAny_choose {n : Nat} {src : Source} {Q : Nat → Shared → Prop} (hn : n ≠ 0) (h : ∀ i d, i < n → Q i { s with drawn := d }) : wpAny (model prog w) A (choose src n) Q E s :=
  fun _ _ _ => ⟨hn, h _ _ (Nat.mod_lt _ (Nat.pos_of_ne_zero hn))⟩
theorem wpAny_drawOrder {α : Type} {Q : List α → Shared → Prop} : ∀ (n : Nat) (xs : List α) (s : Shared), xs.length = n → (∀ l d, l.Perm xs → Q l { s with drawn := d }) → wpAny (model prog w) A (drawOrder n xs) Q E s
  | 0, xs, s, e, h => by
    obtain rfl := List.eq_nil_of_length_eq_zero e
    unfold drawOrder
    exact wpAny_pure (h [] s.drawn (.refl _))
  | n + 1, [], s, e, h => by simp at e
  | n + 1, x :: xs, s, e, h => by
    unfold drawOrder
    refine wpAny_bind (wpAny_choose (by simp) fun i d hi => ?_)
    rw [List.getElem?_eq_getElem hi]
    dsimp only
    refine wpAny_bind (wpAny_drawOrder n _ _ (by rw [List.length_eraseIdx_of_lt hi, e]; rfl) fun l d' hl => wpAny_pure (h _ d' ?_))
    exact (List.Perm.cons _ hl).trans (erase_perm _ _ hi)

theorem SetAt.typeIs (h : SetAt s.heap a es ep t) : s.TypeIs (.ref a) "set" := let ⟨o, ho, hx, _⟩ := h; ⟨o, ho, hx.1⟩
theorem SetAt.at {h h' : Heap} (x : SetAt h a es ep t) (e : ∀ o, h.get? a = some o → h'.get? a = some o) : SetAt h' a es ep t := let ⟨o, ho, r⟩ := x; ⟨o, e o ho, r⟩
theorem wp_state {Q : (Array (Int × Value) × Nat × SetTable) → Shared → Prop} (h : SetAt s.heap a es ep t) (hf : t.fits es.size = true) (hq : Q (es, ep, t) s) : wpAny (model prog w) A (setState a) Q E s := by
  obtain ⟨o, ho, _, hd⟩ := h
  exact wpAny_setState_of ho hd hf hq

/-- the rows that a walk gives -/
def RowsOf (L : List (Int × Value)) (i : Nat) (v : Value) : Prop := ∃ e, L[i]? = some e ∧ v = e.2

/-- raising StopIteration -/
theorem stop_next {Q : Option Value → Shared → Prop} {R : Value → Shared → Prop} {P : Fin → Shared → Prop} (hh : A.handled = none) (h : ∀ h', (∀ b o, s.heap.get? b = some o → h'.get? b = some o) → Q none { s with heap := h' }) :
    wpAny (model prog w) A.in1 (newExc (.type "StopIteration") [] >>= fun e => (raiseNew e : Sem Fin)) P
      (fun e s' => wpAny (model prog w) A (isInstance e (.type "StopIteration")) (fun b s'' => b = true ∧ Q none s'') R s') s := by
  refine wpAny_bind ?_
  simp only [newExc, newTuple]
  refine wpAny_bind (wpAny_newObj_type ?_ (by size_fits))
  refine wpAny_bind (m := firstArgMember _ _) (wpAny_of_eq (a := Value.none) (by first | rfl | (simp only [firstArgMember]; rfl)) ?_)
  refine wpAny_newObj_type ?_ (by size_fits)
  simp only [raiseNew]
  refine wpAny_bind (wpAny_handled ?_)
  rw [show A.in1.handled = none from hh]
  refine wpAny_bind (wpAny_pure (wpAny_throw ?_))
  exact wpAny_isInstance (T := "StopIteration") (b := true) ⟨_, Heap.get?_push_size _ rfl, rfl⟩ isSubtype_stop ⟨rfl, h _ fun b o e => Heap.get?_push_of_some _ (Heap.get?_push_of_some _ e)⟩
end
end Mine

set_option autoImplicit false
set_option linter.unusedVariables false
set_option maxRecDepth 100000
namespace Mine
open PySem PySem.W PySem.Calls PyProof.Rows

section
variable {prog : Program} {w : World} {A : Around} {E : Value → Shared → Prop} {s : Shared} {a I T : Addr} {es : Array (Int × Value)} {ep : Nat} {t : SetTable} {i : Nat}

/-- one step of a set's iterator: opening -/
theorem si_open {f : Value} {Q : Option Value → Shared → Prop} (hI : IsSI s.heap I f i a es.size ep) (hS : SetAt s.heap a es ep t) (hf : t.fits es.size = true)
    (h : wpAny (model prog w) A.in1 (do
      if let .int slot _ := f then
        match ← setNext a slot.toNat (i : Int).toNat (ep : Int).toNat with
        | some (x, next) =>
          setField (.ref I) 0 (rawInt next)
          setField (.ref I) 1 (rawInt ((i : Int) + 1))
          ret x
        | none => setField (.ref I) 2 .none; raiseNew (← newExc (.type "StopIteration") [])
      else
        let some places ← seqItems? f | unsupported "internal:set_iterator"
        match places[(i : Int).toNat]? with
        | some (.int place _) =>
          let x ← setNextDrawn a place.toNat (ep : Int).toNat
          setField (.ref I) 1 (rawInt ((i : Int) + 1))
          ret x
        | some _ => unsupported "internal:set_iterator"
        | none => setField (.ref I) 0 (rawInt 0); setField (.ref I) 2 .none; raiseNew (← newExc (.type "StopIteration") []))
      (fun fin s' => ∃ v, fin = .done (.ret v) ∧ Q (some v) s')
      (fun e s' => wpAny (model prog w) A (isInstance e (.type "StopIteration")) (fun b s'' => b = true ∧ Q none s'') E s') s) : wpAny (model prog w) A (pyNext (.ref I)) Q E s := by
  have hT : s.TypeIs (.ref I) "set_iterator" := ⟨_, hI, rfl⟩
  unfold pyNext
  refine wpAny_bind (wpAny_attempt (wpAny_callSpecial?_slot (name := Str.ofString "__next__") hT slot_si_next (wpAny_call_entry slot_si_next hT entry_si_next ?_ (args_si_next _))))
  show wpAny _ _ (fieldsOf (.ref I) >>= _) _ _ s
  refine wpAny_bind (wpAny_fieldsOf hI rfl ?_)
  obtain ⟨o, ho, _, hd⟩ := hS
  show wpAny _ _ (setEntries a >>= _) _ _ s
  refine wpAny_bind (wpAny_setEntries_of ho hd hf ?_)
  show wpAny _ _ (if ((es.size : Int) != (es.size : Int)) = true then _ else _) _ _ s
  rw [if_neg (by simp)]
  refine wpAny_mono h (fun fin s' hx => ?_) fun e s' hx => ?_
  · obtain ⟨v, rfl, hq⟩ := hx
    exact ⟨v, rfl, wpAny_pure hq⟩
  · refine wpAny_bind (wpAny_mono hx (fun b s'' hb => ?_) fun _ _ x => x)
    obtain ⟨rfl, hq⟩ := hb
    exact wpAny_pure hq

/-- drawn order -/
theorem si_item_D {ps : List Nat} {p : Nat} {e : Int × Value} {Q : Option Value → Shared → Prop} (hI : IsSI s.heap I (.ref T) i a es.size ep) (hS : SetAt s.heap a es ep t) (hf : t.fits es.size = true) (hT : s.heap.get? T = some { cls := .type "tuple", data := .seq (ps.map fun (p : Nat) => rawInt p).toArray })
    (hp : ps[i]? = some p) (he : es[p]? = some e) (hQ : ∀ h', IsSI h' I (.ref T) (i + 1) a es.size ep → Heap.SameBut I s.heap h' → Q (some e.2) { s with heap := h' }) : wpAny (model prog w) A (pyNext (.ref I)) Q E s := by
  refine si_open hI hS hf ?_
  show wpAny _ _ (seqItems? (.ref T) >>= _) _ _ s
  refine wpAny_bind (wpAny_seqItems hT rfl ?_)
  have e1 : ((ps.map fun (p : Nat) => rawInt p).toArray)[(i : Int).toNat]? = some (.int p 0) := by
    rw [Int.toNat_natCast, List.getElem?_toArray, List.getElem?_map, hp]; rfl
  dsimp only
  rw [e1]
  dsimp only
  refine wpAny_bind ?_
  unfold setNextDrawn
  refine wpAny_bind (wp_state hS hf ?_)
  dsimp only
  rw [Int.toNat_natCast, Int.toNat_natCast, if_neg (by simp), he]
  refine wpAny_pure ?_
  refine wpAny_bind (wpAny_setField_rec hI (by simp) fun h' hI' hs => wpAny_pure ⟨_, rfl, hQ h' ?_ hs⟩)
  exact hI'
theorem si_done_D {ps : List Nat} {Q : Option Value → Shared → Prop} (hh : A.handled = none) (hI : IsSI s.heap I (.ref T) i a es.size ep) (hS : SetAt s.heap a es ep t) (hf : t.fits es.size = true) (hT : s.heap.get? T = some { cls := .type "tuple", data := .seq (ps.map fun (p : Nat) => rawInt p).toArray })
    (hp : ps[i]? = none) (hQ : ∀ h', (∀ b o, b ≠ I → s.heap.get? b = some o → h'.get? b = some o) → Q none { s with heap := h' }) : wpAny (model prog w) A (pyNext (.ref I)) Q E s := by
  refine si_open hI hS hf ?_
  show wpAny _ _ (seqItems? (.ref T) >>= _) _ _ s
  refine wpAny_bind (wpAny_seqItems hT rfl ?_)
  have e1 : ((ps.map fun (p : Nat) => rawInt p).toArray)[(i : Int).toNat]? = none := by
    rw [Int.toNat_natCast, List.getElem?_toArray, List.getElem?_map, hp]; rfl
  dsimp only
  rw [e1]
  dsimp only
  refine wpAny_bind (wpAny_setField_rec hI (by simp) fun h₁ hI₁ hs₁ => wpAny_bind (wpAny_setField_rec (s := { s with heap := h₁ }) hI₁ (by simp) fun h₂ hI₂ hs₂ => ?_))
  exact stop_next (s := { s with heap := h₂ }) hh fun h' hk => hQ h' fun b o hb e => hk b o (hs₂.extBut b o hb (hs₁.extBut b o hb e))

/-- by text -/
theorem si_item_T {e : Int × Value} {Q : Option Value → Shared → Prop} (hbt : byText w = true) (hI : IsSI s.heap I (.int 0 0) i a es.size ep) (hS : SetAt s.heap a es ep t) (hf : t.fits es.size = true)
    (he : (pickOrder (w.params.setOrder a ep) es)[i]? = some e) (hQ : ∀ h', IsSI h' I (.int 0 0) (i + 1) a es.size ep → Heap.SameBut I s.heap h' → Q (some e.2) { s with heap := h' }) : wpAny (model prog w) A (pyNext (.ref I)) Q E s := by
  refine si_open hI hS hf ?_
  dsimp only
  rw [setNext_eq]
  refine wpAny_bind (wpAny_bind (wp_state hS hf (wpAny_bind (wpAny_byText ?_))))
  rw [hbt]
  simp only [if_true]
  rw [Int.toNat_natCast, if_neg (by simp), setWalk_eq]
  refine wpAny_bind (wpAny_bind (wp_state hS hf (wpAny_bind (wpAny_byText ?_))))
  rw [hbt]
  simp only [if_true]
  refine wpAny_bind (wpAny_askSetting (wpAny_pure (wpAny_pure ?_)))
  rw [Int.toNat_natCast]
  rw [show (pickOrder ((model prog w).w.params.setOrder a ep) es)[i]? = some e from he]
  simp only [Option.map_some]
  refine wpAny_bind (wpAny_setField_rec hI (by simp) fun h₁ hI₁ hs₁ => wpAny_bind (wpAny_setField_rec (s := { s with heap := h₁ }) hI₁ (by simp) fun h₂ hI₂ hs₂ => wpAny_pure ⟨_, rfl, hQ h₂ ?_ (hs₁.trans hs₂)⟩))
  exact hI₂
theorem si_done_T {Q : Option Value → Shared → Prop} (hh : A.handled = none) (hbt : byText w = true) (hI : IsSI s.heap I (.int 0 0) i a es.size ep) (hS : SetAt s.heap a es ep t) (hf : t.fits es.size = true)
    (he : (pickOrder (w.params.setOrder a ep) es)[i]? = none) (hQ : ∀ h', (∀ b o, b ≠ I → s.heap.get? b = some o → h'.get? b = some o) → Q none { s with heap := h' }) : wpAny (model prog w) A (pyNext (.ref I)) Q E s := by
  refine si_open hI hS hf ?_
  dsimp only
  rw [setNext_eq]
  refine wpAny_bind (wpAny_bind (wp_state hS hf (wpAny_bind (wpAny_byText ?_))))
  rw [hbt]
  simp only [if_true]
  rw [Int.toNat_natCast, if_neg (by simp), setWalk_eq]
  refine wpAny_bind (wpAny_bind (wp_state hS hf (wpAny_bind (wpAny_byText ?_))))
  rw [hbt]
  simp only [if_true]
  refine wpAny_bind (wpAny_askSetting (wpAny_pure (wpAny_pure ?_)))
  rw [Int.toNat_natCast]
  rw [show (pickOrder ((model prog w).w.params.setOrder a ep) es)[i]? = none from he]
  simp only [Option.map_none]
  refine wpAny_bind (wpAny_setField_rec hI (by simp) fun h₁ hI₁ hs₁ => ?_)
  exact stop_next (s := { s with heap := h₁ }) hh fun h' hk => hQ h' fun b o hb e => hk b o (hs₁.extBut b o hb e)

/-- one element or none -/
theorem si_item_1 {e : Int × Value} {Q : Option Value → Shared → Prop} (hbt : byText w = false) (hled : t.led = true) (h1 : es.size = 1) (hI : IsSI s.heap I (.int 0 0) 0 a es.size ep) (hS : SetAt s.heap a es ep t) (hf : t.fits es.size = true)
    (he : es[0]? = some e) (hQ : ∀ (sl : Nat) h', SetTable.below t.place sl = 1 → IsSI h' I (.int sl 0) 1 a es.size ep → Heap.SameBut I s.heap h' → Q (some e.2) { s with heap := h' }) : wpAny (model prog w) A (pyNext (.ref I)) Q E s := by
  obtain ⟨j, hj⟩ : ∃ j, t.place = #[j] := by
    have : t.place.size = 1 := by
      have := hf
      unfold SetTable.fits at this
      simp only [Bool.and_eq_true, beq_iff_eq] at this
      rw [this.1, h1]
    exact Array.size_eq_one_iff.mp this
  refine si_open hI hS hf ?_
  dsimp only
  rw [setNext_eq]
  refine wpAny_bind (wpAny_bind (wp_state hS hf (wpAny_bind (wpAny_byText ?_))))
  rw [hbt]
  simp only [Bool.false_eq_true, if_false]
  rw [if_neg (by rw [h1]; simp), hled]
  simp only [Bool.not_true, Bool.false_and, Bool.false_eq_true, if_false]
  refine wpAny_bind (wpAny_pure (wpAny_pure ?_))
  have b0 : SetTable.below t.place (0 : Int).toNat = 0 := by rw [hj]; simp [SetTable.below, SetTable.below.go]
  rw [b0, he, hj]
  simp only [List.getElem?_toArray, List.getElem?_cons_zero]
  refine wpAny_bind (wpAny_setField_rec hI (by simp) fun h₁ hI₁ hs₁ => wpAny_bind (wpAny_setField_rec (s := { s with heap := h₁ }) hI₁ (by simp) fun h₂ hI₂ hs₂ => wpAny_pure ⟨_, rfl, hQ (j + 1) h₂ ?_ ?_ (hs₁.trans hs₂)⟩))
  · rw [hj]; simp [SetTable.below, SetTable.below.go]
  · exact hI₂
theorem si_done_1 {sl : Nat} {Q : Option Value → Shared → Prop} (hh : A.handled = none) (hbt : byText w = false) (hled : t.led = true) (h1 : es.size ≤ 1) (hI : IsSI s.heap I (.int sl 0) i a es.size ep) (hS : SetAt s.heap a es ep t) (hf : t.fits es.size = true)
    (hb : SetTable.below t.place sl = es.size) (hQ : ∀ h', (∀ b o, b ≠ I → s.heap.get? b = some o → h'.get? b = some o) → Q none { s with heap := h' }) : wpAny (model prog w) A (pyNext (.ref I)) Q E s := by
  refine si_open hI hS hf ?_
  dsimp only
  rw [setNext_eq]
  refine wpAny_bind (wpAny_bind (wp_state hS hf (wpAny_bind (wpAny_byText ?_))))
  rw [hbt]
  simp only [Bool.false_eq_true, if_false]
  rw [if_neg (by simp; intro _; omega), hled]
  simp only [Bool.not_true, Bool.false_and, Bool.false_eq_true, if_false]
  refine wpAny_bind (wpAny_pure (wpAny_pure ?_))
  rw [Int.toNat_natCast, hb, Array.getElem?_eq_none (Nat.le_refl _)]
  dsimp only
  refine wpAny_bind (wpAny_setField_rec hI (by simp) fun h₁ hI₁ hs₁ => ?_)
  exact stop_next (s := { s with heap := h₁ }) hh fun h' hk => hQ h' fun b o hb e => hk b o (hs₁.extBut b o hb e)
end
end Mine

set_option autoImplicit false
set_option linter.unusedVariables false
set_option maxRecDepth 100000
namespace Mine
open PySem PySem.W PySem.Calls PyProof.Rows

section
variable {prog : Program} {w : World} {A : Around} {E : Value → Shared → Prop} {s : Shared} {a I T : Addr} {es : Array (Int × Value)} {ep : Nat} {t : SetTable}

theorem si_self {f : Value} {i n : Nat} {Q : Value → Shared → Prop} (hI : IsSI s.heap I f i a n ep) (h : Q (.ref I) s) : wpAny (model prog w) A (pyIter (.ref I)) Q E s := by
  have hT : s.TypeIs (.ref I) "set_iterator" := ⟨_, hI, rfl⟩
  refine wpAny_pyIter_slot hT slot_si_iter (wpAny_call_entry slot_si_iter hT entry_si_iter ?_ (args_si_iter _))
  show wpAny _ _ (ret (.ref I)) _ _ s
  exact wpAny_pure ⟨_, rfl, "set_iterator", _, hT, slot_si_next.lookup, h⟩

theorem walks_D (hh : A.handled = none) (hf : t.fits es.size = true) {ps : List Nat} {L : List (Int × Value)} (hn : L.length = es.size) (hps : ps.length = es.size) (hL : ∀ (i p : Nat), ps[i]? = some p → ∃ e, L[i]? = some e ∧ es[p]? = some e) (haI : a ≠ I) (hTI : T ≠ I) :
    Walks prog w A I [I, a, T] [I] es.size (RowsOf L) (fun i h => IsSI h I (.ref T) i a es.size ep ∧ SetAt h a es ep t ∧ h.get? T = some { cls := .type "tuple", data := .seq (ps.map fun (p : Nat) => rawInt p).toArray }) where
  sub := fun b hb => by rw [List.mem_singleton.mp hb]; exact .head _
  frame := fun i h h' st hk => ⟨hk I (.head _) _ st.1, st.2.1.at fun o e => hk a (.tail _ (.head _)) o e, hk T (.tail _ (.tail _ (.head _))) _ st.2.2⟩
  item := fun i s Q E hi st hq => by
    obtain ⟨h1, h2, h3⟩ := st
    have hp : ps[i]? = some ps[i] := List.getElem?_eq_getElem (by (clear h3 h2 h1 hq hTI haI hL hn hf hh; lia))
    obtain ⟨e, he1, he2⟩ := hL i _ hp
    refine si_item_D h1 h2 hf h3 hp he2 fun h' hI' hs => hq _ h' s.toks ⟨e, he1, rfl⟩ ⟨hI', h2.at fun o x => hs.extBut a o haI x, hs.extBut T _ hTI h3⟩ fun b o hb x => hs.extBut b o (fun h => hb (List.mem_singleton.mpr h)) x
  done := fun s Q E st hq => si_done_D hh st.1 st.2.1 hf st.2.2 (List.getElem?_eq_none (Nat.le_of_eq hps)) fun h' hk => hq h' s.toks fun b o hb x => hk b o (fun h => hb (List.mem_singleton.mpr h)) x
  self := fun i s Q E st hq => si_self st.1 hq
theorem walks_T (hh : A.handled = none) (hbt : byText w = true) (hf : t.fits es.size = true) (haI : a ≠ I) :
    Walks prog w A I [I, a] [I] es.size (RowsOf (pickOrder (w.params.setOrder a ep) es).toList) (fun i h => IsSI h I (.int 0 0) i a es.size ep ∧ SetAt h a es ep t) where
  sub := fun b hb => by rw [List.mem_singleton.mp hb]; exact .head _
  frame := fun i h h' st hk => ⟨hk I (.head _) _ st.1, st.2.at fun o e => hk a (.tail _ (.head _)) o e⟩
  item := fun i s Q E hi st hq => by
    have hlen : (pickOrder (w.params.setOrder a ep) es).size = es.size := by rw [← Array.length_toList, (pickOrder_perm _ _).length_eq, Array.length_toList]
    have he : (pickOrder (w.params.setOrder a ep) es)[i]? = some (pickOrder (w.params.setOrder a ep) es)[i] := Array.getElem?_eq_getElem (by (clear hq st haI hf hbt hh; lia))
    refine si_item_T hbt st.1 st.2 hf he fun h' hI' hs => hq _ h' s.toks ⟨_, by rw [Array.getElem?_toList]; exact he, rfl⟩ ⟨hI', st.2.at fun o x => hs.extBut a o haI x⟩ fun b o hb x => hs.extBut b o (fun h => hb (List.mem_singleton.mpr h)) x
  done := fun s Q E st hq => by
    have hlen : (pickOrder (w.params.setOrder a ep) es).size = es.size := by rw [← Array.length_toList, (pickOrder_perm _ _).length_eq, Array.length_toList]
    exact si_done_T hh hbt st.1 st.2 hf (Array.getElem?_eq_none (Nat.le_of_eq hlen)) fun h' hk => hq h' s.toks fun b o hb x => hk b o (fun h => hb (List.mem_singleton.mpr h)) x
  self := fun i s Q E st hq => si_self st.1 hq
theorem walks_1 (hh : A.handled = none) (hbt : byText w = false) (hled : t.led = true) (h1 : es.size ≤ 1) (hf : t.fits es.size = true) (haI : a ≠ I) :
    Walks prog w A I [I, a] [I] es.size (RowsOf es.toList) (fun i h => (∃ sl : Nat, IsSI h I (.int sl 0) i a es.size ep ∧ (i = 0 → sl = 0) ∧ (i = es.size → SetTable.below t.place sl = es.size)) ∧ SetAt h a es ep t) where
  sub := fun b hb => by rw [List.mem_singleton.mp hb]; exact .head _
  frame := fun i h h' st hk => by
    obtain ⟨⟨sl, x, y⟩, z⟩ := st
    exact ⟨⟨sl, hk I (.head _) _ x, y⟩, z.at fun o e => hk a (.tail _ (.head _)) o e⟩
  item := fun i s Q E hi st hq => by
    obtain ⟨⟨sl, hI, h0, _⟩, hS⟩ := st
    have hi0 : i = 0 := by (clear h0 hI hS hq haI hf hled hbt hh; lia)
    have hsz : es.size = 1 := by (clear hi0 h0 hI hS hq haI hf hled hbt hh; lia)
    subst hi0
    obtain rfl := h0 rfl
    refine si_item_1 hbt hled hsz hI hS hf (Array.getElem?_eq_getElem (by omega)) fun sl h' hb hI' hs => hq _ h' s.toks ⟨_, by rw [Array.getElem?_toList]; exact Array.getElem?_eq_getElem (by omega), rfl⟩ ⟨⟨sl, hI', (fun h => by (clear hs hI' hb h0 hI hq hi hsz hS haI hf h1 hled hbt hh; omega)), fun _ => by rw [hb, hsz]⟩, hS.at fun o x => hs.extBut a o haI x⟩ fun b o hb x => hs.extBut b o (fun h => hb (List.mem_singleton.mpr h)) x
  done := fun s Q E st hq => by
    obtain ⟨⟨sl, hI, _, hb⟩, hS⟩ := st
    exact si_done_1 hh hbt hled h1 hI hS hf (hb rfl) fun h' hk => hq h' s.toks fun b o hb x => hk b o (fun h => hb (List.mem_singleton.mpr h)) x
  self := fun i s Q E st hq => by
    obtain ⟨⟨sl, hI, _⟩, _⟩ := st
    exact si_self hI hq

theorem rows_good {L : List (Int × Value)} {ss : List Str} (hin : SetIn w es t ss) (hL : L.Perm es.toList) {acc : Array Value} (h : ItemsOf (RowsOf L) acc es.size) : ∃ l, StrsAre acc.toList l ∧ l.Perm ss := by
  have hlen : acc.toList.length = L.length := by rw [Array.length_toList, h.1, hL.length_eq, Array.length_toList]
  have e : acc.toList = L.map (·.2) := by
    refine List.ext_getElem? fun i => ?_
    rw [List.getElem?_map]
    cases hv : acc.toList[i]? with
    | none =>
      have : L.length ≤ i := by rw [← hlen]; exact List.getElem?_eq_none_iff.mp hv
      rw [List.getElem?_eq_none this]; rfl
    | some v =>
      obtain ⟨e, he, rfl⟩ := h.2 i v (by rw [← Array.getElem?_toList]; exact hv)
      rw [he]; rfl
  have hs : ∀ M : List (Int × Value), (∀ e ∈ M, ∃ x k, e = (hashStr w x, Value.str x k)) → StrsAre (M.map (·.2)) (M.map fun e => unS e.2) := by
    intro M
    induction M with
    | nil => intro _; exact .nil
    | cons p r ih =>
      intro hM
      obtain ⟨x, k, rfl⟩ := hM p (.head _)
      exact .cons _ _ (ih fun e he => hM e (.tail _ he))
  refine ⟨L.map fun e => unS e.2, by rw [e]; exact hs L fun p hp => hin.txts p (hL.mem_iff.mp hp), (hL.map _).trans hin.perm⟩

theorem hint_set {r : Addr} {Q : Bool → Shared → Prop} (hT : s.TypeIs (.ref r) "set") (h : Q false s) : wpAny (model prog w) A (Builtin.List.listLengthHint (.ref r)) Q E s := by
  unfold Builtin.List.listLengthHint
  refine wpAny_bind (wpAny_specialOf hT PySem.F.slot_set_len.lookup ?_)
  generalize hid : ("set.__len__" : String) = id0
  wp_delta
  rw [show splitId id0 = some ("set", "__len__") from by subst hid; decide +kernel]
  subst hid
  refine wpAny_bind (wpAny_isInstance (T := "set") (b := true) hT (by rw [isSubtype_type]; kernel_rfl) ?_)
  refine wpAny_ite_split (fun hab => absurd hab (by decide)) (fun _ => ?_)
  refine wpAny_ite_split (fun _ => ?_) (fun hab => absurd (by decide +kernel) hab)
  exact wpAny_bind (wpAny_typeOf hT (wpAny_pure h))
end

section
variable {prog : Program} {w : World} {a : Addr} {ss : List Str}
theorem src_set : Src prog w "set" a ss.length (fun vs => ∃ l, StrsAre vs l ∧ l.Perm ss) (fun h => SetS w h a ss) where
  type := fun s ⟨o, es, ep, t, ho, hx, _⟩ => ⟨o, ho, hx.1⟩
  keep := fun _ _ hm hk => hm.at hk
  notList := by decide
  notTuple := by decide
  hint := fun _ _ s _ ⟨o, es, ep, t, ho, hx, _⟩ hq => hint_set ⟨o, ho, hx.1⟩ hq
  iter := fun A E s Q hh ⟨o, es, ep, t, ho, hx, hd, hin⟩ hq => by
    have hS : SetAt s.heap a es ep t := ⟨o, ho, hx, hd⟩
    have hlt : a < s.heap.objs.size := Heap.lt_size ho
    have hsz : es.size = ss.length := by rw [← hin.perm.length_eq, List.length_map, Array.length_toList]
    refine wpAny_pyIter_slot hS.typeIs PySem.F.slot_set_iter (wpAny_call_entry PySem.F.slot_set_iter hS.typeIs entry_set_iter ?_ (PySem.F.args_set_iter_1 _))
    unfold Builtin.«frozenset.__iter__» Builtin.Frozenset.slot0 slotArgs
    simp only [List.isEmpty_nil, Bool.not_true, Bool.false_eq_true, ↓reduceIte, bind_assoc, List.length_nil, bne_self_eq_false]
    unfold Builtin.Frozenset.addrOf Builtin.Frozenset.sizeOf
    refine wpAny_bind (wpAny_pure ?_)
    try dsimp only
    refine wpAny_bind (wpAny_pure ?_)
    refine wpAny_bind (wpAny_bind (wpAny_setEntries_of ho hd hin.fits (wpAny_pure ?_)))
    rw [setDrawn_eq]
    refine wpAny_bind (wpAny_bind (wp_state hS hin.fits (wpAny_bind (wpAny_byText (wpAny_pure ?_)))))
    rw [← hsz] at hq
    have push : ∀ (h : Heap) (ob : Obj) (b : Addr) (o : Obj), h.get? b = some o → (h.push ob).get? b = some o := fun h ob b o e => Heap.get?_push_of_some _ e
    cases hbt : byText w with
    | true =>
      simp only [Bool.not_true, Bool.false_and, Bool.false_eq_true, if_false]
      refine wpAny_bind (wpAny_pure (wpAny_bind (wpAny_setEpoch_of ho hd hin.fits ?_)))
      simp only [newFields]
      refine wpAny_bind (wpAny_newObj_type (wpAny_pure ⟨_, rfl, "set_iterator", _, ⟨_, Heap.get?_push_size _ rfl, rfl⟩, slot_si_next.lookup, ?_⟩))
      refine hq _ _ [s.heap.objs.size, a] _ _ (push _ _) rfl rfl (fun b hb => ?_) (get?_size _) (walks_T (ep := ep) hh hbt hin.fits (Nat.ne_of_lt hlt)) ⟨Heap.get?_push_size _ rfl, hS.at fun o e => push _ _ a o e⟩ (fun acc h => rows_good hin (pickOrder_perm _ _) h)
      rcases List.mem_cons.mp hb with rfl | hb
      · exact .inr (get?_size _)
      · exact .inl (List.mem_singleton.mp hb)
    | false =>
      by_cases h1 : es.size > 1
      · have hpl : t.plain = false := hin.plain.resolve_left (by (clear hbt push hsz hlt hS hin hd hx ho hq hh; lia))
        have hc : (!false && (!t.plain && decide (es.size > 1))) = true := by rw [hpl, decide_eq_true h1]; rfl
        rw [if_pos hc]
        refine wpAny_bind (wpAny_drawOrder es.size _ s (by simp) fun ps d hps => ?_)
        have hpl : ps.length = es.size := by rw [hps.length_eq, List.length_range]
        refine wpAny_bind (wpAny_newTuple ?_ (by rw [List.length_map, hpl]; exact fits_of_scanBound hin.small))
        have hS₁ : SetAt (s.heap.push { cls := .type "tuple", data := .seq (ps.map fun (i : Nat) => rawInt i).toArray }) a es ep t := hS.at fun o e => push _ _ a o e
        obtain ⟨o₁, ho₁, _, hd₁⟩ := id hS₁
        refine wpAny_bind (wpAny_setEpoch_of (s := { s with heap := s.heap.push { cls := .type "tuple", data := .seq (ps.map fun (i : Nat) => rawInt i).toArray }, drawn := d }) ho₁ hd₁ hin.fits ?_)
        simp only [newFields]
        refine wpAny_bind (wpAny_newObj_type (wpAny_pure ⟨_, rfl, "set_iterator", _, ⟨_, Heap.get?_push_size _ rfl, rfl⟩, slot_si_next.lookup, ?_⟩))
        have hmem : ∀ p ∈ ps, p < es.size := fun p hp => List.mem_range.mp (hps.mem_iff.mp hp)
        have hz : (s.heap.push { cls := .type "tuple", data := .seq (ps.map fun (i : Nat) => rawInt i).toArray }).objs.size = s.heap.objs.size + 1 := Heap.size_push ..
        refine hq _ _ [(s.heap.push { cls := .type "tuple", data := .seq (ps.map fun (i : Nat) => rawInt i).toArray }).objs.size, a, s.heap.objs.size] (RowsOf (ps.map fun p => es.toList.getD p (0, .none))) _ (fun b o e => push _ _ b o (push _ _ b o e)) rfl rfl (fun b hb => ?_) (by rw [hz]; exact get?_of_ge (Nat.le_succ _)) (walks_D (ep := ep) (T := s.heap.objs.size) (ps := ps) hh hin.fits (by rw [List.length_map, hpl]) hpl (fun i p hp => ?_) (by rw [hz]; exact Nat.ne_of_lt (Nat.lt_succ_of_lt hlt)) (by rw [hz]; exact Nat.ne_of_lt (Nat.lt_succ_self _))) ⟨Heap.get?_push_size _ rfl, hS₁.at fun o e => push _ _ a o e, push _ _ _ _ (Heap.get?_push_size _ rfl)⟩ (fun acc h => rows_good hin ?_ h)
        · rcases List.mem_cons.mp hb with rfl | hb
          · exact .inr (by rw [hz]; exact get?_of_ge (Nat.le_succ _))
          · rcases List.mem_cons.mp hb with rfl | hb
            · exact .inl rfl
            · rw [List.mem_singleton.mp hb]; exact .inr (get?_size _)
        · have hlt' := hmem p (List.mem_of_getElem? hp)
          refine ⟨es[p], ?_, Array.getElem?_eq_getElem hlt'⟩
          rw [List.getElem?_map, hp, Option.map_some, List.getD_eq_getElem?_getD, Array.getElem?_toList, Array.getElem?_eq_getElem hlt']; rfl
        · refine (hps.map _).trans (List.Perm.of_eq ?_)
          refine List.ext_getElem? fun i => ?_
          rw [List.getElem?_map]
          by_cases hi : i < es.size
          · rw [List.getElem?_range hi, Option.map_some, List.getD_eq_getElem?_getD, Array.getElem?_toList, Array.getElem?_eq_getElem hi]; rfl
          · rw [List.getElem?_eq_none (by simpa using hi), List.getElem?_eq_none (by simpa using hi)]; rfl
      · have hc : (!false && (!t.plain && decide (es.size > 1))) = false := by rw [decide_eq_false h1]; simp
        rw [if_neg (by rw [hc]; exact Bool.false_ne_true)]
        refine wpAny_bind (wpAny_pure (wpAny_bind (wpAny_setEpoch_of ho hd hin.fits ?_)))
        simp only [newFields]
        refine wpAny_bind (wpAny_newObj_type (wpAny_pure ⟨_, rfl, "set_iterator", _, ⟨_, Heap.get?_push_size _ rfl, rfl⟩, slot_si_next.lookup, ?_⟩))
        have hled : t.led = true := by rw [hin.led, hbt]; rfl
        refine hq _ _ [s.heap.objs.size, a] _ _ (push _ _) rfl rfl (fun b hb => ?_) (get?_size _) (walks_1 (ep := ep) hh hbt hled (by (clear hled hc hbt push hsz hlt hS hin hd hx ho hq hh; lia)) hin.fits (Nat.ne_of_lt hlt)) ⟨⟨0, Heap.get?_push_size _ rfl, (fun _ => rfl), fun h => ?_⟩, hS.at fun o e => push _ _ a o e⟩ (fun acc h => rows_good hin (.refl _) h)
        · rcases List.mem_cons.mp hb with rfl | hb
          · exact .inr (get?_size _)
          · exact .inl (List.mem_singleton.mp hb)
        · have : t.place.size = 0 := by
            have := hin.fits
            unfold SetTable.fits at this
            simp only [Bool.and_eq_true, beq_iff_eq] at this
            rw [this.1]; exact h.symm
          rw [Array.eq_empty_of_size_eq_zero this, ← h]; simp [SetTable.below, SetTable.below.go]
end
end Mine

set_option autoImplicit false
set_option linter.unusedVariables false
set_option maxRecDepth 100000
namespace Mine
open PySem PySem.W PySem.Calls PyProof.Rows

section
variable {prog : Program} {w : World} {A : Around} {E : Value → Shared → Prop} {s : Shared}

/-- the object that set() makes -/
def newSetObj (w : World) : Obj := { cls := .type "set", dict := none, data := .set #[] 0 (.fresh 0 0 (!byText w)) }
theorem newSet_S {h : Heap} {a : Addr} (e : h.get? a = some (newSetObj w)) : SetS w h a [] :=
  ⟨_, #[], 0, _, e, ⟨rfl, rfl, rfl⟩, rfl, fun e he => by simp at he, .refl _, by decide, by rfl, rfl, .inl rfl⟩
theorem code_set_new (a : Value) {Q₁ : Value → Shared → Prop} (h : Q₁ (.ref s.heap.objs.size) { s with heap := s.heap.push (newSetObj w) }) :
    codeAny (model prog w) A (.call (.builtin "set.__new__") ⟨[.type "set", a], []⟩) (wants Q₁ E) s := by
  refine codeAny_of_tree ?_
  show wpAny _ A.in1 (do checkBuiltinCall "set.__new__" ⟨[.type "set", a], []⟩; again (.builtin "set.__new__" ⟨[.type "set", a], []⟩)) _ _ s
  refine wpAny_bind (wpAny_of_eq (PySem.F.newCall_set_1 a) (wpAny_pure ⟨plainId_quiet PySem.F.plain_set_new _, codeAny_builtin PySem.F.entry_set_new ?_⟩))
  rw [Around.under_plainId PySem.F.plain_set_new _]
  unfold Builtin.«set.__new__» Builtin.Frozenset.newClass
  have hsub := sub_set_self
  obtain ⟨hp, g, d, tk, os⟩ := s
  dsimp only
  wp_walk
  refine wpAny_askSetting (wpAny_pure ?_)
  dsimp only
  simp only [newObj]
  refine wpAny_bind (wpAny_alloc (wpAny_pure ?_))
  exact wpAny_pure h

set_option maxHeartbeats 3200000 in
/-- set(a list of texts) -/
theorem call_set_strs {l : Addr} {items : Array Value} {ts : List Str} {Q : Value → Shared → Prop}
    (hh : A.handled = none) (hl : s.heap.IsList l items) (hi : ∀ (i : Nat) (v : Value), items[i]? = some v → ∃ t, v = .str (ts.getD i ⟨#[]⟩) t) (hb : items.size + 1 < scanBound)
    (h : ∀ (h' : Heap) (tk : Nat), SetS w h' s.heap.objs.size (firstS (fun i => ts.getD i ⟨#[]⟩) items.size) →
      (∀ b o, b < s.heap.objs.size → s.heap.get? b = some o → h'.get? b = some o) → Q (.ref s.heap.objs.size) { s with heap := h', toks := tk }) :
    wpAny (model prog w) A (call (.type "set") [.ref l]) Q E s := by
  obtain ⟨c, tl, hmro⟩ := PySem.F.called_set.mro
  have hmade := PySem.F.called_set.made
  have hsub := PySem.F.called_set.sub
  refine wpAny_call (codeAny_of_tree ?_)
  show wpAny _ _ (callAny (.type "set") _) _ _ _
  refine wpAny_pure ⟨Code.quiet_builtin _ (by decide +kernel), codeAny_builtin PySem.F.entry_type_call ?_⟩
  rw [Around.under_plain (weight_type_call_type "set" [.ref l] []) rfl]
  have h1 := PySem.F.called_set.notType
  have h2 := PySem.F.called_set.canCreate
  have hct := PySem.F.typeCall_set_1 (.ref l)
  repeat (any_goals (first | assumption | wp_step))
  refine codeAny_mono (code_set_new (.ref l) (E := E) (Q₁ := fun obj s₁ => obj = .ref s.heap.objs.size ∧ s₁ = { s with heap := s.heap.push (newSetObj w) }) ⟨rfl, rfl⟩) fun r s₁ hr => ?_
  cases r with
  | error e => exact hr
  | ok fl =>
    cases fl with
    | ret obj =>
      obtain ⟨rfl, rfl⟩ := hr
      have hS : (s.heap.push (newSetObj w)).get? s.heap.objs.size = some (newSetObj w) := Heap.get?_push_size _ rfl
      have hT : Shared.TypeIs { s with heap := s.heap.push (newSetObj w) } (.ref s.heap.objs.size) "set" := ⟨_, hS, rfl⟩
      have hli := PySem.F.called_set.init.lookup
      have hbi := PySem.F.called_set.init.bind (.ref s.heap.objs.size)
      repeat (any_goals (first | assumption | wp_step))
      refine codeAny_mono (codeAny_call_builtin (R := wants (fun r s₂ => r = .none ∧ ∃ h' tk, s₂ = { s with heap := h', toks := tk } ∧ SetS w h' s.heap.objs.size (firstS (fun i => ts.getD i ⟨#[]⟩) items.size) ∧
          (∀ b o, b < s.heap.objs.size → s.heap.get? b = some o → h'.get? b = some o)) E) PySem.F.called_set.init.plain PySem.F.entry_set_init (check_set_init_1 hT ?_)) fun r₂ s₂ hr₂ => ?_
      · obtain ⟨ol, hol, hcl, nl, hdl⟩ := hl
        obtain ⟨ocls, odict, odata, oslots⟩ := ol
        simp only at hcl hdl
        subst hcl; subst hdl
        have hol' : (s.heap.push (newSetObj w)).get? l = some { cls := .type "list", dict := odict, data := .seq items nl, slots := oslots } := Heap.get?_push_of_some _ hol
        have hsls := PySem.F.sub_list_set
        have hslf := PySem.F.sub_list_frozenset
        have hne : (Value.type "list" == Value.type "dict") = false := by decide
        have hl1 : (s.heap.push (newSetObj w)).IsList l items := ⟨_, hol', rfl, nl, rfl⟩
        unfold newSetObj at hol' hS hl1 hT ⊢
        unfold Builtin.«set.__init__» noKeywords Builtin.Frozenset.updateFrom
        generalize hPI : pyIter = PI
        wp_walk
        subst hPI
        refine wpAny_pyIter_list hl1 ?_
        refine wpAny_bind (wpAny_runValue ?_)
        have hlS : l < s.heap.objs.size := Heap.lt_size hol
        have hh3 : A.in1.in1.in1.handled = none := by simp [hh]
        have hz : (s.heap.push { cls := .type "set", dict := none, data := .set #[] 0 (.fresh 0 0 (!byText w)) }).objs.size = s.heap.objs.size + 1 := Heap.size_push ..
        have hneI : l ≠ (s.heap.push { cls := .type "set", dict := none, data := .set #[] 0 (.fresh 0 0 (!byText w)) }).objs.size := by
          rw [hz]; exact Nat.ne_of_lt (Nat.lt_succ_of_lt hlS)
        have hSf : s.heap.objs.size ∉ [(s.heap.push { cls := .type "set", dict := none, data := .set #[] 0 (.fresh 0 0 (!byText w)) }).objs.size, l] := by
          rw [hz]; simp only [List.mem_cons, List.mem_singleton, List.not_mem_nil, or_false, not_or]
          exact ⟨Nat.ne_of_lt (Nat.lt_succ_self _), Nat.ne_of_gt hlS⟩
        refine set_update_S ((Walks.list hh3 _ l hneI items).toS) s.heap.objs.size hSf (fun i => ts.getD i ⟨#[]⟩) hi hb (items.size - 0) 0 _ (by (clear hSf hneI hz hh3 hlS hl1 hne hslf hsls hol' hol hbi hli hT hS hct h2 h1 hsub hmade hmro h hb hi hh; lia)) (Nat.zero_le _)
          ⟨⟨_, Heap.get?_push_size _ rfl, rfl, rfl⟩, (hl1.push _)⟩ (newSet_S (Heap.get?_push_of_some _ hS)) fun s' hm hS' => ?_
        obtain ⟨h', g', d', tk', os'⟩ := s'
        have eg : g' = s.gens := hm.gens
        have ed : d' = s.drawn := hm.drawn
        have eo : os' = s.os := hm.os
        subst eg; subst ed; subst eo
        show wpAny _ _ _ _ _ _
        refine wpAny_pure ?_
        show wpAny _ _ (ret Value.none) _ _ _
        refine wpAny_pure ⟨rfl, h', tk', rfl, hS', fun b o hb e => ?_⟩
        have hb1 : b ≠ s.heap.objs.size := Nat.ne_of_lt hb
        have hb2 : b ≠ (s.heap.push { cls := .type "set", dict := none, data := .set #[] 0 (.fresh 0 0 (!byText w)) }).objs.size := by
          rw [hz]; exact Nat.ne_of_lt (Nat.lt_succ_of_lt hb)
        exact hm.heap b o (by simp only [List.mem_cons, List.mem_singleton, List.not_mem_nil, or_false, not_or]; exact ⟨hb1, hb2⟩) (Heap.get?_push_of_some _ (Heap.get?_push_of_some _ e))
      · cases r₂ with
        | error e => exact hr₂
        | ok fl₂ =>
          cases fl₂ with
          | ret r =>
            obtain ⟨rfl, h', tk, rfl, hS', hk'⟩ := hr₂
            repeat (any_goals (first | assumption | wp_step))
            exact h _ _ hS' hk'
          | _ => exact hr₂.elim
    | _ => exact hr.elim
end

section
variable {prog : Program} {w : World} {B : Shared} {φ φ' : List Addr} {σ σ' : List AObj} {s s' : Shared} {A : Around} {X : XT} {Q : V → List AObj → Prop}
/-- the texts of a list, each once -/
def onceS (texts : List Str) : List Str := texts.foldl addS []
theorem firstS_once (texts : List Str) : firstS (fun i => texts.getD i ⟨#[]⟩) texts.length = onceS texts := by
  unfold firstS onceS
  congr 1
  refine List.ext_getElem? fun i => ?_
  rw [List.getElem?_map]
  by_cases hi : i < texts.length
  · rw [List.getElem?_range hi, Option.map_some, List.getD_eq_getElem?_getD, List.getElem?_eq_getElem hi]; rfl
  · rw [List.getElem?_eq_none (by simpa using hi), List.getElem?_eq_none (by simpa using hi)]; rfl
theorem C_set_list {k : Nat} {texts : List Str} (hh : A.handled = none) (hσ : σ[k]? = some (.list (texts.map V.str))) (hn : texts.length + 1 < scanBound) (q : Q (.ref σ.length) (σ ++ [.set (onceS texts)])) : WC prog w B A (.type "set") [.ref k] σ Q X := fun φ s vs G FR hv => by
  obtain ⟨v, rfl, hx⟩ := hv.one
  obtain ⟨a, rfl, ha⟩ := hx.of_ref
  obtain ⟨a', ha', vs, n, ho, hvs⟩ := G.get hσ
  rw [ha] at ha'; cases ha'
  have hlen : vs.size = texts.length := by simpa using hvs.length
  refine call_set_strs (l := a) (items := vs) (ts := texts) hh ⟨_, ho, rfl, n, rfl⟩ (fun i v hv => ?_) (by rw [hlen]; exact hn) fun h' tk hS hk => ?_
  · have hi : i < texts.length := by rw [← hlen]; exact (Array.getElem?_eq_some_iff.mp hv).1
    obtain ⟨u, h1, h2⟩ := hvs.get (i := i) (x := .str texts[i]) (by rw [List.getElem?_map, List.getElem?_eq_getElem hi]; rfl)
    rw [Array.getElem?_toList, hv] at h1; cases h1
    obtain ⟨t, rfl⟩ := h2.of_str
    exact ⟨t, by rw [List.getD_eq_getElem?_getD, List.getElem?_eq_getElem hi]; rfl⟩
  · rw [hlen, firstS_once] at hS
    have hk' : ∀ b o, s.heap.get? b = some o → h'.get? b = some o := fun b o e => hk b o (Heap.lt_size e) e
    have t₂ : Step [] φ s.heap (φ ++ [s.heap.objs.size]) h' := Step.alloc (s' := { s with heap := h' }) (get?_size _) hk'
    refine ⟨_, _, t₂, G.alloc (s' := { s with heap := h', toks := tk }) (ob := .set (onceS texts)) (get?_size _) hk' hS G.fresh G.sizeNe, .ref σ.length, ?_, q⟩
    rw [Val, ← G.len]
    exact ⟨_, rfl, by simp⟩
theorem C_sorted_set {k : Nat} {ss : List Str} (hh : A.handled = none) (hσ : σ[k]? = some (.set ss)) (hn : ss.length ≤ sortLine) (q : Q (.ref σ.length) (σ ++ [.list ((srt ss).map V.str)])) : WC prog w B A (.builtin "sorted") [.ref k] σ Q X := fun φ s vs G FR hv => by
  obtain ⟨v, rfl, hx⟩ := hv.one
  obtain ⟨a, rfl, ha⟩ := hx.of_ref
  obtain ⟨a', ha', hS⟩ := G.get hσ
  rw [ha] at ha'; cases ha'
  exact sorted_src (src_set (ss := ss)) hh G hS hn rfl (fun vs hg => hg) q
theorem onceS_mem (texts : List Str) (x : Str) : x ∈ onceS texts ↔ x ∈ texts := by
  have key : ∀ (l acc : List Str), x ∈ l.foldl addS acc ↔ x ∈ acc ∨ x ∈ l := by
    intro l
    induction l with
    | nil => intro acc; simp
    | cons y r ih =>
      intro acc
      rw [List.foldl_cons, ih, List.mem_cons]
      unfold addS
      split
      · rename_i hy
        constructor
        · rintro (h | h)
          · exact .inl h
          · exact .inr (.inr h)
        · rintro (h | rfl | h)
          · exact .inl h
          · exact .inl hy
          · exact .inr h
      · rw [List.mem_append, List.mem_singleton]
        constructor
        · rintro ((h | h) | h)
          · exact .inl h
          · exact .inr (.inl h)
          · exact .inr (.inr h)
        · rintro (h | h | h)
          · exact .inl (.inl h)
          · exact .inl (.inr h)
          · exact .inr h
  have := key texts []
  simpa [onceS] using this
theorem onceS_nodup (texts : List Str) : (onceS texts).Nodup := by
  have key : ∀ (l acc : List Str), acc.Nodup → (l.foldl addS acc).Nodup := by
    intro l
    induction l with
    | nil => intro acc h; exact h
    | cons y r ih =>
      intro acc h
      rw [List.foldl_cons]
      refine ih _ ?_
      unfold addS
      split
      · exact h
      · rename_i hy
        rw [List.nodup_append]
        exact ⟨h, by simp, fun a ha b hb => by rw [List.mem_singleton.mp hb]; exact fun e => hy (e ▸ ha)⟩
  exact key texts [] List.nodup_nil
theorem onceS_len (texts : List Str) : (onceS texts).length ≤ texts.length := by rw [← firstS_once]; exact firstS_len _ _
end
end Mine

set_option autoImplicit false
set_option linter.unusedVariables false
set_option maxRecDepth 100000
namespace Mine
open PySem PySem.W PySem.Calls PyProof.Rows

section
variable {prog : Program} {w : World} {B : Shared} {mg mb : Str → Option Value} {φ φ' : List Addr} {σ σ' : List AObj} {s s' : Shared} {env : Env} {ρ l : List (Str × V)} {A : Around} {X : XT} {Q : V → List AObj → Prop}

theorem preSum_list (l : List Int) : ∀ n, n ≤ l.length → preSum (fun i => l.getD i 0) n = (l.take n).sum
  | 0, _ => rfl
  | n + 1, h => by
    rw [preSum, preSum_list l n (by (exact Nat.le_of_lt (by assumption))), List.take_add_one, List.sum_append, List.getElem?_eq_getElem (by (assumption)), List.getD_eq_getElem?_getD, List.getElem?_eq_getElem (by (assumption))]
    simp
/-- sum(a list of ints) -/
theorem C_sum {k : Nat} {ns : List Int} (hh : A.handled = none) (hσ : σ[k]? = some (.list (ns.map V.int))) (q : Q (.int ns.sum) σ) : WC prog w B A (.builtin "sum") [.ref k] σ Q X := fun φ s vs G FR hv => by
  obtain ⟨v, rfl, hx⟩ := hv.one
  obtain ⟨a, rfl, ha⟩ := hx.of_ref
  obtain ⟨a', ha', vs, n, ho, hvs⟩ := G.get hσ
  rw [ha] at ha'; cases ha'
  have hL : s.heap.IsList a vs := ⟨_, ho, rfl, n, rfl⟩
  have hal : a ≠ s.heap.objs.size := fun e => by rw [e, get?_size] at ho; cases ho
  have hlt : a < s.heap.objs.size := Heap.lt_size ho
  have hsz : vs.size = ns.length := by simpa using hvs.length
  refine call_sum_walkAnyS (wpAny_pyIter_list hL ?_)
  refine ⟨s.heap.objs.size, _, _, _, _, _, _, fun i => ns.getD i 0, rfl, (Walks.list (A := A.in1) (by simp [hh]) s.heap.objs.size a hal vs).toS, ⟨⟨_, Heap.get?_push_size _ rfl, rfl, rfl⟩, hL.push _⟩, fun b hb => ?_, fun i v hP => ?_, fun s' t' hm => ?_⟩
  · show b < (s.heap.push _).objs.size
    rw [Heap.size_push]
    simp only [List.mem_cons, List.not_mem_nil, or_false] at hb
    rcases hb with rfl | rfl
    · exact Nat.lt_succ_self _
    · exact Nat.lt_succ_of_lt hlt
  · have hi : i < ns.length := by rw [← hsz]; exact (Array.getElem?_eq_some_iff.mp hP).1
    obtain ⟨u, h1, h2⟩ := hvs.get (i := i) (x := .int (ns.getD i 0)) (by rw [List.getElem?_map, List.getD_eq_getElem?_getD, List.getElem?_eq_getElem hi]; rfl)
    rw [Array.getElem?_toList, hP] at h1
    cases h1
    exact h2.of_int
  · have hk : ∀ b o, s.heap.get? b = some o → s'.heap.get? b = some o := fun b o e => hm.heap b o (by simp only [List.mem_singleton]; exact Nat.ne_of_lt (Heap.lt_size e)) (Heap.get?_push_of_some _ e)
    refine ⟨φ, σ, .of_keeps hk, G.keeps hk hm.gens hm.os, .int ns.sum, ?_, q⟩
    rw [hsz, preSum_list ns _ (Nat.le_refl _), List.take_length]
    exact .int_ _ _
/-- [e for x in d]: a dict of the call's, the item pure -/
theorem E_compd {elt iter : Expr} {x : Str} {px : Pos} {scope : Scope} {pos : Pos} {k : Nat} {es : List (Key × V)} {e : Option Nat} (l : List (Str × V)) (y : Nat → V) (hl : l.all (fun p => (freeOf scope).contains p.1) = true) (hs : Sub l ρ) (hb : compB env scope x = true) (hc : env.cells.Pairwise fun x y => x.2 ≠ y.2)
    (hh : A.handled = none) (hσ : σ[k]? = some (.dict es e)) (hn : es.length ≤ sizeLine)
    (hi : ∀ ep, WE prog w B A env iter ρ (pin σ k es ep) (fun v σ' => v = .ref k ∧ σ' = pin σ k es ep) X)
    (helt : ∀ ep D i junk, i < es.length → WE prog w B A { compEnvC scope (clOf scope env) 0 env with locals := D } elt ((x, keyAt es i) :: l) (pin σ k es ep ++ junk) (fun v σ₃ => v = y i ∧ σ₃ = pin σ k es ep ++ junk) (fun _ _ _ _ => False))
    (q : Q (.ref σ.length) (σ ++ [.list ((List.range es.length).map y)]))
    (hs' : ∀ v, foldedSetIterable iter env v = pure v := by intro _; with_unfolding_all rfl) :
    WE prog w B A env (.ListComp elt [⟨.Name x px, iter, [], 0⟩] scope pos) ρ σ Q X := fun φ s G L => by
  obtain ⟨ep, hep, G', _⟩ := G.pin hσ
  have hkl : k < σ.length := (List.getElem?_eq_some_iff.mp hσ).1
  have hpl : (pin σ k es ep).length = σ.length := by simp [pin]
  have main : WE prog w B A env (.ListComp elt [⟨.Name x px, iter, [], 0⟩] scope pos) ρ (pin σ k es ep) (fun v σ' => σ'[k]? = some (.dict es (some ep)) ∧ Q v (σ'.set k (.dict es e))) X := by
    refine E_compl l hl hs hb hc ((hi ep).mono fun v σ' hv => ?_) hs'
    obtain ⟨rfl, rfl⟩ := hv
    refine ⟨_, _, _, _, y, It_dict (e := none) hh (pin_at hσ), hn, fun i => up_at (pin_at hσ), fun D i hi' => helt ep D i _ hi', ?_, ?_⟩
    · exact up_at (pin_at hσ)
    · rw [List.set_append_left _ _ (by rw [hpl]; exact hkl), pin_set hσ, hpl]
      exact q
  refine wpAny_mono (main φ s G' L) (fun v s₁ hx => ?_) fun _ _ x => x
  obtain ⟨φ₁, σ₁, t₁, G₁, u, hv, q1, q2⟩ := hx
  exact ⟨φ₁, σ₁.set k (.dict es e), t₁, G₁.unpin q1 hep, u, hv, q2⟩
end
end Mine

set_option autoImplicit false
set_option linter.unusedVariables false
set_option maxRecDepth 100000
namespace Mine
open PySem PySem.W PySem.Calls PyProof.Rows

/-- a plain class: the names of its instances' attributes, its methods -/
def clsB (K : Frag) (C : Addr) (attrs : List Str) (meths : List (Str × Addr)) : Bool :=
  makesIn K C && plainGet K C "" && (findIn K (.ref C) "__setattr__" == some (some (.builtin "object.__setattr__"))) && plainOver K C && hasDictIn K C && keepIn K (.ref C) &&
  attrs.all (fun x => findIn K (.ref C) x == some none) && meths.all (fun p => findIn K (.ref C) p.1 == some (some (.ref p.2)) && isFn K (.ref p.2))
def Cls (B : Shared) (C : Addr) (attrs : List Str) (meths : List (Str × Addr)) : Prop := ∃ K : Frag, K.In B.heap ∧ clsB K C attrs meths = true
structure ClsK (K : Frag) (C : Addr) (attrs : List Str) (meths : List (Str × Addr)) : Prop where
  makes : makesIn K C = true
  get : findIn K (.ref C) "__getattribute__" = some (some (.builtin "object.__getattribute__"))
  hook : findIn K (.ref C) "__getattr__" = some none
  set : findIn K (.ref C) "__setattr__" = some (some (.builtin "object.__setattr__"))
  over : plainOver K C = true
  dict : hasDictIn K C = true
  keep : keepIn K (.ref C) = true
  attr : ∀ x ∈ attrs, findIn K (.ref C) x = some none
  meth : ∀ p ∈ meths, findIn K (.ref C) p.1 = some (some (.ref p.2)) ∧ isFn K (.ref p.2) = true
theorem ClsK.of {K : Frag} {C : Addr} {attrs : List Str} {meths : List (Str × Addr)} (h : clsB K C attrs meths = true) : ClsK K C attrs meths := by
  unfold clsB at h
  simp only [Bool.and_eq_true, beq_iff_eq, List.all_eq_true] at h
  obtain ⟨⟨⟨⟨⟨⟨⟨h1, h2⟩, h3⟩, h4⟩, h5⟩, h6⟩, h7⟩, h8⟩ := h
  exact ⟨h1, (plainGet_of h2).1, (plainGet_of h2).2, h3, h4, h5, h6, h7, fun p hp => ⟨(h8 p hp).1, (h8 p hp).2⟩⟩

theorem lookIn_ns {es : Array DictEntry} {n : Nat} {c : Value} {d : Option Addr} {sl : Array (Option Value)} (hk : StrKeys es) (name : Str) : lookIn name ⟨c, d, .dict es n, sl⟩ = some (nsFind es name) := by
  unfold lookIn nsFind findBy
  dsimp only
  rw [← Array.find?_toList]
  cases h : es.toList.find? (fun e => e.key.isStr name) with
  | some e => rfl
  | none =>
    have : es.toList.any (fun e => e.refKey) = false := by
      rw [List.any_eq_false]
      intro e he
      obtain ⟨m, t, hm⟩ := hk e (Array.mem_toList_iff.mp he)
      simp [DictEntry.refKey, hm]
    rw [this]
    rfl
/-- a value that attributes may hold -/
def VH (v : V) : Prop := ∀ u, v = .raw u → handedIn u = true
theorem VH.str {x : Str} : VH (.str x) := fun _ e => nomatch e
theorem VH.ref {k : Nat} : VH (.ref k) := fun _ e => nomatch e
theorem VH.int {i : Int} : VH (.int i) := fun _ e => nomatch e
theorem VH.handed {φ : List Addr} {h : Heap} : ∀ {v : V} {val : Value}, VH v → Val φ h v val → handedIn val = true
  | .none, _, _, e => by rw [Val] at e; subst e; rfl
  | .bool b, _, _, e => by rw [Val] at e; subst e; rfl
  | .int i, _, _, e => by obtain ⟨t, rfl⟩ := e.of_int; rfl
  | .str x, _, _, e => by obtain ⟨t, rfl⟩ := e.of_str; rfl
  | .tup xs, _, _, e => by obtain ⟨a, vs, rfl, _⟩ := e.of_tup; rfl
  | .ref k, _, _, e => by obtain ⟨a, rfl, _⟩ := e.of_ref; rfl
  | .raw u, _, h, e => by have := e.of_raw; subst this; exact h _ rfl
  | .rng a b c, _, _, e => by rw [Val] at e; obtain ⟨r, t, u, k, rfl, _⟩ := e; rfl

/-- the table with a name set -/
def nsPut : List (Str × V) → Str → V → List (Str × V)
  | [], x, v => [(x, v)]
  | (y, u) :: r, x, v => if x = y then (y, v) :: r else (y, u) :: nsPut r x v
theorem nsPut_lookup (x y : Str) (v : V) : ∀ as : List (Str × V), (nsPut as x v).lookup y = if y = x then some v else as.lookup y
  | [] => by
    unfold nsPut
    by_cases h : y = x
    · subst h; rw [if_pos rfl, List.lookup_cons_self]
    · rw [if_neg h, lookup_cons_ne h]
  | (z, u) :: r => by
    unfold nsPut
    by_cases hz : x = z
    · subst hz
      rw [if_pos rfl]
      by_cases h : y = x
      · subst h; rw [if_pos rfl, List.lookup_cons_self]
      · rw [if_neg h, lookup_cons_ne h, lookup_cons_ne h]
    · rw [if_neg hz]
      by_cases h : y = x
      · subst h; rw [if_pos rfl, lookup_cons_ne hz, nsPut_lookup y y v r, if_pos rfl]
      · by_cases h2 : y = z
        · subst h2; rw [if_neg h, List.lookup_cons_self, List.lookup_cons_self]
        · rw [if_neg h, lookup_cons_ne h2, lookup_cons_ne h2, nsPut_lookup x y v r, if_neg h]
theorem nsPut_len (x : Str) (v : V) : ∀ as : List (Str × V), (nsPut as x v).length = if (as.lookup x).isSome then as.length else as.length + 1
  | [] => by simp [nsPut]
  | (z, u) :: r => by
    unfold nsPut
    by_cases hz : x = z
    · subst hz; simp
    · rw [if_neg hz, List.lookup_cons, List.length_cons, nsPut_len x v r]
      have : (x == z) = false := by simpa using hz
      rw [this]
      split <;> simp
def PutQ (as : List (Str × V)) (x : Str) (v : V) (P : List (Str × V) → Prop) : Prop := P (nsPut as x v)
theorem PQ_nil {x : Str} {v : V} {P : List (Str × V) → Prop} (p : P [(x, v)]) : PutQ [] x v P := p
theorem PQ_here {x : Str} {u v : V} {r : List (Str × V)} {P : List (Str × V) → Prop} (p : P ((x, v) :: r)) : PutQ ((x, u) :: r) x v P := by unfold PutQ nsPut; rw [if_pos rfl]; exact p
theorem PQ_there {x y : Str} {u v : V} {r : List (Str × V)} {P : List (Str × V) → Prop} (h : (x == y) = false) (p : PutQ r x v (fun r' => P ((y, u) :: r'))) : PutQ ((y, u) :: r) x v P := by
  unfold PutQ nsPut; rw [if_neg (by simpa using h)]; exact p

section
variable {prog : Program} {w : World} {B : Shared} {mg mb : Str → Option Value} {φ φ' : List Addr} {σ σ' : List AObj} {s s' : Shared} {env : Env} {ρ l : List (Str × V)} {A : Around} {X : XT} {Q : V → List AObj → Prop}

/-- an instance and its table -/
theorem St.inst {k kn : Nat} {C : Addr} {as : List (Str × V)} {a : Addr} (G : St prog w B φ σ s) (h1 : σ[k]? = some (.inst C kn)) (h2 : σ[kn]? = some (.ns as)) (ha : φ[k]? = some a) :
    ∃ d es n, φ[kn]? = some d ∧ s.heap.get? a = some ⟨.ref C, some d, .plain, #[]⟩ ∧ s.heap.get? d = some ⟨.type "dict", none, .dict es n, #[]⟩ ∧ StrKeys es ∧ es.size ≤ as.length ∧
      (∀ x, match as.lookup x with | some v => ∃ val, nsFind es x = some val ∧ Val φ s.heap v val | none => nsFind es x = none) ∧
      InstAt s.heap a ⟨.ref C, some d, .plain, #[]⟩ C (some ⟨.type "dict", none, .dict es n, #[]⟩) := by
  obtain ⟨a', ha', d, ho, hd⟩ := G.get h1
  rw [ha] at ha'; cases ha'
  obtain ⟨d', hd', es, n, hod, hk, hsz, hl⟩ := G.get h2
  rw [hd] at hd'; cases hd'
  exact ⟨d, es, n, hd, ho, hod, hk, hsz, hl, ho, rfl, rfl, hod⟩

/-! reading an attribute -/
def WA (prog : Program) (w : World) (B : Shared) (A : Around) (x : V) (name : Str) (σ : List AObj) (Q : V → List AObj → Prop) (X : XT) : Prop :=
  ∀ φ s v, St prog w B φ σ s → Val φ s.heap x v → W prog w B A (getAttr v name true) φ s (vQ Q) X
theorem E_attr {o : Expr} {name : Str} {pos : Pos} (h : WE prog w B A env o ρ σ (fun x σ₁ => WA prog w B A x name σ₁ Q X) X)
    (he : eval (.Attribute o name pos) env = (do
      let v ← eval o env
      standAt pos.atName
      let r ← holding [v] (getAttr v name true)
      letTemporaryGo o v r
      pure r) := by with_unfolding_all rfl) : WE prog w B A env (.Attribute o name pos) ρ σ Q X := fun φ s G L =>
  Attribute_any_ ((h φ s G L).useV (.refl ..) fun v s₁ φ₁ σ₁ t₁ _ G₁ x hx h₁ => (h₁ φ₁ s₁ v G₁ hx).last t₁) he
theorem A_inst {k kn : Nat} {C : Addr} {as : List (Str × V)} {name : Str} {attrs : List Str} {meths : List (Str × Addr)} (c : Cls B C attrs meths) (h1 : σ[k]? = some (.inst C kn)) (h2 : σ[kn]? = some (.ns as)) (hn : attrs.contains name = true)
    (q : LookQ as name (fun v => VH v ∧ Q v σ) False) : WA prog w B A (.ref k) name σ Q X := fun φ s v G hv => by
  obtain ⟨a, rfl, ha⟩ := hv.of_ref
  obtain ⟨K, KX, c⟩ := c
  have c := ClsK.of c
  obtain ⟨d, es, n, hd, ho, hod, hk, hsz, hl, I⟩ := G.inst h1 h2 ha
  rcases q with ⟨u, hu, vh, q⟩ | q
  · have hx := hl name
    rw [hu] at hx
    obtain ⟨val, hf, hval⟩ := hx
    refine get_value (KX.keeps G.base) I c.get (findObj_own c.dict (c.attr name (by simpa using hn)) rfl (by rw [lookIn_ns hk, hf])) (vh.handed hval) (Post.tok G ⟨u, hval, q⟩)
  · exact q.elim

/-! setting an attribute -/
def WSA (prog : Program) (w : World) (B : Shared) (A : Around) (x : V) (name : Str) (z : V) (σ : List AObj) (Q : List AObj → Prop) (X : XT) : Prop :=
  ∀ φ s v u, St prog w B φ σ s → Val φ s.heap x v → Val φ s.heap z u → W prog w B A (setAttr v name u) φ s (bQ fun _ σ' => Q σ') X
theorem X_seta {o value : Expr} {name : Str} {p pos : Pos} {rest : List Stmt} {Q : Fl → List (Str × V) → List AObj → Prop}
    (h : WE prog w B A env value ρ σ (fun z σ₁ => WE prog w B A env o ρ σ₁ (fun x σ₂ => WSA prog w B A x name z σ₂ (fun σ₃ => WX prog w B A env rest ρ σ₃ Q X) X) X) X)
    (hs : swapsWith value (some (.Attribute o name p)) pos.line env = pure false := by with_unfolding_all rfl) : WX prog w B A env (.Assign [.Attribute o name p] value pos :: rest) ρ σ Q X := by
  refine X_cons fun φ s G L => ?_
  refine plainObj_wpAny_Assign_Attribute ?_ hs
  refine h.then G L fun vz s₁ φ₁ σ₁ z t₁ G₁ L₁ hz h₁ => ?_
  refine wpAny_mono (h₁ φ₁ s₁ G₁ L₁) (fun vx s₂ ⟨φ₂, σ₂, t₂, G₂, x, hx, h₂⟩ => ?_) fun e s' ⟨φ', σ', t', G', x⟩ => ⟨φ', σ', (t₁.trans0 t').nilD, G', x⟩
  refine wpAny_mono (h₂ φ₂ s₂ vx vz G₂ hx (hz.step G₁ t₂)) (fun _ s₃ ⟨φ₃, σ₃, t₃, G₃, q⟩ => ?_) fun e s' ⟨φ', σ', t', G', x⟩ => ⟨φ', σ', (t₁.trans0 (t₂.trans0 t')).nilD, G', x⟩
  exact ⟨φ₃, σ₃, (t₁.trans0 (t₂.trans0 t₃)).nilD, G₃, .next, ρ, rfl, (L₁.step G₁ t₂).step G₂ t₃, q⟩
theorem SA_inst {k kn : Nat} {C : Addr} {as : List (Str × V)} {name : Str} {z : V} {attrs : List Str} {meths : List (Str × Addr)} {Q : List AObj → Prop} (c : Cls B C attrs meths) (h1 : σ[k]? = some (.inst C kn)) (h2 : σ[kn]? = some (.ns as)) (hn : attrs.contains name = true) (hlen : as.length ≤ 900)
    (q : PutQ as name z (fun as' => Q (σ.set kn (.ns as')))) : WSA prog w B A (.ref k) name z σ Q X := fun φ s v u G hv hu => by
  obtain ⟨a, rfl, ha⟩ := hv.of_ref
  obtain ⟨K, KX, c⟩ := c
  have c := ClsK.of c
  obtain ⟨d, es, n, hd, ho, hod, hk, hsz, hl, I⟩ := G.inst h1 h2 ha
  have KX' := KX.keeps G.base
  have hat := c.attr name (by simpa using hn)
  obtain ⟨cd, hc, hdict⟩ := any_some c.dict
  refine set_plain KX' I c.set (osa_open (s := { s with toks := s.toks + 1 }) KX' I c.over (r := none) (by unfold takerIn; rw [hat]; rfl) fun b => ?_)
  refine wpAny_bind (wpAny_pure (wpAny_bind (wpAny_bind (wpAny_loadPart ho (wpAny_bind (looks_clsIn (M := model prog w) KX' hc _ _ _ _ (fun _ _ e => e) ?_))))))
  rw [hdict]
  refine wpAny_pure (a := some d) (wpAny_bind (wpAny_pure (wpAny_bind ?_)))
  unfold nsSet
  refine wpAny_bind (wpAny_bind (wpAny_askSetting (wpAny_pure (wpAny_bind (wpAny_mkText (wpAny_bind (wpAny_loadPart hod ?_)))))))
  dsimp only
  have hany : es.any (·.refKey) = false := by
    rw [Array.any_eq_false']; intro e he; obtain ⟨n, t, h⟩ := hk e he; simp [DictEntry.refKey, h]
  rw [aRefKeyMayBeTheName_at, hany, Bool.and_false]
  refine wpAny_updatePart hod ?_
  have key : ∃ es' n', Obj.putName name (PyData.keyHash w.params name) (.str name (s.toks + 1)) u ⟨.type "dict", none, .dict es n, #[]⟩ = ⟨.type "dict", none, .dict es' n', #[]⟩ ∧ StrKeys es' ∧ es'.size ≤ (nsPut as name z).length ∧ es'.size ≤ 901 ∧ ∀ x, nsFind es' x = if x = name then some u else nsFind es x := by
    have hx := hl name
    cases hi : es.findIdx? (·.key.isStr name) with
    | some i =>
      refine ⟨_, _, by simp only [Obj.putName_eq, Obj.putNameByArray, hi]; rfl, hk.modify _ _, ?_, ?_, fun x => findBy_modify (fun n v => v.isStr n) Value.isStr_inj es name x u i hi⟩
      · rw [Array.size_modify, nsPut_len]; split <;> omega
      · rw [Array.size_modify]; (clear hi hx hany hdict hc hat KX' I hl hk hod ho hd c KX hv ha hu G q hn h2 h1; lia)
    | none =>
      refine ⟨_, _, by simp only [Obj.putName_eq, Obj.putNameByArray, hi]; rfl, hk.push _ _ _ _, ?_, ?_, fun x => findBy_push (fun n v => v.isStr n) es name x _ _ u (fun y => ?_) hi⟩
      · rw [Array.size_push, nsPut_len]
        cases hlk : as.lookup name with
        | some v =>
          rw [hlk] at hx
          obtain ⟨val, hf, _⟩ := hx
          have : nsFind es name = none := by
            unfold nsFind findBy
            have hf' : es.find? (fun e => e.key.isStr name) = none := by
              rw [Array.find?_eq_none]
              intro e he
              have := Array.findIdx?_eq_none_iff.mp hi e he
              simpa using this
            rw [hf']; rfl
          rw [this] at hf; cases hf
        | none => simp; omega
      · rw [Array.size_push]; (clear hi hx hany hdict hc hat KX' I hl hk hod ho hd c KX hv ha hu G q hn h2 h1; lia)
      · show (name == y) = decide (y = name)
        by_cases h : y = name
        · subst h; simp
        · have : ¬ name = y := fun e => h e.symm
          simp [h, this]
  obtain ⟨es', n', e1, e2, e3, e4, e5⟩ := key
  have hD := Heap.get?_update_self (Obj.putName name (PyData.keyHash w.params name) (.str name (s.toks + 1)) u) hod (by rw [e1]; rfl)
  rw [e1] at hD
  refine wpAny_bind (wpAny_lookBehind hD (pastItsLine_dict (by rw [sizeLine_eq]; (exact Nat.le_trans (by assumption) (by decide)))) ?_)
  refine wpAny_pure ?_
  have hsb : Heap.SameBut d s.heap (s.heap.update d (Obj.putName name (PyData.keyHash w.params name) (.str name (s.toks + 1)) u)) := Heap.SameBut.update ..
  have hns : ∀ o, s.heap.get? d = some o → ¬ Still o := fun o e => by rw [hod] at e; cases e; exact notStill_dict rfl
  refine ⟨φ, σ.set kn (.ns (nsPut as name z)), Step.update hsb (List.mem_of_getElem? hd), G.update (s' := { s with heap := _, toks := s.toks + 1 + 1 }) hd hsb ⟨es', n', hD, e2, e3, fun x => ?_⟩, q⟩
  have hm : ∀ a o, s.heap.get? a = some o → Still o → (s.heap.update d (Obj.putName name (PyData.keyHash w.params name) (.str name (s.toks + 1)) u)).get? a = some o := fun a o e hst => hsb.extBut a o (fun h => hns o (h ▸ e) hst) e
  rw [nsPut_lookup]
  by_cases hxn : x = name
  · rw [if_pos hxn]
    exact ⟨u, by rw [e5, if_pos hxn], Val.mono (List.prefix_refl _) hm z hu⟩
  · rw [if_neg hxn, e5, if_neg hxn]
    have hx := hl x
    cases hlk : as.lookup x with
    | some v =>
      rw [hlk] at hx
      obtain ⟨val, hf, hval⟩ := hx
      exact ⟨val, hf, Val.mono (List.prefix_refl _) hm v hval⟩
    | none => rw [hlk] at hx; exact hx
/-! calls of methods of a class -/
def GMv (prog : Program) (w : World) (B : Shared) (A : Around) (x : V) (name : Str) (σ : List AObj) (f : Value) : Prop :=
  ∀ φ s v (pl : Sem Bool) (R : Value × List Value → Shared → Prop) (E : Value → Shared → Prop), St prog w B φ σ s → Val φ s.heap x v → R (f, [v]) s → wpAny (model prog w) A (getMethod v name pl) R E s
theorem GM_inst {k kn : Nat} {C f : Addr} {as : List (Str × V)} {name : Str} {attrs : List Str} {meths : List (Str × Addr)} (c : Cls B C attrs meths) (h1 : σ[k]? = some (.inst C kn)) (h2 : σ[kn]? = some (.ns as)) (hf : meths.lookup name = some f) (hn : as.lookup name = none) :
    GMv prog w B A (.ref k) name σ (.ref f) := fun φ s v pl R E G hv h => by
  obtain ⟨a, rfl, ha⟩ := hv.of_ref
  obtain ⟨K, KX, c⟩ := c
  have c := ClsK.of c
  obtain ⟨d, es, n, hd, ho, hod, hk, hsz, hl, I⟩ := G.inst h1 h2 ha
  obtain ⟨hm1, hm2⟩ := c.meth (name, f) (mem_of_lookup hf)
  refine method_fn (KX.keeps G.base) I c.get c.hook hm1 (beq_iff_eq.mp hm2) ?_ h
  show (lookIn name _).map _ = _
  have hx := hl name
  rw [hn] at hx
  rw [lookIn_ns hk, hx]; rfl
theorem E_mcallv {o : Expr} {name : Str} {apos pos : Pos} {es : List Expr} {pl : Sem Bool}
    (h : WE prog w B A env o ρ σ (fun x σ₁ => ∃ f, GMv prog w B A x name σ₁ f ∧ Keep B f ∧ WEs prog w B A env es ρ σ₁ (fun xs σ₂ => WC prog w B A f (x :: xs) σ₂ Q X) X) X)
    (he : eval (.Call (.Attribute o name apos) es [] pos) env = (do
      let ov ← eval o env
      standAt apos.atName
      let (f, first) ← holding [ov] (getMethod ov name pl)
      callWith pos f first (backTo pos (starEach es env)) []) := by with_unfolding_all rfl)
    (hp : ∀ pos, (backTo pos (starEach es env)).any (·.1) = false := by intro _; with_unfolding_all rfl) :
    WE prog w B A env (.Call (.Attribute o name apos) es [] pos) ρ σ Q X := fun φ s G L => by
  refine MethodCall_ ((h φ s G L).useV (.refl ..) fun v s₁ φ₁ σ₁ t₁ _ G₁ x hx ⟨f, gm, hk, h₁⟩ => ?_) he
  refine gm φ₁ s₁ v pl _ _ G₁ hx ?_
  refine callWith_of (P := fun h => ∀ b o, B.heap.get? b = some o → h.get? b = some o) (by rw [hp pos]; rfl) (fun h hb => hk _ h hb) ?_
  have main := (h₁ pos φ₁ s₁ G₁ (L.step G t₁)).use t₁ (R := fun vs s₂ => (∀ b o, B.heap.get? b = some o → s₂.heap.get? b = some o) ∧ wpAny (model prog w) A (call f ([v] ++ vs)) (Post prog w B [] φ s (vQ Q)) (Post prog w B [] φ s X) s₂) fun vs s₂ φ₂ σ₂ t₂ t G₂ ⟨xs, hxs, h₂⟩ => ⟨G₂.base, (h₂ φ₂ s₂ (v :: vs) G₂ (L.frs.step t) (.cons (hx.step G₁ t₂) hxs)).last t⟩
  exact evalArgs_any (hp pos) main

/-! contracts of methods -/
theorem wt_ref (C : Addr) (rest : List Value) (kw : List (Str × Value)) : (Code.builtin "type.__call__" ⟨.ref C :: rest, kw⟩).weight = 1 := by kernel_rfl
theorem wu_ref (C : Addr) (rest : List Value) (kw : List (Str × Value)) : (Code.builtin "type.__call__" ⟨.ref C :: rest, kw⟩).cUnits ≤ 3 := by
  with_unfolding_all exact Nat.le_of_ble_eq_true rfl
theorem AOk.make {n : Nat} {C : Addr} {rest : List Value} {kw : List (Str × Value)} (h : AOk (n + 1) A) : AOk n (A.under (.builtin "type.__call__" ⟨.ref C :: rest, kw⟩)) := by
  have e1 := wt_ref C rest kw
  have e2 := wu_ref C rest kw
  have h1 := h.depth
  have h2 := h.units
  refine ⟨h.handled, ?_, ?_⟩
  · show A.depth + (Code.builtin "type.__call__" ⟨.ref C :: rest, kw⟩).weight + n ≤ 900
    (clear h2 e2 h; lia)
  · show A.units + (Code.builtin "type.__call__" ⟨.ref C :: rest, kw⟩).cUnits + 10 * n ≤ 9000
    (clear h1 e1 h; lia)
/-- a call, by its code -/
def WK (prog : Program) (w : World) (B : Shared) (A : Around) (f : Value) (xs : List V) (σ : List AObj) (Q : V → List AObj → Prop) (X : XT) : Prop :=
  ∀ φ s vs, St prog w B φ σ s → Frs A B φ s.heap → Vals φ s.heap xs vs → codeAny (model prog w) A (.call f ⟨vs, []⟩) (fun r s' => match r with | .ok (.ret v) => Post prog w B [] φ s (vQ Q) v s' | .ok _ => False | .error e => Post prog w B [] φ s X e s') s
theorem WK.wc {f : Value} {xs : List V} (h : WK prog w B A f xs σ Q X) : WC prog w B A f xs σ Q X := fun φ s vs G FR hv => wpAny_call (h φ s vs G FR hv)
theorem Post.clean {a : Value} (G : St prog w B φ σ s) (h : Post prog w B [] φ s (vQ (Clean σ Q)) a s') : Post prog w B [] φ s (vQ Q) a s' := by
  obtain ⟨φ', σ', t, G', x, hx, c⟩ := h
  cases c with
  | all q => exact ⟨φ', σ', t, G', x, hx, q⟩
  | none hl q =>
    exact ⟨φ, σ, ⟨List.prefix_refl _, fun _ h => .inl h, t.keep⟩, G'.trunc t.pre G.len G.closed, x, Val.cut t.pre x (G.len ▸ hl) hx, q⟩
  | @one j1 j2 ob k hk hl q =>
    obtain ⟨c, hc, hcφ, G''⟩ := G'.pick t.pre G.len G.closed hl
    have hcm : c ∈ φ' := List.mem_of_getElem? hc
    refine ⟨φ ++ [c], σ ++ [ob], ⟨List.prefix_append _ _, fun a ha => (List.mem_append.mp ha).imp id fun h => ?_, t.keep⟩, G'', .ref σ.length, ?_, q⟩
    · obtain rfl := List.mem_singleton.mp h
      exact (t.fresh a hcm).resolve_left hcφ
    · rw [Val] at hx ⊢
      obtain ⟨a, rfl, ha⟩ := hx
      rw [hk, hc] at ha; cases ha
      exact ⟨c, rfl, by rw [← G.len]; simp⟩
theorem WK.clean {f : Value} {xs : List V} (h : WK prog w B A f xs σ (Clean σ Q) X) : WK prog w B A f xs σ Q X := fun φ s vs G FR hv =>
  codeAny_mono (h φ s vs G FR hv) fun r s' hr => by
    match r, hr with
    | .ok (.ret v), hr => exact Post.clean G hr
    | .error e, hr => exact hr
def CM (prog : Program) (w : World) (B : Shared) (f : Addr) (n : Nat) (P : List V → List AObj → (V → List AObj → Prop) → XT → Prop) : Prop :=
  Keep B (.ref f) ∧ ∀ A xs σ Q X, AOk n A → P xs σ Q X → WK prog w B A (.ref f) xs σ Q X
/-- a method's function -/
def HasM (B : Shared) (f : Addr) (d : DefRec) : Prop :=
  ∃ o pm code doc q, B.heap.get? f = some o ∧ o.data = .func { docDef d.name d.params d.body d.scope pm code doc with qualname := q } ∧ B.heap.CodeRec code q
structure GoodM (d : DefRec) (names : List Str) : Prop where
  bind : ∀ (q : Str) (pm code doc : Value) (vals : List Value), vals.length = names.length → bindArgs { docDef d.name d.params d.body d.scope pm code doc with qualname := q } ⟨vals, []⟩ = pure (names.zip vals)
  kinds : ∀ n ∈ names, d.scope.names.lookup n = some .local ∨ d.scope.names.lookup n = some .cell
  nodup : names.Nodup
  cnodup : (d.scope.names.map (·.1)).Nodup
  co : d.scope.isCoroutine = false
  gen : d.scope.isGenerator = false
  kind : d.scope.kind = .function
theorem CM_of {f : Addr} {d : DefRec} {names : List Str} {n : Nat} {P : List V → List AObj → (V → List AObj → Prop) → XT → Prop} (gl : Gl B mg mb) (H : HasM B f d) (g : GoodM d names)
    (h : ∀ A pm code doc q L a xs σ Q X, AOk n A → P xs σ Q X → xs.length = names.length ∧ WX prog w B A (callEnvC { docDef d.name d.params d.body d.scope pm code doc with qualname := q } L a) d.body (names.zip xs) σ (retQ σ Q) (fun _ _ _ _ => False)) :
    CM prog w B f (n + 1) P := by
  obtain ⟨o, pm, code, doc, q, h2, h3, h4⟩ := H
  have F : Fn B f names { docDef d.name d.params d.body d.scope pm code doc with qualname := q } d.body := ⟨⟨o, h2, h3⟩, gl.lim, h4, rfl, rfl, rfl, rfl, g.bind q pm code doc, g.kinds, g.nodup, g.cnodup, g.co, g.gen, g.kind⟩
  refine ⟨Keep.fn F, fun A xs σ Q X hA hP => WK.clean (C_fn_code F ?_ hA.room fun L => ?_)⟩
  · exact (h A pm code doc q 0 f xs σ Q X (hA.le (Nat.le_succ n)) hP).1
  · exact (h _ pm code doc q L f xs σ Q X hA.deeper hP).2
/-- a method called -/
theorem C_cm {f : Addr} {n : Nat} {xs : List V} {P : List V → List AObj → (V → List AObj → Prop) → XT → Prop} (C : CM prog w B f n P) (hA : AOk n A) (h : P xs σ Q X) : WC prog w B A (.ref f) xs σ Q X := (C.2 A xs σ Q X hA h).wc
theorem Frs.under {h : Heap} {id : String} {args : Args} (f : Frs A B φ h) : Frs (A.under (.builtin id args)) B φ h := by
  obtain ⟨l, hl, hf⟩ := f
  exact ⟨l, hl, hf⟩
/-- an instance made -/
theorem CF_make {x : Str} {C f : Addr} {attrs : List Str} {meths : List (Str × Addr)} {n : Nat} {P : List V → List AObj → (V → List AObj → Prop) → XT → Prop} (gl : Gl B mg mb) (c : Cls B C attrs meths) (hx : mg x = some (.ref C)) (hf : meths.lookup ("__init__" : Str) = some f) (I : CM prog w B f n P) :
    CF prog w B mg x (n + 1) (fun xs σ Q X => P (.ref (σ.length + 1) :: xs) (σ ++ [.ns []] ++ [.inst C σ.length]) (fun v σ' => v = .none ∧ Q (.ref (σ.length + 1)) σ') X) := by
  obtain ⟨K, KX, c⟩ := c
  have c := ClsK.of c
  refine ⟨gl.g, .ref C, hx, fun M h hk => ?_, fun A xs σ Q X hA hP => ?_⟩
  · exact keeps_K c.keep h (KX.keeps hk)
  intro φ s vs G FR hv
  obtain ⟨hm1, hm2⟩ := c.meth ("__init__", f) (mem_of_lookup hf)
  refine wpAny_call ?_
  have KX' := KX.keeps G.base
  obtain ⟨hh, g, d, t, os⟩ := s
  refine make_core (makes_of KX' c.makes) (looks_findIn KX' hm1) (fun self => bind_fn KX' self (beq_iff_eq.mp hm2)) (.inl rfl) ?_
  have k1 : ∀ b o, hh.get? b = some o → (hh.push emptyDict).get? b = some o := fun b o e => Heap.get?_push_of_some _ e
  have hz : (hh.push emptyDict).objs.size = hh.objs.size + 1 := Heap.size_push ..
  have G1 : St prog w B (φ ++ [hh.objs.size]) (σ ++ [.ns []]) ⟨hh.push emptyDict, g, d, t, os⟩ :=
    G.alloc (ob := .ns []) (get?_size _) k1 ⟨#[], 0, Heap.get?_push_size _ rfl, fun e he => by simp at he, Nat.le_refl _, fun x => rfl⟩ G.fresh G.sizeNe
  have t1 : Step [] φ hh (φ ++ [hh.objs.size]) (hh.push emptyDict) := Step.alloc (s := ⟨hh, g, d, t, os⟩) (s' := ⟨hh.push emptyDict, g, d, t, os⟩) (get?_size _) k1
  have k2 : ∀ b o, (hh.push emptyDict).get? b = some o → ((hh.push emptyDict).push (instObj C hh.objs.size)).get? b = some o := fun b o e => Heap.get?_push_of_some _ e
  have hidx : (φ ++ [hh.objs.size])[σ.length]? = some hh.objs.size := by rw [← G.len]; simp
  have G2 : St prog w B (φ ++ [hh.objs.size] ++ [(hh.push emptyDict).objs.size]) (σ ++ [.ns []] ++ [.inst C σ.length]) ⟨(hh.push emptyDict).push (instObj C hh.objs.size), g, d, t, os⟩ :=
    G1.alloc (ob := .inst C σ.length) (get?_size _) k2 ⟨hh.objs.size, Heap.get?_push_size _ rfl, idx_mono (List.prefix_append _ _) hidx⟩ G1.fresh G1.sizeNe
  have t2 : Step [] (φ ++ [hh.objs.size]) (hh.push emptyDict) (φ ++ [hh.objs.size] ++ [(hh.push emptyDict).objs.size]) ((hh.push emptyDict).push (instObj C hh.objs.size)) := Step.alloc (s := ⟨hh.push emptyDict, g, d, t, os⟩) (s' := ⟨_, g, d, t, os⟩) (get?_size _) k2
  have hself : Val (φ ++ [hh.objs.size] ++ [(hh.push emptyDict).objs.size]) ((hh.push emptyDict).push (instObj C hh.objs.size)) (.ref (σ.length + 1)) (.ref (hh.objs.size + 1)) := by
    rw [Val]
    refine ⟨_, rfl, ?_⟩
    have hl : σ.length + 1 = (φ ++ [hh.objs.size]).length := by rw [List.length_append, G.len]; rfl
    rw [hl, hz]; simp
  have tt := t1.trans0 t2
  refine codeAny_mono (I.2 _ _ _ _ _ (hA.make) hP _ _ (.ref (hh.objs.size + 1) :: vs) G2 (Frs.under (FR.step tt)) (.cons hself (Vals.mono tt.pre (fun b o e _ => k2 _ _ (k1 _ _ e)) xs hv))) fun r s' hr => ?_
  match r, hr with
  | .ok (.ret v), ⟨φ', σ', t', G', x, hx, hv', q⟩ =>
    subst hv'
    have : v = .none := by rw [Val] at hx; exact hx
    exact ⟨this, φ', σ', tt.trans0 t', G', _, hself.step G2 t', q⟩
  | .error e, ⟨φ', σ', t', G', q⟩ => exact ⟨φ', σ', tt.trans0 t', G', q⟩
end
end Mine

set_option autoImplicit false
set_option linter.unusedVariables false
set_option maxRecDepth 100000
namespace Mine
open PySem PySem.W PySem.Calls PyProof.Rows

section
variable {prog : Program} {w : World} {B : Shared} {mg mb : Str → Option Value} {φ φ' : List Addr} {σ σ' : List AObj} {s s' : Shared} {env : Env} {ρ l : List (Str × V)} {A : Around} {X : XT} {Q : V → List AObj → Prop} {R : Addr → List AObj → Prop}

theorem xQ.mono {R' : Addr → List AObj → Prop} (h : ∀ C τ, R C τ → R' C τ) {e : Value} (x : xQ R e φ σ s) : xQ R' e φ σ s := by
  obtain ⟨C, t, τ, junk, a, h1, h2, h3, h4, h5⟩ := x
  exact ⟨C, t, τ, junk, a, h1, h2, h3, h4, h _ _ h5⟩

end
end Mine

set_option autoImplicit false
set_option linter.unusedVariables false
set_option maxRecDepth 100000
namespace Mine
open PySem PySem.W PySem.Calls PyProof.Rows

section
variable {prog : Program} {w : World} {A : Around} {E : Value → Shared → Prop} {s : Shared} {K : Frag} {x C D : Addr} {ox : Obj}

end
end Mine

set_option autoImplicit false
set_option linter.unusedVariables false
set_option maxRecDepth 100000
namespace Mine
open PySem PySem.W PySem.Calls PyProof.Rows

/-! own exception classes out of the written heap -/
def newB (sl : List (Option Value)) : Bool := match sl with
  | [_, _, _, _, some (.builtin n), _] => n == "ValueError.__new__"
  | _ => false
section
variable {prog : Program} {w : World} {B : Shared} {mg mb : Str → Option Value} {φ φ' : List Addr} {σ σ' : List AObj} {s s' : Shared} {env : Env} {ρ l : List (Str × V)} {A : Around} {X : XT} {Q : V → List AObj → Prop} {R : Addr → List AObj → Prop} {K : Frag} {C D : Addr} {bm bmD : List Value}

/-! except -/
end

section
variable {M : Model} {A : Around} {E : Value → Shared → Prop}
variable {nm q nm' q' : Str} {C N G N' : Addr} {bs bm bs' bm' : List Value} {hdct hdct' : Bool} {sn sn' : List Str} {sub sub' : List Value} {ab ab' : Bool} {col col' : Option Bool} {dd dd' : Option Addr} {k0 k1 k2 k3 k5 j0 j1 j2 j3 j5 : Option Value} {newId newId' : String}
end

section
variable {prog : Program} {w : World} {B : Shared} {mg mb : Str → Option Value} {φ φ' : List Addr} {σ σ' : List AObj} {s s' : Shared} {env : Env} {ρ : List (Str × V)} {A : Around} {X : XT}

end
end Mine

set_option autoImplicit false
set_option linter.unusedVariables false
set_option maxRecDepth 100000
namespace Mine
open PySem PySem.W PySem.Calls PyProof.Rows

section
variable (prog : Program) (w : World) (B : Shared) (mg : Str → Option Value)
end
section
variable {prog : Program} {w : World} {B : Shared} {mg mb : Str → Option Value} {φ φ' : List Addr} {σ σ' : List AObj} {s s' : Shared} {env : Env} {ρ : List (Str × V)} {A : Around} {X : XT} {Q : V → List AObj → Prop}
/-- a method out of the written heap -/
def codeB (K : Frag) (c : Addr) (q : Str) : Bool := match K.lookup c with
  | some ⟨_, _, .fields vs, _⟩ => (match (vs : Array Value)[1]? with | some (Value.str x _) => x == q | _ => false)
  | _ => false
theorem hasM_of {K : Frag} {f c : Addr} {d : DefRec} {pm doc : Value} {q : Str} (X : K.In B.heap) (h : K.lookup f = some ⟨.type "function", none, .func { docDef d.name d.params d.body d.scope pm (.ref c) doc with qualname := q }, #[]⟩) (hc : codeB K c q = true) : HasM B f d := by
  refine ⟨_, pm, .ref c, doc, q, X _ _ h, rfl, ?_⟩
  unfold codeB at hc
  split at hc
  · rename_i ho
    split at hc
    · rename_i h1
      exact ⟨c, _, _, _, rfl, X _ _ ho, rfl, by rw [h1, beq_iff_eq.mp hc]⟩
    · cases hc
  · cases hc
end
end Mine

set_option autoImplicit false
set_option linter.unusedVariables false
set_option maxRecDepth 100000
namespace Mine
open PySem PySem.W PySem.Calls PyProof.Rows
section
variable {prog : Program} {w : World} {B : Shared} {mg mb : Str → Option Value} {φ φ' : List Addr} {σ σ' : List AObj} {s s' : Shared} {env : Env} {ρ l : List (Str × V)} {A : Around} {X : XT} {Q : V → List AObj → Prop}
/-- what a turn of a while leaves -/
def whileJ {ι : Type} (D : Nat → ι → Prop) (n : Nat) (l : ι → List (Str × V)) (f : ι → List AObj) (Q : Fl → List (Str × V) → List AObj → Prop) : Fl → List (Str × V) → List AObj → Prop
  | .next, ρ', σ' => ∃ m g, m < n ∧ D m g ∧ σ' = f g ∧ Sub (l g) ρ'
  | .cont, ρ', σ' => ∃ m g, m < n ∧ D m g ∧ σ' = f g ∧ Sub (l g) ρ'
  | .brk, ρ', σ' => Q .next ρ' σ'
  | .ret x, ρ', σ' => Q (.ret x) ρ' σ'
theorem WJ_next {ι : Type} {D : Nat → ι → Prop} {n : Nat} {l : ι → List (Str × V)} {f : ι → List AObj} {Q : Fl → List (Str × V) → List AObj → Prop} (m : Nat) (g : ι) (hm : m < n) (hD : D m g) (hσ : σ = f g) (hs : Sub (l g) ρ) : whileJ D n l f Q .next ρ σ := ⟨m, g, hm, hD, hσ, hs⟩
/-- while test: body (nothing is raised in it) -/
theorem X_while {ι : Type} (D : Nat → ι → Prop) (l : ι → List (Str × V)) (f : ι → List AObj) (n₀ : Nat) (g₀ : ι) {test : Expr} {body rest : List Stmt} {pos : Pos} {Q : Fl → List (Str × V) → List AObj → Prop}
    (h1 : D n₀ g₀) (h2 : σ = f g₀) (h3 : Sub (l g₀) ρ)
    (turn : ∀ n g, D n g → WT prog w B A env test (l g) (f g) (fun b σ₁ => if b then WX prog w B A env body (l g) σ₁ (whileJ D n l f (seqQ prog w B A env rest Q X)) (fun _ _ _ _ => False) else WX prog w B A env rest (l g) σ₁ Q X) (fun _ _ _ _ => False)) :
    WX prog w B A env (.While test body [] pos :: rest) ρ σ Q X := X_cons fun φ s G L => by
  refine wpAny_While (codeAny_whileLoop (fun n s' => ∃ φ' g ρ', Step (fr env) φ s.heap φ' s'.heap ∧ St prog w B φ' (f g) s' ∧ Loc A B env ρ' φ' s'.heap ∧ D n g ∧ Sub (l g) ρ') ?_ n₀ ⟨φ, g₀, ρ, .refl .., h2 ▸ G, L, h1, h3⟩)
  rintro n s' ⟨φ', g, ρ', tt, G', L', hD, hs⟩
  refine wpAny_mono (turn n g hD φ' s' G' (L'.sub hs)) (fun b s₂ hx => ?_) fun e s₂ hx => ?_
  · obtain ⟨φ₂, σ₂, t₂, G₂, q⟩ := hx
    have L₂ := L'.step G' t₂
    have tt₂ : Step (fr env) φ s.heap φ₂ s₂.heap := tt.transF t₂.nilD L'
    cases b with
    | false => exact wpAny_execs_nil ⟨φ₂, σ₂, tt₂, G₂, .next, ρ', rfl, L₂, X_weak hs q⟩
    | true =>
      refine wpAny_mono (q φ₂ s₂ G₂ (L₂.sub hs)) (fun fl s₃ hx => ?_) fun e s₃ hx => ?_
      · obtain ⟨φ₃, σ₃, t₃, G₃, fl', ρ₃, hf, L₃, q₃⟩ := hx
        have tt₃ : Step (fr env) φ s.heap φ₃ s₃.heap := tt₂.transF t₃ L₂
        cases fl' with
        | next => obtain rfl : fl = .next := hf; obtain ⟨m, g', hm, hD', rfl, hs'⟩ := q₃; exact ⟨m, hm, φ₃, g', ρ₃, tt₃, G₃, L₃, hD', hs'⟩
        | cont => obtain rfl : fl = .cont := hf; obtain ⟨m, g', hm, hD', rfl, hs'⟩ := q₃; exact ⟨m, hm, φ₃, g', ρ₃, tt₃, G₃, L₃, hD', hs'⟩
        | brk => obtain rfl : fl = .brk := hf; exact ⟨φ₃, σ₃, tt₃, G₃, .next, ρ₃, rfl, L₃, q₃⟩
        | ret y => obtain ⟨u, rfl, hu⟩ := hf; exact ⟨φ₃, σ₃, tt₃, G₃, .ret y, ρ₃, ⟨u, rfl, hu⟩, L₃, q₃⟩
      · obtain ⟨_, _, _, _, q⟩ := hx; exact q.elim
  · obtain ⟨_, _, _, _, q⟩ := hx; exact q.elim
theorem Vals.drop {h : Heap} (n : Nat) {xs : List V} {vs : List Value} (e : Vals φ h xs vs) : Vals φ h (xs.drop n) (vs.drop n) := by
  induction xs generalizing n vs with
  | nil => obtain rfl : vs = [] := List.eq_nil_of_length_eq_zero e.length; simpa using e
  | cons x r ih =>
    cases vs with
    | nil => exact absurd e.length (by simp)
    | cons v u =>
      cases n with
      | zero => exact e
      | succ n => rw [Vals] at e; obtain ⟨v', r', e1, e2, e3⟩ := e; cases e1; exact ih n e3
theorem Vals.take {h : Heap} (n : Nat) {xs : List V} {vs : List Value} (e : Vals φ h xs vs) : Vals φ h (xs.take n) (vs.take n) := by
  induction xs generalizing n vs with
  | nil => obtain rfl : vs = [] := List.eq_nil_of_length_eq_zero e.length; simpa using e
  | cons x r ih =>
    cases vs with
    | nil => exact absurd e.length (by simp)
    | cons v u =>
      cases n with
      | zero => exact .nil
      | succ n => rw [Vals] at e; obtain ⟨v', r', e1, e2, e3⟩ := e; cases e1; exact .cons e2 (ih n e3)
theorem pre_at {φ₁ φ₂ : List Addr} {k : Nat} {o : Addr} (h : φ₁ <+: φ₂) (e : φ₁[k]? = some o) : φ₂[k]? = some o := by
  obtain ⟨r, rfl⟩ := h
  rw [List.getElem?_append_left (List.getElem?_eq_some_iff.mp e).1]; exact e
/-- list[i:] -/
theorem E_lslice_from {value lower : Expr} {p pos : Pos} (h : WE prog w B A env value ρ σ (fun x σ₁ => ∃ k : Nat, x = .ref k ∧ WE prog w B A env lower ρ σ₁ (fun u σ₂ => ∃ (j : Int) (xs : List V), u = .int j ∧ σ₂[k]? = some (.list xs) ∧ 0 ≤ j ∧ xs.length ≤ sizeLine ∧ Q (.ref σ₂.length) (σ₂ ++ [.list (xs.drop j.toNat)])) X) X)
    (ht : ∀ o r, letTemporaryGo value o r = pure () := by intro _ _; with_unfolding_all rfl) :
    WE prog w B A env (.Subscript value (.Slice (some lower) none none p) pos) ρ σ Q X := fun φ s G L => by
  refine Subscript_ ((h φ s G L).useV (.refl ..) fun a s₁ φ₁ σ₁ t₁ _ G₁ x hx ⟨k, ek, h₁⟩ => ?_)
  subst ek
  obtain ⟨o, rfl, ho⟩ := hx.of_ref
  refine wpAny_Slice ?_
  show wpAny _ _ (eval lower env) _ _ _
  refine (h₁ φ₁ s₁ G₁ (L.step G t₁)).useV t₁ fun b s₂ φ₂ σ₂ t₂ tt G₂ u hu ⟨j, xs, ej, hk, h0, hsz, q⟩ => ?_
  subst ej
  obtain ⟨t', rfl⟩ := hu.of_int
  show wpAny _ _ (pure Value.none) _ _ _
  refine wpAny_pure ?_
  show wpAny _ _ (pure Value.none) _ _ _
  refine wpAny_pure ?_
  obtain ⟨a', ha', vs, n, hob, hvs⟩ := G₂.get hk
  have eo : o = a' := by
    rw [pre_at t₂.pre ho] at ha'; exact Option.some.inj ha'
  subst eo
  have hl : s₂.heap.IsList o vs := ⟨_, hob, rfl, n, rfl⟩
  refine subscriptTail_ops (Heap.IsList.typeIs (s := { s₂ with heap := s₂.heap.push { cls := .type "slice", data := .fields #[_, .none, .none] } }) (hl.push _)) list_getitem_lookup
    (wpAny_getItem_list_slice (hl.push _) (Heap.IsSliceOf.new ..) (.int _ _) .none .none (by simp) ?_ (by have := hvs.length; simp at this; (clear hl hob ha' hvs hu q h0 hk G₂ tt t₂ hx ho h₁ G₁ t₁ L G ht h; lia))) (by with_unfolding_all rfl) (ht _)
  have hj : j = ((j.toNat : Nat) : Int) := by (clear hl hob ha' hvs hu q hsz hk G₂ tt t₂ hx ho h₁ G₁ t₁ L G ht h; lia)
  rw [hj, slicePick_from', ← hj]
  obtain ⟨t₃, G₃, hv₃⟩ := G₂.newList (tk := s₂.toks) (c := s₂.heap.objs.size + 1) (h' := (s₂.heap.push { cls := .type "slice", data := .fields #[Value.int j t', .none, .none] }).push { cls := .type "list", data := .seq (vs.toList.drop j.toNat).toArray }) (xs := xs.drop j.toNat) (items := (vs.toList.drop j.toNat).toArray) (n := 0) (Nat.le_succ _) (fun b o eo => Heap.get?_push_of_some _ (Heap.get?_push_of_some _ eo)) (by rw [← Heap.size_push]; exact Heap.get?_push_size _ rfl) ((hvs.step G₂ (.of_keeps fun b o eo => Heap.get?_push_of_some _ (Heap.get?_push_of_some _ eo))).drop _)
  rw [Heap.size_push]
  exact ⟨_, _, tt.trans0 t₃, G₃, _, hv₃, q⟩
/-- list[:i] -/
theorem E_lslice_to {value upper : Expr} {p pos : Pos} (h : WE prog w B A env value ρ σ (fun x σ₁ => ∃ k : Nat, x = .ref k ∧ WE prog w B A env upper ρ σ₁ (fun u σ₂ => ∃ (j : Int) (xs : List V), u = .int j ∧ σ₂[k]? = some (.list xs) ∧ 0 ≤ j ∧ xs.length ≤ sizeLine ∧ Q (.ref σ₂.length) (σ₂ ++ [.list (xs.take j.toNat)])) X) X)
    (ht : ∀ o r, letTemporaryGo value o r = pure () := by intro _ _; with_unfolding_all rfl) :
    WE prog w B A env (.Subscript value (.Slice none (some upper) none p) pos) ρ σ Q X := fun φ s G L => by
  refine Subscript_ ((h φ s G L).useV (.refl ..) fun a s₁ φ₁ σ₁ t₁ _ G₁ x hx ⟨k, ek, h₁⟩ => ?_)
  subst ek
  obtain ⟨o, rfl, ho⟩ := hx.of_ref
  refine wpAny_Slice ?_
  show wpAny _ _ (pure Value.none) _ _ _
  refine wpAny_pure ?_
  show wpAny _ _ (eval upper env) _ _ _
  refine (h₁ φ₁ s₁ G₁ (L.step G t₁)).useV t₁ fun b s₂ φ₂ σ₂ t₂ tt G₂ u hu ⟨j, xs, ej, hk, h0, hsz, q⟩ => ?_
  subst ej
  obtain ⟨t', rfl⟩ := hu.of_int
  show wpAny _ _ (pure Value.none) _ _ _
  refine wpAny_pure ?_
  obtain ⟨a', ha', vs, n, hob, hvs⟩ := G₂.get hk
  have eo : o = a' := by
    rw [pre_at t₂.pre ho] at ha'; exact Option.some.inj ha'
  subst eo
  have hl : s₂.heap.IsList o vs := ⟨_, hob, rfl, n, rfl⟩
  refine subscriptTail_ops (Heap.IsList.typeIs (s := { s₂ with heap := s₂.heap.push { cls := .type "slice", data := .fields #[.none, _, .none] } }) (hl.push _)) list_getitem_lookup
    (wpAny_getItem_list_slice (hl.push _) (Heap.IsSliceOf.new ..) (.none) (.int _ _) .none (by simp) ?_ (by have := hvs.length; simp at this; (clear hl hob ha' hvs hu q h0 hk G₂ tt t₂ hx ho h₁ G₁ t₁ L G ht h; lia))) (by with_unfolding_all rfl) (ht _)
  have hj : j = ((j.toNat : Nat) : Int) := by (clear hl hob ha' hvs hu q hsz hk G₂ tt t₂ hx ho h₁ G₁ t₁ L G ht h; lia)
  rw [hj, slicePick_upto', ← hj]
  obtain ⟨t₃, G₃, hv₃⟩ := G₂.newList (tk := s₂.toks) (c := s₂.heap.objs.size + 1) (h' := (s₂.heap.push { cls := .type "slice", data := .fields #[.none, Value.int j t', .none] }).push { cls := .type "list", data := .seq (vs.toList.take j.toNat).toArray }) (xs := xs.take j.toNat) (items := (vs.toList.take j.toNat).toArray) (n := 0) (Nat.le_succ _) (fun b o eo => Heap.get?_push_of_some _ (Heap.get?_push_of_some _ eo)) (by rw [← Heap.size_push]; exact Heap.get?_push_size _ rfl) ((hvs.step G₂ (.of_keeps fun b o eo => Heap.get?_push_of_some _ (Heap.get?_push_of_some _ eo))).take _)
  rw [Heap.size_push]
  exact ⟨_, _, tt.trans0 t₃, G₃, _, hv₃, q⟩
/-- list.insert(i, x) -/
theorem C_insert {k : Nat} {xs : List V} {i : Int} {x : V} (hσ : σ[k]? = some (.list xs)) (h0 : 0 ≤ i) (hi : i ≤ xs.length) (hl : xs.length ≤ sizeLine) (hf : i < 2 ^ 62) (q : Q .none (σ.set k (.list (xs.take i.toNat ++ x :: xs.drop i.toNat)))) :
    WC prog w B A (.builtin "list.insert") [.ref k, .int i, x] σ Q X := fun φ s vs G FR hv => by
  obtain ⟨v, u, y, rfl, h1, h2, h3⟩ := hv.three
  obtain ⟨a, rfl, ha⟩ := h1.of_ref
  obtain ⟨t, rfl⟩ := h2.of_int
  obtain ⟨a', ha', vs, n, ho, hvs⟩ := G.get hσ
  rw [ha] at ha'; cases ha'
  have hlen : vs.size = xs.length := by simpa using hvs.length
  have hn : ∀ o, s.heap.get? a = some o → ¬ Still o := fun o e => G.notStill (List.mem_of_getElem? ha) e
  refine call_meets F.slot_list_insert (T := "list") ⟨_, ho, rfl⟩ F.entry_list_insert (F.args_list_insert_3 _ _ _) (PySem.AutoSeq1.list_insert_list_int_val_1 a vs n i t y (by unfold Builtin.List.listFitsIndex; simp; (clear hn hlen ho hvs hv h2 h1 ha h3 FR G q hl hi hσ; lia)) (by (clear hn ho hvs hv h2 h1 ha h3 FR G q hf hi h0 hσ; lia))) ⟨ho, ?_⟩
  have hsb := Heap.SameBut.update s.heap a (Obj.mapSeq fun xs => have k := if i < 0 then (i + (xs.size : Int)).toNat else min i.toNat xs.size; (xs.extract 0 k).push y ++ xs.extract k)
  have hg := Heap.get?_update_self (h := s.heap) (a := a) (Obj.mapSeq fun xs => have k := if i < 0 then (i + (xs.size : Int)).toNat else min i.toNat xs.size; (xs.extract 0 k).push y ++ xs.extract k) ho rfl
  refine ⟨φ, _, Step.update hsb (List.mem_of_getElem? ha), G.setList (s' := { s with heap := _ }) ha hsb hg ?_ hn, .none, .none_, q⟩
  have e : min i.toNat vs.size = i.toNat := by (clear hg hsb hn ho hvs hv h2 h1 ha h3 FR G q hf hl h0 hσ; lia)
  simp only [show ¬ i < 0 from by (clear e hg hsb hn hlen ho hvs hv h2 h1 ha h3 FR G q hf hl hi hσ; omega), if_false, e]
  have := (hvs.take i.toNat).append (Vals.cons h3 (hvs.drop i.toNat))
  have e2 : List.take (vs.size - i.toNat) (List.drop i.toNat vs.toList) = List.drop i.toNat vs.toList := List.take_of_length_le (by simp)
  simpa [e2] using this
/-- range(a, b, 2) -/
theorem C_range3 {a b : Int} (q : Q (.rng a b 2) σ) : WC prog w B A (.type "range") [.int a, .int b, .int 2] σ Q X := fun φ s vs G FR hv => by
  obtain ⟨v, u, y, rfl, h1, h2, h3⟩ := hv.three
  obtain ⟨t, rfl⟩ := h1.of_int
  obtain ⟨t', rfl⟩ := h2.of_int
  obtain ⟨t'', rfl⟩ := h3.of_int
  have hk : ∀ (ob : Obj) (b : Addr) (o : Obj), s.heap.get? b = some o → (s.heap.push ob).get? b = some o := fun ob b o e => Heap.get?_push_of_some _ e
  exact call_range_3 (by decide) ⟨φ, σ, .of_keeps (hk _), (G.keeps (s' := { s with heap := _, toks := _ }) (hk _)), .rng a b 2, by rw [Val]; exact ⟨_, _, _, _, rfl, Heap.get?_push_size _ rfl⟩, q⟩
theorem It_range2 {b : Int} (hh : A.handled = none) (h3 : 0 ≤ b) (h4 : b < 2 ^ 60) :
    WIt prog w B A (.rng 0 b 2) σ σ ((b + 1) / 2).toNat (fun i => .int (2 * (i : Int))) (fun _ => True) := fun φ s v R E G hv k => by
  rw [Val] at hv
  obtain ⟨r, t, u, kk, rfl, ho⟩ := hv
  have hsz : Builtin.Range.rangeSize 0 b 2 = (((b + 1) / 2).toNat : Int) := by unfold Builtin.Range.rangeSize; rw [if_pos (by decide)]; split <;> omega
  refine wpAny_pyIter_range ho ?_ ?_
  · unfold Builtin.Range.small
    rw [hsz]
    simp only [Builtin.Range.rangeFitsLong, Bool.and_eq_true, Bool.or_eq_true, decide_eq_true_eq, beq_iff_eq, show (2 : Int) > 0 by decide, if_true]
    (clear hsz ho k G hh; lia)
  have hk : ∀ (c : Addr) (o : Obj), s.heap.get? c = some o → (s.heap.push { cls := .type "range_iterator", data := .fields #[rawInt 0, rawInt (Builtin.Range.rangeSize 0 b 2), rawInt 2] }).get? c = some o := fun c o e => Heap.get?_push_of_some _ e
  refine k s.heap.objs.size _ _ hk (get?_size _) G.fresh (Itr.ofWalks (Walks.range hh s.heap.objs.size 0 2 ((b + 1) / 2).toNat) (fun i h hs => ⟨_, hs, .fields rfl, notStill_type rfl (by decide) (by decide)⟩) fun φ h i v ⟨t, e⟩ => by subst e; rw [show (0 : Int) + (i : Int) * 2 = 2 * (i : Int) from by (clear hk hsz ho k G h4 h3 hh; lia)]; exact Val.int_ _ _) ?_ (G.keeps hk)
  show IsRangeIter _ _ (0 + ((0 : Nat) : Int) * 2) ((((b + 1) / 2).toNat : Int) - ((0 : Nat) : Int)) 2
  have e1 : ((0 : Int) + ((0 : Nat) : Int) * 2) = 0 := by simp
  have e2 : ((((b + 1) / 2).toNat : Int) - ((0 : Nat) : Int)) = Builtin.Range.rangeSize 0 b 2 := by rw [hsz]; simp
  rw [e1, e2]
  exact Heap.get?_push_size _ rfl
/-- a comprehension whose items may make objects -/
theorem X_compg {elt iter : Expr} {x y : Str} {px py : Pos} {scope : Scope} {pos spos : Pos} {rest : List Stmt} {Q : Fl → List (Str × V) → List AObj → Prop} (l : List (Str × V)) (hl : l.all (fun p => (freeOf scope).contains p.1) = true) (hs : Sub l ρ) (hb : compB env scope x = true) (hc : env.cells.Pairwise fun x y => x.2 ≠ y.2)
    (h : WE prog w B A env iter ρ σ (fun v σ' => ∃ σ₁ n el C, ∃ Iv : Nat → List AObj → Prop, WIt prog w B A v σ' σ₁ n el C ∧ C (σ₁ ++ [.list []]) ∧ Iv 0 (σ₁ ++ [.list []]) ∧
      (∀ D i σ₂, i < n → C σ₂ → Iv i σ₂ → WE prog w B A { compEnvC scope (clOf scope env) 0 env with locals := D } elt ((x, el i) :: l) σ₂ (fun y σ₃ => ∃ ys, σ₃[σ₁.length]? = some (.list ys) ∧ ys.length ≤ sizeLine ∧ C (σ₃.set σ₁.length (.list (ys ++ [y]))) ∧ Iv (i + 1) (σ₃.set σ₁.length (.list (ys ++ [y])))) (fun _ _ _ _ => False)) ∧
      (∀ σ₂, C σ₂ → Iv n σ₂ → WX prog w B A env rest ((y, .ref σ₁.length) :: ρ) σ₂ Q X)) X)
    (hy : env.kindOf y = some .local := by kernel_rfl!)
    (hsw : swapsWith (.ListComp elt [⟨.Name x px, iter, [], 0⟩] scope pos) (some (.Name y py)) spos.line env = pure true := by with_unfolding_all rfl)
    (hs' : ∀ v, foldedSetIterable iter env v = pure v := by intro _; with_unfolding_all rfl) :
    WX prog w B A env (.Assign [.Name y py] (.ListComp elt [⟨.Name x px, iter, [], 0⟩] scope pos) spos :: rest) ρ σ Q X := by
  refine X_cons (X_comp (CompOk.of hc hb) (h.mono fun v σ' hx => ?_) hy hsw hs')
  obtain ⟨σ₁, n, el, C, Iv, hit, hC, hI, helt, hK⟩ := hx
  exact ⟨σ₁, n, el, C, Iv, hit, hC, hI, fun D i σ₂ hi hCi hIi => E_weak (Sub.both (hs.sub hl)) (helt D i σ₂ hi hCi hIi), hK⟩
/-- one of the objects that were made is given back -/
theorem R_any {σ₀ j : List AObj} {ob : AObj} {k : Nat} (hk : σ₀.length ≤ k) (h : (σ₀ ++ j)[k]? = some ob) (ho : ob.lt σ₀.length) (q : Q (.ref σ₀.length) (σ₀ ++ [ob])) : retQ σ₀ Q (.ret (.ref k)) ρ (σ₀ ++ j) := by
  rw [List.getElem?_append_right hk] at h
  obtain ⟨hm, e⟩ := List.getElem?_eq_some_iff.mp h
  have es : j = j.take (k - σ₀.length) ++ ob :: j.drop (k - σ₀.length + 1) := by
    conv => lhs; rw [← List.take_append_drop (k - σ₀.length) j, List.drop_eq_getElem_cons hm, e]
  rw [es, ← List.append_assoc]
  refine R_one ?_ ho q
  rw [List.length_take]; (clear es e q ho h; lia)
end
end Mine

set_option autoImplicit false
set_option linter.unusedVariables false
set_option maxRecDepth 100000
namespace Mine
open PySem PySem.W PySem.Calls PyProof.Rows

section
variable {p : Program} {loose : List Str} {mean : ExcName → Option Value} {mg mb : Str → Option Value} {B : Shared}
theorem has_of (T : Top p loose mean mg mb B.heap) (d : DefRec) {i : Nat} (hi : (recsOf p)[i]? = some d) : HasF B mg d := by
  obtain ⟨a, o, pm, code, doc, h1, h2, h3, h4⟩ := T.fn d (List.mem_of_getElem? hi)
  exact ⟨a, o, pm, code, doc, h1, h2, h3, h4⟩
def topHas (p : Program) (loose : List Str) (x : Str) : Bool := startupNames.contains x || loose.contains x || ((recsOf p).map (·.name)).contains x || ((litsOf p).map (·.1)).contains x || ((clssOf p loose).map (·.name)).contains x
theorem bi_of (T : Top p loose mean mg mb B.heap) {x : Str} {v : Value} (hb : bootBuiltins x = some v) (hx : topHas p loose x = false) (hn : (x == ("__name__" : Str)) = false) : Bi B mg mb x v := by
  unfold topHas at hx
  simp only [Bool.or_eq_false_iff] at hx
  obtain ⟨⟨⟨⟨h1, h2⟩, h3⟩, h4⟩, h5⟩ := hx
  refine ⟨T.g, T.b, T.free x ?_ ?_ ?_ ?_ ?_, by rw [T.builtins x (by simpa using hn)]; exact hb⟩ <;> (intro hm; simp_all)
def bltNames : List Str := ["len", "isinstance", "max", "min", "sum", "sorted", "int", "bool", "str", "tuple", "list", "dict", "set", "range", "enumerate"]
theorem blt_of (T : Top p loose mean mg mb B.heap) (h : bltNames.all (fun x => !topHas p loose x) = true) : Blt B mg mb := by
  have hx : ∀ x ∈ bltNames, topHas p loose x = false := fun x hx => by simpa using List.all_eq_true.mp h x hx
  refine ⟨?_, ?_, ?_, ?_, ?_, ?_, ?_, ?_, ?_, ?_, ?_, ?_, ?_, ?_, ?_⟩
  · exact bi_of T (by kernel_rfl) (hx _ (List.mem_of_getElem? (i := 0) rfl)) (by decide +kernel)
  · exact bi_of T (by kernel_rfl) (hx _ (List.mem_of_getElem? (i := 1) rfl)) (by decide +kernel)
  · exact bi_of T (by kernel_rfl) (hx _ (List.mem_of_getElem? (i := 2) rfl)) (by decide +kernel)
  · exact bi_of T (by kernel_rfl) (hx _ (List.mem_of_getElem? (i := 3) rfl)) (by decide +kernel)
  · exact bi_of T (by kernel_rfl) (hx _ (List.mem_of_getElem? (i := 4) rfl)) (by decide +kernel)
  · exact bi_of T (by kernel_rfl) (hx _ (List.mem_of_getElem? (i := 5) rfl)) (by decide +kernel)
  · exact bi_of T (by kernel_rfl) (hx _ (List.mem_of_getElem? (i := 6) rfl)) (by decide +kernel)
  · exact bi_of T (by kernel_rfl) (hx _ (List.mem_of_getElem? (i := 7) rfl)) (by decide +kernel)
  · exact bi_of T (by kernel_rfl) (hx _ (List.mem_of_getElem? (i := 8) rfl)) (by decide +kernel)
  · exact bi_of T (by kernel_rfl) (hx _ (List.mem_of_getElem? (i := 9) rfl)) (by decide +kernel)
  · exact bi_of T (by kernel_rfl) (hx _ (List.mem_of_getElem? (i := 10) rfl)) (by decide +kernel)
  · exact bi_of T (by kernel_rfl) (hx _ (List.mem_of_getElem? (i := 11) rfl)) (by decide +kernel)
  · exact bi_of T (by kernel_rfl) (hx _ (List.mem_of_getElem? (i := 12) rfl)) (by decide +kernel)
  · exact bi_of T (by kernel_rfl) (hx _ (List.mem_of_getElem? (i := 13) rfl)) (by decide +kernel)
  · exact bi_of T (by kernel_rfl) (hx _ (List.mem_of_getElem? (i := 14) rfl)) (by decide +kernel)

theorem st_nil {prog : Program} {w : World} {o : Obj} (hs : B.heap.get? cStatics = some o) : St prog w B [] [] B :=
  ⟨fun _ _ e => e, fun _ h => (nomatch h), .nil, rfl, fun k a ob h => by simp at h, rfl, rfl, ⟨o, hs⟩, fun h => (nomatch h)⟩
theorem law_end {prog : Program} {w : World} {d : DefRec} {fa scr : Addr} {c : ClaimW} {cl : Str → Option Addr} {mean' : ExcName → Option Value} {args : List WData} (T : Top p loose mean mg mb B.heap) (H : HasF B mg d) (hfa : mg d.name = some (.ref fa))
    (g : Good d ["_law_script"]) (hg : B.gens = #[]) (hr : ∀ cls, c.raises args cls = false) (hrd : ∀ h, ReadsW c.records cl h (.bool true) (.bool true) []) (hp : c.post args (.bool true) args = true)
    (h : ∀ A pm code doc L a, AOk 50 A → WX prog w B A (callEnvC (docDef d.name d.params d.body d.scope pm code doc) L a) d.body [("_law_script", .raw (.ref scr))] [] (fun fl _ _ => retV fl = .bool true) (fun _ _ _ _ => False)) :
    codeAny (model prog w) callerA (.call (.ref fa) ⟨[.ref scr], []⟩) (GoodWG c cl mean' args B) B := by
  obtain ⟨a, pm, code, doc, h1, F⟩ := H.fn T.nolimit g
  rw [hfa] at h1; cases h1
  obtain ⟨mc, ⟨o, _, _, ho, _⟩, _⟩ := T.nodigits
  have hA : AOk 51 callerA := ⟨rfl, by decide, by decide⟩
  refine codeAny_mono (C_fn_code (X := fun _ _ _ _ => False) (xs := [.raw (.ref scr)]) (Q := fun x _ => x = .bool true) F rfl hA.room (fun L => h _ pm code doc L fa hA.deeper) [] B [.ref scr] (st_nil ho) ⟨[], rfl, fun _ h => nomatch h⟩ (Vals.cons (.raw_ _) .nil)) fun r s' hr' => ?_
  match r, hr' with
  | .ok (.ret v), ⟨φ', σ', t, G', x, hx, hx'⟩ =>
    subst hx'
    obtain rfl := hx.of_bool
    exact ⟨.inl ⟨.bool true, .bool true, [], rfl, hr, hrd _, hp, fun _ => ⟨.nil, fun _ h => nomatch h⟩⟩, .of_keep G'.base, G'.os, .of_eq (G'.gens.trans hg)⟩
  | .error e, ⟨_, _, _, _, hf⟩ => exact hf.elim
theorem gc_str {x y : Str} (T : Top p loose mean mg mb B.heap) (h : valOf p x = some (.str y)) : GC B mg x (.str y) := by
  obtain ⟨v, h1, h2⟩ := T.const x _ h
  refine ⟨T.g, v, h1, ?_⟩
  have := h2 B.heap
  cases this
  exact .str_ _ _
theorem gc_int {x : Str} {n : Int} (T : Top p loose mean mg mb B.heap) (h : valOf p x = some (.int n)) : GC B mg x (.int n) := by
  obtain ⟨v, h1, h2⟩ := T.const x _ h
  refine ⟨T.g, v, h1, ?_⟩
  have := h2 B.heap
  cases this
  exact .int_ _ _
end
end Mine

set_option autoImplicit false
set_option linter.unusedVariables false
set_option maxRecDepth 100000
namespace Mine
open PySem PySem.W PySem.Calls PyProof.Rows PySem.Challenge



def dm (p : Program) (i j : Nat) : DefRec := match p.main.body[i]? with
  | some (.ClassDef _ _ _ body _ _ _ _ _ _ _) => (match body[j]? with
    | some (.FunctionDef name args body _ _ _ scope _ _ pos) => ⟨name, args, body, scope, pos⟩
    | _ => dr p 1000000)
  | _ => dr p 1000000
def KF (P : Params) : Frag := [
  (1, Obj.mk (Value.type "dict") none
  (Data.dict
    #[DictEntry.mk (PyData.keyHash P (Str.ofString "builtins"))
        (Value.str (Str.ofString "builtins") 162) (Value.ref 4),
      DictEntry.mk (PyData.keyHash P (Str.ofString "__main__"))
        (Value.str (Str.ofString "__main__") 163) (Value.ref 5)]
    2)
  #[]),
  (3, Obj.mk (Value.type "dict") none
  (Data.dict
    #[DictEntry.mk (PyData.keyHash P (Str.ofString "__name__"))
        (Value.str (Str.ofString "__name__") 165)
        (Value.str (Str.ofString "law_uf050040_14") 455),
      DictEntry.mk (PyData.keyHash P (Str.ofString "__doc__"))
        (Value.str (Str.ofString "__doc__") 166) Value.none,
      DictEntry.mk (PyData.keyHash P (Str.ofString "__package__"))
        (Value.str (Str.ofString "__package__") 167) Value.none,
      DictEntry.mk (PyData.keyHash P (Str.ofString "__loader__"))
        (Value.str (Str.ofString "__loader__") 168) (Value.builtin "__main__.__loader__#opaque"),
      DictEntry.mk (PyData.keyHash P (Str.ofString "__spec__"))
        (Value.str (Str.ofString "__spec__") 169) Value.none,
      DictEntry.mk (PyData.keyHash P (Str.ofString "__annotations__"))
        (Value.str (Str.ofString "__annotations__") 170) (Value.ref 6),
      DictEntry.mk (PyData.keyHash P (Str.ofString "__builtins__"))
        (Value.str (Str.ofString "__builtins__") 171) (Value.ref 4),
      DictEntry.mk (PyData.keyHash P (Str.ofString "__file__"))
        (Value.str (Str.ofString "__file__") 173)
        (Value.str (Str.ofString "/claim/cut.py") 172),
      DictEntry.mk (PyData.keyHash P (Str.ofString "__cached__"))
        (Value.str (Str.ofString "__cached__") 174) Value.none,
      DictEntry.mk (PyData.keyHash P (Str.ofString "_wall"))
        (Value.str (Str.ofString "_wall") 193) (Value.ref 21),
      DictEntry.mk (PyData.keyHash P (Str.ofString "LETTERS"))
        (Value.str (Str.ofString "LETTERS") 197)
        (Value.str (Str.ofString "abcdefghijklmnopqrstuvwxyz") 196),
      DictEntry.mk (PyData.keyHash P (Str.ofString "is_name"))
        (Value.str (Str.ofString "is_name") 205) (Value.ref 28),
      DictEntry.mk (PyData.keyHash P (Str.ofString "greater"))
        (Value.str (Str.ofString "greater") 215) (Value.ref 35),
      DictEntry.mk (PyData.keyHash P (Str.ofString "reaches"))
        (Value.str (Str.ofString "reaches") 223) (Value.ref 42),
      DictEntry.mk (PyData.keyHash P (Str.ofString "net"))
        (Value.str (Str.ofString "net") 230) (Value.ref 49),
      DictEntry.mk (PyData.keyHash P (Str.ofString "MOST_NAMES"))
        (Value.str (Str.ofString "MOST_NAMES") 234) (Value.int 200 233),
      DictEntry.mk (PyData.keyHash P (Str.ofString "is_part"))
        (Value.str (Str.ofString "is_part") 241) (Value.ref 56),
      DictEntry.mk (PyData.keyHash P (Str.ofString "is_share"))
        (Value.str (Str.ofString "is_share") 248) (Value.ref 63),
      DictEntry.mk (PyData.keyHash P (Str.ofString "is_page"))
        (Value.str (Str.ofString "is_page") 256) (Value.ref 70),
      DictEntry.mk (PyData.keyHash P (Str.ofString "share_of"))
        (Value.str (Str.ofString "share_of") 264) (Value.ref 77),
      DictEntry.mk (PyData.keyHash P (Str.ofString "joined"))
        (Value.str (Str.ofString "joined") 274) (Value.ref 84),
      DictEntry.mk (PyData.keyHash P (Str.ofString "lacking"))
        (Value.str (Str.ofString "lacking") 284) (Value.ref 91),
      DictEntry.mk (PyData.keyHash P (Str.ofString "total"))
        (Value.str (Str.ofString "total") 290) (Value.ref 96),
      DictEntry.mk (PyData.keyHash P (Str.ofString "GossipError"))
        (Value.str (Str.ofString "GossipError") 310) (Value.ref 106),
      DictEntry.mk (PyData.keyHash P (Str.ofString "NoName"))
        (Value.str (Str.ofString "NoName") 326) (Value.ref 119),
      DictEntry.mk (PyData.keyHash P (Str.ofString "NoPage"))
        (Value.str (Str.ofString "NoPage") 342) (Value.ref 131),
      DictEntry.mk (PyData.keyHash P (Str.ofString "Forged"))
        (Value.str (Str.ofString "Forged") 358) (Value.ref 143),
      DictEntry.mk (PyData.keyHash P (Str.ofString "Hand"))
        (Value.str (Str.ofString "Hand") 454) (Value.ref 218),
      DictEntry.mk (PyData.keyHash P (Str.ofString "_law_cell_at"))
        (Value.str (Str.ofString "_law_cell_at") 464) (Value.ref 229),
      DictEntry.mk (PyData.keyHash P (Str.ofString "_law_whole"))
        (Value.str (Str.ofString "_law_whole") 471) (Value.ref 236),
      DictEntry.mk (PyData.keyHash P (Str.ofString "_law_number_by"))
        (Value.str (Str.ofString "_law_number_by") 479) (Value.ref 243),
      DictEntry.mk (PyData.keyHash P (Str.ofString "_law_share"))
        (Value.str (Str.ofString "_law_share") 487) (Value.ref 250),
      DictEntry.mk (PyData.keyHash P (Str.ofString "_law_name_by"))
        (Value.str (Str.ofString "_law_name_by") 493) (Value.ref 255),
      DictEntry.mk (PyData.keyHash P (Str.ofString "_law_mixed"))
        (Value.str (Str.ofString "_law_mixed") 501) (Value.ref 262),
      DictEntry.mk (PyData.keyHash P (Str.ofString "_law_page_by"))
        (Value.str (Str.ofString "_law_page_by") 513) (Value.ref 269),
      DictEntry.mk (PyData.keyHash P (Str.ofString "_law_near_by"))
        (Value.str (Str.ofString "_law_near_by") 528) (Value.ref 276),
      DictEntry.mk (PyData.keyHash P (Str.ofString "_law_same"))
        (Value.str (Str.ofString "_law_same") 537) (Value.ref 283),
      DictEntry.mk (PyData.keyHash P (Str.ofString "_law_joined"))
        (Value.str (Str.ofString "_law_joined") 551) (Value.ref 290),
      DictEntry.mk (PyData.keyHash P (Str.ofString "_law_total"))
        (Value.str (Str.ofString "_law_total") 560) (Value.ref 297),
      DictEntry.mk (PyData.keyHash P (Str.ofString "_law_pages"))
        (Value.str (Str.ofString "_law_pages") 574) (Value.ref 304),
      DictEntry.mk (PyData.keyHash P (Str.ofString "_law_from_left"))
        (Value.str (Str.ofString "_law_from_left") 583) (Value.ref 311),
      DictEntry.mk (PyData.keyHash P (Str.ofString "_law_from_right"))
        (Value.str (Str.ofString "_law_from_right") 592) (Value.ref 318),
      DictEntry.mk (PyData.keyHash P (Str.ofString "_law_halves"))
        (Value.str (Str.ofString "_law_halves") 598) (Value.ref 323),
      DictEntry.mk (PyData.keyHash P (Str.ofString "_law_hand"))
        (Value.str (Str.ofString "_law_hand") 609) (Value.ref 330),
      DictEntry.mk (PyData.keyHash P (Str.ofString "law"))
        (Value.str (Str.ofString "law") 623) (Value.ref 337)]
    45)
  #[]),
  (105, Obj.mk (Value.type "dict") none
  (Data.dict
    #[DictEntry.mk (PyData.keyHash P (Str.ofString "__module__"))
        (Value.str (Str.ofString "__module__") 300)
        (Value.str (Str.ofString "gossipcount.errors") 291),
      DictEntry.mk (PyData.keyHash P (Str.ofString "__firstlineno__"))
        (Value.str (Str.ofString "__firstlineno__") 304) (Value.int 51 303),
      DictEntry.mk (PyData.keyHash P (Str.ofString "__static_attributes__"))
        (Value.str (Str.ofString "__static_attributes__") 305) (Value.ref 104),
      DictEntry.mk (PyData.keyHash P (Str.ofString "__weakref__"))
        (Value.str (Str.ofString "__weakref__") 307) (Value.ref 107),
      DictEntry.mk (PyData.keyHash P (Str.ofString "__doc__"))
        (Value.str (Str.ofString "__doc__") 308) Value.none]
    3)
  #[]),
  (106, Obj.mk (Value.type "type") none
  (Data.cls
    (ClassData.mk (Str.ofString "GossipError") [Value.type "ValueError"]
      [Value.ref 106, Value.type "ValueError", Value.type "Exception",
        Value.type "BaseException", Value.type "object"]
      105 (Str.ofString "GossipError") true []
      [Value.ref 119, Value.ref 131, Value.ref 143] false none false))
  #[some (Value.ref 97), none, some (Value.str (Str.ofString "GossipError") 293),
    some (Value.str (Str.ofString "GossipError") 301),
    some (Value.builtin "ValueError.__new__"), some (Value.bool true)]),
  (118, Obj.mk (Value.type "dict") none
  (Data.dict
    #[DictEntry.mk (PyData.keyHash P (Str.ofString "__module__"))
        (Value.str (Str.ofString "__module__") 318)
        (Value.str (Str.ofString "gossipcount.errors") 291),
      DictEntry.mk (PyData.keyHash P (Str.ofString "__firstlineno__"))
        (Value.str (Str.ofString "__firstlineno__") 322) (Value.int 53 321),
      DictEntry.mk (PyData.keyHash P (Str.ofString "__static_attributes__"))
        (Value.str (Str.ofString "__static_attributes__") 323) (Value.ref 117),
      DictEntry.mk (PyData.keyHash P (Str.ofString "__doc__"))
        (Value.str (Str.ofString "__doc__") 324) Value.none]
    2)
  #[]),
  (119, Obj.mk (Value.type "type") none
  (Data.cls
    (ClassData.mk (Str.ofString "NoName") [Value.ref 106]
      [Value.ref 119, Value.ref 106, Value.type "ValueError", Value.type "Exception",
        Value.type "BaseException", Value.type "object"]
      118 (Str.ofString "NoName") true [] [] false none false))
  #[some (Value.ref 110), none, some (Value.str (Str.ofString "NoName") 311),
    some (Value.str (Str.ofString "NoName") 319),
    some (Value.builtin "ValueError.__new__"), some (Value.bool true)]),
  (130, Obj.mk (Value.type "dict") none
  (Data.dict
    #[DictEntry.mk (PyData.keyHash P (Str.ofString "__module__"))
        (Value.str (Str.ofString "__module__") 334)
        (Value.str (Str.ofString "gossipcount.errors") 291),
      DictEntry.mk (PyData.keyHash P (Str.ofString "__firstlineno__"))
        (Value.str (Str.ofString "__firstlineno__") 338) (Value.int 55 337),
      DictEntry.mk (PyData.keyHash P (Str.ofString "__static_attributes__"))
        (Value.str (Str.ofString "__static_attributes__") 339) (Value.ref 129),
      DictEntry.mk (PyData.keyHash P (Str.ofString "__doc__"))
        (Value.str (Str.ofString "__doc__") 340) Value.none]
    2)
  #[]),
  (131, Obj.mk (Value.type "type") none
  (Data.cls
    (ClassData.mk (Str.ofString "NoPage") [Value.ref 106]
      [Value.ref 131, Value.ref 106, Value.type "ValueError", Value.type "Exception",
        Value.type "BaseException", Value.type "object"]
      130 (Str.ofString "NoPage") true [] [] false none false))
  #[some (Value.ref 122), none, some (Value.str (Str.ofString "NoPage") 327),
    some (Value.str (Str.ofString "NoPage") 335),
    some (Value.builtin "ValueError.__new__"), some (Value.bool true)]),
  (142, Obj.mk (Value.type "dict") none
  (Data.dict
    #[DictEntry.mk (PyData.keyHash P (Str.ofString "__module__"))
        (Value.str (Str.ofString "__module__") 350)
        (Value.str (Str.ofString "gossipcount.errors") 291),
      DictEntry.mk (PyData.keyHash P (Str.ofString "__firstlineno__"))
        (Value.str (Str.ofString "__firstlineno__") 354) (Value.int 57 353),
      DictEntry.mk (PyData.keyHash P (Str.ofString "__static_attributes__"))
        (Value.str (Str.ofString "__static_attributes__") 355) (Value.ref 141),
      DictEntry.mk (PyData.keyHash P (Str.ofString "__doc__"))
        (Value.str (Str.ofString "__doc__") 356) Value.none]
    2)
  #[]),
  (143, Obj.mk (Value.type "type") none
  (Data.cls
    (ClassData.mk (Str.ofString "Forged") [Value.ref 106]
      [Value.ref 143, Value.ref 106, Value.type "ValueError", Value.type "Exception",
        Value.type "BaseException", Value.type "object"]
      142 (Str.ofString "Forged") true [] [] false none false))
  #[some (Value.ref 134), none, some (Value.str (Str.ofString "Forged") 343),
    some (Value.str (Str.ofString "Forged") 351),
    some (Value.builtin "ValueError.__new__"), some (Value.bool true)]),
  (158, Obj.mk (Value.type "code") none
  (Data.fields
    #[Value.str (Str.ofString "__init__") 373, Value.str (Str.ofString "Hand.__init__") 374,
      Value.str (Str.ofString "/claim/cut.py") 375, Value.int 62 0, Value.int 2 0,
      Value.int 0 0, Value.int 0 0, Value.int 3 0, Value.ref 153, Value.bool true,
      Value.int 181 0, Value.ref 154, Value.none, Value.ref 155, Value.ref 156,
      Value.ref 157, Value.int 378 0, Value.int 62 0,
      Value.str (Str.ofString "/claim/cut.py") 379])
  #[]),
  (159, ⟨.type "function", none, .func { docDef (dm pw_uf050040_14 23 0).name (dm pw_uf050040_14 23 0).params (dm pw_uf050040_14 23 0).body (dm pw_uf050040_14 23 0).scope (Value.str (Str.ofString "gossipcount.hands") 359) (.ref 158) (Value.none) with qualname := "Hand.__init__" }, #[]⟩),
  (165, Obj.mk (Value.type "code") none
  (Data.fields
    #[Value.str (Str.ofString "grown") 381, Value.str (Str.ofString "Hand.grown") 382,
      Value.str (Str.ofString "/claim/cut.py") 383, Value.int 68 0, Value.int 3 0,
      Value.int 0 0, Value.int 0 0, Value.int 3 0, Value.ref 160, Value.bool true,
      Value.int 181 0, Value.ref 161, Value.none, Value.ref 162, Value.ref 163,
      Value.ref 164, Value.int 387 0, Value.int 68 0,
      Value.str (Str.ofString "/claim/cut.py") 388])
  #[]),
  (166, ⟨.type "function", none, .func { docDef (dm pw_uf050040_14 23 1).name (dm pw_uf050040_14 23 1).params (dm pw_uf050040_14 23 1).body (dm pw_uf050040_14 23 1).scope (Value.str (Str.ofString "gossipcount.hands") 359) (.ref 165) (Value.none) with qualname := "Hand.grown" }, #[]⟩),
  (172, Obj.mk (Value.type "code") none
  (Data.fields
    #[Value.str (Str.ofString "up") 390, Value.str (Str.ofString "Hand.up") 391,
      Value.str (Str.ofString "/claim/cut.py") 392, Value.int 71 0, Value.int 2 0,
      Value.int 0 0, Value.int 0 0, Value.int 3 0, Value.ref 167, Value.bool true,
      Value.int 181 0, Value.ref 168, Value.none, Value.ref 169, Value.ref 170,
      Value.ref 171, Value.int 395 0, Value.int 71 0,
      Value.str (Str.ofString "/claim/cut.py") 396])
  #[]),
  (173, ⟨.type "function", none, .func { docDef (dm pw_uf050040_14 23 2).name (dm pw_uf050040_14 23 2).params (dm pw_uf050040_14 23 2).body (dm pw_uf050040_14 23 2).scope (Value.str (Str.ofString "gossipcount.hands") 359) (.ref 172) (Value.none) with qualname := "Hand.up" }, #[]⟩),
  (179, Obj.mk (Value.type "code") none
  (Data.fields
    #[Value.str (Str.ofString "down") 398, Value.str (Str.ofString "Hand.down") 399,
      Value.str (Str.ofString "/claim/cut.py") 400, Value.int 74 0, Value.int 2 0,
      Value.int 0 0, Value.int 0 0, Value.int 3 0, Value.ref 174, Value.bool true,
      Value.int 181 0, Value.ref 175, Value.none, Value.ref 176, Value.ref 177,
      Value.ref 178, Value.int 403 0, Value.int 74 0,
      Value.str (Str.ofString "/claim/cut.py") 404])
  #[]),
  (180, ⟨.type "function", none, .func { docDef (dm pw_uf050040_14 23 3).name (dm pw_uf050040_14 23 3).params (dm pw_uf050040_14 23 3).body (dm pw_uf050040_14 23 3).scope (Value.str (Str.ofString "gossipcount.hands") 359) (.ref 179) (Value.none) with qualname := "Hand.down" }, #[]⟩),
  (186, Obj.mk (Value.type "code") none
  (Data.fields
    #[Value.str (Str.ofString "page") 406, Value.str (Str.ofString "Hand.page") 407,
      Value.str (Str.ofString "/claim/cut.py") 408, Value.int 77 0, Value.int 1 0,
      Value.int 0 0, Value.int 0 0, Value.int 3 0, Value.ref 181, Value.bool true,
      Value.int 181 0, Value.ref 182, Value.none, Value.ref 183, Value.ref 184,
      Value.ref 185, Value.int 410 0, Value.int 77 0,
      Value.str (Str.ofString "/claim/cut.py") 411])
  #[]),
  (187, ⟨.type "function", none, .func { docDef (dm pw_uf050040_14 23 4).name (dm pw_uf050040_14 23 4).params (dm pw_uf050040_14 23 4).body (dm pw_uf050040_14 23 4).scope (Value.str (Str.ofString "gossipcount.hands") 359) (.ref 186) (Value.none) with qualname := "Hand.page" }, #[]⟩),
  (193, Obj.mk (Value.type "code") none
  (Data.fields
    #[Value.str (Str.ofString "told") 413, Value.str (Str.ofString "Hand.told") 414,
      Value.str (Str.ofString "/claim/cut.py") 415, Value.int 80 0, Value.int 1 0,
      Value.int 0 0, Value.int 0 0, Value.int 3 0, Value.ref 188, Value.bool true,
      Value.int 181 0, Value.ref 189, Value.none, Value.ref 190, Value.ref 191,
      Value.ref 192, Value.int 417 0, Value.int 80 0,
      Value.str (Str.ofString "/claim/cut.py") 418])
  #[]),
  (194, ⟨.type "function", none, .func { docDef (dm pw_uf050040_14 23 5).name (dm pw_uf050040_14 23 5).params (dm pw_uf050040_14 23 5).body (dm pw_uf050040_14 23 5).scope (Value.str (Str.ofString "gossipcount.hands") 359) (.ref 193) (Value.none) with qualname := "Hand.told" }, #[]⟩),
  (200, Obj.mk (Value.type "code") none
  (Data.fields
    #[Value.str (Str.ofString "letter") 420, Value.str (Str.ofString "Hand.letter") 421,
      Value.str (Str.ofString "/claim/cut.py") 422, Value.int 83 0, Value.int 2 0,
      Value.int 0 0, Value.int 0 0, Value.int 3 0, Value.ref 195, Value.bool true,
      Value.int 181 0, Value.ref 196, Value.none, Value.ref 197, Value.ref 198,
      Value.ref 199, Value.int 425 0, Value.int 83 0,
      Value.str (Str.ofString "/claim/cut.py") 426])
  #[]),
  (201, ⟨.type "function", none, .func { docDef (dm pw_uf050040_14 23 6).name (dm pw_uf050040_14 23 6).params (dm pw_uf050040_14 23 6).body (dm pw_uf050040_14 23 6).scope (Value.str (Str.ofString "gossipcount.hands") 359) (.ref 200) (Value.none) with qualname := "Hand.letter" }, #[]⟩),
  (207, Obj.mk (Value.type "code") none
  (Data.fields
    #[Value.str (Str.ofString "trusts") 428, Value.str (Str.ofString "Hand.trusts") 429,
      Value.str (Str.ofString "/claim/cut.py") 430, Value.int 86 0, Value.int 2 0,
      Value.int 0 0, Value.int 0 0, Value.int 3 0, Value.ref 202, Value.bool true,
      Value.int 181 0, Value.ref 203, Value.none, Value.ref 204, Value.ref 205,
      Value.ref 206, Value.int 433 0, Value.int 86 0,
      Value.str (Str.ofString "/claim/cut.py") 434])
  #[]),
  (208, ⟨.type "function", none, .func { docDef (dm pw_uf050040_14 23 7).name (dm pw_uf050040_14 23 7).params (dm pw_uf050040_14 23 7).body (dm pw_uf050040_14 23 7).scope (Value.str (Str.ofString "gossipcount.hands") 359) (.ref 207) (Value.none) with qualname := "Hand.trusts" }, #[]⟩),
  (214, Obj.mk (Value.type "code") none
  (Data.fields
    #[Value.str (Str.ofString "hear") 436, Value.str (Str.ofString "Hand.hear") 437,
      Value.str (Str.ofString "/claim/cut.py") 438, Value.int 89 0, Value.int 2 0,
      Value.int 0 0, Value.int 0 0, Value.int 3 0, Value.ref 209, Value.bool true,
      Value.int 181 0, Value.ref 210, Value.none, Value.ref 211, Value.ref 212,
      Value.ref 213, Value.int 442 0, Value.int 89 0,
      Value.str (Str.ofString "/claim/cut.py") 443])
  #[]),
  (215, ⟨.type "function", none, .func { docDef (dm pw_uf050040_14 23 8).name (dm pw_uf050040_14 23 8).params (dm pw_uf050040_14 23 8).body (dm pw_uf050040_14 23 8).scope (Value.str (Str.ofString "gossipcount.hands") 359) (.ref 214) (Value.none) with qualname := "Hand.hear" }, #[]⟩),
  (217, Obj.mk (Value.type "dict") none
  (Data.dict
    #[DictEntry.mk (PyData.keyHash P (Str.ofString "__module__"))
        (Value.str (Str.ofString "__module__") 368)
        (Value.str (Str.ofString "gossipcount.hands") 359),
      DictEntry.mk (PyData.keyHash P (Str.ofString "__firstlineno__"))
        (Value.str (Str.ofString "__firstlineno__") 372) (Value.int 60 371),
      DictEntry.mk (PyData.keyHash P (Str.ofString "__init__"))
        (Value.str (Str.ofString "__init__") 380) (Value.ref 159),
      DictEntry.mk (PyData.keyHash P (Str.ofString "grown"))
        (Value.str (Str.ofString "grown") 389) (Value.ref 166),
      DictEntry.mk (PyData.keyHash P (Str.ofString "up"))
        (Value.str (Str.ofString "up") 397) (Value.ref 173),
      DictEntry.mk (PyData.keyHash P (Str.ofString "down"))
        (Value.str (Str.ofString "down") 405) (Value.ref 180),
      DictEntry.mk (PyData.keyHash P (Str.ofString "page"))
        (Value.str (Str.ofString "page") 412) (Value.ref 187),
      DictEntry.mk (PyData.keyHash P (Str.ofString "told"))
        (Value.str (Str.ofString "told") 419) (Value.ref 194),
      DictEntry.mk (PyData.keyHash P (Str.ofString "letter"))
        (Value.str (Str.ofString "letter") 427) (Value.ref 201),
      DictEntry.mk (PyData.keyHash P (Str.ofString "trusts"))
        (Value.str (Str.ofString "trusts") 435) (Value.ref 208),
      DictEntry.mk (PyData.keyHash P (Str.ofString "hear"))
        (Value.str (Str.ofString "hear") 444) (Value.ref 215),
      DictEntry.mk (PyData.keyHash P (Str.ofString "__static_attributes__"))
        (Value.str (Str.ofString "__static_attributes__") 447) (Value.ref 216),
      DictEntry.mk (PyData.keyHash P (Str.ofString "__dict__"))
        (Value.str (Str.ofString "__dict__") 449) (Value.ref 219),
      DictEntry.mk (PyData.keyHash P (Str.ofString "__weakref__"))
        (Value.str (Str.ofString "__weakref__") 451) (Value.ref 220),
      DictEntry.mk (PyData.keyHash P (Str.ofString "__doc__"))
        (Value.str (Str.ofString "__doc__") 452) Value.none]
    4)
  #[]),
  (218, Obj.mk (Value.type "type") none
  (Data.cls
    (ClassData.mk (Str.ofString "Hand") [Value.type "object"]
      [Value.ref 218, Value.type "object"] 217 (Str.ofString "Hand") true [] [] false
      none false))
  #[none, none, some (Value.str (Str.ofString "Hand") 361),
    some (Value.str (Str.ofString "Hand") 369), some (Value.builtin "object.__new__"),
    some (Value.bool true)])]


section
variable {prog : Program} {w : World} {B : Shared} {mg mb : Str → Option Value} {scr : Addr} {nums : List Int} {K : Frag}

def isL (c : Nat) : Bool := decide (97 ≤ c ∧ c ≤ 122)
def isNameS (s : Str) : Bool := decide (1 ≤ s.length ∧ s.length ≤ 8) && s.cps.toList.all isL
def letters : Str := Str.ofString "abcdefghijklmnopqrstuvwxyz"
theorem letters_list : letters.cps.toList = List.range' 97 26 := by decide +kernel
theorem in_letters (x : Str) (i : Nat) : inS letters (signAt x i) = isL (x.cps.getD i 0) := by
  unfold signAt isL
  rw [inS_one, letters_list]
  congr 1
  simp only [List.mem_range'_1, eq_iff_iff]
  (lia)
theorem take_all_succ (x : Str) (i : Nat) (hi : i < x.cps.size) : (x.cps.toList.take (i + 1)).all isL = ((x.cps.toList.take i).all isL && isL (x.cps.getD i 0)) := by
  rw [List.take_add_one, List.all_append]
  have : x.cps.toList[i]? = some (x.cps.getD i 0) := by simp [Array.getD_eq_getD_getElem?, hi]
  rw [this]
  simp

theorem good_is_name : Good (dr pw_uf050040_14 3) ["thing"] :=
  ⟨fun pm code doc vals h => (by obtain ⟨a, rfl⟩ := len_1 h; rfl), by decide +kernel, by decide +kernel, by decide +kernel, rfl, rfl, rfl⟩
theorem cf_is_name (gl : Gl B mg mb) (bl : Blt B mg mb) (S : Scr B scr nums) (H : HasF B mg (dr pw_uf050040_14 3)) (g_L : GC B mg "LETTERS" (.str letters)) :
    CF prog w B mg "is_name" 1 (fun xs σ Q X => (∃ s, xs = [.str s] ∧ s.length < 10 ^ 9 ∧ Q (.bool (isNameS s)) σ) ∨ (∃ x, xs = [x] ∧ NonStr σ x ∧ Q (.bool false) σ)) := by
  refine CF_of gl H good_is_name ?_
  rintro A pm code doc L a₀ _ σ Q X hA (⟨x, rfl, hx, q⟩ | ⟨x, rfl, hx, q⟩)
  all_goals refine ⟨rfl, ?_⟩

  · change WX _ _ _ _ _ (_ :: _) ((_, _) :: []) _ _ _
    refine X_ifs ?_
    with_reducible (refine T_bool ?_; refine Ts_or ?_; refine T_not ?_; refine T_value ?_; refine E_bi (Blt.isinstance_ (by assumption)) (by first | exact Keep.builtin _ | exact Keep.type _) ?_; refine Es_cons ?_; refine E_nm ?_; refine LQ_here ?_; refine Es_cons ?_; refine E_nm ?_; refine LQ_there (by decide +kernel) ?_; refine LQ_nil ?_; refine N_bi (Blt.str_ (by assumption)) ?_; refine Es_nil ?_; refine isi_str (isi_str_str) ?_; refine T_b ?_; refine iteNo (by decide) ?_; refine Ts_or ?_; refine T_not ?_)
    refine T_as (decide (1 ≤ x.length ∧ x.length ≤ 8)) ?_ ?_
    · refine T_cmp2 ?_
      with_reducible (refine E_int ?_; refine E_bi (Blt.len_ (by assumption)) (by first | exact Keep.builtin _ | exact Keep.type _) ?_; refine Es_cons ?_; refine E_nm ?_; refine LQ_here ?_; refine Es_nil ?_)
      refine C_len_str (by (clear q hA g_L H S bl gl; lia)) ?_
      with_reducible (refine O_le ?_; refine T_b ?_)
      refine iteD (fun h => ?_) (fun h => ?_)
      · with_reducible (refine E_int ?_; refine O_le ?_; refine T_b ?_)
        exact ⟨by congr 1; simp; (clear q hx hA g_L H S bl gl; lia), rfl⟩
      · skip
        exact ⟨by symm; simp; (clear q hx hA g_L H S bl gl; lia), rfl⟩
    unfold isNameS at q
    refine iteDn (fun h => ?_) (fun h => ?_)
    · with_reducible (refine iteT ?_; refine X_ret ?_; refine E_bool ?_; refine sq_ret ?_)
      refine R_all ?_
      simpa [h] using q
    · with_reducible (refine Ts_or_nil ?_; refine iteF ?_; refine X_nil ?_; refine sq_next ?_)
      refine X_fors ?_
      with_reducible (refine E_nm ?_; refine LQ_here ?_)
      refine ForG.mk (ι := Unit) (fun i _ => (x.cps.toList.take i).all isL = true) (fun _ _ => [("thing", .str x)]) (fun _ _ => σ) (It_str hA.handled) () (by simp) rfl trivial (by with_reducible (refine Sub.cons ?_; refine LQ_here ?_; refine ⟨rfl, ?_⟩; exact Sub.nil)) ?_ ?_
      · rintro i ⟨⟩ hi hD -
        refine X_ifs ?_
        with_reducible (refine T_cmp1 ?_; refine E_nm ?_; refine LQ_here ?_; refine E_nm ?_; refine LQ_there (by decide +kernel) ?_; refine LQ_there (by decide +kernel) ?_; refine LQ_nil ?_; refine N_gc (by assumption) ?_)
        refine O_notins ?_
        with_reducible (refine T_b ?_)
        rw [in_letters]
        refine iteB (fun hl => ?_) (fun hl => ?_)
        · with_reducible (refine X_ret ?_; refine E_bool ?_; refine sq_ret ?_; refine TJ_ret ?_; refine sq_ret ?_)
          refine R_all ?_
          have : x.cps.toList.all isL = false := by
            rw [List.all_eq_false]
            exact ⟨x.cps.getD i 0, by simp [Array.getD_eq_getD_getElem?, hi], by simpa using hl⟩
          simpa [this] using q
        · with_reducible (refine X_nil ?_; refine sq_next ?_; refine X_nil ?_)
          exact TJ_next () (by rw [take_all_succ x i hi, hD]; simpa using hl) rfl trivial (by with_reducible (refine Sub.cons ?_; refine LQ_there (by decide +kernel) ?_; refine LQ_here ?_; refine ⟨rfl, ?_⟩; exact Sub.nil))
      · rintro ⟨⟩ hD -
        with_reducible (refine X_ret ?_; refine E_bool ?_)
        refine R_all ?_
        have e : x.cps.toList.take x.cps.size = x.cps.toList := List.take_of_length_le (by simp)
        rw [e] at hD
        simpa [h, hD] using q
  · change WX _ _ _ _ _ (_ :: _) ((_, _) :: []) _ _ _
    refine X_ifs ?_
    with_reducible (refine T_bool ?_; refine Ts_or ?_; refine T_not ?_; refine T_value ?_; refine E_bi (Blt.isinstance_ (by assumption)) (by first | exact Keep.builtin _ | exact Keep.type _) ?_; refine Es_cons ?_; refine E_nm ?_; refine LQ_here ?_; refine Es_cons ?_; refine E_nm ?_; refine LQ_there (by decide +kernel) ?_; refine LQ_nil ?_; refine N_bi (Blt.str_ (by assumption)) ?_; refine Es_nil ?_)
    refine isi_non hx ?_
    with_reducible (refine T_b ?_; refine iteYes (by decide) ?_; refine iteT ?_; refine X_ret ?_; refine E_bool ?_; refine sq_ret ?_)
    exact R_all q

theorem good_is_part : Good (dr pw_uf050040_14 10) ["thing"] :=
  ⟨fun pm code doc vals h => (by obtain ⟨a, rfl⟩ := len_1 h; rfl), by decide +kernel, by decide +kernel, by decide +kernel, rfl, rfl, rfl⟩
theorem cf_is_part (gl : Gl B mg mb) (bl : Blt B mg mb) (S : Scr B scr nums) (H : HasF B mg (dr pw_uf050040_14 10)) :
    CF prog w B mg "is_part" 1 (fun xs σ Q X => (∃ n, xs = [.int n] ∧ Q (.bool (decide (0 ≤ n ∧ n < 10 ^ 60))) σ) ∨ (∃ x, xs = [x] ∧ NonInt σ x ∧ Q (.bool false) σ)) := by
  refine CF_of gl H good_is_part ?_
  rintro A pm code doc L a₀ _ σ Q X hA (⟨n, rfl, q⟩ | ⟨x, rfl, (⟨b, rfl⟩ | hx), q⟩)
  all_goals refine ⟨rfl, ?_⟩

  · change WX _ _ _ _ _ (_ :: _) ((_, _) :: []) _ _ _
    with_reducible (refine X_ret ?_)
    refine E_boolop ?_
    with_reducible (refine Bo_and ?_; refine E_bi (Blt.isinstance_ (by assumption)) (by first | exact Keep.builtin _ | exact Keep.type _) ?_; refine Es_cons ?_; refine E_nm ?_; refine LQ_here ?_; refine Es_cons ?_; refine E_nm ?_; refine LQ_there (by decide +kernel) ?_; refine LQ_nil ?_; refine N_bi (Blt.int_ (by assumption)) ?_; refine Es_nil ?_; refine isi_int (isi_int_int) ?_; refine T_b ?_; refine iteT ?_; refine Bo_and ?_; refine E_un ?_; refine E_bi (Blt.isinstance_ (by assumption)) (by first | exact Keep.builtin _ | exact Keep.type _) ?_; refine Es_cons ?_; refine E_nm ?_; refine LQ_here ?_; refine Es_cons ?_; refine E_nm ?_; refine LQ_there (by decide +kernel) ?_; refine LQ_nil ?_; refine N_bi (Blt.bool_ (by assumption)) ?_; refine Es_nil ?_; refine isi_int (isi_int_bool) ?_; refine O_not ?_; refine T_b ?_; refine iteYes (by decide) ?_; refine Bo_one ?_)
    refine E_cmp2 ?_
    with_reducible (refine E_int ?_; refine E_nm ?_; refine LQ_here ?_; refine O_le ?_; refine T_b ?_)
    refine iteD (fun h => ?_) (fun h => ?_)
    · with_reducible (refine E_bin ?_; refine E_int ?_; refine E_int ?_; refine O_pow60 ?_; refine O_lt ?_)
      refine R_all ?_
      simpa only [h, true_and] using q
    · refine R_all ?_
      simpa only [h, false_and] using q
  · change WX _ _ _ _ _ (_ :: _) ((_, _) :: []) _ _ _
    with_reducible (refine X_ret ?_)
    refine E_boolop ?_
    with_reducible (refine Bo_and ?_; refine E_bi (Blt.isinstance_ (by assumption)) (by first | exact Keep.builtin _ | exact Keep.type _) ?_; refine Es_cons ?_; refine E_nm ?_; refine LQ_here ?_; refine Es_cons ?_; refine E_nm ?_; refine LQ_there (by decide +kernel) ?_; refine LQ_nil ?_; refine N_bi (Blt.int_ (by assumption)) ?_; refine Es_nil ?_; refine isi_bool (isi_bool_int) ?_; refine T_b ?_; refine iteT ?_; refine Bo_and ?_; refine E_un ?_; refine E_bi (Blt.isinstance_ (by assumption)) (by first | exact Keep.builtin _ | exact Keep.type _) ?_; refine Es_cons ?_; refine E_nm ?_; refine LQ_here ?_; refine Es_cons ?_; refine E_nm ?_; refine LQ_there (by decide +kernel) ?_; refine LQ_nil ?_; refine N_bi (Blt.bool_ (by assumption)) ?_; refine Es_nil ?_; refine isi_bool (isi_bool_bool) ?_; refine O_not ?_; refine T_b ?_; refine iteNo (by decide) ?_)
    exact R_all q
  · change WX _ _ _ _ _ (_ :: _) ((_, _) :: []) _ _ _
    with_reducible (refine X_ret ?_)
    refine E_boolop ?_
    with_reducible (refine Bo_and ?_; refine E_bi (Blt.isinstance_ (by assumption)) (by first | exact Keep.builtin _ | exact Keep.type _) ?_; refine Es_cons ?_; refine E_nm ?_; refine LQ_here ?_; refine Es_cons ?_; refine E_nm ?_; refine LQ_there (by decide +kernel) ?_; refine LQ_nil ?_; refine N_bi (Blt.int_ (by assumption)) ?_; refine Es_nil ?_)
    refine isi_non hx ?_
    with_reducible (refine T_b ?_; refine iteF ?_)
    exact R_all q

def shareB : V → Bool
  | .tup [.int a, .int b] => decide ((0 ≤ a ∧ a < 10 ^ 60) ∧ (0 ≤ b ∧ b < 10 ^ 60) ∧ 0 < a + b)
  | _ => false
/-- what is_share tells of a thing -/
inductive ShareR (σ : List AObj) : V → Prop
  | good (a b : Int) : ShareR σ (.tup [.int a, .int b])
  | left (x y : V) : NonInt σ x → ShareR σ (.tup [x, y])
  | right (a : Int) (y : V) : NonInt σ y → ShareR σ (.tup [.int a, y])
  | one (x : V) : ShareR σ (.tup [x])
  | three (x y z : V) : ShareR σ (.tup [x, y, z])
  | non (x : V) : NonTup σ x → ShareR σ x
theorem NonInt.map {σ σ' : List AObj} {x : V} (f : ∀ T, TyV σ x T → TyV σ' x T) (h : NonInt σ x) : NonInt σ' x := h.imp id fun ⟨T, h1, h2⟩ => ⟨T, f T h1, h2⟩
theorem ShareR.map {σ σ' : List AObj} {x : V} (f : ∀ y T, TyV σ y T → TyV σ' y T) (h : ShareR σ x) : ShareR σ' x := by
  cases h with
  | good a b => exact .good a b
  | left x y h => exact .left x y (h.map (f x))
  | right a y h => exact .right a y (h.map (f y))
  | one x => exact .one x
  | three x y z => exact .three x y z
  | non x h => obtain ⟨T, h1, h2⟩ := h; exact .non x ⟨T, f x T h1, h2⟩
theorem nonInt_not {σ : List AObj} {a : Int} (h : NonInt σ (.int a)) : False := by
  rcases h with ⟨b, e⟩ | ⟨T, h1, h2⟩
  · cases e
  · cases h1
    have := h2.2.2.2 rfl
    revert this; decide
theorem shareB_left {σ : List AObj} {x y : V} (h : NonInt σ x) : shareB (.tup [x, y]) = false := by
  unfold shareB
  split
  · rename_i a b e
    cases e
    exact (nonInt_not h).elim
  · rfl
theorem shareB_right {σ : List AObj} {x y : V} (h : NonInt σ y) : shareB (.tup [x, y]) = false := by
  unfold shareB
  split
  · rename_i a b e
    cases e
    exact (nonInt_not h).elim
  · rfl
theorem shareB_non {σ : List AObj} {x : V} (h : NonTup σ x) : shareB x = false := by
  unfold shareB
  split
  · obtain ⟨T, h1, h2⟩ := h
    cases h1
    exact absurd (h2.2.2.2 rfl) (by decide)
  · rfl
theorem shareB_one (x : V) : shareB (.tup [x]) = false := by
  unfold shareB
  split
  · rename_i e; cases e
  · rfl
theorem shareB_three (x y z : V) : shareB (.tup [x, y, z]) = false := by
  unfold shareB
  split
  · rename_i e; cases e
  · rfl

theorem good_is_share : Good (dr pw_uf050040_14 11) ["thing"] :=
  ⟨fun pm code doc vals h => (by obtain ⟨a, rfl⟩ := len_1 h; rfl), by decide +kernel, by decide +kernel, by decide +kernel, rfl, rfl, rfl⟩
theorem cf_is_share (gl : Gl B mg mb) (bl : Blt B mg mb) (S : Scr B scr nums) (H : HasF B mg (dr pw_uf050040_14 11))
    (c_is_part : CF prog w B mg "is_part" 1 (fun xs σ Q X => (∃ n, xs = [.int n] ∧ Q (.bool (decide (0 ≤ n ∧ n < 10 ^ 60))) σ) ∨ (∃ x, xs = [x] ∧ NonInt σ x ∧ Q (.bool false) σ))) :
    CF prog w B mg "is_share" 2 (fun xs σ Q X => ∃ x, xs = [x] ∧ ShareR σ x ∧ Q (.bool (shareB x)) σ) := by
  refine CF_of gl H good_is_share ?_
  rintro A pm code doc L a₀ _ σ Q X hA ⟨x, rfl, hx, q⟩
  all_goals refine ⟨rfl, ?_⟩

  cases hx with
  | good a b =>
    change WX _ _ _ _ _ (_ :: _) ((_, _) :: []) _ _ _
    refine X_ifs ?_
    with_reducible (refine T_bool ?_; refine Ts_or ?_; refine T_not ?_; refine T_value ?_; refine E_bi (Blt.isinstance_ (by assumption)) (by first | exact Keep.builtin _ | exact Keep.type _) ?_; refine Es_cons ?_; refine E_nm ?_; refine LQ_here ?_; refine Es_cons ?_; refine E_nm ?_; refine LQ_there (by decide +kernel) ?_; refine LQ_nil ?_; refine N_bi (Blt.tuple_ (by assumption)) ?_; refine Es_nil ?_; refine isi_tup (isi_tuple_tuple) ?_; refine T_b ?_; refine iteNo (by decide) ?_; refine Ts_or ?_; refine T_cmp1 ?_; refine E_bi (Blt.len_ (by assumption)) (by first | exact Keep.builtin _ | exact Keep.type _) ?_; refine Es_cons ?_; refine E_nm ?_; refine LQ_here ?_; refine Es_nil ?_; refine C_len_t2 ?_; refine E_int ?_; refine O_ne ?_; refine T_b ?_; refine iteNo (by decide) ?_; refine Ts_or_nil ?_; refine iteF ?_; refine X_nil ?_; refine sq_next ?_; refine X_ret ?_)
    refine E_boolop ?_
    with_reducible (refine Bo_and ?_; refine E_cf (by assumption) (AOk.le (by assumption) (by decide)) ?_; refine Es_cons ?_; refine E_sub ?_; refine E_nm ?_; refine LQ_here ?_; refine E_int ?_; refine S_t0 ?_; refine Es_nil ?_)
    refine .inl ⟨_, rfl, ?_⟩
    with_reducible (refine T_b ?_)
    unfold shareB at q
    refine iteD (fun h => ?_) (fun h => ?_)
    · with_reducible (refine Bo_and ?_; refine E_cf (by assumption) (AOk.le (by assumption) (by decide)) ?_; refine Es_cons ?_; refine E_sub ?_; refine E_nm ?_; refine LQ_here ?_; refine E_int ?_; refine S_t1 ?_; refine Es_nil ?_)
      refine .inl ⟨_, rfl, ?_⟩
      with_reducible (refine T_b ?_)
      refine iteD (fun h' => ?_) (fun h' => ?_)
      · with_reducible (refine Bo_one ?_; refine E_cmp1 ?_; refine E_bin ?_; refine E_sub ?_; refine E_nm ?_; refine LQ_here ?_; refine E_int ?_; refine S_t0 ?_; refine E_sub ?_; refine E_nm ?_; refine LQ_here ?_; refine E_int ?_; refine S_t1 ?_; refine O_add ?_; refine E_int ?_; refine O_gt ?_)
        refine R_all ?_
        simpa only [h, h', true_and] using q
      · refine R_all ?_
        simpa only [h, h', true_and, false_and] using q
    · refine R_all ?_
      simpa only [h, false_and] using q
  | left x y h =>
    change WX _ _ _ _ _ (_ :: _) ((_, _) :: []) _ _ _
    rw [shareB_left h] at q
    refine X_ifs ?_
    with_reducible (refine T_bool ?_; refine Ts_or ?_; refine T_not ?_; refine T_value ?_; refine E_bi (Blt.isinstance_ (by assumption)) (by first | exact Keep.builtin _ | exact Keep.type _) ?_; refine Es_cons ?_; refine E_nm ?_; refine LQ_here ?_; refine Es_cons ?_; refine E_nm ?_; refine LQ_there (by decide +kernel) ?_; refine LQ_nil ?_; refine N_bi (Blt.tuple_ (by assumption)) ?_; refine Es_nil ?_; refine isi_tup (isi_tuple_tuple) ?_; refine T_b ?_; refine iteNo (by decide) ?_; refine Ts_or ?_; refine T_cmp1 ?_; refine E_bi (Blt.len_ (by assumption)) (by first | exact Keep.builtin _ | exact Keep.type _) ?_; refine Es_cons ?_; refine E_nm ?_; refine LQ_here ?_; refine Es_nil ?_; refine C_len_t2 ?_; refine E_int ?_; refine O_ne ?_; refine T_b ?_; refine iteNo (by decide) ?_; refine Ts_or_nil ?_; refine iteF ?_; refine X_nil ?_; refine sq_next ?_; refine X_ret ?_)
    refine E_boolop ?_
    with_reducible (refine Bo_and ?_; refine E_cf (by assumption) (AOk.le (by assumption) (by decide)) ?_; refine Es_cons ?_; refine E_sub ?_; refine E_nm ?_; refine LQ_here ?_; refine E_int ?_; refine S_t0 ?_; refine Es_nil ?_)
    refine .inr ⟨_, rfl, h, ?_⟩
    with_reducible (refine T_b ?_; refine iteF ?_)
    exact R_all q
  | right a y h =>
    change WX _ _ _ _ _ (_ :: _) ((_, _) :: []) _ _ _
    rw [shareB_right h] at q
    refine X_ifs ?_
    with_reducible (refine T_bool ?_; refine Ts_or ?_; refine T_not ?_; refine T_value ?_; refine E_bi (Blt.isinstance_ (by assumption)) (by first | exact Keep.builtin _ | exact Keep.type _) ?_; refine Es_cons ?_; refine E_nm ?_; refine LQ_here ?_; refine Es_cons ?_; refine E_nm ?_; refine LQ_there (by decide +kernel) ?_; refine LQ_nil ?_; refine N_bi (Blt.tuple_ (by assumption)) ?_; refine Es_nil ?_; refine isi_tup (isi_tuple_tuple) ?_; refine T_b ?_; refine iteNo (by decide) ?_; refine Ts_or ?_; refine T_cmp1 ?_; refine E_bi (Blt.len_ (by assumption)) (by first | exact Keep.builtin _ | exact Keep.type _) ?_; refine Es_cons ?_; refine E_nm ?_; refine LQ_here ?_; refine Es_nil ?_; refine C_len_t2 ?_; refine E_int ?_; refine O_ne ?_; refine T_b ?_; refine iteNo (by decide) ?_; refine Ts_or_nil ?_; refine iteF ?_; refine X_nil ?_; refine sq_next ?_; refine X_ret ?_)
    refine E_boolop ?_
    with_reducible (refine Bo_and ?_; refine E_cf (by assumption) (AOk.le (by assumption) (by decide)) ?_; refine Es_cons ?_; refine E_sub ?_; refine E_nm ?_; refine LQ_here ?_; refine E_int ?_; refine S_t0 ?_; refine Es_nil ?_)
    refine .inl ⟨_, rfl, ?_⟩
    with_reducible (refine T_b ?_)
    refine iteD (fun h' => ?_) (fun h' => ?_)
    · with_reducible (refine Bo_and ?_; refine E_cf (by assumption) (AOk.le (by assumption) (by decide)) ?_; refine Es_cons ?_; refine E_sub ?_; refine E_nm ?_; refine LQ_here ?_; refine E_int ?_; refine S_t1 ?_; refine Es_nil ?_)
      refine .inr ⟨_, rfl, h, ?_⟩
      with_reducible (refine T_b ?_; refine iteF ?_)
      exact R_all q
    · refine R_all ?_
      rw [decide_eq_false h']
      exact q
  | one x =>
    change WX _ _ _ _ _ (_ :: _) ((_, _) :: []) _ _ _
    rw [shareB_one] at q
    refine X_ifs ?_
    with_reducible (refine T_bool ?_; refine Ts_or ?_; refine T_not ?_; refine T_value ?_; refine E_bi (Blt.isinstance_ (by assumption)) (by first | exact Keep.builtin _ | exact Keep.type _) ?_; refine Es_cons ?_; refine E_nm ?_; refine LQ_here ?_; refine Es_cons ?_; refine E_nm ?_; refine LQ_there (by decide +kernel) ?_; refine LQ_nil ?_; refine N_bi (Blt.tuple_ (by assumption)) ?_; refine Es_nil ?_; refine isi_tup (isi_tuple_tuple) ?_; refine T_b ?_; refine iteNo (by decide) ?_; refine Ts_or ?_; refine T_cmp1 ?_; refine E_bi (Blt.len_ (by assumption)) (by first | exact Keep.builtin _ | exact Keep.type _) ?_; refine Es_cons ?_; refine E_nm ?_; refine LQ_here ?_; refine Es_nil ?_; refine C_len_t1 ?_; refine E_int ?_; refine O_ne ?_; refine T_b ?_; refine iteYes (by decide) ?_; refine iteT ?_; refine X_ret ?_; refine E_bool ?_; refine sq_ret ?_)
    exact R_all q
  | three x y z =>
    change WX _ _ _ _ _ (_ :: _) ((_, _) :: []) _ _ _
    rw [shareB_three] at q
    refine X_ifs ?_
    with_reducible (refine T_bool ?_; refine Ts_or ?_; refine T_not ?_; refine T_value ?_; refine E_bi (Blt.isinstance_ (by assumption)) (by first | exact Keep.builtin _ | exact Keep.type _) ?_; refine Es_cons ?_; refine E_nm ?_; refine LQ_here ?_; refine Es_cons ?_; refine E_nm ?_; refine LQ_there (by decide +kernel) ?_; refine LQ_nil ?_; refine N_bi (Blt.tuple_ (by assumption)) ?_; refine Es_nil ?_; refine isi_tup (isi_tuple_tuple) ?_; refine T_b ?_; refine iteNo (by decide) ?_; refine Ts_or ?_; refine T_cmp1 ?_; refine E_bi (Blt.len_ (by assumption)) (by first | exact Keep.builtin _ | exact Keep.type _) ?_; refine Es_cons ?_; refine E_nm ?_; refine LQ_here ?_; refine Es_nil ?_; refine C_len_t3 ?_; refine E_int ?_; refine O_ne ?_; refine T_b ?_; refine iteYes (by decide) ?_; refine iteT ?_; refine X_ret ?_; refine E_bool ?_; refine sq_ret ?_)
    exact R_all q
  | non x h =>
    change WX _ _ _ _ _ (_ :: _) ((_, _) :: []) _ _ _
    rw [shareB_non h] at q
    refine X_ifs ?_
    with_reducible (refine T_bool ?_; refine Ts_or ?_; refine T_not ?_; refine T_value ?_; refine E_bi (Blt.isinstance_ (by assumption)) (by first | exact Keep.builtin _ | exact Keep.type _) ?_; refine Es_cons ?_; refine E_nm ?_; refine LQ_here ?_; refine Es_cons ?_; refine E_nm ?_; refine LQ_there (by decide +kernel) ?_; refine LQ_nil ?_; refine N_bi (Blt.tuple_ (by assumption)) ?_; refine Es_nil ?_)
    refine isi_non h ?_
    with_reducible (refine T_b ?_; refine iteYes (by decide) ?_; refine iteT ?_; refine X_ret ?_; refine E_bool ?_; refine sq_ret ?_)
    exact R_all q

def keyB : Key → Bool
  | .s x => isNameS x
  | .i _ => false
def keyLen : Key → Prop
  | .s x => x.length < 10 ^ 9
  | .i _ => True
def pageB (es : List (Key × V)) : Bool := decide (es.length ≤ 200) && es.all fun p => keyB p.1 && shareB p.2
theorem all_take_succ {α : Type} (f : α → Bool) (l : List α) (i : Nat) (hi : i < l.length) : (l.take (i + 1)).all f = ((l.take i).all f && f l[i]) := by
  rw [List.take_add_one, List.all_append, List.getElem?_eq_getElem hi]
  simp

theorem good_is_page : Good (dr pw_uf050040_14 12) ["thing"] :=
  ⟨fun pm code doc vals h => (by obtain ⟨a, rfl⟩ := len_1 h; rfl), by decide +kernel, by decide +kernel, by decide +kernel, rfl, rfl, rfl⟩
theorem cf_is_page (gl : Gl B mg mb) (bl : Blt B mg mb) (S : Scr B scr nums) (H : HasF B mg (dr pw_uf050040_14 12)) (g_M : GC B mg "MOST_NAMES" (.int 200))
    (c_is_name : CF prog w B mg "is_name" 1 (fun xs σ Q X => (∃ s, xs = [.str s] ∧ s.length < 10 ^ 9 ∧ Q (.bool (isNameS s)) σ) ∨ (∃ x, xs = [x] ∧ NonStr σ x ∧ Q (.bool false) σ)))
    (c_is_share : CF prog w B mg "is_share" 2 (fun xs σ Q X => ∃ x, xs = [x] ∧ ShareR σ x ∧ Q (.bool (shareB x)) σ)) :
    CF prog w B mg "is_page" 3 (fun xs σ Q X => (∃ k es e, xs = [.ref k] ∧ σ[k]? = some (.dict es e) ∧ es.length ≤ 100000 ∧ (∀ p ∈ es, keyLen p.1 ∧ ShareR σ p.2) ∧ Q (.bool (pageB es)) σ) ∨ (∃ x, xs = [x] ∧ NonDict σ x ∧ Q (.bool false) σ)) := by
  refine CF_of gl H good_is_page ?_
  rintro A pm code doc L a₀ _ σ Q X hA (⟨k, es, e, rfl, hk, hlen, hes, q⟩ | ⟨x, rfl, hx, q⟩)
  all_goals refine ⟨rfl, ?_⟩

  · change WX _ _ _ _ _ (_ :: _) ((_, _) :: []) _ _ _
    refine X_keys hk fun hnd => ?_
    refine X_ifs ?_
    with_reducible (refine T_bool ?_; refine Ts_or ?_; refine T_not ?_; refine T_value ?_; refine E_bi (Blt.isinstance_ (by assumption)) (by first | exact Keep.builtin _ | exact Keep.type _) ?_; refine Es_cons ?_; refine E_nm ?_; refine LQ_here ?_; refine Es_cons ?_; refine E_nm ?_; refine LQ_there (by decide +kernel) ?_; refine LQ_nil ?_; refine N_bi (Blt.dict_ (by assumption)) ?_; refine Es_nil ?_)
    refine isi_dict hk isi_dict_dict ?_
    with_reducible (refine T_b ?_; refine iteNo (by decide) ?_; refine Ts_or ?_; refine T_cmp1 ?_; refine E_bi (Blt.len_ (by assumption)) (by first | exact Keep.builtin _ | exact Keep.type _) ?_; refine Es_cons ?_; refine E_nm ?_; refine LQ_here ?_; refine Es_nil ?_)
    refine C_len_dict hk (by (clear hnd q hes hk hA c_is_share c_is_name g_M H S bl gl; lia)) ?_
    with_reducible (refine E_nm ?_; refine LQ_there (by decide +kernel) ?_; refine LQ_nil ?_; refine N_gc (by assumption) ?_; refine O_gt ?_; refine T_b ?_)
    unfold pageB at q
    refine iteD (fun h => ?_) (fun h => ?_)
    · with_reducible (refine iteT ?_; refine X_ret ?_; refine E_bool ?_; refine sq_ret ?_)
      refine R_all ?_
      rw [decide_eq_false (by (clear hnd q hes hlen hk hA c_is_share c_is_name g_M H S bl gl; lia))] at q
      exact q
    · with_reducible (refine Ts_or_nil ?_; refine iteF ?_; refine X_nil ?_; refine sq_next ?_)
      rw [decide_eq_true (by (clear hnd q hes hlen hk hA c_is_share c_is_name g_M H S bl gl; lia)), Bool.true_and] at q
      refine X_ford (ι := Unit) (fun i _ => (es.take i).all (fun p => keyB p.1 && shareB p.2) = true) (fun _ _ => [("thing", .ref k)]) (fun _ _ => σ) () hA.handled hk (fun ep => ?_) (by simp) rfl (by with_reducible (refine Sub.cons ?_; refine LQ_here ?_; refine ⟨rfl, ?_⟩; exact Sub.nil)) (fun _ _ _ => hk) ?_ ?_
      · with_reducible (refine E_nm ?_; refine LQ_here ?_; refine ⟨rfl, ?_⟩)
        first | exact ⟨rfl, rfl⟩ | rfl
      · rintro ep i ⟨⟩ hi hD
        have hmem : es[i] ∈ es := List.getElem_mem hi
        obtain ⟨hkl, hsh⟩ := hes _ hmem
        have hall := all_take_succ (fun p : Key × V => keyB p.1 && shareB p.2) es i hi
        rw [hD, Bool.true_and] at hall
        have bad : (keyB es[i].1 && shareB es[i].2) = false → es.all (fun p => keyB p.1 && shareB p.2) = false := fun hb => by
          rw [List.all_eq_false]; exact ⟨_, hmem, by rw [hb]; decide⟩
        have hat := at_get hnd hi
        rw [keyAt_get hi]
        generalize es[i] = p at *
        obtain ⟨key, v⟩ := p
        dsimp only at *
        refine X_ifs ?_
        refine T_as (!(keyB key && shareB v)) ?_ ?_
        · have hsh' : ShareR (pin σ k es ep) v := hsh.map fun y T h => h.pin hk
          cases key with
          | s x =>
            with_reducible (refine T_bool ?_; refine Ts_or ?_; refine T_not ?_; refine T_value ?_; refine E_cf (by assumption) (AOk.le (by assumption) (by decide)) ?_; refine Es_cons ?_; refine E_nm ?_; refine LQ_here ?_; refine Es_nil ?_)
            refine .inl ⟨x, rfl, hkl, ?_⟩
            with_reducible (refine T_b ?_)
            refine iteB (fun hb => ?_) (fun hb => ?_)
            · have e : isNameS x = false := by simpa using hb
              skip
              exact ⟨by simp [keyB, e], rfl⟩
            · have e : isNameS x = true := by simpa using hb
              with_reducible (refine Ts_or ?_; refine T_not ?_; refine T_value ?_; refine E_cf (by assumption) (AOk.le (by assumption) (by decide)) ?_; refine Es_cons ?_; refine E_sub ?_; refine E_nm ?_; refine LQ_there (by decide +kernel) ?_; refine LQ_here ?_; refine E_nm ?_; refine LQ_here ?_)
              refine S_dict (key := .s x) (pin_at hk) hat ?_
              with_reducible (refine Es_nil ?_; refine ⟨_, rfl, ?_⟩; refine And.intro (by first | omega | with_unfolding_all exact Nat.le_of_ble_eq_true rfl) ?_; refine T_b ?_)
              try (refine ⟨hsh', ?_⟩; skip)
              refine iteB (fun hb' => ?_) (fun hb' => ?_)
              · have e' : shareB v = false := by simpa using hb'
                skip
                exact ⟨by simp [e'], rfl⟩
              · have e' : shareB v = true := by simpa using hb'
                with_reducible (refine Ts_or_nil ?_)
                exact ⟨by simp [keyB, e, e'], rfl⟩
          | i n =>
            with_reducible (refine T_bool ?_; refine Ts_or ?_; refine T_not ?_; refine T_value ?_; refine E_cf (by assumption) (AOk.le (by assumption) (by decide)) ?_; refine Es_cons ?_; refine E_nm ?_; refine LQ_here ?_; refine Es_nil ?_)
            refine .inr ⟨_, rfl, ⟨_, .int _, isi_int_str⟩, ?_⟩
            with_reducible (refine T_b ?_; refine iteYes (by decide) ?_; refine ⟨rfl, ?_⟩)
            first | rfl | exact ⟨by simp [keyB], rfl⟩
        refine iteB (fun hb => ?_) (fun hb => ?_)
        · with_reducible (refine X_ret ?_; refine E_bool ?_; refine sq_ret ?_)
          refine TD_ret (pin_at hk) ?_
          rw [pin_set hk]
          with_reducible (refine sq_ret ?_)
          rw [bad ((Bool.not_eq_true' _).mp hb)] at q
          exact R_all q
        · with_reducible (refine X_nil ?_; refine sq_next ?_; refine X_nil ?_)
          exact TD_next () (by rw [hall]; simpa using hb) rfl (by with_reducible (refine Sub.cons ?_; refine LQ_there (by decide +kernel) ?_; refine LQ_here ?_; refine ⟨rfl, ?_⟩; exact Sub.nil))
      · rintro ⟨⟩ hD
        with_reducible (refine X_ret ?_; refine E_bool ?_)
        refine R_all ?_
        rw [List.take_length] at hD
        rw [hD] at q
        exact q
  · change WX _ _ _ _ _ (_ :: _) ((_, _) :: []) _ _ _
    refine X_ifs ?_
    with_reducible (refine T_bool ?_; refine Ts_or ?_; refine T_not ?_; refine T_value ?_; refine E_bi (Blt.isinstance_ (by assumption)) (by first | exact Keep.builtin _ | exact Keep.type _) ?_; refine Es_cons ?_; refine E_nm ?_; refine LQ_here ?_; refine Es_cons ?_; refine E_nm ?_; refine LQ_there (by decide +kernel) ?_; refine LQ_nil ?_; refine N_bi (Blt.dict_ (by assumption)) ?_; refine Es_nil ?_)
    refine isi_non hx ?_
    with_reducible (refine T_b ?_; refine iteYes (by decide) ?_; refine iteT ?_; refine X_ret ?_; refine E_bool ?_; refine sq_ret ?_)
    exact R_all q

theorem good_greater : Good (dr pw_uf050040_14 5) ["one", "other"] :=
  ⟨fun pm code doc vals h => (by obtain ⟨a, b, rfl⟩ := len_2 h; rfl), by decide +kernel, by decide +kernel, by decide +kernel, rfl, rfl, rfl⟩
theorem cf_greater (gl : Gl B mg mb) (bl : Blt B mg mb) (S : Scr B scr nums) (H : HasF B mg (dr pw_uf050040_14 5)) :
    CF prog w B mg "greater" 1 (fun xs σ Q X => ∃ a b c d, xs = [.tup [.int a, .int b], .tup [.int c, .int d]] ∧ Q (.tup [.int (max a c), .int (max b d)]) σ) := by
  refine CF_of gl H good_greater ?_
  rintro A pm code doc L a₀ _ σ Q X hA ⟨a, b, c, d, rfl, q⟩
  refine ⟨rfl, ?_⟩
  change WX _ _ _ _ _ (_ :: _) ((_, _) :: (_, _) :: []) _ _ _

  with_reducible (refine X_ret ?_; refine E_tuple ?_; refine Es_cons ?_; refine E_bi (Blt.max_ (by assumption)) (by first | exact Keep.builtin _ | exact Keep.type _) ?_; refine Es_cons ?_; refine E_sub ?_; refine E_nm ?_; refine LQ_here ?_; refine E_int ?_; refine S_t0 ?_; refine Es_cons ?_; refine E_sub ?_; refine E_nm ?_; refine LQ_there (by decide +kernel) ?_; refine LQ_here ?_; refine E_int ?_; refine S_t0 ?_; refine Es_nil ?_; refine C_max (AOk.handled (by assumption)) ?_; refine Es_cons ?_; refine E_bi (Blt.max_ (by assumption)) (by first | exact Keep.builtin _ | exact Keep.type _) ?_; refine Es_cons ?_; refine E_sub ?_; refine E_nm ?_; refine LQ_here ?_; refine E_int ?_; refine S_t1 ?_; refine Es_cons ?_; refine E_sub ?_; refine E_nm ?_; refine LQ_there (by decide +kernel) ?_; refine LQ_here ?_; refine E_int ?_; refine S_t1 ?_; refine Es_nil ?_; refine C_max (AOk.handled (by assumption)) ?_; refine Es_nil ?_; refine And.intro (by first | omega | with_unfolding_all exact Nat.le_of_ble_eq_true rfl) ?_)
  exact R_all q

theorem good_reaches : Good (dr pw_uf050040_14 6) ["one", "other"] :=
  ⟨fun pm code doc vals h => (by obtain ⟨a, b, rfl⟩ := len_2 h; rfl), by decide +kernel, by decide +kernel, by decide +kernel, rfl, rfl, rfl⟩
theorem cf_reaches (gl : Gl B mg mb) (bl : Blt B mg mb) (S : Scr B scr nums) (H : HasF B mg (dr pw_uf050040_14 6)) :
    CF prog w B mg "reaches" 1 (fun xs σ Q X => ∃ a b c d, xs = [.tup [.int a, .int b], .tup [.int c, .int d]] ∧ Q (.bool (decide (c ≤ a ∧ d ≤ b))) σ) := by
  refine CF_of gl H good_reaches ?_
  rintro A pm code doc L a₀ _ σ Q X hA ⟨a, b, c, d, rfl, q⟩
  refine ⟨rfl, ?_⟩
  change WX _ _ _ _ _ (_ :: _) ((_, _) :: (_, _) :: []) _ _ _

  with_reducible (refine X_ret ?_)
  refine E_boolop ?_
  with_reducible (refine Bo_and ?_; refine E_cmp1 ?_; refine E_sub ?_; refine E_nm ?_; refine LQ_here ?_; refine E_int ?_; refine S_t0 ?_; refine E_sub ?_; refine E_nm ?_; refine LQ_there (by decide +kernel) ?_; refine LQ_here ?_; refine E_int ?_; refine S_t0 ?_; refine O_ge ?_; refine T_b ?_)
  refine iteD (fun h => ?_) (fun h => ?_)
  · with_reducible (refine Bo_one ?_; refine E_cmp1 ?_; refine E_sub ?_; refine E_nm ?_; refine LQ_here ?_; refine E_int ?_; refine S_t1 ?_; refine E_sub ?_; refine E_nm ?_; refine LQ_there (by decide +kernel) ?_; refine LQ_here ?_; refine E_int ?_; refine S_t1 ?_; refine O_ge ?_)
    refine R_all ?_
    simpa [h] using q
  · refine R_all ?_
    simpa [h] using q

theorem good_net : Good (dr pw_uf050040_14 7) ["share"] :=
  ⟨fun pm code doc vals h => (by obtain ⟨a, rfl⟩ := len_1 h; rfl), by decide +kernel, by decide +kernel, by decide +kernel, rfl, rfl, rfl⟩
theorem cf_net (gl : Gl B mg mb) (bl : Blt B mg mb) (S : Scr B scr nums) (H : HasF B mg (dr pw_uf050040_14 7)) :
    CF prog w B mg "net" 1 (fun xs σ Q X => ∃ a b, xs = [.tup [.int a, .int b]] ∧ Q (.int (a - b)) σ) := by
  refine CF_of gl H good_net ?_
  rintro A pm code doc L a₀ _ σ Q X hA ⟨a, b, rfl, q⟩
  refine ⟨rfl, ?_⟩
  change WX _ _ _ _ _ (_ :: _) ((_, _) :: []) _ _ _

  with_reducible (refine X_ret ?_; refine E_bin ?_; refine E_sub ?_; refine E_nm ?_; refine LQ_here ?_; refine E_int ?_; refine S_t0 ?_; refine E_sub ?_; refine E_nm ?_; refine LQ_here ?_; refine E_int ?_; refine S_t1 ?_; refine O_sub ?_)
  exact R_all q

theorem isNameS_len {x : Str} (h : isNameS x = true) : 1 ≤ x.length ∧ x.length ≤ 8 := by
  unfold isNameS at h
  simp only [Bool.and_eq_true, decide_eq_true_eq] at h
  exact h.1
theorem isNameS_of {l : List Nat} (h1 : 1 ≤ l.length) (h2 : l.length ≤ 8) (h : ∀ c ∈ l, isL c = true) : isNameS ⟨l.toArray⟩ = true := by
  unfold isNameS
  simp only [Str.length, List.size_toArray, Bool.and_eq_true, decide_eq_true_eq, List.all_eq_true]
  exact ⟨⟨h1, h2⟩, h⟩
theorem isNameS_all {x : Str} (h : isNameS x = true) : ∀ c ∈ x.cps.toList, isL c = true := by
  unfold isNameS at h
  simp only [Bool.and_eq_true, List.all_eq_true] at h
  exact h.2

abbrev Pg := List (Str × Int × Int)
abbrev shV (x : Int × Int) : V := .tup [.int x.1, .int x.2]
def toRow (r : Str × Int × Int) : Key × V := (.s r.1, shV r.2)
def pgE (p : Pg) : List (Key × V) := p.map toRow
def look? (p : Pg) (n : Str) : Option (Int × Int) := (p.find? fun r => r.1 = n).map (·.2)
def look (p : Pg) (n : Str) : Int × Int := (look? p n).getD (0, 0)
def names (p : Pg) : List Str := p.map (·.1)
def reach (a b : Int × Int) : Bool := decide (b.1 ≤ a.1 ∧ b.2 ≤ a.2)
def pput (p : Pg) (n : Str) (v : Int × Int) : Pg := if p.any (fun r => r.1 = n) then p.map (fun r => if r.1 = n then (r.1, v) else r) else p ++ [(n, v)]
theorem pgE_length (p : Pg) : (pgE p).length = p.length := by simp [pgE]
theorem pgE_keys (p : Pg) : (pgE p).map (·.1) = (names p).map Key.s := by simp [pgE, names, toRow]
theorem at_pg (p : Pg) (n : Str) : at? (pgE p) (.s n) = (look? p n).map shV := by
  unfold at? look? pgE
  induction p with
  | nil => rfl
  | cons r t ih =>
    by_cases h : r.1 = n
    · simp [toRow, h]
    · simpa [toRow, h] using ih
theorem at_pgD (p : Pg) (n : Str) : (at? (pgE p) (.s n)).getD (.tup [.int 0, .int 0]) = shV (look p n) := by
  rw [at_pg]; unfold look; cases look? p n <;> rfl
theorem put_pg (p : Pg) (n : Str) (v : Int × Int) : put (pgE p) (.s n) (shV v) = pgE (pput p n v) := by
  unfold put pput pgE
  have e : (p.map toRow).any (fun e => e.1 = Key.s n) = p.any (fun r => r.1 = n) := by
    rw [List.any_map]; congr 1; funext r; simp [toRow]
  rw [e]
  split
  · rw [List.map_map, List.map_map]; congr 1; funext r
    by_cases h : r.1 = n <;> simp [toRow, h]
  · simp [toRow]
theorem look?_get {p : Pg} (hn : (names p).Nodup) {r : Str × Int × Int} (hr : r ∈ p) : look? p r.1 = some r.2 := by
  unfold look?
  induction p with
  | nil => cases hr
  | cons q t ih =>
    simp only [names, List.map_cons, List.nodup_cons] at hn
    rcases List.mem_cons.mp hr with rfl | h
    · simp
    · have hne : q.1 ≠ r.1 := fun e => hn.1 (e ▸ List.mem_map.mpr ⟨r, h, rfl⟩)
      simpa [hne] using ih hn.2 h
theorem look_get {p : Pg} (hn : (names p).Nodup) {r : Str × Int × Int} (hr : r ∈ p) : look p r.1 = r.2 := by unfold look; rw [look?_get hn hr]; rfl
theorem look?_mem {p : Pg} {n : Str} (h : n ∈ names p) : ∃ v, look? p n = some v ∧ (n, v) ∈ p := by
  unfold look?
  cases e : p.find? (fun r => decide (r.1 = n)) with
  | none =>
    obtain ⟨r, hr, rfl⟩ := List.mem_map.mp h
    have := List.find?_eq_none.mp e r hr
    simp at this
  | some r =>
    have h1 := List.find?_some e
    have h2 := List.mem_of_find?_eq_some e
    simp only [decide_eq_true_eq] at h1
    exact ⟨r.2, rfl, by rw [← h1]; exact h2⟩
theorem look_mem {p : Pg} {n : Str} (h : n ∈ names p) : look? p n = some (look p n) ∧ (n, look p n) ∈ p := by
  obtain ⟨v, h1, h2⟩ := look?_mem h
  have : look p n = v := by unfold look; rw [h1]; rfl
  rw [this]; exact ⟨h1, h2⟩
theorem names_nodup {p : Pg} (h : ((pgE p).map (·.1)).Nodup) : (names p).Nodup := by
  rw [pgE_keys] at h
  exact (List.pairwise_map.mp h).imp fun hne e => hne (congrArg Key.s e)
theorem keyAt_pg {p : Pg} {i : Nat} (hi : i < p.length) : keyAt (pgE p) i = .str (p[i]).1 := by
  rw [keyAt_get (by rw [pgE_length]; exact hi)]; simp [pgE, toRow, Key.v]
theorem at_pg_get {p : Pg} (hn : (names p).Nodup) {i : Nat} (hi : i < p.length) : at? (pgE p) (.s (p[i]).1) = some (shV (p[i]).2) := by
  rw [at_pg, look?_get hn (List.getElem_mem hi)]; rfl
def RowOk (r : Str × Int × Int) : Prop := isNameS r.1 = true ∧ 0 ≤ r.2.1 ∧ 0 ≤ r.2.2 ∧ 0 < r.2.1 + r.2.2
def PgOk (p : Pg) : Prop := (names p).Nodup ∧ ∀ r ∈ p, RowOk r
theorem pput_names (p : Pg) (n : Str) (v : Int × Int) : names (pput p n v) = if n ∈ names p then names p else names p ++ [n] := by
  unfold pput names
  by_cases h : p.any (fun r => r.1 = n) = true
  · rw [if_pos h, if_pos ?_]
    · rw [List.map_map]; congr 1; funext r; simp only [Function.comp]; split <;> rfl
    · obtain ⟨r, hr, e⟩ := List.any_eq_true.mp h
      exact List.mem_map.mpr ⟨r, hr, by simpa using e⟩
  · rw [if_neg h, if_neg ?_]
    · simp
    · intro hm
      obtain ⟨r, hr, e⟩ := List.mem_map.mp hm
      exact h (List.any_eq_true.mpr ⟨r, hr, by simpa using e⟩)
theorem pput_ok {p : Pg} {n : Str} {v : Int × Int} (h : PgOk p) (hr : RowOk (n, v)) : PgOk (pput p n v) := by
  refine ⟨?_, fun r hm => ?_⟩
  · rw [pput_names]
    split
    · exact h.1
    · rename_i hn
      rw [List.nodup_append]
      exact ⟨h.1, by simp, fun a ha b hb => by rw [List.mem_singleton.mp hb]; exact fun e => hn (e ▸ ha)⟩
  · unfold pput at hm
    split at hm
    · obtain ⟨q, hq, rfl⟩ := List.mem_map.mp hm
      split
      · rename_i e; rw [e]; exact hr
      · exact h.2 q hq
    · rcases List.mem_append.mp hm with hm | hm
      · exact h.2 r hm
      · rw [List.mem_singleton.mp hm]; exact hr
theorem pput_len (p : Pg) (n : Str) (v : Int × Int) : (pput p n v).length ≤ p.length + 1 := by
  unfold pput; split <;> simp
theorem PgOk.nil : PgOk [] := ⟨List.nodup_nil, fun _ h => nomatch h⟩
theorem pgE_lt (p : Pg) (n : Nat) : (AObj.dict (pgE p) none).lt n := by
  simp only [AObj.lt]
  intro q hq
  obtain ⟨r, _, rfl⟩ := List.mem_map.mp hq
  simp [toRow, V.lt, Vs.lt]
theorem isNameS_cps {x : Str} (h : isNameS x = true) : PyData.strOk x = true := by
  have := isNameS_all h
  unfold PyData.strOk
  rw [Array.all_eq_true_iff_forall_mem]
  intro c hc
  have h2 := this c (by simpa using hc)
  unfold isL at h2
  simp only [decide_eq_true_eq] at h2 ⊢
  (clear hc this h; lia)

theorem good_share_of : Good (dr pw_uf050040_14 13) ["page", "name"] :=
  ⟨fun pm code doc vals h => (by obtain ⟨a, b, rfl⟩ := len_2 h; rfl), by decide +kernel, by decide +kernel, by decide +kernel, rfl, rfl, rfl⟩
theorem cf_share_of (gl : Gl B mg mb) (bl : Blt B mg mb) (S : Scr B scr nums) (H : HasF B mg (dr pw_uf050040_14 13)) :
    CF prog w B mg "share_of" 1 (fun xs σ Q X => ∃ k p e n, σ[k]? = some (.dict (pgE p) e) ∧ xs = [.ref k, .str n] ∧ Q (shV (look p n)) σ) := by
  refine CF_of gl H good_share_of ?_
  rintro A pm code doc L a₀ _ σ Q X hA ⟨k, p, e, n, hk, rfl, q⟩
  refine ⟨rfl, ?_⟩
  change WX _ _ _ _ _ (_ :: _) ((_, _) :: (_, _) :: []) _ _ _

  with_reducible (refine X_ret ?_; refine E_mcall (name := Str.ofString "get") (id := "dict.get") ?_; refine E_nm ?_; refine LQ_here ?_)
  refine ⟨GM_dict hk F.slot_dict_get F.type_dict_get, ?_⟩
  with_reducible (refine Es_cons ?_; refine E_nm ?_; refine LQ_there (by decide +kernel) ?_; refine LQ_here ?_; refine Es_cons ?_; refine E_tuple ?_; refine Es_cons ?_; refine E_int ?_; refine Es_cons ?_; refine E_int ?_; refine Es_nil ?_; refine And.intro (by first | omega | with_unfolding_all exact Nat.le_of_ble_eq_true rfl) ?_; refine Es_nil ?_)
  refine C_get_s hk ?_
  rw [at_pgD]
  exact R_all q

def lackB (p : Pg) (r : Str × Int × Int) : Bool := !reach (look p r.1) r.2
def sortedP (r : Pg) : Pg := (srt (names r)).map fun n => (n, look r n)
def lacks (p r : Pg) : Pg := (sortedP r).filter (lackB p)
theorem srt_mem {l : List Str} {x : Str} : x ∈ srt l ↔ x ∈ l := (srt_perm l).mem_iff
theorem srt_nodup {l : List Str} (h : l.Nodup) : (srt l).Nodup := (srt_perm l).nodup_iff.mpr h
theorem filter_names (f : Str × Int × Int → Bool) (p : Pg) : (names (p.filter f)).Sublist (names p) := List.Sublist.map _ List.filter_sublist
theorem nodup_perm {l m : List Str} (h1 : l.Nodup) (h2 : m.Nodup) (h : ∀ x, x ∈ l ↔ x ∈ m) : l.Perm m := (List.perm_ext_iff_of_nodup h1 h2).mpr h
theorem lacks_len {p r : Pg} (hn : (names r).Nodup) : (lacks p r).length ≤ r.length := by
  have h1 := List.length_filter_le (lackB p) (sortedP r)
  have h2 : (sortedP r).length = r.length := by unfold sortedP; rw [List.length_map, (srt_perm _).length_eq]; simp [names]
  unfold lacks; (clear hn; lia)
theorem filter_ok {p : Pg} (f : Str × Int × Int → Bool) (h : PgOk p) : PgOk (p.filter f) := ⟨(filter_names f p).nodup h.1, fun r hr => h.2 r (List.mem_filter.mp hr).1⟩

def maxS (a b : Int × Int) : Int × Int := (max a.1 b.1, max a.2 b.2)
def joins (p r : Pg) : Pg := (srt (onceS (names p ++ names r))).map fun n => (n, maxS (look p n) (look r n))
def dueJ (p r : Pg) : Pg := r.foldl (fun g x => pput g x.1 (maxS (look g x.1) x.2)) p
def nets (p : Pg) : List Int := p.map fun r => r.2.1 - r.2.2
theorem keys_v (p : Pg) : (pgE p).map (fun p => p.1.v) = (names p).map V.str := by simp [pgE, toRow, names, Key.v]
theorem names_len (p : Pg) : (names p).length = p.length := by simp [names]
theorem pput_fresh {g : Pg} {n : Str} {v : Int × Int} (h : n ∉ names g) : pput g n v = g ++ [(n, v)] := by
  unfold pput
  rw [if_neg]
  intro ha
  obtain ⟨x, hx, hxe⟩ := List.any_eq_true.mp ha
  exact h (List.mem_map.mpr ⟨x, hx, by simpa using hxe⟩)
theorem names_rows (l : List Str) (f : Str → Int × Int) : names (l.map fun n => (n, f n)) = l := by unfold names; rw [List.map_map]; exact List.map_id'' (fun _ => rfl) _
theorem take_fresh {l : List Str} (h : l.Nodup) {i : Nat} (hi : i < l.length) : l[i] ∉ l.take i := fun hm => by
  obtain ⟨m, hm', em⟩ := List.mem_iff_getElem.mp hm
  rw [List.getElem_take] at em
  rw [List.length_take] at hm'
  exact List.pairwise_iff_getElem.mp h m i (by (clear em hm hi h; lia)) hi (by (clear em hm hi h; lia)) em
theorem row_get {l : List Str} {f : Str → Int × Int} {i : Nat} (hi : i < l.length) : (l.take (i + 1)).map (fun n => (n, f n)) = (l.take i).map (fun n => (n, f n)) ++ [(l[i], f l[i])] := by
  rw [List.take_add_one, List.getElem?_eq_getElem hi, List.map_append]; rfl
theorem look?_none {p : Pg} {n : Str} (h : n ∉ names p) : look? p n = none := by
  unfold look?
  have : p.find? (fun r => decide (r.1 = n)) = none := by
    rw [List.find?_eq_none]
    intro r hr e
    exact h (List.mem_map.mpr ⟨r, hr, by simpa using e⟩)
  rw [this]; rfl
theorem look_none {p : Pg} {n : Str} (h : n ∉ names p) : look p n = (0, 0) := by unfold look; rw [look?_none h]; rfl
theorem look_pput (g : Pg) (n m : Str) (v : Int × Int) : look (pput g n v) m = if m = n then v else look g m := by
  by_cases hn : n ∈ names g
  · have ha : g.any (fun r => r.1 = n) = true := by
      obtain ⟨r, hr, e⟩ := List.mem_map.mp hn
      exact List.any_eq_true.mpr ⟨r, hr, by simpa using e⟩
    unfold pput
    rw [if_pos ha]
    clear ha
    by_cases hm : m = n
    · subst hm
      rw [if_pos rfl]
      unfold look look?
      induction g with
      | nil => simp [names] at hn
      | cons r t ih =>
        by_cases h : r.1 = m
        · simp [h]
        · have hn' : m ∈ names t := by
            rcases List.mem_cons.mp hn with e | e
            · exact absurd e.symm h
            · exact e
          simpa [h] using ih hn'
    · rw [if_neg hm]
      unfold look look?
      congr 1
      clear hn
      induction g with
      | nil => rfl
      | cons r t ih =>
        by_cases h : r.1 = m
        · have : ¬ r.1 = n := fun e => hm (h.symm.trans e)
          simp [h, this, hm]
        · by_cases h2 : r.1 = n
          · have : ¬ n = m := fun e => hm e.symm
            simpa [h, h2, this] using ih
          · simpa [h, h2] using ih
  · rw [pput_fresh hn]
    unfold look look?
    rw [List.find?_append]
    by_cases hm : m = n
    · subst hm
      have : g.find? (fun r => decide (r.1 = m)) = none := by
        rw [List.find?_eq_none]
        intro r hr e
        exact hn (List.mem_map.mpr ⟨r, hr, by simpa using e⟩)
      rw [this]; simp
    · rw [if_neg hm]
      congr 1
      have : ([(n, v)] : Pg).find? (fun r => decide (r.1 = m)) = none := by simp; exact fun e => hm e.symm
      rw [this]; simp
theorem pput_mem (g : Pg) (n m : Str) (v : Int × Int) : m ∈ names (pput g n v) ↔ m ∈ names g ∨ m = n := by
  rw [pput_names]
  split
  · rename_i h
    exact ⟨.inl, fun hx => hx.elim id fun e => e ▸ h⟩
  · simp
theorem dueJ_names (r : Pg) : ∀ (p : Pg) (m : Str), m ∈ names (dueJ p r) ↔ m ∈ names p ∨ m ∈ names r := by
  induction r with
  | nil => intro p m; simp [dueJ, names]
  | cons x t ih =>
    intro p m
    have := ih (pput p x.1 (maxS (look p x.1) x.2)) m
    unfold dueJ at this ⊢
    rw [List.foldl_cons, this, pput_mem]
    simp only [names, List.map_cons, List.mem_cons]
    constructor
    · rintro ((h | h) | h)
      · exact .inl h
      · exact .inr (.inl h)
      · exact .inr (.inr h)
    · rintro (h | h | h)
      · exact .inl (.inl h)
      · exact .inl (.inr h)
      · exact .inr h
theorem dueJ_len (r : Pg) : ∀ (p : Pg), (dueJ p r).length ≤ p.length + r.length := by
  induction r with
  | nil => intro p; simp [dueJ]
  | cons x t ih =>
    intro p
    have h1 := ih (pput p x.1 (maxS (look p x.1) x.2))
    have h2 := pput_len p x.1 (maxS (look p x.1) x.2)
    unfold dueJ at h1 ⊢
    rw [List.foldl_cons, List.length_cons]
    (clear ih; lia)
theorem look_notin_dueJ (r : Pg) : ∀ (p : Pg) (m : Str), m ∉ names r → look (dueJ p r) m = look p m := by
  induction r with
  | nil => intro p m _; rfl
  | cons x t ih =>
    intro p m h
    simp only [names, List.map_cons, List.mem_cons, not_or] at h
    have h1 := ih (pput p x.1 (maxS (look p x.1) x.2)) m h.2
    unfold dueJ at h1 ⊢
    rw [List.foldl_cons, h1, look_pput, if_neg h.1]
theorem look_dueJ (r : Pg) : ∀ (p : Pg) (m : Str), (names r).Nodup → m ∈ names r → look (dueJ p r) m = maxS (look p m) (look r m) := by
  induction r with
  | nil => intro p m _ h; simp [names] at h
  | cons x t ih =>
    intro p m hn h
    simp only [names, List.map_cons, List.nodup_cons] at hn
    have e : dueJ p (x :: t) = dueJ (pput p x.1 (maxS (look p x.1) x.2)) t := rfl
    rw [e]
    by_cases hm : m = x.1
    · subst hm
      rw [look_notin_dueJ t _ _ hn.1, look_pput, if_pos rfl]
      have : look (x :: t) x.1 = x.2 := by unfold look look?; simp
      rw [this]
    · have hm' : m ∈ names t := by
        rcases List.mem_cons.mp h with e | e
        · exact absurd e hm
        · exact e
      rw [ih _ m hn.2 hm', look_pput, if_neg hm]
      have : look (x :: t) m = look t m := by
        unfold look look?
        have hx : ¬ x.1 = m := fun e => hm e.symm
        simp [hx]
      rw [this]
theorem dueJ_nodup (r : Pg) : ∀ (p : Pg), (names p).Nodup → (names (dueJ p r)).Nodup := by
  induction r with
  | nil => intro p h; exact h
  | cons x t ih =>
    intro p h
    have e : dueJ p (x :: t) = dueJ (pput p x.1 (maxS (look p x.1) x.2)) t := rfl
    rw [e]
    refine ih _ ?_
    rw [pput_names]
    split
    · exact h
    · rename_i hn
      rw [List.nodup_append]
      exact ⟨h, by simp, fun a ha b hb => by rw [List.mem_singleton.mp hb]; exact fun e => hn (e ▸ ha)⟩
theorem maxS_comm (a b : Int × Int) : maxS a b = maxS b a := by unfold maxS; rw [Int.max_comm, Int.max_comm a.2]
def NonNeg (x : Int × Int) : Prop := 0 ≤ x.1 ∧ 0 ≤ x.2
theorem maxS_zero {a : Int × Int} (h : NonNeg a) : maxS a (0, 0) = a := by unfold maxS; rw [Int.max_eq_left h.1, Int.max_eq_left h.2]
theorem look_nonneg {p : Pg} (h : PgOk p) (n : Str) : NonNeg (look p n) := by
  by_cases hn : n ∈ names p
  · have := h.2 _ (look_mem hn).2
    exact ⟨this.2.1, this.2.2.1⟩
  · rw [look_none hn]; exact ⟨Int.le_refl _, Int.le_refl _⟩
theorem look_dueJ_all {p r : Pg} (hp : PgOk p) (hr : PgOk r) (m : Str) : look (dueJ p r) m = maxS (look p m) (look r m) := by
  by_cases h : m ∈ names r
  · exact look_dueJ r p m hr.1 h
  · rw [look_notin_dueJ r p m h, look_none h, maxS_zero (look_nonneg hp m)]
theorem dueJ_ok {p r : Pg} (hp : PgOk p) (hr : PgOk r) : PgOk (dueJ p r) := by
  refine ⟨dueJ_nodup r p hp.1, fun x hx => ?_⟩
  have hm : x.1 ∈ names (dueJ p r) := List.mem_map.mpr ⟨x, hx, rfl⟩
  have he := look_get (dueJ_nodup r p hp.1) hx
  rw [look_dueJ_all hp hr] at he
  have n1 := look_nonneg hp x.1
  have n2 := look_nonneg hr x.1
  unfold NonNeg at n1 n2
  have e1 : x.2.1 = max (look p x.1).1 (look r x.1).1 := by rw [← he]; rfl
  have e2 : x.2.2 = max (look p x.1).2 (look r x.1).2 := by rw [← he]; rfl
  rcases (dueJ_names r p x.1).mp hm with h | h
  · obtain ⟨a1, a2, a3, a4⟩ := hp.2 _ (look_mem h).2
    dsimp only at a1 a2 a3 a4
    exact ⟨a1, by (clear a4 a3 a2 a1 h e2 n2 he hm hx hr hp; omega), by (clear a4 a3 a2 a1 h e1 n2 he hm hx hr hp; lia), by (clear a3 a2 a1 h n2 n1 he hm hx hr hp; omega)⟩
  · obtain ⟨a1, a2, a3, a4⟩ := hr.2 _ (look_mem h).2
    dsimp only at a1 a2 a3 a4
    exact ⟨a1, by (clear a4 a3 a2 a1 h e2 n2 he hm hx hr hp; omega), by (clear a4 a3 a2 a1 h e1 n2 he hm hx hr hp; lia), by omega⟩
theorem range_getD (l : List Int) : (List.range l.length).map (fun i => V.int (l.getD i 0)) = l.map V.int := by
  refine List.ext_getElem? fun i => ?_
  rw [List.getElem?_map, List.getElem?_map]
  by_cases h : i < l.length
  · rw [List.getElem?_range h]
    simp only [Option.map_some, List.getD_eq_getElem?_getD, List.getElem?_eq_getElem h, Option.getD_some]
  · rw [List.getElem?_eq_none (by simpa using h), List.getElem?_eq_none (by simpa using h)]; rfl
theorem nets_get (p : Pg) {i : Nat} (hi : i < p.length) : (nets p).getD i 0 = (p[i]).2.1 - (p[i]).2.2 := by
  unfold nets; rw [List.getD_eq_getElem?_getD, List.getElem?_map, List.getElem?_eq_getElem hi]; rfl

theorem good_joined : Good (dr pw_uf050040_14 14) ["one", "other"] :=
  ⟨fun pm code doc vals h => (by obtain ⟨a, b, rfl⟩ := len_2 h; rfl), by decide +kernel, by decide +kernel, by decide +kernel, rfl, rfl, rfl⟩
theorem cf_joined (gl : Gl B mg mb) (bl : Blt B mg mb) (S : Scr B scr nums) (H : HasF B mg (dr pw_uf050040_14 14))
    (c_share_of : CF prog w B mg "share_of" 1 (fun xs σ Q X => ∃ k p e n, σ[k]? = some (.dict (pgE p) e) ∧ xs = [.ref k, .str n] ∧ Q (shV (look p n)) σ))
    (c_greater : CF prog w B mg "greater" 1 (fun xs σ Q X => ∃ a b c d, xs = [.tup [.int a, .int b], .tup [.int c, .int d]] ∧ Q (.tup [.int (max a c), .int (max b d)]) σ)) :
    CF prog w B mg "joined" 3 (fun xs σ Q X => ∃ j k p r e e', σ[j]? = some (.dict (pgE p) e) ∧ σ[k]? = some (.dict (pgE r) e') ∧ (p.length + r.length ≤ 1000 ∧ (onceS (names p ++ names r)).length ≤ 60) ∧ xs = [.ref j, .ref k] ∧ Q (.ref σ.length) (σ ++ [.dict (pgE (joins p r)) none])) := by
  refine CF_of gl H good_joined ?_
  rintro A pm code doc L a₀ _ σ Q X hA ⟨j, k, p, r, e, e', hj, hk, ⟨hlen, h60⟩, rfl, q⟩
  refine ⟨rfl, ?_⟩
  change WX _ _ _ _ _ (_ :: _) ((_, _) :: (_, _) :: []) _ _ _

  with_reducible (refine X_let ?_; refine E_dict0 ?_)
  refine X_fors ?_
  with_reducible (refine E_bi (Blt.sorted_ (by assumption)) (by first | exact Keep.builtin _ | exact Keep.type _) ?_; refine Es_cons ?_; refine E_bi (Blt.set_ (by assumption)) (by first | exact Keep.builtin _ | exact Keep.type _) ?_; refine Es_cons ?_; refine E_bin ?_; refine E_bi (Blt.list_ (by assumption)) (by first | exact Keep.builtin _ | exact Keep.type _) ?_; refine Es_cons ?_; refine E_nm ?_; refine LQ_there (by decide +kernel) ?_; refine LQ_here ?_; refine Es_nil ?_)
  refine C_list_dict hA.handled (up_at hj) (small_size (by rw [pgE_length]; (clear q h60 hk hj hA c_greater c_share_of H S bl gl; lia))) ?_
  with_reducible (refine E_bi (Blt.list_ (by assumption)) (by first | exact Keep.builtin _ | exact Keep.type _) ?_; refine Es_cons ?_; refine E_nm ?_; refine LQ_there (by decide +kernel) ?_; refine LQ_there (by decide +kernel) ?_; refine LQ_here ?_; refine Es_nil ?_)
  refine C_list_dict hA.handled (up_at (up_at hk)) (small_size (by rw [pgE_length]; (clear q h60 hk hj hA c_greater c_share_of H S bl gl; lia))) ?_
  rw [keys_v, keys_v]
  skip
  refine O_addl at_prev at_end (small_size (by rw [List.length_map, List.length_map, names_len, names_len]; (exact Nat.le_trans (by assumption) (by decide)))) ?_
  rw [← List.map_append]
  with_reducible (refine Es_nil ?_)
  have hol := onceS_len (names p ++ names r)
  have hnl : (names p ++ names r).length = p.length + r.length := by rw [List.length_append, names_len, names_len]
  refine C_set_list hA.handled at_end (Nat.lt_of_le_of_lt (show _ ≤ 1001 by (clear hol q h60 hk hj hA c_greater c_share_of H S bl gl; lia)) (by decide +kernel)) ?_
  with_reducible (refine Es_nil ?_)
  refine C_sorted_set hA.handled at_end (small_sort (by (clear hnl hol q hlen hk hj hA c_greater c_share_of H S bl gl; lia))) ?_
  have hsl : (srt (onceS (names p ++ names r))).length ≤ 1000 := by rw [(srt_perm _).length_eq]; (clear hnl hol q hlen hk hj hA c_greater c_share_of H S bl gl; lia)
  have hsn : (srt (onceS (names p ++ names r))).Nodup := srt_nodup (onceS_nodup _)
  simp only [List.append_assoc, List.cons_append, List.nil_append, List.length_append, List.length_cons, List.length_nil, Nat.zero_add, Nat.reduceAdd]
  generalize AObj.list ((names p).map V.str) = o1
  generalize AObj.list ((names r).map V.str) = o2
  generalize AObj.list ((names p ++ names r).map V.str) = o3
  generalize AObj.set (onceS (names p ++ names r)) = o4
  unfold joins at q
  generalize srt (onceS (names p ++ names r)) = L at *
  have hL : ∀ g : Pg, (σ ++ [.dict (pgE g) none, o1, o2, o3, o4, .list (L.map V.str)])[σ.length + 5]? = some (.list (L.map V.str)) := fun g => by rw [List.getElem?_append_right (Nat.le_add_right _ _), Nat.add_sub_cancel_left]; rfl
  refine ForG.mk (ι := Pg) (fun i g => g = (L.take i).map fun n => (n, maxS (look p n) (look r n))) (fun _ _ => [("found", .ref σ.length), ("one", .ref j), ("other", .ref k)]) (fun _ g => σ ++ [.dict (pgE g) none, o1, o2, o3, o4, .list (L.map V.str)]) (It_list hA.handled (hL [])) [] rfl rfl (hL []) (by with_reducible (refine Sub.cons ?_; refine LQ_here ?_; refine ⟨rfl, ?_⟩; refine Sub.cons ?_; refine LQ_there (by decide +kernel) ?_; refine LQ_here ?_; refine ⟨rfl, ?_⟩; refine Sub.cons ?_; refine LQ_there (by decide +kernel) ?_; refine LQ_there (by decide +kernel) ?_; refine LQ_here ?_; refine ⟨rfl, ?_⟩; exact Sub.nil)) ?_ ?_
  · rintro i g hi hD -
    rw [List.length_map] at hi
    have eg : (L.map V.str).getD i .none = .str L[i] := by rw [List.getD_eq_getElem?_getD, List.getElem?_map, List.getElem?_eq_getElem hi]; rfl
    rw [eg]
    have hgl : g.length ≤ i := by rw [hD, List.length_map, List.length_take]; (clear eg hD hi hL hsn hsl q hnl hol h60 hlen hk hj hA c_greater c_share_of H S bl gl; lia)
    with_reducible (refine X_set ?_; refine E_cf (by assumption) (AOk.le (by assumption) (by decide)) ?_; refine Es_cons ?_; refine E_cf (by assumption) (AOk.le (by assumption) (by decide)) ?_; refine Es_cons ?_; refine E_nm ?_; refine LQ_there (by decide +kernel) ?_; refine LQ_there (by decide +kernel) ?_; refine LQ_here ?_; refine Es_cons ?_; refine E_nm ?_; refine LQ_here ?_; refine Es_nil ?_)
    refine ⟨_, _, _, _, up_at hj, rfl, ?_⟩
    with_reducible (refine Es_cons ?_; refine E_cf (by assumption) (AOk.le (by assumption) (by decide)) ?_; refine Es_cons ?_; refine E_nm ?_; refine LQ_there (by decide +kernel) ?_; refine LQ_there (by decide +kernel) ?_; refine LQ_there (by decide +kernel) ?_; refine LQ_here ?_; refine Es_cons ?_; refine E_nm ?_; refine LQ_here ?_; refine Es_nil ?_)
    refine ⟨_, _, _, _, up_at hk, rfl, ?_⟩
    with_reducible (refine Es_nil ?_; refine ⟨_, _, _, _, rfl, ?_⟩; refine E_nm ?_; refine LQ_there (by decide +kernel) ?_; refine LQ_here ?_; refine E_nm ?_; refine LQ_here ?_)
    refine P_dict (key := .s L[i]) (es := pgE g) (by simp) (small_size (by rw [pgE_length]; (clear eg hD hL hsn q hnl hol h60 hlen hk hj hA c_greater c_share_of H S bl gl; lia))) ?_
    have es : (σ ++ [AObj.dict (pgE g) none, o1, o2, o3, o4, .list (L.map V.str)]).set σ.length (.dict (put (pgE g) (.s L[i]) (shV (maxS (look p L[i]) (look r L[i])))) none) = σ ++ [AObj.dict (pgE (pput g L[i] (maxS (look p L[i]) (look r L[i])))) none, o1, o2, o3, o4, .list (L.map V.str)] := by
      rw [put_pg, List.set_append_right _ _ (Nat.le_refl _), Nat.sub_self]; rfl
    rw [show V.tup [.int (max (look p L[i]).1 (look r L[i]).1), .int (max (look p L[i]).2 (look r L[i]).2)] = shV (maxS (look p L[i]) (look r L[i])) from rfl, es]
    with_reducible (refine X_nil ?_)
    refine TJ_next (pput g L[i] (maxS (look p L[i]) (look r L[i]))) ?_ rfl (hL _) (by with_reducible (refine Sub.cons ?_; refine LQ_there (by decide +kernel) ?_; refine LQ_here ?_; refine ⟨rfl, ?_⟩; refine Sub.cons ?_; refine LQ_there (by decide +kernel) ?_; refine LQ_there (by decide +kernel) ?_; refine LQ_here ?_; refine ⟨rfl, ?_⟩; refine Sub.cons ?_; refine LQ_there (by decide +kernel) ?_; refine LQ_there (by decide +kernel) ?_; refine LQ_there (by decide +kernel) ?_; refine LQ_here ?_; refine ⟨rfl, ?_⟩; exact Sub.nil))
    rw [row_get hi, ← hD]
    refine pput_fresh ?_
    rw [hD, names_rows]
    exact take_fresh hsn hi
  · rintro g hD -
    rw [List.length_map, List.take_length] at hD
    subst hD
    with_reducible (refine X_ret ?_; refine E_nm ?_; refine LQ_here ?_)
    exact R_one0 (pgE_lt _ _) q

theorem good_lacking : Good (dr pw_uf050040_14 15) ["one", "other"] :=
  ⟨fun pm code doc vals h => (by obtain ⟨a, b, rfl⟩ := len_2 h; rfl), by decide +kernel, by decide +kernel, by decide +kernel, rfl, rfl, rfl⟩
theorem cf_lacking (gl : Gl B mg mb) (bl : Blt B mg mb) (S : Scr B scr nums) (H : HasF B mg (dr pw_uf050040_14 15))
    (c_share_of : CF prog w B mg "share_of" 1 (fun xs σ Q X => ∃ k p e n, σ[k]? = some (.dict (pgE p) e) ∧ xs = [.ref k, .str n] ∧ Q (shV (look p n)) σ))
    (c_reaches : CF prog w B mg "reaches" 1 (fun xs σ Q X => ∃ a b c d, xs = [.tup [.int a, .int b], .tup [.int c, .int d]] ∧ Q (.bool (decide (c ≤ a ∧ d ≤ b))) σ)) :
    CF prog w B mg "lacking" 3 (fun xs σ Q X => ∃ j k p r e e', σ[j]? = some (.dict (pgE p) e) ∧ σ[k]? = some (.dict (pgE r) e') ∧ r.length ≤ 60 ∧ xs = [.ref j, .ref k] ∧ Q (.ref σ.length) (σ ++ [.dict (pgE (lacks p r)) none])) := by
  refine CF_of gl H good_lacking ?_
  rintro A pm code doc L a₀ _ σ Q X hA ⟨j, k, p, r, e, e', hj, hk, hlen, rfl, q⟩
  refine ⟨rfl, ?_⟩
  change WX _ _ _ _ _ (_ :: _) ((_, _) :: (_, _) :: []) _ _ _

  refine X_keys hk fun hnd => ?_
  replace hnd := names_nodup hnd
  with_reducible (refine X_let ?_; refine E_dict0 ?_)
  refine X_fors ?_
  with_reducible (refine E_bi (Blt.sorted_ (by assumption)) (by first | exact Keep.builtin _ | exact Keep.type _) ?_; refine Es_cons ?_; refine E_nm ?_; refine LQ_there (by decide +kernel) ?_; refine LQ_there (by decide +kernel) ?_; refine LQ_here ?_; refine Es_nil ?_)
  refine C_sorted_dict hA.handled (up_at hk) (fun q hq => ?_) (small_sort (by rw [pgE_length]; (exact Nat.le_trans (by assumption) (by decide)))) ?_
  · obtain ⟨x, _, rfl⟩ := List.mem_map.mp hq
    exact ⟨x.1, rfl⟩
  have ek : (pgE r).map (fun p => keyS p.1) = names r := by simp [pgE, toRow, keyS, names]
  rw [ek]
  have hsl : (srt (names r)).length = r.length := by rw [(srt_perm _).length_eq]; simp [names]
  have hsn : (srt (names r)).Nodup := srt_nodup hnd
  generalize hL : srt (names r) = L at *
  have hmem : ∀ n ∈ L, n ∈ names r := fun n hn => by rw [← hL] at hn; exact srt_mem.mp hn
  have up : ∀ a b, (σ ++ [a] ++ [b])[(σ ++ [a]).length]? = some b := fun a b => at_end
  refine ForG.mk (ι := Pg) (fun i g => g = ((L.take i).map fun n => (n, look r n)).filter (lackB p)) (fun _ _ => [("found", .ref σ.length), ("one", .ref j), ("other", .ref k)]) (fun _ g => σ ++ [.dict (pgE g) none] ++ [.list (L.map V.str)]) (It_list hA.handled at_end) [] rfl rfl at_end (by with_reducible (refine Sub.cons ?_; refine LQ_here ?_; refine ⟨rfl, ?_⟩; refine Sub.cons ?_; refine LQ_there (by decide +kernel) ?_; refine LQ_here ?_; refine ⟨rfl, ?_⟩; refine Sub.cons ?_; refine LQ_there (by decide +kernel) ?_; refine LQ_there (by decide +kernel) ?_; refine LQ_here ?_; refine ⟨rfl, ?_⟩; exact Sub.nil)) ?_ ?_
  · rintro i g hi hD -
    rw [List.length_map] at hi
    have eg : (L.map V.str).getD i .none = .str L[i] := by rw [List.getD_eq_getElem?_getD, List.getElem?_map, List.getElem?_eq_getElem hi]; rfl
    rw [eg]
    have hnm : L[i] ∈ names r := hmem _ (List.getElem_mem hi)
    have hgl : g.length ≤ i := by
      rw [hD]
      refine Nat.le_trans (List.length_filter_le _ _) ?_
      rw [List.length_map, List.length_take]; (clear hnm eg hD hi up hmem hsn hsl hL ek hnd q hlen hk hj hA c_reaches c_share_of H S bl gl; lia)
    have hstep : ((L.take (i + 1)).map fun n => (n, look r n)).filter (lackB p) = g ++ if lackB p (L[i], look r L[i]) then [(L[i], look r L[i])] else [] := by
      rw [List.take_add_one, List.getElem?_eq_getElem hi, List.map_append, List.filter_append, ← hD]
      simp only [Option.toList_some, List.map_cons, List.map_nil, List.filter_cons, List.filter_nil]
    have hfresh : L[i] ∉ names g := fun hm => by
      obtain ⟨x, hx, hxe⟩ := List.mem_map.mp hm
      rw [hD] at hx
      obtain ⟨n, hn, rfl⟩ := List.mem_map.mp (List.mem_filter.mp hx).1
      obtain ⟨m, hm', em⟩ := List.mem_iff_getElem.mp hn
      rw [List.getElem_take] at em
      rw [List.length_take] at hm'
      exact List.pairwise_iff_getElem.mp hsn m i (by (clear em hxe hx hn hm hstep hgl hnm eg hD hi up hmem hsn hsl hL ek hnd q hlen hk hj hA c_reaches c_share_of H S bl gl; lia)) hi (by (clear em hxe hx hn hm hstep hgl hnm eg hD hi up hmem hsn hsl hL ek hnd q hlen hk hj hA c_reaches c_share_of H S bl gl; lia)) (em.trans hxe)
    refine X_ifs ?_
    with_reducible (refine T_not ?_; refine T_value ?_; refine E_cf (by assumption) (AOk.le (by assumption) (by decide)) ?_; refine Es_cons ?_; refine E_cf (by assumption) (AOk.le (by assumption) (by decide)) ?_; refine Es_cons ?_; refine E_nm ?_; refine LQ_there (by decide +kernel) ?_; refine LQ_there (by decide +kernel) ?_; refine LQ_here ?_; refine Es_cons ?_; refine E_nm ?_; refine LQ_here ?_; refine Es_nil ?_)
    refine ⟨_, _, _, _, up_at (up_at hj), rfl, ?_⟩
    with_reducible (refine Es_cons ?_; refine E_sub ?_; refine E_nm ?_; refine LQ_there (by decide +kernel) ?_; refine LQ_there (by decide +kernel) ?_; refine LQ_there (by decide +kernel) ?_; refine LQ_here ?_; refine E_nm ?_; refine LQ_here ?_)
    refine S_dict (key := .s _) (up_at (up_at hk)) (by rw [at_pg, (look_mem hnm).1]; rfl) ?_
    with_reducible (refine Es_nil ?_; refine ⟨_, _, _, _, rfl, ?_⟩; refine T_b ?_)
    refine iteDn (fun h => ?_) (fun h => ?_)
    · have hb : lackB p (L[i], look r L[i]) = true := by unfold lackB reach; rw [decide_eq_false h]; rfl
      with_reducible (refine X_set ?_; refine E_sub ?_; refine E_nm ?_; refine LQ_there (by decide +kernel) ?_; refine LQ_there (by decide +kernel) ?_; refine LQ_there (by decide +kernel) ?_; refine LQ_here ?_; refine E_nm ?_; refine LQ_here ?_)
      refine S_dict (key := .s _) (up_at (up_at hk)) (by rw [at_pg, (look_mem hnm).1]; rfl) ?_
      with_reducible (refine E_nm ?_; refine LQ_there (by decide +kernel) ?_; refine LQ_here ?_; refine E_nm ?_; refine LQ_here ?_)
      refine P_dict (key := .s L[i]) at_prev (small_size (by rw [pgE_length]; (clear hb h hfresh hstep hnm eg hD up hmem hsn hL ek hnd q hk hj hA c_reaches c_share_of H S bl gl; lia))) ?_
      rw [set_prev, put_pg]
      with_reducible (refine X_nil ?_; refine sq_next ?_; refine X_nil ?_)
      refine TJ_next (pput g L[i] (look r L[i])) ?_ rfl at_end' (by with_reducible (refine Sub.cons ?_; refine LQ_there (by decide +kernel) ?_; refine LQ_here ?_; refine ⟨rfl, ?_⟩; refine Sub.cons ?_; refine LQ_there (by decide +kernel) ?_; refine LQ_there (by decide +kernel) ?_; refine LQ_here ?_; refine ⟨rfl, ?_⟩; refine Sub.cons ?_; refine LQ_there (by decide +kernel) ?_; refine LQ_there (by decide +kernel) ?_; refine LQ_there (by decide +kernel) ?_; refine LQ_here ?_; refine ⟨rfl, ?_⟩; exact Sub.nil))
      rw [hstep, hb]
      unfold pput
      rw [if_neg ?_]
      · rfl
      · intro ha
        obtain ⟨x, hx, hxe⟩ := List.any_eq_true.mp ha
        exact hfresh (List.mem_map.mpr ⟨x, hx, by simpa using hxe⟩)
    · have hb : lackB p (L[i], look r L[i]) = false := by unfold lackB reach; rw [decide_eq_true h]; rfl
      with_reducible (refine X_nil ?_; refine sq_next ?_; refine X_nil ?_)
      exact TJ_next g (by rw [hstep, hb]; simp) rfl at_end' (by with_reducible (refine Sub.cons ?_; refine LQ_there (by decide +kernel) ?_; refine LQ_here ?_; refine ⟨rfl, ?_⟩; refine Sub.cons ?_; refine LQ_there (by decide +kernel) ?_; refine LQ_there (by decide +kernel) ?_; refine LQ_here ?_; refine ⟨rfl, ?_⟩; refine Sub.cons ?_; refine LQ_there (by decide +kernel) ?_; refine LQ_there (by decide +kernel) ?_; refine LQ_there (by decide +kernel) ?_; refine LQ_here ?_; refine ⟨rfl, ?_⟩; exact Sub.nil))
  · rintro g hD -
    rw [List.length_map, List.take_length] at hD
    have hg : g = lacks p r := by rw [hD]; unfold lacks sortedP; rw [hL]
    subst hg
    with_reducible (refine X_ret ?_; refine E_nm ?_; refine LQ_here ?_)
    rw [List.append_assoc]
    exact R_one0 (pgE_lt _ _) q

theorem good_total : Good (dr pw_uf050040_14 16) ["page"] :=
  ⟨fun pm code doc vals h => (by obtain ⟨a, rfl⟩ := len_1 h; rfl), by decide +kernel, by decide +kernel, by decide +kernel, rfl, rfl, rfl⟩
theorem cf_total (gl : Gl B mg mb) (bl : Blt B mg mb) (S : Scr B scr nums) (H : HasF B mg (dr pw_uf050040_14 16))
    (c_net : CF prog w B mg "net" 1 (fun xs σ Q X => ∃ a b, xs = [.tup [.int a, .int b]] ∧ Q (.int (a - b)) σ)) :
    CF prog w B mg "total" 2 (fun xs σ Q X => ∃ k p e, σ[k]? = some (.dict (pgE p) e) ∧ p.length ≤ 1000 ∧ xs = [.ref k] ∧ Q (.int (nets p).sum) σ) := by
  refine CF_of gl H good_total ?_
  rintro A pm code doc L a₀ _ σ Q X hA ⟨k, p, e, hk, hlen, rfl, q⟩
  refine ⟨rfl, ?_⟩
  change WX _ _ _ _ _ (_ :: _) ((_, _) :: []) _ _ _

  refine X_keys hk fun hnd => ?_
  replace hnd := names_nodup hnd
  with_reducible (refine X_ret ?_; refine E_bi (Blt.sum_ (by assumption)) (by first | exact Keep.builtin _ | exact Keep.type _) ?_; refine Es_cons ?_)
  refine E_compd [("page", .ref k)] (fun i => .int ((nets p).getD i 0)) (by kernel_rfl!) (by with_reducible (refine Sub.cons ?_; refine LQ_here ?_; refine ⟨rfl, ?_⟩; exact Sub.nil)) (by kernel_rfl!) env_apart hA.handled hk (small_size (by rw [pgE_length]; (exact Nat.le_trans (by assumption) (by decide)))) (fun ep => ?_) (fun ep D i junk hi => ?_) ?_
  · with_reducible (refine E_nm ?_; refine LQ_here ?_; refine ⟨rfl, ?_⟩)
    first | exact ⟨rfl, rfl⟩ | rfl
  · rw [pgE_length] at hi
    rw [keyAt_pg hi]
    with_reducible (refine E_cf (by assumption) (AOk.le (by assumption) (by decide)) ?_; refine Es_cons ?_; refine E_sub ?_; refine E_nm ?_; refine LQ_there (by decide +kernel) ?_; refine LQ_here ?_; refine E_nm ?_; refine LQ_here ?_)
    refine S_dict (key := .s _) (up_at (pin_at hk)) (at_pg_get hnd hi) ?_
    with_reducible (refine Es_nil ?_; refine ⟨_, _, rfl, ?_⟩)
    exact ⟨by rw [nets_get p hi], rfl⟩
  rw [pgE_length, show p.length = (nets p).length from (by simp [nets]), range_getD]
  with_reducible (refine Es_nil ?_)
  refine C_sum hA.handled at_end ?_
  exact R_none (by simp [V.lt]) q

/-- a hand: its instance at k, its table at kn -/
def HandAt (τ : List AObj) (k : Nat) (n : Str) (p : Pg) (kn : Nat) : Prop :=
  ∃ kd, τ[k]? = some (.inst 218 kn) ∧ τ[kn]? = some (.ns [("name", .str n), ("heard", .ref kd)]) ∧ τ[kd]? = some (.dict (pgE p) none)
/-- all but the table at kn stands -/
def Upd (kn : Nat) (τ τ' : List AObj) : Prop := ∀ (j : Nat) (x : AObj), j ≠ kn → τ[j]? = some x → τ'[j]? = some x
theorem HandAt.up {τ : List AObj} {k kn : Nat} {n : Str} {p : Pg} {more : List AObj} (h : HandAt τ k n p kn) : HandAt (τ ++ more) k n p kn :=
  let ⟨kd, h1, h2, h3⟩ := h; ⟨kd, up_at h1, up_at h2, up_at h3⟩
theorem aLt {τ : List AObj} {k : Nat} {x : AObj} (h : τ[k]? = some x) : k < τ.length := (List.getElem?_eq_some_iff.mp h).1
theorem good_Hand_init : GoodM (dm pw_uf050040_14 23 0) ["self", "name"] :=
  ⟨fun q pm code doc vals h => (by obtain ⟨a, b, rfl⟩ := len_2 h; rfl), by decide +kernel, by decide +kernel, by decide +kernel, rfl, rfl, rfl⟩
theorem cf_Hand_init (gl : Gl B mg mb) (bl : Blt B mg mb) (S : Scr B scr nums) (H : HasM B 159 (dm pw_uf050040_14 23 0)) (k_Hand : Cls B 218 ["name", "heard"] [("__init__", 159), ("grown", 166), ("up", 173), ("down", 180), ("page", 187), ("told", 194), ("letter", 201), ("trusts", 208), ("hear", 215)])
    (c_is_name : CF prog w B mg "is_name" 1 (fun xs σ Q X => (∃ s, xs = [.str s] ∧ s.length < 10 ^ 9 ∧ Q (.bool (isNameS s)) σ) ∨ (∃ x, xs = [x] ∧ NonStr σ x ∧ Q (.bool false) σ))) :
    CM prog w B 159 2 (fun (xs : List V) (σ : List AObj) (Q : V → List AObj → Prop) (X : XT) => ∃ k kn s, xs = [.ref k, .str s] ∧ σ[k]? = some (.inst 218 kn) ∧ σ[kn]? = some (.ns []) ∧ isNameS s = true ∧ Q .none (σ.set kn (.ns [("name", .str s), ("heard", .ref σ.length)]) ++ [.dict [] none])) := by
  refine CM_of gl H good_Hand_init ?_
  rintro A pm code doc q₀ L a₀ _ σ Q X hA ⟨k, kn, s, rfl, h1, h2, hs, q⟩
  refine ⟨rfl, ?_⟩
  change WX _ _ _ _ _ (_ :: _) ((_, _) :: (_, _) :: []) _ _ _

  have hl := isNameS_len hs
  refine X_ifs ?_
  with_reducible (refine T_not ?_; refine T_value ?_; refine E_cf (by assumption) (AOk.le (by assumption) (by decide)) ?_; refine Es_cons ?_; refine E_nm ?_; refine LQ_there (by decide +kernel) ?_; refine LQ_here ?_; refine Es_nil ?_)
  refine .inl ⟨s, rfl, by (clear q hs h2 h1 hA c_is_name k_Hand H S bl gl; lia), ?_⟩
  rw [hs]
  with_reducible (refine T_b ?_; refine iteNo (by decide) ?_; refine X_nil ?_; refine sq_next ?_)
  refine X_seta ?_
  with_reducible (refine E_nm ?_; refine LQ_there (by decide +kernel) ?_; refine LQ_here ?_; refine E_nm ?_; refine LQ_here ?_)
  refine SA_inst k_Hand h1 h2 (by decide +kernel) (by simp) (PQ_nil ?_)
  have hne : kn ≠ k := fun e => by rw [e, h1] at h2; cases h2
  have h1' : (σ.set kn (.ns [("name", .str s)]))[k]? = some (.inst 218 kn) := by rw [List.getElem?_set_ne hne]; exact h1
  have h2' : (σ.set kn (.ns [("name", .str s)]))[kn]? = some (.ns [("name", .str s)]) := List.getElem?_set_self (aLt h2)
  refine X_seta ?_
  with_reducible (refine E_dict0 ?_; refine E_nm ?_; refine LQ_here ?_)
  refine SA_inst k_Hand (up_at h1') (up_at h2') (by decide +kernel) (by simp) (PQ_there (by decide +kernel) (PQ_nil ?_))
  have e : (σ.set kn (.ns [("name", .str s)]) ++ [AObj.dict [] none]).set kn (.ns [("name", .str s), ("heard", .ref (σ.set kn (.ns [("name", .str s)])).length)]) = σ.set kn (.ns [("name", .str s), ("heard", .ref σ.length)]) ++ [.dict [] none] := by
    rw [List.set_append_left _ _ (by rw [List.length_set]; exact aLt h2), List.set_set, List.length_set]
  rw [e]
  with_reducible (refine X_nil ?_)
  exact R_next q

theorem good_Hand_page : GoodM (dm pw_uf050040_14 23 4) ["self"] :=
  ⟨fun q pm code doc vals h => (by obtain ⟨a, rfl⟩ := len_1 h; rfl), by decide +kernel, by decide +kernel, by decide +kernel, rfl, rfl, rfl⟩
theorem cf_Hand_page (gl : Gl B mg mb) (bl : Blt B mg mb) (S : Scr B scr nums) (H : HasM B 187 (dm pw_uf050040_14 23 4)) (k_Hand : Cls B 218 ["name", "heard"] [("__init__", 159), ("grown", 166), ("up", 173), ("down", 180), ("page", 187), ("told", 194), ("letter", 201), ("trusts", 208), ("hear", 215)]) :
    CM prog w B 187 1 (fun xs σ Q X => ∃ k n p kn, HandAt σ k n p kn ∧ p.length ≤ 1000 ∧ xs = [.ref k] ∧ Q (.ref σ.length) (σ ++ [.dict (pgE p) none])) := by
  refine CM_of gl H good_Hand_page ?_
  rintro A pm code doc q₀ L a₀ _ σ Q X hA ⟨k, n, p, kn, ⟨kd, h1, h2, h3⟩, hl, rfl, q⟩
  refine ⟨rfl, ?_⟩
  change WX _ _ _ _ _ (_ :: _) ((_, _) :: []) _ _ _

  with_reducible (refine X_ret ?_; refine E_bi (Blt.dict_ (by assumption)) (by first | exact Keep.builtin _ | exact Keep.type _) ?_; refine Es_cons ?_)
  refine E_attr ?_
  with_reducible (refine E_nm ?_; refine LQ_here ?_)
  refine A_inst k_Hand h1 h2 (by decide +kernel) ?_
  with_reducible (refine LQ_there (by decide +kernel) ?_; refine LQ_here ?_)
  refine ⟨VH.ref, ?_⟩
  with_reducible (refine Es_nil ?_)
  refine C_dict_copy h3 (small_size (by rw [pgE_length]; (exact Nat.le_trans (by assumption) (by decide)))) ?_
  exact R_all q

theorem good_Hand_told : GoodM (dm pw_uf050040_14 23 5) ["self"] :=
  ⟨fun q pm code doc vals h => (by obtain ⟨a, rfl⟩ := len_1 h; rfl), by decide +kernel, by decide +kernel, by decide +kernel, rfl, rfl, rfl⟩
theorem cf_Hand_told (gl : Gl B mg mb) (bl : Blt B mg mb) (S : Scr B scr nums) (H : HasM B 194 (dm pw_uf050040_14 23 5)) (k_Hand : Cls B 218 ["name", "heard"] [("__init__", 159), ("grown", 166), ("up", 173), ("down", 180), ("page", 187), ("told", 194), ("letter", 201), ("trusts", 208), ("hear", 215)])
    (c_total : CF prog w B mg "total" 2 (fun xs σ Q X => ∃ k p e, σ[k]? = some (.dict (pgE p) e) ∧ p.length ≤ 1000 ∧ xs = [.ref k] ∧ Q (.int (nets p).sum) σ)) :
    CM prog w B 194 3 (fun xs σ Q X => ∃ k n p kn, HandAt σ k n p kn ∧ p.length ≤ 1000 ∧ xs = [.ref k] ∧ Q (.int (nets p).sum) σ) := by
  refine CM_of gl H good_Hand_told ?_
  rintro A pm code doc q₀ L a₀ _ σ Q X hA ⟨k, n, p, kn, ⟨kd, h1, h2, h3⟩, hl, rfl, q⟩
  refine ⟨rfl, ?_⟩
  change WX _ _ _ _ _ (_ :: _) ((_, _) :: []) _ _ _

  with_reducible (refine X_ret ?_; refine E_cf (by assumption) (AOk.le (by assumption) (by decide)) ?_; refine Es_cons ?_)
  refine E_attr ?_
  with_reducible (refine E_nm ?_; refine LQ_here ?_)
  refine A_inst k_Hand h1 h2 (by decide +kernel) ?_
  with_reducible (refine LQ_there (by decide +kernel) ?_; refine LQ_here ?_)
  refine ⟨VH.ref, ?_⟩
  with_reducible (refine Es_nil ?_)
  exact ⟨_, _, _, h3, hl, rfl, R_all q⟩

def cellAt (nums : List Int) (k : Int) : Int := if k < nums.length then nums.getD k.toNat 0 else 0

theorem good_cell_at : Good (dr pw_uf050040_14 25) ["_law_script", "_law_k"] :=
  ⟨fun pm code doc vals h => (by obtain ⟨a, b, rfl⟩ := len_2 h; rfl), by decide +kernel, by decide +kernel, by decide +kernel, rfl, rfl, rfl⟩
theorem cf_cell_at (gl : Gl B mg mb) (bl : Blt B mg mb) (S : Scr B scr nums) (H : HasF B mg (dr pw_uf050040_14 25)) :
    CF prog w B mg "_law_cell_at" 1 (fun xs σ Q X => ∃ k, xs = [.raw (.ref scr), .int k] ∧ 0 ≤ k ∧ Q (.int (cellAt nums k)) σ) := by
  refine CF_of gl H good_cell_at ?_
  rintro A pm code doc L a₀ _ σ Q X hA ⟨k, rfl, hk, q⟩
  refine ⟨rfl, ?_⟩
  change WX _ _ _ _ _ (_ :: _) ((_, _) :: (_, _) :: []) _ _ _

  refine X_ifs ?_
  with_reducible (refine T_cmp1 ?_; refine E_nm ?_; refine LQ_there (by decide +kernel) ?_; refine LQ_here ?_; refine E_bi (Blt.len_ (by assumption)) (by first | exact Keep.builtin _ | exact Keep.type _) ?_; refine Es_cons ?_; refine E_nm ?_; refine LQ_here ?_; refine Es_nil ?_; refine C_len_scr (by assumption) ?_; refine O_lt ?_; refine T_b ?_)
  refine iteD (fun h => ?_) (fun h => ?_)
  · with_reducible (refine X_ret ?_; refine E_sub ?_; refine E_nm ?_; refine LQ_here ?_; refine E_nm ?_; refine LQ_there (by decide +kernel) ?_; refine LQ_here ?_)
    refine S_scr S hk h ?_
    with_reducible (refine sq_ret ?_)
    refine R_all ?_
    simpa [cellAt, h] using q
  · with_reducible (refine X_nil ?_; refine sq_next ?_; refine X_ret ?_; refine E_int ?_)
    refine R_all ?_
    simpa [cellAt, h] using q

theorem good_whole : Good (dr pw_uf050040_14 26) ["_law_found"] :=
  ⟨fun pm code doc vals h => (by obtain ⟨a, rfl⟩ := len_1 h; rfl), by decide +kernel, by decide +kernel, by decide +kernel, rfl, rfl, rfl⟩
theorem cf_whole (gl : Gl B mg mb) (bl : Blt B mg mb) (S : Scr B scr nums) (H : HasF B mg (dr pw_uf050040_14 26)) :
    CF prog w B mg "_law_whole" 1 (fun xs σ Q X => ∃ c, xs = [.int c] ∧ Q (.bool true) σ) := by
  refine CF_of gl H good_whole ?_
  rintro A pm code doc L a₀ _ σ Q X hA ⟨c, rfl, q⟩
  refine ⟨rfl, ?_⟩
  change WX _ _ _ _ _ (_ :: _) ((_, _) :: []) _ _ _

  with_reducible (refine X_ret ?_)
  refine E_boolop ?_
  with_reducible (refine Bo_and ?_; refine E_bi (Blt.isinstance_ (by assumption)) (by first | exact Keep.builtin _ | exact Keep.type _) ?_; refine Es_cons ?_; refine E_nm ?_; refine LQ_here ?_; refine Es_cons ?_; refine E_nm ?_; refine LQ_there (by decide +kernel) ?_; refine LQ_nil ?_; refine N_bi (Blt.int_ (by assumption)) ?_; refine Es_nil ?_; refine isi_int (isi_int_int) ?_; refine T_b ?_; refine iteT ?_; refine Bo_one ?_; refine E_un ?_; refine E_bi (Blt.isinstance_ (by assumption)) (by first | exact Keep.builtin _ | exact Keep.type _) ?_; refine Es_cons ?_; refine E_nm ?_; refine LQ_here ?_; refine Es_cons ?_; refine E_nm ?_; refine LQ_there (by decide +kernel) ?_; refine LQ_nil ?_; refine N_bi (Blt.bool_ (by assumption)) ?_; refine Es_nil ?_; refine isi_int (isi_int_bool) ?_; refine O_not ?_)
  exact R_all q

def numBy (c : Int) : Int := if c % 5 < 2 then c / 5 % 3 * (c % 5) else if c % 5 = 2 then c / 5 % 1000 else if c % 5 = 3 then c / 5 % 10 ^ 60 else 10 ^ 60 - 1 - c / 5 % 1000

theorem good_number_by : Good (dr pw_uf050040_14 27) ["_law_cell"] :=
  ⟨fun pm code doc vals h => (by obtain ⟨a, rfl⟩ := len_1 h; rfl), by decide +kernel, by decide +kernel, by decide +kernel, rfl, rfl, rfl⟩
theorem cf_number_by (gl : Gl B mg mb) (bl : Blt B mg mb) (S : Scr B scr nums) (H : HasF B mg (dr pw_uf050040_14 27)) :
    CF prog w B mg "_law_number_by" 1 (fun xs σ Q X => ∃ c, xs = [.int c] ∧ Q (.int (numBy c)) σ) := by
  refine CF_of gl H good_number_by ?_
  rintro A pm code doc L a₀ _ σ Q X hA ⟨c, rfl, q⟩
  refine ⟨rfl, ?_⟩
  change WX _ _ _ _ _ (_ :: _) ((_, _) :: []) _ _ _

  unfold numBy at q
  with_reducible (refine X_let ?_; refine E_bin ?_; refine E_nm ?_; refine LQ_here ?_; refine E_int ?_; refine O_mod ?_ (by (decide)))
  refine X_ifs ?_
  with_reducible (refine T_cmp1 ?_; refine E_nm ?_; refine LQ_here ?_; refine E_int ?_; refine O_lt ?_; refine T_b ?_)
  refine iteD (fun h => ?_) (fun h => ?_)
  · rw [if_pos h] at q
    with_reducible (refine X_ret ?_; refine E_bin ?_; refine E_bin ?_; refine E_bin ?_; refine E_nm ?_; refine LQ_there (by decide +kernel) ?_; refine LQ_here ?_; refine E_int ?_; refine O_div ?_ (by (decide)) (by decide +kernel); refine E_int ?_; refine O_mod ?_ (by (decide)); refine E_nm ?_; refine LQ_here ?_; refine O_mul ?_ (by first | exact .inl (by (clear h q hA H S bl gl; lia)) | exact .inr (by omega)); refine sq_ret ?_)
    exact R_all q
  · rw [if_neg h] at q
    with_reducible (refine X_nil ?_; refine sq_next ?_)
    refine X_ifs ?_
    with_reducible (refine T_cmp1 ?_; refine E_nm ?_; refine LQ_here ?_; refine E_int ?_; refine O_eq ?_; refine T_b ?_)
    refine iteD (fun h => ?_) (fun h => ?_)
    · rw [if_pos h] at q
      with_reducible (refine X_ret ?_; refine E_bin ?_; refine E_bin ?_; refine E_nm ?_; refine LQ_there (by decide +kernel) ?_; refine LQ_here ?_; refine E_int ?_; refine O_div ?_ (by (decide)) (by decide +kernel); refine E_int ?_; refine O_mod ?_ (by (decide)); refine sq_ret ?_)
      exact R_all q
    · rw [if_neg h] at q
      with_reducible (refine X_nil ?_; refine sq_next ?_)
      refine X_ifs ?_
      with_reducible (refine T_cmp1 ?_; refine E_nm ?_; refine LQ_here ?_; refine E_int ?_; refine O_eq ?_; refine T_b ?_)
      refine iteD (fun h => ?_) (fun h => ?_)
      · rw [if_pos h] at q
        with_reducible (refine X_ret ?_; refine E_bin ?_; refine E_bin ?_; refine E_nm ?_; refine LQ_there (by decide +kernel) ?_; refine LQ_here ?_; refine E_int ?_; refine O_div ?_ (by (decide)) (by decide +kernel); refine E_bin ?_; refine E_int ?_; refine E_int ?_; refine O_pow60 ?_; refine O_mod ?_ (by (decide)); refine sq_ret ?_)
        exact R_all q
      · rw [if_neg h] at q
        with_reducible (refine X_nil ?_; refine sq_next ?_; refine X_ret ?_; refine E_bin ?_; refine E_bin ?_; refine E_bin ?_; refine E_int ?_; refine E_int ?_; refine O_pow60 ?_; refine E_int ?_; refine O_sub ?_; refine E_bin ?_; refine E_bin ?_; refine E_nm ?_; refine LQ_there (by decide +kernel) ?_; refine LQ_here ?_; refine E_int ?_; refine O_div ?_ (by (decide)) (by decide +kernel); refine E_int ?_; refine O_mod ?_ (by (decide)); refine O_sub ?_)
        exact R_all q

theorem good_share : Good (dr pw_uf050040_14 28) ["_law_found", "_law_due"] :=
  ⟨fun pm code doc vals h => (by obtain ⟨a, b, rfl⟩ := len_2 h; rfl), by decide +kernel, by decide +kernel, by decide +kernel, rfl, rfl, rfl⟩
theorem cf_share (gl : Gl B mg mb) (bl : Blt B mg mb) (S : Scr B scr nums) (H : HasF B mg (dr pw_uf050040_14 28))
    (c_whole : CF prog w B mg "_law_whole" 1 (fun xs σ Q X => ∃ c, xs = [.int c] ∧ Q (.bool true) σ)) :
    CF prog w B mg "_law_share" 2 (fun xs σ Q X => ∃ a b c d, xs = [.tup [.int a, .int b], .tup [.int c, .int d]] ∧ Q (.bool (decide (a = c ∧ b = d))) σ) := by
  refine CF_of gl H good_share ?_
  rintro A pm code doc L a₀ _ σ Q X hA ⟨a, b, c, d, rfl, q⟩
  refine ⟨rfl, ?_⟩
  change WX _ _ _ _ _ (_ :: _) ((_, _) :: (_, _) :: []) _ _ _

  refine X_ifs ?_
  with_reducible (refine T_bool ?_; refine Ts_or ?_; refine T_not ?_; refine T_value ?_; refine E_bi (Blt.isinstance_ (by assumption)) (by first | exact Keep.builtin _ | exact Keep.type _) ?_; refine Es_cons ?_; refine E_nm ?_; refine LQ_here ?_; refine Es_cons ?_; refine E_nm ?_; refine LQ_there (by decide +kernel) ?_; refine LQ_there (by decide +kernel) ?_; refine LQ_nil ?_; refine N_bi (Blt.tuple_ (by assumption)) ?_; refine Es_nil ?_; refine isi_tup (isi_tuple_tuple) ?_; refine T_b ?_; refine iteNo (by decide) ?_; refine Ts_or ?_; refine T_cmp1 ?_; refine E_bi (Blt.len_ (by assumption)) (by first | exact Keep.builtin _ | exact Keep.type _) ?_; refine Es_cons ?_; refine E_nm ?_; refine LQ_here ?_; refine Es_nil ?_; refine C_len_t2 ?_; refine E_int ?_; refine O_ne ?_; refine T_b ?_; refine iteNo (by decide) ?_; refine Ts_or_nil ?_; refine iteF ?_; refine X_nil ?_; refine sq_next ?_; refine X_ret ?_)
  refine E_boolop ?_
  with_reducible (refine Bo_and ?_; refine E_cf (by assumption) (AOk.le (by assumption) (by decide)) ?_; refine Es_cons ?_; refine E_sub ?_; refine E_nm ?_; refine LQ_here ?_; refine E_int ?_; refine S_t0 ?_; refine Es_nil ?_; refine ⟨_, rfl, ?_⟩; refine T_b ?_; refine iteT ?_; refine Bo_and ?_; refine E_cf (by assumption) (AOk.le (by assumption) (by decide)) ?_; refine Es_cons ?_; refine E_sub ?_; refine E_nm ?_; refine LQ_here ?_; refine E_int ?_; refine S_t1 ?_; refine Es_nil ?_; refine ⟨_, rfl, ?_⟩; refine T_b ?_; refine iteT ?_; refine Bo_and ?_; refine E_cmp1 ?_; refine E_sub ?_; refine E_nm ?_; refine LQ_here ?_; refine E_int ?_; refine S_t0 ?_; refine E_sub ?_; refine E_nm ?_; refine LQ_there (by decide +kernel) ?_; refine LQ_here ?_; refine E_int ?_; refine S_t0 ?_; refine O_eq ?_; refine T_b ?_)
  refine iteD (fun h => ?_) (fun h => ?_)
  · with_reducible (refine Bo_one ?_; refine E_cmp1 ?_; refine E_sub ?_; refine E_nm ?_; refine LQ_here ?_; refine E_int ?_; refine S_t1 ?_; refine E_sub ?_; refine E_nm ?_; refine LQ_there (by decide +kernel) ?_; refine LQ_here ?_; refine E_int ?_; refine S_t1 ?_; refine O_eq ?_)
    refine R_all ?_
    simpa [h] using q
  · refine R_all ?_
    simpa [h] using q

def sg (c : Nat) : Str := ⟨#[c]⟩
theorem join_sg (l : List Nat) : Txt.join (Str.ofString "") (l.map sg) = ⟨l.toArray⟩ := by
  have : Str.ofString "" = ⟨#[]⟩ := by decide +kernel
  rw [this]; exact join_empty l
theorem joinOk_sg (l : List Nat) (h : l.length ≤ 1000) : JoinOk (Str.ofString "") (l.map sg) = true := by
  refine joinOk_small (fun y hy => ?_) (by simpa using h) (by decide +kernel)
  obtain ⟨c, _, rfl⟩ := List.mem_map.mp hy
  show 1 ≤ 1000
  decide

theorem letters_get {i : Nat} (h : i < 26) : letters.cps.getD i 0 = 97 + i := by
  have e : letters.cps = (List.range' 97 26).toArray := by rw [← letters_list]
  rw [e, Array.getD_eq_getD_getElem?, List.getElem?_toArray, List.getElem?_range' (by simpa using h)]
  simp
theorem letters_size : letters.cps.size = 26 := by decide +kernel
theorem letters_sign {i : Nat} (h : i < 26) : signAt letters i = sg (97 + i) := by unfold signAt sg; rw [letters_get h]
def nameL0 (c : Int) : List Nat := (List.range (1 + c % 8 - 0).toNat).map fun (k : Nat) => 97 + ((c / 8 + (0 + (k : Int)) * (1 + c / 208 % 25)) % 26).toNat
def nameL (c : Int) : List Nat := if c / 5200 % 2 = 1 then (nameL0 c).set (c / 10400 % ((nameL0 c).length : Int)).toNat (97 + (c / 83200 % 26).toNat) else nameL0 c
def nameBy (c : Int) : Str := ⟨(nameL c).toArray⟩
theorem nameL0_length (c : Int) : (nameL0 c).length = (1 + c % 8).toNat := by simp [nameL0]
theorem nameL_length (c : Int) : (nameL c).length = (1 + c % 8).toNat := by unfold nameL; split <;> simp [nameL0_length]
theorem nameL_ok (c : Int) : ∀ x ∈ nameL c, 97 ≤ x ∧ x ≤ 122 := by
  have h0 : ∀ x ∈ nameL0 c, 97 ≤ x ∧ x ≤ 122 := fun x hx => by
    obtain ⟨k, _, rfl⟩ := List.mem_map.mp hx
    (clear hx; lia)
  intro x hx
  unfold nameL at hx
  split at hx
  · rcases List.mem_or_eq_of_mem_set hx with h | rfl
    · exact h0 x h
    · (clear hx h0; lia)
  · exact h0 x hx
theorem nameBy_ok (c : Int) : isNameS (nameBy c) = true := by
  unfold isNameS nameBy
  have h1 := nameL_length c
  have h2 := nameL_ok c
  simp only [Str.length, List.size_toArray, Bool.and_eq_true, decide_eq_true_eq, List.all_eq_true]
  refine ⟨by (clear h2; lia), fun x hx => ?_⟩
  unfold isL
  exact decide_eq_true (h2 x (by simpa using hx))

theorem good_name_by : Good (dr pw_uf050040_14 29) ["_law_cell"] :=
  ⟨fun pm code doc vals h => (by obtain ⟨a, rfl⟩ := len_1 h; rfl), by decide +kernel, by decide +kernel, by decide +kernel, rfl, rfl, rfl⟩
theorem cf_name_by (gl : Gl B mg mb) (bl : Blt B mg mb) (S : Scr B scr nums) (H : HasF B mg (dr pw_uf050040_14 29)) :
    CF prog w B mg "_law_name_by" 2 (fun xs σ Q X => ∃ c, xs = [.int c] ∧ Q (.str (nameBy c)) σ) := by
  refine CF_of gl H good_name_by ?_
  rintro A pm code doc L a₀ _ σ Q X hA ⟨c, rfl, q⟩
  refine ⟨rfl, ?_⟩
  change WX _ _ _ _ _ (_ :: _) ((_, _) :: []) _ _ _

  with_reducible (refine X_letc ?_; refine E_str ?_; refine X_letc ?_; refine E_bin ?_; refine E_int ?_; refine E_bin ?_; refine E_bin ?_; refine E_nm ?_; refine LQ_there (by decide +kernel) ?_; refine LQ_here ?_; refine E_int ?_; refine O_div ?_ (by (decide)) (by decide +kernel); refine E_int ?_; refine O_mod ?_ (by (decide)); refine O_add ?_)
  refine X_compl [("_law_signs", .str (Str.ofString "abcdefghijklmnopqrstuvwxyz")), ("_law_step", .int (1 + c / 208 % 25)), ("_law_cell", .int c)] (by kernel_rfl!) (by with_reducible (refine Sub.cons ?_; refine LQ_there (by decide +kernel) ?_; refine LQ_here ?_; refine ⟨rfl, ?_⟩; refine Sub.cons ?_; refine LQ_here ?_; refine ⟨rfl, ?_⟩; refine Sub.cons ?_; refine LQ_there (by decide +kernel) ?_; refine LQ_there (by decide +kernel) ?_; refine LQ_here ?_; refine ⟨rfl, ?_⟩; exact Sub.nil)) (by kernel_rfl!) env_apart ?_
  with_reducible (refine E_bi (Blt.range_ (by assumption)) (by first | exact Keep.builtin _ | exact Keep.type _) ?_; refine Es_cons ?_; refine E_bin ?_; refine E_int ?_; refine E_bin ?_; refine E_nm ?_; refine LQ_there (by decide +kernel) ?_; refine LQ_there (by decide +kernel) ?_; refine LQ_here ?_; refine E_int ?_; refine O_mod ?_ (by (decide)); refine O_add ?_; refine Es_nil ?_; refine C_range1 ?_)
  refine ⟨σ, _, _, _, fun i => .str (sg (97 + ((c / 8 + (0 + (i : Int)) * (1 + c / 208 % 25)) % 26).toNat)), It_range hA.handled (by (exact Int.natCast_nonneg _)) (by (exact Int.natCast_nonneg _)) (by (clear q hA H S bl gl; lia)) (by (clear q hA H S bl gl; lia)), small_size (by (clear q hA H S bl gl; lia)), fun _ => trivial, fun D i hi => ?_, ?_⟩
  · with_reducible (refine E_sub ?_; refine E_nm ?_; refine LQ_there (by decide +kernel) ?_; refine LQ_here ?_; refine E_bin ?_; refine E_bin ?_; refine E_bin ?_; refine E_nm ?_; refine LQ_there (by decide +kernel) ?_; refine LQ_there (by decide +kernel) ?_; refine LQ_there (by decide +kernel) ?_; refine LQ_here ?_; refine E_int ?_; refine O_div ?_ (by (decide)) (by decide +kernel); refine E_bin ?_; refine E_nm ?_; refine LQ_here ?_; refine E_nm ?_; refine LQ_there (by decide +kernel) ?_; refine LQ_there (by decide +kernel) ?_; refine LQ_here ?_; refine O_mul ?_ (by first | exact .inl (by (clear q hA H S bl gl; lia)) | exact .inr (by omega)); refine O_add ?_; refine E_int ?_; refine O_mod ?_ (by (decide)))
    refine S_str (by (clear hi q hA H S bl gl; lia)) (by rw [show (Str.ofString "abcdefghijklmnopqrstuvwxyz").cps.size = 26 from letters_size]; (clear hi q hA H S bl gl; omega)) (by (clear hi q hA H S bl gl; lia)) ?_
    exact ⟨congrArg V.str (letters_sign (by (clear hi q hA H S bl gl; lia))), rfl⟩
  have e0 : (List.range (1 + c % 8 - 0).toNat).map (fun (i : Nat) => V.str (sg (97 + ((c / 8 + (0 + (i : Int)) * (1 + c / 208 % 25)) % 26).toNat))) = ((nameL0 c).map sg).map V.str := by simp [nameL0, List.map_map, Function.comp_def]
  rw [e0]
  have hl := nameL0_length c
  have hl2 := nameL_length c
  have fin : ∀ ρ, retQ σ Q (.ret (.str (Txt.join (Str.ofString "") ((nameL c).map sg)))) ρ (σ ++ [.list (((nameL c).map sg).map V.str)]) := fun ρ => by
    rw [join_sg]
    exact R_none (by simp [V.lt]) q
  refine X_ifs ?_
  with_reducible (refine T_cmp1 ?_; refine E_bin ?_; refine E_bin ?_; refine E_nm ?_; refine LQ_there (by decide +kernel) ?_; refine LQ_there (by decide +kernel) ?_; refine LQ_there (by decide +kernel) ?_; refine LQ_here ?_; refine E_int ?_; refine O_div ?_ (by (decide)) (by decide +kernel); refine E_int ?_; refine O_mod ?_ (by (decide)); refine E_int ?_; refine O_eq ?_; refine T_b ?_)
  refine iteD (fun h1 => ?_) (fun h1 => ?_)
  · with_reducible (refine X_set ?_; refine E_sub ?_; refine E_nm ?_; refine LQ_there (by decide +kernel) ?_; refine LQ_there (by decide +kernel) ?_; refine LQ_here ?_; refine E_bin ?_; refine E_bin ?_; refine E_nm ?_; refine LQ_there (by decide +kernel) ?_; refine LQ_there (by decide +kernel) ?_; refine LQ_there (by decide +kernel) ?_; refine LQ_here ?_; refine E_int ?_; refine O_div ?_ (by (decide)) (by decide +kernel); refine E_int ?_; refine O_mod ?_ (by (decide)))
    refine S_str (by (clear h1 fin hl2 hl e0 q hA H S bl gl; lia)) (by rw [show (Str.ofString "abcdefghijklmnopqrstuvwxyz").cps.size = 26 from letters_size]; (clear h1 fin hl2 hl e0 q hA H S bl gl; lia)) (by (clear h1 fin hl2 hl e0 q hA H S bl gl; lia)) ?_
    rw [show signAt (Str.ofString "abcdefghijklmnopqrstuvwxyz") (c / 83200 % 26).toNat = _ from letters_sign (by (clear h1 fin hl2 hl e0 q hA H S bl gl; lia))]
    with_reducible (refine E_nm ?_; refine LQ_here ?_; refine E_bin ?_; refine E_bin ?_; refine E_nm ?_; refine LQ_there (by decide +kernel) ?_; refine LQ_there (by decide +kernel) ?_; refine LQ_there (by decide +kernel) ?_; refine LQ_here ?_; refine E_int ?_; refine O_div ?_ (by (decide)) (by decide +kernel); refine E_bi (Blt.len_ (by assumption)) (by first | exact Keep.builtin _ | exact Keep.type _) ?_; refine Es_cons ?_; refine E_nm ?_; refine LQ_here ?_; refine Es_nil ?_)
    refine C_len_list at_end (by simp; (clear h1 fin hl2 e0 q hA H S bl gl; lia)) ?_
    skip
    have hlp : (0 : Int) < ((((nameL0 c).map sg).map V.str).length : Int) := by simp; (clear h1 fin hl2 e0 q hA H S bl gl; lia)
    refine O_mod ?_ hlp
    have hm := Int.emod_lt_of_pos (c / 10400) hlp
    have hm0 := Int.emod_nonneg (c / 10400) (Int.ne_of_gt hlp)
    refine P_list at_end hm0 hm (by simp at hm ⊢; (clear hm0 hlp h1 fin hl2 e0 q hA H S bl gl; lia)) ?_
    rw [set_end]
    have e : (((nameL0 c).map sg).map V.str).set (c / 10400 % ((((nameL0 c).map sg).map V.str).length : Int)).toNat (V.str (sg (97 + (c / 83200 % 26).toNat))) = ((nameL c).map sg).map V.str := by
      unfold nameL; rw [if_pos h1]; simp [List.map_set]
    rw [e]
    with_reducible (refine X_nil ?_; refine sq_next ?_; refine X_ret ?_; refine E_mcall (name := Str.ofString "join") (id := "str.join") ?_; refine E_str ?_; refine ⟨GM_str F.slot_str_join F.type_str_join, ?_⟩; refine Es_cons ?_; refine E_nm ?_; refine LQ_here ?_; refine Es_nil ?_)
    refine C_join at_end (joinOk_sg _ (by (clear e hm0 hm hlp h1 fin hl e0 q hA H S bl gl; lia))) ?_
    exact fin _
  · have e : ((nameL0 c).map sg).map V.str = ((nameL c).map sg).map V.str := by unfold nameL; rw [if_neg h1]
    rw [e]
    with_reducible (refine X_nil ?_; refine sq_next ?_; refine X_ret ?_; refine E_mcall (name := Str.ofString "join") (id := "str.join") ?_; refine E_str ?_; refine ⟨GM_str F.slot_str_join F.type_str_join, ?_⟩; refine Es_cons ?_; refine E_nm ?_; refine LQ_here ?_; refine Es_nil ?_)
    refine C_join at_end (joinOk_sg _ (by (clear e h1 fin hl e0 q hA H S bl gl; lia))) ?_
    exact fin _

def mixed (c k : Int) : Int := (c % 1000000007 + 7919 * k + 11) * 48271 % 2147483647

theorem good_mixed : Good (dr pw_uf050040_14 30) ["_law_cell", "_law_k"] :=
  ⟨fun pm code doc vals h => (by obtain ⟨a, b, rfl⟩ := len_2 h; rfl), by decide +kernel, by decide +kernel, by decide +kernel, rfl, rfl, rfl⟩
theorem cf_mixed (gl : Gl B mg mb) (bl : Blt B mg mb) (S : Scr B scr nums) (H : HasF B mg (dr pw_uf050040_14 30)) :
    CF prog w B mg "_law_mixed" 1 (fun xs σ Q X => ∃ c k, xs = [.int c, .int k] ∧ Q (.int (mixed c k)) σ) := by
  refine CF_of gl H good_mixed ?_
  rintro A pm code doc L a₀ _ σ Q X hA ⟨c, k, rfl, q⟩
  refine ⟨rfl, ?_⟩
  change WX _ _ _ _ _ (_ :: _) ((_, _) :: (_, _) :: []) _ _ _

  with_reducible (refine X_ret ?_; refine E_bin ?_; refine E_bin ?_; refine E_bin ?_; refine E_bin ?_; refine E_bin ?_; refine E_nm ?_; refine LQ_here ?_; refine E_int ?_; refine O_mod ?_ (by (decide)); refine E_bin ?_; refine E_int ?_; refine E_nm ?_; refine LQ_there (by decide +kernel) ?_; refine LQ_here ?_; refine O_mul ?_ (by first | exact .inl (by (decide)) | exact .inr (by omega)); refine O_add ?_; refine E_int ?_; refine O_add ?_; refine E_int ?_; refine O_mul ?_ (by first | exact .inl (by omega) | exact .inr (by (decide))); refine E_int ?_; refine O_mod ?_ (by (decide)))
  exact R_all q

theorem numBy_ok (c : Int) : 0 ≤ numBy c ∧ numBy c < 10 ^ 60 := by
  unfold numBy
  split
  · rename_i h
    have h1 : c % 5 = 0 ∨ c % 5 = 1 := by (lia)
    rcases h1 with h1 | h1 <;> rw [h1] <;> omega
  · split
    · (lia)
    · split
      · exact ⟨Int.emod_nonneg _ (by decide), Int.emod_lt_of_pos _ (by decide)⟩
      · (lia)

/-! pages that are joined in any order -/
def cnt4 (c : Int) : Nat → Nat
  | 0 => 0
  | i + 1 => cnt4 c i + (if mixed c (i : Int) % 6 = 4 then 1 else 0)
theorem ne6 {q a b x y : Int} (h : x = q + a) (h' : y = q + b) (hd : (b - a) % 6 ≠ 0) : ¬ (x % 6 = 4 ∧ y % 6 = 4) := by subst h h'; (lia)
theorem cnt4_three (c : Int) (i : Nat) : cnt4 c (i + 3) ≤ cnt4 c i + 1 := by
  simp only [cnt4]
  have e1 : mixed c ((i + 1 : Nat) : Int) = ((c % 1000000007 + 7919 * (i : Int) + 11) * 48271 + 382258049) % 2147483647 := by unfold mixed; congr 1; (lia)
  have e2 : mixed c ((i + 2 : Nat) : Int) = ((c % 1000000007 + 7919 * (i : Int) + 11) * 48271 + 764516098) % 2147483647 := by unfold mixed; congr 1; (clear e1; lia)
  have e0 : mixed c (i : Int) = ((c % 1000000007 + 7919 * (i : Int) + 11) * 48271) % 2147483647 := rfl
  rw [e0, e1, e2]
  generalize (c % 1000000007 + 7919 * (i : Int) + 11) * 48271 = x
  have b0 := Int.emod_lt_of_pos x (show (0 : Int) < 2147483647 by decide)
  have b1 := Int.emod_nonneg x (show (2147483647 : Int) ≠ 0 by decide)
  have d1 : (x + 382258049) % 2147483647 = x % 2147483647 + 382258049 ∨ (x + 382258049) % 2147483647 = x % 2147483647 + -1765225598 := by (clear b1 b0 e0 e2 e1; lia)
  have d2 : (x + 764516098) % 2147483647 = x % 2147483647 + 764516098 ∨ (x + 764516098) % 2147483647 = x % 2147483647 + -1382967549 := by (clear d1 b1 b0 e0 e2 e1; lia)
  clear b0 b1
  have c1 := Int.emod_nonneg (x + 382258049) (show (2147483647 : Int) ≠ 0 by decide)
  have c2 := Int.emod_lt_of_pos (x + 764516098) (show (0 : Int) < 2147483647 by decide)
  generalize x % 2147483647 = q at *
  generalize (x + 382258049) % 2147483647 = q1 at *
  generalize (x + 764516098) % 2147483647 = q2 at *
  clear e0 e1 e2
  have z := (Int.add_zero q).symm
  have h01 : ¬ (q % 6 = 4 ∧ q1 % 6 = 4) := d1.elim (fun h => ne6 z h (by decide)) fun h => ne6 z h (by decide)
  have h02 : ¬ (q % 6 = 4 ∧ q2 % 6 = 4) := d2.elim (fun h => ne6 z h (by decide)) fun h => ne6 z h (by decide)
  have h12 : ¬ (q1 % 6 = 4 ∧ q2 % 6 = 4) := d1.elim (fun h => d2.elim (fun k => ne6 h k (by decide)) fun k => ne6 h k (by decide)) fun h => d2.elim (fun k _ => by clear h01 h02 d1 d2 z; omega) fun k => ne6 h k (by decide)
  by_cases a0 : q % 6 = 4
  · rw [if_pos a0, if_neg fun h => h01 ⟨a0, h⟩, if_neg fun h => h02 ⟨a0, h⟩]; (clear a0 h12 h02 h01 z d2 c2 d1 c1; lia)
  · rw [if_neg a0]
    by_cases a1 : q1 % 6 = 4
    · rw [if_pos a1, if_neg fun h => h12 ⟨a1, h⟩]; (clear a1 a0 h12 h02 h01 z d2 c2 d1 c1; lia)
    · rw [if_neg a1]; split <;> omega
theorem cnt4_mono (c : Int) (i : Nat) : cnt4 c i ≤ cnt4 c (i + 1) := by simp only [cnt4]; (lia)
theorem cnt4_le (c : Int) : ∀ i : Nat, cnt4 c i ≤ (i + 2) / 3
  | 0 => by simp [cnt4]
  | 1 => by have h1 : cnt4 c 3 ≤ cnt4 c 0 + 1 := cnt4_three c 0; have h2 : cnt4 c 1 ≤ cnt4 c 2 := cnt4_mono c 1; have h3 : cnt4 c 2 ≤ cnt4 c 3 := cnt4_mono c 2; have h4 : cnt4 c 0 = 0 := rfl; (lia)
  | 2 => by have h1 : cnt4 c 3 ≤ cnt4 c 0 + 1 := cnt4_three c 0; have h3 : cnt4 c 2 ≤ cnt4 c 3 := cnt4_mono c 2; have h4 : cnt4 c 0 = 0 := rfl; (lia)
  | i + 3 => by have := cnt4_three c i; have := cnt4_le c i; (lia)
def RowOk6 (r : Str × Int × Int) : Prop := isNameS r.1 = true ∧ 0 ≤ r.2.1 ∧ 0 ≤ r.2.2 ∧ 0 < r.2.1 + r.2.2 ∧ r.2.1 < 10 ^ 60 ∧ r.2.2 < 10 ^ 60
def PgOk6 (p : Pg) : Prop := (names p).Nodup ∧ ∀ r ∈ p, RowOk6 r
theorem PgOk6.ok {p : Pg} (h : PgOk6 p) : PgOk p := ⟨h.1, fun r hr => ⟨(h.2 r hr).1, (h.2 r hr).2.1, (h.2 r hr).2.2.1, (h.2 r hr).2.2.2.1⟩⟩
theorem pput_mem_row {p : Pg} {n : Str} {v : Int × Int} {r : Str × Int × Int} (hm : r ∈ pput p n v) : r ∈ p ∨ r = (n, v) := by
  unfold pput at hm
  split at hm
  · obtain ⟨q, hq, rfl⟩ := List.mem_map.mp hm
    split
    · rename_i e; right; rw [← e]
    · exact .inl hq
  · rcases List.mem_append.mp hm with hm | hm
    · exact .inl hm
    · exact .inr (List.mem_singleton.mp hm)
theorem pput_ok6 {p : Pg} {n : Str} {v : Int × Int} (h : PgOk6 p) (hr : RowOk6 (n, v)) : PgOk6 (pput p n v) :=
  ⟨(pput_ok h.ok ⟨hr.1, hr.2.1, hr.2.2.1, hr.2.2.2.1⟩).1, fun r hm => (pput_mem_row hm).elim (h.2 r) fun e => e ▸ hr⟩
theorem PgOk6.nil : PgOk6 [] := ⟨List.nodup_nil, fun _ h => (nomatch h)⟩
theorem filter_ok6 {p : Pg} (f : Str × Int × Int → Bool) (h : PgOk6 p) : PgOk6 (p.filter f) := ⟨(filter_ok f h.ok).1, fun r hr => h.2 r (List.mem_filter.mp hr).1⟩
theorem pageB_ok6 {p : Pg} (h : PgOk6 p) (hl : p.length ≤ 200) : pageB (pgE p) = true := by
  unfold pageB
  rw [pgE_length, decide_eq_true hl, Bool.true_and, List.all_eq_true]
  intro e he
  obtain ⟨r, hr, rfl⟩ := List.mem_map.mp he
  obtain ⟨h1, h2, h3, h4, h5, h6⟩ := h.2 r hr
  obtain ⟨n, a, b⟩ := r
  simp only [toRow, keyB, shareB] at *
  rw [h1, Bool.true_and, decide_eq_true_eq]
  exact ⟨⟨h2, h5⟩, ⟨h3, h6⟩, h4⟩
/-- the greatest shares of a name in some pages -/
def sups : List Pg → Str → Int × Int
  | [], _ => (0, 0)
  | p :: r, n => maxS (look p n) (sups r n)
theorem sups_nonneg : ∀ (L : List Pg) (n : Str), NonNeg (sups L n)
  | [], _ => ⟨Int.le_refl _, Int.le_refl _⟩
  | p :: r, n => ⟨Int.le_trans (sups_nonneg r n).1 (Int.le_max_right _ _), Int.le_trans (sups_nonneg r n).2 (Int.le_max_right _ _)⟩
theorem sups_append : ∀ (L M : List Pg) (n : Str), sups (L ++ M) n = maxS (sups L n) (sups M n)
  | [], M, n => by rw [List.nil_append]; show _ = maxS (0, 0) _; rw [maxS_comm, maxS_zero (sups_nonneg M n)]
  | p :: r, M, n => by
    show maxS (look p n) (sups (r ++ M) n) = maxS (maxS (look p n) (sups r n)) (sups M n)
    rw [sups_append r M n]
    exact Prod.ext (Int.max_assoc _ _ _).symm (Int.max_assoc _ _ _).symm
theorem sups_le : ∀ (L : List Pg) (n : Str) (a b : Int), 0 ≤ a → 0 ≤ b → ((sups L n).1 ≤ a ∧ (sups L n).2 ≤ b ↔ ∀ p ∈ L, (look p n).1 ≤ a ∧ (look p n).2 ≤ b)
  | [], n, a, b, ha, hb => ⟨fun _ _ h => (nomatch h), fun _ => ⟨ha, hb⟩⟩
  | p :: r, n, a, b, ha, hb => by
    have ih := sups_le r n a b ha hb
    refine ⟨fun h q hq => ?_, fun h => ?_⟩
    · rcases List.mem_cons.mp hq with rfl | hq
      · exact ⟨Int.le_trans (Int.le_max_left _ _) h.1, Int.le_trans (Int.le_max_left _ _) h.2⟩
      · exact ih.mp ⟨Int.le_trans (Int.le_max_right _ _) h.1, Int.le_trans (Int.le_max_right _ _) h.2⟩ q hq
    · have h1 := h p (.head _)
      have h2 := ih.mpr fun q hq => h q (.tail _ hq)
      exact ⟨Int.max_le.mpr ⟨h1.1, h2.1⟩, Int.max_le.mpr ⟨h1.2, h2.2⟩⟩
theorem sups_sub {L M : List Pg} (h : ∀ p ∈ L, p ∈ M) (n : Str) : (sups L n).1 ≤ (sups M n).1 ∧ (sups L n).2 ≤ (sups M n).2 := by
  have hm := sups_nonneg M n
  refine (sups_le L n _ _ hm.1 hm.2).mpr fun p hp => ?_
  exact (sups_le M n _ _ hm.1 hm.2).mp ⟨Int.le_refl _, Int.le_refl _⟩ p (h p hp)
theorem sups_eq {L M : List Pg} (h : ∀ p, p ∈ L ↔ p ∈ M) (n : Str) : sups L n = sups M n := by
  have h1 := sups_sub (fun p hp => (h p).mp hp) n
  have h2 := sups_sub (fun p hp => (h p).mpr hp) n
  exact Prod.ext (Int.le_antisymm h1.1 h2.1) (Int.le_antisymm h1.2 h2.2)
/-- F tells what the pages of L tell together -/
structure Smn (F : Pg) (L : List Pg) : Prop where
  ok : PgOk F
  mem : ∀ n, n ∈ names F ↔ ∃ p ∈ L, n ∈ names p
  lk : ∀ n, look F n = sups L n
theorem Smn.nil : Smn [] [] := ⟨PgOk.nil, fun n => by simp [names], fun n => rfl⟩
theorem Smn.one {p : Pg} (h : PgOk p) : Smn p [p] := ⟨h, fun n => by simp, fun n => by simp only [sups]; rw [maxS_zero (look_nonneg h n)]⟩
theorem joins_names (p r : Pg) : names (joins p r) = srt (onceS (names p ++ names r)) := by unfold joins; rw [names_rows]
theorem joins_mem (p r : Pg) (n : Str) : n ∈ names (joins p r) ↔ n ∈ names p ∨ n ∈ names r := by rw [joins_names, srt_mem, onceS_mem, List.mem_append]
theorem joins_nodup (p r : Pg) : (names (joins p r)).Nodup := by rw [joins_names]; exact srt_nodup (onceS_nodup _)
theorem look_joins (p r : Pg) (n : Str) : look (joins p r) n = maxS (look p n) (look r n) := by
  by_cases h : n ∈ names (joins p r)
  · have h2 := (look_mem h).2
    obtain ⟨m, hm, e⟩ := List.mem_map.mp h2
    simp only [Prod.mk.injEq] at e
    rw [← e.2, e.1]
  · rw [look_none h]
    have h' := fun h2 => h ((joins_mem p r n).mpr h2)
    rw [look_none fun h2 => h' (.inl h2), look_none fun h2 => h' (.inr h2)]; rfl
theorem joins_ok {p r : Pg} (hp : PgOk p) (hr : PgOk r) : PgOk (joins p r) := by
  refine ⟨joins_nodup p r, fun x hx => ?_⟩
  have hm : x.1 ∈ names (joins p r) := List.mem_map.mpr ⟨x, hx, rfl⟩
  have h2 := (look_mem ((dueJ_names r p x.1).mpr ((joins_mem p r x.1).mp hm))).2
  have he := look_get (joins_nodup p r) hx
  rw [look_dueJ_all hp hr, ← look_joins, he] at h2
  exact (dueJ_ok hp hr).2 _ h2
theorem Smn.join {F G : Pg} {L M : List Pg} (h : Smn F L) (k : Smn G M) : Smn (joins F G) (L ++ M) := by
  refine ⟨joins_ok h.ok k.ok, fun n => ?_, fun n => by rw [look_joins, h.lk, k.lk, sups_append]⟩
  rw [joins_mem, h.mem, k.mem]
  simp only [List.mem_append]
  constructor
  · rintro (⟨p, h1, h2⟩ | ⟨p, h1, h2⟩)
    · exact ⟨p, .inl h1, h2⟩
    · exact ⟨p, .inr h1, h2⟩
  · rintro ⟨p, h1 | h1, h2⟩
    · exact .inl ⟨p, h1, h2⟩
    · exact .inr ⟨p, h1, h2⟩
theorem Smn.due {F p : Pg} {L : List Pg} (h : Smn F L) (k : PgOk p) : Smn (dueJ F p) (L ++ [p]) := by
  refine ⟨dueJ_ok h.ok k, fun n => ?_, fun n => ?_⟩
  · rw [dueJ_names, h.mem]
    simp only [List.mem_append, List.mem_singleton]
    constructor
    · rintro (⟨q, h1, h2⟩ | h2)
      · exact ⟨q, .inl h1, h2⟩
      · exact ⟨p, .inr rfl, h2⟩
    · rintro ⟨q, h1 | rfl, h2⟩
      · exact .inl ⟨q, h1, h2⟩
      · exact .inr h2
  · rw [look_dueJ_all h.ok k, h.lk, sups_append]
    simp only [sups]
    rw [maxS_zero (look_nonneg k n)]
def SortP (F : Pg) : Prop := (names F).Pairwise (fun a b => leS a b = true)
theorem joins_sort (p r : Pg) : SortP (joins p r) := by unfold SortP; rw [joins_names]; exact srt_sorted _
theorem nodup_len {l m : List Str} (h : l.Nodup) (hs : ∀ x ∈ l, x ∈ m) : l.length ≤ m.length := by
  induction l generalizing m with
  | nil => simp
  | cons a t ih =>
    rw [List.nodup_cons] at h
    have ha := hs a (.head _)
    have := ih (m := m.erase a) h.2 fun x hx => (List.mem_erase_of_ne (fun (e : x = a) => h.1 (e ▸ hx))).mpr (hs x (.tail _ hx))
    rw [List.length_erase_of_mem ha] at this
    have : 1 ≤ m.length := List.length_pos_of_mem ha
    simp only [List.length_cons]
    (clear ha hs h ih; lia)
theorem Smn.rows {F D : Pg} {L M : List Pg} (h : Smn F L) (k : Smn D M) (e : ∀ p, p ∈ L ↔ p ∈ M) : (∀ n, n ∈ names F ↔ n ∈ names D) ∧ ∀ r ∈ F, r ∈ D := by
  have hn : ∀ n, n ∈ names F ↔ n ∈ names D := fun n => by
    rw [h.mem, k.mem]
    exact ⟨fun ⟨p, h1, h2⟩ => ⟨p, (e p).mp h1, h2⟩, fun ⟨p, h1, h2⟩ => ⟨p, (e p).mpr h1, h2⟩⟩
  refine ⟨hn, fun r hr => ?_⟩
  have h1 := look_get h.ok.1 hr
  have h2 := (look_mem ((hn r.1).mp (List.mem_map.mpr ⟨r, hr, rfl⟩))).2
  rw [k.lk, ← sups_eq e, ← h.lk, h1] at h2
  exact h2
theorem Smn.same {F D : Pg} {L M : List Pg} (h : Smn F L) (k : Smn D M) (e : ∀ p, p ∈ L ↔ p ∈ M) (hs : SortP F) (hl : D.length ≤ 60) : names F = srt (names D) ∧ (∀ r ∈ F, r ∈ D) ∧ D.length ≤ 60 ∧ ∀ r ∈ D, isNameS r.1 = true := by
  obtain ⟨h1, h2⟩ := h.rows k e
  refine ⟨?_, h2, hl, fun r hr => (k.ok.2 r hr).1⟩
  exact sorted_unique ((nodup_perm h.ok.1 k.ok.1 h1).trans (srt_perm _).symm) hs (srt_sorted _)
theorem sum_perm {l m : List Int} (h : l.Perm m) : l.sum = m.sum := by
  induction h with
  | nil => rfl
  | cons x _ ih => simp [ih]
  | swap x y l => simp only [List.sum_cons]; (lia)
  | trans _ _ a b => exact a.trans b
theorem rows_nodup {F : Pg} (h : (names F).Nodup) : F.Nodup := (List.pairwise_map.mp h).imp fun hne e => hne (congrArg Prod.fst e)
theorem Smn.sum {F D : Pg} {L M : List Pg} (h : Smn F L) (k : Smn D M) (e : ∀ p, p ∈ L ↔ p ∈ M) : (nets F).sum = (nets D).sum := by
  refine sum_perm (List.Perm.map _ ((List.perm_ext_iff_of_nodup (rows_nodup h.ok.1) (rows_nodup k.ok.1)).mpr fun x => ⟨(h.rows k e).2 x, (k.rows h fun p => (e p).symm).2 x⟩))
/-- no page of L tells a name beyond U -/
def Und (U : List Str) (L : List Pg) : Prop := U.length ≤ 60 ∧ ∀ p ∈ L, ∀ n ∈ names p, n ∈ U
theorem Smn.len {F : Pg} {L : List Pg} {U : List Str} (h : Smn F L) (u : Und U L) : F.length ≤ 60 := by
  rw [← names_len]
  refine Nat.le_trans (nodup_len h.ok.1 fun n hn => ?_) u.1
  obtain ⟨p, h1, h2⟩ := (h.mem n).mp hn
  exact u.2 p h1 n h2
theorem Smn.once {F G : Pg} {L M : List Pg} {U : List Str} (h : Smn F L) (k : Smn G M) (u : Und U L) (v : Und U M) : F.length + G.length ≤ 1000 ∧ (onceS (names F ++ names G)).length ≤ 60 := by
  have h1 := h.len u
  have h2 := k.len v
  refine ⟨by (clear v u k h; lia), Nat.le_trans (nodup_len (onceS_nodup _) fun n hn => ?_) u.1⟩
  rw [onceS_mem, List.mem_append] at hn
  rcases hn with hn | hn
  · obtain ⟨p, a, b⟩ := (h.mem n).mp hn; exact u.2 p a n b
  · obtain ⟨p, a, b⟩ := (k.mem n).mp hn; exact v.2 p a n b
/-- pages that stand at places -/
def Pages (τ : List AObj) (ks : List Nat) (P : List Pg) : Prop := ks.length = P.length ∧ ∀ i, i < P.length → τ[ks.getD i 0]? = some (.dict (pgE (P.getD i [])) none)
theorem Pages.up {τ more : List AObj} {ks : List Nat} {P : List Pg} (h : Pages τ ks P) : Pages (τ ++ more) ks P := ⟨h.1, fun i hi => up_at (h.2 i hi)⟩
theorem Pages.nil (τ : List AObj) : Pages τ [] [] := ⟨rfl, fun i h => absurd h (Nat.not_lt_zero _)⟩
theorem Pages.snoc {τ : List AObj} {ks : List Nat} {P : List Pg} {k : Nat} {p : Pg} (h : Pages τ ks P) (hk : τ[k]? = some (.dict (pgE p) none)) : Pages τ (ks ++ [k]) (P ++ [p]) := by
  refine ⟨by simp [h.1], fun i hi => ?_⟩
  rw [List.length_append, List.length_singleton] at hi
  have e := h.1
  by_cases hl : i < P.length
  · have := h.2 i hl
    rw [List.getD_eq_getElem?_getD, List.getD_eq_getElem?_getD] at this ⊢
    rw [List.getElem?_append_left (by (clear this hi hk h; lia)), List.getElem?_append_left hl]; exact this
  · have : i = P.length := by (clear e hk h; lia)
    subst this
    rw [List.getD_eq_getElem?_getD, List.getD_eq_getElem?_getD, List.getElem?_append_right (by (clear hl hi hk h; lia)), List.getElem?_append_right (Nat.le_refl _), e]
    simpa using hk
theorem Pages.setList {τ : List AObj} {ks : List Nat} {P : List Pg} {s : Nat} {xs ys : List V} (h : Pages τ ks P) (hs : τ[s]? = some (.list xs)) : Pages (τ.set s (.list ys)) ks P :=
  ⟨h.1, fun i hi => by rw [List.getElem?_set_ne (fun e => by have := h.2 i hi; rw [← e, hs] at this; cases this)]; exact h.2 i hi⟩
theorem refs_getD {ks : List Nat} {i : Nat} (h : i < ks.length) : (ks.map V.ref).getD i .none = .ref (ks.getD i 0) := by
  rw [List.getD_eq_getElem?_getD, List.getElem?_map, List.getD_eq_getElem?_getD, List.getElem?_eq_getElem h]; rfl
def bnd : Nat → Nat
  | 0 => 3
  | i + 1 => bnd i + (bnd i + 2) / 3
theorem bnd_ge : ∀ i, 3 ≤ bnd i
  | 0 => Nat.le_refl _
  | i + 1 => by have := bnd_ge i; simp only [bnd]; (lia)
theorem getD_mem {P : List Pg} {i : Nat} (h : i < P.length) : P.getD i [] ∈ P := by rw [List.getD_eq_getElem?_getD, List.getElem?_eq_getElem h]; exact List.getElem_mem h
theorem take_succ_getD {P : List Pg} {i : Nat} (h : i < P.length) : P.take (i + 1) = P.take i ++ [P.getD i []] := by
  rw [List.take_add_one, List.getD_eq_getElem?_getD, List.getElem?_eq_getElem h]; rfl
theorem drop_getD {P : List Pg} {i : Nat} (h : i < P.length) : P.drop i = P.getD i [] :: P.drop (i + 1) := by
  rw [List.drop_eq_getElem_cons h, List.getD_eq_getElem?_getD, List.getElem?_eq_getElem h]; rfl
/-- all names of some pages -/
def allN (P : List Pg) : List Str := P.flatMap names
theorem allN_len : ∀ (P : List Pg) (n : Nat), P.length ≤ n → (∀ i, i < P.length → (P.getD i []).length ≤ bnd i) → n ≤ 6 → (allN P).length ≤ 47 := by
  intro P n hn hb h6
  have key : ∀ (Q : List Pg) (k : Nat), (∀ i, i < Q.length → (Q.getD i []).length ≤ bnd (k + i)) → k + Q.length ≤ 6 → (allN Q).length ≤ ((List.range Q.length).map fun i => bnd (k + i)).sum := by
    intro Q
    induction Q with
    | nil => intros; simp [allN]
    | cons p r ih =>
      intro k h hk
      have h0 := h 0 (by simp)
      have := ih (k + 1) (fun i hi => by have := h (i + 1) (by simpa using hi); rw [show k + 1 + i = k + (i + 1) from by (clear this hi h0 hk h ih h6 hb hn; lia)]; simpa using this) (by simp at hk; (clear h0 h ih h6 hb hn; lia))
      unfold allN at this ⊢
      rw [List.flatMap_cons, List.length_append, names_len, List.length_cons, List.range_succ_eq_map, List.map_cons, List.sum_cons, List.map_map]
      have e : (List.map ((fun i => bnd (k + i)) ∘ Nat.succ) (List.range r.length)) = List.map (fun i => bnd (k + 1 + i)) (List.range r.length) := by
        congr 1; funext i; simp only [Function.comp]; congr 1; (clear this h0 hk h ih h6 hb hn; lia)
      rw [e]
      simp at h0
      simp only [Nat.add_zero]
      (clear e hk h ih h6 hb hn; lia)
  have h := key P 0 (fun i hi => by rw [Nat.zero_add]; exact hb i hi) (by (clear key hb; lia))
  have hl : P.length ≤ 6 := by (clear h key hb; lia)
  generalize P.length = m at h hl
  have : m = 0 ∨ m = 1 ∨ m = 2 ∨ m = 3 ∨ m = 4 ∨ m = 5 ∨ m = 6 := by (clear h key h6 hb hn; lia)
  rcases this with rfl | rfl | rfl | rfl | rfl | rfl | rfl <;> refine Nat.le_trans h ?_ <;> decide
theorem allN_und {P L : List Pg} (h : (allN P).length ≤ 47) (hs : ∀ p ∈ L, p ∈ P) : Und (allN P) L := ⟨by (exact Nat.le_trans (by assumption) (by decide)), fun p hp n hn => List.mem_flatMap.mpr ⟨p, hs p hp, hn⟩⟩

theorem pre_set {σ τ : List AObj} {k : Nat} {x : AObj} (h : σ <+: τ) (hk : σ.length ≤ k) : σ <+: τ.set k x := by
  obtain ⟨j, rfl⟩ := h
  rw [List.set_append_right _ _ hk]; exact ⟨_, rfl⟩
theorem pre_up {σ τ more : List AObj} (h : σ <+: τ) : σ <+: τ ++ more := by obtain ⟨j, rfl⟩ := h; exact ⟨j ++ more, by simp⟩
theorem pre_old {σ τ : List AObj} {k : Nat} {x : AObj} (h : σ <+: τ) (e : σ[k]? = some x) : τ[k]? = some x := by obtain ⟨j, rfl⟩ := h; exact up_at e
theorem pre_of {σ τ : List AObj} (h : ∀ (j : Nat) (x : AObj), σ[j]? = some x → τ[j]? = some x) : σ <+: τ := by
  refine List.prefix_iff_eq_take.mpr ?_
  refine List.ext_getElem? fun i => ?_
  by_cases hi : i < σ.length
  · rw [List.getElem?_take, if_pos hi, List.getElem?_eq_getElem hi, h i _ (List.getElem?_eq_getElem hi)]
  · rw [List.getElem?_eq_none (by (clear h; lia)), List.getElem?_eq_none (by rw [List.length_take]; (clear h; lia))]
theorem snoc_lt {α : Type} {l : List α} {x d : α} {i : Nat} (h : i < l.length) : (l ++ [x]).getD i d = l.getD i d := by
  rw [List.getD_eq_getElem?_getD, List.getD_eq_getElem?_getD, List.getElem?_append_left h]
theorem snoc_eq {α : Type} {l : List α} {x d : α} {i : Nat} (h : i = l.length) : (l ++ [x]).getD i d = x := by
  subst h; rw [List.getD_eq_getElem?_getD, List.getElem?_append_right (Nat.le_refl _)]; simp
/-- a row of pages at kr, each made of some pages -/
structure Row (m : Nat) (τ : List AObj) (kr : Nat) (ks : List Nat) (Gs : List Pg) (Ls : List (List Pg)) : Prop where
  low : ∀ i, i < Gs.length → m ≤ ks.getD i 0
  at_ : τ[kr]? = some (.list (ks.map V.ref))
  pgs : Pages τ ks Gs
  len : Gs.length = Ls.length
  smn : ∀ i, i < Gs.length → Smn (Gs.getD i []) (Ls.getD i [])
theorem Row.up {m : Nat} {τ more : List AObj} {kr : Nat} {ks : List Nat} {Gs : List Pg} {Ls : List (List Pg)} (R : Row m τ kr ks Gs Ls) : Row m (τ ++ more) kr ks Gs Ls := ⟨R.low, up_at R.at_, R.pgs.up, R.len, R.smn⟩
theorem Row.other {m : Nat} {τ : List AObj} {kr s : Nat} {ks : List Nat} {Gs : List Pg} {Ls : List (List Pg)} {xs ys : List V} (R : Row m τ kr ks Gs Ls) (hs : τ[s]? = some (.list xs)) (hne : s ≠ kr) : Row m (τ.set s (.list ys)) kr ks Gs Ls :=
  ⟨R.low, by rw [List.getElem?_set_ne hne]; exact R.at_, R.pgs.setList hs, R.len, R.smn⟩
theorem Row.nil {m : Nat} {τ : List AObj} {kr : Nat} (h : τ[kr]? = some (.list [])) : Row m τ kr [] [] [] := ⟨fun i h => absurd h (Nat.not_lt_zero _), h, Pages.nil _, rfl, fun i h => absurd h (Nat.not_lt_zero _)⟩
theorem Row.push {m : Nat} {τ : List AObj} {kr k : Nat} {ks : List Nat} {Gs : List Pg} {Ls : List (List Pg)} {G : Pg} {L : List Pg} (R : Row m τ kr ks Gs Ls) (hk : τ[k]? = some (.dict (pgE G) none)) (hm : m ≤ k) (s : Smn G L) :
    Row m (τ.set kr (.list (ks.map V.ref ++ [.ref k]))) kr (ks ++ [k]) (Gs ++ [G]) (Ls ++ [L]) := by
  have hl := R.pgs.1
  have hn := R.len
  refine ⟨fun i hi => ?_, ?_, ?_, by simp [hn], fun i hi => ?_⟩
  · rw [List.length_append, List.length_singleton] at hi
    by_cases h : i < Gs.length
    · rw [snoc_lt (by (clear hi hn s hm hk R; lia))]; exact R.low i h
    · rw [snoc_eq (by (clear hn s hm hk R; lia))]; exact hm
  · rw [List.map_append]; exact List.getElem?_set_self (at_len R.at_)
  · refine (R.pgs.setList R.at_).snoc ?_
    rw [List.getElem?_set_ne (fun e => by rw [← e, R.at_] at hk; cases hk)]; exact hk
  · rw [List.length_append, List.length_singleton] at hi
    by_cases h : i < Gs.length
    · rw [snoc_lt h, snoc_lt (by (clear hi hl s hm hk R; lia))]; exact R.smn i h
    · rw [snoc_eq (by (clear hn hl s hm hk R; lia)), snoc_eq (by (clear hl s hm hk R; lia))]; exact s
theorem flat_und {U : List Str} {P : List Pg} {Ls : List (List Pg)} (h : Ls.flatten = P) (u : Und U P) {i : Nat} (hi : i < Ls.length) : Und U (Ls.getD i []) := by
  refine ⟨u.1, fun p hp => u.2 p ?_⟩
  rw [← h]
  refine List.mem_flatten.mpr ⟨Ls.getD i [], ?_, hp⟩
  rw [List.getD_eq_getElem?_getD, List.getElem?_eq_getElem hi]; exact List.getElem_mem hi
theorem take_two {Ls : List (List Pg)} {i : Nat} (h : 2 * i + 1 < Ls.length) : (Ls.take (2 * (i + 1))).flatten = (Ls.take (2 * i)).flatten ++ (Ls.getD (2 * i) [] ++ Ls.getD (2 * i + 1) []) := by
  rw [show 2 * (i + 1) = 2 * i + 1 + 1 from by (clear h; lia), List.take_add_one, List.take_add_one, List.getElem?_eq_getElem h, List.getElem?_eq_getElem (by (exact Nat.le_of_lt (by assumption))), List.flatten_append, List.flatten_append, List.getD_eq_getElem?_getD, List.getD_eq_getElem?_getD, List.getElem?_eq_getElem h, List.getElem?_eq_getElem (by (exact Nat.le_of_lt (by assumption)))]
  simp
theorem take_last {Ls : List (List Pg)} {m : Nat} (h : Ls.length = m + 1) : Ls.flatten = (Ls.take m).flatten ++ Ls.getD m [] := by
  conv => lhs; rw [← List.take_append_drop m Ls]
  rw [List.flatten_append, List.drop_eq_getElem_cons (by (lia)), List.drop_eq_nil_of_le (by (lia)), List.getD_eq_getElem?_getD, List.getElem?_eq_getElem (by (lia))]
  simp
abbrev zz : Str := "zzzzzzzz"
def noz (p : Pg) : Pg := p.filter fun r => decide (r.1 ≠ zz)
theorem noz_zz (p : Pg) : zz ∉ names (noz p) := fun h => by
  obtain ⟨r, hr, e⟩ := List.mem_map.mp h
  have := (List.mem_filter.mp hr).2
  simp [e] at this
theorem noz_len (p : Pg) : (noz p).length ≤ p.length := List.length_filter_le _ _

theorem getD_app_l {α : Type} {l m : List α} {d : α} {i : Nat} (h : i < l.length) : (l ++ m).getD i d = l.getD i d := by rw [List.getD_eq_getElem?_getD, List.getD_eq_getElem?_getD, List.getElem?_append_left h]
theorem getD_app_r {α : Type} {l m : List α} {d : α} {i : Nat} (h : l.length ≤ i) : (l ++ m).getD i d = m.getD (i - l.length) d := by rw [List.getD_eq_getElem?_getD, List.getD_eq_getElem?_getD, List.getElem?_append_right h]
theorem Pages.append {τ : List AObj} {ks ls : List Nat} {P R : List Pg} (h : Pages τ ks P) (k : Pages τ ls R) : Pages τ (ks ++ ls) (P ++ R) := by
  have e1 := h.1
  have e2 := k.1
  refine ⟨by simp [e1, e2], fun i hi => ?_⟩
  rw [List.length_append] at hi
  by_cases hl : i < P.length
  · rw [getD_app_l (by (clear hi e2 k h; lia)), getD_app_l hl]; exact h.2 i hl
  · rw [getD_app_r (by (clear hi e2 k h; lia)), getD_app_r (by (clear hi e2 e1 k h; lia)), e1]; exact k.2 _ (by (clear e2 e1 k h; omega))
theorem Pages.take {τ : List AObj} {ks : List Nat} {P : List Pg} (h : Pages τ ks P) (n : Nat) : Pages τ (ks.take n) (P.take n) := by
  have e1 := h.1
  refine ⟨by simp [e1], fun i hi => ?_⟩
  rw [List.length_take] at hi
  have := h.2 i (by (clear e1 h; lia))
  rw [List.getD_eq_getElem?_getD, List.getD_eq_getElem?_getD] at this ⊢
  rw [List.getElem?_take_of_lt (by (clear this e1 h; lia)), List.getElem?_take_of_lt (by (clear this e1 h; lia))]; exact this
theorem Pages.drop {τ : List AObj} {ks : List Nat} {P : List Pg} (h : Pages τ ks P) (n : Nat) : Pages τ (ks.drop n) (P.drop n) := by
  have e1 := h.1
  refine ⟨by simp [e1], fun i hi => ?_⟩
  rw [List.length_drop] at hi
  have := h.2 (n + i) (by (clear e1 h; omega))
  rw [List.getD_eq_getElem?_getD, List.getD_eq_getElem?_getD] at this ⊢
  rw [List.getElem?_drop, List.getElem?_drop]; exact this
theorem Pages.cons {τ : List AObj} {ks : List Nat} {P : List Pg} {k : Nat} {p : Pg} (hk : τ[k]? = some (.dict (pgE p) none)) (h : Pages τ ks P) : Pages τ (k :: ks) (p :: P) := ((Pages.nil τ).snoc hk).append h
theorem Pages.pre {τ υ : List AObj} {ks : List Nat} {P : List Pg} (h : Pages τ ks P) (e : τ <+: υ) : Pages υ ks P := ⟨h.1, fun i hi => pre_old e (h.2 i hi)⟩
theorem mem_turn (P : List Pg) (n : Nat) (p : Pg) : p ∈ P.drop n ++ P.take n ↔ p ∈ P := by
  rw [List.mem_append, Or.comm, ← List.mem_append, List.take_append_drop]
theorem mem_ins (P : List Pg) (n : Nat) (x p : Pg) : p ∈ P.take n ++ x :: P.drop n ↔ p = x ∨ p ∈ P := by
  have e : p ∈ P ↔ p ∈ P.take n ∨ p ∈ P.drop n := by rw [← List.mem_append, List.take_append_drop]
  rw [List.mem_append, List.mem_cons, e]
  constructor
  · rintro (h | h | h)
    · exact .inr (.inl h)
    · exact .inl h
    · exact .inr (.inr h)
  · rintro (h | h | h)
    · exact .inr (.inl h)
    · exact .inl h
    · exact .inr (.inr h)

theorem C_len_refs {prog : Program} {w : World} {B : Shared} {A : Around} {σ : List AObj} {Q : V → List AObj → Prop} {X : XT} {k : Nat} {ks : List Nat} (hσ : σ[k]? = some (.list (ks.map V.ref))) (h : ks.length ≤ 1000) (q : Q (.int ks.length) σ) : WC prog w B A (.builtin "len") [.ref k] σ Q X :=
  C_len_list hσ (by rw [List.length_map]; (clear q hσ; lia)) (by rw [List.length_map]; exact q)
theorem S_refs {prog : Program} {w : World} {B : Shared} {A : Around} {σ : List AObj} {Q : V → List AObj → Prop} {X : XT} {value slice : Expr} {k n : Nat} {ks : List Nat} {i : Int} (hσ : σ[k]? = some (.list (ks.map V.ref))) (e : i = (n : Int)) (hn : n < ks.length) (h : ks.length ≤ 1000) (q : Q (.ref (ks.getD n 0)) σ)
    (hs : PlainSlice slice := by with_unfolding_all exact fun _ _ => rfl) : WSub prog w B A value slice (.ref k) (.int i) σ Q X := by
  subst e
  refine S_list hσ (Int.natCast_nonneg _) (by rw [List.length_map]; exact Int.ofNat_lt.mpr hn) (by (clear hs q hσ; lia)) ?_ hs
  rw [Int.toNat_natCast, refs_getD hn]; exact q
theorem lt60 (x : Int) : min x (10 ^ 60 - 1) < 10 ^ 60 := Int.lt_of_le_of_lt (Int.min_le_right _ _) (by decide)
theorem pos60 {x : Int} (h : 0 < x) : 0 < min x (10 ^ 60 - 1) := Int.lt_min.mpr ⟨h, by decide⟩
theorem sh_a {v : Int × Int} (h : 0 ≤ v.1 ∧ 0 ≤ v.2 ∧ 0 < v.1 + v.2 ∧ v.1 < 10 ^ 60 ∧ v.2 < 10 ^ 60) : 0 ≤ min (v.1 + 1) (10 ^ 60 - 1) ∧ 0 ≤ v.2 ∧ 0 < min (v.1 + 1) (10 ^ 60 - 1) + v.2 ∧ min (v.1 + 1) (10 ^ 60 - 1) < 10 ^ 60 ∧ v.2 < 10 ^ 60 :=
  have p := pos60 (Int.lt_add_one_of_le h.1)
  ⟨Int.le_of_lt p, h.2.1, Int.add_pos_of_pos_of_nonneg p h.2.1, lt60 _, h.2.2.2.2⟩
theorem sh_b {v : Int × Int} {c : Int} (h : 0 ≤ v.1 ∧ 0 ≤ v.2 ∧ 0 < v.1 + v.2 ∧ v.1 < 10 ^ 60 ∧ v.2 < 10 ^ 60) (hc : 0 < c) : 0 ≤ v.1 ∧ 0 ≤ min (v.2 + c) (10 ^ 60 - 1) ∧ 0 < v.1 + min (v.2 + c) (10 ^ 60 - 1) ∧ v.1 < 10 ^ 60 ∧ min (v.2 + c) (10 ^ 60 - 1) < 10 ^ 60 :=
  have p := pos60 (Int.add_pos_of_nonneg_of_pos h.2.1 hc)
  ⟨h.1, Int.le_of_lt p, Int.add_pos_of_nonneg_of_pos h.1 p, h.2.2.2.1, lt60 _⟩
theorem sh_c {v : Int × Int} (h : 0 ≤ v.1 ∧ 0 ≤ v.2 ∧ 0 < v.1 + v.2 ∧ v.1 < 10 ^ 60 ∧ v.2 < 10 ^ 60) : 0 ≤ v.1 / 2 ∧ 0 ≤ min (v.2 + 5) (10 ^ 60 - 1) ∧ 0 < v.1 / 2 + min (v.2 + 5) (10 ^ 60 - 1) ∧ v.1 / 2 < 10 ^ 60 ∧ min (v.2 + 5) (10 ^ 60 - 1) < 10 ^ 60 :=
  have p := pos60 (Int.add_pos_of_nonneg_of_pos h.2.1 (by decide : (0 : Int) < 5))
  have d := Int.ediv_nonneg h.1 (by decide : (0 : Int) ≤ 2)
  ⟨d, Int.le_of_lt p, Int.add_pos_of_nonneg_of_pos d p, Int.lt_of_le_of_lt (Int.ediv_le_self 2 h.1) h.2.2.2.1, lt60 _⟩

theorem good_page_by : Good (dr pw_uf050040_14 31) ["_law_names", "_law_shares", "_law_size"] :=
  ⟨fun pm code doc vals h => (by obtain ⟨a, b, c, rfl⟩ := len_3 h; rfl), by decide +kernel, by decide +kernel, by decide +kernel, rfl, rfl, rfl⟩
theorem cf_page_by (gl : Gl B mg mb) (bl : Blt B mg mb) (S : Scr B scr nums) (H : HasF B mg (dr pw_uf050040_14 31))
    (c_number_by : CF prog w B mg "_law_number_by" 1 (fun xs σ Q X => ∃ c, xs = [.int c] ∧ Q (.int (numBy c)) σ))
    (c_mixed : CF prog w B mg "_law_mixed" 1 (fun xs σ Q X => ∃ c k, xs = [.int c, .int k] ∧ Q (.int (mixed c k)) σ))
    (c_name_by : CF prog w B mg "_law_name_by" 2 (fun xs σ Q X => ∃ c, xs = [.int c] ∧ Q (.str (nameBy c)) σ)) :
    CF prog w B mg "_law_page_by" 3 (fun xs σ Q X => ∃ a b n, xs = [.int a, .int b, .int n] ∧ (0 ≤ n ∧ n ≤ 200) ∧ ∀ page : Pg, PgOk6 page → (page.length : Int) ≤ n → Q (.ref σ.length) (σ ++ [.dict (pgE page) none])) := by
  refine CF_of gl H good_page_by ?_
  rintro A pm code doc L a₀ _ σ Q X hA ⟨a, b, n, rfl, ⟨hn0, hn⟩, q⟩
  refine ⟨rfl, ?_⟩
  change WX _ _ _ _ _ (_ :: _) ((_, _) :: (_, _) :: (_, _) :: []) _ _ _

  with_reducible (refine X_let ?_; refine E_dict0 ?_)
  refine X_fors ?_
  with_reducible (refine E_bi (Blt.range_ (by assumption)) (by first | exact Keep.builtin _ | exact Keep.type _) ?_; refine Es_cons ?_; refine E_nm ?_; refine LQ_there (by decide +kernel) ?_; refine LQ_there (by decide +kernel) ?_; refine LQ_there (by decide +kernel) ?_; refine LQ_here ?_; refine Es_nil ?_; refine C_range1 ?_)
  refine ForG.mk (ι := Pg) (fun i g => PgOk6 g ∧ g.length ≤ i) (fun _ _ => [("_law_page", .ref σ.length), ("_law_names", .int a), ("_law_shares", .int b), ("_law_size", .int n)]) (fun _ g => σ ++ [.dict (pgE g) none]) (It_range hA.handled (by (exact Int.natCast_nonneg _)) (by (exact Int.natCast_nonneg _)) (by (clear hn q hA c_name_by c_mixed c_number_by H S bl gl; lia)) (by (clear hn0 q hA c_name_by c_mixed c_number_by H S bl gl; lia))) [] ⟨.nil, Nat.le_refl _⟩ rfl trivial (by with_reducible (refine Sub.cons ?_; refine LQ_here ?_; refine ⟨rfl, ?_⟩; refine Sub.cons ?_; refine LQ_there (by decide +kernel) ?_; refine LQ_here ?_; refine ⟨rfl, ?_⟩; refine Sub.cons ?_; refine LQ_there (by decide +kernel) ?_; refine LQ_there (by decide +kernel) ?_; refine LQ_here ?_; refine ⟨rfl, ?_⟩; refine Sub.cons ?_; refine LQ_there (by decide +kernel) ?_; refine LQ_there (by decide +kernel) ?_; refine LQ_there (by decide +kernel) ?_; refine LQ_here ?_; refine ⟨rfl, ?_⟩; exact Sub.nil)) ?_ ?_
  · rintro i g hi ⟨hok, hg⟩ -
    with_reducible (refine X_let ?_; refine E_tuple ?_; refine Es_cons ?_; refine E_cf (by assumption) (AOk.le (by assumption) (by decide)) ?_; refine Es_cons ?_; refine E_cf (by assumption) (AOk.le (by assumption) (by decide)) ?_; refine Es_cons ?_; refine E_nm ?_; refine LQ_there (by decide +kernel) ?_; refine LQ_there (by decide +kernel) ?_; refine LQ_there (by decide +kernel) ?_; refine LQ_here ?_; refine Es_cons ?_; refine E_bin ?_; refine E_int ?_; refine E_nm ?_; refine LQ_here ?_; refine O_mul ?_ (by first | exact .inl (by (decide)) | exact .inr (by omega)); refine Es_nil ?_; refine ⟨_, _, rfl, ?_⟩; refine Es_nil ?_; refine ⟨_, rfl, ?_⟩; refine Es_cons ?_; refine E_cf (by assumption) (AOk.le (by assumption) (by decide)) ?_; refine Es_cons ?_; refine E_cf (by assumption) (AOk.le (by assumption) (by decide)) ?_; refine Es_cons ?_; refine E_nm ?_; refine LQ_there (by decide +kernel) ?_; refine LQ_there (by decide +kernel) ?_; refine LQ_there (by decide +kernel) ?_; refine LQ_here ?_; refine Es_cons ?_; refine E_bin ?_; refine E_bin ?_; refine E_int ?_; refine E_nm ?_; refine LQ_here ?_; refine O_mul ?_ (by first | exact .inl (by (decide)) | exact .inr (by omega)); refine E_int ?_; refine O_add ?_; refine Es_nil ?_; refine ⟨_, _, rfl, ?_⟩; refine Es_nil ?_; refine ⟨_, rfl, ?_⟩; refine Es_nil ?_; refine And.intro (by first | omega | with_unfolding_all exact Nat.le_of_ble_eq_true rfl) ?_)
    have n1 := numBy_ok (mixed b (2 * (0 + (i : Int))))
    have n2 := numBy_ok (mixed b (2 * (0 + (i : Int)) + 1))
    refine X_ifj (ι := Int × Int) (fun x => 0 ≤ x.1 ∧ 0 ≤ x.2 ∧ 0 < x.1 + x.2 ∧ x.1 < 10 ^ 60 ∧ x.2 < 10 ^ 60) (fun x => [("_law_share_here", shV x), ("_law_k", .int (0 + (i : Int))), ("_law_page", .ref σ.length), ("_law_names", .int a), ("_law_shares", .int b), ("_law_size", .int n)]) (fun _ => σ ++ [.dict (pgE g) none]) ?_ ?_
    · with_reducible (refine T_cmp1 ?_; refine E_nm ?_; refine LQ_here ?_; refine E_tuple ?_; refine Es_cons ?_; refine E_int ?_; refine Es_cons ?_; refine E_int ?_; refine Es_nil ?_; refine And.intro (by first | omega | with_unfolding_all exact Nat.le_of_ble_eq_true rfl) ?_)
      refine O_eq_pair (by have := hA.units; show _ < 9900; (clear n2 n1 hg hok hi hn hn0 q hA c_name_by c_mixed c_number_by H S bl gl; lia)) ?_
      with_reducible (refine T_b ?_)
      refine iteD (fun h => ?_) (fun h => ?_)
      · with_reducible (refine X_let ?_; refine E_tuple ?_; refine Es_cons ?_; refine E_int ?_; refine Es_cons ?_; refine E_int ?_; refine Es_nil ?_; refine And.intro (by first | omega | with_unfolding_all exact Nat.le_of_ble_eq_true rfl) ?_; refine X_nil ?_)
        exact J_next (1, 0) (by decide) rfl (by with_reducible (refine Sub.cons ?_; refine LQ_here ?_; refine ⟨rfl, ?_⟩; refine Sub.cons ?_; refine LQ_there (by decide +kernel) ?_; refine LQ_there (by decide +kernel) ?_; refine LQ_here ?_; refine ⟨rfl, ?_⟩; refine Sub.cons ?_; refine LQ_there (by decide +kernel) ?_; refine LQ_there (by decide +kernel) ?_; refine LQ_there (by decide +kernel) ?_; refine LQ_here ?_; refine ⟨rfl, ?_⟩; refine Sub.cons ?_; refine LQ_there (by decide +kernel) ?_; refine LQ_there (by decide +kernel) ?_; refine LQ_there (by decide +kernel) ?_; refine LQ_there (by decide +kernel) ?_; refine LQ_here ?_; refine ⟨rfl, ?_⟩; refine Sub.cons ?_; refine LQ_there (by decide +kernel) ?_; refine LQ_there (by decide +kernel) ?_; refine LQ_there (by decide +kernel) ?_; refine LQ_there (by decide +kernel) ?_; refine LQ_there (by decide +kernel) ?_; refine LQ_here ?_; refine ⟨rfl, ?_⟩; refine Sub.cons ?_; refine LQ_there (by decide +kernel) ?_; refine LQ_there (by decide +kernel) ?_; refine LQ_there (by decide +kernel) ?_; refine LQ_there (by decide +kernel) ?_; refine LQ_there (by decide +kernel) ?_; refine LQ_there (by decide +kernel) ?_; refine LQ_here ?_; refine ⟨rfl, ?_⟩; exact Sub.nil))
      · with_reducible (refine X_nil ?_)
        exact J_next (numBy (mixed b (2 * (0 + (i : Int)))), numBy (mixed b (2 * (0 + (i : Int)) + 1))) (by dsimp only; (clear hg hok hi hn hn0 q hA c_name_by c_mixed c_number_by H S bl gl; omega)) rfl (by with_reducible (refine Sub.cons ?_; refine LQ_here ?_; refine ⟨rfl, ?_⟩; refine Sub.cons ?_; refine LQ_there (by decide +kernel) ?_; refine LQ_here ?_; refine ⟨rfl, ?_⟩; refine Sub.cons ?_; refine LQ_there (by decide +kernel) ?_; refine LQ_there (by decide +kernel) ?_; refine LQ_here ?_; refine ⟨rfl, ?_⟩; refine Sub.cons ?_; refine LQ_there (by decide +kernel) ?_; refine LQ_there (by decide +kernel) ?_; refine LQ_there (by decide +kernel) ?_; refine LQ_here ?_; refine ⟨rfl, ?_⟩; refine Sub.cons ?_; refine LQ_there (by decide +kernel) ?_; refine LQ_there (by decide +kernel) ?_; refine LQ_there (by decide +kernel) ?_; refine LQ_there (by decide +kernel) ?_; refine LQ_here ?_; refine ⟨rfl, ?_⟩; refine Sub.cons ?_; refine LQ_there (by decide +kernel) ?_; refine LQ_there (by decide +kernel) ?_; refine LQ_there (by decide +kernel) ?_; refine LQ_there (by decide +kernel) ?_; refine LQ_there (by decide +kernel) ?_; refine LQ_here ?_; refine ⟨rfl, ?_⟩; exact Sub.nil))
    · rintro x hx
      try dsimp only
      with_reducible (refine X_set ?_; refine E_nm ?_; refine LQ_here ?_; refine E_nm ?_; refine LQ_there (by decide +kernel) ?_; refine LQ_there (by decide +kernel) ?_; refine LQ_here ?_; refine E_cf (by assumption) (AOk.le (by assumption) (by decide)) ?_; refine Es_cons ?_; refine E_cf (by assumption) (AOk.le (by assumption) (by decide)) ?_; refine Es_cons ?_; refine E_nm ?_; refine LQ_there (by decide +kernel) ?_; refine LQ_there (by decide +kernel) ?_; refine LQ_there (by decide +kernel) ?_; refine LQ_here ?_; refine Es_cons ?_; refine E_nm ?_; refine LQ_there (by decide +kernel) ?_; refine LQ_here ?_; refine Es_nil ?_; refine ⟨_, _, rfl, ?_⟩; refine Es_nil ?_; refine ⟨_, rfl, ?_⟩)
      refine P_dict (key := .s _) at_end (small_size (by rw [pgE_length]; (clear hx n2 n1 hok hn0 q hA c_name_by c_mixed c_number_by H S bl gl; lia))) ?_
      rw [set_end, put_pg]
      with_reducible (refine X_nil ?_)
      refine TJ_next (pput g (nameBy (mixed a (0 + (i : Int)))) x) ⟨pput_ok6 hok ⟨nameBy_ok _, hx⟩, ?_⟩ rfl trivial (by with_reducible (refine Sub.cons ?_; refine LQ_there (by decide +kernel) ?_; refine LQ_there (by decide +kernel) ?_; refine LQ_here ?_; refine ⟨rfl, ?_⟩; refine Sub.cons ?_; refine LQ_there (by decide +kernel) ?_; refine LQ_there (by decide +kernel) ?_; refine LQ_there (by decide +kernel) ?_; refine LQ_here ?_; refine ⟨rfl, ?_⟩; refine Sub.cons ?_; refine LQ_there (by decide +kernel) ?_; refine LQ_there (by decide +kernel) ?_; refine LQ_there (by decide +kernel) ?_; refine LQ_there (by decide +kernel) ?_; refine LQ_here ?_; refine ⟨rfl, ?_⟩; refine Sub.cons ?_; refine LQ_there (by decide +kernel) ?_; refine LQ_there (by decide +kernel) ?_; refine LQ_there (by decide +kernel) ?_; refine LQ_there (by decide +kernel) ?_; refine LQ_there (by decide +kernel) ?_; refine LQ_here ?_; refine ⟨rfl, ?_⟩; exact Sub.nil))
      have := pput_len g (nameBy (mixed a (0 + (i : Int)))) x
      (clear hx n2 n1 hok hi hn hn0 q hA c_name_by c_mixed c_number_by H S bl gl; lia)
  · rintro g ⟨hok, hg⟩ -
    with_reducible (refine X_ret ?_; refine E_nm ?_; refine LQ_here ?_)
    exact R_all (q g hok (by (clear hok hn q hA c_name_by c_mixed c_number_by H S bl gl; lia)))

theorem twin_ok {x : Str} (h : isNameS x = true) {a c : Nat} (ha : a < x.length) (hc : c < 26) : isNameS ((⟨(x.cps.toList.take a).toArray⟩ : Str) ++ sg (97 + c) ++ ⟨(x.cps.toList.drop (a + 1)).toArray⟩) = true := by
  have e : (⟨(x.cps.toList.take a).toArray⟩ : Str) ++ sg (97 + c) ++ ⟨(x.cps.toList.drop (a + 1)).toArray⟩ = (⟨(x.cps.toList.take a ++ (97 + c) :: x.cps.toList.drop (a + 1)).toArray⟩ : Str) := by
    show (⟨(x.cps.toList.take a).toArray ++ #[97 + c] ++ (x.cps.toList.drop (a + 1)).toArray⟩ : Str) = _
    simp
  rw [e]
  have hl := isNameS_len h
  simp only [Str.length] at ha hl
  refine isNameS_of (by simp; (clear hl e hc ha h; lia)) (by simp; (clear e hc h; omega)) fun y hy => ?_
  rcases List.mem_append.mp hy with hy | hy
  · exact isNameS_all h y (List.mem_of_mem_take hy)
  · rcases List.mem_cons.mp hy with rfl | hy
    · unfold isL; exact decide_eq_true (by (clear hy hl e ha h; lia))
    · exact isNameS_all h y (List.mem_of_mem_drop hy)
theorem twin_len (x : Str) (a c : Nat) : ((⟨(x.cps.toList.take a).toArray⟩ : Str) ++ sg (97 + c)).length ≤ x.length + 1 := by
  show ((x.cps.toList.take a).toArray ++ #[97 + c]).size ≤ _
  simp [Str.length]; (lia)

theorem good_near_by : Good (dr pw_uf050040_14 32) ["_law_page", "_law_cell"] :=
  ⟨fun pm code doc vals h => (by obtain ⟨a, b, rfl⟩ := len_2 h; rfl), by decide +kernel, by decide +kernel, by decide +kernel, rfl, rfl, rfl⟩
theorem cf_near_by (gl : Gl B mg mb) (bl : Blt B mg mb) (S : Scr B scr nums) (H : HasF B mg (dr pw_uf050040_14 32))
    (c_mixed : CF prog w B mg "_law_mixed" 1 (fun xs σ Q X => ∃ c k, xs = [.int c, .int k] ∧ Q (.int (mixed c k)) σ)) :
    CF prog w B mg "_law_near_by" 3 (fun xs σ Q X => ∃ k p e c, σ[k]? = some (.dict (pgE p) e) ∧ PgOk6 p ∧ p.length ≤ 200 ∧ xs = [.ref k, .int c] ∧ ∀ other : Pg, PgOk6 other → other.length ≤ p.length + (p.length + 2) / 3 → Q (.ref σ.length) (σ ++ [.dict (pgE other) none])) := by
  refine CF_of gl H good_near_by ?_
  rintro A pm code doc L a₀ _ σ Q X hA ⟨k, p, e, c, hk, hpo, hpl, rfl, q⟩
  refine ⟨rfl, ?_⟩
  change WX _ _ _ _ _ (_ :: _) ((_, _) :: (_, _) :: []) _ _ _

  have hkl := at_len hk
  with_reducible (refine X_let ?_; refine E_dict0 ?_)
  refine X_fore (ι := Pg) (k := k) (es := pgE p) (e := e) (fun i g => PgOk6 g ∧ g.length ≤ i + cnt4 c i) (fun _ _ => [("_law_other", .ref σ.length), ("_law_page", .ref k), ("_law_cell", .int c)]) (fun _ g => σ ++ [.dict (pgE g) none]) [] (Blt.enumerate_ bl) hA.handled (up_at hk) (fun ep => ?_) ⟨.nil, by simp [cnt4]⟩ rfl (by with_reducible (refine Sub.cons ?_; refine LQ_here ?_; refine ⟨rfl, ?_⟩; refine Sub.cons ?_; refine LQ_there (by decide +kernel) ?_; refine LQ_here ?_; refine ⟨rfl, ?_⟩; refine Sub.cons ?_; refine LQ_there (by decide +kernel) ?_; refine LQ_there (by decide +kernel) ?_; refine LQ_here ?_; refine ⟨rfl, ?_⟩; exact Sub.nil)) (fun _ _ _ => up_at hk) ?_ ?_
  · with_reducible (refine Es_cons ?_; refine E_nm ?_; refine LQ_there (by decide +kernel) ?_; refine LQ_here ?_; refine Es_nil ?_; refine ⟨rfl, ?_⟩)
    first | exact ⟨rfl, rfl⟩ | rfl
  · rintro ep i g hi ⟨hok, hg⟩
    rw [pgE_length] at hi
    have hcs : cnt4 c (i + 1) = cnt4 c i + (if mixed c (i : Int) % 6 = 4 then 1 else 0) := rfl
    have hcl := cnt4_le c i
    rw [keyAt_pg hi]
    have hr := hpo.2 _ (List.getElem_mem hi)
    have hat := at_pg_get hpo.1 hi
    generalize p[i] = r at *
    obtain ⟨x, v⟩ := r
    obtain ⟨hx, hv⟩ := hr
    have hxl := isNameS_len hx
    dsimp only at *
    have hup : (pin (σ ++ [AObj.dict (pgE g) none]) k (pgE p) ep)[k]? = some (.dict (pgE p) (some ep)) := pin_at (up_at hk)
    with_reducible (refine X_let ?_; refine E_bin ?_; refine E_cf (by assumption) (AOk.le (by assumption) (by decide)) ?_; refine Es_cons ?_; refine E_nm ?_; refine LQ_there (by decide +kernel) ?_; refine LQ_there (by decide +kernel) ?_; refine LQ_there (by decide +kernel) ?_; refine LQ_there (by decide +kernel) ?_; refine LQ_here ?_; refine Es_cons ?_; refine E_nm ?_; refine LQ_there (by decide +kernel) ?_; refine LQ_here ?_; refine Es_nil ?_; refine ⟨_, _, rfl, ?_⟩; refine E_int ?_; refine O_mod ?_ (by (decide)); refine X_let ?_; refine E_sub ?_; refine E_nm ?_; refine LQ_there (by decide +kernel) ?_; refine LQ_there (by decide +kernel) ?_; refine LQ_there (by decide +kernel) ?_; refine LQ_there (by decide +kernel) ?_; refine LQ_here ?_; refine E_nm ?_; refine LQ_there (by decide +kernel) ?_; refine LQ_here ?_)
    refine S_dict (key := .s _) hup hat ?_
    skip
    generalize hm : mixed c (i : Int) = m
    have hm0 : 0 ≤ m ∧ m < 2147483647 := by rw [← hm]; unfold mixed; (clear hm hup hxl hv hx hat hcl hcs hg hok hi hkl q hpl hpo hk hA c_mixed H S bl gl; lia)
    refine X_ifj (ι := Int × Int) (fun x => 0 ≤ x.1 ∧ 0 ≤ x.2 ∧ 0 < x.1 + x.2 ∧ x.1 < 10 ^ 60 ∧ x.2 < 10 ^ 60) (fun s => [("_law_share_here", shV s), ("_law_kind", .int (m % 6)), ("_law_name", .str x), ("_law_k", .int (i : Int)), ("_law_other", .ref σ.length), ("_law_page", .ref k), ("_law_cell", .int c)]) (fun _ => pin (σ ++ [AObj.dict (pgE g) none]) k (pgE p) ep) ?_ ?_
    · with_reducible (refine T_cmp1 ?_; refine E_nm ?_; refine LQ_there (by decide +kernel) ?_; refine LQ_here ?_; refine E_int ?_; refine O_eq ?_; refine T_b ?_)
      refine iteD (fun h => ?_) (fun h => ?_)
      · with_reducible (refine X_let ?_; refine E_tuple ?_; refine Es_cons ?_; refine E_bi (Blt.min_ (by assumption)) (by first | exact Keep.builtin _ | exact Keep.type _) ?_; refine Es_cons ?_; refine E_bin ?_; refine E_sub ?_; refine E_nm ?_; refine LQ_here ?_; refine E_int ?_; refine S_t0 ?_; refine E_int ?_; refine O_add ?_; refine Es_cons ?_; refine E_bin ?_; refine E_bin ?_; refine E_int ?_; refine E_int ?_; refine O_pow60 ?_; refine E_int ?_; refine O_sub ?_; refine Es_nil ?_; refine C_min (AOk.handled (by assumption)) ?_; refine Es_cons ?_; refine E_sub ?_; refine E_nm ?_; refine LQ_here ?_; refine E_int ?_; refine S_t1 ?_; refine Es_nil ?_; refine And.intro (by first | omega | with_unfolding_all exact Nat.le_of_ble_eq_true rfl) ?_; refine X_nil ?_)
        exact J_next (min (v.1 + 1) (10 ^ 60 - 1), v.2) (sh_a hv) rfl (by with_reducible (refine Sub.cons ?_; refine LQ_here ?_; refine ⟨rfl, ?_⟩; refine Sub.cons ?_; refine LQ_there (by decide +kernel) ?_; refine LQ_there (by decide +kernel) ?_; refine LQ_here ?_; refine ⟨rfl, ?_⟩; refine Sub.cons ?_; refine LQ_there (by decide +kernel) ?_; refine LQ_there (by decide +kernel) ?_; refine LQ_there (by decide +kernel) ?_; refine LQ_here ?_; refine ⟨rfl, ?_⟩; refine Sub.cons ?_; refine LQ_there (by decide +kernel) ?_; refine LQ_there (by decide +kernel) ?_; refine LQ_there (by decide +kernel) ?_; refine LQ_there (by decide +kernel) ?_; refine LQ_here ?_; refine ⟨rfl, ?_⟩; refine Sub.cons ?_; refine LQ_there (by decide +kernel) ?_; refine LQ_there (by decide +kernel) ?_; refine LQ_there (by decide +kernel) ?_; refine LQ_there (by decide +kernel) ?_; refine LQ_there (by decide +kernel) ?_; refine LQ_here ?_; refine ⟨rfl, ?_⟩; refine Sub.cons ?_; refine LQ_there (by decide +kernel) ?_; refine LQ_there (by decide +kernel) ?_; refine LQ_there (by decide +kernel) ?_; refine LQ_there (by decide +kernel) ?_; refine LQ_there (by decide +kernel) ?_; refine LQ_there (by decide +kernel) ?_; refine LQ_here ?_; refine ⟨rfl, ?_⟩; refine Sub.cons ?_; refine LQ_there (by decide +kernel) ?_; refine LQ_there (by decide +kernel) ?_; refine LQ_there (by decide +kernel) ?_; refine LQ_there (by decide +kernel) ?_; refine LQ_there (by decide +kernel) ?_; refine LQ_there (by decide +kernel) ?_; refine LQ_there (by decide +kernel) ?_; refine LQ_here ?_; refine ⟨rfl, ?_⟩; exact Sub.nil))
      · with_reducible (refine X_nil ?_)
        exact J_next v hv rfl (by with_reducible (refine Sub.cons ?_; refine LQ_here ?_; refine ⟨rfl, ?_⟩; refine Sub.cons ?_; refine LQ_there (by decide +kernel) ?_; refine LQ_here ?_; refine ⟨rfl, ?_⟩; refine Sub.cons ?_; refine LQ_there (by decide +kernel) ?_; refine LQ_there (by decide +kernel) ?_; refine LQ_here ?_; refine ⟨rfl, ?_⟩; refine Sub.cons ?_; refine LQ_there (by decide +kernel) ?_; refine LQ_there (by decide +kernel) ?_; refine LQ_there (by decide +kernel) ?_; refine LQ_here ?_; refine ⟨rfl, ?_⟩; refine Sub.cons ?_; refine LQ_there (by decide +kernel) ?_; refine LQ_there (by decide +kernel) ?_; refine LQ_there (by decide +kernel) ?_; refine LQ_there (by decide +kernel) ?_; refine LQ_here ?_; refine ⟨rfl, ?_⟩; refine Sub.cons ?_; refine LQ_there (by decide +kernel) ?_; refine LQ_there (by decide +kernel) ?_; refine LQ_there (by decide +kernel) ?_; refine LQ_there (by decide +kernel) ?_; refine LQ_there (by decide +kernel) ?_; refine LQ_here ?_; refine ⟨rfl, ?_⟩; refine Sub.cons ?_; refine LQ_there (by decide +kernel) ?_; refine LQ_there (by decide +kernel) ?_; refine LQ_there (by decide +kernel) ?_; refine LQ_there (by decide +kernel) ?_; refine LQ_there (by decide +kernel) ?_; refine LQ_there (by decide +kernel) ?_; refine LQ_here ?_; refine ⟨rfl, ?_⟩; exact Sub.nil))
    clear hv hat v
    rintro v hv
    try dsimp only
    refine X_ifj (ι := Int × Int) (fun x => 0 ≤ x.1 ∧ 0 ≤ x.2 ∧ 0 < x.1 + x.2 ∧ x.1 < 10 ^ 60 ∧ x.2 < 10 ^ 60) (fun s => [("_law_share_here", shV s), ("_law_kind", .int (m % 6)), ("_law_name", .str x), ("_law_k", .int (i : Int)), ("_law_other", .ref σ.length), ("_law_page", .ref k), ("_law_cell", .int c)]) (fun _ => pin (σ ++ [AObj.dict (pgE g) none]) k (pgE p) ep) ?_ ?_
    · with_reducible (refine T_cmp1 ?_; refine E_nm ?_; refine LQ_there (by decide +kernel) ?_; refine LQ_here ?_; refine E_int ?_; refine O_eq ?_; refine T_b ?_)
      refine iteD (fun h => ?_) (fun h => ?_)
      · with_reducible (refine X_let ?_; refine E_tuple ?_; refine Es_cons ?_; refine E_sub ?_; refine E_nm ?_; refine LQ_here ?_; refine E_int ?_; refine S_t0 ?_; refine Es_cons ?_; refine E_bi (Blt.min_ (by assumption)) (by first | exact Keep.builtin _ | exact Keep.type _) ?_; refine Es_cons ?_; refine E_bin ?_; refine E_sub ?_; refine E_nm ?_; refine LQ_here ?_; refine E_int ?_; refine S_t1 ?_; refine E_int ?_; refine O_add ?_; refine Es_cons ?_; refine E_bin ?_; refine E_bin ?_; refine E_int ?_; refine E_int ?_; refine O_pow60 ?_; refine E_int ?_; refine O_sub ?_; refine Es_nil ?_; refine C_min (AOk.handled (by assumption)) ?_; refine Es_nil ?_; refine And.intro (by first | omega | with_unfolding_all exact Nat.le_of_ble_eq_true rfl) ?_; refine X_nil ?_)
        exact J_next (v.1, min (v.2 + 1) (10 ^ 60 - 1)) (sh_b hv (by decide)) rfl (by with_reducible (refine Sub.cons ?_; refine LQ_here ?_; refine ⟨rfl, ?_⟩; refine Sub.cons ?_; refine LQ_there (by decide +kernel) ?_; refine LQ_there (by decide +kernel) ?_; refine LQ_here ?_; refine ⟨rfl, ?_⟩; refine Sub.cons ?_; refine LQ_there (by decide +kernel) ?_; refine LQ_there (by decide +kernel) ?_; refine LQ_there (by decide +kernel) ?_; refine LQ_here ?_; refine ⟨rfl, ?_⟩; refine Sub.cons ?_; refine LQ_there (by decide +kernel) ?_; refine LQ_there (by decide +kernel) ?_; refine LQ_there (by decide +kernel) ?_; refine LQ_there (by decide +kernel) ?_; refine LQ_here ?_; refine ⟨rfl, ?_⟩; refine Sub.cons ?_; refine LQ_there (by decide +kernel) ?_; refine LQ_there (by decide +kernel) ?_; refine LQ_there (by decide +kernel) ?_; refine LQ_there (by decide +kernel) ?_; refine LQ_there (by decide +kernel) ?_; refine LQ_here ?_; refine ⟨rfl, ?_⟩; refine Sub.cons ?_; refine LQ_there (by decide +kernel) ?_; refine LQ_there (by decide +kernel) ?_; refine LQ_there (by decide +kernel) ?_; refine LQ_there (by decide +kernel) ?_; refine LQ_there (by decide +kernel) ?_; refine LQ_there (by decide +kernel) ?_; refine LQ_here ?_; refine ⟨rfl, ?_⟩; refine Sub.cons ?_; refine LQ_there (by decide +kernel) ?_; refine LQ_there (by decide +kernel) ?_; refine LQ_there (by decide +kernel) ?_; refine LQ_there (by decide +kernel) ?_; refine LQ_there (by decide +kernel) ?_; refine LQ_there (by decide +kernel) ?_; refine LQ_there (by decide +kernel) ?_; refine LQ_here ?_; refine ⟨rfl, ?_⟩; exact Sub.nil))
      · with_reducible (refine X_nil ?_)
        exact J_next v hv rfl (by with_reducible (refine Sub.cons ?_; refine LQ_here ?_; refine ⟨rfl, ?_⟩; refine Sub.cons ?_; refine LQ_there (by decide +kernel) ?_; refine LQ_here ?_; refine ⟨rfl, ?_⟩; refine Sub.cons ?_; refine LQ_there (by decide +kernel) ?_; refine LQ_there (by decide +kernel) ?_; refine LQ_here ?_; refine ⟨rfl, ?_⟩; refine Sub.cons ?_; refine LQ_there (by decide +kernel) ?_; refine LQ_there (by decide +kernel) ?_; refine LQ_there (by decide +kernel) ?_; refine LQ_here ?_; refine ⟨rfl, ?_⟩; refine Sub.cons ?_; refine LQ_there (by decide +kernel) ?_; refine LQ_there (by decide +kernel) ?_; refine LQ_there (by decide +kernel) ?_; refine LQ_there (by decide +kernel) ?_; refine LQ_here ?_; refine ⟨rfl, ?_⟩; refine Sub.cons ?_; refine LQ_there (by decide +kernel) ?_; refine LQ_there (by decide +kernel) ?_; refine LQ_there (by decide +kernel) ?_; refine LQ_there (by decide +kernel) ?_; refine LQ_there (by decide +kernel) ?_; refine LQ_here ?_; refine ⟨rfl, ?_⟩; refine Sub.cons ?_; refine LQ_there (by decide +kernel) ?_; refine LQ_there (by decide +kernel) ?_; refine LQ_there (by decide +kernel) ?_; refine LQ_there (by decide +kernel) ?_; refine LQ_there (by decide +kernel) ?_; refine LQ_there (by decide +kernel) ?_; refine LQ_here ?_; refine ⟨rfl, ?_⟩; exact Sub.nil))
    clear hv v
    rintro v hv
    try dsimp only
    refine X_ifj (ι := Int × Int) (fun x => 0 ≤ x.1 ∧ 0 ≤ x.2 ∧ 0 < x.1 + x.2 ∧ x.1 < 10 ^ 60 ∧ x.2 < 10 ^ 60) (fun s => [("_law_share_here", shV s), ("_law_kind", .int (m % 6)), ("_law_name", .str x), ("_law_k", .int (i : Int)), ("_law_other", .ref σ.length), ("_law_page", .ref k), ("_law_cell", .int c)]) (fun _ => pin (σ ++ [AObj.dict (pgE g) none]) k (pgE p) ep) ?_ ?_
    · with_reducible (refine T_cmp1 ?_; refine E_nm ?_; refine LQ_there (by decide +kernel) ?_; refine LQ_here ?_; refine E_int ?_; refine O_eq ?_; refine T_b ?_)
      refine iteD (fun h => ?_) (fun h => ?_)
      · with_reducible (refine X_let ?_; refine E_tuple ?_; refine Es_cons ?_; refine E_bin ?_; refine E_sub ?_; refine E_nm ?_; refine LQ_here ?_; refine E_int ?_; refine S_t0 ?_; refine E_int ?_; refine O_div ?_ (by (decide)) (by decide +kernel); refine Es_cons ?_; refine E_bi (Blt.min_ (by assumption)) (by first | exact Keep.builtin _ | exact Keep.type _) ?_; refine Es_cons ?_; refine E_bin ?_; refine E_sub ?_; refine E_nm ?_; refine LQ_here ?_; refine E_int ?_; refine S_t1 ?_; refine E_int ?_; refine O_add ?_; refine Es_cons ?_; refine E_bin ?_; refine E_bin ?_; refine E_int ?_; refine E_int ?_; refine O_pow60 ?_; refine E_int ?_; refine O_sub ?_; refine Es_nil ?_; refine C_min (AOk.handled (by assumption)) ?_; refine Es_nil ?_; refine And.intro (by first | omega | with_unfolding_all exact Nat.le_of_ble_eq_true rfl) ?_; refine X_nil ?_)
        exact J_next (v.1 / 2, min (v.2 + 5) (10 ^ 60 - 1)) (sh_c hv) rfl (by with_reducible (refine Sub.cons ?_; refine LQ_here ?_; refine ⟨rfl, ?_⟩; refine Sub.cons ?_; refine LQ_there (by decide +kernel) ?_; refine LQ_there (by decide +kernel) ?_; refine LQ_here ?_; refine ⟨rfl, ?_⟩; refine Sub.cons ?_; refine LQ_there (by decide +kernel) ?_; refine LQ_there (by decide +kernel) ?_; refine LQ_there (by decide +kernel) ?_; refine LQ_here ?_; refine ⟨rfl, ?_⟩; refine Sub.cons ?_; refine LQ_there (by decide +kernel) ?_; refine LQ_there (by decide +kernel) ?_; refine LQ_there (by decide +kernel) ?_; refine LQ_there (by decide +kernel) ?_; refine LQ_here ?_; refine ⟨rfl, ?_⟩; refine Sub.cons ?_; refine LQ_there (by decide +kernel) ?_; refine LQ_there (by decide +kernel) ?_; refine LQ_there (by decide +kernel) ?_; refine LQ_there (by decide +kernel) ?_; refine LQ_there (by decide +kernel) ?_; refine LQ_here ?_; refine ⟨rfl, ?_⟩; refine Sub.cons ?_; refine LQ_there (by decide +kernel) ?_; refine LQ_there (by decide +kernel) ?_; refine LQ_there (by decide +kernel) ?_; refine LQ_there (by decide +kernel) ?_; refine LQ_there (by decide +kernel) ?_; refine LQ_there (by decide +kernel) ?_; refine LQ_here ?_; refine ⟨rfl, ?_⟩; refine Sub.cons ?_; refine LQ_there (by decide +kernel) ?_; refine LQ_there (by decide +kernel) ?_; refine LQ_there (by decide +kernel) ?_; refine LQ_there (by decide +kernel) ?_; refine LQ_there (by decide +kernel) ?_; refine LQ_there (by decide +kernel) ?_; refine LQ_there (by decide +kernel) ?_; refine LQ_here ?_; refine ⟨rfl, ?_⟩; exact Sub.nil))
      · with_reducible (refine X_nil ?_)
        exact J_next v hv rfl (by with_reducible (refine Sub.cons ?_; refine LQ_here ?_; refine ⟨rfl, ?_⟩; refine Sub.cons ?_; refine LQ_there (by decide +kernel) ?_; refine LQ_here ?_; refine ⟨rfl, ?_⟩; refine Sub.cons ?_; refine LQ_there (by decide +kernel) ?_; refine LQ_there (by decide +kernel) ?_; refine LQ_here ?_; refine ⟨rfl, ?_⟩; refine Sub.cons ?_; refine LQ_there (by decide +kernel) ?_; refine LQ_there (by decide +kernel) ?_; refine LQ_there (by decide +kernel) ?_; refine LQ_here ?_; refine ⟨rfl, ?_⟩; refine Sub.cons ?_; refine LQ_there (by decide +kernel) ?_; refine LQ_there (by decide +kernel) ?_; refine LQ_there (by decide +kernel) ?_; refine LQ_there (by decide +kernel) ?_; refine LQ_here ?_; refine ⟨rfl, ?_⟩; refine Sub.cons ?_; refine LQ_there (by decide +kernel) ?_; refine LQ_there (by decide +kernel) ?_; refine LQ_there (by decide +kernel) ?_; refine LQ_there (by decide +kernel) ?_; refine LQ_there (by decide +kernel) ?_; refine LQ_here ?_; refine ⟨rfl, ?_⟩; refine Sub.cons ?_; refine LQ_there (by decide +kernel) ?_; refine LQ_there (by decide +kernel) ?_; refine LQ_there (by decide +kernel) ?_; refine LQ_there (by decide +kernel) ?_; refine LQ_there (by decide +kernel) ?_; refine LQ_there (by decide +kernel) ?_; refine LQ_here ?_; refine ⟨rfl, ?_⟩; exact Sub.nil))
    clear hv v
    rintro v hv
    try dsimp only
    refine X_ifj (ι := Pg) (fun g' => PgOk6 g' ∧ g'.length ≤ i + cnt4 c i + 1) (fun _ => [("_law_share_here", shV v), ("_law_kind", .int (m % 6)), ("_law_name", .str x), ("_law_k", .int (i : Int)), ("_law_other", .ref σ.length), ("_law_page", .ref k), ("_law_cell", .int c)]) (fun g' => pin (σ ++ [AObj.dict (pgE g') none]) k (pgE p) ep) ?_ ?_
    · with_reducible (refine T_bool ?_; refine Ts_and ?_; refine T_cmp1 ?_; refine E_nm ?_; refine LQ_there (by decide +kernel) ?_; refine LQ_here ?_; refine E_int ?_; refine O_gt ?_; refine T_b ?_)
      refine iteD (fun h => ?_) (fun h => ?_)
      · with_reducible (refine Ts_and ?_; refine T_cmp1 ?_; refine E_nm ?_; refine LQ_here ?_; refine E_tuple ?_; refine Es_cons ?_; refine E_int ?_; refine Es_cons ?_; refine E_int ?_; refine Es_nil ?_; refine And.intro (by first | omega | with_unfolding_all exact Nat.le_of_ble_eq_true rfl) ?_)
        refine O_ne_pair (by have := hA.units; show _ < 9900; (clear h hv hm0 hm hup hxl hx hcl hcs hg hok hi hkl q hpl hpo hk hA c_mixed H S bl gl; lia)) ?_
        with_reducible (refine T_b ?_)
        refine iteDn (fun h2 => ?_) (fun h2 => ?_)
        · with_reducible (refine Ts_and_nil ?_; refine iteT ?_; refine X_set ?_; refine E_nm ?_; refine LQ_here ?_; refine E_nm ?_; refine LQ_there (by decide +kernel) ?_; refine LQ_there (by decide +kernel) ?_; refine LQ_there (by decide +kernel) ?_; refine LQ_there (by decide +kernel) ?_; refine LQ_here ?_; refine E_nm ?_; refine LQ_there (by decide +kernel) ?_; refine LQ_there (by decide +kernel) ?_; refine LQ_here ?_)
          refine P_dict (key := .s x) (pin_end_at hkl) (small_size (by rw [pgE_length]; (clear h2 h hv hm0 hm hup hxl hx hcs hok hkl q hpo hk hA c_mixed H S bl gl; lia))) ?_
          rw [pin_end_set hkl, put_pg]
          with_reducible (refine X_nil ?_)
          refine J_next (pput g x v) ⟨pput_ok6 hok ⟨hx, hv⟩, ?_⟩ rfl (by with_reducible (refine Sub.cons ?_; refine LQ_here ?_; refine ⟨rfl, ?_⟩; refine Sub.cons ?_; refine LQ_there (by decide +kernel) ?_; refine LQ_here ?_; refine ⟨rfl, ?_⟩; refine Sub.cons ?_; refine LQ_there (by decide +kernel) ?_; refine LQ_there (by decide +kernel) ?_; refine LQ_here ?_; refine ⟨rfl, ?_⟩; refine Sub.cons ?_; refine LQ_there (by decide +kernel) ?_; refine LQ_there (by decide +kernel) ?_; refine LQ_there (by decide +kernel) ?_; refine LQ_here ?_; refine ⟨rfl, ?_⟩; refine Sub.cons ?_; refine LQ_there (by decide +kernel) ?_; refine LQ_there (by decide +kernel) ?_; refine LQ_there (by decide +kernel) ?_; refine LQ_there (by decide +kernel) ?_; refine LQ_here ?_; refine ⟨rfl, ?_⟩; refine Sub.cons ?_; refine LQ_there (by decide +kernel) ?_; refine LQ_there (by decide +kernel) ?_; refine LQ_there (by decide +kernel) ?_; refine LQ_there (by decide +kernel) ?_; refine LQ_there (by decide +kernel) ?_; refine LQ_here ?_; refine ⟨rfl, ?_⟩; refine Sub.cons ?_; refine LQ_there (by decide +kernel) ?_; refine LQ_there (by decide +kernel) ?_; refine LQ_there (by decide +kernel) ?_; refine LQ_there (by decide +kernel) ?_; refine LQ_there (by decide +kernel) ?_; refine LQ_there (by decide +kernel) ?_; refine LQ_here ?_; refine ⟨rfl, ?_⟩; exact Sub.nil))
          have := pput_len g x v
          (clear h2 h hv hm0 hm hup hxl hx hcl hcs hok hi hkl q hpl hpo hk hA c_mixed H S bl gl; lia)
        · with_reducible (refine iteF ?_; refine X_nil ?_)
          exact J_next g ⟨hok, by (clear h2 h hv hm0 hm hup hxl hx hcl hcs hok hi hkl q hpl hpo hk hA c_mixed H S bl gl; lia)⟩ rfl (by with_reducible (refine Sub.cons ?_; refine LQ_here ?_; refine ⟨rfl, ?_⟩; refine Sub.cons ?_; refine LQ_there (by decide +kernel) ?_; refine LQ_here ?_; refine ⟨rfl, ?_⟩; refine Sub.cons ?_; refine LQ_there (by decide +kernel) ?_; refine LQ_there (by decide +kernel) ?_; refine LQ_here ?_; refine ⟨rfl, ?_⟩; refine Sub.cons ?_; refine LQ_there (by decide +kernel) ?_; refine LQ_there (by decide +kernel) ?_; refine LQ_there (by decide +kernel) ?_; refine LQ_here ?_; refine ⟨rfl, ?_⟩; refine Sub.cons ?_; refine LQ_there (by decide +kernel) ?_; refine LQ_there (by decide +kernel) ?_; refine LQ_there (by decide +kernel) ?_; refine LQ_there (by decide +kernel) ?_; refine LQ_here ?_; refine ⟨rfl, ?_⟩; refine Sub.cons ?_; refine LQ_there (by decide +kernel) ?_; refine LQ_there (by decide +kernel) ?_; refine LQ_there (by decide +kernel) ?_; refine LQ_there (by decide +kernel) ?_; refine LQ_there (by decide +kernel) ?_; refine LQ_here ?_; refine ⟨rfl, ?_⟩; refine Sub.cons ?_; refine LQ_there (by decide +kernel) ?_; refine LQ_there (by decide +kernel) ?_; refine LQ_there (by decide +kernel) ?_; refine LQ_there (by decide +kernel) ?_; refine LQ_there (by decide +kernel) ?_; refine LQ_there (by decide +kernel) ?_; refine LQ_here ?_; refine ⟨rfl, ?_⟩; exact Sub.nil))
      · with_reducible (refine iteF ?_; refine X_nil ?_)
        exact J_next g ⟨hok, by (clear h hv hm0 hm hup hxl hx hcl hcs hok hi hkl q hpl hpo hk hA c_mixed H S bl gl; lia)⟩ rfl (by with_reducible (refine Sub.cons ?_; refine LQ_here ?_; refine ⟨rfl, ?_⟩; refine Sub.cons ?_; refine LQ_there (by decide +kernel) ?_; refine LQ_here ?_; refine ⟨rfl, ?_⟩; refine Sub.cons ?_; refine LQ_there (by decide +kernel) ?_; refine LQ_there (by decide +kernel) ?_; refine LQ_here ?_; refine ⟨rfl, ?_⟩; refine Sub.cons ?_; refine LQ_there (by decide +kernel) ?_; refine LQ_there (by decide +kernel) ?_; refine LQ_there (by decide +kernel) ?_; refine LQ_here ?_; refine ⟨rfl, ?_⟩; refine Sub.cons ?_; refine LQ_there (by decide +kernel) ?_; refine LQ_there (by decide +kernel) ?_; refine LQ_there (by decide +kernel) ?_; refine LQ_there (by decide +kernel) ?_; refine LQ_here ?_; refine ⟨rfl, ?_⟩; refine Sub.cons ?_; refine LQ_there (by decide +kernel) ?_; refine LQ_there (by decide +kernel) ?_; refine LQ_there (by decide +kernel) ?_; refine LQ_there (by decide +kernel) ?_; refine LQ_there (by decide +kernel) ?_; refine LQ_here ?_; refine ⟨rfl, ?_⟩; refine Sub.cons ?_; refine LQ_there (by decide +kernel) ?_; refine LQ_there (by decide +kernel) ?_; refine LQ_there (by decide +kernel) ?_; refine LQ_there (by decide +kernel) ?_; refine LQ_there (by decide +kernel) ?_; refine LQ_there (by decide +kernel) ?_; refine LQ_here ?_; refine ⟨rfl, ?_⟩; exact Sub.nil))
    clear hok hg hup g
    rintro g ⟨hok, hg⟩
    try dsimp only
    refine X_ifs ?_
    with_reducible (refine T_cmp1 ?_; refine E_nm ?_; refine LQ_there (by decide +kernel) ?_; refine LQ_here ?_; refine E_int ?_; refine O_eq ?_; refine T_b ?_)
    refine iteD (fun h => ?_) (fun h => ?_)
    · with_reducible (refine X_let ?_; refine E_bin ?_; refine E_bin ?_; refine E_cf (by assumption) (AOk.le (by assumption) (by decide)) ?_; refine Es_cons ?_; refine E_nm ?_; refine LQ_there (by decide +kernel) ?_; refine LQ_there (by decide +kernel) ?_; refine LQ_there (by decide +kernel) ?_; refine LQ_there (by decide +kernel) ?_; refine LQ_there (by decide +kernel) ?_; refine LQ_there (by decide +kernel) ?_; refine LQ_here ?_; refine Es_cons ?_; refine E_nm ?_; refine LQ_there (by decide +kernel) ?_; refine LQ_there (by decide +kernel) ?_; refine LQ_there (by decide +kernel) ?_; refine LQ_here ?_; refine Es_nil ?_; refine ⟨_, _, rfl, ?_⟩; refine E_int ?_; refine O_div ?_ (by (decide)) (by decide +kernel); refine E_bi (Blt.len_ (by assumption)) (by first | exact Keep.builtin _ | exact Keep.type _) ?_; refine Es_cons ?_; refine E_nm ?_; refine LQ_there (by decide +kernel) ?_; refine LQ_there (by decide +kernel) ?_; refine LQ_here ?_; refine Es_nil ?_)
      rw [hm]
      refine C_len_str (by (clear h hg hok hv hm0 hm hx hcl hcs hi hkl q hpl hpo hk hA c_mixed H S bl gl; lia)) ?_
      have hlp : (0 : Int) < (x.length : Int) := by (clear h hg hok hv hm0 hm hx hcl hcs hi hkl q hpl hpo hk hA c_mixed H S bl gl; lia)
      refine O_mod ?_ hlp
      have a1 := Int.emod_lt_of_pos (m / 6) hlp
      have a0 := Int.emod_nonneg (m / 6) (Int.ne_of_gt hlp)
      generalize m / 6 % (x.length : Int) = at_ at a0 a1
      with_reducible (refine X_let ?_; refine E_bin ?_; refine E_bin ?_; refine E_slice_to ?_; refine E_nm ?_; refine LQ_there (by decide +kernel) ?_; refine LQ_there (by decide +kernel) ?_; refine LQ_there (by decide +kernel) ?_; refine LQ_here ?_; refine ⟨_, rfl, ?_⟩)
      refine ⟨small_size (by (clear a1 a0 hlp h hg hok hv hm0 hm hx hcl hcs hi hkl q hpl hpo hk hA c_mixed H S bl gl; lia)), ?_⟩
      with_reducible (refine E_nm ?_; refine LQ_here ?_; refine ⟨_, rfl, ?_⟩; refine E_sub ?_; refine E_str ?_; refine E_bin ?_; refine E_bin ?_; refine E_cf (by assumption) (AOk.le (by assumption) (by decide)) ?_; refine Es_cons ?_; refine E_nm ?_; refine LQ_there (by decide +kernel) ?_; refine LQ_there (by decide +kernel) ?_; refine LQ_there (by decide +kernel) ?_; refine LQ_there (by decide +kernel) ?_; refine LQ_there (by decide +kernel) ?_; refine LQ_there (by decide +kernel) ?_; refine LQ_there (by decide +kernel) ?_; refine LQ_here ?_; refine Es_cons ?_; refine E_nm ?_; refine LQ_there (by decide +kernel) ?_; refine LQ_there (by decide +kernel) ?_; refine LQ_there (by decide +kernel) ?_; refine LQ_there (by decide +kernel) ?_; refine LQ_here ?_; refine Es_nil ?_; refine ⟨_, _, rfl, ?_⟩; refine E_int ?_; refine O_div ?_ (by (decide)) (by decide +kernel); refine E_int ?_; refine O_mod ?_ (by (decide)))
      rw [hm]
      refine S_str (by (clear a1 a0 hlp h hg hok hv hm0 hm hxl hx hcl hcs hi hkl q hpl hpo hk hA c_mixed H S bl gl; lia)) (by rw [show (Str.ofString "abcdefghijklmnopqrstuvwxyz").cps.size = 26 from letters_size]; (clear a1 a0 hlp h hg hok hv hm0 hm hxl hx hcl hcs hi hkl q hpl hpo hk hA c_mixed H S bl gl; lia)) (by (clear a1 a0 hlp h hg hok hv hm0 hm hxl hx hcl hcs hi hkl q hpl hpo hk hA c_mixed H S bl gl; lia)) ?_
      rw [show signAt (Str.ofString "abcdefghijklmnopqrstuvwxyz") (m / 48 % 26).toNat = _ from letters_sign (by (clear a1 a0 hlp h hg hok hv hm0 hm hxl hx hcl hcs hi hkl q hpl hpo hk hA c_mixed H S bl gl; lia)), slice_to a0]
      have hcl : (m / 48 % 26).toNat < 26 := by (clear a1 a0 hlp h hg hok hv hm0 hm hxl hx hcl hcs hi hkl q hpl hpo hk hA c_mixed H S bl gl; lia)
      generalize (m / 48 % 26).toNat = cc at hcl
      have htw := twin_len x at_.toNat cc
      refine O_adds ?_ (small_size (by show _ + _ ≤ 100000; simp [Str.length, sg] at hxl ⊢; (clear htw hcl a1 a0 hlp h hg hok hv hm0 hm hx hcs hi hkl q hpl hpo hk hA c_mixed H S bl gl; lia)))
      with_reducible (refine E_slice_from ?_; refine E_nm ?_; refine LQ_there (by decide +kernel) ?_; refine LQ_there (by decide +kernel) ?_; refine LQ_there (by decide +kernel) ?_; refine LQ_here ?_; refine ⟨_, rfl, ?_⟩)
      refine ⟨small_size (by (clear htw hcl a1 a0 hlp h hg hok hv hm0 hm hx hcs hi hkl q hpl hpo hk hA c_mixed H S bl gl; lia)), ?_⟩
      with_reducible (refine E_bin ?_; refine E_nm ?_; refine LQ_here ?_; refine E_int ?_; refine O_add ?_; refine ⟨_, rfl, ?_⟩)
      rw [slice_from (by (clear htw hcl a1 hlp h hg hok hv hm0 hm hxl hx hcs hi hkl q hpl hpo hk hA c_mixed H S bl gl; lia)) (by (assumption))]
      refine O_adds ?_ (small_size (by have : (⟨(x.cps.toList.drop (at_ + 1).toNat).toArray⟩ : Str).length ≤ 8 := (by simp [Str.length] at hxl ⊢; (clear htw hcl a1 a0 hlp h hg hok hv hm0 hm hx hcs hi hkl q hpl hpo hk hA c_mixed H S bl gl; lia)); (clear hcl a1 a0 hlp h hg hok hv hm0 hm hx hcs hi hkl q hpl hpo hk hA c_mixed H S bl gl; lia)))
      have ea : (at_ + 1).toNat = at_.toNat + 1 := by (clear htw hcl a1 hlp h hg hok hv hm0 hm hxl hx hcs hi hkl q hpl hpo hk hA c_mixed H S bl gl; lia)
      rw [ea]
      have hnew := twin_ok hx (a := at_.toNat) (c := cc) (by (clear ea htw hcl a0 hlp h hg hok hv hm0 hm hx hcs hi hkl q hpl hpo hk hA c_mixed H S bl gl; lia)) hcl
      generalize (⟨(x.cps.toList.take at_.toNat).toArray⟩ : Str) ++ sg (97 + cc) ++ ⟨(x.cps.toList.drop (at_.toNat + 1)).toArray⟩ = tw at hnew
      with_reducible (refine X_set ?_; refine E_tuple ?_; refine Es_cons ?_; refine E_sub ?_; refine E_nm ?_; refine LQ_there (by decide +kernel) ?_; refine LQ_there (by decide +kernel) ?_; refine LQ_here ?_; refine E_int ?_; refine S_t0 ?_; refine Es_cons ?_; refine E_int ?_; refine Es_nil ?_; refine And.intro (by first | omega | with_unfolding_all exact Nat.le_of_ble_eq_true rfl) ?_; refine E_nm ?_; refine LQ_there (by decide +kernel) ?_; refine LQ_there (by decide +kernel) ?_; refine LQ_there (by decide +kernel) ?_; refine LQ_there (by decide +kernel) ?_; refine LQ_there (by decide +kernel) ?_; refine LQ_there (by decide +kernel) ?_; refine LQ_here ?_; refine E_nm ?_; refine LQ_here ?_)
      refine P_dict (key := .s tw) (pin_end_at hkl) (small_size (by rw [pgE_length]; (clear hnew ea htw hcl a1 a0 hlp h hok hv hm0 hm hxl hx hcs hkl q hpo hk hA c_mixed H S bl gl; lia))) ?_
      rw [pin_end_set hkl, show V.tup [V.int v.1, V.int 3] = shV (v.1, 3) from rfl, put_pg]
      with_reducible (refine X_nil ?_; refine sq_next ?_; refine X_nil ?_)
      refine TD_next (pput g tw (v.1, 3)) ⟨pput_ok6 hok ⟨hnew, by dsimp only; (clear hnew ea htw hcl a1 a0 hlp h hg hok hm0 hm hxl hx hcs hi hkl q hpl hpo hk hA c_mixed H S bl gl; lia)⟩, ?_⟩ rfl (by with_reducible (refine Sub.cons ?_; refine LQ_there (by decide +kernel) ?_; refine LQ_there (by decide +kernel) ?_; refine LQ_there (by decide +kernel) ?_; refine LQ_there (by decide +kernel) ?_; refine LQ_there (by decide +kernel) ?_; refine LQ_there (by decide +kernel) ?_; refine LQ_here ?_; refine ⟨rfl, ?_⟩; refine Sub.cons ?_; refine LQ_there (by decide +kernel) ?_; refine LQ_there (by decide +kernel) ?_; refine LQ_there (by decide +kernel) ?_; refine LQ_there (by decide +kernel) ?_; refine LQ_there (by decide +kernel) ?_; refine LQ_there (by decide +kernel) ?_; refine LQ_there (by decide +kernel) ?_; refine LQ_here ?_; refine ⟨rfl, ?_⟩; refine Sub.cons ?_; refine LQ_there (by decide +kernel) ?_; refine LQ_there (by decide +kernel) ?_; refine LQ_there (by decide +kernel) ?_; refine LQ_there (by decide +kernel) ?_; refine LQ_there (by decide +kernel) ?_; refine LQ_there (by decide +kernel) ?_; refine LQ_there (by decide +kernel) ?_; refine LQ_there (by decide +kernel) ?_; refine LQ_here ?_; refine ⟨rfl, ?_⟩; exact Sub.nil))
      have := pput_len g tw (v.1, 3)
      rw [hm, if_pos h] at hcs
      (clear hnew ea htw hcl a1 a0 hlp h hok hv hm0 hm hxl hx hi hkl q hpl hpo hk hA c_mixed H S bl gl; lia)
    · with_reducible (refine X_nil ?_; refine sq_next ?_; refine X_nil ?_)
      exact TD_next g ⟨hok, by (clear h hok hv hm0 hm hxl hx hcl hi hkl q hpl hpo hk hA c_mixed H S bl gl; lia)⟩ rfl (by with_reducible (refine Sub.cons ?_; refine LQ_there (by decide +kernel) ?_; refine LQ_there (by decide +kernel) ?_; refine LQ_there (by decide +kernel) ?_; refine LQ_there (by decide +kernel) ?_; refine LQ_here ?_; refine ⟨rfl, ?_⟩; refine Sub.cons ?_; refine LQ_there (by decide +kernel) ?_; refine LQ_there (by decide +kernel) ?_; refine LQ_there (by decide +kernel) ?_; refine LQ_there (by decide +kernel) ?_; refine LQ_there (by decide +kernel) ?_; refine LQ_here ?_; refine ⟨rfl, ?_⟩; refine Sub.cons ?_; refine LQ_there (by decide +kernel) ?_; refine LQ_there (by decide +kernel) ?_; refine LQ_there (by decide +kernel) ?_; refine LQ_there (by decide +kernel) ?_; refine LQ_there (by decide +kernel) ?_; refine LQ_there (by decide +kernel) ?_; refine LQ_here ?_; refine ⟨rfl, ?_⟩; exact Sub.nil))
  · rintro g ⟨hok, hg⟩
    rw [pgE_length] at hg
    have hcl := cnt4_le c p.length
    with_reducible (refine X_ret ?_; refine E_nm ?_; refine LQ_here ?_)
    exact R_all (q g hok (by (clear hok hkl q hpl hpo hk hA c_mixed H S bl gl; lia)))

theorem good_Hand_trusts : GoodM (dm pw_uf050040_14 23 7) ["self", "page"] :=
  ⟨fun q pm code doc vals h => (by obtain ⟨a, b, rfl⟩ := len_2 h; rfl), by decide +kernel, by decide +kernel, by decide +kernel, rfl, rfl, rfl⟩
theorem cf_Hand_trusts (gl : Gl B mg mb) (bl : Blt B mg mb) (S : Scr B scr nums) (H : HasM B 208 (dm pw_uf050040_14 23 7)) (k_Hand : Cls B 218 ["name", "heard"] [("__init__", 159), ("grown", 166), ("up", 173), ("down", 180), ("page", 187), ("told", 194), ("letter", 201), ("trusts", 208), ("hear", 215)])
    (c_reaches : CF prog w B mg "reaches" 1 (fun xs σ Q X => ∃ a b c d, xs = [.tup [.int a, .int b], .tup [.int c, .int d]] ∧ Q (.bool (decide (c ≤ a ∧ d ≤ b))) σ))
    (c_share_of : CF prog w B mg "share_of" 1 (fun xs σ Q X => ∃ k p e n, σ[k]? = some (.dict (pgE p) e) ∧ xs = [.ref k, .str n] ∧ Q (shV (look p n)) σ)) :
    CM prog w B 208 3 (fun xs σ Q X => ∃ k n p kn kp r e, HandAt σ k n p kn ∧ σ[kp]? = some (.dict (pgE r) e) ∧ xs = [.ref k, .ref kp] ∧ Q (.bool (reach (look p n) (look r n))) σ) := by
  refine CM_of gl H good_Hand_trusts ?_
  rintro A pm code doc q₀ L a₀ _ σ Q X hA ⟨k, n, p, kn, kp, r, e, ⟨kd, h1, h2, h3⟩, hp, rfl, q⟩
  refine ⟨rfl, ?_⟩
  change WX _ _ _ _ _ (_ :: _) ((_, _) :: (_, _) :: []) _ _ _

  with_reducible (refine X_ret ?_; refine E_cf (by assumption) (AOk.le (by assumption) (by decide)) ?_; refine Es_cons ?_; refine E_cf (by assumption) (AOk.le (by assumption) (by decide)) ?_; refine Es_cons ?_)
  refine E_attr ?_
  with_reducible (refine E_nm ?_; refine LQ_here ?_)
  refine A_inst k_Hand h1 h2 (by decide +kernel) ?_
  with_reducible (refine LQ_there (by decide +kernel) ?_; refine LQ_here ?_)
  refine ⟨VH.ref, ?_⟩
  with_reducible (refine Es_cons ?_)
  refine E_attr ?_
  with_reducible (refine E_nm ?_; refine LQ_here ?_)
  refine A_inst k_Hand h1 h2 (by decide +kernel) ?_
  with_reducible (refine LQ_here ?_)
  refine ⟨VH.str, ?_⟩
  with_reducible (refine Es_nil ?_)
  refine ⟨_, _, _, _, h3, rfl, ?_⟩
  with_reducible (refine Es_cons ?_; refine E_cf (by assumption) (AOk.le (by assumption) (by decide)) ?_; refine Es_cons ?_; refine E_nm ?_; refine LQ_there (by decide +kernel) ?_; refine LQ_here ?_; refine Es_cons ?_)
  refine E_attr ?_
  with_reducible (refine E_nm ?_; refine LQ_here ?_)
  refine A_inst k_Hand h1 h2 (by decide +kernel) ?_
  with_reducible (refine LQ_here ?_)
  refine ⟨VH.str, ?_⟩
  with_reducible (refine Es_nil ?_)
  refine ⟨_, _, _, _, hp, rfl, ?_⟩
  with_reducible (refine Es_nil ?_; refine ⟨_, _, _, _, rfl, ?_⟩)
  exact R_all q

theorem good_Hand_hear : GoodM (dm pw_uf050040_14 23 8) ["self", "page"] :=
  ⟨fun q pm code doc vals h => (by obtain ⟨a, b, rfl⟩ := len_2 h; rfl), by decide +kernel, by decide +kernel, by decide +kernel, rfl, rfl, rfl⟩
theorem cf_Hand_hear (gl : Gl B mg mb) (bl : Blt B mg mb) (S : Scr B scr nums) (H : HasM B 215 (dm pw_uf050040_14 23 8)) (k_Hand : Cls B 218 ["name", "heard"] [("__init__", 159), ("grown", 166), ("up", 173), ("down", 180), ("page", 187), ("told", 194), ("letter", 201), ("trusts", 208), ("hear", 215)])
    (c_is_page : CF prog w B mg "is_page" 3 (fun xs σ Q X => (∃ k es e, xs = [.ref k] ∧ σ[k]? = some (.dict es e) ∧ es.length ≤ 100000 ∧ (∀ p ∈ es, keyLen p.1 ∧ ShareR σ p.2) ∧ Q (.bool (pageB es)) σ) ∨ (∃ x, xs = [x] ∧ NonDict σ x ∧ Q (.bool false) σ)))
    (c_Hand_trusts : CM prog w B 208 3 (fun xs σ Q X => ∃ k n p kn kp r e, HandAt σ k n p kn ∧ σ[kp]? = some (.dict (pgE r) e) ∧ xs = [.ref k, .ref kp] ∧ Q (.bool (reach (look p n) (look r n))) σ))
    (c_lacking : CF prog w B mg "lacking" 3 (fun xs σ Q X => ∃ j k p r e e', σ[j]? = some (.dict (pgE p) e) ∧ σ[k]? = some (.dict (pgE r) e') ∧ r.length ≤ 60 ∧ xs = [.ref j, .ref k] ∧ Q (.ref σ.length) (σ ++ [.dict (pgE (lacks p r)) none])))
    (c_joined : CF prog w B mg "joined" 3 (fun xs σ Q X => ∃ j k p r e e', σ[j]? = some (.dict (pgE p) e) ∧ σ[k]? = some (.dict (pgE r) e') ∧ (p.length + r.length ≤ 1000 ∧ (onceS (names p ++ names r)).length ≤ 60) ∧ xs = [.ref j, .ref k] ∧ Q (.ref σ.length) (σ ++ [.dict (pgE (joins p r)) none]))) :
    CM prog w B 215 5 (fun xs σ Q X => ∃ k n p kn kp r e, HandAt σ k n p kn ∧ σ[kp]? = some (.dict (pgE r) e) ∧ PgOk p ∧ PgOk6 r ∧ r.length ≤ 60 ∧ n ∉ names r ∧ (p.length + r.length ≤ 1000 ∧ (onceS (names p ++ names r)).length ≤ 60) ∧ xs = [.ref k, .ref kp] ∧ ∀ (m : Int) σ', HandAt σ' k n (joins p r) kn → Upd kn σ σ' → Q (.int m) σ') := by
  refine CM_of gl H good_Hand_hear ?_
  rintro A pm code doc q₀ L a₀ _ σ Q X hA ⟨k, n, p, kn, kp, r, e, hh, hp, okp, okr, hr60, hn, ho, rfl, q⟩
  refine ⟨rfl, ?_⟩
  change WX _ _ _ _ _ (_ :: _) ((_, _) :: (_, _) :: []) _ _ _

  obtain ⟨kd, h1, h2, h3⟩ := id hh
  refine X_ifs ?_
  with_reducible (refine T_not ?_; refine T_value ?_; refine E_cf (by assumption) (AOk.le (by assumption) (by decide)) ?_; refine Es_cons ?_; refine E_nm ?_; refine LQ_there (by decide +kernel) ?_; refine LQ_here ?_; refine Es_nil ?_)
  refine .inl ⟨_, _, _, rfl, hp, by rw [pgE_length]; (exact Nat.le_trans (by assumption) (by decide)), fun e he => ?_, ?_⟩
  · obtain ⟨x, hx, rfl⟩ := List.mem_map.mp he
    have := (isNameS_len (okr.2 x hx).1).2
    exact ⟨show x.1.length < 10 ^ 9 by (exact Nat.lt_of_le_of_lt (by assumption) (by decide)), .good _ _⟩
  rw [pageB_ok6 okr (by (exact Nat.le_trans (by assumption) (by decide)))]
  with_reducible (refine T_b ?_; refine iteNo (by decide) ?_; refine X_nil ?_; refine sq_next ?_)
  refine X_ifs ?_
  with_reducible (refine T_not ?_; refine T_value ?_)
  refine E_mcallv ?_
  with_reducible (refine E_nm ?_; refine LQ_here ?_)
  refine ⟨.ref 208, GM_inst k_Hand h1 h2 rfl (by kernel_rfl!), c_Hand_trusts.1, ?_⟩
  with_reducible (refine Es_cons ?_; refine E_nm ?_; refine LQ_there (by decide +kernel) ?_; refine LQ_here ?_; refine Es_nil ?_)
  refine C_cm c_Hand_trusts (hA.le (by decide)) ⟨k, n, p, kn, kp, r, e, hh, hp, rfl, ?_⟩
  have hre : reach (look p n) (look r n) = true := by
    have := look_nonneg okp n
    rw [look_none hn]; unfold reach; exact decide_eq_true this
  rw [hre]
  with_reducible (refine T_b ?_; refine iteNo (by decide) ?_; refine X_nil ?_; refine sq_next ?_; refine X_let ?_; refine E_bi (Blt.len_ (by assumption)) (by first | exact Keep.builtin _ | exact Keep.type _) ?_; refine Es_cons ?_; refine E_cf (by assumption) (AOk.le (by assumption) (by decide)) ?_; refine Es_cons ?_)
  refine E_attr ?_
  with_reducible (refine E_nm ?_; refine LQ_here ?_)
  refine A_inst k_Hand h1 h2 (by decide +kernel) ?_
  with_reducible (refine LQ_there (by decide +kernel) ?_; refine LQ_here ?_)
  refine ⟨VH.ref, ?_⟩
  with_reducible (refine Es_cons ?_; refine E_nm ?_; refine LQ_there (by decide +kernel) ?_; refine LQ_here ?_; refine Es_nil ?_)
  refine ⟨_, _, _, _, _, _, h3, hp, hr60, rfl, ?_⟩
  with_reducible (refine Es_nil ?_)
  refine C_len_dict (es := pgE (lacks p r)) at_end (by have := lacks_len (p := p) okr.1; rw [pgE_length]; (clear hre h3 h2 h1 q ho hn okr okp hp hh hA c_joined c_lacking c_Hand_trusts c_is_page k_Hand H S bl gl; lia)) ?_
  refine X_seta ?_
  with_reducible (refine E_cf (by assumption) (AOk.le (by assumption) (by decide)) ?_; refine Es_cons ?_)
  refine E_attr ?_
  with_reducible (refine E_nm ?_; refine LQ_there (by decide +kernel) ?_; refine LQ_here ?_)
  refine A_inst k_Hand (up_at h1) (up_at h2) (by decide +kernel) ?_
  with_reducible (refine LQ_there (by decide +kernel) ?_; refine LQ_here ?_)
  refine ⟨VH.ref, ?_⟩
  with_reducible (refine Es_cons ?_; refine E_nm ?_; refine LQ_there (by decide +kernel) ?_; refine LQ_there (by decide +kernel) ?_; refine LQ_here ?_; refine Es_nil ?_)
  refine ⟨_, _, _, _, _, _, up_at h3, up_at hp, ho, rfl, ?_⟩
  with_reducible (refine E_nm ?_; refine LQ_there (by decide +kernel) ?_; refine LQ_here ?_)
  have hne : kn ≠ k := fun e => by rw [e, h1] at h2; cases h2
  have hkn := aLt h2
  refine SA_inst k_Hand (up_at (up_at h1)) (up_at (up_at h2)) (by decide +kernel) (by simp) (PQ_there (by decide +kernel) (PQ_here ?_))
  generalize AObj.dict (pgE (lacks p r)) none = o1
  have g : ((σ ++ [o1] ++ [AObj.dict (pgE (joins p r)) none]).set kn (.ns [("name", .str n), ("heard", .ref (σ ++ [o1]).length)]))[(σ ++ [o1]).length]? = some (.dict (pgE (joins p r)) none) := by
    rw [List.getElem?_set_ne (by simp; (clear hne hre h3 h2 h1 q ho hn hr60 okr okp hp hh hA c_joined c_lacking c_Hand_trusts c_is_page k_Hand H S bl gl; lia))]; exact at_end
  have hk' : ((σ ++ [o1] ++ [AObj.dict (pgE (joins p r)) none]).set kn (.ns [("name", .str n), ("heard", .ref (σ ++ [o1]).length)]))[k]? = some (.inst 218 kn) := by
    rw [List.getElem?_set_ne hne]; exact up_at (up_at h1)
  have hn' : ((σ ++ [o1] ++ [AObj.dict (pgE (joins p r)) none]).set kn (.ns [("name", .str n), ("heard", .ref (σ ++ [o1]).length)]))[kn]? = some (.ns [("name", .str n), ("heard", .ref (σ ++ [o1]).length)]) := List.getElem?_set_self (by simp; (clear hk' g hne hre h3 h2 h1 q ho hn hr60 okr okp hp hh hA c_joined c_lacking c_Hand_trusts c_is_page k_Hand H S bl gl; lia))
  have hu : Upd kn σ ((σ ++ [o1] ++ [AObj.dict (pgE (joins p r)) none]).set kn (.ns [("name", .str n), ("heard", .ref (σ ++ [o1]).length)])) := fun j x hj' hx => by
    rw [List.getElem?_set_ne (Ne.symm hj')]; exact up_at (up_at hx)
  generalize (σ ++ [o1] ++ [AObj.dict (pgE (joins p r)) none]).set kn (.ns [("name", .str n), ("heard", .ref (σ ++ [o1]).length)]) = τ at g hk' hn' hu ⊢
  generalize (σ ++ [o1]).length = kd' at g hn' ⊢
  with_reducible (refine X_ret ?_; refine E_nm ?_; refine LQ_here ?_)
  exact R_all (q _ τ ⟨kd', hk', hn', g⟩ hu)

theorem good_from_left : Good (dr pw_uf050040_14 37) ["_law_pages_here"] :=
  ⟨fun pm code doc vals h => (by obtain ⟨a, rfl⟩ := len_1 h; rfl), by decide +kernel, by decide +kernel, by decide +kernel, rfl, rfl, rfl⟩
theorem cf_from_left (gl : Gl B mg mb) (bl : Blt B mg mb) (S : Scr B scr nums) (H : HasF B mg (dr pw_uf050040_14 37))
    (c_joined : CF prog w B mg "joined" 3 (fun xs σ Q X => ∃ j k p r e e', σ[j]? = some (.dict (pgE p) e) ∧ σ[k]? = some (.dict (pgE r) e') ∧ (p.length + r.length ≤ 1000 ∧ (onceS (names p ++ names r)).length ≤ 60) ∧ xs = [.ref j, .ref k] ∧ Q (.ref σ.length) (σ ++ [.dict (pgE (joins p r)) none]))) :
    CF prog w B mg "_law_from_left" 4 (fun xs σ Q X => ∃ kl ks P Us, xs = [.ref kl] ∧ σ[kl]? = some (.list (ks.map V.ref)) ∧ Pages σ ks P ∧ (∀ p ∈ P, PgOk p) ∧ Und Us P ∧ P ≠ [] ∧ P.length ≤ 10 ∧ ∀ F, Smn F P → SortP F → Q (.ref σ.length) (σ ++ [.dict (pgE F) none])) := by
  refine CF_of gl H good_from_left ?_
  rintro A pm code doc L a₀ _ σ Q X hA ⟨kl, ks, P, Us, rfl, hl, hP, hok, hU, hne, h10, q⟩
  refine ⟨rfl, ?_⟩
  change WX _ _ _ _ _ (_ :: _) ((_, _) :: []) _ _ _

  have hlen := hP.1
  with_reducible (refine X_let ?_; refine E_dict0 ?_)
  refine X_fors ?_
  with_reducible (refine E_nm ?_; refine LQ_there (by decide +kernel) ?_; refine LQ_here ?_)
  refine ForG.mk (ι := List AObj × Nat × Pg) (fun i g => σ.length ≤ g.2.1 ∧ (σ ++ g.1)[g.2.1]? = some (.dict (pgE g.2.2) none) ∧ Smn g.2.2 (P.take i) ∧ (0 < i → SortP g.2.2)) (fun _ g => [("_law_found", .ref g.2.1)]) (fun _ g => σ ++ g.1) (It_list hA.handled (up_at hl)) ([.dict [] none], σ.length, []) ⟨Nat.le_refl _, at_end, Smn.nil, fun h => absurd h (by decide)⟩ rfl (up_at hl) (by with_reducible (refine Sub.cons ?_; refine LQ_here ?_; refine ⟨rfl, ?_⟩; exact Sub.nil)) ?_ ?_
  · rintro i ⟨jk, kf, F⟩ hi ⟨h1, h2, h3, h4⟩ -
    dsimp only at h1 h2 h3 h4 ⊢
    rw [List.length_map] at hi
    rw [refs_getD hi]
    have hiP : i < P.length := by (clear h4 h3 h2 h1 q h10 hne hU hok hP hl hA c_joined H S bl gl; lia)
    have hp := hP.up (more := jk) |>.2 i hiP
    have hpok := hok _ (getD_mem hiP)
    have hs := Smn.one hpok
    have o := h3.once hs (U := Us) ⟨hU.1, fun p hp => hU.2 p (List.mem_of_mem_take hp)⟩ ⟨hU.1, fun p hp => by rw [List.mem_singleton.mp hp]; exact hU.2 _ (getD_mem hiP)⟩
    have hj := h3.join hs
    rw [← take_succ_getD hiP] at hj
    have hl60 := hs.len (U := Us) ⟨hU.1, fun p hp => by rw [List.mem_singleton.mp hp]; exact hU.2 _ (getD_mem hiP)⟩
    generalize P.getD i [] = p at *
    with_reducible (refine X_let ?_; refine E_cf (by assumption) (AOk.le (by assumption) (by decide)) ?_; refine Es_cons ?_; refine E_nm ?_; refine LQ_there (by decide +kernel) ?_; refine LQ_here ?_; refine Es_cons ?_; refine E_bi (Blt.dict_ (by assumption)) (by first | exact Keep.builtin _ | exact Keep.type _) ?_; refine Es_cons ?_; refine E_nm ?_; refine LQ_here ?_; refine Es_nil ?_)
    refine C_dict_copy hp (small_size (by rw [pgE_length]; (exact Nat.le_trans (by assumption) (by decide)))) ?_
    with_reducible (refine Es_nil ?_)
    refine ⟨_, _, _, _, _, _, up_at h2, at_end, o, rfl, ?_⟩
    with_reducible (refine X_nil ?_)
    refine TJ_next (jk ++ [.dict (pgE p) none] ++ [.dict (pgE (joins F p)) none], (σ ++ jk ++ [AObj.dict (pgE p) none]).length, joins F p) ⟨by simp <;> omega, ?_, hj, fun _ => joins_sort _ _⟩ (by simp) (up_at (up_at (up_at hl))) (by with_reducible (refine Sub.cons ?_; refine LQ_here ?_; refine ⟨rfl, ?_⟩; exact Sub.nil))
    have := at_end (σ := σ ++ jk ++ [AObj.dict (pgE p) none]) (ob := AObj.dict (pgE (joins F p)) none)
    rw [← List.append_assoc, ← List.append_assoc]; exact this
  · rintro ⟨jk, kf, F⟩ ⟨h1, h2, h3, h4⟩ -
    rw [List.length_map, hlen, List.take_length] at h3
    rw [List.length_map, hlen] at h4
    with_reducible (refine X_ret ?_; refine E_nm ?_; refine LQ_here ?_)
    exact R_any h1 h2 (pgE_lt _ _) (q F h3 (h4 (List.length_pos_iff.mpr hne)))

theorem good_from_right : Good (dr pw_uf050040_14 38) ["_law_pages_here"] :=
  ⟨fun pm code doc vals h => (by obtain ⟨a, rfl⟩ := len_1 h; rfl), by decide +kernel, by decide +kernel, by decide +kernel, rfl, rfl, rfl⟩
theorem cf_from_right (gl : Gl B mg mb) (bl : Blt B mg mb) (S : Scr B scr nums) (H : HasF B mg (dr pw_uf050040_14 38))
    (c_joined : CF prog w B mg "joined" 3 (fun xs σ Q X => ∃ j k p r e e', σ[j]? = some (.dict (pgE p) e) ∧ σ[k]? = some (.dict (pgE r) e') ∧ (p.length + r.length ≤ 1000 ∧ (onceS (names p ++ names r)).length ≤ 60) ∧ xs = [.ref j, .ref k] ∧ Q (.ref σ.length) (σ ++ [.dict (pgE (joins p r)) none]))) :
    CF prog w B mg "_law_from_right" 4 (fun xs σ Q X => ∃ kl ks P Us, xs = [.ref kl] ∧ σ[kl]? = some (.list (ks.map V.ref)) ∧ Pages σ ks P ∧ (∀ p ∈ P, PgOk p) ∧ Und Us P ∧ P ≠ [] ∧ P.length ≤ 10 ∧ ∀ F, Smn F P → SortP F → Q (.ref σ.length) (σ ++ [.dict (pgE F) none])) := by
  refine CF_of gl H good_from_right ?_
  rintro A pm code doc L a₀ _ σ Q X hA ⟨kl, ks, P, Us, rfl, hl, hP, hok, hU, hne, h10, q⟩
  refine ⟨rfl, ?_⟩
  change WX _ _ _ _ _ (_ :: _) ((_, _) :: []) _ _ _

  have hlen := hP.1
  have hk1000 : ks.length ≤ 1000 := by (clear q hne hU hok hP hl hA c_joined H S bl gl; lia)
  with_reducible (refine X_let ?_; refine E_dict0 ?_)
  refine X_fors ?_
  with_reducible (refine E_bi (Blt.range_ (by assumption)) (by first | exact Keep.builtin _ | exact Keep.type _) ?_; refine Es_cons ?_; refine E_bi (Blt.len_ (by assumption)) (by first | exact Keep.builtin _ | exact Keep.type _) ?_; refine Es_cons ?_; refine E_nm ?_; refine LQ_there (by decide +kernel) ?_; refine LQ_here ?_; refine Es_nil ?_)
  refine C_len_refs (up_at hl) hk1000 ?_
  rw [hlen]
  with_reducible (refine Es_nil ?_; refine C_range1 ?_)
  refine ForG.mk (ι := List AObj × Nat × Pg) (fun i g => σ.length ≤ g.2.1 ∧ (σ ++ g.1)[g.2.1]? = some (.dict (pgE g.2.2) none) ∧ Smn g.2.2 (P.drop (P.length - i)) ∧ (0 < i → SortP g.2.2)) (fun _ g => [("_law_found", .ref g.2.1), ("_law_pages_here", .ref kl)]) (fun _ g => σ ++ g.1) (It_range hA.handled (by (exact Int.natCast_nonneg _)) (by (exact Int.natCast_nonneg _)) (by (exact Int.natCast_nonneg _)) (by (clear hk1000 hlen q hne hU hok hP hl hA c_joined H S bl gl; lia))) ([.dict [] none], σ.length, []) ⟨Nat.le_refl _, at_end, by rw [Nat.sub_zero, List.drop_length]; exact Smn.nil, fun h => absurd h (by decide)⟩ rfl trivial (by with_reducible (refine Sub.cons ?_; refine LQ_here ?_; refine ⟨rfl, ?_⟩; refine Sub.cons ?_; refine LQ_there (by decide +kernel) ?_; refine LQ_here ?_; refine ⟨rfl, ?_⟩; exact Sub.nil)) ?_ ?_
  · rintro i ⟨jk, kf, F⟩ hi ⟨h1, h2, h3, h4⟩ -
    dsimp only at h1 h2 h3 h4 ⊢
    have hi : i < P.length := by (assumption)
    have hiP : P.length - 1 - i < P.length := by omega
    have hp := hP.up (more := jk) |>.2 _ hiP
    have hpok := hok _ (getD_mem hiP)
    have hs := Smn.one hpok
    have o := hs.once h3 (U := Us) ⟨hU.1, fun p hp => by rw [List.mem_singleton.mp hp]; exact hU.2 _ (getD_mem hiP)⟩ ⟨hU.1, fun p hp => hU.2 p (List.mem_of_mem_drop hp)⟩
    have hj := hs.join h3
    have hl60 := hs.len (U := Us) ⟨hU.1, fun p hp => by rw [List.mem_singleton.mp hp]; exact hU.2 _ (getD_mem hiP)⟩
    have ed : [P.getD (P.length - 1 - i) []] ++ P.drop (P.length - i) = P.drop (P.length - (i + 1)) := by
      rw [show P.length - (i + 1) = P.length - 1 - i from by (clear hl60 hj o hs hpok hp hiP hi h4 h3 h2 h1 hk1000 hlen q h10 hne hU hok hP hl hA c_joined H S bl gl; lia), drop_getD hiP, show P.length - 1 - i + 1 = P.length - i from by (clear hl60 hj o hs hpok hp hiP hi h4 h3 h2 h1 hk1000 hlen q h10 hne hU hok hP hl hA c_joined H S bl gl; lia)]; rfl
    rw [ed] at hj
    with_reducible (refine X_let ?_; refine E_cf (by assumption) (AOk.le (by assumption) (by decide)) ?_; refine Es_cons ?_; refine E_bi (Blt.dict_ (by assumption)) (by first | exact Keep.builtin _ | exact Keep.type _) ?_; refine Es_cons ?_; refine E_sub ?_; refine E_nm ?_; refine LQ_there (by decide +kernel) ?_; refine LQ_there (by decide +kernel) ?_; refine LQ_here ?_; refine E_bin ?_; refine E_bin ?_; refine E_bi (Blt.len_ (by assumption)) (by first | exact Keep.builtin _ | exact Keep.type _) ?_; refine Es_cons ?_; refine E_nm ?_; refine LQ_there (by decide +kernel) ?_; refine LQ_there (by decide +kernel) ?_; refine LQ_here ?_; refine Es_nil ?_)
    refine C_len_refs (up_at hl) hk1000 ?_
    rw [hlen]
    with_reducible (refine E_int ?_; refine O_sub ?_; refine E_nm ?_; refine LQ_here ?_; refine O_sub ?_)
    refine S_refs (up_at hl) (n := P.length - 1 - i) (by omega) (by rw [hlen]; exact hiP) hk1000 ?_
    generalize P.getD (P.length - 1 - i) [] = p at *
    with_reducible (refine Es_nil ?_)
    refine C_dict_copy hp (small_size (by rw [pgE_length]; (exact Nat.le_trans (by assumption) (by decide)))) ?_
    with_reducible (refine Es_cons ?_; refine E_nm ?_; refine LQ_there (by decide +kernel) ?_; refine LQ_here ?_; refine Es_nil ?_)
    refine ⟨_, _, _, _, _, _, at_end, up_at h2, o, rfl, ?_⟩
    with_reducible (refine X_nil ?_)
    refine TJ_next (jk ++ [.dict (pgE p) none] ++ [.dict (pgE (joins p F)) none], (σ ++ jk ++ [AObj.dict (pgE p) none]).length, joins p F) ⟨by simp <;> omega, ?_, hj, fun _ => joins_sort _ _⟩ (by simp) trivial (by with_reducible (refine Sub.cons ?_; refine LQ_here ?_; refine ⟨rfl, ?_⟩; refine Sub.cons ?_; refine LQ_there (by decide +kernel) ?_; refine LQ_there (by decide +kernel) ?_; refine LQ_there (by decide +kernel) ?_; refine LQ_here ?_; refine ⟨rfl, ?_⟩; exact Sub.nil))
    have := at_end (σ := σ ++ jk ++ [AObj.dict (pgE p) none]) (ob := AObj.dict (pgE (joins p F)) none)
    rw [← List.append_assoc, ← List.append_assoc]; exact this
  · rintro ⟨jk, kf, F⟩ ⟨h1, h2, h3, h4⟩ -
    dsimp only at h1 h2 h3 h4 ⊢
    rw [show ((P.length : Int) - 0).toNat = P.length from by (clear h4 h3 h2 h1 hk1000 hlen q h10 hne hU hok hP hl hA c_joined H S bl gl; lia), Nat.sub_self, List.drop_zero] at h3
    with_reducible (refine X_ret ?_; refine E_nm ?_; refine LQ_here ?_)
    exact R_any h1 h2 (pgE_lt _ _) (q F h3 (h4 (by have := List.length_pos_iff.mpr hne; (assumption))))

theorem good_pages : Good (dr pw_uf050040_14 36) ["_law_script", "_law_size"] :=
  ⟨fun pm code doc vals h => (by obtain ⟨a, b, rfl⟩ := len_2 h; rfl), by decide +kernel, by decide +kernel, by decide +kernel, rfl, rfl, rfl⟩
theorem cf_pages (gl : Gl B mg mb) (bl : Blt B mg mb) (S : Scr B scr nums) (H : HasF B mg (dr pw_uf050040_14 36))
    (c_cell_at : CF prog w B mg "_law_cell_at" 1 (fun xs σ Q X => ∃ k, xs = [.raw (.ref scr), .int k] ∧ 0 ≤ k ∧ Q (.int (cellAt nums k)) σ))
    (c_near_by : CF prog w B mg "_law_near_by" 3 (fun xs σ Q X => ∃ k p e c, σ[k]? = some (.dict (pgE p) e) ∧ PgOk6 p ∧ p.length ≤ 200 ∧ xs = [.ref k, .int c] ∧ ∀ other : Pg, PgOk6 other → other.length ≤ p.length + (p.length + 2) / 3 → Q (.ref σ.length) (σ ++ [.dict (pgE other) none])))
    (c_page_by : CF prog w B mg "_law_page_by" 3 (fun xs σ Q X => ∃ a b n, xs = [.int a, .int b, .int n] ∧ (0 ≤ n ∧ n ≤ 200) ∧ ∀ page : Pg, PgOk6 page → (page.length : Int) ≤ n → Q (.ref σ.length) (σ ++ [.dict (pgE page) none]))) :
    CF prog w B mg "_law_pages" 5 (fun xs σ Q X => ∃ n, xs = [.raw (.ref scr), .int n] ∧ (3 ≤ n ∧ n ≤ 6) ∧ ∀ τ ks P, τ[σ.length]? = some (.list (ks.map V.ref)) → Pages τ ks P → P.length = n.toNat → (∀ i, i < P.length → (P.getD i []).length ≤ bnd i) → (∀ p ∈ P, PgOk6 p ∧ zz ∉ names p) → Q (.ref σ.length) τ) := by
  refine CF_of gl H good_pages ?_
  rintro A pm code doc L a₀ _ σ Q X hA ⟨n, rfl, ⟨hn3, hn6⟩, q⟩
  refine ⟨rfl, ?_⟩
  change WX _ _ _ _ _ (_ :: _) ((_, _) :: (_, _) :: []) _ _ _

  with_reducible (refine X_let ?_; refine E_list ?_; refine Es_nil ?_; refine And.intro (by first | omega | with_unfolding_all exact Nat.le_of_ble_eq_true rfl) ?_)
  refine X_fors ?_
  with_reducible (refine E_bi (Blt.range_ (by assumption)) (by first | exact Keep.builtin _ | exact Keep.type _) ?_; refine Es_cons ?_; refine E_nm ?_; refine LQ_there (by decide +kernel) ?_; refine LQ_there (by decide +kernel) ?_; refine LQ_here ?_; refine Es_nil ?_; refine C_range1 ?_)
  refine ForG.mk (ι := List AObj × List Nat × List Pg) (fun i g => g.1[σ.length]? = some (.list (g.2.1.map V.ref)) ∧ Pages g.1 g.2.1 g.2.2 ∧ g.2.2.length = i ∧ (∀ i, i < g.2.2.length → (g.2.2.getD i []).length ≤ bnd i) ∧ ∀ p ∈ g.2.2, PgOk6 p ∧ zz ∉ names p) (fun _ g => [("_law_pages_here", .ref σ.length), ("_law_script", .raw (.ref scr))]) (fun _ g => g.1) (It_range hA.handled (by (exact Int.natCast_nonneg _)) (by (exact Int.natCast_nonneg _)) (by (clear hn6 q hA c_page_by c_near_by c_cell_at H S bl gl; lia)) (by (clear hn3 q hA c_page_by c_near_by c_cell_at H S bl gl; lia))) (σ ++ [.list []], [], []) ⟨at_end, Pages.nil _, rfl, fun i h => absurd h (Nat.not_lt_zero _), fun _ h => (nomatch h)⟩ rfl trivial (by with_reducible (refine Sub.cons ?_; refine LQ_here ?_; refine ⟨rfl, ?_⟩; refine Sub.cons ?_; refine LQ_there (by decide +kernel) ?_; refine LQ_here ?_; refine ⟨rfl, ?_⟩; exact Sub.nil)) ?_ ?_
  · rintro i ⟨τ, ks, P⟩ hi ⟨h1, h2, h3, h4, h5⟩ -
    dsimp only at h1 h2 h3 h4 h5 ⊢
    have hks := h2.1
    have hi6 : i < 6 := by (clear hks h5 h4 h3 h2 h1 hn3 q hA c_page_by c_near_by c_cell_at H S bl gl; lia)
    have hlt := at_len h1
    with_reducible (refine X_let ?_; refine E_cf (by assumption) (AOk.le (by assumption) (by decide)) ?_; refine Es_cons ?_; refine E_nm ?_; refine LQ_there (by decide +kernel) ?_; refine LQ_there (by decide +kernel) ?_; refine LQ_here ?_; refine Es_cons ?_; refine E_bin ?_; refine E_int ?_; refine E_nm ?_; refine LQ_here ?_; refine O_add ?_; refine Es_nil ?_; refine ⟨_, rfl, ?_⟩; refine And.intro (by first | (clear hlt hi6 hks h5 h4 h3 h2 h1 hi hn6 hn3 q hA c_page_by c_near_by c_cell_at H S bl gl; lia) | with_unfolding_all exact Nat.le_of_ble_eq_true rfl) ?_)
    generalize cellAt nums (2 + (0 + (i : Int))) = c
    refine X_ifj (ι := Pg) (fun p => PgOk6 p ∧ p.length ≤ bnd i ∧ p.length ≤ 200) (fun p => [("_law_page", .ref τ.length), ("_law_k", .int (0 + (i : Int))), ("_law_pages_here", .ref σ.length), ("_law_script", .raw (.ref scr))]) (fun p => τ ++ [.dict (pgE p) none]) ?_ ?_
    · refine T_as (decide (0 < i ∧ c % 2 = 1)) ?_ ?_
      · with_reducible (refine T_bool ?_; refine Ts_and ?_; refine T_cmp1 ?_; refine E_nm ?_; refine LQ_there (by decide +kernel) ?_; refine LQ_here ?_; refine E_int ?_; refine O_gt ?_; refine T_b ?_)
        refine iteD (fun h => ?_) (fun h => ?_)
        · with_reducible (refine Ts_and ?_; refine T_cmp1 ?_; refine E_bin ?_; refine E_nm ?_; refine LQ_here ?_; refine E_int ?_; refine O_mod ?_ (by (decide)); refine E_int ?_; refine O_eq ?_; refine T_b ?_)
          refine iteD (fun h' => ?_) (fun h' => ?_)
          · with_reducible (refine Ts_and_nil ?_)
            exact ⟨by symm; exact decide_eq_true ⟨by (clear h' hlt hi6 hks h5 h4 h3 h2 h1 hi hn6 hn3 q hA c_page_by c_near_by c_cell_at H S bl gl; lia), h'⟩, rfl⟩
          · skip
            exact ⟨by symm; exact decide_eq_false fun h => h' h.2, rfl⟩
        · skip
          exact ⟨by symm; exact decide_eq_false fun h' => h (by (clear h hlt hi6 hks h5 h4 h3 h2 h1 hi hn6 hn3 q hA c_page_by c_near_by c_cell_at H S bl gl; lia)), rfl⟩
      refine iteD (fun h => ?_) (fun h => ?_)
      · with_reducible (refine X_let ?_; refine E_cf (by assumption) (AOk.le (by assumption) (by decide)) ?_; refine Es_cons ?_; refine E_sub ?_; refine E_nm ?_; refine LQ_there (by decide +kernel) ?_; refine LQ_there (by decide +kernel) ?_; refine LQ_here ?_; refine E_bin ?_; refine E_nm ?_; refine LQ_there (by decide +kernel) ?_; refine LQ_here ?_; refine E_int ?_; refine O_sub ?_)
        obtain ⟨m, rfl⟩ : ∃ m, i = m + 1 := ⟨i - 1, by (clear hlt hi6 hks h5 h4 h3 h2 h1 hi hn6 hn3 q hA c_page_by c_near_by c_cell_at H S bl gl; lia)⟩
        refine S_refs h1 (n := m) (by (clear h hi6 h3 hi hlt hks h5 h4 h2 h1 hn6 hn3 q hA c_page_by c_near_by c_cell_at H S bl gl; lia)) (by (clear h hi6 hi hlt h5 h4 h2 h1 hn6 hn3 q hA c_page_by c_near_by c_cell_at H S bl gl; lia)) (by omega) ?_
        have hp := h2.2 m (by (clear h hi6 hi hlt hks h5 h4 h2 h1 hn6 hn3 q hA c_page_by c_near_by c_cell_at H S bl gl; lia))
        have hok := h5 _ (getD_mem (P := P) (i := m) (by (clear hp h hi6 hi hlt hks h5 h4 h2 h1 hn6 hn3 q hA c_page_by c_near_by c_cell_at H S bl gl; lia)))
        have hb := h4 m (by (clear hok hp h hi6 hi hlt hks h5 h4 h2 h1 hn6 hn3 q hA c_page_by c_near_by c_cell_at H S bl gl; lia))
        have hbm : bnd m ≤ 15 := by
          have : m = 0 ∨ m = 1 ∨ m = 2 ∨ m = 3 ∨ m = 4 := by (clear hb hok hp h hi6 h3 hlt hks h5 h4 h2 h1 hn3 q hA c_page_by c_near_by c_cell_at H S bl gl; lia)
          rcases this with rfl | rfl | rfl | rfl | rfl <;> decide
        with_reducible (refine Es_cons ?_; refine E_bin ?_; refine E_nm ?_; refine LQ_here ?_; refine E_int ?_; refine O_div ?_ (by (decide)) (by decide +kernel); refine Es_nil ?_)
        refine ⟨_, _, _, _, hp, hok.1, by (clear hok hp h hi6 h3 hi hlt hks h5 h4 h2 h1 hn6 hn3 q hA c_page_by c_near_by c_cell_at H S bl gl; lia), rfl, fun other o1 o2 => ?_⟩
        with_reducible (refine X_nil ?_)
        exact J_next other ⟨o1, by simp only [bnd]; (clear o1 hbm hok hp h hi6 h3 hi hlt hks h5 h4 h2 h1 hn6 hn3 q hA c_page_by c_near_by c_cell_at H S bl gl; lia), by (clear o1 hok hp h hi6 h3 hi hlt hks h5 h4 h2 h1 hn6 hn3 q hA c_page_by c_near_by c_cell_at H S bl gl; lia)⟩ rfl (by with_reducible (refine Sub.cons ?_; refine LQ_here ?_; refine ⟨rfl, ?_⟩; refine Sub.cons ?_; refine LQ_there (by decide +kernel) ?_; refine LQ_there (by decide +kernel) ?_; refine LQ_here ?_; refine ⟨rfl, ?_⟩; refine Sub.cons ?_; refine LQ_there (by decide +kernel) ?_; refine LQ_there (by decide +kernel) ?_; refine LQ_there (by decide +kernel) ?_; refine LQ_here ?_; refine ⟨rfl, ?_⟩; refine Sub.cons ?_; refine LQ_there (by decide +kernel) ?_; refine LQ_there (by decide +kernel) ?_; refine LQ_there (by decide +kernel) ?_; refine LQ_there (by decide +kernel) ?_; refine LQ_here ?_; refine ⟨rfl, ?_⟩; exact Sub.nil))
      · with_reducible (refine X_let ?_; refine E_cf (by assumption) (AOk.le (by assumption) (by decide)) ?_; refine Es_cons ?_; refine E_bin ?_; refine E_nm ?_; refine LQ_here ?_; refine E_int ?_; refine O_div ?_ (by (decide)) (by decide +kernel); refine Es_cons ?_; refine E_bin ?_; refine E_bin ?_; refine E_nm ?_; refine LQ_here ?_; refine E_int ?_; refine O_div ?_ (by (decide)) (by decide +kernel); refine E_bin ?_; refine E_int ?_; refine E_nm ?_; refine LQ_there (by decide +kernel) ?_; refine LQ_here ?_; refine O_mul ?_ (by first | exact .inl (by (decide)) | exact .inr (by omega)); refine O_add ?_; refine Es_cons ?_; refine E_bin ?_; refine E_bin ?_; refine E_nm ?_; refine LQ_here ?_; refine E_int ?_; refine O_div ?_ (by (decide)) (by decide +kernel); refine E_int ?_; refine O_mod ?_ (by (decide)); refine Es_nil ?_; refine ⟨_, _, _, rfl, ?_⟩; refine And.intro (by first | (clear h hlt hi6 hks h5 h4 h3 h2 h1 hi hn6 hn3 q hA c_page_by c_near_by c_cell_at H S bl gl; lia) | with_unfolding_all exact Nat.le_of_ble_eq_true rfl) ?_)
        refine fun page o1 o2 => ?_
        have hb := bnd_ge i
        with_reducible (refine X_nil ?_)
        exact J_next page ⟨o1, by (clear o1 h hlt hi6 hks h5 h4 h3 h2 h1 hi hn6 hn3 q hA c_page_by c_near_by c_cell_at H S bl gl; lia), by (clear hb o1 h hlt hi6 hks h5 h4 h3 h2 h1 hi hn6 hn3 q hA c_page_by c_near_by c_cell_at H S bl gl; lia)⟩ rfl (by with_reducible (refine Sub.cons ?_; refine LQ_here ?_; refine ⟨rfl, ?_⟩; refine Sub.cons ?_; refine LQ_there (by decide +kernel) ?_; refine LQ_there (by decide +kernel) ?_; refine LQ_here ?_; refine ⟨rfl, ?_⟩; refine Sub.cons ?_; refine LQ_there (by decide +kernel) ?_; refine LQ_there (by decide +kernel) ?_; refine LQ_there (by decide +kernel) ?_; refine LQ_here ?_; refine ⟨rfl, ?_⟩; refine Sub.cons ?_; refine LQ_there (by decide +kernel) ?_; refine LQ_there (by decide +kernel) ?_; refine LQ_there (by decide +kernel) ?_; refine LQ_there (by decide +kernel) ?_; refine LQ_here ?_; refine ⟨rfl, ?_⟩; exact Sub.nil))
    rintro p ⟨okp, hpb, hp200⟩
    try dsimp only at okp hpb hp200 ⊢
    have hk : (τ ++ [AObj.dict (pgE p) none])[τ.length]? = some (.dict (pgE p) none) := at_end
    generalize hT : τ ++ [AObj.dict (pgE p) none] = T at hk
    have h1T : T[σ.length]? = some (.list (ks.map V.ref)) := by rw [← hT]; exact up_at h1
    have h2T : Pages T ks P := by rw [← hT]; exact h2.up
    have hkl := at_len hk
    with_reducible (refine X_let ?_; refine E_dict0 ?_)
    refine X_ford (ι := Pg) (fun i g => g = (p.take i).filter (fun r => decide (r.1 ≠ zz))) (fun _ _ => [("_law_fresh", .ref T.length), ("_law_page", .ref τ.length), ("_law_pages_here", .ref σ.length), ("_law_script", .raw (.ref scr))]) (fun _ g => T ++ [.dict (pgE g) none]) [] hA.handled (up_at hk) (fun ep => ?_) rfl rfl (by with_reducible (refine Sub.cons ?_; refine LQ_here ?_; refine ⟨rfl, ?_⟩; refine Sub.cons ?_; refine LQ_there (by decide +kernel) ?_; refine LQ_here ?_; refine ⟨rfl, ?_⟩; refine Sub.cons ?_; refine LQ_there (by decide +kernel) ?_; refine LQ_there (by decide +kernel) ?_; refine LQ_there (by decide +kernel) ?_; refine LQ_here ?_; refine ⟨rfl, ?_⟩; refine Sub.cons ?_; refine LQ_there (by decide +kernel) ?_; refine LQ_there (by decide +kernel) ?_; refine LQ_there (by decide +kernel) ?_; refine LQ_there (by decide +kernel) ?_; refine LQ_here ?_; refine ⟨rfl, ?_⟩; exact Sub.nil)) (fun _ _ _ => up_at hk) ?_ ?_
    · with_reducible (refine E_nm ?_; refine LQ_there (by decide +kernel) ?_; refine LQ_here ?_; refine ⟨rfl, ?_⟩)
      first | exact ⟨rfl, rfl⟩ | rfl
    · rintro ep i' g hi' hD
      rw [pgE_length] at hi'
      rw [keyAt_pg hi']
      have hat := at_pg_get okp.1 hi'
      have hgl : g.length ≤ i' := by
        rw [hD]
        refine Nat.le_trans (List.length_filter_le _ _) ?_
        rw [List.length_take]; (clear hat hD hi' hkl h2T h1T hk hT hp200 hpb okp hlt hi6 hks h5 h4 h3 h2 h1 hi hn6 hn3 q hA c_page_by c_near_by c_cell_at H S bl gl; lia)
      have hstep : (p.take (i' + 1)).filter (fun r => decide (r.1 ≠ zz)) = g ++ if decide (p[i'].1 ≠ zz) then [p[i']] else [] := by
        rw [List.take_add_one, List.getElem?_eq_getElem hi', List.filter_append, ← hD]
        simp only [Option.toList_some, List.filter_cons, List.filter_nil]
      have hfresh : p[i'].1 ∉ names g := fun hm => by
        obtain ⟨x, hx, hxe⟩ := List.mem_map.mp hm
        rw [hD] at hx
        obtain ⟨m, hm', em⟩ := List.mem_iff_getElem.mp (List.mem_filter.mp hx).1
        rw [List.getElem_take] at em
        rw [List.length_take] at hm'
        have h1 := List.pairwise_iff_getElem.mp okp.1 m i' (by simp [names]; (clear em hxe hx hm hstep hgl hat hD hi' hkl h2T h1T hk hT hp200 hpb okp hlt hi6 hks h5 h4 h3 h2 h1 hi hn6 hn3 q hA c_page_by c_near_by c_cell_at H S bl gl; lia)) (by simpa [names] using hi') (by (clear em hxe hx hm hstep hgl hat hD hi' hkl h2T h1T hk hT hp200 hpb okp hlt hi6 hks h5 h4 h3 h2 h1 hi hn6 hn3 q hA c_page_by c_near_by c_cell_at H S bl gl; lia))
        simp only [names, List.getElem_map] at h1
        exact h1 (by rw [em]; exact hxe)
      generalize p[i'] = x at *
      obtain ⟨n, v⟩ := x
      dsimp only at *
      have hup : (pin (T ++ [AObj.dict (pgE g) none]) τ.length (pgE p) ep)[τ.length]? = some (.dict (pgE p) (some ep)) := pin_at (up_at hk)
      refine X_ifs ?_
      with_reducible (refine T_cmp1 ?_; refine E_nm ?_; refine LQ_here ?_; refine E_str ?_; refine O_nes ?_; refine T_b ?_)
      refine iteDn (fun hb => ?_) (fun hb => ?_)
      · with_reducible (refine X_set ?_; refine E_sub ?_; refine E_nm ?_; refine LQ_there (by decide +kernel) ?_; refine LQ_there (by decide +kernel) ?_; refine LQ_here ?_; refine E_nm ?_; refine LQ_here ?_)
        refine S_dict (key := .s _) hup hat ?_
        with_reducible (refine E_nm ?_; refine LQ_there (by decide +kernel) ?_; refine LQ_here ?_; refine E_nm ?_; refine LQ_here ?_)
        refine P_dict (key := .s n) (pin_end_at hkl) (small_size (by rw [pgE_length]; (clear hb hup hfresh hstep hat hD hkl h2T h1T hk hT hpb okp hlt hi6 hks h5 h4 h3 h2 h1 hi hn6 hn3 q hA c_page_by c_near_by c_cell_at H S bl gl; lia))) ?_
        rw [pin_end_set hkl, put_pg]
        with_reducible (refine X_nil ?_; refine sq_next ?_; refine X_nil ?_)
        refine TD_next (pput g n v) ?_ rfl (by with_reducible (refine Sub.cons ?_; refine LQ_there (by decide +kernel) ?_; refine LQ_here ?_; refine ⟨rfl, ?_⟩; refine Sub.cons ?_; refine LQ_there (by decide +kernel) ?_; refine LQ_there (by decide +kernel) ?_; refine LQ_here ?_; refine ⟨rfl, ?_⟩; refine Sub.cons ?_; refine LQ_there (by decide +kernel) ?_; refine LQ_there (by decide +kernel) ?_; refine LQ_there (by decide +kernel) ?_; refine LQ_here ?_; refine ⟨rfl, ?_⟩; refine Sub.cons ?_; refine LQ_there (by decide +kernel) ?_; refine LQ_there (by decide +kernel) ?_; refine LQ_there (by decide +kernel) ?_; refine LQ_there (by decide +kernel) ?_; refine LQ_here ?_; refine ⟨rfl, ?_⟩; exact Sub.nil))
        rw [hstep, if_pos (decide_eq_true hb)]
        exact pput_fresh hfresh
      · with_reducible (refine X_nil ?_; refine sq_next ?_; refine X_nil ?_)
        exact TD_next g (by rw [hstep, if_neg (by simpa using hb)]; simp) rfl (by with_reducible (refine Sub.cons ?_; refine LQ_there (by decide +kernel) ?_; refine LQ_here ?_; refine ⟨rfl, ?_⟩; refine Sub.cons ?_; refine LQ_there (by decide +kernel) ?_; refine LQ_there (by decide +kernel) ?_; refine LQ_here ?_; refine ⟨rfl, ?_⟩; refine Sub.cons ?_; refine LQ_there (by decide +kernel) ?_; refine LQ_there (by decide +kernel) ?_; refine LQ_there (by decide +kernel) ?_; refine LQ_here ?_; refine ⟨rfl, ?_⟩; refine Sub.cons ?_; refine LQ_there (by decide +kernel) ?_; refine LQ_there (by decide +kernel) ?_; refine LQ_there (by decide +kernel) ?_; refine LQ_there (by decide +kernel) ?_; refine LQ_here ?_; refine ⟨rfl, ?_⟩; exact Sub.nil))
    · rintro g hD
      rw [pgE_length, List.take_length] at hD
      have hg : g = noz p := hD
      clear hD
      subst hg
      with_reducible (refine X_do ?_; refine E_mcall (name := Str.ofString "append") (id := "list.append") ?_; refine E_nm ?_; refine LQ_there (by decide +kernel) ?_; refine LQ_there (by decide +kernel) ?_; refine LQ_here ?_)
      refine ⟨GM_list (up_at h1T) F.slot_list_append F.type_list_append, ?_⟩
      with_reducible (refine Es_cons ?_; refine E_nm ?_; refine LQ_here ?_; refine Es_nil ?_)
      refine C_append (up_at h1T) (small_size (by rw [List.length_map]; omega)) ?_
      with_reducible (refine X_nil ?_)
      have hne : σ.length ≠ T.length := fun e => by have := at_len h1T; (clear this h2T h1T hk hT hp200 hpb okp hi6 hks h5 h4 h3 h2 h1 hi hn6 hn3 q hA c_page_by c_near_by c_cell_at H S bl gl; lia)
      refine TJ_next (_, ks ++ [T.length], P ++ [noz p]) ⟨?_, ?_, by simp [h3], fun j hj => ?_, fun r hr => ?_⟩ rfl trivial (by with_reducible (refine Sub.cons ?_; refine LQ_there (by decide +kernel) ?_; refine LQ_there (by decide +kernel) ?_; refine LQ_here ?_; refine ⟨rfl, ?_⟩; refine Sub.cons ?_; refine LQ_there (by decide +kernel) ?_; refine LQ_there (by decide +kernel) ?_; refine LQ_there (by decide +kernel) ?_; refine LQ_here ?_; refine ⟨rfl, ?_⟩; exact Sub.nil))
      · rw [List.map_append]; exact List.getElem?_set_self (at_len (up_at h1T))
      · refine (h2T.up.setList (up_at h1T)).snoc ?_
        rw [List.getElem?_set_ne hne]; exact at_end
      · rw [List.length_append, List.length_singleton] at hj
        by_cases h : j < P.length
        · rw [snoc_lt h]; exact h4 j h
        · rw [snoc_eq (by (clear hne hkl h2T h1T hk hT hp200 hpb okp hlt hi6 hks h5 h4 h3 h2 h1 hi hn6 hn3 q hA c_page_by c_near_by c_cell_at H S bl gl; lia))]
          have : j = i := by (clear hne hkl h2T h1T hk hT hp200 hpb okp hlt hi6 hks h5 h4 h2 h1 hi hn6 hn3 q hA c_page_by c_near_by c_cell_at H S bl gl; lia)
          subst this
          exact Nat.le_trans (noz_len p) hpb
      · rcases List.mem_append.mp hr with hr | hr
        · exact h5 r hr
        · rw [List.mem_singleton.mp hr]; exact ⟨filter_ok6 _ okp, noz_zz p⟩
  · rintro ⟨τ, ks, P⟩ ⟨h1, h2, h3, h4, h5⟩ -
    with_reducible (refine X_ret ?_; refine E_nm ?_; refine LQ_here ?_)
    exact R_all (q τ ks P h1 h2 (by dsimp only at h3; (clear h5 h4 h2 h1 hn6 hn3 q hA c_page_by c_near_by c_cell_at H S bl gl; lia)) h4 h5)

theorem good_halves : Good (dr pw_uf050040_14 39) ["_law_pages_here"] :=
  ⟨fun pm code doc vals h => (by obtain ⟨a, rfl⟩ := len_1 h; rfl), by decide +kernel, by decide +kernel, by decide +kernel, rfl, rfl, rfl⟩
theorem cf_halves (gl : Gl B mg mb) (bl : Blt B mg mb) (S : Scr B scr nums) (H : HasF B mg (dr pw_uf050040_14 39))
    (c_joined : CF prog w B mg "joined" 3 (fun xs σ Q X => ∃ j k p r e e', σ[j]? = some (.dict (pgE p) e) ∧ σ[k]? = some (.dict (pgE r) e') ∧ (p.length + r.length ≤ 1000 ∧ (onceS (names p ++ names r)).length ≤ 60) ∧ xs = [.ref j, .ref k] ∧ Q (.ref σ.length) (σ ++ [.dict (pgE (joins p r)) none]))) :
    CF prog w B mg "_law_halves" 4 (fun xs σ Q X => ∃ kl ks P Us, xs = [.ref kl] ∧ σ[kl]? = some (.list (ks.map V.ref)) ∧ Pages σ ks P ∧ (∀ p ∈ P, PgOk p) ∧ Und Us P ∧ 1 < P.length ∧ P.length ≤ 10 ∧ ∀ F, Smn F P → SortP F → Q (.ref σ.length) (σ ++ [.dict (pgE F) none])) := by
  refine CF_of gl H good_halves ?_
  rintro A pm code doc L a₀ _ σ Q X hA ⟨kl, ks, P, Us, rfl, hl, hP, hok, hU, hne, h10, q⟩
  refine ⟨rfl, ?_⟩
  change WX _ _ _ _ _ (_ :: _) ((_, _) :: []) _ _ _

  have hlen := hP.1
  refine X_compg [] (by kernel_rfl!) Sub.nil (by kernel_rfl!) env_apart ?_
  with_reducible (refine E_nm ?_; refine LQ_here ?_)
  refine ⟨σ, _, _, _, fun i τ => ∃ ks', σ <+: τ ∧ Row σ.length τ σ.length ks' (P.take i) ((P.take i).map fun p => [p]), It_list hA.handled hl, up_at hl, ⟨[], ⟨_, rfl⟩, Row.nil at_end⟩, ?_, ?_⟩
  · rintro D i τ hi hC ⟨ks', hpre, R⟩
    rw [List.length_map] at hi
    rw [refs_getD hi]
    have hiP : i < P.length := by (clear R hpre hC q h10 hne hU hok hP hl hA c_joined H S bl gl; lia)
    have hp := pre_old hpre (hP.2 i hiP)
    have hpok := hok _ (getD_mem hiP)
    have hl60 := (Smn.one hpok).len (U := Us) ⟨hU.1, fun p hp => by rw [List.mem_singleton.mp hp]; exact hU.2 _ (getD_mem hiP)⟩
    have hle : σ.length ≤ τ.length := hpre.length_le
    with_reducible (refine E_bi (Blt.dict_ (by assumption)) (by first | exact Keep.builtin _ | exact Keep.type _) ?_; refine Es_cons ?_; refine E_nm ?_; refine LQ_here ?_; refine Es_nil ?_)
    refine C_dict_copy hp (small_size (by rw [pgE_length]; (exact Nat.le_trans (by assumption) (by decide)))) ?_
    have R' := R.up (more := [.dict (pgE (P.getD i [])) none]) |>.push (at_end (σ := τ)) hle (Smn.one hpok)
    refine ⟨_, up_at R.at_, small_size (by rw [List.length_map, R.pgs.1, List.length_take]; (clear R' hle hl60 hpok hp hiP R hpre hC hi hlen q hne hU hok hP hl hA c_joined H S bl gl; lia)), ?_, ks' ++ [τ.length], pre_set (pre_up hpre) (Nat.le_refl _), ?_⟩
    · rw [List.getElem?_set_ne (Nat.ne_of_gt (at_len hl))]; exact up_at hC
    · rw [take_succ_getD hiP, List.map_append]; exact R'
  rintro τ hC ⟨ks', hpre, R⟩
  rw [List.length_map, hlen, List.take_length] at R
  have hfl : ∀ Q : List Pg, (Q.map fun p => [p]).flatten = Q := fun Q => by induction Q with
    | nil => rfl
    | cons a r ih => simp [ih]
  refine X_while (ι := List AObj × Nat × List Nat × List Pg × List (List Pg)) (fun n g => n = g.2.2.2.1.length ∧ σ <+: g.1 ∧ Row σ.length g.1 g.2.1 g.2.2.1 g.2.2.2.1 g.2.2.2.2 ∧ g.2.2.2.2.flatten = P ∧ (1 ≤ n ∧ n ≤ 10) ∧ (1 < n ∨ SortP (g.2.2.2.1.getD 0 []))) (fun g => [("_law_row", .ref g.2.1)]) (fun g => g.1) P.length (τ, σ.length, ks', P, _) ⟨rfl, hpre, R, hfl P, by (clear hfl R hpre hC hlen q hU hok hP hl hA c_joined H S bl gl; lia), .inl hne⟩ rfl (by with_reducible (refine Sub.cons ?_; refine LQ_here ?_; refine ⟨rfl, ?_⟩; exact Sub.nil)) ?_
  clear hC R hpre
  rintro n ⟨τ, kr, ks', Gs, Ls⟩ ⟨hn, hpre, R, hf, hn10, hs⟩
  dsimp only at hn hpre R hf hn10 hs ⊢
  have hkl := R.pgs.1
  have hLl := R.len
  have hk1000 : ks'.length ≤ 1000 := by (clear hLl hs hf R hpre hfl hlen q h10 hne hU hok hP hl hA c_joined H S bl gl; lia)
  with_reducible (refine T_cmp1 ?_; refine E_bi (Blt.len_ (by assumption)) (by first | exact Keep.builtin _ | exact Keep.type _) ?_; refine Es_cons ?_; refine E_nm ?_; refine LQ_here ?_; refine Es_nil ?_)
  refine C_len_refs R.at_ hk1000 ?_
  rw [hkl]
  with_reducible (refine E_int ?_; refine O_gt ?_; refine T_b ?_)
  refine iteD (fun h => ?_) (fun h => ?_)
  · have hkr := at_len R.at_
    have hle : σ.length ≤ τ.length := hpre.length_le
    with_reducible (refine X_let ?_; refine E_list ?_; refine Es_nil ?_; refine And.intro (by first | omega | with_unfolding_all exact Nat.le_of_ble_eq_true rfl) ?_)
    refine X_fors ?_
    with_reducible (refine E_bi (Blt.range_ (by assumption)) (by first | exact Keep.builtin _ | exact Keep.type _) ?_; refine Es_cons ?_; refine E_int ?_; refine Es_cons ?_; refine E_bin ?_; refine E_bi (Blt.len_ (by assumption)) (by first | exact Keep.builtin _ | exact Keep.type _) ?_; refine Es_cons ?_; refine E_nm ?_; refine LQ_there (by decide +kernel) ?_; refine LQ_here ?_; refine Es_nil ?_)
    refine C_len_refs (up_at R.at_) hk1000 ?_
    rw [hkl]
    with_reducible (refine E_int ?_; refine O_sub ?_; refine Es_cons ?_; refine E_int ?_; refine Es_nil ?_)
    refine C_range3 ?_
    refine ForG.mk (ι := List AObj × List Nat × List Pg × List (List Pg)) (fun i g => σ <+: g.1 ∧ Row σ.length g.1 kr ks' Gs Ls ∧ Row σ.length g.1 τ.length g.2.1 g.2.2.1 g.2.2.2 ∧ g.2.2.1.length = i ∧ g.2.2.2.flatten = (Ls.take (2 * i)).flatten ∧ (0 < i → SortP (g.2.2.1.getD 0 []))) (fun _ _ => [("_law_fresh", .ref τ.length), ("_law_row", .ref kr)]) (fun _ g => g.1) (It_range2 hA.handled (by (clear hle hkr h hk1000 hLl hkl hs hf R hpre hfl hlen q h10 hne hU hok hP hl hA c_joined H S bl gl; lia)) (by (clear hle hkr h hk1000 hLl hkl hs hf R hpre hfl hlen q h10 hne hU hok hP hl hA c_joined H S bl gl; lia))) (τ ++ [.list []], [], [], []) ⟨pre_up hpre, R.up, Row.nil at_end, rfl, rfl, fun h => absurd h (by decide)⟩ rfl trivial (by with_reducible (refine Sub.cons ?_; refine LQ_here ?_; refine ⟨rfl, ?_⟩; refine Sub.cons ?_; refine LQ_there (by decide +kernel) ?_; refine LQ_here ?_; refine ⟨rfl, ?_⟩; exact Sub.nil)) ?_ ?_
    · rintro i ⟨υ, fk, FG, FL⟩ hi ⟨p1, R1, R2, p3, p4, p5⟩ -
      dsimp only at p1 R1 R2 p3 p4 p5 ⊢
      have hi2 : 2 * i + 1 < Gs.length := by (clear p5 p4 p3 R2 R1 p1 hle hkr h hk1000 hLl hkl hs hn10 hf R hpre hn hfl hlen q h10 hne hU hok hP hl hA c_joined H S bl gl; lia)
      have hle2 : σ.length ≤ υ.length := p1.length_le
      have hi1 : 2 * i < Gs.length := Nat.lt_of_succ_lt hi2
      have s1 := R1.smn (2 * i) hi1
      have s2 := R1.smn (2 * i + 1) hi2
      have o := s1.once s2 (flat_und hf hU (by rw [← hLl]; exact hi1)) (flat_und hf hU (by rw [← hLl]; exact hi2))
      with_reducible (refine X_do ?_; refine E_mcall (name := Str.ofString "append") (id := "list.append") ?_; refine E_nm ?_; refine LQ_there (by decide +kernel) ?_; refine LQ_here ?_)
      refine ⟨GM_list R2.at_ F.slot_list_append F.type_list_append, ?_⟩
      with_reducible (refine Es_cons ?_; refine E_cf (by assumption) (AOk.le (by assumption) (by decide)) ?_; refine Es_cons ?_; refine E_sub ?_; refine E_nm ?_; refine LQ_there (by decide +kernel) ?_; refine LQ_there (by decide +kernel) ?_; refine LQ_here ?_; refine E_nm ?_; refine LQ_here ?_)
      refine S_refs R1.at_ (n := 2 * i) (Int.natCast_mul 2 i).symm (by rw [hkl]; exact hi1) hk1000 ?_
      with_reducible (refine Es_cons ?_; refine E_sub ?_; refine E_nm ?_; refine LQ_there (by decide +kernel) ?_; refine LQ_there (by decide +kernel) ?_; refine LQ_here ?_; refine E_bin ?_; refine E_nm ?_; refine LQ_here ?_; refine E_int ?_; refine O_add ?_)
      refine S_refs R1.at_ (n := 2 * i + 1) (by rw [Int.natCast_add, Int.natCast_mul]; rfl) (by rw [hkl]; exact hi2) hk1000 ?_
      with_reducible (refine Es_nil ?_)
      refine ⟨_, _, _, _, _, _, R1.pgs.2 _ hi1, R1.pgs.2 _ hi2, o, rfl, ?_⟩
      with_reducible (refine Es_nil ?_)
      refine C_append (up_at R2.at_) (small_size (by rw [List.length_map, R2.pgs.1]; (clear o s2 s1 hi1 hle2 hi2 p5 p4 R2 R1 p1 hle hkr h hk1000 hLl hkl hs hf R hpre hfl hlen q h10 hne hU hok hP hl hA c_joined H S bl gl; lia))) ?_
      with_reducible (refine X_nil ?_)
      refine TJ_next (_, fk ++ [υ.length], FG ++ [joins (Gs.getD (2 * i) []) (Gs.getD (2 * i + 1) [])], FL ++ [Ls.getD (2 * i) [] ++ Ls.getD (2 * i + 1) []]) ⟨pre_set (pre_up p1) hle, R1.up.other (up_at R2.at_) (Nat.ne_of_gt hkr), R2.up.push at_end hle2 (s1.join s2), by simp [p3], ?_, fun _ => ?_⟩ rfl trivial (by with_reducible (refine Sub.cons ?_; refine LQ_there (by decide +kernel) ?_; refine LQ_here ?_; refine ⟨rfl, ?_⟩; refine Sub.cons ?_; refine LQ_there (by decide +kernel) ?_; refine LQ_there (by decide +kernel) ?_; refine LQ_here ?_; refine ⟨rfl, ?_⟩; exact Sub.nil))
      · rw [take_two (by (clear o s2 s1 hi1 hle2 hi2 p5 p4 p3 R2 R1 p1 hle hkr h hk1000 hkl hs hn10 hf R hpre hn hfl hlen q h10 hne hU hok hP hl hA c_joined H S bl gl; lia)), List.flatten_append, p4]; simp
      · by_cases h0 : 0 < i
        · rw [snoc_lt (by (clear o s2 s1 hi1 hle2 hi2 p5 p4 R2 R1 p1 hi hle hkr h hk1000 hLl hkl hs hn10 hf R hpre hn hfl hlen q h10 hne hU hok hP hl hA c_joined H S bl gl; lia))]; exact p5 h0
        · rw [snoc_eq (by (clear o s2 s1 hi1 hle2 hi2 p5 p4 R2 R1 p1 hi hle hkr h hk1000 hLl hkl hs hn10 hf R hpre hn hfl hlen q h10 hne hU hok hP hl hA c_joined H S bl gl; lia))]; exact joins_sort _ _
    · rintro ⟨υ, fk, FG, FL⟩ ⟨p1, R1, R2, p3, p4, p5⟩ -
      dsimp only at p1 R1 R2 p3 p4 p5 ⊢
      have hm : (((Gs.length : Int) - 1 + 1) / 2).toNat = Gs.length / 2 := by (clear p5 p4 p3 R2 R1 p1 hle hkr h hk1000 hLl hkl hs hn10 hf R hpre hn hfl hlen q h10 hne hU hok hP hl hA c_joined H S bl gl; lia)
      rw [hm] at p3 p4 p5
      refine X_ifj (ι := List AObj × List Nat × List Pg × List (List Pg)) (fun g => σ <+: g.1 ∧ Row σ.length g.1 τ.length g.2.1 g.2.2.1 g.2.2.2 ∧ g.2.2.1.length = (Gs.length + 1) / 2 ∧ g.2.2.2.flatten = P ∧ SortP (g.2.2.1.getD 0 [])) (fun _ => [("_law_fresh", .ref τ.length)]) (fun g => g.1) ?_ ?_
      · with_reducible (refine T_cmp1 ?_; refine E_bin ?_; refine E_bi (Blt.len_ (by assumption)) (by first | exact Keep.builtin _ | exact Keep.type _) ?_; refine Es_cons ?_; refine E_nm ?_; refine LQ_there (by decide +kernel) ?_; refine LQ_here ?_; refine Es_nil ?_)
        refine C_len_refs R1.at_ hk1000 ?_
        rw [hkl]
        with_reducible (refine E_int ?_; refine O_mod ?_ (by (decide)); refine E_int ?_; refine O_eq ?_; refine T_b ?_)
        refine iteD (fun h' => ?_) (fun h' => ?_)
        · with_reducible (refine X_do ?_; refine E_mcall (name := Str.ofString "append") (id := "list.append") ?_; refine E_nm ?_; refine LQ_here ?_)
          refine ⟨GM_list R2.at_ F.slot_list_append F.type_list_append, ?_⟩
          with_reducible (refine Es_cons ?_; refine E_sub ?_; refine E_nm ?_; refine LQ_there (by decide +kernel) ?_; refine LQ_here ?_; refine E_bin ?_; refine E_bi (Blt.len_ (by assumption)) (by first | exact Keep.builtin _ | exact Keep.type _) ?_; refine Es_cons ?_; refine E_nm ?_; refine LQ_there (by decide +kernel) ?_; refine LQ_here ?_; refine Es_nil ?_)
          refine C_len_refs R1.at_ hk1000 ?_
          rw [hkl]
          with_reducible (refine E_int ?_; refine O_sub ?_)
          have hlast : Gs.length - 1 < Gs.length := Nat.sub_lt (hn ▸ hn10.1) Nat.one_pos
          refine S_refs R1.at_ (n := Gs.length - 1) (by (clear hlast h' hm p5 p4 p3 R2 R1 p1 hle hkr h hk1000 hLl hkl hs hf R hpre hfl hlen q h10 hne hU hok hP hl hA c_joined H S bl gl; lia)) (by rw [hkl]; exact hlast) hk1000 ?_
          with_reducible (refine Es_nil ?_)
          refine C_append R2.at_ (small_size (by rw [List.length_map, R2.pgs.1]; (clear hlast h' hm p5 p4 R2 R1 p1 hle hkr h hk1000 hLl hkl hs hf R hpre hfl hlen q h10 hne hU hok hP hl hA c_joined H S bl gl; lia))) ?_
          with_reducible (refine X_nil ?_)
          refine J_next (_, fk ++ [ks'.getD (Gs.length - 1) 0], FG ++ [Gs.getD (Gs.length - 1) []], FL ++ [Ls.getD (Gs.length - 1) []]) ⟨pre_set p1 hle, R2.push (R1.pgs.2 _ hlast) (R1.low _ hlast) (R1.smn _ hlast), by rw [List.length_append, List.length_singleton, p3]; (clear hlast hm p5 p4 p3 R2 R1 p1 hle hkr h hk1000 hLl hkl hs hn10 hf R hpre hn hfl hlen q h10 hne hU hok hP hl hA c_joined H S bl gl; lia), ?_, ?_⟩ rfl (by with_reducible (refine Sub.cons ?_; refine LQ_here ?_; refine ⟨rfl, ?_⟩; exact Sub.nil))
          · rw [List.flatten_append, p4, ← hf, show 2 * (Gs.length / 2) = Gs.length - 1 from by (clear hlast hm p5 p4 p3 R2 R1 p1 hle hkr h hk1000 hLl hkl hs hn10 hf R hpre hn hfl hlen q h10 hne hU hok hP hl hA c_joined H S bl gl; omega), take_last (Ls := Ls) (m := Gs.length - 1) (by (clear hlast h' hm p5 p4 p3 R2 R1 p1 hle hkr h hk1000 hkl hs hf R hpre hfl hlen q h10 hne hU hok hP hl hA c_joined H S bl gl; lia))]; simp
          · dsimp only; rw [snoc_lt (by (clear hlast h' hm p5 p4 R2 R1 p1 hle hkr hk1000 hLl hkl hs hn10 hf R hpre hn hfl hlen q h10 hne hU hok hP hl hA c_joined H S bl gl; lia))]; exact p5 (by (clear hlast h' hm p5 p4 p3 R2 R1 p1 hle hkr hk1000 hLl hkl hs hn10 hf R hpre hn hfl hlen q h10 hne hU hok hP hl hA c_joined H S bl gl; lia))
        · with_reducible (refine X_nil ?_)
          refine J_next (υ, fk, FG, FL) ⟨p1, R2, by dsimp only; (clear hm p5 p4 R2 R1 p1 hle hkr h hk1000 hLl hkl hs hn10 hf R hpre hn hfl hlen q h10 hne hU hok hP hl hA c_joined H S bl gl; lia), ?_, p5 (by (clear h' hm p5 p4 p3 R2 R1 p1 hle hkr hk1000 hLl hkl hs hn10 hf R hpre hn hfl hlen q h10 hne hU hok hP hl hA c_joined H S bl gl; lia))⟩ rfl (by with_reducible (refine Sub.cons ?_; refine LQ_here ?_; refine ⟨rfl, ?_⟩; exact Sub.nil))
          dsimp only
          rw [p4, ← hf, show 2 * (Gs.length / 2) = Ls.length from by (clear hm p5 p4 p3 R2 R1 p1 hle hkr h hk1000 hkl hs hn10 hf R hpre hn hfl hlen q h10 hne hU hok hP hl hA c_joined H S bl gl; lia), List.take_length]
      · rintro ⟨υ', fk', FG', FL'⟩ ⟨q1, q2, q3, q4, q5⟩
        dsimp only at q1 q2 q3 q4 q5 ⊢
        with_reducible (refine X_let ?_; refine E_nm ?_; refine LQ_here ?_; refine X_nil ?_)
        exact WJ_next FG'.length (υ', τ.length, fk', FG', FL') (by (clear q5 q4 q2 q1 hm p5 p4 p3 R2 R1 p1 hle hkr hk1000 hLl hkl hs hn10 hf R hpre hfl hlen q h10 hne hU hok hP hl hA c_joined H S bl gl; lia)) ⟨rfl, q1, q2, q4, by (clear q5 q4 q2 q1 hm p5 p4 p3 R2 R1 p1 hle hkr h hk1000 hLl hkl hs hf R hpre hfl hlen q h10 hne hU hok hP hl hA c_joined H S bl gl; lia), .inr q5⟩ rfl (by with_reducible (refine Sub.cons ?_; refine LQ_here ?_; refine ⟨rfl, ?_⟩; exact Sub.nil))
  · with_reducible (refine X_ret ?_; refine E_sub ?_; refine E_nm ?_; refine LQ_here ?_; refine E_int ?_)
    have h1 : Gs.length = 1 := by (clear hk1000 hLl hkl hs hf R hpre hfl hlen q h10 hne hU hok hP hl hA c_joined H S bl gl; lia)
    have h01 : 0 < Gs.length := h1 ▸ Nat.one_pos
    refine S_refs R.at_ (n := 0) rfl (by rw [hkl]; exact h01) hk1000 ?_
    obtain ⟨j, rfl⟩ := hpre
    refine R_any (R.low 0 h01) (R.pgs.2 0 h01) (pgE_lt _ _) (q _ ?_ (hs.resolve_left (by (clear R h01 h1 hk1000 hLl hkl hs hn10 hf hfl hlen q h10 hne hU hok hP hl hA c_joined H S bl gl; lia))))
    have := R.smn 0 h01
    rw [← hf, take_last (m := 0) (by rw [← hLl]; exact h1)]
    simpa using this

theorem good_same : Good (dr pw_uf050040_14 33) ["_law_found", "_law_due"] :=
  ⟨fun pm code doc vals h => (by obtain ⟨a, b, rfl⟩ := len_2 h; rfl), by decide +kernel, by decide +kernel, by decide +kernel, rfl, rfl, rfl⟩
theorem cf_same (gl : Gl B mg mb) (bl : Blt B mg mb) (S : Scr B scr nums) (H : HasF B mg (dr pw_uf050040_14 33))
    (c_share : CF prog w B mg "_law_share" 2 (fun xs σ Q X => ∃ a b c d, xs = [.tup [.int a, .int b], .tup [.int c, .int d]] ∧ Q (.bool (decide (a = c ∧ b = d))) σ)) :
    CF prog w B mg "_law_same" 3 (fun xs σ Q X => ∃ j k F D e e', σ[j]? = some (.dict (pgE F) e) ∧ σ[k]? = some (.dict (pgE D) e') ∧ (names F = srt (names D) ∧ (∀ r ∈ F, r ∈ D) ∧ D.length ≤ 60 ∧ ∀ r ∈ D, isNameS r.1 = true) ∧ xs = [.ref j, .ref k] ∧ Q (.bool true) σ) := by
  refine CF_of gl H good_same ?_
  rintro A pm code doc L a₀ _ σ Q X hA ⟨j, k, F, D, e, e', hj, hk, ⟨hns, hsub, hlen, hok⟩, rfl, q⟩
  refine ⟨rfl, ?_⟩
  change WX _ _ _ _ _ (_ :: _) ((_, _) :: (_, _) :: []) _ _ _

  refine X_keys hk fun hnd => ?_
  replace hnd := names_nodup hnd
  refine X_keys hj fun hnf => ?_
  replace hnf := names_nodup hnf
  have hfl : F.length = D.length := by
    have := congrArg List.length hns
    rw [(srt_perm _).length_eq] at this
    simpa [names] using this
  refine X_ifs ?_
  with_reducible (refine T_bool ?_; refine Ts_or ?_; refine T_not ?_; refine T_value ?_; refine E_bi (Blt.isinstance_ (by assumption)) (by first | exact Keep.builtin _ | exact Keep.type _) ?_; refine Es_cons ?_; refine E_nm ?_; refine LQ_here ?_; refine Es_cons ?_; refine E_nm ?_; refine LQ_there (by decide +kernel) ?_; refine LQ_there (by decide +kernel) ?_; refine LQ_nil ?_; refine N_bi (Blt.dict_ (by assumption)) ?_; refine Es_nil ?_)
  refine isi_dict hj isi_dict_dict ?_
  with_reducible (refine T_b ?_; refine iteNo (by decide) ?_; refine Ts_or ?_; refine T_cmp1 ?_; refine E_bi (Blt.list_ (by assumption)) (by first | exact Keep.builtin _ | exact Keep.type _) ?_; refine Es_cons ?_; refine E_nm ?_; refine LQ_here ?_; refine Es_nil ?_)
  refine C_list_dict hA.handled hj (small_size (by rw [pgE_length]; (clear hnf hnd q hok hsub hns hk hj hA c_share H S bl gl; lia))) ?_
  with_reducible (refine E_bi (Blt.sorted_ (by assumption)) (by first | exact Keep.builtin _ | exact Keep.type _) ?_; refine Es_cons ?_; refine E_nm ?_; refine LQ_there (by decide +kernel) ?_; refine LQ_here ?_; refine Es_nil ?_)
  refine C_sorted_dict hA.handled (up_at hk) (fun q hq => ?_) (small_sort (by rw [pgE_length]; (exact Nat.le_trans (by assumption) (by decide)))) ?_
  · obtain ⟨x, _, rfl⟩ := List.mem_map.mp hq
    exact ⟨x.1, rfl⟩
  have ek : (pgE D).map (fun p => keyS p.1) = names D := by simp [pgE, toRow, keyS, names]
  have ef : (pgE F).map (fun p => p.1.v) = (srt (names D)).map V.str := by rw [← hns]; simp [pgE, toRow, names, Key.v]
  rw [ek, ef]
  skip
  refine O_ne_strs at_prev at_end' (fun x hx => ?_) (small_size (by rw [(srt_perm _).length_eq]; simp [names]; (exact Nat.le_trans (by assumption) (by decide)))) (by have := hA.units; show _ < 9900; (clear ef ek hfl hnf hnd q hok hlen hsub hns hk hj hA c_share H S bl gl; lia)) ?_
  · obtain ⟨r, hr, rfl⟩ := List.mem_map.mp (srt_mem.mp hx)
    exact isNameS_cps (hok r hr)
  with_reducible (refine T_b ?_; refine iteF ?_; refine Ts_or_nil ?_; refine iteF ?_; refine X_nil ?_; refine sq_next ?_)
  generalize ht1 : AObj.list ((srt (names D)).map V.str) = o1
  refine X_ford (ι := Unit) (fun i _ => True) (fun _ _ => [("_law_found", .ref j), ("_law_due", .ref k)]) (fun _ _ => σ ++ [o1] ++ [o1]) () hA.handled (up_at (up_at hj)) (fun ep => ?_) trivial rfl (by with_reducible (refine Sub.cons ?_; refine LQ_here ?_; refine ⟨rfl, ?_⟩; refine Sub.cons ?_; refine LQ_there (by decide +kernel) ?_; refine LQ_here ?_; refine ⟨rfl, ?_⟩; exact Sub.nil)) (fun _ _ _ => up_at (up_at hj)) ?_ ?_
  · with_reducible (refine E_nm ?_; refine LQ_here ?_; refine ⟨rfl, ?_⟩)
    first | exact ⟨rfl, rfl⟩ | rfl
  · rintro ep i ⟨⟩ hi -
    rw [pgE_length] at hi
    rw [keyAt_pg hi]
    have hat := at_pg_get hnf hi
    have hin := hsub _ (List.getElem_mem hi)
    generalize F[i] = x at *
    obtain ⟨n, v⟩ := x
    dsimp only at *
    have hat2 : at? (pgE D) (.s n) = some (shV v) := by rw [at_pg, look?_get hnd hin]; rfl
    obtain ⟨e₁, hk'⟩ := pin_get (ep := ep) (up_at (more := [o1]) (up_at (more := [o1]) hk)) (up_at (up_at hj))
    have hup : (pin (σ ++ [o1] ++ [o1]) j (pgE F) ep)[j]? = some (.dict (pgE F) (some ep)) := pin_at (up_at (up_at hj))
    refine X_ifs ?_
    with_reducible (refine T_bool ?_; refine Ts_or ?_; refine T_not ?_; refine T_value ?_; refine E_bi (Blt.isinstance_ (by assumption)) (by first | exact Keep.builtin _ | exact Keep.type _) ?_; refine Es_cons ?_; refine E_nm ?_; refine LQ_here ?_; refine Es_cons ?_; refine E_nm ?_; refine LQ_there (by decide +kernel) ?_; refine LQ_there (by decide +kernel) ?_; refine LQ_there (by decide +kernel) ?_; refine LQ_nil ?_; refine N_bi (Blt.str_ (by assumption)) ?_; refine Es_nil ?_; refine isi_str (isi_str_str) ?_; refine T_b ?_; refine iteNo (by decide) ?_; refine Ts_or ?_; refine T_not ?_; refine T_value ?_; refine E_cf (by assumption) (AOk.le (by assumption) (by decide)) ?_; refine Es_cons ?_; refine E_sub ?_; refine E_nm ?_; refine LQ_there (by decide +kernel) ?_; refine LQ_here ?_; refine E_nm ?_; refine LQ_here ?_)
    refine S_dict (key := .s _) hup hat ?_
    with_reducible (refine Es_cons ?_; refine E_sub ?_; refine E_nm ?_; refine LQ_there (by decide +kernel) ?_; refine LQ_there (by decide +kernel) ?_; refine LQ_here ?_; refine E_nm ?_; refine LQ_here ?_)
    refine S_dict (key := .s _) hk' hat2 ?_
    with_reducible (refine Es_nil ?_; refine ⟨_, _, _, _, rfl, ?_⟩; refine T_b ?_)
    refine iteDn (fun h => absurd ⟨rfl, rfl⟩ h) (fun h => ?_)
    with_reducible (refine Ts_or_nil ?_; refine iteF ?_; refine X_nil ?_; refine sq_next ?_; refine X_nil ?_)
    exact TD_next () trivial rfl (by with_reducible (refine Sub.cons ?_; refine LQ_there (by decide +kernel) ?_; refine LQ_here ?_; refine ⟨rfl, ?_⟩; refine Sub.cons ?_; refine LQ_there (by decide +kernel) ?_; refine LQ_there (by decide +kernel) ?_; refine LQ_here ?_; refine ⟨rfl, ?_⟩; exact Sub.nil))
  · rintro ⟨⟩ -
    with_reducible (refine X_ret ?_; refine E_bool ?_)
    rw [List.append_assoc]
    exact R_none trivial q

theorem good_l_joined : Good (dr pw_uf050040_14 34) ["_law_one", "_law_other"] :=
  ⟨fun pm code doc vals h => (by obtain ⟨a, b, rfl⟩ := len_2 h; rfl), by decide +kernel, by decide +kernel, by decide +kernel, rfl, rfl, rfl⟩
theorem cf_l_joined (gl : Gl B mg mb) (bl : Blt B mg mb) (S : Scr B scr nums) (H : HasF B mg (dr pw_uf050040_14 34)) :
    CF prog w B mg "_law_joined" 1 (fun xs σ Q X => ∃ j k p r e e', σ[j]? = some (.dict (pgE p) e) ∧ σ[k]? = some (.dict (pgE r) e') ∧ p.length + r.length ≤ 1000 ∧ xs = [.ref j, .ref k] ∧ Q (.ref σ.length) (σ ++ [.dict (pgE (dueJ p r)) none])) := by
  refine CF_of gl H good_l_joined ?_
  rintro A pm code doc L a₀ _ σ Q X hA ⟨j, k, p, r, e, e', hj, hk, hlen, rfl, q⟩
  refine ⟨rfl, ?_⟩
  change WX _ _ _ _ _ (_ :: _) ((_, _) :: (_, _) :: []) _ _ _

  have hkl := at_len hk
  refine X_keys hk fun hnd => ?_
  replace hnd := names_nodup hnd
  with_reducible (refine X_let ?_; refine E_bi (Blt.dict_ (by assumption)) (by first | exact Keep.builtin _ | exact Keep.type _) ?_; refine Es_cons ?_; refine E_nm ?_; refine LQ_here ?_; refine Es_nil ?_)
  refine C_dict_copy hj (small_size (by rw [pgE_length]; (clear hnd hkl q hk hj hA H S bl gl; lia))) ?_
  skip
  refine X_ford (ι := Pg) (fun i g => g = dueJ p (r.take i)) (fun _ _ => [("_law_page", .ref σ.length), ("_law_one", .ref j), ("_law_other", .ref k)]) (fun _ g => σ ++ [.dict (pgE g) none]) p hA.handled (up_at hk) (fun ep => ?_) rfl rfl (by with_reducible (refine Sub.cons ?_; refine LQ_here ?_; refine ⟨rfl, ?_⟩; refine Sub.cons ?_; refine LQ_there (by decide +kernel) ?_; refine LQ_here ?_; refine ⟨rfl, ?_⟩; refine Sub.cons ?_; refine LQ_there (by decide +kernel) ?_; refine LQ_there (by decide +kernel) ?_; refine LQ_here ?_; refine ⟨rfl, ?_⟩; exact Sub.nil)) (fun _ _ _ => up_at hk) ?_ ?_
  · with_reducible (refine E_nm ?_; refine LQ_there (by decide +kernel) ?_; refine LQ_there (by decide +kernel) ?_; refine LQ_here ?_; refine ⟨rfl, ?_⟩)
    first | exact ⟨rfl, rfl⟩ | rfl
  · rintro ep i g hi hD
    rw [pgE_length] at hi
    rw [keyAt_pg hi]
    have hat := at_pg_get hnd hi
    have hgl : g.length ≤ p.length + i := by
      rw [hD]
      have := dueJ_len (r.take i) p
      rw [List.length_take] at this
      (clear hat hD hi hnd hkl q hlen hk hj hA H S bl gl; lia)
    have hstep : dueJ p (r.take (i + 1)) = pput g r[i].1 (maxS (look g r[i].1) r[i].2) := by
      rw [List.take_add_one, List.getElem?_eq_getElem hi, hD]
      unfold dueJ
      rw [List.foldl_append]
      rfl
    generalize r[i] = x at *
    obtain ⟨n, v⟩ := x
    dsimp only at *
    have hup : (pin (σ ++ [AObj.dict (pgE g) none]) k (pgE r) ep)[k]? = some (.dict (pgE r) (some ep)) := pin_at (up_at hk)
    with_reducible (refine X_let ?_; refine E_mcall (name := Str.ofString "get") (id := "dict.get") ?_; refine E_nm ?_; refine LQ_there (by decide +kernel) ?_; refine LQ_here ?_)
    refine ⟨GM_dict (pin_end_at hkl) F.slot_dict_get F.type_dict_get, ?_⟩
    with_reducible (refine Es_cons ?_; refine E_nm ?_; refine LQ_here ?_; refine Es_cons ?_; refine E_tuple ?_; refine Es_cons ?_; refine E_int ?_; refine Es_cons ?_; refine E_int ?_; refine Es_nil ?_; refine And.intro (by first | omega | with_unfolding_all exact Nat.le_of_ble_eq_true rfl) ?_; refine Es_nil ?_)
    refine C_get_s (pin_end_at hkl) ?_
    rw [at_pgD]
    with_reducible (refine X_let ?_; refine E_sub ?_; refine E_nm ?_; refine LQ_there (by decide +kernel) ?_; refine LQ_there (by decide +kernel) ?_; refine LQ_there (by decide +kernel) ?_; refine LQ_there (by decide +kernel) ?_; refine LQ_here ?_; refine E_nm ?_; refine LQ_there (by decide +kernel) ?_; refine LQ_here ?_)
    refine S_dict (key := .s _) hup hat ?_
    refine X_let ?_
    refine E_as (.int (max (look g n).1 v.1)) ?_ ?_
    · refine E_ifexp ?_
      with_reducible (refine T_cmp1 ?_; refine E_sub ?_; refine E_nm ?_; refine LQ_here ?_; refine E_int ?_; refine S_t0 ?_; refine E_sub ?_; refine E_nm ?_; refine LQ_there (by decide +kernel) ?_; refine LQ_here ?_; refine E_int ?_; refine S_t0 ?_; refine O_gt ?_; refine T_b ?_)
      refine iteD (fun h => ?_) (fun h => ?_)
      · with_reducible (refine E_sub ?_; refine E_nm ?_; refine LQ_here ?_; refine E_int ?_; refine S_t0 ?_)
        exact ⟨by congr 1; (clear hup hstep hat hgl hD hi hnd hkl q hlen hk hj hA H S bl gl; lia), rfl⟩
      · with_reducible (refine E_sub ?_; refine E_nm ?_; refine LQ_there (by decide +kernel) ?_; refine LQ_here ?_; refine E_int ?_; refine S_t0 ?_)
        exact ⟨by congr 1; (clear hup hstep hat hgl hD hi hnd hkl q hlen hk hj hA H S bl gl; lia), rfl⟩
    refine X_let ?_
    refine E_as (.int (max (look g n).2 v.2)) ?_ ?_
    · refine E_ifexp ?_
      with_reducible (refine T_cmp1 ?_; refine E_sub ?_; refine E_nm ?_; refine LQ_there (by decide +kernel) ?_; refine LQ_here ?_; refine E_int ?_; refine S_t1 ?_; refine E_sub ?_; refine E_nm ?_; refine LQ_there (by decide +kernel) ?_; refine LQ_there (by decide +kernel) ?_; refine LQ_here ?_; refine E_int ?_; refine S_t1 ?_; refine O_gt ?_; refine T_b ?_)
      refine iteD (fun h => ?_) (fun h => ?_)
      · with_reducible (refine E_sub ?_; refine E_nm ?_; refine LQ_there (by decide +kernel) ?_; refine LQ_here ?_; refine E_int ?_; refine S_t1 ?_)
        exact ⟨by congr 1; (clear hup hstep hat hgl hD hi hnd hkl q hlen hk hj hA H S bl gl; lia), rfl⟩
      · with_reducible (refine E_sub ?_; refine E_nm ?_; refine LQ_there (by decide +kernel) ?_; refine LQ_there (by decide +kernel) ?_; refine LQ_here ?_; refine E_int ?_; refine S_t1 ?_)
        exact ⟨by congr 1; (clear hup hstep hat hgl hD hi hnd hkl q hlen hk hj hA H S bl gl; lia), rfl⟩
    with_reducible (refine X_set ?_; refine E_tuple ?_; refine Es_cons ?_; refine E_nm ?_; refine LQ_there (by decide +kernel) ?_; refine LQ_here ?_; refine Es_cons ?_; refine E_nm ?_; refine LQ_here ?_; refine Es_nil ?_; refine And.intro (by first | omega | with_unfolding_all exact Nat.le_of_ble_eq_true rfl) ?_; refine E_nm ?_; refine LQ_there (by decide +kernel) ?_; refine LQ_there (by decide +kernel) ?_; refine LQ_there (by decide +kernel) ?_; refine LQ_there (by decide +kernel) ?_; refine LQ_there (by decide +kernel) ?_; refine LQ_here ?_; refine E_nm ?_; refine LQ_there (by decide +kernel) ?_; refine LQ_there (by decide +kernel) ?_; refine LQ_there (by decide +kernel) ?_; refine LQ_there (by decide +kernel) ?_; refine LQ_here ?_)
    refine P_dict (key := .s n) (pin_end_at hkl) (small_size (by rw [pgE_length]; (clear hup hstep hat hD hnd hkl q hk hj hA H S bl gl; lia))) ?_
    rw [show V.tup [.int (max (look g n).1 v.1), .int (max (look g n).2 v.2)] = shV (maxS (look g n) v) from rfl, pin_end_set hkl, put_pg]
    with_reducible (refine X_nil ?_)
    exact TD_next (pput g n (maxS (look g n) v)) hstep.symm rfl (by with_reducible (refine Sub.cons ?_; refine LQ_there (by decide +kernel) ?_; refine LQ_there (by decide +kernel) ?_; refine LQ_there (by decide +kernel) ?_; refine LQ_there (by decide +kernel) ?_; refine LQ_there (by decide +kernel) ?_; refine LQ_here ?_; refine ⟨rfl, ?_⟩; refine Sub.cons ?_; refine LQ_there (by decide +kernel) ?_; refine LQ_there (by decide +kernel) ?_; refine LQ_there (by decide +kernel) ?_; refine LQ_there (by decide +kernel) ?_; refine LQ_there (by decide +kernel) ?_; refine LQ_there (by decide +kernel) ?_; refine LQ_here ?_; refine ⟨rfl, ?_⟩; refine Sub.cons ?_; refine LQ_there (by decide +kernel) ?_; refine LQ_there (by decide +kernel) ?_; refine LQ_there (by decide +kernel) ?_; refine LQ_there (by decide +kernel) ?_; refine LQ_there (by decide +kernel) ?_; refine LQ_there (by decide +kernel) ?_; refine LQ_there (by decide +kernel) ?_; refine LQ_here ?_; refine ⟨rfl, ?_⟩; exact Sub.nil))
  · rintro g hD
    rw [pgE_length, List.take_length] at hD
    subst hD
    with_reducible (refine X_ret ?_; refine E_nm ?_; refine LQ_here ?_)
    exact R_all q

theorem good_l_total : Good (dr pw_uf050040_14 35) ["_law_page"] :=
  ⟨fun pm code doc vals h => (by obtain ⟨a, rfl⟩ := len_1 h; rfl), by decide +kernel, by decide +kernel, by decide +kernel, rfl, rfl, rfl⟩
theorem cf_l_total (gl : Gl B mg mb) (bl : Blt B mg mb) (S : Scr B scr nums) (H : HasF B mg (dr pw_uf050040_14 35)) :
    CF prog w B mg "_law_total" 1 (fun xs σ Q X => ∃ k p e, σ[k]? = some (.dict (pgE p) e) ∧ p.length ≤ 1000 ∧ xs = [.ref k] ∧ Q (.int (nets p).sum) σ) := by
  refine CF_of gl H good_l_total ?_
  rintro A pm code doc L a₀ _ σ Q X hA ⟨k, p, e, hk, hlen, rfl, q⟩
  refine ⟨rfl, ?_⟩
  change WX _ _ _ _ _ (_ :: _) ((_, _) :: []) _ _ _

  refine X_keys hk fun hnd => ?_
  replace hnd := names_nodup hnd
  with_reducible (refine X_let ?_; refine E_int ?_)
  refine X_ford (ι := Int) (fun i t => t = (nets (p.take i)).sum) (fun _ t => [("_law_found", .int t), ("_law_page", .ref k)]) (fun _ _ => σ) 0 hA.handled hk (fun ep => ?_) rfl rfl (by with_reducible (refine Sub.cons ?_; refine LQ_here ?_; refine ⟨rfl, ?_⟩; refine Sub.cons ?_; refine LQ_there (by decide +kernel) ?_; refine LQ_here ?_; refine ⟨rfl, ?_⟩; exact Sub.nil)) (fun _ _ _ => hk) ?_ ?_
  · with_reducible (refine E_nm ?_; refine LQ_there (by decide +kernel) ?_; refine LQ_here ?_; refine ⟨rfl, ?_⟩)
    first | exact ⟨rfl, rfl⟩ | rfl
  · rintro ep i t hi hD
    rw [pgE_length] at hi
    rw [keyAt_pg hi]
    have hat := at_pg_get hnd hi
    with_reducible (refine X_let ?_; refine E_bin ?_; refine E_bin ?_; refine E_nm ?_; refine LQ_there (by decide +kernel) ?_; refine LQ_here ?_; refine E_sub ?_; refine E_sub ?_; refine E_nm ?_; refine LQ_there (by decide +kernel) ?_; refine LQ_there (by decide +kernel) ?_; refine LQ_here ?_; refine E_nm ?_; refine LQ_here ?_)
    refine S_dict (key := .s _) (pin_at hk) hat ?_
    with_reducible (refine E_int ?_; refine S_t0 ?_; refine O_add ?_; refine E_sub ?_; refine E_sub ?_; refine E_nm ?_; refine LQ_there (by decide +kernel) ?_; refine LQ_there (by decide +kernel) ?_; refine LQ_here ?_; refine E_nm ?_; refine LQ_here ?_)
    refine S_dict (key := .s _) (pin_at hk) hat ?_
    with_reducible (refine E_int ?_; refine S_t1 ?_; refine O_sub ?_; refine X_nil ?_)
    refine TD_next (t + (p[i]).2.1 - (p[i]).2.2) ?_ rfl (by with_reducible (refine Sub.cons ?_; refine LQ_here ?_; refine ⟨rfl, ?_⟩; refine Sub.cons ?_; refine LQ_there (by decide +kernel) ?_; refine LQ_there (by decide +kernel) ?_; refine LQ_there (by decide +kernel) ?_; refine LQ_here ?_; refine ⟨rfl, ?_⟩; exact Sub.nil))
    rw [List.take_add_one, List.getElem?_eq_getElem hi]
    unfold nets at hD ⊢
    rw [List.map_append, List.sum_append, ← hD]
    simp only [Option.toList_some, List.map_cons, List.map_nil, List.sum_cons, List.sum_nil]
    (clear hat hD hnd q hlen hk hA H S bl gl; lia)
  · rintro t hD
    rw [pgE_length, List.take_length] at hD
    subst hD
    with_reducible (refine X_ret ?_; refine E_nm ?_; refine LQ_here ?_)
    exact R_all q

theorem good_hand : Good (dr pw_uf050040_14 40) ["_law_name", "_law_pages_here", "_law_due"] :=
  ⟨fun pm code doc vals h => (by obtain ⟨a, b, c, rfl⟩ := len_3 h; rfl), by decide +kernel, by decide +kernel, by decide +kernel, rfl, rfl, rfl⟩
theorem cf_hand (gl : Gl B mg mb) (bl : Blt B mg mb) (S : Scr B scr nums) (H : HasF B mg (dr pw_uf050040_14 40)) (k_Hand : Cls B 218 ["name", "heard"] [("__init__", 159), ("grown", 166), ("up", 173), ("down", 180), ("page", 187), ("told", 194), ("letter", 201), ("trusts", 208), ("hear", 215)])
    (c_Hand : CF prog w B mg "Hand" 3 (fun (xs : List V) (σ : List AObj) (Q : V → List AObj → Prop) (X : XT) => ((fun (xs : List V) (σ : List AObj) (Q : V → List AObj → Prop) (X : XT) => ∃ k kn s, xs = [.ref k, .str s] ∧ σ[k]? = some (.inst 218 kn) ∧ σ[kn]? = some (.ns []) ∧ isNameS s = true ∧ Q .none (σ.set kn (.ns [("name", .str s), ("heard", .ref σ.length)]) ++ [.dict [] none]))) (.ref (σ.length + 1) :: xs) (σ ++ [.ns []] ++ [.inst 218 σ.length]) (fun (v : V) σ' => v = .none ∧ Q (.ref (σ.length + 1)) σ') X))
    (c_Hand_hear : CM prog w B 215 5 (fun xs σ Q X => ∃ k n p kn kp r e, HandAt σ k n p kn ∧ σ[kp]? = some (.dict (pgE r) e) ∧ PgOk p ∧ PgOk6 r ∧ r.length ≤ 60 ∧ n ∉ names r ∧ (p.length + r.length ≤ 1000 ∧ (onceS (names p ++ names r)).length ≤ 60) ∧ xs = [.ref k, .ref kp] ∧ ∀ (m : Int) σ', HandAt σ' k n (joins p r) kn → Upd kn σ σ' → Q (.int m) σ'))
    (c_Hand_page : CM prog w B 187 1 (fun xs σ Q X => ∃ k n p kn, HandAt σ k n p kn ∧ p.length ≤ 1000 ∧ xs = [.ref k] ∧ Q (.ref σ.length) (σ ++ [.dict (pgE p) none])))
    (c_Hand_told : CM prog w B 194 3 (fun xs σ Q X => ∃ k n p kn, HandAt σ k n p kn ∧ p.length ≤ 1000 ∧ xs = [.ref k] ∧ Q (.int (nets p).sum) σ))
    (c_whole : CF prog w B mg "_law_whole" 1 (fun xs σ Q X => ∃ c, xs = [.int c] ∧ Q (.bool true) σ))
    (c_same : CF prog w B mg "_law_same" 3 (fun xs σ Q X => ∃ j k F D e e', σ[j]? = some (.dict (pgE F) e) ∧ σ[k]? = some (.dict (pgE D) e') ∧ (names F = srt (names D) ∧ (∀ r ∈ F, r ∈ D) ∧ D.length ≤ 60 ∧ ∀ r ∈ D, isNameS r.1 = true) ∧ xs = [.ref j, .ref k] ∧ Q (.bool true) σ))
    (c_l_total : CF prog w B mg "_law_total" 1 (fun xs σ Q X => ∃ k p e, σ[k]? = some (.dict (pgE p) e) ∧ p.length ≤ 1000 ∧ xs = [.ref k] ∧ Q (.int (nets p).sum) σ)) :
    CF prog w B mg "_law_hand" 8 (fun xs σ Q X => ∃ n kl ks P kd D M Us, xs = [.str n, .ref kl, .ref kd] ∧ σ[kl]? = some (.list (ks.map V.ref)) ∧ Pages σ ks P ∧ (∀ p ∈ P, PgOk6 p ∧ n ∉ names p) ∧ Und Us P ∧ P ≠ [] ∧ P.length ≤ 10 ∧ isNameS n = true ∧ σ[kd]? = some (.dict (pgE D) none) ∧ Smn D M ∧ (∀ p, p ∈ P ↔ p ∈ M) ∧ D.length ≤ 60 ∧ Q (.bool true) σ) := by
  refine CF_of gl H good_hand ?_
  rintro A pm code doc L a₀ _ σ Q X hA ⟨n, kl, ks, P, kd, D, M, Us, rfl, hl, hP, hok, hU, hne, h10, hnm, hd, hD, hPM, hD60, q⟩
  refine ⟨rfl, ?_⟩
  change WX _ _ _ _ _ (_ :: _) ((_, _) :: (_, _) :: (_, _) :: []) _ _ _

  have hlen := hP.1
  with_reducible (refine X_let ?_; refine E_cf (by assumption) (AOk.le (by assumption) (by decide)) ?_; refine Es_cons ?_; refine E_nm ?_; refine LQ_here ?_; refine Es_nil ?_)
  refine ⟨_, _, _, rfl, (by have := at_end (σ := σ ++ [AObj.ns []]) (ob := AObj.inst 218 σ.length); simpa using this), at_prev, hnm, ⟨rfl, ?_⟩⟩
  have hpre : σ <+: (σ ++ [AObj.ns []] ++ [AObj.inst 218 σ.length]).set σ.length (.ns [("name", .str n), ("heard", .ref (σ ++ [AObj.ns []] ++ [AObj.inst 218 σ.length]).length)]) ++ [.dict [] none] :=
    pre_up (pre_set (pre_up (pre_up ⟨[], by simp⟩)) (Nat.le_refl _))
  have hH : HandAt ((σ ++ [AObj.ns []] ++ [AObj.inst 218 σ.length]).set σ.length (.ns [("name", .str n), ("heard", .ref (σ ++ [AObj.ns []] ++ [AObj.inst 218 σ.length]).length)]) ++ [.dict [] none]) (σ.length + 1) n [] σ.length := by
    refine ⟨(σ ++ [AObj.ns []] ++ [AObj.inst 218 σ.length]).length, up_at ?_, up_at ?_, ?_⟩
    · rw [List.getElem?_set_ne (by (clear hpre hlen q hD60 hPM hD hd hnm h10 hne hU hok hP hl hA c_l_total c_same c_whole c_Hand_told c_Hand_page c_Hand_hear c_Hand k_Hand H S bl gl; lia))]
      have := at_end (σ := σ ++ [AObj.ns []]) (ob := AObj.inst 218 σ.length)
      simpa using this
    · exact List.getElem?_set_self (by simp)
    · have := at_end (σ := (σ ++ [AObj.ns []] ++ [AObj.inst 218 σ.length]).set σ.length (.ns [("name", .str n), ("heard", .ref (σ ++ [AObj.ns []] ++ [AObj.inst 218 σ.length]).length)])) (ob := AObj.dict [] none)
      rw [List.length_set] at this
      exact this
  generalize (σ ++ [AObj.ns []] ++ [AObj.inst 218 σ.length]).set σ.length (.ns [("name", .str n), ("heard", .ref (σ ++ [AObj.ns []] ++ [AObj.inst 218 σ.length]).length)]) ++ [.dict [] none] = τ₀ at hpre hH ⊢
  refine X_fors ?_
  with_reducible (refine E_nm ?_; refine LQ_there (by decide +kernel) ?_; refine LQ_there (by decide +kernel) ?_; refine LQ_here ?_)
  refine ForG.mk (ι := List AObj × Pg) (fun i g => σ <+: g.1 ∧ HandAt g.1 (σ.length + 1) n g.2 σ.length ∧ Smn g.2 (P.take i) ∧ (0 < i → SortP g.2)) (fun _ g => [("_law_hand_here", .ref (σ.length + 1)), ("_law_due", .ref kd)]) (fun _ g => g.1) (It_list hA.handled (pre_old hpre hl)) (τ₀, []) ⟨hpre, hH, Smn.nil, fun h => absurd h (by decide)⟩ rfl (pre_old hpre hl) (by with_reducible (refine Sub.cons ?_; refine LQ_here ?_; refine ⟨rfl, ?_⟩; refine Sub.cons ?_; refine LQ_there (by decide +kernel) ?_; refine LQ_there (by decide +kernel) ?_; refine LQ_there (by decide +kernel) ?_; refine LQ_here ?_; refine ⟨rfl, ?_⟩; exact Sub.nil)) ?_ ?_
  · rintro i ⟨τ, F⟩ hi ⟨p1, p2, p3, p4⟩ -
    dsimp only at p1 p2 p3 p4 ⊢
    rw [List.length_map] at hi
    rw [refs_getD hi]
    have hiP : i < P.length := by (clear p4 p3 p2 p1 hH hpre q hD60 hPM hD hd hnm h10 hne hU hok hP hl hA c_l_total c_same c_whole c_Hand_told c_Hand_page c_Hand_hear c_Hand k_Hand H S bl gl; lia)
    have hp := pre_old p1 (hP.2 i hiP)
    have hpok := hok _ (getD_mem hiP)
    have hs := Smn.one hpok.1.ok
    have o := p3.once hs (U := Us) ⟨hU.1, fun p hp => hU.2 p (List.mem_of_mem_take hp)⟩ ⟨hU.1, fun p hp => by rw [List.mem_singleton.mp hp]; exact hU.2 _ (getD_mem hiP)⟩
    have hj := p3.join hs
    rw [← take_succ_getD hiP] at hj
    have hl60 := hs.len (U := Us) ⟨hU.1, fun p hp => by rw [List.mem_singleton.mp hp]; exact hU.2 _ (getD_mem hiP)⟩
    generalize P.getD i [] = p at *
    obtain ⟨kh, x1, x2, x3⟩ := id p2
    refine X_ifs ?_
    with_reducible (refine T_not ?_; refine T_value ?_; refine E_cf (by assumption) (AOk.le (by assumption) (by decide)) ?_; refine Es_cons ?_)
    refine E_mcallv ?_
    with_reducible (refine E_nm ?_; refine LQ_there (by decide +kernel) ?_; refine LQ_here ?_)
    refine ⟨.ref 215, GM_inst k_Hand x1 x2 rfl (by kernel_rfl!), c_Hand_hear.1, ?_⟩
    with_reducible (refine Es_cons ?_; refine E_bi (Blt.dict_ (by assumption)) (by first | exact Keep.builtin _ | exact Keep.type _) ?_; refine Es_cons ?_; refine E_nm ?_; refine LQ_here ?_; refine Es_nil ?_)
    refine C_dict_copy hp (small_size (by rw [pgE_length]; (exact Nat.le_trans (by assumption) (by decide)))) ?_
    with_reducible (refine Es_nil ?_)
    refine C_cm c_Hand_hear (hA.le (by decide)) ⟨_, n, F, σ.length, _, p, _, p2.up, at_end, p3.ok, hpok.1, hl60, hpok.2, o, rfl, fun m τ' y1 y2 => ?_⟩
    with_reducible (refine Es_nil ?_; refine ⟨_, rfl, ?_⟩; refine T_b ?_; refine iteNo (by decide) ?_; refine X_nil ?_; refine sq_next ?_; refine X_nil ?_)
    have hpre' : σ <+: τ' := pre_of fun j x hx => y2 j x (Nat.ne_of_lt (at_len hx)) (up_at (pre_old p1 hx))
    exact TJ_next (τ', joins F p) ⟨hpre', y1, hj, fun _ => joins_sort _ _⟩ rfl (pre_old hpre' hl) (by with_reducible (refine Sub.cons ?_; refine LQ_there (by decide +kernel) ?_; refine LQ_here ?_; refine ⟨rfl, ?_⟩; refine Sub.cons ?_; refine LQ_there (by decide +kernel) ?_; refine LQ_there (by decide +kernel) ?_; refine LQ_here ?_; refine ⟨rfl, ?_⟩; exact Sub.nil))
  · rintro ⟨τ, F⟩ ⟨p1, p2, p3, p4⟩ -
    dsimp only at p1 p2 p3 p4 ⊢
    rw [List.length_map, hlen] at p4
    rw [List.length_map, hlen, List.take_length] at p3
    have hsF := p4 (List.length_pos_iff.mpr hne)
    have hF60 := p3.len hU
    obtain ⟨kh, x1, x2, x3⟩ := id p2
    have hd' := pre_old p1 hd
    with_reducible (refine X_ret ?_)
    refine E_boolop ?_
    with_reducible (refine Bo_and ?_; refine E_cf (by assumption) (AOk.le (by assumption) (by decide)) ?_; refine Es_cons ?_)
    refine E_mcallv ?_
    with_reducible (refine E_nm ?_; refine LQ_here ?_)
    refine ⟨.ref 187, GM_inst k_Hand x1 x2 rfl (by kernel_rfl!), c_Hand_page.1, ?_⟩
    with_reducible (refine Es_nil ?_)
    refine C_cm c_Hand_page (hA.le (by decide)) ⟨_, n, F, _, p2, by (exact Nat.le_trans (by assumption) (by decide)), rfl, ?_⟩
    with_reducible (refine Es_cons ?_; refine E_nm ?_; refine LQ_there (by decide +kernel) ?_; refine LQ_here ?_; refine Es_nil ?_)
    refine ⟨_, _, F, D, _, _, at_end, up_at hd', p3.same hD hPM hsF hD60, rfl, ?_⟩
    with_reducible (refine T_b ?_; refine iteT ?_; refine Bo_and ?_; refine E_cf (by assumption) (AOk.le (by assumption) (by decide)) ?_; refine Es_cons ?_)
    refine E_mcallv ?_
    with_reducible (refine E_nm ?_; refine LQ_here ?_)
    refine ⟨.ref 194, GM_inst k_Hand (up_at x1) (up_at x2) rfl (by kernel_rfl!), c_Hand_told.1, ?_⟩
    with_reducible (refine Es_nil ?_)
    refine C_cm c_Hand_told (hA.le (by decide)) ⟨_, n, F, _, p2.up, by (exact Nat.le_trans (by assumption) (by decide)), rfl, ?_⟩
    with_reducible (refine Es_nil ?_; refine ⟨_, rfl, ?_⟩; refine T_b ?_; refine iteT ?_; refine Bo_one ?_; refine E_cmp1 ?_)
    refine E_mcallv ?_
    with_reducible (refine E_nm ?_; refine LQ_here ?_)
    refine ⟨.ref 194, GM_inst k_Hand (up_at x1) (up_at x2) rfl (by kernel_rfl!), c_Hand_told.1, ?_⟩
    with_reducible (refine Es_nil ?_)
    refine C_cm c_Hand_told (hA.le (by decide)) ⟨_, n, F, _, p2.up, by (exact Nat.le_trans (by assumption) (by decide)), rfl, ?_⟩
    with_reducible (refine E_cf (by assumption) (AOk.le (by assumption) (by decide)) ?_; refine Es_cons ?_; refine E_nm ?_; refine LQ_there (by decide +kernel) ?_; refine LQ_here ?_; refine Es_nil ?_)
    refine ⟨_, D, _, up_at hd', by (exact Nat.le_trans (by assumption) (by decide)), rfl, ?_⟩
    rw [p3.sum hD hPM]
    with_reducible (refine O_eq ?_)
    rw [decide_eq_true rfl]
    obtain ⟨j, rfl⟩ := p1
    rw [List.append_assoc]
    exact R_none trivial q

theorem good_law : Good (dr pw_uf050040_14 41) ["_law_script"] :=
  ⟨fun pm code doc vals h => (by obtain ⟨a, rfl⟩ := len_1 h; rfl), by decide +kernel, by decide +kernel, by decide +kernel, rfl, rfl, rfl⟩
theorem law_ok (bl : Blt B mg mb) (S : Scr B scr nums)
    (c_cell_at : CF prog w B mg "_law_cell_at" 1 (fun xs σ Q X => ∃ k, xs = [.raw (.ref scr), .int k] ∧ 0 ≤ k ∧ Q (.int (cellAt nums k)) σ))
    (c_pages : CF prog w B mg "_law_pages" 5 (fun xs σ Q X => ∃ n, xs = [.raw (.ref scr), .int n] ∧ (3 ≤ n ∧ n ≤ 6) ∧ ∀ τ ks P, τ[σ.length]? = some (.list (ks.map V.ref)) → Pages τ ks P → P.length = n.toNat → (∀ i, i < P.length → (P.getD i []).length ≤ bnd i) → (∀ p ∈ P, PgOk6 p ∧ zz ∉ names p) → Q (.ref σ.length) τ))
    (c_l_joined : CF prog w B mg "_law_joined" 1 (fun xs σ Q X => ∃ j k p r e e', σ[j]? = some (.dict (pgE p) e) ∧ σ[k]? = some (.dict (pgE r) e') ∧ p.length + r.length ≤ 1000 ∧ xs = [.ref j, .ref k] ∧ Q (.ref σ.length) (σ ++ [.dict (pgE (dueJ p r)) none])))
    (c_same : CF prog w B mg "_law_same" 3 (fun xs σ Q X => ∃ j k F D e e', σ[j]? = some (.dict (pgE F) e) ∧ σ[k]? = some (.dict (pgE D) e') ∧ (names F = srt (names D) ∧ (∀ r ∈ F, r ∈ D) ∧ D.length ≤ 60 ∧ ∀ r ∈ D, isNameS r.1 = true) ∧ xs = [.ref j, .ref k] ∧ Q (.bool true) σ))
    (c_from_left : CF prog w B mg "_law_from_left" 4 (fun xs σ Q X => ∃ kl ks P Us, xs = [.ref kl] ∧ σ[kl]? = some (.list (ks.map V.ref)) ∧ Pages σ ks P ∧ (∀ p ∈ P, PgOk p) ∧ Und Us P ∧ P ≠ [] ∧ P.length ≤ 10 ∧ ∀ F, Smn F P → SortP F → Q (.ref σ.length) (σ ++ [.dict (pgE F) none])))
    (c_from_right : CF prog w B mg "_law_from_right" 4 (fun xs σ Q X => ∃ kl ks P Us, xs = [.ref kl] ∧ σ[kl]? = some (.list (ks.map V.ref)) ∧ Pages σ ks P ∧ (∀ p ∈ P, PgOk p) ∧ Und Us P ∧ P ≠ [] ∧ P.length ≤ 10 ∧ ∀ F, Smn F P → SortP F → Q (.ref σ.length) (σ ++ [.dict (pgE F) none])))
    (c_halves : CF prog w B mg "_law_halves" 4 (fun xs σ Q X => ∃ kl ks P Us, xs = [.ref kl] ∧ σ[kl]? = some (.list (ks.map V.ref)) ∧ Pages σ ks P ∧ (∀ p ∈ P, PgOk p) ∧ Und Us P ∧ 1 < P.length ∧ P.length ≤ 10 ∧ ∀ F, Smn F P → SortP F → Q (.ref σ.length) (σ ++ [.dict (pgE F) none])))
    (c_name_by : CF prog w B mg "_law_name_by" 2 (fun xs σ Q X => ∃ c, xs = [.int c] ∧ Q (.str (nameBy c)) σ))
    (c_hand : CF prog w B mg "_law_hand" 8 (fun xs σ Q X => ∃ n kl ks P kd D M Us, xs = [.str n, .ref kl, .ref kd] ∧ σ[kl]? = some (.list (ks.map V.ref)) ∧ Pages σ ks P ∧ (∀ p ∈ P, PgOk6 p ∧ n ∉ names p) ∧ Und Us P ∧ P ≠ [] ∧ P.length ≤ 10 ∧ isNameS n = true ∧ σ[kd]? = some (.dict (pgE D) none) ∧ Smn D M ∧ (∀ p, p ∈ P ↔ p ∈ M) ∧ D.length ≤ 60 ∧ Q (.bool true) σ))
    {A : Around} (hA : AOk 20 A) (pm code doc : Value) (L a₀ : Addr) (σ : List AObj) (hσ : σ = []) :
    WX prog w B A (callEnvC (docDef (dr pw_uf050040_14 41).name (dr pw_uf050040_14 41).params (dr pw_uf050040_14 41).body (dr pw_uf050040_14 41).scope pm code doc) L a₀) (dr pw_uf050040_14 41).body [("_law_script", .raw (.ref scr))] σ (fun fl _ _ => retV fl = .bool true) (fun _ _ _ _ => False) := by
  change WX _ _ _ _ _ (_ :: _) _ _ _ _

  subst hσ
  with_reducible (refine X_let ?_; refine E_cf (by assumption) (AOk.le (by assumption) (by decide)) ?_; refine Es_cons ?_; refine E_nm ?_; refine LQ_here ?_; refine Es_cons ?_; refine E_bin ?_; refine E_int ?_; refine E_bin ?_; refine E_cf (by assumption) (AOk.le (by assumption) (by decide)) ?_; refine Es_cons ?_; refine E_nm ?_; refine LQ_here ?_; refine Es_cons ?_; refine E_int ?_; refine Es_nil ?_; refine ⟨_, rfl, ?_⟩; refine And.intro (by first | (decide) | with_unfolding_all exact Nat.le_of_ble_eq_true rfl) ?_; refine E_int ?_; refine O_mod ?_ (by (decide)); refine O_add ?_; refine Es_nil ?_; refine ⟨_, rfl, ?_⟩; refine And.intro (by first | (clear hA c_hand c_name_by c_halves c_from_right c_from_left c_same c_l_joined c_pages c_cell_at S bl; lia) | with_unfolding_all exact Nat.le_of_ble_eq_true rfl) ?_)
  intro τ ks P h1 h2 h3 h4 h5
  have hks := h2.1
  have hP3 : 3 ≤ P.length ∧ P.length ≤ 6 := by (clear hks h5 h4 h2 h1 hA c_hand c_name_by c_halves c_from_right c_from_left c_same c_l_joined c_pages c_cell_at S bl; lia)
  have hk1000 : ks.length ≤ 1000 := by (clear hP3 h5 h4 h2 h1 hA c_hand c_name_by c_halves c_from_right c_from_left c_same c_l_joined c_pages c_cell_at S bl; lia)
  have h47 := allN_len P P.length (Nat.le_refl _) h4 hP3.2
  change τ[0]? = some _ at h1
  with_reducible (refine X_let ?_; refine E_cf (by assumption) (AOk.le (by assumption) (by decide)) ?_; refine Es_cons ?_; refine E_nm ?_; refine LQ_there (by decide +kernel) ?_; refine LQ_here ?_; refine Es_cons ?_; refine E_int ?_; refine Es_nil ?_; refine ⟨_, rfl, ?_⟩; refine And.intro (by first | (decide) | with_unfolding_all exact Nat.le_of_ble_eq_true rfl) ?_; refine X_let ?_; refine E_bin ?_; refine E_nm ?_; refine LQ_here ?_; refine E_bi (Blt.len_ (by assumption)) (by first | exact Keep.builtin _ | exact Keep.type _) ?_; refine Es_cons ?_; refine E_nm ?_; refine LQ_there (by decide +kernel) ?_; refine LQ_here ?_; refine Es_nil ?_)
  generalize cellAt nums 1 = c
  refine C_len_refs h1 hk1000 ?_
  rw [hks]
  have hlp : (0 : Int) < (P.length : Int) := by (clear h1 h47 hk1000 hP3 hks h5 h4 h2 hA c_hand c_name_by c_halves c_from_right c_from_left c_same c_l_joined c_pages c_cell_at S bl; lia)
  refine O_mod ?_ hlp
  have a1 := Int.emod_lt_of_pos c hlp
  have a0 := Int.emod_nonneg c (Int.ne_of_gt hlp)
  generalize c % (P.length : Int) = cut at a0 a1
  refine X_let ?_
  refine E_bin ?_
  refine E_lslice_from ?_
  with_reducible (refine E_nm ?_; refine LQ_there (by decide +kernel) ?_; refine LQ_there (by decide +kernel) ?_; refine LQ_here ?_; refine ⟨_, rfl, ?_⟩; refine E_nm ?_; refine LQ_here ?_)
  refine ⟨_, _, rfl, h1, a0, small_size (by rw [List.length_map]; (exact Nat.le_trans (by assumption) (by decide))), ?_⟩
  refine E_lslice_to ?_
  with_reducible (refine E_nm ?_; refine LQ_there (by decide +kernel) ?_; refine LQ_there (by decide +kernel) ?_; refine LQ_here ?_; refine ⟨_, rfl, ?_⟩; refine E_nm ?_; refine LQ_here ?_)
  refine ⟨_, _, rfl, up_at h1, a0, small_size (by rw [List.length_map]; (exact Nat.le_trans (by assumption) (by decide))), ?_⟩
  skip
  refine O_addl at_prev at_end' (small_size (by rw [List.length_drop, List.length_take, List.length_map]; omega)) ?_
  rw [← List.map_drop, ← List.map_take, ← List.map_append]
  have ho2 := (h2.drop cut.toNat).append (h2.take cut.toNat)
  have hol : (ks.drop cut.toNat ++ ks.take cut.toNat).length = P.length := by rw [List.length_append, Nat.add_comm, ← List.length_append, List.take_append_drop, hks]
  have hol' := ho2.1
  have hom : ∀ p, p ∈ P.drop cut.toNat ++ P.take cut.toNat ↔ p ∈ P := mem_turn P cut.toNat
  generalize ks.drop cut.toNat ++ ks.take cut.toNat = o at *
  generalize P.drop cut.toNat ++ P.take cut.toNat = PO at *
  replace ho2 := ho2.up (more := [.list ((ks.drop cut.toNat).map V.ref)]) |>.up (more := [.list ((ks.take cut.toNat).map V.ref)])
  replace h1 := up_at (more := [.list ((ks.take cut.toNat).map V.ref)]) (up_at (more := [.list ((ks.drop cut.toNat).map V.ref)]) h1)
  replace h2 := h2.up (more := [.list ((ks.drop cut.toNat).map V.ref)]) |>.up (more := [.list ((ks.take cut.toNat).map V.ref)])
  generalize τ ++ [.list ((ks.drop cut.toNat).map V.ref)] ++ [.list ((ks.take cut.toNat).map V.ref)] = τ at *
  refine X_do ?_
  refine E_mcall (name := Str.ofString "insert") (id := "list.insert") ?_
  with_reducible (refine E_nm ?_; refine LQ_here ?_)
  refine ⟨GM_list at_end F.slot_list_insert F.type_list_insert, ?_⟩
  with_reducible (refine Es_cons ?_; refine E_bin ?_; refine E_bin ?_; refine E_nm ?_; refine LQ_there (by decide +kernel) ?_; refine LQ_there (by decide +kernel) ?_; refine LQ_here ?_; refine E_int ?_; refine O_div ?_ (by (decide)) (by decide +kernel); refine E_bi (Blt.len_ (by assumption)) (by first | exact Keep.builtin _ | exact Keep.type _) ?_; refine Es_cons ?_; refine E_nm ?_; refine LQ_here ?_; refine Es_nil ?_)
  refine C_len_refs at_end (by rw [hol, ← hks]; exact hk1000) ?_
  rw [hol]
  refine O_mod ?_ hlp
  have b1 := Int.emod_lt_of_pos (c / 6) hlp
  have b0 := Int.emod_nonneg (c / 6) (Int.ne_of_gt hlp)
  generalize c / 6 % (P.length : Int) = at_ at b0 b1
  with_reducible (refine Es_cons ?_; refine E_sub ?_; refine E_nm ?_; refine LQ_there (by decide +kernel) ?_; refine LQ_there (by decide +kernel) ?_; refine LQ_there (by decide +kernel) ?_; refine LQ_here ?_; refine E_bin ?_; refine E_bin ?_; refine E_nm ?_; refine LQ_there (by decide +kernel) ?_; refine LQ_there (by decide +kernel) ?_; refine LQ_here ?_; refine E_int ?_; refine O_div ?_ (by (decide)) (by decide +kernel); refine E_bi (Blt.len_ (by assumption)) (by first | exact Keep.builtin _ | exact Keep.type _) ?_; refine Es_cons ?_; refine E_nm ?_; refine LQ_there (by decide +kernel) ?_; refine LQ_there (by decide +kernel) ?_; refine LQ_there (by decide +kernel) ?_; refine LQ_here ?_; refine Es_nil ?_)
  refine C_len_refs (up_at h1) hk1000 ?_
  rw [hks]
  refine O_mod ?_ hlp
  have e1 := Int.emod_lt_of_pos (c / 36) hlp
  have e0 := Int.emod_nonneg (c / 36) (Int.ne_of_gt hlp)
  generalize c / 36 % (P.length : Int) = wh at e0 e1
  have hwh : wh.toNat < P.length := by (clear e0 b1 b0 h2 h1 ho2 hol' hom hol a1 a0 hlp h47 hk1000 hP3 hks h5 h4 hA c_hand c_name_by c_halves c_from_right c_from_left c_same c_l_joined c_pages c_cell_at S bl; lia)
  refine S_refs (up_at h1) (n := wh.toNat) (Int.toNat_of_nonneg e0).symm (by rw [hks]; exact hwh) hk1000 ?_
  with_reducible (refine Es_nil ?_)
  refine C_insert at_end b0 (by rw [List.length_map]; (clear hwh e1 e0 b0 h2 h1 ho2 hol' hom a1 a0 hlp h47 hk1000 hP3 hks h5 h4 h3 hA c_hand c_name_by c_halves c_from_right c_from_left c_same c_l_joined c_pages c_cell_at S bl; lia)) (small_size (by rw [List.length_map]; (clear hwh e1 e0 b1 b0 h2 h1 ho2 hol' hom a1 a0 hlp h47 hk1000 hP3 hks h5 h4 hA c_hand c_name_by c_halves c_from_right c_from_left c_same c_l_joined c_pages c_cell_at S bl; lia))) (by (clear hwh e1 e0 b0 h2 h1 ho2 hol' hom hol a1 a0 hlp h47 hk1000 hP3 hks h5 h4 hA c_hand c_name_by c_halves c_from_right c_from_left c_same c_l_joined c_pages c_cell_at S bl; lia)) ?_
  rw [set_end, ← List.map_drop, ← List.map_take, ← List.map_cons, ← List.map_append]
  have hi2 := (ho2.take at_.toNat).append (Pages.cons (h2.2 wh.toNat hwh) (ho2.drop at_.toNat))
  have him : ∀ p, p ∈ PO.take at_.toNat ++ P.getD wh.toNat [] :: PO.drop at_.toNat ↔ p ∈ P := fun p => by
    rw [mem_ins, hom]
    exact ⟨fun h => h.elim (fun e => e ▸ getD_mem hwh) id, .inr⟩
  have hil : (PO.take at_.toNat ++ P.getD wh.toNat [] :: PO.drop at_.toNat).length = P.length + 1 := by
    rw [List.length_append, List.length_cons, ← Nat.add_assoc, ← List.length_append, List.take_append_drop, ← hol', hol]
  generalize o.take at_.toNat ++ ks.getD wh.toNat 0 :: o.drop at_.toNat = os at *
  generalize PO.take at_.toNat ++ P.getD wh.toNat [] :: PO.drop at_.toNat = PS at *
  clear hol hol' hom ho2 b0 b1 e0 e1 a0 a1
  have h1T := up_at (more := [.list (os.map V.ref)]) h1
  have h2T := h2.up (more := [.list (os.map V.ref)])
  have h3T := hi2.up (more := [.list (os.map V.ref)])
  have h4T := at_end (σ := τ) (ob := AObj.list (os.map V.ref))
  generalize τ.length = ko at *
  generalize τ ++ [.list (os.map V.ref)] = T at *
  clear h1 h2 hi2
  with_reducible (refine X_let ?_; refine E_dict0 ?_)
  refine X_fors ?_
  with_reducible (refine E_nm ?_; refine LQ_there (by decide +kernel) ?_; refine LQ_there (by decide +kernel) ?_; refine LQ_there (by decide +kernel) ?_; refine LQ_there (by decide +kernel) ?_; refine LQ_here ?_)
  refine ForG.mk (ι := List AObj × Nat × Pg) (fun i g => T <+: g.1 ∧ g.1[g.2.1]? = some (.dict (pgE g.2.2) none) ∧ Smn g.2.2 (P.take i)) (fun _ g => [("_law_due", .ref g.2.1), ("_law_others", .ref ko), ("_law_cell", .int c), ("_law_pages_here", .ref 0), ("_law_script", .raw (.ref scr))]) (fun _ g => g.1) (It_list hA.handled (up_at h1T)) (T ++ [.dict [] none], T.length, []) ⟨⟨_, rfl⟩, at_end, Smn.nil⟩ rfl (up_at h1T) (by with_reducible (refine Sub.cons ?_; refine LQ_here ?_; refine ⟨rfl, ?_⟩; refine Sub.cons ?_; refine LQ_there (by decide +kernel) ?_; refine LQ_here ?_; refine ⟨rfl, ?_⟩; refine Sub.cons ?_; refine LQ_there (by decide +kernel) ?_; refine LQ_there (by decide +kernel) ?_; refine LQ_there (by decide +kernel) ?_; refine LQ_here ?_; refine ⟨rfl, ?_⟩; refine Sub.cons ?_; refine LQ_there (by decide +kernel) ?_; refine LQ_there (by decide +kernel) ?_; refine LQ_there (by decide +kernel) ?_; refine LQ_there (by decide +kernel) ?_; refine LQ_here ?_; refine ⟨rfl, ?_⟩; refine Sub.cons ?_; refine LQ_there (by decide +kernel) ?_; refine LQ_there (by decide +kernel) ?_; refine LQ_there (by decide +kernel) ?_; refine LQ_there (by decide +kernel) ?_; refine LQ_there (by decide +kernel) ?_; refine LQ_here ?_; refine ⟨rfl, ?_⟩; exact Sub.nil)) ?_ ?_
  · rintro i ⟨υ, kd, D⟩ hi ⟨p1, p2, p3⟩ -
    dsimp only at p1 p2 p3 ⊢
    rw [List.length_map] at hi
    rw [refs_getD hi]
    have hiP : i < P.length := by (clear p3 p2 p1 h4T h3T h2T h1T hil him hwh hlp h47 hk1000 hP3 h5 h4 h3 hA c_hand c_name_by c_halves c_from_right c_from_left c_same c_l_joined c_pages c_cell_at S bl; lia)
    have hpok := (h5 _ (getD_mem hiP)).1.ok
    have hl1 := p3.len (allN_und h47 fun p hp => List.mem_of_mem_take hp)
    have hl2 := (Smn.one hpok).len (allN_und h47 fun p hp => by rw [List.mem_singleton.mp hp]; exact getD_mem hiP)
    have hj := p3.due hpok
    rw [← take_succ_getD hiP] at hj
    with_reducible (refine X_let ?_; refine E_cf (by assumption) (AOk.le (by assumption) (by decide)) ?_; refine Es_cons ?_; refine E_nm ?_; refine LQ_there (by decide +kernel) ?_; refine LQ_here ?_; refine Es_cons ?_; refine E_nm ?_; refine LQ_here ?_; refine Es_nil ?_)
    refine ⟨_, _, _, _, _, _, p2, pre_old p1 (h2T.2 i hiP), by (clear hj hpok hiP p3 p2 p1 hi h4T h3T h2T h1T hil him hwh hlp h47 hk1000 hP3 hks h5 h4 h3 hA c_hand c_name_by c_halves c_from_right c_from_left c_same c_l_joined c_pages c_cell_at S bl; lia), rfl, ?_⟩
    with_reducible (refine X_nil ?_)
    exact TJ_next (_, _, _) ⟨pre_up p1, at_end, hj⟩ rfl (up_at (pre_old p1 h1T)) (by with_reducible (refine Sub.cons ?_; refine LQ_here ?_; refine ⟨rfl, ?_⟩; refine Sub.cons ?_; refine LQ_there (by decide +kernel) ?_; refine LQ_there (by decide +kernel) ?_; refine LQ_there (by decide +kernel) ?_; refine LQ_here ?_; refine ⟨rfl, ?_⟩; refine Sub.cons ?_; refine LQ_there (by decide +kernel) ?_; refine LQ_there (by decide +kernel) ?_; refine LQ_there (by decide +kernel) ?_; refine LQ_there (by decide +kernel) ?_; refine LQ_here ?_; refine ⟨rfl, ?_⟩; refine Sub.cons ?_; refine LQ_there (by decide +kernel) ?_; refine LQ_there (by decide +kernel) ?_; refine LQ_there (by decide +kernel) ?_; refine LQ_there (by decide +kernel) ?_; refine LQ_there (by decide +kernel) ?_; refine LQ_here ?_; refine ⟨rfl, ?_⟩; refine Sub.cons ?_; refine LQ_there (by decide +kernel) ?_; refine LQ_there (by decide +kernel) ?_; refine LQ_there (by decide +kernel) ?_; refine LQ_there (by decide +kernel) ?_; refine LQ_there (by decide +kernel) ?_; refine LQ_there (by decide +kernel) ?_; refine LQ_here ?_; refine ⟨rfl, ?_⟩; exact Sub.nil))
  rintro ⟨υ, kd, D⟩ ⟨p1, hd, hD⟩ -
  dsimp only at p1 hd hD ⊢
  rw [List.length_map, hks, List.take_length] at hD
  replace h1T := pre_old p1 h1T
  replace h4T := pre_old p1 h4T
  replace h2T := h2T.pre p1
  replace h3T := h3T.pre p1
  clear p1 T
  have hU : Und (allN P) P := allN_und h47 fun p hp => hp
  have hUS : Und (allN P) PS := allN_und h47 fun p hp => (him p).mp hp
  have hD60 := hD.len hU
  have okP : ∀ p ∈ P, PgOk p := fun p hp => (h5 p hp).1.ok
  have okS : ∀ p ∈ PS, PgOk p := fun p hp => (h5 p ((him p).mp hp)).1.ok
  have hPne : P ≠ [] := fun e => by rw [e] at hP3; simp at hP3
  have hSne : PS ≠ [] := fun e => by rw [e] at hil; simp at hil
  refine X_ifs ?_
  with_reducible (refine T_bool ?_; refine Ts_or ?_; refine T_not ?_; refine T_value ?_; refine E_cf (by assumption) (AOk.le (by assumption) (by decide)) ?_; refine Es_cons ?_; refine E_cf (by assumption) (AOk.le (by assumption) (by decide)) ?_; refine Es_cons ?_; refine E_nm ?_; refine LQ_there (by decide +kernel) ?_; refine LQ_there (by decide +kernel) ?_; refine LQ_there (by decide +kernel) ?_; refine LQ_here ?_; refine Es_nil ?_)
  refine ⟨_, _, P, _, rfl, h1T, h2T, okP, hU, hPne, by (clear hSne hPne okS okP hD60 hUS hU h3T h2T h4T h1T hD hd hil him hwh hlp h47 hk1000 hP3 hks h5 h4 hA c_hand c_name_by c_halves c_from_right c_from_left c_same c_l_joined c_pages c_cell_at S bl; lia), fun F s1 s2 => ?_⟩
  with_reducible (refine Es_cons ?_; refine E_nm ?_; refine LQ_here ?_; refine Es_nil ?_)
  refine ⟨_, _, F, D, _, _, at_end, up_at hd, s1.same hD (fun p => Iff.rfl) s2 hD60, rfl, ?_⟩
  replace h1T := up_at (more := [AObj.dict (pgE F) none]) h1T
  replace h4T := up_at (more := [AObj.dict (pgE F) none]) h4T
  replace hd := up_at (more := [AObj.dict (pgE F) none]) hd
  replace h2T := h2T.up (more := [AObj.dict (pgE F) none])
  replace h3T := h3T.up (more := [AObj.dict (pgE F) none])
  generalize υ ++ [AObj.dict (pgE F) none] = υ at *
  clear s1 s2 F
  with_reducible (refine T_b ?_; refine iteNo (by decide) ?_; refine Ts_or ?_; refine T_not ?_; refine T_value ?_; refine E_cf (by assumption) (AOk.le (by assumption) (by decide)) ?_; refine Es_cons ?_; refine E_cf (by assumption) (AOk.le (by assumption) (by decide)) ?_; refine Es_cons ?_; refine E_nm ?_; refine LQ_there (by decide +kernel) ?_; refine LQ_there (by decide +kernel) ?_; refine LQ_there (by decide +kernel) ?_; refine LQ_here ?_; refine Es_nil ?_)
  refine ⟨_, _, P, _, rfl, h1T, h2T, okP, hU, hPne, by (clear h3T h2T hd h4T h1T hSne hPne okS okP hD60 hUS hU hD hil him hwh hlp h47 hk1000 hP3 hks h5 h4 hA c_hand c_name_by c_halves c_from_right c_from_left c_same c_l_joined c_pages c_cell_at S bl; lia), fun F s1 s2 => ?_⟩
  with_reducible (refine Es_cons ?_; refine E_nm ?_; refine LQ_here ?_; refine Es_nil ?_)
  refine ⟨_, _, F, D, _, _, at_end, up_at hd, s1.same hD (fun p => Iff.rfl) s2 hD60, rfl, ?_⟩
  replace h1T := up_at (more := [AObj.dict (pgE F) none]) h1T
  replace h4T := up_at (more := [AObj.dict (pgE F) none]) h4T
  replace hd := up_at (more := [AObj.dict (pgE F) none]) hd
  replace h2T := h2T.up (more := [AObj.dict (pgE F) none])
  replace h3T := h3T.up (more := [AObj.dict (pgE F) none])
  generalize υ ++ [AObj.dict (pgE F) none] = υ at *
  clear s1 s2 F
  with_reducible (refine T_b ?_; refine iteNo (by decide) ?_; refine Ts_or_nil ?_; refine iteF ?_; refine X_nil ?_; refine sq_next ?_)
  refine X_ifs ?_
  with_reducible (refine T_bool ?_; refine Ts_or ?_; refine T_not ?_; refine T_value ?_; refine E_cf (by assumption) (AOk.le (by assumption) (by decide)) ?_; refine Es_cons ?_; refine E_cf (by assumption) (AOk.le (by assumption) (by decide)) ?_; refine Es_cons ?_; refine E_nm ?_; refine LQ_there (by decide +kernel) ?_; refine LQ_here ?_; refine Es_nil ?_)
  refine ⟨_, _, PS, _, rfl, h4T, h3T, okS, hUS, by (clear h3T h2T hd h4T h1T hSne hPne okS okP hD60 hUS hU hD him hwh hlp h47 hk1000 hP3 hks h5 h4 hA c_hand c_name_by c_halves c_from_right c_from_left c_same c_l_joined c_pages c_cell_at S bl; lia), by (clear h3T h2T hd h4T h1T hSne hPne okS okP hD60 hUS hU hD him hwh hlp h47 hk1000 hP3 hks h5 h4 hA c_hand c_name_by c_halves c_from_right c_from_left c_same c_l_joined c_pages c_cell_at S bl; lia), fun F s1 s2 => ?_⟩
  with_reducible (refine Es_cons ?_; refine E_nm ?_; refine LQ_here ?_; refine Es_nil ?_)
  refine ⟨_, _, F, D, _, _, at_end, up_at hd, s1.same hD him s2 hD60, rfl, ?_⟩
  replace h1T := up_at (more := [AObj.dict (pgE F) none]) h1T
  replace h4T := up_at (more := [AObj.dict (pgE F) none]) h4T
  replace hd := up_at (more := [AObj.dict (pgE F) none]) hd
  replace h2T := h2T.up (more := [AObj.dict (pgE F) none])
  replace h3T := h3T.up (more := [AObj.dict (pgE F) none])
  generalize υ ++ [AObj.dict (pgE F) none] = υ at *
  clear s1 s2 F
  with_reducible (refine T_b ?_; refine iteNo (by decide) ?_; refine Ts_or ?_; refine T_not ?_; refine T_value ?_; refine E_cf (by assumption) (AOk.le (by assumption) (by decide)) ?_; refine Es_cons ?_; refine E_cf (by assumption) (AOk.le (by assumption) (by decide)) ?_; refine Es_cons ?_; refine E_nm ?_; refine LQ_there (by decide +kernel) ?_; refine LQ_here ?_; refine Es_nil ?_)
  refine ⟨_, _, PS, _, rfl, h4T, h3T, okS, hUS, hSne, by (clear h3T h2T hd h4T h1T hSne hPne okS okP hD60 hUS hU hD him hwh hlp h47 hk1000 hP3 hks h5 h4 hA c_hand c_name_by c_halves c_from_right c_from_left c_same c_l_joined c_pages c_cell_at S bl; lia), fun F s1 s2 => ?_⟩
  with_reducible (refine Es_cons ?_; refine E_nm ?_; refine LQ_here ?_; refine Es_nil ?_)
  refine ⟨_, _, F, D, _, _, at_end, up_at hd, s1.same hD him s2 hD60, rfl, ?_⟩
  replace h1T := up_at (more := [AObj.dict (pgE F) none]) h1T
  replace h4T := up_at (more := [AObj.dict (pgE F) none]) h4T
  replace hd := up_at (more := [AObj.dict (pgE F) none]) hd
  replace h2T := h2T.up (more := [AObj.dict (pgE F) none])
  replace h3T := h3T.up (more := [AObj.dict (pgE F) none])
  generalize υ ++ [AObj.dict (pgE F) none] = υ at *
  clear s1 s2 F
  with_reducible (refine T_b ?_; refine iteNo (by decide) ?_; refine Ts_or_nil ?_; refine iteF ?_; refine X_nil ?_; refine sq_next ?_; refine X_let ?_; refine E_cf (by assumption) (AOk.le (by assumption) (by decide)) ?_; refine Es_cons ?_; refine E_bin ?_; refine E_nm ?_; refine LQ_there (by decide +kernel) ?_; refine LQ_there (by decide +kernel) ?_; refine LQ_here ?_; refine E_int ?_; refine O_div ?_ (by (decide)) (by decide +kernel); refine Es_nil ?_; refine ⟨_, rfl, ?_⟩)
  have hnm := nameBy_ok (c / 216)
  generalize nameBy (c / 216) = nm at hnm
  have hzz : zz ∉ names D := fun h => by
    obtain ⟨p, a, b⟩ := (hD.mem zz).mp h
    exact (h5 p a).2 b
  refine X_ifj (ι := Str) (fun x => isNameS x = true ∧ x ∉ names D) (fun x => [("_law_name", .str x), ("_law_due", .ref kd), ("_law_others", .ref ko), ("_law_pages_here", .ref 0)]) (fun _ => υ) ?_ ?_
  · with_reducible (refine T_cmp1 ?_; refine E_nm ?_; refine LQ_here ?_; refine E_nm ?_; refine LQ_there (by decide +kernel) ?_; refine LQ_here ?_)
    refine O_in_dict (key := .s nm) hd ?_
    with_reducible (refine T_b ?_)
    refine iteB (fun h => ?_) (fun h => ?_)
    · with_reducible (refine X_let ?_; refine E_str ?_; refine X_nil ?_)
      exact J_next zz ⟨by decide +kernel, hzz⟩ rfl (by with_reducible (refine Sub.cons ?_; refine LQ_here ?_; refine ⟨rfl, ?_⟩; refine Sub.cons ?_; refine LQ_there (by decide +kernel) ?_; refine LQ_there (by decide +kernel) ?_; refine LQ_here ?_; refine ⟨rfl, ?_⟩; refine Sub.cons ?_; refine LQ_there (by decide +kernel) ?_; refine LQ_there (by decide +kernel) ?_; refine LQ_there (by decide +kernel) ?_; refine LQ_here ?_; refine ⟨rfl, ?_⟩; refine Sub.cons ?_; refine LQ_there (by decide +kernel) ?_; refine LQ_there (by decide +kernel) ?_; refine LQ_there (by decide +kernel) ?_; refine LQ_there (by decide +kernel) ?_; refine LQ_there (by decide +kernel) ?_; refine LQ_here ?_; refine ⟨rfl, ?_⟩; exact Sub.nil))
    · with_reducible (refine X_nil ?_)
      refine J_next nm ⟨hnm, fun hm => ?_⟩ rfl (by with_reducible (refine Sub.cons ?_; refine LQ_here ?_; refine ⟨rfl, ?_⟩; refine Sub.cons ?_; refine LQ_there (by decide +kernel) ?_; refine LQ_here ?_; refine ⟨rfl, ?_⟩; refine Sub.cons ?_; refine LQ_there (by decide +kernel) ?_; refine LQ_there (by decide +kernel) ?_; refine LQ_here ?_; refine ⟨rfl, ?_⟩; refine Sub.cons ?_; refine LQ_there (by decide +kernel) ?_; refine LQ_there (by decide +kernel) ?_; refine LQ_there (by decide +kernel) ?_; refine LQ_there (by decide +kernel) ?_; refine LQ_here ?_; refine ⟨rfl, ?_⟩; exact Sub.nil))
      rw [at_pg, (look_mem hm).1] at h
      cases h
  rintro x ⟨hx1, hx2⟩
  try dsimp only at hx1 hx2 ⊢
  have nop : ∀ y, y ∉ names D → ∀ p ∈ P, y ∉ names p := fun y hy p hp h => hy ((hD.mem y).mpr ⟨p, hp, h⟩)
  with_reducible (refine X_ret ?_)
  refine E_boolop ?_
  with_reducible (refine Bo_and ?_; refine E_cf (by assumption) (AOk.le (by assumption) (by decide)) ?_; refine Es_cons ?_; refine E_nm ?_; refine LQ_here ?_; refine Es_cons ?_; refine E_nm ?_; refine LQ_there (by decide +kernel) ?_; refine LQ_there (by decide +kernel) ?_; refine LQ_there (by decide +kernel) ?_; refine LQ_here ?_; refine Es_cons ?_; refine E_nm ?_; refine LQ_there (by decide +kernel) ?_; refine LQ_here ?_; refine Es_nil ?_)
  refine ⟨x, _, _, P, _, D, P, _, rfl, h1T, h2T, fun p hp => ⟨(h5 p hp).1, nop x hx2 p hp⟩, hU, hPne, by (clear nop hx2 hx1 hzz hnm h3T h2T hd h4T h1T hSne hPne okS okP hD60 hUS hU hD hil him hwh hlp h47 hk1000 hP3 hks h5 h4 hA c_hand c_name_by c_halves c_from_right c_from_left c_same c_l_joined c_pages c_cell_at S bl; lia), hx1, hd, hD, fun p => Iff.rfl, hD60, ?_⟩
  with_reducible (refine T_b ?_; refine iteT ?_; refine Bo_one ?_; refine E_cf (by assumption) (AOk.le (by assumption) (by decide)) ?_; refine Es_cons ?_; refine E_str ?_; refine Es_cons ?_; refine E_nm ?_; refine LQ_there (by decide +kernel) ?_; refine LQ_there (by decide +kernel) ?_; refine LQ_here ?_; refine Es_cons ?_; refine E_nm ?_; refine LQ_there (by decide +kernel) ?_; refine LQ_here ?_; refine Es_nil ?_)
  refine ⟨zz, _, _, PS, _, D, P, _, rfl, h4T, h3T, fun p hp => ⟨(h5 p ((him p).mp hp)).1, nop zz hzz p ((him p).mp hp)⟩, hUS, hSne, by (clear nop hx2 hx1 hzz hnm h3T h2T hd h4T h1T hSne hPne okS okP hD60 hUS hU hD him hwh hlp h47 hk1000 hP3 hks h5 h4 hA c_hand c_name_by c_halves c_from_right c_from_left c_same c_l_joined c_pages c_cell_at S bl; lia), by decide +kernel, hd, hD, him, hD60, ?_⟩
  rfl

end
end Mine

open PySem PySem.W PyProof.Rows PySem.Challenge
open Mine
set_option maxRecDepth 100000 in
set_option maxHeartbeats 8000000 in
theorem PySem.Challenge.cw_uf050040_14_holds : PySem.Challenge.rw_uf050040_14.Holds := by
  w_on
  o_law
  o_head (kHook KF [1, 3, 105, 106, 118, 119, 130, 131, 142, 143, 158, 159, 165, 166, 172, 173, 179, 180, 186, 187, 193, 194, 200, 201, 207, 208, 214, 215, 217, 218] (fun _ => by kernel_rfl))
  (case hw => w_witness2)
  w_strict (
  intro w s₀ s₁ mg mb G Y fa o pm cd doc dV kV ho hd hcd hD hmg hg args vals as hpre hlay hrd hwl hlo
  refine Ground.open G ?_
  intro T B D TE TW
  try (refine guard_noD D (by decide +kernel) ?_; clear D)
  wrow_args hpre hlay hrd hwl hlo
  all_goals (first | refine enter_call ?_ | refine enter_callW ?_)
  clear hD hd hcd
  have bl : Blt s₁ mg mb := blt_of T (by decide +kernel)
  have gl : Gl s₁ mg mb := ⟨T.g, T.b, T.nolimit⟩
  rename_i hL _ _ _ hI _ hn _
  have S := Scr.mk ⟨_, hL, by simpa using hI⟩ (by omega)
  have g_L : GC s₁ mg "LETTERS" (.str letters) := gc_str T (by kernel_rfl!)
  have g_M : GC s₁ mg "MOST_NAMES" (.int 200) := gc_int T (by kernel_rfl!)
  have f_is_name := has_of T (dr Challenge.pw_uf050040_14 3) (i := 1) (by kernel_rfl)
  have f_greater := has_of T (dr Challenge.pw_uf050040_14 5) (i := 2) (by kernel_rfl)
  have f_reaches := has_of T (dr Challenge.pw_uf050040_14 6) (i := 3) (by kernel_rfl)
  have f_net := has_of T (dr Challenge.pw_uf050040_14 7) (i := 4) (by kernel_rfl)
  have f_is_part := has_of T (dr Challenge.pw_uf050040_14 10) (i := 5) (by kernel_rfl)
  have f_is_share := has_of T (dr Challenge.pw_uf050040_14 11) (i := 6) (by kernel_rfl)
  have f_is_page := has_of T (dr Challenge.pw_uf050040_14 12) (i := 7) (by kernel_rfl)
  have f_share_of := has_of T (dr Challenge.pw_uf050040_14 13) (i := 8) (by kernel_rfl)
  have f_joined := has_of T (dr Challenge.pw_uf050040_14 14) (i := 9) (by kernel_rfl)
  have f_lacking := has_of T (dr Challenge.pw_uf050040_14 15) (i := 10) (by kernel_rfl)
  have f_total := has_of T (dr Challenge.pw_uf050040_14 16) (i := 11) (by kernel_rfl)
  have f_cell_at := has_of T (dr Challenge.pw_uf050040_14 25) (i := 12) (by kernel_rfl)
  have f_whole := has_of T (dr Challenge.pw_uf050040_14 26) (i := 13) (by kernel_rfl)
  have f_number_by := has_of T (dr Challenge.pw_uf050040_14 27) (i := 14) (by kernel_rfl)
  have f_share := has_of T (dr Challenge.pw_uf050040_14 28) (i := 15) (by kernel_rfl)
  have f_name_by := has_of T (dr Challenge.pw_uf050040_14 29) (i := 16) (by kernel_rfl)
  have f_mixed := has_of T (dr Challenge.pw_uf050040_14 30) (i := 17) (by kernel_rfl)
  have f_page_by := has_of T (dr Challenge.pw_uf050040_14 31) (i := 18) (by kernel_rfl)
  have f_near_by := has_of T (dr Challenge.pw_uf050040_14 32) (i := 19) (by kernel_rfl)
  have f_same := has_of T (dr Challenge.pw_uf050040_14 33) (i := 20) (by kernel_rfl)
  have f_l_joined := has_of T (dr Challenge.pw_uf050040_14 34) (i := 21) (by kernel_rfl)
  have f_l_total := has_of T (dr Challenge.pw_uf050040_14 35) (i := 22) (by kernel_rfl)
  have f_pages := has_of T (dr Challenge.pw_uf050040_14 36) (i := 23) (by kernel_rfl)
  have f_from_left := has_of T (dr Challenge.pw_uf050040_14 37) (i := 24) (by kernel_rfl)
  have f_from_right := has_of T (dr Challenge.pw_uf050040_14 38) (i := 25) (by kernel_rfl)
  have f_halves := has_of T (dr Challenge.pw_uf050040_14 39) (i := 26) (by kernel_rfl)
  have f_hand := has_of T (dr Challenge.pw_uf050040_14 40) (i := 27) (by kernel_rfl)
  have f_law := has_of T (dr Challenge.pw_uf050040_14 41) (i := 28) (by kernel_rfl)
  have KX := kIn_of Y
  have k_Hand : Cls s₁ 218 ["name", "heard"] [("__init__", 159), ("grown", 166), ("up", 173), ("down", 180), ("page", 187), ("told", 194), ("letter", 201), ("trusts", 208), ("hear", 215)] := ⟨_, KX, by kernel_rfl⟩
  have m_Hand : mg "Hand" = some (.ref 218) := mg_of KX T.g (by kernel_rfl)
  have c_is_name := cf_is_name (prog := rw_uf050040_14.row.prog) (w := w) gl bl S f_is_name g_L 
  have c_is_part := cf_is_part (prog := rw_uf050040_14.row.prog) (w := w) gl bl S f_is_part  
  have c_is_share := cf_is_share (prog := rw_uf050040_14.row.prog) (w := w) gl bl S f_is_share  c_is_part
  have c_is_page := cf_is_page (prog := rw_uf050040_14.row.prog) (w := w) gl bl S f_is_page g_M c_is_name c_is_share
  have c_greater := cf_greater (prog := rw_uf050040_14.row.prog) (w := w) gl bl S f_greater  
  have c_reaches := cf_reaches (prog := rw_uf050040_14.row.prog) (w := w) gl bl S f_reaches  
  have c_net := cf_net (prog := rw_uf050040_14.row.prog) (w := w) gl bl S f_net  
  have c_share_of := cf_share_of (prog := rw_uf050040_14.row.prog) (w := w) gl bl S f_share_of  
  have c_joined := cf_joined (prog := rw_uf050040_14.row.prog) (w := w) gl bl S f_joined  c_share_of c_greater
  have c_lacking := cf_lacking (prog := rw_uf050040_14.row.prog) (w := w) gl bl S f_lacking  c_share_of c_reaches
  have c_total := cf_total (prog := rw_uf050040_14.row.prog) (w := w) gl bl S f_total  c_net
  have f_Hand_init : HasM s₁ 159 (dm Challenge.pw_uf050040_14 23 0) := hasM_of (pm := Value.str (Str.ofString "gossipcount.hands") 359) (c := 158) (doc := Value.none) (q := "Hand.__init__") KX (by kernel_rfl) (by kernel_rfl)
  have c_Hand_init := cf_Hand_init (prog := rw_uf050040_14.row.prog) (w := w) gl bl S f_Hand_init k_Hand c_is_name
  have c_Hand := CF_make (x := "Hand") gl k_Hand m_Hand rfl c_Hand_init
  have f_Hand_page : HasM s₁ 187 (dm Challenge.pw_uf050040_14 23 4) := hasM_of (pm := Value.str (Str.ofString "gossipcount.hands") 359) (c := 186) (doc := Value.none) (q := "Hand.page") KX (by kernel_rfl) (by kernel_rfl)
  have c_Hand_page := cf_Hand_page (prog := rw_uf050040_14.row.prog) (w := w) gl bl S f_Hand_page k_Hand 
  have f_Hand_told : HasM s₁ 194 (dm Challenge.pw_uf050040_14 23 5) := hasM_of (pm := Value.str (Str.ofString "gossipcount.hands") 359) (c := 193) (doc := Value.none) (q := "Hand.told") KX (by kernel_rfl) (by kernel_rfl)
  have c_Hand_told := cf_Hand_told (prog := rw_uf050040_14.row.prog) (w := w) gl bl S f_Hand_told k_Hand c_total
  have c_cell_at := cf_cell_at (prog := rw_uf050040_14.row.prog) (w := w) gl bl S f_cell_at  
  have c_whole := cf_whole (prog := rw_uf050040_14.row.prog) (w := w) gl bl S f_whole  
  have c_number_by := cf_number_by (prog := rw_uf050040_14.row.prog) (w := w) gl bl S f_number_by  
  have c_share := cf_share (prog := rw_uf050040_14.row.prog) (w := w) gl bl S f_share  c_whole
  have c_name_by := cf_name_by (prog := rw_uf050040_14.row.prog) (w := w) gl bl S f_name_by  
  have c_mixed := cf_mixed (prog := rw_uf050040_14.row.prog) (w := w) gl bl S f_mixed  
  have c_page_by := cf_page_by (prog := rw_uf050040_14.row.prog) (w := w) gl bl S f_page_by  c_number_by c_mixed c_name_by
  have c_near_by := cf_near_by (prog := rw_uf050040_14.row.prog) (w := w) gl bl S f_near_by  c_mixed
  have f_Hand_trusts : HasM s₁ 208 (dm Challenge.pw_uf050040_14 23 7) := hasM_of (pm := Value.str (Str.ofString "gossipcount.hands") 359) (c := 207) (doc := Value.none) (q := "Hand.trusts") KX (by kernel_rfl) (by kernel_rfl)
  have c_Hand_trusts := cf_Hand_trusts (prog := rw_uf050040_14.row.prog) (w := w) gl bl S f_Hand_trusts k_Hand c_reaches c_share_of
  have f_Hand_hear : HasM s₁ 215 (dm Challenge.pw_uf050040_14 23 8) := hasM_of (pm := Value.str (Str.ofString "gossipcount.hands") 359) (c := 214) (doc := Value.none) (q := "Hand.hear") KX (by kernel_rfl) (by kernel_rfl)
  have c_Hand_hear := cf_Hand_hear (prog := rw_uf050040_14.row.prog) (w := w) gl bl S f_Hand_hear k_Hand c_is_page c_Hand_trusts c_lacking c_joined
  have c_from_left := cf_from_left (prog := rw_uf050040_14.row.prog) (w := w) gl bl S f_from_left  c_joined
  have c_from_right := cf_from_right (prog := rw_uf050040_14.row.prog) (w := w) gl bl S f_from_right  c_joined
  have c_pages := cf_pages (prog := rw_uf050040_14.row.prog) (w := w) gl bl S f_pages  c_cell_at c_near_by c_page_by
  have c_halves := cf_halves (prog := rw_uf050040_14.row.prog) (w := w) gl bl S f_halves  c_joined
  have c_same := cf_same (prog := rw_uf050040_14.row.prog) (w := w) gl bl S f_same  c_share
  have c_l_joined := cf_l_joined (prog := rw_uf050040_14.row.prog) (w := w) gl bl S f_l_joined  
  have c_l_total := cf_l_total (prog := rw_uf050040_14.row.prog) (w := w) gl bl S f_l_total  
  have c_hand := cf_hand (prog := rw_uf050040_14.row.prog) (w := w) gl bl S f_hand k_Hand c_Hand c_Hand_hear c_Hand_page c_Hand_told c_whole c_same c_l_total
  refine law_end T f_law hmg good_law hg (fun _ => rfl) (fun _ => .bool _) (by first | rfl | kernel_rfl) fun A pm code doc L a hA => ?_
  exact law_ok bl S  c_cell_at c_pages c_l_joined c_same c_from_left c_from_right c_halves c_name_by c_hand (hA.le (by decide)) pm code doc L a _ rfl)
