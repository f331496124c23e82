import PyProof.Rows.All
import Wide.All
import OpenK.AllK
import Wide.FinOn
import PyProof.EqAt
import PyProof.EqKinds
import PyProof.TupleCall
import KE.KStateDown
import Lean
import HandS.ForMost
import HandS.More
import HandS.DictComp
import HandS.IsInst
import HandS.Defaults
import HandS.Head0
import HandS.Head1
import HandS.Head2
import HandS.HeadEnd
import HandS.HeadHook1
import HandS.HeadHook2
import HandS.RaiseMore
import HandS.Codes
import HandS.SortInts
import PyProof.ReprBulk
import HandS.Strs
import HandS.StrMore
import HandS.TupAny
import HandS.Style
import HandS.Rev
import HandS.Iter
import KE.GoesEnum
import KE.GoesMore
import HandS.Exc
import HandS.ExcInit
import HandS.ExcField
import HandS.ExcIs
import HandS.ExcOwn
import HandS.ClsMeth
import HandS.Lambda
import HandS.EndTab
import HandS.HeadHook3
import HandS.HeadHook4
import KE.KExcIs
import HandS.NestedK
import HandS.EndBits
import HandS.Walk
import HandS.Text
import PySem.Challenge.RW_claimroots_k76_whole_values_as_texts
set_option Elab.async false
set_option linter.all false
set_option maxRecDepth 100000
set_option maxHeartbeats 4000000
/-! rules beside the layer's: extend by a tuple, repr of data, defs that are called where no repr runs -/
namespace U
open PySem PySem.Spec PyProof.Rows L2

/-! ### list.extend(tuple) -/
theorem list_extend_tup (l : Addr) (items : Array Value) (n : Nat) (b : Addr) (items2 : Array Value) (h1 : items.size ≤ sizeLine) (h2 : items.size + items2.size ≤ sizeLine) :
    Meets (Builtin.«list.extend» ⟨[.ref l, .ref b], []⟩) (fun _ R s => s.heap.get? l = some { cls := .type "list", dict := none, data := .seq items n, slots := #[] } ∧ (∃ o m, s.heap.get? b = some o ∧ o.cls = .type "tuple" ∧ o.data = .seq items2 m) ∧
      R (.ok (.ret Value.none)) { s with heap := s.heap.update l (Obj.mapSeq fun x => x ++ items2), toks := s.toks }) := by
  intro prog w A R s h
  obtain ⟨hl, ⟨o, m, ho, hc, hd⟩, h⟩ := h
  show wpAny _ A.in1 (Builtin.List.listExtendWith (.ref l) (.ref b) .none) _ _ s
  unfold Builtin.List.listExtendWith
  refine wpAny_bind (wpAny_typeOf ⟨o, ho, hc⟩ ?_)
  have h3 : (Builtin.List.listSameRef (.ref l) (.ref b) || Value.type "tuple" == Value.type "list" || Value.type "tuple" == Value.type "tuple") = true := by simp
  simp only [h3, if_true]
  refine wpAny_bind ?_
  unfold Builtin.List.listItems
  refine wpAny_bind (wpAny_seqItems ho hd (wpAny_pure ?_))
  refine wpAny_bind ?_
  refine wpAny_bind (wpAny_seqItems hl rfl (wpAny_pure ?_))
  have hlong : ¬ (!items.isEmpty && Builtin.List.listTooLong (items.size + items2.size)) = true := by
    rw [notLongL h2, Bool.and_false]
    exact Bool.false_ne_true
  rw [if_neg hlong]
  show wpAny _ A.in1 (updateSeq l (· ++ items2) >>= fun _ => ret .none) _ _ s
  refine wpAny_bind (wpAny_updateSeq hl rfl ?_ (hz := h1) (_hz' := by rw [Array.size_append]; omega))
  exact wpAny_pure h
def rExtT (K : PySem.W.Frag) : V → List V → Hp → VK → Prop := fun x vs H Q => ∃ l b xs zs, x = .ref l ∧ vs = [.ref b] ∧ H l = some (.lst xs) ∧ SqT K H b zs ∧ xs.length + zs.length ≤ sizeLine ∧ Q .non (upd H l (.lst (xs ++ zs)))
theorem mt_extT {X : Cx} : MtM X "list.extend" (rExtT X.K) := by
  intro pins s σ H x vs v us Q I rx rv h
  obtain ⟨l, b, xs, zs, rfl, rfl, hH, hB, hz, q⟩ := h
  cases rx
  obtain ⟨u, rfl, ru⟩ := rv.one
  cases ru
  obtain ⟨z, its, n, r, hl, e⟩ := I.lstM hH
  obtain ⟨its2, r2, ⟨o, ho, hc, m, hd⟩, z2⟩ := I.tuple hB
  have hl2 := r2.length
  refine call_meets F.slot_list_extend ⟨_, e, rfl⟩ F.entry_list_extend (F.args_list_extend_2 _ _)
    (list_extend_tup l its.toArray n b its2.toArray (by rw [List.size_toArray]; omega) (by rw [List.size_toArray, List.size_toArray]; omega)) ⟨e, ⟨o, m, ho, hc, hd⟩, ?_⟩
  refine ⟨.non, _, I.lset (its' := its ++ its2) hH e (by simp) (r.append r2) ?_, rfl, q⟩
  rw [List.length_append]
  omega

/-! ### repr of data -/
def rRepr (K : PySem.W.Frag) : List V → Hp → VK → Prop := fun xs H Q => ∃ x d, xs = [x] ∧ Dp K H x d ∧ d.showable = true ∧ d.hasDict = false ∧ d.depth ≤ 100 ∧ d.shown.length ≤ sizeLine ∧ Q (.str d.shown) H
theorem call_repr {X : Cx} (hg : X.A.guards = some []) (hu : X.A.units + 101 < cLine) : CallR X (.builtin "repr") (rRepr X.K) := by
  intro pins s σ H xs us Q I r h
  obtain ⟨x, d, rfl, hd, hs, hn, hp, hz, q⟩ := h
  obtain ⟨u, rfl, ru⟩ := vals1 r
  have fin : ∀ t, EP X pins σ Q (.str d.shown t) s := fun t => ⟨.str d.shown, H, I, ⟨t, rfl⟩, q⟩
  obtain ⟨as, rd⟩ := Dp.reads I d x u hd ru
  cases hd with
  | non =>
    cases ru
    refine PySem.P.repr_of_none ?_
    exact ⟨.str _, H, I.tok _, ⟨_, rfl⟩, by simpa only [PyData.shown] using q⟩
  | bl b =>
    cases ru
    refine PySem.P.repr_of_bool ?_
    exact ⟨.str _, H, I.tok _, ⟨_, rfl⟩, by simpa only [PyData.shown] using q⟩
  | int i =>
    obtain ⟨t, rfl⟩ := ru
    refine PySem.P.repr_of_int (by simpa only [PyData.showable, decide_eq_true_eq] using hs) ?_
    exact ⟨.str _, H, I.tok _, ⟨_, rfl⟩, by simpa only [PyData.shown] using q⟩
  | str z =>
    obtain ⟨t, rfl⟩ := ru
    refine PySem.P.repr_of_str ?_ (by simpa only [PyData.shown] using hz)
    exact ⟨.str _, H, I.tok _, ⟨_, rfl⟩, by simpa only [PyData.shown] using q⟩
  | lst h1 h2 =>
    cases ru
    refine repr_of_reads' rd hs (PyData.noDict_hsm hn) hg (by omega) (fun _ _ e => e) (fun h' u tk hk => ?_) hz
    exact ⟨.str _, H, I.kept hk, ⟨u, rfl⟩, q⟩
  | tup h1 h2 =>
    cases ru
    refine repr_of_reads' rd hs (PyData.noDict_hsm hn) hg (by omega) (fun _ _ e => e) (fun h' u tk hk => ?_) hz
    exact ⟨.str _, H, I.kept hk, ⟨u, rfl⟩, q⟩

/-! ### defs that are called where no repr runs (guards: none) -/
structure FnG (P : Program) (w : World) (K : PySem.W.Frag) (mg : Str → Option Value) (base : Heap) (CX : CXT) (k : Nat) (f : Addr) (fd : FuncData) (ps : List Str) (sp : Sp) : Prop where
  len : ∀ vs H Q E, sp vs H Q E → vs.length = ps.length
  run : ∀ (A : Around) (outer : List Env) (s : Shared) (H : Hp) (args : Args) (us : List Value) (vs : List V) (Q : VK) (E : XK), A.guards = some [] → Room k A → Env0 P w K mg base A outer s H → BindsTo s fd args (ps.zip us) → Vals vs us → sp vs H Q E →
    codeAny (model P w) A (.call (.ref f) args) (CR CX outer P w H s Q E) s
theorem FnG.of {P : Program} {w : World} {K : PySem.W.Frag} {mg : Str → Option Value} {base : Heap} {CX : CXT} {k : Nat} {f : Addr} {fd : FuncData} {ps : List Str} {sp : Sp} (F : FnOk P w K mg base CX k f fd ps sp) : FnG P w K mg base CX k f fd ps sp :=
  ⟨F.len, fun A outer s H args us vs Q E _ hr => F.run A outer s H args us vs Q E hr⟩
section
variable {P : Program} {w : World} {K : PySem.W.Frag} {mg : Str → Option Value} {base : Heap}
/-- a def's body, entered where no repr runs -/
theorem fnG_of {CX : CXT} {k : Nat} {f : Addr} {nm q : Str} {pr : Arguments} {bd : List Stmt} {sc : Scope} {v1 v2 v3 v4 v5 v6 v7 : Value} {a1 a2 : Option Addr}
    {sl : Array (Option Value)} {N ps : List Str} {sp : Sp}
    (lk : K.lookup f = some ⟨v1, a1, .func (PySem.W.fnOf nm q pr bd sc v2 v3 v4 v5 a2 v6 v7), sl⟩) (hcd : PySem.W.codeIn K v6 q = true) (S : FnScope N ps sc)
    (len : ∀ vs H Q E, sp vs H Q E → vs.length = ps.length)
    (hbody : ∀ (A : Around) (outer : List Env) (s : Shared) (H : Hp) (vs : List V) (Q : VK) (E : XK),
      A.guards = some [] → Room k (A.deeper (envOfC q sc s.heap.objs.size f v6)) → sp vs H Q E →
      ∃ t, PSs (cxOf CX P w K mg base N q sc f v6 A outer s H E) bd t ∧ t { nx := fun _ H' => Q .non H', rt := Q } (start N vs) H) :
    FnG P w K mg base CX (k + 1) f (PySem.W.fnOf nm q pr bd sc v2 v3 v4 v5 a2 v6 v7) ps sp := by
  refine ⟨len, ?_⟩
  intro A outer s H args us vs Q E hg hr e0 hb r hsp
  have keep0 : ∀ b o, base.get? b = some o → s.heap.get? b = some o := fun b o e => (e0.bs b o e).1
  have KX : K.In s.heap := e0.mod.kin.keeps keep0
  refine codeAny_call_function hr.depth (KX _ _ lk) rfl S.co S.gen rfl (PySem.W.codeRec_of KX hcd) (hb _ _ _ _ ?_)
  have hkind : ∀ y ∈ ps.zip us, sc.names.lookup y.1 = some .local ∨
      (sc.names.lookup y.1 = some .cell ∧ ((cellsFrom (s.heap.objs.size + 1) sc.names []).lookup y.1).isSome = true) := by
    intro y hy
    have hm : y.1 ∈ ps := (List.of_mem_zip (a := y.1) (b := y.2) hy).1
    rcases S.par _ hm with c | c
    · exact Or.inl c
    · exact Or.inr ⟨c, PySem.W.cellsFrom_some _ _ _ (Or.inl c)⟩
  refine wpAny_newFunctionEnv_cells S.kind hkind ?_
  intro env he s1 x
  subst he
  refine ⟨(e0.mod.nolimit.keeps keep0).keeps x.toInCall.keep, codeAny_func ?_⟩
  obtain ⟨t, ht, hq⟩ := hbody A outer s H vs Q E hg (hr.deeper _) hsp
  have I := inv_start (CX := CX) (mg := mg) (E := E) S hr.hd e0 (len _ _ _ _ hsp) r x
  refine wpAny_mono (ht.run [] s1 _ H _ I hq) ?_ (fun e s' h => h)
  intro fl s' hs
  cases fl with
  | ret u =>
    obtain ⟨v, σ', H', J, rv, z⟩ := hs
    exact ⟨v, H', J.os, J.bare, J.base, J.hok, rv, z⟩
  | next =>
    obtain ⟨σ', H', J, z⟩ := hs
    exact ⟨V.non, H', J.os, J.bare, J.base, J.hok, rfl, z⟩
  | brk => exact (let ⟨_, _, _, z⟩ := hs; False.elim z)
  | cont => exact (let ⟨_, _, _, z⟩ := hs; False.elim z)
/-- such a def as it stands behind the top -/
theorem okG {CX : CXT} {nm q : Str} {pr : Arguments} {bd : List Stmt} {sc : Scope} {dvs : List V} {kws : List (Str × V)} {f : Addr} {fd : FuncData} {N ps : List Str} {k : Nat} {sp : Sp}
    (F : FunD K nm q pr bd sc dvs kws f fd) (S : FnScope N ps sc) (len : ∀ vs H Q E, sp vs H Q E → vs.length = ps.length)
    (hbody : ∀ (cdv : Value) (A : Around) (outer : List Env) (s : Shared) (H : Hp) (vs : List V) (Q : VK) (E : XK),
      A.guards = some [] → Room k (A.deeper (envOfC q sc s.heap.objs.size f cdv)) → sp vs H Q E →
      ∃ t, PSs (cxOf CX P w K mg base N q sc f cdv A outer s H E) bd t ∧ t { nx := fun _ H' => Q .non H', rt := Q } (start N vs) H) :
    FnG P w K mg base CX (k + 1) f fd ps sp := by
  obtain ⟨oc, od, dV, kV, doc, pm, an, cdv, ct, osl, rfl, lk, hcd, _, _⟩ := F.ex
  exact fnG_of lk hcd S len fun A outer s H vs Q E hg hr hsp => hbody cdv A outer s H vs Q E hg hr hsp
end
theorem room101 {k : Nat} {A : Around} (hr : Room k A) : A.units + 101 < cLine := by
  have := hr.un
  omega
theorem guards_deeper {A : Around} {env : Env} (h : A.guards = some []) : (A.deeper env).guards = some [] := h
section
variable {X : Cx} {CX : CXT} {k : Nat} {f : Addr} {fd : FuncData} {ps ks : List Str} {sp : Sp} {dvs : List V} {ds : List Value} {E : XK} {x : Str} {p pos : Pos} {e : Expr} {es : List Expr} {kw : Keyword} {kws : List Keyword} {t tk : TA} {n : Nat}
/-- the end of a call, whatever it handed back -/
theorem ends_of {σ : L2.St} {H : Hp} {pins : List (Addr × Obj)} {s : Shared} {Q : VK} (hx : Passes CX X E) (I : Inv X pins σ H s) (r : Result) (s' : Shared) (h : CR CX X.stack X.prog X.w H s Q E r s') :
    wants (EP X pins σ Q) X.xe r s' := by
  cases r with
  | error z => exact hx pins σ H s z s' I h
  | ok fl => cases fl with
    | ret u => exact I.after h
    | next => exact h.elim
    | brk => exact h.elim
    | cont => exact h.elim
theorem run_G {pins : List (Addr × Obj)} {σ : L2.St} {H : Hp} {s : Shared} {Q : VK} {us : List Value} {vs : List V} (F : FnG X.prog X.w X.K X.mg X.base CX k f fd ps sp) (hg : X.A.guards = some []) (hr : Room k X.A) (hb : Binds X.K fd ps ds)
    (hd : Vals dvs ds) (hx : Passes CX X E) (I : Inv X pins σ H s) (r : Vals vs us) (h : sp (vs ++ dvs) H Q E) : wpAny (model X.prog X.w) X.A (call (.ref f) us) (EP X pins σ Q) X.xe s := by
  have r2 := r.append hd
  have hl : (us ++ ds).length = ps.length := r2.length.symm.trans (F.len _ _ _ _ h)
  exact wpAny_call (codeAny_mono (F.run X.A X.stack s H ⟨us, []⟩ (us ++ ds) (vs ++ dvs) Q E hg hr I.env0 (hb s us I.kIn hl) r2 h) fun r s' hq => ends_of hx I r s' hq)
/-- f(e, ..) where no repr runs -/
theorem pe_callG (F : FnG X.prog X.w X.K X.mg X.base CX k f fd ps sp) (hg : X.A.guards = some []) (hr : Room k X.A) (hgl : Gl X x) (hm : X.mg x = some (.ref f)) (hk : PySem.W.keepIn X.K (.ref f) = true) (hb : Binds X.K fd ps ds) (hd : Vals dvs ds)
    (hx : Passes CX X E) (ha : PA X (e :: es) t) (hdb : (x == ("__debug__" : Str)) = false := by decide) (he : starEach (e :: es) X.env = (false, eval e X.env) :: starEach es X.env := by rfl)
    (hpl : (backTo pos (starEach es X.env)).any (·.1) = false := by rfl) : PE X (.Call (.Name x p) (e :: es) [] pos) (tCall sp dvs E t) := by
  constructor
  intro pins s σ H Q I h
  refine wpAny_Call_Name_kw (ld_glob I hgl hm ?_ hdb)
  refine PySem.W.callWith_K (h₀ := X.base) I.ok.mod.kin hk (thn (ha.run pos pins s σ H _ I h) ?_) he hpl
  rintro us s1 ⟨vs, H1, I1, r, q⟩
  exact ⟨I1.kIn, run_G F hg hr hb hd hx I1 r q⟩
end
section
variable {P : Program} {w : World} {K : PySem.W.Frag} {mg mb : Str → Option Value} {s₁ : Shared} {a : Addr} {vs : List Value} {ns : List Int}
/-- what is tracked at a law's entry: the script alone, or nothing (it is one of the module's own lists) -/
structure Entry (P : Program) (w : World) (K : PySem.W.Frag) (s₁ : Shared) (a : Addr) (vs : List Value) (ns : List Int) (H : Hp) : Prop where
  only : Only H
  seq : SqL K H a (ns.map V.int)
  ok : HOk P w H s₁.heap
  at_ : ∀ b, H b ≠ none → b = a
  own : H a ≠ none → K.lookup a = none
theorem entry_of (KX : K.In s₁.heap) (ha : s₁.heap.get? a = some { cls := .type "list", data := .seq vs.toArray }) (hi : IntsAre vs ns) (hl : ns.length ≤ sizeLine) : ∃ H, Entry P w K s₁ a vs ns H := by
  have rv := vals_ints hi
  have lenV := hi.length
  cases hk : K.lookup a with
  | some o =>
    have e := (KX a o hk).symm.trans ha
    cases e
    refine ⟨fun _ => none, fun _ => Or.inl rfl, Or.inr ⟨_, vs.toArray, _, hk, rfl, rfl, rfl, ?_, ?_⟩, ?_, ?_, ?_⟩
    · rw [List.size_toArray, lenV]
      exact hl
    · simpa using rv
    · intro b u z
      cases (show (none : Option HO) = some u from z)
    · exact fun b z => absurd rfl z
    · exact fun z => absurd rfl z
  | none =>
    let u : HO := .frz { cls := .type "list", data := .seq vs.toArray } (.lst (ns.map V.int))
    have same : (upd (fun _ => none) a u) a = some u := upd_same
    have other : ∀ b, b ≠ a → (upd (fun _ => none) a u) b = none := fun b hb => upd_ne hb
    refine ⟨upd (fun _ => none) a u, ?_, Or.inl (Or.inr ⟨_, same⟩), ?_, ?_, fun _ => hk⟩
    · intro b
      by_cases hb : b = a
      · rw [hb]
        exact Or.inr ⟨_, _, same⟩
      · exact Or.inl (other b hb)
    · intro b v z
      by_cases hb : b = a
      · rw [hb, same] at z
        rw [← Option.some.inj z, hb]
        exact ⟨ha, by rw [List.length_map]; exact hl, vs, _, rv, ha⟩
      · rw [other b hb] at z
        cases z
    · intro b z
      by_cases hb : b = a
      · exact hb
      · exact absurd (other b hb) z
theorem Entry.env {H : Hp} (E : Entry P w K s₁ a vs ns H) (KX : K.In s₁.heap) (hns : s₁.heap.Ns mainGlobals mg) (hb : s₁.heap.Ns builtinsNs mb) (hbb : ∀ x : Str, x ≠ "__name__" → mb x = bootBuiltins x) (hlim : s₁.heap.NoLimit) (hg : s₁.gens = #[])
    (ha : s₁.heap.get? a = some { cls := .type "list", data := .seq vs.toArray }) :
    K.In (hidT s₁.heap H) ∧ (hidT s₁.heap H).Ns mainGlobals mg ∧ Env0 P w K mg (hidT s₁.heap H) callerA [] s₁ H := by
  have atA : ∀ {b : Addr} {u : HO}, H b = some u → b = a := fun {b u} e => E.at_ b (by rw [e]; exact fun z => nomatch z)
  have notDict : ∀ {b : Addr} {o : Obj} {es : Array DictEntry} {ep : Nat}, s₁.heap.get? b = some o → o.data = .dict es ep → H b = none := by
    intro b o es ep e d
    cases q : H b with
    | none => rfl
    | some u =>
      rw [atA q, ha] at e
      rw [← Option.some.inj e] at d
      cases d
  have ns' : ∀ {b : Addr} {m : Str → Option Value}, s₁.heap.Ns b m → (hidT s₁.heap H).Ns b m := by
    rintro b m ⟨o, es, ep, e, d, r⟩
    exact ⟨o, es, ep, hidT_get e (notDict e d), d, r⟩
  have hK : K.In (hidT s₁.heap H) := by
    intro b o e
    refine hidT_get (KX b o e) ?_
    cases q : H b with
    | none => rfl
    | some u =>
      have hba := atA q
      rw [hba] at e q
      rw [E.own (by rw [q]; exact fun z => nomatch z)] at e
      cases e
  have hlim' : (hidT s₁.heap H).NoLimit := by
    obtain ⟨mc, h1, h2⟩ := hlim
    exact ⟨mc, ns' h1, h2⟩
  exact ⟨hK, ns' hns, rfl, ⟨hK, ns' hns, ⟨mb, ns' hb, hbb⟩, hlim'⟩, fun b o e => of_hidT e, Nat.le_of_eq (hidT_size _ _), trivial, fun b hb => absurd (show b ∈ ([] : List Addr) from hb) (by simp), E.ok, .of_eq hg⟩
/-- the law's promise, at the heap behind the top, where no repr runs -/
theorem law_callG {CX : CXT} {k : Nat} {fa : Addr} {fd : FuncData} {x : Str} {sp : Sp}
    (KX : K.In s₁.heap) (hns : s₁.heap.Ns mainGlobals mg) (hb : s₁.heap.Ns builtinsNs mb) (hbb : ∀ x : Str, x ≠ "__name__" → mb x = bootBuiltins x) (hlim : s₁.heap.NoLimit) (hg : s₁.gens = #[])
    (ha : s₁.heap.get? a = some { cls := .type "list", data := .seq vs.toArray }) (hi : IntsAre vs ns) (hl : ns.length ≤ sizeLine) (hr : Room k callerA)
    (F : ∀ base : Heap, K.In base → base.Ns mainGlobals mg → FnG P w K mg base CX k fa fd [x] sp) (hbind : ∀ (s : Shared) (u : Value), BindsTo s fd ⟨[u], []⟩ [(x, u)])
    (hsp : ∀ H : Hp, Only H → SqL K H a (ns.map V.int) → sp [.ref a] H (fun v _ => v = .bl true) fun _ _ _ => False) (hCX : ∀ H e s', CX [] H s₁ (fun _ _ _ => False) e s' → False) :
    codeAny (model P w) callerA (.call (.ref fa) ⟨[.ref a], []⟩) (fun r s' => r = .ok (.ret (.bool true)) ∧ OldK s₁.heap s'.heap ∧ s'.os = s₁.os ∧ AllBare s'.gens) s₁ := by
  obtain ⟨H, En⟩ := entry_of (P := P) (w := w) KX ha hi hl
  obtain ⟨hK, hN, e0⟩ := En.env KX hns hb hbb hlim hg ha
  refine codeAny_mono ((F _ hK hN).run callerA [] s₁ H ⟨[.ref a], []⟩ [.ref a] [.ref a] _ _ rfl hr e0 (hbind s₁ (.ref a)) (.cons rfl .nil) (hsp H En.only En.seq)) ?_
  intro r s' h
  cases r with
  | error e => exact (hCX H e s' h).elim
  | ok fl =>
    cases fl with
    | next => exact False.elim h
    | brk => exact False.elim h
    | cont => exact False.elim h
    | ret u =>
      obtain ⟨v, H', os, bare, un, hok', r', q⟩ := h
      rw [show v = .bl true from q] at r'
      refine ⟨by rw [show u = Value.bool true from r'], OldK.of_keep ?_, os, bare⟩
      intro b o e
      cases qb : H b with
      | none => exact un.keep b o e qb (fun z => absurd (show b ∈ ([] : List Addr) from z) (by simp)) (by simp)
      | some u =>
        rcases En.only b with z | ⟨ob, xs, z⟩
        · rw [qb] at z
          cases z
        · have e1 := (En.ok b _ z).1
          have e2 := (hok' b _ (un.frzs b ob _ z)).1
          rw [e2, ← e1, e]
end
/-- a law's end over a head by facts, its def called where no repr runs -/
theorem walk_ofG {l : PySem.W.OpenLaw} {n k : Nat} {q : Program} {loose : List Str} {XP : (Str → Option Value) → Heap → Prop} {YP : World → Heap → Prop} {d : DefRec} {CX : CXT} {x : Str}
    (hn : l.most = some n) (hn2 : n ≤ sizeLine) (hdf : d.params.defaults = []) (hr : Room k callerA)
    (F : ∀ (w : World) (mg : Str → Option Value) (fa : Addr) (h : Heap), YP w h → h.Ns mainGlobals mg → mg d.name = some (.ref fa) →
      ∃ (K : PySem.W.Frag) (fd : FuncData) (sp : Sp), K.In h ∧ (∀ (s : Shared) (u : Value), BindsTo s fd ⟨[u], []⟩ [(x, u)]) ∧
        (∀ (H : Hp) (a : Addr) (ns : List Int), ns.length ≤ n → Only H → SqL K H a (ns.map V.int) → sp [.ref a] H (fun v _ => v = .bl true) fun _ _ _ => False) ∧
        ∀ base : Heap, K.In base → base.Ns mainGlobals mg → FnG l.prog w K mg base CX k fa fd [x] sp)
    (hCX : ∀ (H : Hp) (s : Shared) (e : Value) (s' : Shared), CX [] H s (fun _ _ _ => False) e s' → False) :
    PySem.W.WalkO q loose XP YP l.row.toRowW d [] (fun f vs => PySem.call f vs) := by
  refine Att.attach_call hn hdf ?_
  intro w s₀ s₁ mg mb fa o pm cd doc a vs ns G Y ho hd hcd hmg hobj hints hlen hg
  obtain ⟨K, fd, sp, KX, hb, hsp, hF⟩ := F w mg fa _ Y G.T.g hmg
  exact law_callG KX G.T.g G.T.b G.T.builtins G.T.nolimit hg hobj hints (Nat.le_trans hlen hn2) hr hF hb (fun H hO hS => hsp H a ns hlen hO hS) fun H e s' => hCX H s₁ e s'

/-- a comprehension without a test -/
theorem yes {σ : L2.St} {H : Hp} {R S : Hp → Prop} (h : R H) : tYes σ H fun b H3 => if b = true then R H3 else S H3 := by
  show (if true = true then R H else S H)
  rw [if_pos rfl]
  exact h

/-! ### a def by its name -/
/-- the module's x is a def that keeps sp, called with every parameter written -/
structure Cal (P : Program) (w : World) (K : PySem.W.Frag) (mg : Str → Option Value) (base : Heap) (CX : CXT) (x : Str) (k : Nat) (ps : List Str) (sp : Sp) : Prop where
  ex : ∃ (f : Addr) (fd : FuncData), mg x = some (.ref f) ∧ PySem.W.keepIn K (.ref f) = true ∧ L2.Binds K fd ps [] ∧ FnOk P w K mg base CX k f fd ps sp
/-- the same with keywords alone, in the sequence ks -/
structure CalK (P : Program) (w : World) (K : PySem.W.Frag) (mg : Str → Option Value) (base : Heap) (CX : CXT) (x : Str) (k : Nat) (ps ks : List Str) (gV : List V → List V → List V) (sp : Sp) : Prop where
  ex : ∃ (f : Addr) (fd : FuncData) (g : List Value → List Value → List Value), mg x = some (.ref f) ∧ PySem.W.keepIn K (.ref f) = true ∧ KBn K fd ps 0 ks g gV ∧ FnOk P w K mg base CX k f fd ps sp
/-- called where no repr runs -/
structure CalG (P : Program) (w : World) (K : PySem.W.Frag) (mg : Str → Option Value) (base : Heap) (CX : CXT) (x : Str) (k : Nat) (ps : List Str) (sp : Sp) : Prop where
  ex : ∃ (f : Addr) (fd : FuncData), mg x = some (.ref f) ∧ PySem.W.keepIn K (.ref f) = true ∧ L2.Binds K fd ps [] ∧ FnG P w K mg base CX k f fd ps sp
section
variable {X : Cx} {CX : CXT} {k : Nat} {ps ks : List Str} {sp : Sp} {E : XK} {x : Str} {p pos : Pos} {e : Expr} {es : List Expr} {kws : List Keyword} {t tk : TA} {gV : List V → List V → List V}
theorem pe_c (C : Cal X.prog X.w X.K X.mg X.base CX x k ps sp) (hr : Room k X.A) (hx : Passes CX X E) (ha : PA X (e :: es) t) (hg : Gl X x := by rfl) (hdb : (x == ("__debug__" : Str)) = false := by decide)
    (he : starEach (e :: es) X.env = (false, eval e X.env) :: starEach es X.env := by rfl) (hpl : (backTo pos (starEach es X.env)).any (·.1) = false := by rfl) : PE X (.Call (.Name x p) (e :: es) [] pos) (tCall sp [] E t) := by
  obtain ⟨f, fd, h1, h2, h3, h4⟩ := C.ex
  exact pe_call h4 hr hg h1 h2 h3 .nil hx ha hdb he hpl
theorem pe_c0 (C : Cal X.prog X.w X.K X.mg X.base CX x k ps sp) (hr : Room k X.A) (hx : Passes CX X E) (hg : Gl X x := by rfl) (hdb : (x == ("__debug__" : Str)) = false := by decide) : PE X (.Call (.Name x p) [] [] pos) (tCall sp [] E tNil) := by
  obtain ⟨f, fd, h1, h2, h3, h4⟩ := C.ex
  exact pe_call0 h4 hr hg h1 h2 h3 .nil hx hdb
theorem pe_cG (C : CalG X.prog X.w X.K X.mg X.base CX x k ps sp) (hgd : X.A.guards = some []) (hr : Room k X.A) (hx : Passes CX X E) (ha : PA X (e :: es) t) (hg : Gl X x := by rfl) (hdb : (x == ("__debug__" : Str)) = false := by decide)
    (he : starEach (e :: es) X.env = (false, eval e X.env) :: starEach es X.env := by rfl) (hpl : (backTo pos (starEach es X.env)).any (·.1) = false := by rfl) : PE X (.Call (.Name x p) (e :: es) [] pos) (tCall sp [] E t) := by
  obtain ⟨f, fd, h1, h2, h3, h4⟩ := C.ex
  exact pe_callG h4 hgd hr hg h1 h2 h3 .nil hx ha hdb he hpl
/-- f(k = v, ..), keywords alone -/
theorem pe_ck (C : CalK X.prog X.w X.K X.mg X.base CX x k ps ks gV sp) (hr : Room k X.A) (hx : Passes CX X E) (hkw : PK X kws tk) (hg : Gl X x := by rfl)
    (hall : (backToKw pos (keywordEach kws X.env)).all (·.1.isSome) = true := by rfl) (hks : (backToKw pos (keywordEach kws X.env)).filterMap (·.1) = ks := by rfl) (hdb : (x == ("__debug__" : Str)) = false := by decide)
    (hpl : ((backTo pos (starEach [] X.env)).any (·.1) || (backToKw pos (keywordEach kws X.env)).any (·.1.isNone)) = false := by rfl) :
    PE X (.Call (.Name x p) [] kws pos) (tCallN 0 ks.length sp gV E tNil tk) := by
  obtain ⟨f, fd, g, h1, h2, h3, h4⟩ := C.ex
  constructor
  intro pins s σ H Q I h
  refine wpAny_Call_Name_kw (ld_glob I hg h1 ?_ hdb)
  refine PySem.W.callWith_KW0 (h₀ := X.base) I.ok.mod.kin h2 hall ?_ hpl
  refine thn (hkw.run pos pins s σ H _ I h) ?_
  rintro ws s2 ⟨zs, H2, I2, rz, l1, l2, q2⟩
  refine ⟨I2.kIn, ?_⟩
  rw [hks]
  exact run_fnN (us := []) (vs := []) h4 hr h3 hx I2 .nil rz rfl l2 q2
end
section
variable {P : Program} {w : World} {K : PySem.W.Frag} {mg : Str → Option Value} {base : Heap} {CX : CXT} {k : Nat} {ps ks : List Str} {sp : Sp} {x y q : Str} {pr : Arguments} {bd : List Stmt} {sc : Scope} {f : Addr} {fd : FuncData}
/-- hb: «fun _ _ _ _ _ _ us hl => match us, hl with | [_, _], _ => rfl» -/
theorem cal_of (F : FunD K y q pr bd sc [] [] f fd) (gl : mg x = some (.ref f)) (G : FnOk P w K mg base CX k f fd ps sp)
    (hb : ∀ (kV doc pm : Value) (an : Option Addr) (cdv ct : Value) (us : List Value), us.length = ps.length → bindArgs (PySem.W.fnOf y q pr bd sc .none kV doc pm an cdv ct) ⟨us, []⟩ = pure (ps.zip us)) : Cal P w K mg base CX x k ps sp :=
  ⟨f, fd, gl, F.kp, F.bindsN hb, G⟩
theorem calG_of (F : FunD K y q pr bd sc [] [] f fd) (gl : mg x = some (.ref f)) (G : FnG P w K mg base CX k f fd ps sp)
    (hb : ∀ (kV doc pm : Value) (an : Option Addr) (cdv ct : Value) (us : List Value), us.length = ps.length → bindArgs (PySem.W.fnOf y q pr bd sc .none kV doc pm an cdv ct) ⟨us, []⟩ = pure (ps.zip us)) : CalG P w K mg base CX x k ps sp :=
  ⟨f, fd, gl, F.kp, F.bindsN hb, G⟩
/-- keywords alone, each parameter by its name: ix the places of the parameters in ks -/
theorem calK_of (F : FunD K y q pr bd sc [] [] f fd) (gl : mg x = some (.ref f)) (G : FnOk P w K mg base CX k f fd ps sp) (g : {α : Type} → List α → List α)
    (hg : ∀ {vs : List V} {us : List Value}, Vals vs us → Vals (g vs) (g us))
    (hb : ∀ (kV doc pm : Value) (an : Option Addr) (cdv ct : Value) (ws : List Value), ws.length = ks.length → bindArgs (PySem.W.fnOf y q pr bd sc .none kV doc pm an cdv ct) ⟨[], ks.zip ws⟩ = pure (ps.zip (g ws))) : CalK P w K mg base CX x k ps ks (fun _ zs => g zs) sp := by
  refine ⟨f, fd, fun _ ws => g ws, gl, F.kp, ⟨?_, fun _ r => hg r⟩, G⟩
  intro s us ws X h1 h2
  have e : us = [] := List.length_eq_zero_iff.mp h1
  subst e
  obtain ⟨oc, od, dV, kV, doc, pm, an, cdv, ct, osl, rfl, lk, hcd, hD, hK⟩ := F.ex
  rcases hD with ⟨_, rfl⟩ | ⟨e, _⟩
  · exact .of_eq (hb kV doc pm an cdv ct ws h2)
  · exact absurd rfl e
end

/-! ### tuples never change; data made of tuples -/
def Tu (H H' : Hp) : Prop := ∀ b xs, H b = some (.tup xs) → H' b = some (.tup xs)
theorem Tu.refl (H : Hp) : Tu H H := fun _ _ h => h
theorem Tu.trans {H H1 H2 : Hp} (a : Tu H H1) (b : Tu H1 H2) : Tu H H2 := fun c xs h => b c xs (a c xs h)
theorem Same.tu {H H' : Hp} (s : Same H H') : Tu H H' := fun b xs h => s b _ h
theorem same_upd {H : Hp} {p : Addr} {o : HO} (h : H p = none) : Same H (upd H p o) := fun b x e => by
  rw [upd_ne (ne_of_none e h)]
  exact e
theorem same_mut {H H' : Hp} {p : Addr} {o : HO} (e : Same H H') (h : H p = none) : Same H (upd H' p o) := fun b u q => by
  rw [upd_ne (ne_of_none q h)]
  exact e b u q
theorem Tu.mut {H H' : Hp} {p : Addr} {o : HO} (e : Tu H H') (h : ∀ xs, H p ≠ some (.tup xs)) : Tu H (upd H' p o) := fun b xs q => by
  have hb : b ≠ p := by
    intro z
    rw [z] at q
    exact h xs q
  rw [upd_ne hb]
  exact e b xs q
mutual
/-- data of none, bools, ints, texts, tuples -/
inductive Tr (H : Hp) : V → PyData → Prop
  | non : Tr H .non .none
  | bl (b : Bool) : Tr H (.bl b) (.bool b)
  | int (i : Int) : Tr H (.int i) (.int i)
  | str (x : Str) : Tr H (.str x) (.str x)
  | tup {a : Addr} {xs : List V} {ds : List PyData} : H a = some (.tup xs) → TrAll H xs ds → Tr H (.ref a) (.tuple ds)
inductive TrAll (H : Hp) : List V → List PyData → Prop
  | nil : TrAll H [] []
  | cons {v : V} {vs : List V} {d : PyData} {ds : List PyData} : Tr H v d → TrAll H vs ds → TrAll H (v :: vs) (d :: ds)
end
mutual
theorem Tr.mono {H H' : Hp} (t : Tu H H') : ∀ {v : V} {d : PyData}, Tr H v d → Tr H' v d
  | _, _, .non => .non
  | _, _, .bl b => .bl b
  | _, _, .int i => .int i
  | _, _, .str x => .str x
  | _, _, .tup h a => .tup (t _ _ h) (TrAll.mono t a)
theorem TrAll.mono {H H' : Hp} (t : Tu H H') : ∀ {vs : List V} {ds : List PyData}, TrAll H vs ds → TrAll H' vs ds
  | _, _, .nil => .nil
  | _, _, .cons h a => .cons (Tr.mono t h) (TrAll.mono t a)
end
mutual
theorem Tr.dp {K : PySem.W.Frag} {H : Hp} : ∀ {v : V} {d : PyData}, Tr H v d → Dp K H v d
  | _, _, .non => .non
  | _, _, .bl b => .bl b
  | _, _, .int i => .int i
  | _, _, .str x => .str x
  | _, _, .tup h a => .tup (SqT.of h) (TrAll.dp a)
theorem TrAll.dp {K : PySem.W.Frag} {H : Hp} : ∀ {vs : List V} {ds : List PyData}, TrAll H vs ds → DpAll K H vs ds
  | _, _, .nil => .nil
  | _, _, .cons h a => .cons (Tr.dp h) (TrAll.dp a)
end
theorem TrAll.get {H : Hp} : ∀ {vs : List V} {ds : List PyData} {i : Nat} {v : V}, TrAll H vs ds → vs[i]? = some v → ∃ d, ds[i]? = some d ∧ Tr H v d
  | _, _, _, _, .nil, e => by simp at e
  | _, _, 0, _, .cons h _, e => by
    have e' := Option.some.inj (show some _ = some _ from e)
    subst e'
    exact ⟨_, rfl, h⟩
  | _, _, i + 1, v, .cons _ a, e => TrAll.get (i := i) (v := v) a e
theorem TrAll.length {H : Hp} : ∀ {vs : List V} {ds : List PyData}, TrAll H vs ds → vs.length = ds.length
  | _, _, .nil => rfl
  | _, _, .cons _ a => congrArg Nat.succ (TrAll.length a)
theorem tr_ints (H : Hp) : ∀ ns : List Int, TrAll H (ns.map V.int) (ns.map PyData.int)
  | [] => .nil
  | n :: ns => .cons (.int n) (tr_ints H ns)

/-! ### data compared -/
mutual
/-- no truths, no dicts; texts of signs -/
def Plain : PyData → Bool
  | .none => true
  | .bool _ => false
  | .int _ => true
  | .str x => PyData.strOk x
  | .list xs => PlainAll xs
  | .tuple xs => PlainAll xs
  | .dict _ => false
def PlainAll : List PyData → Bool
  | [] => true
  | x :: xs => Plain x && PlainAll xs
end
mutual
theorem eqv_eq : ∀ (d e : PyData), Plain d = true → Plain e = true → PyData.eqv d e = true → d = e
  | .none, e, _, h, q => by cases e <;> simp_all [PyData.eqv, Plain]
  | .bool _, e, h, _, q => by simp [Plain] at h
  | .int i, e, _, h, q => by cases e <;> simp_all [PyData.eqv, Plain]
  | .str x, e, _, h, q => by cases e <;> simp_all [PyData.eqv, Plain]
  | .list xs, e, h, h2, q => by
    cases e with
    | list ys =>
      rw [PyData.eqv] at q
      rw [Plain] at h h2
      rw [eqvAll_eq' xs ys h h2 q]
    | _ => simp [PyData.eqv] at q
  | .tuple xs, e, h, h2, q => by
    cases e with
    | tuple ys =>
      rw [PyData.eqv] at q
      rw [Plain] at h h2
      rw [eqvAll_eq' xs ys h h2 q]
    | _ => simp [PyData.eqv] at q
  | .dict _, e, h, _, q => by simp [Plain] at h
theorem eqvAll_eq' : ∀ (xs ys : List PyData), PlainAll xs = true → PlainAll ys = true → PyData.eqvAll xs ys = true → xs = ys
  | [], [], _, _, _ => rfl
  | [], y :: ys, _, _, q => by simp [PyData.eqvAll] at q
  | x :: xs, [], _, _, q => by simp [PyData.eqvAll] at q
  | x :: xs, y :: ys, h, h2, q => by
    rw [PyData.eqvAll, Bool.and_eq_true] at q
    rw [PlainAll, Bool.and_eq_true] at h h2
    rw [eqv_eq x y h.1 h2.1 q.1, eqvAll_eq' xs ys h.2 h2.2 q.2]
end
mutual
theorem Plain.lay : ∀ (d : PyData), Plain d = true → d.canLay0 = true
  | .none, _ => by simp [PyData.canLay0]
  | .bool _, h => by simp [Plain] at h
  | .int _, _ => by simp [PyData.canLay0]
  | .str x, h => by
    rw [Plain] at h
    rw [PyData.canLay0]
    exact h
  | .list xs, h => by
    rw [Plain] at h
    rw [PyData.canLay0]
    exact PlainAll.lay xs h
  | .tuple xs, h => by
    rw [Plain] at h
    rw [PyData.canLay0]
    exact PlainAll.lay xs h
  | .dict _, h => by simp [Plain] at h
theorem PlainAll.lay : ∀ (ds : List PyData), PlainAll ds = true → PyData.canLayAll0 ds = true
  | [], _ => by simp [PyData.canLayAll0]
  | d :: ds, h => by
    rw [PlainAll, Bool.and_eq_true] at h
    rw [PyData.canLayAll0, Plain.lay d h.1, PlainAll.lay ds h.2]
    rfl
end
theorem eqv_same {d : PyData} (h : Plain d = true) : PyData.eqv d d = true := SeqAt.eqv_refl d (Plain.lay d h)
theorem eqv_ne {d e : PyData} (h : Plain d = true) (k : Plain e = true) (n : d ≠ e) : PyData.eqv d e = false := by
  cases q : PyData.eqv d e with
  | false => rfl
  | true => exact absurd (eqv_eq d e h k q) n
theorem shaped_of {d : PyData} (h : Plain d = true) (k : d.depth ≤ 64) : SeqAt.shaped d = true := by
  unfold SeqAt.shaped
  rw [Plain.lay d h, decide_eq_true k]
  rfl
theorem plain_ints : ∀ ns : List Int, PlainAll (ns.map PyData.int) = true
  | [] => by simp [PlainAll]
  | n :: ns => by
    rw [List.map_cons, PlainAll, Plain, plain_ints ns]
    rfl
theorem depth_ints : ∀ ns : List Int, PyData.depthAll (ns.map PyData.int) = 0
  | [] => by simp [PyData.depthAll]
  | n :: ns => by
    rw [List.map_cons, PyData.depthAll, depth_ints ns, PyData.depth]
    rfl
theorem shaped_intL (ns : List Int) : SeqAt.shaped (.list (ns.map PyData.int)) = true := shaped_of (by rw [Plain]; exact plain_ints ns) (by rw [PyData.depth, depth_ints]; decide)
theorem shaped_intT (ns : List Int) : SeqAt.shaped (.tuple (ns.map PyData.int)) = true := shaped_of (by rw [Plain]; exact plain_ints ns) (by rw [PyData.depth, depth_ints]; decide)
theorem dp_ints (K : PySem.W.Frag) (H : Hp) : ∀ ns : List Int, DpAll K H (ns.map V.int) (ns.map PyData.int)
  | [] => .nil
  | n :: ns => .cons (.int n) (dp_ints K H ns)
/-- xs == [] of a list of ints -/
theorem eqv_nilL (ns : List Int) : PyData.eqv (.list (ns.map PyData.int)) (.list []) = ns.isEmpty := by
  cases ns with
  | nil => simp [PyData.eqv, PyData.eqvAll]
  | cons n ns => simp [PyData.eqv, PyData.eqvAll]
/-- xs != [], the empty list just laid at p: its answer -/
theorem ne_nil {K : PySem.W.Frag} {H : Hp} {a : Addr} {ns : List Int} {p : Addr} {Q : VK} (h : SqL K H a (ns.map V.int)) (hp : H p = none) (q : Q (.bl (!ns.isEmpty)) (upd H p (.lst []))) : rNeD K (.ref a) (.ref p) (upd H p (.lst [])) Q := by
  refine ⟨.list (ns.map PyData.int), .list [], .lst ((same_upd hp).seq h) (dp_ints K _ ns), .lst (SqL.of upd_same) .nil, shaped_intL ns, shaped_intL [], ?_⟩
  rw [eqv_nilL]
  exact q
/-- xs == [] -/
theorem eq_nil {K : PySem.W.Frag} {H : Hp} {a : Addr} {ns : List Int} {p : Addr} {Q : VK} (h : SqL K H a (ns.map V.int)) (hp : H p = none) (q : Q (.bl ns.isEmpty) (upd H p (.lst []))) : rEqD K (.ref a) (.ref p) (upd H p (.lst [])) Q := by
  refine ⟨.list (ns.map PyData.int), .list [], .lst ((same_upd hp).seq h) (dp_ints K _ ns), .lst (SqL.of upd_same) .nil, shaped_intL ns, shaped_intL [], ?_⟩
  rw [eqv_nilL]
  exact q

/-! ### data that is shown in few signs -/
mutual
def Ints12 : PyData → Bool
  | .int i => decide (i.natAbs < 10 ^ 12)
  | .list xs => Ints12All xs
  | .tuple xs => Ints12All xs
  | .dict _ => false
  | .none => true
  | .bool _ => true
  | .str _ => true
def Ints12All : List PyData → Bool
  | [] => true
  | x :: xs => Ints12 x && Ints12All xs
end
theorem log_small {n : Nat} (h : n < 10 ^ 12) : n.log2 < 1920 := by
  have h2 : n < 2 ^ 40 := Nat.lt_trans h (by decide)
  by_cases e : n = 0
  · subst e
    decide
  · have := (Nat.log2_lt e).mpr h2
    omega
mutual
theorem Ints12.show : ∀ (d : PyData), Ints12 d = true → d.showable = true ∧ d.intsShort 13 = true
  | .none, _ => by simp [PyData.showable, PyData.intsShort]
  | .bool _, _ => by simp [PyData.showable, PyData.intsShort]
  | .str _, _ => by simp [PyData.showable, PyData.intsShort]
  | .int i, h => by
    rw [Ints12, decide_eq_true_eq] at h
    rw [PyData.showable, PyData.intsShort, decide_eq_true_eq, decide_eq_true_eq]
    exact ⟨log_small h, PyData.shown_int_le h⟩
  | .list xs, h => by
    rw [Ints12] at h
    rw [PyData.showable, PyData.intsShort]
    exact Ints12All.show xs h
  | .tuple xs, h => by
    rw [Ints12] at h
    rw [PyData.showable, PyData.intsShort]
    exact Ints12All.show xs h
  | .dict _, h => by simp [Ints12] at h
theorem Ints12All.show : ∀ (ds : List PyData), Ints12All ds = true → PyData.showableAll ds = true ∧ PyData.intsShortAll 13 ds = true
  | [], _ => by simp [PyData.showableAll, PyData.intsShortAll]
  | d :: ds, h => by
    rw [Ints12All, Bool.and_eq_true] at h
    obtain ⟨a, b⟩ := Ints12.show d h.1
    obtain ⟨a', b'⟩ := Ints12All.show ds h.2
    rw [PyData.showableAll, PyData.intsShortAll, a, b, a', b']
    exact ⟨rfl, rfl⟩
end
theorem shown_short {d : PyData} (h : Plain d = true) (k : Ints12 d = true) (b : d.bulk ≤ 2 ^ 20) : d.shown.length ≤ sizeLine :=
  PyData.shown_fits_bulk (B := 13) (by decide) (by decide) (PyData.leavesShort_of_canLay0 13 d (Plain.lay d h) (Ints12.show d k).2) b
theorem ints12_ints : ∀ ns : List Int, (∀ n ∈ ns, n.natAbs < 10 ^ 12) → Ints12All (ns.map PyData.int) = true
  | [], _ => by simp [Ints12All]
  | n :: r, h => by
    rw [List.map_cons, Ints12All, Ints12, decide_eq_true (h n (List.mem_cons_self ..)), ints12_ints r fun m hm => h m (List.mem_cons_of_mem _ hm)]
    rfl
theorem bulk_ints : ∀ ns : List Int, PyData.bulkAll (ns.map PyData.int) = ns.length
  | [] => by simp [PyData.bulkAll]
  | n :: r => by
    rw [List.map_cons, PyData.bulkAll, PyData.bulk, bulk_ints r, List.length_cons]
    omega

/-! ### the rules with the written part K by its name (within a comprehension's block a reading may not hang on the block) -/
section
variable {X : Cx} (K : PySem.W.Frag)
theorem k_ix (h : X.K = K := by rfl) : IxR X (rIx K) := by subst h; exact ix_seq
theorem k_eq (hu : X.A.units + 64 < cLine) (h : X.K = K := by rfl) : OpR X (compareOp .Eq) (rEqD K) := by subst h; exact op_eqD hu
theorem k_ne (hu : X.A.units + 64 < cLine) (h : X.K = K := by rfl) : OpR X (compareOp .NotEq) (rNeD K) := by subst h; exact op_neD hu
theorem k_in (h : X.K = K := by rfl) : OpR X (compareOp .In) (rIn K false) := by subst h; exact op_in_seq
theorem k_nin (h : X.K = K := by rfl) : OpR X (compareOp .NotIn) (rIn K true) := by subst h; exact op_notIn_seq
def rLenK : List V → Hp → VK → Prop := fun xs H Q => ∃ x n, xs = [x] ∧ LenV K x H n ∧ Q (.int n) H
theorem k_len (h : X.K = K := by rfl) : CallR X (.builtin "len") (rLenK K) := by subst h; exact call_len
theorem k_isi (h : X.K = K := by rfl) : CallR X (.builtin "isinstance") (rIsi K) := by subst h; exact call_isi
theorem k_isiT (h : X.K = K := by rfl) : CallR X (.builtin "isinstance") (rIsiT K) := by subst h; exact call_isiT
def rListK : List V → Hp → VK → Prop := fun xs H Q => ∃ p ys, xs = [.ref p] ∧ (SqL K H p ys ∨ SqT K H p ys) ∧ ∀ l, H l = none → Q (.ref l) (upd H l (.lst ys))
theorem k_list (h : X.K = K := by rfl) : CallR X (.type "list") (rListK K) := by subst h; exact call_list_of
def rTupleK : List V → Hp → VK → Prop := fun xs H Q => ∃ p ys, xs = [.ref p] ∧ ((SqL K H p ys ∧ ∀ l, H l = none → Q (.ref l) (upd H l (.tup ys))) ∨ (SqT K H p ys ∧ Q (.ref p) H))
theorem k_tuple (h : X.K = K := by rfl) : CallR X (.type "tuple") (rTupleK K) := by subst h; exact call_tuple_of
theorem k_sorted (h : X.K = K := by rfl) : CallR X (.builtin "sorted") (rSortedI K) := by subst h; exact cr_sortedI
theorem k_max (hc : X.calm = true) (h : X.K = K := by rfl) : CallR X (.builtin "max") (rMax K) := by subst h; exact cr_max hc
theorem k_min (hc : X.calm = true) (h : X.K = K := by rfl) : CallR X (.builtin "min") (rMin K) := by subst h; exact cr_min hc
theorem k_repr (hg : X.A.guards = some []) (hu : X.A.units + 101 < cLine) (h : X.K = K := by rfl) : CallR X (.builtin "repr") (rRepr K) := by subst h; exact call_repr hg hu
theorem k_extT (h : X.K = K := by rfl) : MtM X "list.extend" (rExtT K) := by subst h; exact mt_extT
theorem k_pil {tg l : Expr} {tl : TE} (hl : PE X l tl) (h : X.K = K := by rfl) : PI X tg l (iList K tl) := by subst h; exact pi_list hl
theorem k_pit {tg l : Expr} {tl : TE} (hl : PE X l tl) (h : X.K = K := by rfl) : PI X tg l (iTup K tl) := by subst h; exact pi_tup hl
theorem k_pgt {es : List Expr} {k n : Nat} {t : TGs} {pos : Pos} (hc : X.calm = true) (hp : PGs X es t) (hn : (assignEach es X.env).length = n := by rfl) (hst : (assignEach es X.env).findIdx? (·.1) = none := by rfl) (h : X.K = K := by rfl) :
    PG X (.Tuple es k pos) (gTup K n t) := by subst h; exact pg_tup hc hp hn hst
theorem k_sll (h : X.K = K := by rfl) : SlR X (rSlL K) := by subst h; exact sl_list
theorem k_slt (h : X.K = K := by rfl) : SlR X (rSlT K) := by subst h; exact sl_tup
variable {o e : Expr} {es : List Expr} {to : TE} {t : TA} {name : PySem.Str} {apos cpos : Pos} {T id : String} {r : V → List V → Hp → VK → Prop}
theorem k_bm0 (pa : PlainAttrs T) (slot : Slot T name id) (hty : typeOf (.builtin id) = pure (.type "method_descriptor")) (hm : MtR X id r) (ho : PE X o to)
    (hbase : attributeBase o name X.env (eval o X.env) = eval o X.env := by rfl) (hline : (apos.endLine == cpos.line) = true := by rfl) (h : X.K = K := by rfl) : PE X (.Call (.Attribute o name apos) [] [] cpos) (tBM0 K T r to) := by
  subst h
  exact pe_bm0 pa slot hty hm ho hbase hline
theorem k_bm (pa : PlainAttrs T) (slot : Slot T name id) (hty : typeOf (.builtin id) = pure (.type "method_descriptor")) (hm : MtR X id r) (ho : PE X o to) (ha : PA X (e :: es) t)
    (hbase : attributeBase o name X.env (eval o X.env) = eval o X.env := by rfl)
    (hfew : ((backTo cpos (starEach (e :: es) X.env)).all (fun x => !x.1) && (backToKw cpos (keywordEach [] X.env)).all (fun x => x.1.isSome)
      && decide ((e :: es).length + ([] : List Keyword).length + (if ([] : List Keyword).isEmpty then 0 else 1) < 30)) = true := by rfl)
    (hline : (apos.endLine == cpos.line) = true := by rfl) (hs : starEach (e :: es) X.env = (false, eval e X.env) :: starEach es X.env := by rfl) (hplain : (backTo cpos (starEach es X.env)).any (·.1) = false := by rfl) (h : X.K = K := by rfl) :
    PE X (.Call (.Attribute o name apos) (e :: es) [] cpos) (tBM K T r to t) := by
  subst h
  exact pe_bm pa slot hty hm ho ha hbase hfew hline hs hplain
end
theorem vals_rev {xs : List V} {us : List Value} (r : Vals xs us) : Vals xs.reverse us.reverse := by
  induction r with
  | nil => exact .nil
  | cons h _ ih =>
    rw [List.reverse_cons, List.reverse_cons]
    exact ih.append (.cons h .nil)
end U


set_option Elab.async false
set_option linter.all false
set_option maxRecDepth 100000
set_option maxHeartbeats 4000000
namespace U
open PySem PySem.Spec PyProof.Rows L2

/-! ### xs == [], xs != [] of any list -/
def rEqNil (K : PySem.W.Frag) : R2 := fun x y H Q => ∃ a b xs, x = .ref a ∧ y = .ref b ∧ SqL K H a xs ∧ SqL K H b [] ∧ Q (.bl xs.isEmpty) H
def rNeNil (K : PySem.W.Frag) : R2 := fun x y H Q => ∃ a b xs, x = .ref a ∧ y = .ref b ∧ SqL K H a xs ∧ SqL K H b [] ∧ Q (.bl (!xs.isEmpty)) H
section
variable {X : Cx}
theorem nil_items {ws : List Value} (r : Vals [] ws) : ws = [] := by cases r; rfl
theorem op_eqNil (hu : X.A.units + 64 < cLine) : OpR X (compareOp .Eq) (rEqNil X.K) := by
  intro pins s σ H x y v u Q I rx ry h
  obtain ⟨a, b, xs, rfl, rfl, ha, hb, q⟩ := h
  cases rx
  cases ry
  obtain ⟨its, r1, p1, z1⟩ := I.list ha
  obtain ⟨its2, r2, p2, z2⟩ := I.list hb
  have hu' : X.A.units < cLine := by omega
  cases xs with
  | nil =>
    have e1 := nil_items r1
    have e3 := nil_items r2
    subst e1 e3
    exact SeqAt.eq_listAt (e := fun _ => true) (items := #[]) (items2 := #[]) p1.isList p2.isList rfl hu' (fun j h1 h2 => absurd h1 (Nat.not_lt_zero _)) ⟨.bl true, H, I, rfl, q⟩
  | cons c cs =>
    have e3 := nil_items r2
    subst e3
    have hl := r1.length
    refine SeqAt.eq_list_lengthsAt p1.isList p2.isList (by simp [← hl]) hu' ⟨.bl false, H, I, rfl, q⟩
end
end U
namespace U
open PySem PySem.Spec PyProof.Rows L2
section
variable {X : Cx}
theorem op_neNil (hu : X.A.units + 64 < cLine) : OpR X (compareOp .NotEq) (rNeNil X.K) := by
  intro pins s σ H x y v u Q I rx ry h
  obtain ⟨a, b, xs, rfl, rfl, ha, hb, q⟩ := h
  cases rx
  cases ry
  obtain ⟨its, r1, p1, z1⟩ := I.list ha
  obtain ⟨its2, r2, p2, z2⟩ := I.list hb
  have hu' : X.A.units < cLine := by omega
  have e3 := nil_items r2
  subst e3
  cases xs with
  | nil =>
    have e1 := nil_items r1
    subst e1
    exact SeqAt.RcNeAt.lists (e := fun _ => true) (items := #[]) (items2 := #[]) p1.isList p2.isList rfl hu' (fun j h1 h2 => absurd h1 (Nat.not_lt_zero _)) X.prog X.w X.xe _ ⟨.bl false, H, I, rfl, q⟩
  | cons c cs =>
    have hl := r1.length
    exact SeqAt.RcNeAt.lists_lengths p1.isList p2.isList (by simp [← hl]) hu' X.prog X.w X.xe _ ⟨.bl true, H, I, rfl, q⟩
end

/-! ### t[::-1] of a tuple -/
section
variable {prog : Program} {w : World} {A : Around} {E : Value → Shared → Prop} {s : Shared}
theorem back_adjust (n : Nat) : Builtin.Slice.sliceAdjust none none (-1) (n : Int) = ((n : Int) - 1, -1) := by
  first
  | rfl
  | simp [Builtin.Slice.sliceAdjust]
theorem back_places (n : Nat) : Builtin.Slice.slicePlaces ((n : Int) - 1) (-1) (-1) = n := by
  unfold Builtin.Slice.slicePlaces
  by_cases h : n = 0
  · subst h
    simp
  · simp
    omega
theorem congr_filterMap {α β : Type} {f g : α → Option β} : ∀ {l : List α}, (∀ x ∈ l, f x = g x) → l.filterMap f = l.filterMap g
  | [], _ => rfl
  | x :: l, h => by
    rw [List.filterMap_cons, List.filterMap_cons, h x (List.mem_cons_self ..), congr_filterMap fun y hy => h y (List.mem_cons_of_mem _ hy)]
theorem back_pick (xs : Array Value) : ((List.range xs.size).filterMap fun (m : Nat) => xs[(((xs.size : Nat) : Int) - 1 + (m : Int) * (-1)).toNat]?).toArray = xs.toList.reverse.toArray := by
  have e : (fun (m : Nat) => xs[(((xs.size : Nat) : Int) - 1 + (m : Int) * (-1)).toNat]?) = fun (m : Nat) => xs[(((xs.size : Nat) : Int) - 1 - (m : Int)).toNat]? := by
    funext m
    rw [show ((xs.size : Nat) : Int) - 1 + (m : Int) * (-1) = ((xs.size : Nat) : Int) - 1 - (m : Int) by omega]
  rw [e]
  have h : (List.range xs.size).filterMap (fun (m : Nat) => xs[(((xs.size : Nat) : Int) - 1 - (m : Int)).toNat]?) = ((List.range xs.size).map (fun k => xs.size - 1 - k)).filterMap (xs[·]?) := by
    rw [List.filterMap_map]
    refine congr_filterMap fun m hm => ?_
    have := List.mem_range.mp hm
    show xs[(((xs.size : Nat) : Int) - 1 - (m : Int)).toNat]? = xs[xs.size - 1 - m]?
    rw [show (((xs.size : Nat) : Int) - 1 - (m : Int)).toNat = xs.size - 1 - m by omega]
  rw [h, PySem.W.krv_range, List.filterMap_reverse, PySem.W.krv_all]
theorem sliceApplied_back {sl : Addr} {vl vu vs : Value} {n : Nat} {Q : Int × Int × Nat → Shared → Prop} (hs : s.heap.IsSliceOf sl vl vu vs) (pl : IsPart vl none) (pu : IsPart vu none) (ps : IsPart vs (some (-1)))
    (h : Q ((n : Int) - 1, -1, n) s) : wpAny (model prog w) A (Builtin.Slice.sliceApplied (.ref sl) (pure (n : Int))) Q E s := by
  obtain ⟨os, hos, hcs, hds⟩ := id hs
  unfold Builtin.Slice.sliceApplied Builtin.Slice.sliceFields
  refine wpAny_bind (wpAny_bind (wpAny_field hos hds (x := vl) rfl (wpAny_bind (wpAny_field hos hds (x := vu) rfl (wpAny_bind (wpAny_field hos hds (x := vs) rfl (wpAny_pure ?_)))))))
  refine wpAny_bind (HT.slicePart_ ps ?_)
  show wpAny _ _ (if ((-1 : Int) == 0) = true then _ else _) _ _ s
  rw [if_neg (by decide)]
  refine wpAny_bind (HT.slicePart_ pl (wpAny_bind (HT.slicePart_ pu (wpAny_bind (wpAny_pure ?_)))))
  show wpAny _ _ (match Builtin.Slice.sliceAdjust none none (-1) (n : Int) with | (lo, hi) => pure (lo, (-1 : Int), Builtin.Slice.slicePlaces lo hi (-1))) _ _ s
  rw [back_adjust n]
  show wpAny _ _ (pure ((n : Int) - 1, (-1 : Int), Builtin.Slice.slicePlaces ((n : Int) - 1) (-1) (-1))) _ _ s
  rw [back_places]
  exact wpAny_pure h
theorem getItem_tuple_back {t sl : Addr} {items : Array Value} {vl vu vs : Value} {Q : Value → Shared → Prop} (ht : IsTup s.heap t items) (hs : s.heap.IsSliceOf sl vl vu vs) (pl : IsPart vl none) (pu : IsPart vu none) (ps : IsPart vs (some (-1)))
    (h : Q (.ref s.heap.objs.size) { s with heap := s.heap.push { cls := .type "tuple", data := .seq items.toList.reverse.toArray } })
    (hsz : items.size ≤ sizeLine) : wpAny (model prog w) A (getItem (.ref t) (.ref sl)) Q E s := by
  have htake : sizeOk (.seq items.toList.reverse.toArray) := by
    show (items.toList.reverse.toArray).size ≤ sizeLine
    rw [List.size_toArray, List.length_reverse, Array.length_toList]
    exact hsz
  obtain ⟨os, hos, hcs, hds⟩ := id hs
  have hTs : s.TypeIs (.ref sl) "slice" := ⟨os, hos, hcs⟩
  unfold getItem
  try with_reducible refine wpAny_holding ?_
  first | refine wpAny_bind (wpAny_pure ?_) | skip
  refine wpAny_bind (wpAny_sequenceKey ht.typeIs (by decide) ?_)
  refine wpAny_bind (wpAny_callSpecial?_slot (name := Str.ofString "__getitem__") ht.typeIs PyProof.Rows.slot_tuple_getitem
    (wpAny_call_entry PyProof.Rows.slot_tuple_getitem ht.typeIs PyProof.Rows.entry_tuple_getitem ?_ (PyProof.Rows.args_tuple_getitem _ _)))
  show wpAny _ _ (Builtin.Tuple.tupleItemsOf (.ref t) >>= _) _ _ s
  refine wpAny_bind (PyProof.Rows.tupleItemsOf_ ht ?_)
  refine wpAny_bind (wpAny_typeOf hTs ?_)
  rw [if_pos (by decide)]
  refine wpAny_bind (sliceApplied_back hs pl pu ps ?_)
  have hno : ¬ ((((items.size : Nat) : Int) - 1 == 0 && (-1 : Int) == 1 && items.size == items.size) = true) := by
    intro q
    rw [Bool.and_eq_true, Bool.and_eq_true] at q
    exact absurd q.1.2 (by decide)
  show wpAny _ _ (if (((items.size : Nat) : Int) - 1 == 0 && (-1 : Int) == 1 && items.size == items.size) = true then _ else _) _ _ s
  rw [if_neg hno, back_pick]
  first
    | exact wpAny_bind (m := Builtin.Tuple.tupleExact _) (wpAny_newObj_type (wpAny_pure ⟨_, rfl, wpAny_pure h⟩) htake)
    | exact wpAny_bind (m := Builtin.Tuple.tupleExact _) (wpAny_newObj_type (wpAny_bind (wpAny_pure (wpAny_pure ⟨_, rfl, wpAny_pure h⟩))) htake)
    | exact wpAny_bind (wpAny_bind (m := Builtin.Tuple.tupleExact _) (wpAny_newObj_type (wpAny_pure (wpAny_pure ⟨_, rfl, wpAny_pure h⟩)) htake))
    | exact wpAny_bind (wpAny_bind (m := Builtin.Tuple.tupleExact _) (wpAny_newObj_type (wpAny_pure ⟨_, rfl, wpAny_pure h⟩) htake))
end
def tRevT (K : PySem.W.Frag) (te : TE) : TE := fun σ H Q => te σ H fun x H1 => ∃ a xs, x = .ref a ∧ SqT K H1 a xs ∧ ∀ p, H1 p = none → Q (.ref p) (upd H1 p (.tup xs.reverse))
section
variable {X : Cx}
theorem pe_revT {e : Expr} {te : TE} {k : Nat} {p1 p2 p3 pos : Pos} (he : PE X e te) : PE X (.Subscript e (.Slice none none (some (.UnaryOp .USub (.Constant (.int 1) k p1) p2)) p3) pos) (tRevT X.K te) := by
  refine ⟨fun pins s σ H Q I h => ?_⟩
  refine Subscript_ (thn (he.run pins s σ H _ I h) fun v s1 ⟨x, H1, I1, r1, q1⟩ => ?_)
  obtain ⟨a, xs, ex, hx, q⟩ := q1
  subst ex
  cases r1
  have hst : PO X (some (.UnaryOp .USub (.Constant (.int 1) k p1) p2)) (tPart (tUn (rU fun i => .int (-i)) (tC (.int 1)))) := po_some (pe_un un_neg pe_int)
  refine wpAny_Slice (thn (po_none.run pins s1 σ H1 (fun o H2 => o = none ∧ H2 = H1) I1 ⟨rfl, rfl⟩) fun vl s2 ⟨l, H2, I2, pl, el, e2⟩ => ?_)
  subst el e2
  refine thn (po_none.run pins s2 σ H2 (fun o H3 => o = none ∧ H3 = H2) I2 ⟨rfl, rfl⟩) fun vu s3 ⟨u, H3, I3, pu, eu, e3⟩ => ?_
  subst eu e3
  refine thn (hst.run pins s3 σ H3 (fun o H4 => o = some (-1) ∧ H4 = H3) I3 ⟨1, rfl, -1, rfl, rfl, rfl⟩) fun vs s4 ⟨o, H4, I4, ps, eo, e4⟩ => ?_
  subst eo e4
  have I5 : Inv X pins σ H4 { s4 with heap := s4.heap.push { cls := .type "slice", data := .fields #[vl, vu, vs] } } := I4.kept (t' := s4.toks) fun b ob q => Heap.get?_push_of_some _ q
  obtain ⟨its, r, ht, hz⟩ := I5.tuple hx
  have hlen := r.length
  show wpAny (model X.prog X.w) X.A (subscriptTail e (.Slice none none (some (.UnaryOp .USub (.Constant (.int 1) k p1) p2)) p3) (.ref a) (.ref s4.heap.objs.size)) (EP X pins σ Q) X.xe { s4 with heap := s4.heap.push { cls := .type "slice", data := .fields #[vl, vu, vs] } }
  refine tail_any (ops := [.ref a, .ref s4.heap.objs.size]) ht.typeIs (PyProof.Rows.slot_tuple_getitem.lookup) ?_ (by with_unfolding_all rfl)
  refine getItem_tuple_back ht (Heap.IsSliceOf.new _ vl vu vs) pl pu ps ?_ (by rw [List.size_toArray]; omega)
  refine ⟨.ref _, _, I5.laid (t' := s4.toks) (o := .tup xs.reverse) (fun b ob q => Heap.get?_push_of_some _ q) (Nat.le_refl _) ?_, rfl, q _ (I5.hok.fresh (Nat.le_refl _))⟩
  exact ⟨by rw [List.length_reverse]; exact hz, _, r.reverse, IsTup.new _ _⟩
end

/-! ### enumerate(tuple) -/
theorem meets_enum_newA {v : Value} {o : Obj} {H : Heap → Prop} (B : Begins v o H) :
    Meets (Builtin.«enumerate.__new__» ⟨[.type "enumerate", v], []⟩) (fun _ R s => H s.heap ∧
      R (.ok (.ret (.ref (s.heap.push o).objs.size))) { s with heap := (s.heap.push o).push { cls := .type "enumerate", data := .fields #[.none, .bool false, .ref s.heap.objs.size, rawInt 0, .none, .none] } }) :=
  .of_wp fun prog w A R s h => by
    obtain ⟨hp, g, d, tk, os⟩ := s; obtain ⟨h1, h⟩ := h
    have hsub := sub_enumerate
    have q1 : ∀ {A' : Around} {E : Value → Shared → Prop} {Q : Value → Shared → Prop}, Q (.ref hp.objs.size) ⟨hp.push o, g, d, tk, os⟩ → wpAny (model prog w) A' (pyIter v) Q E ⟨hp, g, d, tk, os⟩ :=
      fun q => B.iter prog w _ _ ⟨hp, g, d, tk, os⟩ _ h1 q
    wp_walk using q1
    refine wpAny_stack_any fun st => wpAny_pure ?_
    split
    · rename_i c _ _ _ _ _
      cases (c == Value.type "enumerate")
      · wp_walk using q1
        exact ⟨_, rfl, h⟩
      · wp_walk using q1
        exact ⟨_, rfl, h⟩
    · wp_walk using q1
      exact ⟨_, rfl, h⟩
theorem enum_beginsA {prog : Program} {w : World} {A : Around} {E : Value → Shared → Prop} {s : Shared} {v : Value} {o : Obj} {H : Heap → Prop} {Q : Value → Shared → Prop} (B : Begins v o H) (h1 : H s.heap)
    (h : ∀ h', IsEnum h' (s.heap.objs.size + 1) s.heap.objs.size 0 .none → h'.get? s.heap.objs.size = some o → h'.objs.size = s.heap.objs.size + 2 →
      (∀ b o, s.heap.get? b = some o → h'.get? b = some o) → Q (.ref (s.heap.objs.size + 1)) { s with heap := h' }) :
    wpAny (model prog w) A (call (.type "enumerate") [v]) Q E s := by
  refine callType_new F.called_enumerate (by decide) (F.typeCall_enumerate_1 _) (F.newCall_enumerate_1 _) (fun obj => F.args_object_init_2 obj _) F.entry_enumerate_new
    (meets_enum_newA B) ⟨h1, ?_⟩
  have hz : (s.heap.push o).objs.size = s.heap.objs.size + 1 := Heap.size_push ..
  show _ ∧ _
  rw [hz]
  have he : IsEnum ((s.heap.push o).push { cls := .type "enumerate", data := .fields #[.none, .bool false, .ref s.heap.objs.size, rawInt 0, .none, .none] }) (s.heap.objs.size + 1) s.heap.objs.size 0 .none := by
    have := Heap.get?_push_size (s.heap.push o) (o := { cls := .type "enumerate", data := .fields #[.none, .bool false, .ref s.heap.objs.size, rawInt 0, .none, .none] }) rfl
    rw [hz] at this; exact this
  refine ⟨⟨_, he, rfl⟩, h _ he (Heap.get?_push_of_some _ (Heap.get?_push_size _ B.free)) (by rw [Heap.size_push, hz]) fun b o x => Heap.get?_push_of_some _ (Heap.get?_push_of_some _ x)⟩
/-- the tuple at a, each item in a new pair -/
def IteT (K : PySem.W.Frag) (a : Addr) (n : Nat) : It :=
  ⟨fun i H => i < n ∧ ∃ (xs : List V) (x : V), SqT K H a xs ∧ xs[i]? = some x, fun i H v H' => ∃ T x, v = .ref T ∧ H T = none ∧ H' = upd H T (.tup [.int (i : Nat), x]) ∧ ∀ xs, SqT K H a xs → xs[i]? = some x, fun i H => n ≤ i ∧ ∃ xs : List V, SqT K H a xs ∧ xs.length = n⟩
theorem tup_of {h : Heap} {a : Addr} {items : Array Value} (p : IsTup h a items) : h.IsTuple a items := p
theorem turn_enumT {P : Program} {w : World} {K : PySem.W.Frag} {elts : List Expr} {kk : Nat} {tpos : Pos} (a e it : Addr) (n : Nat) :
    Turn P w K (.Tuple elts kk tpos) (IteT K a n) [e, it] e (fun i h => i ≤ n ∧ (∃ old, IsEnum h e it ((i : Nat) : Int) old) ∧ h.IsTupleIter it a i ∧ e ≠ it ∧ a ≠ it ∧ e ≠ a) where
  mem := by simp
  obj := fun i h st b hb => by
    obtain ⟨_, ⟨old, he⟩, ⟨o, ho, hc, hd⟩, _⟩ := st
    have e' : b = e ∨ b = it := by simpa using hb
    rcases e' with z | z
    · rw [z]; exact ⟨_, he, fun v q => nomatch q⟩
    · rw [z]; exact ⟨o, ho, fun v q => by rw [hd] at q; cases q⟩
  keep := fun i h h' st k => let ⟨hn, ⟨old, he⟩, hi, hne⟩ := st; ⟨hn, ⟨old, k e (by simp) _ he⟩, hi.at fun o q => k it (by simp) o q, hne⟩
  item := by
    intro X hP hw hK hc i pins s σ H E I hf st hg
    subst hP hw hK
    obtain ⟨hle, ⟨old, he⟩, hit, hne, hai, hea⟩ := st
    obtain ⟨hlt, xs, x, hq, hx⟩ := hg
    obtain ⟨its, rv, p, hz⟩ := I.tuple hq
    obtain ⟨u, hu, ru⟩ := rv.get hx
    have hel : e < s.heap.objs.size := Heap.lt_size he
    have hil : it < s.heap.objs.size := by obtain ⟨_, q, _⟩ := hit; exact Heap.lt_size q
    have hin : i < its.toArray.size := by
      rw [List.size_toArray]
      exact (List.getElem?_eq_some_iff.mp hu).1
    have hh : X.A.in1.handled = none := I.ok.hd hc
    refine wpAny_pyNext_enum_itemC (Draws.tuple hh it a hai its.toArray) he ⟨hit, tup_of p⟩ hin hne (by simp [hne, hea]) fun y h' tk hPy ho hit' hT hsz hk => ?_
    have ey : y = u := by
      have z : its[i]? = some y := by simpa using hPy
      rw [hu] at z
      exact (Option.some.inj z).symm
    subst ey
    refine ⟨_, rfl, wpAny_letOwnedTupleGo_enum (s := { s with heap := h', toks := tk + 1 }) ho fun h'' he' sb => ?_⟩
    have hT2 : h''.get? s.heap.objs.size = some { cls := .type "tuple", data := .seq #[.int i tk, y] } := (sb.2 _ (Nat.ne_of_gt hel)).trans hT
    have new : ObjOk X.prog X.w (upd H s.heap.objs.size (.tup [.int (i : Nat), x])) h'' s.heap.objs.size (.tup [.int (i : Nat), x]) :=
      ⟨by show 2 ≤ sizeLine; decide, [.int i tk, y], .cons ⟨_, rfl⟩ (.cons ru .nil), ⟨_, hT2, rfl, _, rfl⟩⟩
    have I1 : Inv X pins σ (upd H s.heap.objs.size (.tup [.int (i : Nat), x])) { s with heap := h'', toks := tk + 1 } :=
      I.turnedNew (ch := [e, it]) (fun b ob hb q => (sb.2 b (fun z => hb (by simp [z]))).trans (hk b ob (fun z => hb (by simp [z])) (fun z => hb (by simp [z])) q)) hf (Nat.le_refl _) new
    refine ⟨.ref s.heap.objs.size, _, I1, rfl, ⟨_, x, rfl, I.hok.fresh (Nat.le_refl _), rfl, fun ys hy => by rw [I.tuple_inj hy hq]; exact hx⟩, ⟨hlt, ⟨y, ?_⟩, hit'.1.at fun o q => (sb.2 it (Ne.symm hne)).trans q, hne, hai, hea⟩, fun b hb => ?_⟩
    · have e1 : ((i + 1 : Nat) : Int) = (i : Int) + 1 := by omega
      rw [e1]; exact he'
    · have hb' : b < s.heap.objs.size := by
        have e' : b = e ∨ b = it := by simpa using hb
        rcases e' with z | z
        · rw [z]; exact hel
        · rw [z]; exact hil
      rw [upd_ne (Nat.ne_of_lt hb')]
      exact (hf b hb).1
  done := by
    intro X hP hw hK hc i pins s σ H E I hf st hg
    subst hP hw hK
    obtain ⟨hle, ⟨old, he⟩, hit, hne, hai, hea⟩ := st
    obtain ⟨hni, xs, hq, hx⟩ := hg
    obtain ⟨its, rv, p, hz⟩ := I.tuple hq
    obtain ⟨f0, f1, f2, f3, f4, f5⟩ := hf it (by simp)
    have hl := rv.length
    have hh : X.A.in1.handled = none := I.ok.hd hc
    have ei : i = its.toArray.size := by
      rw [List.size_toArray]
      omega
    subst ei
    exact wpAny_pyNext_enum_endD (Draws.tuple hh it a hai its.toArray) he ⟨hit, tup_of p⟩ fun h' eb => ⟨rfl, I.turned (t' := s.toks) (fun b o hb q => eb b o hb q) f0 f1 f3 f4 f5⟩
  self := fun A i s Q E st h => let ⟨_, ⟨_, he⟩, _⟩ := st; wpAny_pyIter_enum he h
def iEnumT (K : PySem.W.Frag) (ta : TA) : TI := fun σ H R => ta σ H fun vs H1 => ∃ a xs, vs = [.ref a] ∧ SqT K H1 a xs ∧ R (IteT K a xs.length) H1
theorem pi_enumT {X : Cx} {e : Expr} {ta : TA} {p pos tpos : Pos} {elts : List Expr} {kk : Nat} (hg : Gl X "enumerate") (hm : X.mg "enumerate" = none) (ha : PA X [e] ta) (hs : starEach [e] X.env = [(false, eval e X.env)] := by rfl) :
    PI X (.Tuple elts kk tpos) (.Call (.Name "enumerate" p) [e] [] pos) (iEnumT X.K ta) := by
  refine ⟨fun pins s σ H R I h => ?_⟩
  refine Call_ (ld_blt I hg hm boot_enumerate (PyProof.Rows.callWith_type1 (thn (ha.run pos pins s σ H _ I h) fun us s1 ⟨vs, H1, I1, r1, q1⟩ => ?_) hs rfl))
  obtain ⟨a, xs, ex, hq, q⟩ := q1
  subst ex
  cases r1 with
  | cons r rr =>
    cases rr
    cases r
    obtain ⟨its, rv, p', hz⟩ := I1.tuple hq
    have hal : a < s1.heap.objs.size := by
      obtain ⟨o, e, _⟩ := id p'
      exact Heap.lt_size e
    refine enum_beginsA (begins_tuple a its.toArray) (tup_of p') fun h' he hit hsz hk => wpAny_pyIter_enum he ?_
    have I2 : Inv X pins σ H1 { s1 with heap := h' } := I1.kept (t' := s1.toks) hk
    refine ⟨s1.heap.objs.size + 1, [s1.heap.objs.size + 1, s1.heap.objs.size], _, _, H1, rfl, I2, turn_enumT a (s1.heap.objs.size + 1) s1.heap.objs.size xs.length, ⟨Nat.zero_le _, ⟨.none, he⟩, ⟨_, hit, rfl, rfl⟩, Nat.succ_ne_self _, Nat.ne_of_lt hal, Nat.ne_of_gt (Nat.lt_succ_of_lt hal)⟩, fun b hb => ?_, q⟩
    have e' : b = s1.heap.objs.size + 1 ∨ b = s1.heap.objs.size := by simpa using hb
    have hle : s1.heap.objs.size ≤ b := by
      rcases e' with z | z
      · rw [z]; exact Nat.le_add_right _ _
      · rw [z]; exact Nat.le_refl _
    exact I1.fpOk hle (I1.hok.fresh hle)
/-- a loop over enumerate(a tuple) -/
theorem for_IteT {K : PySem.W.Frag} {a : Addr} {xs : List V} {g : TG} {tb : TS} {D : Ends} {σ : L2.St} {H : Hp} (Pv : Nat → L2.St → Hp → Prop) (h0 : Pv 0 σ H) (hq : ∀ i σ H, Pv i σ H → SqT K H a xs)
    (hs : ∀ (i : Nat) (x : V) (σ : L2.St) (H : Hp) (T : Addr), i < xs.length → xs[i]? = some x → Pv i σ H → H T = none → g (.ref T) σ (upd H T (.tup [.int (i : Nat), x])) fun σ2 H2 => tb { D with nx := Pv (i + 1), ct := Pv (i + 1), bk := D.nx } σ2 H2) (hd : ∀ σ H, Pv xs.length σ H → D.nx σ H) :
    ∃ W : Nat → Nat → L2.St → Hp → Prop, (∃ m, W 0 m σ H) ∧ ∀ i m σ H, W i m σ H →
      ((IteT K a xs.length).stop i H ∧ D.nx σ H) ∨ ((IteT K a xs.length).go i H ∧ ∃ N : L2.St → Hp → Prop, (∀ σ' H', N σ' H' → ∃ m', m' < m ∧ W (i + 1) m' σ' H') ∧ ∀ v H', (IteT K a xs.length).yld i H v H' → g v σ H' fun σ2 H2 => tb { D with nx := N, ct := N, bk := D.nx } σ2 H2) := by
  refine ⟨fun i m σ H => m = xs.length - i ∧ i ≤ xs.length ∧ Pv i σ H, ⟨xs.length, rfl, Nat.zero_le _, h0⟩, ?_⟩
  rintro i m σ H ⟨rfl, hi, p⟩
  by_cases hlt : i < xs.length
  · have hx : xs[i]? = some xs[i] := List.getElem?_eq_getElem hlt
    refine .inr ⟨⟨hlt, xs, _, hq i σ H p, hx⟩, Pv (i + 1), fun σ' H' p' => ⟨xs.length - (i + 1), by omega, rfl, hlt, p'⟩, fun v H' y => ?_⟩
    obtain ⟨T, x, e, hT, eH, hy⟩ := y
    subst e eH
    exact hs i x σ H T hlt (hy xs (hq i σ H p)) p hT
  · have e : i = xs.length := by omega
    subst e
    exact .inl ⟨⟨Nat.le_refl _, xs, hq _ σ H p, rfl⟩, hd σ H p⟩
end U


set_option Elab.async false
set_option linter.all false
set_option maxRecDepth 100000
set_option maxHeartbeats 4000000
namespace U
open PySem PySem.Spec PyProof.Rows L2

/-! ### exceptions that leave no def -/
theorem passF {X : Cx} : Passes (L2.CX X.prog X.w) X (fun _ _ _ => False) := fun _ _ _ _ _ _ _ c => by
  obtain ⟨_, _, _, _, _, _, _, _, _, _, _, _, h⟩ := c
  exact h.elim
/-- a callee's exceptions go on from the def -/
theorem passE {X : Cx} {E : XK} {W : WX} (tk : Takes X W) (hW : ∀ cls d σ H, E cls d H → W cls d σ H) : Passes (L2.CX X.prog X.w) X E := passes_call tk hW

/-! ### a caught exception that is kept -/
def exk (a : Addr) (cls : Value) (d : Option Addr) : HO := .ext fun h => ∃ (oe : Obj) (vs : Array Value), h.get? a = some oe ∧ Zc cls d oe ∧ oe.data = .fields vs
theorem exk_ok {P : Program} {w : World} {H : Hp} {h : Heap} {a : Addr} {cls : Value} {d : Option Addr} {oe : Obj} {vs : Array Value} (e : h.get? a = some oe) (z : Zc cls d oe) (hd : oe.data = .fields vs) : ObjOk P w H h a (exk a cls d) :=
  ⟨⟨oe, vs, e, z, hd⟩, ⟨_, e⟩, fun h1 h2 q k => by
    obtain ⟨o, v, e1, z1, d1⟩ := q
    exact ⟨o, v, k _ e1, z1, d1⟩⟩
theorem exk_at {P : Program} {w : World} {H : Hp} {h : Heap} {a : Addr} {cls : Value} {d : Option Addr} (hok : HOk P w H h) (e : H a = some (exk a cls d)) : ∃ (oe : Obj) (vs : Array Value), h.get? a = some oe ∧ Zc cls d oe ∧ oe.data = .fields vs := by
  have x : ObjOk P w H h a (.ext fun h => ∃ (oe : Obj) (vs : Array Value), h.get? a = some oe ∧ Zc cls d oe ∧ oe.data = .fields vs) := hok a _ e
  exact x.1
section
variable {X : Cx} {pins : List (Addr × Obj)} {σ : L2.St} {H : Hp} {s : Shared}
/-- an object that is there, new since the def's entry, is tracked from now on -/
theorem track {a : Addr} {o : HO} (I : Inv X pins σ H s) (hn : H a = none) (h0 : X.s_0.heap.get? a = none) (hL : a ≠ X.env.locals) (hc : ∀ x c, X.env.cells.lookup x = some c → c ≠ a) (hp : ∀ p ∈ X.pn ++ pins, p.1 ≠ a)
    (new : ObjOk X.prog X.w (upd H a o) s.heap a o) : Inv X pins σ (upd H a o) s := by
  have ne0 : ∀ b ob, X.s_0.heap.get? b = some ob → b ≠ a := fun b ob e z => by
    rw [z, h0] at e
    cases e
  have nt : ∀ b u, H b = some u → b ≠ a := fun b u e z => by
    rw [z, hn] at e
    cases e
  refine ⟨I.ok, I.os, I.bare, ⟨I.base.keep, I.base.slot, fun b ob e n hx => ?_, I.base.there, fun b xs e => ?_, fun b ob u e => ?_, fun b ps e => ?_⟩, I.loc, I.cell, ?_, fun x c e => ?_, fun p hq => ?_, fun b u e => ?_, I.len⟩
  · rw [upd_ne (ne0 b ob e)]
    exact I.base.free b ob e n hx
  · have q := I.base.tups b xs e
    rw [upd_ne (nt b _ q)]
    exact q
  · have q := I.base.frzs b ob u e
    rw [upd_ne (nt b _ q)]
    exact q
  · obtain ⟨more, q⟩ := I.base.tbls b ps e
    exact ⟨more, by rw [upd_ne (nt b _ q)]; exact q⟩
  · rw [upd_ne (Ne.symm hL)]
    exact I.free
  · rw [upd_ne (hc x c e)]
    exact I.freeC x c e
  · obtain ⟨e, n, r⟩ := I.pin p hq
    exact ⟨e, by rw [upd_ne (hp p hq)]; exact n, r⟩
  · by_cases hb : b = a
    · subst hb
      rw [upd_same] at e
      cases e
      exact new
    · rw [upd_ne hb] at e
      exact (I.hok b u e).stay (fun c v _ q => q) (fun c q => by rw [upd_ne (nt c _ q)]; exact q) fun c xs q => by rw [upd_ne (nt c _ q)]; exact q
end
/-- what 'except x as n' wishes, where the suite goes on and the exception is kept -/
def wKeep (K : PySem.W.Frag) (c : Value) (i : Nat) (ts : Addr → Value → Option Addr → TS) (Wout : WX) (D : Ends) : WX := fun cls d σ H =>
  ∃ b, PySem.W.exmOne K cls c = some b ∧ (b = true → ∀ a, H a = none → ts a cls d { nx := fun σ' H' => H' a = none → D.nx (σ'.set i none) (upd H' a (exk a cls d)), rt := fun _ _ => False, bk := fun _ _ => False, ct := fun _ _ => False } (σ.set i (some (.ref a))) H) ∧
    (b = false → Wout cls d σ H)
section
variable {X : Cx} {x n : Str} {c : Value} {i : Nat} {body suite : List Stmt} {b₀ : Stmt} {np pos pos' : Pos} {tb : WX → TS} {ts : Addr → Value → Option Addr → TS} {Wout : WX}
theorem ps_try_keep (hs : X.stack = X.env :: X.outer) (hf : X.env.frame = some X.env.locals) (hex : X.ex = []) (hN : X.N.Nodup) (hi : X.N[i]? = some n) (hln : X.env.kindOf n = some .local) (hc : Names X x c) (tk : Takes X Wout)
    (hb : ∀ (W : WX) (pn : List (Addr × Obj)) (xe : Value → Shared → Prop), Takes (X.tr pn xe) W → PassesOwn (model X.prog X.w) X.A X.env xe → PSs (X.tr pn xe) body (tb W))
    (hsu : ∀ (a : Addr) (oe : Obj) (cls : Value) (d : Option Addr) (pn : List (Addr × Obj)), Zc cls d oe → (∃ vs, oe.data = .fields vs) → PSs (X.suite a ((a, oe) :: pn)) (b₀ :: suite) (ts a cls d)) :
    PS X (.Try body [.ExceptHandler (some (.Name x np)) (some n) (b₀ :: suite) pos'] [] [] pos) (fun D σ H => tb (wKeep X.K c i ts Wout D) D σ H) := by
  refine ⟨fun pins s σ H D I h => ?_⟩
  have ok := I.ok
  have hfr : X.A.frames = some (X.env :: X.outer) := by rw [ok.frames, hs]
  have hloc : Loc X.env.scope n := .inl hln
  refine wpAny_Try_except ?_
  refine wpAny_mono ((hb (wKeep X.K c i ts Wout D) (X.pn ++ pins) (fun e s₁ => wpAny (model X.prog X.w) X.A (noteFrame e X.env) (fun _ s₂ => wpAny (model X.prog X.w) X.A (setFlight e none) (fun _ s₃ =>
    wpAny (model X.prog X.w) X.A (handleBy e X.env [.ExceptHandler (some (.Name x np)) (some n) (b₀ :: suite) pos']) (SP X pins D) X.xe s₃) X.xe s₂) X.xe s₁) (fun u s' xx => ?_) PassesOwn.looking).run [] s σ H D (I.toTry _) h) (fun f s1 hsp => ?_) (fun e s1 he => he)
  · -- the catch
    obtain ⟨a, B, sI, pins', σ', H', cls, d, rfl, J', nb, up, sky, na, os, ag, b, hb1, hyes, hno⟩ := xx
    have J : Inv X pins σ' H' sI := J'.ofTry ok
    have sky' : Sky B (X.env :: X.outer) a (Zc cls d) X.env.locals s'.heap := by rw [← hs]; exact sky
    show wpAny (model X.prog X.w) X.A (noteFrame (.ref a) X.env) _ _ _
    refine Sky.land Zc.steady hfr hf sky' fun h3 fl3 up3 => ?_
    have J3 : Inv X pins σ' H' { s' with heap := h3 } := J.landed nb fl3.1 (up.trans up3) os ag
    obtain ⟨oe3, vs3, he3, hz3, hd3⟩ := fl3.there
    have notFr : ∀ {h : Heap} {o : Obj} {vs : Array Value}, h.FunFrames B (X.env :: X.outer) → h.get? a = some o → o.data = .fields vs → a ∉ frs (X.env :: X.outer) := fun {h o vs} ff e dd hm => by
      obtain ⟨_, o', e', hnf⟩ := ff.mem hm
      rw [e] at e'; cases e'
      exact hnf _ dd
    have nfr := notFr fl3.2.2.1 he3 hd3
    have nL : a ≠ X.env.locals := fun z => nfr (List.mem_filterMap.mpr ⟨X.env, List.mem_cons_self, by rw [hf, z]⟩)
    have nF : a ∉ X.fs := fun hm => by
      obtain ⟨e, he, q⟩ := List.mem_filterMap.mp hm
      exact nfr (List.mem_filterMap.mpr ⟨e, List.mem_cons_of_mem _ he, q⟩)
    -- a is not in the state without it
    have nI : sI.heap.get? a = none := by
      cases q : sI.heap.get? a with
      | none => rfl
      | some o =>
        have z := nb a o q (by rw [hs]; exact nfr)
        rw [fl3.2.1] at z
        cases z
    have n0 : X.s_0.heap.get? a = none := by
      cases q : X.s_0.heap.get? a with
      | none => rfl
      | some o =>
        obtain ⟨o', z⟩ := J.base.there a o q (by rw [hex]; exact fun z => nomatch z)
        rw [nI] at z
        cases z
    have nP : ∀ p ∈ X.pn ++ pins, p.1 ≠ a := fun p hp z => by
      have q := (J'.pin p (List.mem_append_left _ hp)).1
      rw [z, nI] at q
      cases q
    have S3 := J3.suite he3 hd3 na nL nF
    refine wpAny_handleBy_cons (codeAny_handlers_test ?_) (by intro q; cases q)
    have LT : PySem.W.Looks (model X.prog X.w) h3 (typeOf (.ref a)) cls := fun A Q E s k q => wpAny_typeOf_ref (k _ _ he3) (by rw [hz3.1]; exact q)
    have LM := PySem.W.exm_one (M := model X.prog X.w) (J3.kIn) LT hb1
    have test : ∀ {Q : Value → Shared → Prop} {E : Value → Shared → Prop}, Q c { s' with heap := h3 } → wpAny (model X.prog X.w) (X.A.mark (some (.ref a))) (eval (.Name x np) X.env) Q E { s' with heap := h3 } := fun {Q E} q => by
      obtain ⟨hg, hdbg, hm | ⟨hm, hv, hnn⟩⟩ := hc
      · exact ld_glob (X := X.suite a ((a, oe3) :: (X.pn ++ pins))) S3 hg hm q hdbg
      · exact ld_blt (X := X.suite a ((a, oe3) :: (X.pn ++ pins))) S3 hg hm hv q hnn hdbg
    refine test (LM.here ?_)
    cases b with
    | true =>
      refine codeAny_handlers_suite_as ?_
      refine HandSPX.lands_againZ fl3 fun h4 fl4 up4 => ?_
      have J4 : Inv X pins σ' H' { s' with heap := h4 } := J.landed nb fl4.1 ((up.trans up3).trans up4) os ag
      obtain ⟨oe4, vs4, he4, hz4, hd4⟩ := fl4.there
      have S4 := J4.suite he4 hd4 na nL nF
      refine store_ok (X := X.suite a ((a, oe4) :: (X.pn ++ pins))) (v := .ref a) S4 hN hi hloc rfl (fun s5 S5 => ?_) (.inr hln)
      refine wpAny_mono ((hsu a oe4 cls d (X.pn ++ pins) hz4 ⟨_, hd4⟩).run [] s5 _ H' _ S5 (hyes rfl a na)) (fun f s6 hsp => ?_) (fun _ _ z => False.elim z)
      cases f with
      | next =>
        obtain ⟨σ6, H6, S6, q6⟩ := hsp
        obtain ⟨e6, n6, _⟩ := S6.pin (a, oe4) (List.mem_append_left _ List.mem_cons_self)
        have e6' : s6.heap.get? a = some oe4 := e6
        have n6' : H6 a = none := n6
        have U6 := S6.unsuite ok
        have T6 : Inv X pins σ6 (upd H6 a (exk a cls d)) s6 := track U6 n6' n0 nL (fun y cc ec z => by
          obtain ⟨v, o, eo, ed⟩ := U6.cell y cc ec
          rw [z, e6'] at eo
          cases eo
          rw [hd4] at ed
          cases ed) nP (exk_ok e6' hz4 hd4)
        exact gone_ok T6 hN hi hln fun s7 J7 => ⟨_, _, J7, q6 n6'⟩
      | brk =>
        obtain ⟨σ6, H6, S6, q6⟩ := hsp
        exact False.elim q6
      | cont =>
        obtain ⟨σ6, H6, S6, q6⟩ := hsp
        exact False.elim q6
      | ret u =>
        obtain ⟨v6, σ6, H6, S6, r6, q6⟩ := hsp
        exact False.elim q6
    | false =>
      show wpAny _ X.A (handleBy (.ref a) X.env []) _ _ _
      refine wpAny_handleBy_nil ?_
      obtain ⟨k1, k2, k3, oe, vs, T, oT, ts', he, hz, hd, h1, hr⟩ := id fl3
      unfold PySem.passOn
      refine wpAny_bind (wpAny_field he hd h1 ?_)
      rw [if_neg (show ¬ ((Value.ref T == Value.none) = true) from by simp)]
      have fin : wpAny (model X.prog X.w) X.A (setFlight (.ref a) X.env.frame) (fun _ s4 => wpAny (model X.prog X.w) X.A (throw (.ref a) : Sem Flow) (SP X pins D) X.xe s4) X.xe { s' with heap := h3 } := by
        rw [hf]
        refine HandSPX.setFlight_upZ fl3 fun h4 hh4 up4 => wpAny_throw (tk _ _ ?_)
        exact ⟨a, B, sI, pins, σ', H', cls, d, rfl, J, nb, (up.trans up3).trans up4, .inr (.inr (by rw [hs]; exact hh4)), na, os, ag, hno rfl⟩
      first
        | exact wpAny_bind (wpAny_pure (wpAny_bind fin))
        | exact wpAny_bind fin
  · cases f with
    | next =>
      obtain ⟨σ', H', J', q⟩ := hsp
      exact wpAny_execs_nil ⟨σ', H', J'.ofTry ok, q⟩
    | brk =>
      obtain ⟨σ', H', J', q⟩ := hsp
      exact ⟨σ', H', J'.ofTry ok, q⟩
    | cont =>
      obtain ⟨σ', H', J', q⟩ := hsp
      exact ⟨σ', H', J'.ofTry ok, q⟩
    | ret u =>
      obtain ⟨v, σ', H', J', r, q⟩ := hsp
      exact ⟨v, σ', H', J'.ofTry ok, r, q⟩
end

/-! ### of a kept exception: isinstance, a field -/
/-- isinstance(e, c) -/
def rIsK (K : PySem.W.Frag) (D : Addr) : List V → Hp → VK → Prop := fun xs H Q => ∃ (a dd : Addr) (fs : List (Str × V)) (c : V) (u : Value) (b : Bool), xs = [.ref a, c] ∧ H a = some (exk a (.ref D) (some dd)) ∧ H dd = some (.xd fs) ∧ ClsV c u ∧ PySem.W.kitOne K (.ref D) u = some b ∧ Q (.bl b) H
section
variable {X : Cx}
theorem exk_inst {pins : List (Addr × Obj)} {σ : L2.St} {H : Hp} {s : Shared} {a dd D : Addr} {fs : List (Str × V)} (I : Inv X pins σ H s) (ha : H a = some (exk a (.ref D) (some dd))) (hd : H dd = some (.xd fs)) :
    ∃ (oe od : Obj) (mA : Str → Option Value), PySem.W.InstAt s.heap a oe D (some od) ∧ (∀ f, PySem.W.lookIn f od = some (mA f)) ∧ ∀ f, RelO (fs.lookup f) (mA f) := by
  obtain ⟨oe, vs, he, hz, hdat⟩ := exk_at I.hok ha
  have hx : ObjOk X.prog X.w H s.heap dd (.xd fs) := I.hok dd _ hd
  obtain ⟨mA, hns, hr⟩ := hx
  obtain ⟨od, ho, hl⟩ := lookIn_ns hns
  exact ⟨oe, od, mA, ⟨he, hz.1, by unfold PySem.W.notCls; rw [hdat] <;> rfl, by rw [hz.2]; exact ho⟩, hl, hr⟩
theorem call_isK {D : Addr} (C : ExcC X.K D) : CallR X (.builtin "isinstance") (rIsK X.K D) := by
  intro pins s σ H xs us Q I r h
  obtain ⟨a, dd, fs, c, u, b, rfl, ha, hd, hcv, e, q⟩ := h
  cases r with
  | cons rx rr =>
    cases rr with
    | cons rt rr =>
      cases rr
      cases rx
      have ec := hcv.eq rt
      subst ec
      obtain ⟨oe, od, mA, J, _⟩ := exk_inst I ha hd
      exact PySem.W.kia_one (PySem.W.kitx_exc (by obtain ⟨cd, hc, _⟩ := PySem.W.any_some C.hd; rw [hc]; rfl) C.hg C.hk C.hs C.ha C.hn C.ht C.hm) I.kIn J e (fun z => nomatch z) fun tk => ⟨.bl b, H, I.kept (t' := tk) fun _ _ z => z, rfl, q⟩
/-- e.f -/
def tXk (C : Addr) (f : Str) (te : TE) : TE := fun σ H Q => te σ H fun x H1 => ∃ (a dd : Addr) (fs : List (Str × V)) (v : V), x = .ref a ∧ H1 a = some (exk a (.ref C) (some dd)) ∧ H1 dd = some (.xd fs) ∧ fs.lookup f = some v ∧ Q v H1
theorem pe_xk {C : Addr} {e : Expr} {te : TE} {pos : Pos} {n : Str} (T : XfC X.K C) (hno : PySem.W.findIn X.K (.ref C) n = some none) (he : PE X e te) (hb : attributeBase e n X.env (eval e X.env) = eval e X.env := by rfl) :
    PE X (.Attribute e n pos) (tXk C n te) := by
  refine ⟨fun pins s σ H Q I h => ?_⟩
  refine attr_of hb (thn (he.run pins s σ H _ I h) fun u s1 hh => ?_)
  obtain ⟨x, H1, I1, rx, a, dd, fs, v, ex, ea, ed, l, q⟩ := hh
  subst ex
  obtain rfl : u = Value.ref a := rx
  obtain ⟨oe, od, mA, J, hl, hr⟩ := exk_inst I1 ea ed
  obtain ⟨u, hu, ru⟩ := RelO.some_of (v := v) (o := mA n) (by rw [← l]; exact hr n)
  exact HandSPX.exc_get I1.kIn J T.ga T.gg T.exC (PySem.W.findObj_own T.hdC hno rfl (by rw [hl, hu])) (handed_of ru) ⟨v, H1, I1.tok _, ru, q⟩
end

/-! ### R.__init__(self, ..), R an own class over ValueError without an __init__ of its own -/
structure RIni (K : PySem.W.Frag) (R : Addr) : Prop where
  rd : PySem.W.readsIn K R (.type "type") = true
  ga : PySem.W.specialIn K (.ref R) "__getattribute__" = some (some (.builtin "type.__getattribute__"))
  at_ : PySem.W.findCls K (.ref R) (.type "type") "__init__" = some (.val (.builtin "ValueError.__init__"))
section
variable {X : Cx} {e : Expr} {es : List Expr} {ta : TA} {p1 p2 pos : Pos} {x : Str} {R : Addr}
theorem pe_rinit {pl : Sem Bool} (T0 : RIni X.K R) (hg : Gl X x) (hm : X.mg x = some (.ref R)) (ha : PA X (e :: es) ta) (hdb : (x == ("__debug__" : Str)) = false := by decide)
    (hc : eval (.Call (.Attribute (.Name x p1) "__init__" p2) (e :: es) [] pos) X.env = (do
      let ov ← eval (.Name x p1) X.env
      standAt p2.atName
      let (f, first) ← holding [ov] (getMethod ov "__init__" pl)
      callWith pos f first (backTo pos (starEach (e :: es) X.env)) (backToKw pos (keywordEach [] X.env))) := by rfl)
    (he : starEach (e :: es) X.env = (false, eval e X.env) :: starEach es X.env := by rfl) (hpl : (backTo pos (starEach es X.env)).any (·.1) = false := by rfl) :
    PE X (.Call (.Attribute (.Name x p1) "__init__" p2) (e :: es) [] pos) (tVeI X.K ta) := by
  refine ⟨fun pins s σ H Q I h => ?_⟩
  refine PySem.W.methodCall_KW (ld_glob I hg hm ?_ hdb) hc
  refine PySem.W.method_cls I.kIn T0.ga (PySem.W.cls_value I.kIn T0.rd T0.at_ rfl ?_)
  show wpAny _ _ (callWith pos (Value.builtin "ValueError.__init__") [] (backTo pos (starEach (e :: es) X.env)) []) _ _ _
  refine PyProof.Rows.callWith_method1 (thn (ha.run pos pins _ σ H _ (I.tok _) h) fun us s1 ⟨vs, H1, I1, r1, a, C, ws, ev, hl, T, ea, q⟩ => ?_) he hpl
  subst ev
  cases r1 with
  | @cons _ u0 _ ur ra rw' =>
    obtain rfl : u0 = Value.ref a := ra
    have hlen : ur.length ≤ sizeLine := by
      rw [← Paired.length rw', sizeLine_eq]
      omega
    exact oinit_ok T I1 ea hlen fun s' J => ⟨.non, H1, J, rfl, q⟩
end
end U


set_option Elab.async false
set_option linter.all false
set_option maxRecDepth 100000
set_option maxHeartbeats 4000000
namespace U
open PySem PySem.Spec PyProof.Rows L2
section
variable {P : Program} {w : World} {K : PySem.W.Frag} {mg mb : Str → Option Value} {s₁ : Shared} {a : Addr} {vs : List Value} {ns : List Int} {T : List Addr}
/-- what is tracked at a law's entry: the script (or nothing), the empty tables at T -/
structure EntryT (P : Program) (w : World) (K : PySem.W.Frag) (s₁ : Shared) (a : Addr) (ns : List Int) (T : List Addr) (H : Hp) : Prop where
  only : ∀ b, b ∉ T → H b = none ∨ ∃ o xs, H b = some (.frz o (.lst xs))
  tab : ∀ b ∈ T, H b = some (.tbl #[])
  seq : SqL K H a (ns.map V.int)
  ok : HOk P w H s₁.heap
  at_ : ∀ b, H b ≠ none → b = a ∨ b ∈ T
  own : ∀ b, H b ≠ none → K.lookup b = none
theorem entryT_of (KX : K.In s₁.heap) (ha : s₁.heap.get? a = some { cls := .type "list", data := .seq vs.toArray }) (hi : IntsAre vs ns) (hl : ns.length ≤ sizeLine)
    (hT : ∀ b ∈ T, s₁.heap.get? b = some { cls := .none, data := .fields #[] }) (nT : ∀ b ∈ T, K.lookup b = none) : a ∉ T ∧ ∃ H, EntryT P w K s₁ a ns T H := by
  obtain ⟨H0, En⟩ := entry_of (P := P) (w := w) KX ha hi hl
  have aT : a ∉ T := fun z => by
    have q := hT a z
    rw [ha] at q
    cases q
  let H : Hp := fun b => if b ∈ T then some (.tbl #[]) else H0 b
  have hin : ∀ b, b ∈ T → H b = some (.tbl #[]) := fun b hb => if_pos hb
  have hout : ∀ b, b ∉ T → H b = H0 b := fun b hb => if_neg hb
  refine ⟨aT, H, ⟨fun b hb => ?_, hin, ?_, fun b u e => ?_, fun b e => ?_, fun b e => ?_⟩⟩
  · rw [hout b hb]
    exact En.only b
  · have ea := hout a aT
    rcases En.seq with (h | ⟨o, h⟩) | h
    · exact .inl (.inl (ea.trans h))
    · exact .inl (.inr ⟨o, ea.trans h⟩)
    · exact .inr h
  · by_cases hb : b ∈ T
    · rw [hin b hb] at e
      cases e
      exact hT b hb
    · rw [hout b hb] at e
      rcases En.only b with z | ⟨o, xs, z⟩
      · rw [z] at e
        cases e
      · have z2 := En.ok b _ z
        rw [z] at e
        cases e
        exact ⟨z2.1, z2.2⟩
  · by_cases hb : b ∈ T
    · exact .inr hb
    · rw [hout b hb] at e
      exact .inl (En.at_ b e)
  · by_cases hb : b ∈ T
    · exact nT b hb
    · rw [hout b hb] at e
      have eb := En.at_ b e
      subst eb
      exact En.own e
/-- the law's promise with tables, where no repr runs -/
theorem law_callTG {CX : CXT} {k : Nat} {fa : Addr} {cs : List (Addr × Addr)} {fd : FuncData} {x : Str} {sp : Sp}
    (KX : K.In s₁.heap) (hns : s₁.heap.Ns mainGlobals mg) (hb : s₁.heap.Ns builtinsNs mb) (hbb : ∀ x : Str, x ≠ "__name__" → mb x = bootBuiltins x) (hlim : s₁.heap.NoLimit) (hg : s₁.gens = #[])
    (hT : ∀ p ∈ cs, s₁.heap.get? p.2 = some { cls := .none, data := .fields #[] }) (nT : ∀ p ∈ cs, K.lookup p.2 = none) (C : ∀ p ∈ cs, PySem.W.codeHdIn K p.1 p.2 = true)
    (hbm : ∃ (bm : Addr) (ob : Obj), mg "__builtins__" = some (.ref bm) ∧ bm ≠ builtinsNs ∧ s₁.heap.get? bm = some ob ∧ ob.cls = .type "module" ∧ ob.dict = some builtinsNs ∧ ob.data = .plain)
    (ha : s₁.heap.get? a = some { cls := .type "list", data := .seq vs.toArray }) (hi : IntsAre vs ns) (hl : ns.length ≤ sizeLine) (hr : Room k callerA)
    (F : ∀ base : Heap, K.In base → base.Ns mainGlobals mg → (∀ p ∈ cs, LamX.TabB base mg p.1 p.2) → FnG P w K mg base CX k fa fd [x] sp) (hbind : ∀ (s : Shared) (u : Value), BindsTo s fd ⟨[u], []⟩ [(x, u)])
    (hsp : ∀ H : Hp, (∀ p ∈ cs, H p.2 = some (.tbl #[])) → SqL K H a (ns.map V.int) → sp [.ref a] H (fun v _ => v = .bl true) fun _ _ _ => False)
    (hCX : ∀ H e s', CX [] H s₁ (fun _ _ _ => False) e s' → False) :
    codeAny (model P w) callerA (.call (.ref fa) ⟨[.ref a], []⟩) (fun r s' => r = .ok (.ret (.bool true)) ∧ OldK s₁.heap s'.heap ∧ s'.os = s₁.os ∧ AllBare s'.gens) s₁ := by
  have memT : ∀ p ∈ cs, p.2 ∈ cs.map (·.2) := fun p hp => List.mem_map.mpr ⟨p, hp, rfl⟩
  have isT : ∀ b ∈ cs.map (·.2), s₁.heap.get? b = some { cls := .none, data := .fields #[] } := fun b hb => by
    obtain ⟨p, hp, e⟩ := List.mem_map.mp hb
    rw [← e]
    exact hT p hp
  obtain ⟨aT, H, En⟩ := entryT_of (P := P) (w := w) (T := cs.map (·.2)) KX ha hi hl isT fun b hb => by
    obtain ⟨p, hp, e⟩ := List.mem_map.mp hb
    rw [← e]
    exact nT p hp
  -- what is neither the script nor a table is not tracked
  have free : ∀ {b : Addr} {o : Obj}, s₁.heap.get? b = some o → (∀ vs n, o.data ≠ .seq vs n) → o.data ≠ .fields #[] → H b = none := fun {b o} e h1 h2 => by
    cases q : H b with
    | none => rfl
    | some u =>
      rcases En.at_ b (by rw [q]; simp) with z | z
      · rw [z, ha] at e
        cases e
        exact absurd rfl (h1 _ _)
      · rw [isT b z] at e
        cases e
        exact absurd rfl h2
  have noDict : ∀ {b : Addr} {o : Obj} {es : Array DictEntry} {ep : Nat}, s₁.heap.get? b = some o → o.data = .dict es ep → H b = none := fun {b o es ep} e d =>
    free e (fun vs n z => by rw [d] at z; cases z) (fun z => by rw [d] at z; cases z)
  have ns' : ∀ {b : Addr} {m : Str → Option Value}, s₁.heap.Ns b m → (hidT s₁.heap H).Ns b m := fun {b m} ⟨o, es, ep, e, d, r⟩ => ⟨o, es, ep, hidT_get e (noDict e d), d, r⟩
  have hK : K.In (hidT s₁.heap H) := fun b o e => hidT_get (KX b o e) (by
    cases q : H b with
    | none => rfl
    | some u =>
      rw [En.own b (by rw [q]; simp)] at e
      cases e)
  have hlim' : (hidT s₁.heap H).NoLimit := by
    obtain ⟨mc, h1, h2⟩ := hlim
    exact ⟨mc, ns' h1, h2⟩
  have TB : ∀ p ∈ cs, LamX.TabB (hidT s₁.heap H) mg p.1 p.2 := fun p hp => by
    obtain ⟨bm, ob, b1, b2, b3, b4, b5, b6⟩ := hbm
    have nP : bm ≠ p.2 := fun q => by
      rw [q, hT p hp] at b3
      cases b3
      cases b6
    have nG : bm ≠ mainGlobals := fun q => by
      obtain ⟨o, es, ep, e, hd, _⟩ := hns
      rw [q, e] at b3
      cases b3
      rw [hd] at b6
      cases b6
    refine ⟨PySem.W.codeHd_of_K hK (C p hp), ⟨bm, ob, b1, b2, nG, nP, hidT_get b3 (free b3 (fun vs n z => by rw [b6] at z; cases z) (fun z => by rw [b6] at z; cases z)), b4, b5, b6⟩, fun z => ?_⟩
    obtain ⟨o, es, ep, e, hd, _⟩ := hns
    rw [z, hT p hp] at e
    cases e
    cases hd
  have e0 : Env0 P w K mg (hidT s₁.heap H) callerA [] s₁ H :=
    ⟨rfl, ⟨hK, ns' hns, ⟨mb, ns' hb, hbb⟩, hlim'⟩, fun b o e => of_hidT e, Nat.le_of_eq (hidT_size _ _), trivial, fun b hb => absurd (show b ∈ ([] : List Addr) from hb) (by simp), En.ok, .of_eq hg⟩
  refine codeAny_mono ((F _ hK (ns' hns) TB).run callerA [] s₁ H ⟨[.ref a], []⟩ [.ref a] [.ref a] _ _ rfl hr e0 (hbind s₁ (.ref a)) (.cons rfl .nil) (hsp H (fun p hp => En.tab _ (memT p hp)) En.seq)) ?_
  intro r s' h
  cases r with
  | error e => exact (hCX H e s' h).elim
  | ok fl =>
    cases fl with
    | next => exact False.elim h
    | brk => exact False.elim h
    | cont => exact False.elim h
    | ret u =>
      obtain ⟨v, H', os, bare, un, hok', r', q⟩ := h
      rw [show v = .bl true from q] at r'
      have same : ∀ b o, b ∉ cs.map (·.2) → s₁.heap.get? b = some o → s'.heap.get? b = some o := fun b o nb e => by
        rcases En.only b nb with z | ⟨ob, xs, z⟩
        · exact un.keep b o e z (fun y => absurd (show b ∈ ([] : List Addr) from y) (by simp)) (by simp)
        · have e1 := (En.ok b _ z).1
          have e2 := (hok' b _ (un.frzs b ob _ z)).1
          rw [e2, ← e1, e]
      have grown : ∀ b ∈ cs.map (·.2), ∃ more : Array Value, s'.heap.get? b = some { cls := .none, data := .fields more } := fun b hb => by
        obtain ⟨more, z⟩ := un.tbls b #[] (En.tab b hb)
        exact ⟨_, hok' b _ z⟩
      refine ⟨by rw [show u = Value.bool true from r'], ⟨fun b o e => ?_, fun b o e => ?_⟩, os, bare⟩
      · by_cases hbT : b ∈ cs.map (·.2)
        · obtain ⟨more, hm⟩ := grown b hbT
          have e1 := isT b hbT
          obtain ⟨p, hp, ep⟩ := List.mem_map.mp hbT
          have ct := ((PySem.W.codeHd_of_K KX (C p hp)).tab (hT p hp)).isCodeTable
          rw [e1] at e
          cases e
          rw [← ep] at hm ⊢
          exact .inr (.inl ⟨ct, rfl, #[], more, rfl, by rw [Array.empty_append]; exact hm⟩)
        · exact .inl (same b o hbT e)
      · by_cases hbT : b ∈ cs.map (·.2)
        · obtain ⟨more, hm⟩ := grown b hbT
          exact ⟨_, hm⟩
        · exact ⟨o, same b o hbT e⟩
end
/-- a law's end over a head by facts, with tables, its def called where no repr runs -/
theorem walk_ofTG {l : PySem.W.OpenLaw} {n k : Nat} {q : Program} {loose : List Str} {XP : (Str → Option Value) → Heap → Prop} {YP : World → Heap → Prop} {d : DefRec} {CX : World → CXT} {x : Str}
    (hn : l.most = some n) (hn2 : n ≤ sizeLine) (hdf : d.params.defaults = []) (hr : Room k callerA)
    (F : ∀ (w : World) (mg : Str → Option Value) (fa : Addr) (h : Heap), YP w h → h.Ns mainGlobals mg → mg d.name = some (.ref fa) →
      ∃ (K : PySem.W.Frag) (fd : FuncData) (cs : List (Addr × Addr)) (sp : Sp), K.In h ∧ (∀ p ∈ cs, h.get? p.2 = some { cls := .none, data := .fields #[] }) ∧ (∀ p ∈ cs, K.lookup p.2 = none) ∧ (∀ p ∈ cs, PySem.W.codeHdIn K p.1 p.2 = true) ∧
        (∀ (s : Shared) (u : Value), BindsTo s fd ⟨[u], []⟩ [(x, u)]) ∧
        (∀ (H : Hp) (a : Addr) (ns : List Int), ns.length ≤ n → (∀ p ∈ cs, H p.2 = some (.tbl #[])) → SqL K H a (ns.map V.int) → sp [.ref a] H (fun v _ => v = .bl true) fun _ _ _ => False) ∧
        ∀ base : Heap, K.In base → base.Ns mainGlobals mg → (∀ p ∈ cs, LamX.TabB base mg p.1 p.2) → FnG l.prog w K mg base (CX w) k fa fd [x] sp)
    (hCX : ∀ (w : World) (H : Hp) (s : Shared) (e : Value) (s' : Shared), CX w [] H s (fun _ _ _ => False) e s' → False) :
    PySem.W.WalkO q loose XP YP l.row.toRowW d [] (fun f vs => PySem.call f vs) := by
  refine Att.attach_call hn hdf ?_
  intro w s₀ s₁ mg mb fa o pm cd doc a vs ns G Y ho hd hcd hmg hobj hints hlen hg
  obtain ⟨K, fd, cs, sp, KX, hT, nT, C, hb, hsp, hF⟩ := F w mg fa _ Y G.T.g hmg
  exact law_callTG KX G.T.g G.T.b G.T.builtins G.T.nolimit hg hT nT C G.T.bmain hobj hints (Nat.le_trans hlen hn2) hr hF hb (fun H hO hS => hsp H a ns hlen hO hS) fun H e s' => hCX w H s₁ e s'
end U


set_option Elab.async false
set_option linter.all false
set_option maxRecDepth 100000
set_option maxHeartbeats 4000000
namespace U
open PySem PySem.Spec PyProof.Rows L2 TL
/-! ### the module's own constants and classes -/
section
variable {X : Cx} {x : PySem.Str} {pos : Pos}
theorem pe_gs {z : PySem.Str} (h : ∃ t, X.mg x = some (.str z t)) (hg : Gl X x := by rfl) (hd : (x == ("__debug__" : Str)) = false := by decide) : PE X (.Name x pos) (tC (.str z)) := by
  obtain ⟨t, e⟩ := h
  exact pe_glob hg e ⟨t, rfl⟩ hd
theorem pe_gi {z : Int} (h : ∃ t, X.mg x = some (.int z t)) (hg : Gl X x := by rfl) (hd : (x == ("__debug__" : Str)) = false := by decide) : PE X (.Name x pos) (tC (.int z)) := by
  obtain ⟨t, e⟩ := h
  exact pe_glob hg e ⟨t, rfl⟩ hd
theorem pe_gc {C : Addr} (h : X.mg x = some (.ref C)) (hg : Gl X x := by rfl) (hd : (x == ("__debug__" : Str)) = false := by decide) : PE X (.Name x pos) (tC (.ref C)) := pe_glob hg h rfl hd
/-- text * int -/
def rStrMul : R2 := fun x y H Q => ∃ (z : PySem.Str) (n : Int), x = .str z ∧ y = .int n ∧ 1 ≤ n ∧ n ≤ 1000 ∧ z.length ≤ 1000 ∧ Q (.str ⟨(List.replicate n.toNat (tl z)).flatten.toArray⟩) H
theorem fold_rep (a : Array Nat) : ∀ (n : Nat) (acc : Array Nat), ((List.replicate n a).foldl (· ++ ·) acc).toList = acc.toList ++ (List.replicate n a.toList).flatten
  | 0, acc => by simp
  | n + 1, acc => by
    rw [List.replicate_succ, List.foldl_cons, fold_rep a n, List.replicate_succ, List.flatten_cons, Array.toList_append, List.append_assoc]
theorem rep_str (z : PySem.Str) (n : Nat) : (⟨(List.replicate n z.cps).foldl (· ++ ·) #[]⟩ : PySem.Str) = ⟨(List.replicate n (tl z)).flatten.toArray⟩ := by
  apply ext_tl
  show ((List.replicate n z.cps).foldl (· ++ ·) #[]).toList = ((List.replicate n (tl z)).flatten.toArray).toList
  rw [fold_rep]
  rfl
theorem op_mul_str : OpR X (binaryOp .Mult) rStrMul := by
  intro pins s σ H x y v u Q I rx ry h
  obtain ⟨z, n, rfl, rfl, h1, h2, hz, q⟩ := h
  obtain ⟨t, rfl⟩ := rx
  obtain ⟨t', rfl⟩ := ry
  have n63 : (2 : Int) ^ 63 = 9223372036854775808 := by decide
  have hle : z.length * n.toNat ≤ 1000000 := by
    have e : n.toNat ≤ 1000 := by omega
    calc z.length * n.toNat ≤ 1000 * 1000 := Nat.mul_le_mul hz e
      _ = 1000000 := by decide
  refine PySem.P.mul_str (by rw [decide_eq_false (by omega), decide_eq_false (by omega)]; rfl) (fun _ _ => ?_) (fun _ _ => ?_) ?_
  · have h3 : ((2 : Int) ^ 63 - 1) / n ≥ 1000 := by
      rw [n63]
      exact Int.le_ediv_of_mul_le (by omega) (by omega)
    omega
  · have := hle
    unfold Builtin.Str.tooLong
    simp [sizeLine_eq]
    omega
  · rw [if_neg (by omega)]
    have e : (⟨(List.replicate n.toNat z.cps).foldl (· ++ ·) #[]⟩ : PySem.Str) = _ := rep_str z n.toNat
    by_cases c : (n == 1 || z.length == 0) = true
    · rw [if_pos c]
      have ez : (⟨(List.replicate n.toNat (tl z)).flatten.toArray⟩ : PySem.Str) = z := by
        apply ext_tl
        show (List.replicate n.toNat (tl z)).flatten = tl z
        rcases Bool.or_eq_true_iff.mp c with c | c
        · have e1 : n = 1 := eq_of_beq c
          subst e1
          simp
        · have e1 : z.length = 0 := eq_of_beq c
          have e2 := (len0_tl z).mp e1
          rw [e2]
          simp
      rw [ez] at q
      exact ⟨.str z, H, I, ⟨t, rfl⟩, q⟩
    · rw [if_neg c, e]
      refine ⟨?_, .str _, H, I.tok _, ⟨_, rfl⟩, q⟩
      show ((List.replicate n.toNat (tl z)).flatten.toArray).size ≤ sizeLine
      rw [List.size_toArray, List.length_flatten, List.map_replicate, List.sum_replicate_nat, ← len_tl, sizeLine_eq, Nat.mul_comm]
      omega
end
/-! ### a walk over a text's signs -/
theorem at_sign {z : PySem.Str} {i c : Nat} (h : z.cps[i]? = some c) : (tl z)[i]? = some c := by
  unfold tl
  simpa using h
theorem len_signs (z : PySem.Str) : z.cps.size = (tl z).length := by simp [tl]
theorem take_sign {l : List Nat} {i c : Nat} (h : l[i]? = some c) : l.take (i + 1) = l.take i ++ [c] := by
  rw [List.take_add_one, h]
  rfl
/-- for sign in text: Pv by what was walked -/
theorem for_signs {z : PySem.Str} {g : TG} {tb : TS} {D : Ends} {σ : L2.St} {H : Hp} (Pv : List Nat → L2.St → Hp → Prop) (h0 : Pv [] σ H)
    (hs : ∀ l c r σ H, tl z = l ++ c :: r → Pv l σ H → g (.str ⟨#[c]⟩) σ H fun σ2 H2 => tb { D with nx := Pv (l ++ [c]), ct := Pv (l ++ [c]), bk := D.nx } σ2 H2) (hd : ∀ σ H, Pv (tl z) σ H → D.nx σ H) :
    ∃ W : Nat → Nat → L2.St → Hp → Prop, (∃ m, W 0 m σ H) ∧ ∀ i m σ H, W i m σ H →
      ((Its z).stop i H ∧ D.nx σ H) ∨ ((Its z).go i H ∧ ∃ N : L2.St → Hp → Prop, (∀ σ' H', N σ' H' → ∃ m', m' < m ∧ W (i + 1) m' σ' H') ∧ ∀ x H', (Its z).yld i H x H' → g x σ H' fun σ2 H2 => tb { D with nx := N, ct := N, bk := D.nx } σ2 H2) := by
  refine for_it walk_str (fun i σ H => Pv ((tl z).take i) σ H) h0 (fun _ _ _ _ _ => trivial) ?_ ?_
  · rintro i x σ H H' hi p ⟨rfl, c, hc, rfl⟩
    have hc' := at_sign hc
    rw [take_sign hc']
    refine hs _ c ((tl z).drop (i + 1)) σ _ ?_ p
    have hlt : i < (tl z).length := (List.getElem?_eq_some_iff.mp hc').1
    have e : (tl z)[i] = c := (List.getElem?_eq_some_iff.mp hc').2
    rw [← e, ← List.drop_eq_getElem_cons hlt, List.take_append_drop]
  · intro σ H p
    rw [len_signs, List.take_length] at p
    exact hd σ H p
theorem all_map (l : List Nat) (f : Nat → Bool) : (l.map f).all id = l.all f := by
  rw [List.all_map]
  rfl
end U


set_option Elab.async false
set_option linter.all false
set_option maxRecDepth 100000
set_option maxHeartbeats 4000000
namespace U
open PySem PySem.Spec PyProof.Rows L2
/-- the j-th statement of a class's body -/
def clsB (s : Stmt) (j : Nat) : Stmt := match s with
  | .ClassDef _ _ _ body _ _ _ _ _ _ _ => body.getD j (.Pass ⟨0, 0, 0, 0⟩)
  | _ => .Pass ⟨0, 0, 0, 0⟩
/-- the module's x is an exception class at C whose __init__ keeps sp; dvs: the defaults taken -/
structure CalM (P : Program) (w : World) (K : PySem.W.Frag) (mg : PySem.Str → Option Value) (base : Heap) (x : PySem.Str) (C : Addr) (k : Nat) (dvs : List V) (sp : Sp) : Prop where
  ex : ∃ (fI : Addr) (fd : FuncData) (ps : List PySem.Str) (ds : List Value), OexC K C ∧ PySem.W.findIn K (.ref C) "__init__" = some (some (.ref fI)) ∧ PySem.W.typeIn K (.ref fI) = some (.type "function") ∧
    FnOk P w K mg base CX0 k fI fd ps sp ∧ L2.Binds K fd ps ds ∧ Vals dvs ds ∧ mg x = some (.ref C)
section
variable {X : Cx} {x : PySem.Str} {C : Addr} {k : Nat} {dvs : List V} {sp : Sp} {e : Expr} {es : List Expr} {ta : TA} {p pos : Pos}
theorem pmk_c (M : CalM X.prog X.w X.K X.mg X.base x C k dvs sp) (hr : Room (k + 1) X.A) (ha : PA X (e :: es) ta) (hg : Gl X x := by rfl)
    (hdb : (x == ("__debug__" : Str)) = false := by decide) (he : starEach (e :: es) X.env = (false, eval e X.env) :: starEach es X.env := by rfl) (hpl : (backTo pos (starEach es X.env)).any (·.1) = false := by rfl) :
    PMk X (.Call (.Name x p) (e :: es) [] pos) (tMkO C sp dvs ta) := by
  obtain ⟨fI, fd, ps, ds, h1, h2, h3, h4, h5, h6, h7⟩ := M.ex
  exact pmk_oex h1 h2 h3 h4 hr h5 h6 pass0 hg h7 ha hdb he hpl
end
end U


set_option Elab.async false
set_option linter.all false
set_option maxRecDepth 100000
set_option maxHeartbeats 4000000
/-! an own exception class over another, by a Bool -/
namespace U
open PySem PySem.Spec PyProof.Rows L2 PySem.HandSPX
def oexB (K : PySem.W.Frag) (C : Addr) : Bool := match K.lookup C with
  | some ⟨.type "type", _, .cls cd, sl⟩ => (match cd.mro, sl.toList with
    | .ref C' :: bm, [_, _, _, _, some (.builtin n), _] => C' == C && (n == "ValueError.__new__" && (!cd.hasDel && (cd.hasDict && refsVE bm)))
    | _, _ => false)
  | _ => false
theorem oexB_ok {K : PySem.W.Frag} {C : Addr} (q : oexB K C = true) : ∃ nm q N bs bm sn sub ab col dd k0 k1 k2 k3 k5, K.lookup C = some (excClassObj nm q C N bs bm true sn sub ab col dd k0 k1 k2 k3 k5 "ValueError.__new__") ∧ refsVE bm = true := by
  unfold oexB at q
  split at q
  · rename_i dd cd sl ho
    split at q
    · rename_i C' bm k0 k1 k2 k3 n k5 hm hs
      obtain ⟨h1, q⟩ := Bool.and_eq_true_iff.mp q
      obtain ⟨h2, q⟩ := Bool.and_eq_true_iff.mp q
      obtain ⟨h3, q⟩ := Bool.and_eq_true_iff.mp q
      obtain ⟨h4, h5⟩ := Bool.and_eq_true_iff.mp q
      have e1 := eq_of_beq h1
      have e2 := eq_of_beq h2
      obtain ⟨nm, bs, mro, ns, qn, hd, sn, sub, ab, col, del⟩ := cd
      dsimp only at hm h3 h4
      have e3 : del = false := by simpa using h3
      subst e1 e2 hm e3 h4
      have hsl : sl = #[k0, k1, k2, k3, some (.builtin "ValueError.__new__"), k5] := by
        obtain ⟨l⟩ := sl
        simp only at hs
        rw [hs]
      subst hsl
      exact ⟨nm, qn, ns, bs, bm, sn, sub, ab, col, dd, k0, k1, k2, k3, k5, ho, h5⟩
    · cases q
  · cases q
def iniB (K : PySem.W.Frag) (R : Addr) : Bool := match PySem.W.findCls K (.ref R) (.type "type") "__init__" with
  | some (.val (.builtin s)) => s == "ValueError.__init__"
  | _ => false
theorem iniB_ok {K : PySem.W.Frag} {R : Addr} (h : iniB K R = true) : PySem.W.findCls K (.ref R) (.type "type") "__init__" = some (.val (.builtin "ValueError.__init__")) := by
  unfold iniB at h
  split at h
  · rename_i s hs
    rw [eq_of_beq h] at hs
    exact hs
  · cases h
/-- the class x, its own __init__, made over the class y, which has none; the field f -/
def errB (K : PySem.W.Frag) (x y f : PySem.Str) : Bool :=
  oexB K (He.ga K x) && (He.eqO (PySem.W.findIn K (.ref (He.ga K x)) "__setattr__") (some (some (.builtin "object.__setattr__"))) && (decide (PySem.W.subIn K (.ref (He.ga K x)) (.type "BaseException") = some true) && (decide (PySem.W.typeIn K (.ref (He.ga K x)) = some (.type "type")) && (PySem.W.keepIn K (.ref (He.ga K x)) &&
  (He.eqO (PySem.W.findIn K (.ref (He.ga K x)) "__init__") (some (some (.ref (He.fAd K (x, some "__init__"))))) && (decide (PySem.W.typeIn K (.ref (He.fAd K (x, some "__init__"))) = some (.type "function")) &&
  (PySem.W.readsIn K (He.ga K y) (.type "type") && (He.eqO (PySem.W.specialIn K (.ref (He.ga K y)) "__getattribute__") (some (some (.builtin "type.__getattribute__"))) && (iniB K (He.ga K y) &&
  (He.eqO (PySem.W.findIn K (.ref (He.ga K x)) f) (some none) && (xfB K (He.ga K x) &&
  (He.eqO (PySem.W.findIn K (.ref (He.ga K x)) "__class__") (some (some (.builtin "object.__class__"))) && (He.eqO (PySem.W.specialIn K (.builtin "object.__class__") "__get__") (some (some (.builtin "getset_descriptor.__get__"))) && (decide (PySem.W.takesIn K (.builtin "object.__class__") = some true) && (decide (PySem.W.mroIn K (He.ga K x) (.type "object") = some true) &&
  (decide (PySem.W.exmOne K (.ref (He.ga K x)) (.ref (He.ga K y)) = some true) && decide (PySem.W.kitOne K (.ref (He.ga K x)) (.ref (He.ga K x)) = some true)))))))))))))))))
structure ErrF (K : PySem.W.Frag) (x y f : PySem.Str) : Prop where
  oex : OexC K (He.ga K x)
  iC : PySem.W.findIn K (.ref (He.ga K x)) "__init__" = some (some (.ref (He.fAd K (x, some "__init__"))))
  tI : PySem.W.typeIn K (.ref (He.fAd K (x, some "__init__"))) = some (.type "function")
  ini : RIni K (He.ga K y)
  noL : PySem.W.findIn K (.ref (He.ga K x)) f = some none
  xf : XfC K (He.ga K x)
  ec : L2.ExcC K (He.ga K x)
  exm : PySem.W.exmOne K (.ref (He.ga K x)) (.ref (He.ga K y)) = some true
  kit : PySem.W.kitOne K (.ref (He.ga K x)) (.ref (He.ga K x)) = some true
theorem errB_ok {K : PySem.W.Frag} {x y f : PySem.Str} (h : errB K x y f = true) : ErrF K x y f := by
  unfold errB at h
  obtain ⟨h1, h⟩ := He.ba h
  obtain ⟨h2, h⟩ := He.ba h
  obtain ⟨h3, h⟩ := He.ba h
  obtain ⟨h4, h⟩ := He.ba h
  obtain ⟨h5, h⟩ := He.ba h
  obtain ⟨h6, h⟩ := He.ba h
  obtain ⟨h7, h⟩ := He.ba h
  obtain ⟨h8, h⟩ := He.ba h
  obtain ⟨h9, h⟩ := He.ba h
  obtain ⟨h10, h⟩ := He.ba h
  obtain ⟨h11, h⟩ := He.ba h
  obtain ⟨h12, h⟩ := He.ba h
  obtain ⟨h13, h⟩ := He.ba h
  obtain ⟨h14, h⟩ := He.ba h
  obtain ⟨h15, h⟩ := He.ba h
  obtain ⟨h16, h⟩ := He.ba h
  obtain ⟨h17, h18⟩ := He.ba h
  have xf := xfB_ok h12
  exact ⟨⟨oexB_ok h1, He.eqO_ok h2, of_decide_eq_true h3, of_decide_eq_true h4, h5⟩, He.eqO_ok h6, of_decide_eq_true h7, ⟨h8, He.eqO_ok h9, iniB_ok h10⟩, He.eqO_ok h11, xf,
    ⟨xf.ga, xf.gg, xf.exC, xf.hdC, He.eqO_ok h13, He.eqO_ok h14, of_decide_eq_true h15, of_decide_eq_true h16⟩, of_decide_eq_true h17, of_decide_eq_true h18⟩
end U


set_option Elab.async false
set_option linter.all false
set_option maxRecDepth 100000
set_option maxHeartbeats 4000000
/-! He's last hook, with the statics' object told too: an own class's attribute is then read (readsIn) -/
namespace U
open PySem PySem.Spec PyProof.Rows
abbrev asY (g : Addr → Option Obj) (n : Nat) : List Addr := He.asD g n ++ [cStatics]
def obsY (n : Nat) (fa : List He.Fa) (fn : List He.DefD) (ts : List He.Tab) (tf : List He.Defn) (ex : PySem.W.Frag → Bool) (g : Addr → Option Obj) : He.AlX := (He.obsT fa fn ts (He.frT g (asY g n)), ex (He.frT g (asY g n)) && He.tabsB g tf (He.frT g (asY g n)))
theorem saysY_of {n : Nat} {fa : List He.Fa} {fn : List He.DefD} {ts : List He.Tab} {tf : List He.Defn} {ex : PySem.W.Frag → Bool} {w : World} {h : Heap} (e : obsY n fa fn ts tf ex h.get? = He.valX fn ts w) : He.SaysX fa fn ts tf ex w h (He.frT h.get? (asY h.get? n)) := by
  have e1 : He.obsT fa fn ts (He.frT h.get? (asY h.get? n)) = He.valT fn ts w := congrArg (fun z : He.AlX => z.1) e
  have e2 : (ex (He.frT h.get? (asY h.get? n)) && He.tabsB h.get? tf (He.frT h.get? (asY h.get? n))) = true := congrArg (fun z : He.AlX => z.2) e
  obtain ⟨h1, h2⟩ := He.ba e2
  have key : ∀ p ∈ tf, PySem.W.codeHdIn (He.frT h.get? (asY h.get? n)) (He.cT (He.frT h.get? (asY h.get? n)) p).1 (He.cT (He.frT h.get? (asY h.get? n)) p).2 = true ∧ ∃ o, h.get? (He.cT (He.frT h.get? (asY h.get? n)) p).2 = some o ∧ He.emptyTab o = true := fun p hp => by
    obtain ⟨h3, h4⟩ := He.ba (List.all_eq_true.mp h2 p hp)
    refine ⟨h3, ?_⟩
    cases q : h.get? (He.cT (He.frT h.get? (asY h.get? n)) p).2 with
    | none =>
      rw [q] at h4
      cases h4
    | some o =>
      rw [q] at h4
      exact ⟨o, rfl, h4⟩
  exact ⟨e1, h1, fun p hp => (key p hp).1, fun p hp => by
    obtain ⟨_, o, q, z⟩ := key p hp
    exact He.frT_none q z, fun p hp => by
    obtain ⟨_, o, q, z⟩ := key p hp
    rw [q, He.emptyTab_eq z]⟩
def hookY (n : Nat) (fa : List He.Fa) (fn : List He.DefD) (ts : List He.Tab) (tf : List He.Defn) (ex : PySem.W.Frag → Bool) : PySem.W.Hook where
  α := He.AlX
  obs := fun s => obsY n fa fn ts tf ex s.heap.get?
  val := fun w => He.valX fn ts w
  says := fun w h => ∃ K : PySem.W.Frag, K.In h ∧ He.SaysX fa fn ts tf ex w h K
  of := fun _ _ e => ⟨_, He.frT_in, saysY_of e⟩
  keeps := fun _ _ _ ⟨K, hK, c⟩ k => ⟨K, PySem.W.Frag.In.keeps hK k, ⟨c.t, c.more, c.hd, c.out, fun p hp => k _ _ (c.empty p hp)⟩⟩
theorem obsY_eq {n : Nat} {fa : List He.Fa} {fn : List He.DefD} {ts : List He.Tab} {tf : List He.Defn} {ex : PySem.W.Frag → Bool} {g : Addr → Option Obj} {s : Shared} (h : ∀ a, g a = s.heap.get? a) : obsY n fa fn ts tf ex g = (hookY n fa fn ts tf ex).obs s := by
  have e : g = s.heap.get? := funext h
  rw [e] <;> rfl
end U


set_option Elab.async false
set_option linter.all false
set_option maxRecDepth 100000
set_option maxHeartbeats 4000000
/-! values as texts: plain Lean -/
namespace Vt
open PySem PySem.Spec PyProof.Rows L2 TL
/-! ### which values -/
def low (c : Nat) : Bool := decide (97 ≤ c) && decide (c ≤ 122)
def word (l : List Nat) : Bool := !l.isEmpty && l.all low
def whole (i : Int) : Bool := decide (0 ≤ i) && decide (i < 10 ^ 12)
def leaf : PyData → Bool
  | .none => true
  | .int i => whole i
  | .str x => word (tl x)
  | _ => false
def ok1 : PyData → Bool
  | .tuple _ => true
  | d => leaf d
def kids : PyData → List PyData
  | .tuple xs => xs
  | _ => []
def layers : Nat → List PyData → Bool
  | 0, _ => false
  | n + 1, ds => ds.all ok1 && ((ds.flatMap kids).isEmpty || layers n (ds.flatMap kids))
def isv (d : PyData) : Bool := layers 60 [d]
/-- leaves all right, of height n at most -/
def okT : Nat → PyData → Prop
  | 0, _ => False
  | n + 1, .tuple xs => ∀ x ∈ xs, okT n x
  | _ + 1, d => leaf d = true
theorem okT_mono : ∀ {n m : Nat} {d : PyData}, n ≤ m → okT n d → okT m d
  | 0, _, _, _, h => absurd h id
  | n + 1, 0, _, hn, _ => absurd hn (Nat.not_succ_le_zero n)
  | n + 1, m + 1, d, hn, h => by
    cases d with
    | tuple xs => exact fun x hx => okT_mono (Nat.le_of_succ_le_succ hn) (h x hx)
    | _ => exact h
theorem okT_ok1 {n : Nat} {d : PyData} (h : okT n d) : ok1 d = true := by
  cases n with
  | zero => exact absurd h id
  | succ n => cases d <;> first | rfl | exact h
theorem layers_okT : ∀ (n : Nat) (ds : List PyData), 0 < n → (∀ d ∈ ds, okT n d) → layers n ds = true
  | 0, _, h, _ => absurd h (Nat.lt_irrefl 0)
  | n + 1, ds, _, h => by
    rw [layers, Bool.and_eq_true]
    refine ⟨List.all_eq_true.mpr fun d hd => okT_ok1 (h d hd), ?_⟩
    have hk : ∀ x ∈ ds.flatMap kids, okT n x := fun x hx => by
      obtain ⟨d, hd, hx⟩ := List.mem_flatMap.mp hx
      have z := h d hd
      cases d with
      | tuple xs => exact z x hx
      | _ => cases hx
    cases e : ds.flatMap kids with
    | nil => rfl
    | cons x r =>
      rw [e] at hk
      cases n with
      | zero => exact absurd (hk x (List.mem_cons_self ..)) id
      | succ n => rw [layers_okT (n + 1) _ (Nat.succ_pos n) hk, Bool.or_true]
/-- and back -/
theorem okT_layers : ∀ (n : Nat) (ds : List PyData), layers n ds = true → ∀ d ∈ ds, okT n d
  | 0, _, h, _, _ => by cases h
  | n + 1, ds, h, d, hd => by
    rw [layers, Bool.and_eq_true] at h
    have h1 := List.all_eq_true.mp h.1 d hd
    cases d with
    | tuple xs =>
      intro x hx
      have hm : x ∈ ds.flatMap kids := List.mem_flatMap.mpr ⟨_, hd, hx⟩
      have h2 := h.2
      cases e : ds.flatMap kids with
      | nil =>
        rw [e] at hm
        cases hm
      | cons y r =>
        rw [e] at h2 hm
        exact okT_layers n _ (by simpa using h2) x hm
    | _ => exact h1
theorem isv_okT {d : PyData} (h : isv d = true) : okT 60 d := okT_layers 60 [d] h d (List.mem_singleton.mpr rfl)
theorem okT_isv {n : Nat} {d : PyData} (hn : n ≤ 60) (h : okT n d) : isv d = true := layers_okT 60 [d] (by decide) fun x hx => by
  rw [List.mem_singleton.mp hx]
  exact okT_mono hn h
/-! ### sizes -/
mutual
def sz : PyData → Nat
  | .str x => (tl x).length + 1
  | .tuple xs => szAll xs + 1
  | _ => 1
def szAll : List PyData → Nat
  | [] => 0
  | x :: xs => sz x + szAll xs
end
theorem sz_pos : ∀ d : PyData, 1 ≤ sz d := by
  intro d
  cases d <;> simp [sz]
theorem szAll_app : ∀ xs ys : List PyData, szAll (xs ++ ys) = szAll xs + szAll ys
  | [], ys => by simp [szAll]
  | x :: xs, ys => by
    rw [List.cons_append, szAll, szAll, szAll_app xs ys]
    omega
theorem szAll_len : ∀ xs : List PyData, xs.length ≤ szAll xs
  | [] => Nat.zero_le _
  | x :: xs => by
    have h1 := sz_pos x
    have h2 := szAll_len xs
    rw [szAll, List.length_cons]
    omega
theorem szAll_mem : ∀ {xs : List PyData} {d : PyData}, d ∈ xs → sz d ≤ szAll xs
  | x :: xs, d, h => by
    rw [szAll]
    rcases List.mem_cons.mp h with e | e
    · rw [e]
      omega
    · have := szAll_mem e
      omega
theorem sz_kids (d : PyData) : szAll (kids d) ≤ sz d := by
  cases d with
  | tuple xs =>
    rw [sz]
    exact Nat.le_succ _
  | _ => exact Nat.zero_le _
theorem szAll_kids : ∀ ds : List PyData, szAll (ds.flatMap kids) ≤ szAll ds
  | [] => Nat.le_refl _
  | d :: ds => by
    have h1 := sz_kids d
    have h2 := szAll_kids ds
    rw [List.flatMap_cons, szAll_app, szAll]
    omega
/-! ### the text of a value -/
mutual
def wr : PyData → List Nat
  | .none => [45]
  | .int i => tl (Str.ofString (toString i))
  | .str x => tl x
  | .tuple xs => 40 :: (wrAll xs ++ [41])
  | _ => []
def wrAll : List PyData → List Nat
  | [] => []
  | x :: xs => wr x ++ wrRest xs
def wrRest : List PyData → List Nat
  | [] => []
  | x :: xs => 32 :: (wr x ++ wrRest xs)
end
theorem wrAll_join : ∀ xs : List PyData, joinL [32] (xs.map wr) = wrAll xs
  | [] => by simp [joinL, wrAll]
  | [x] => by simp [joinL, wrAll, wrRest]
  | x :: y :: r => by
    have h := wrAll_join (y :: r)
    rw [List.map_cons, List.map_cons, joinL]
    rw [List.map_cons] at h
    rw [h, wrAll, wrAll, wrRest]
    simp
theorem whole_nat {i : Int} (h : whole i = true) : ∃ n : Nat, i = (n : Int) ∧ n < 10 ^ 12 := by
  unfold whole at h
  rw [Bool.and_eq_true, decide_eq_true_eq, decide_eq_true_eq] at h
  refine ⟨i.toNat, by omega, by omega⟩
theorem wr_int {n : Nat} : wr (.int (n : Int)) = numL n := by
  rw [wr, tl_num]
theorem wr_leaf {d : PyData} (h : leaf d = true) : wr d ≠ [] ∧ (wr d).length ≤ 12 * sz d ∧ ∀ c ∈ wr d, c ≠ 32 ∧ c ≠ 40 ∧ c ≠ 41 := by
  cases d with
  | none => exact ⟨by simp [wr], by simp [wr, sz], fun c hc => by rw [wr, List.mem_singleton] at hc; subst hc; decide⟩
  | int i =>
    obtain ⟨n, rfl, hn⟩ := whole_nat h
    rw [wr_int]
    refine ⟨numL_ne n, ?_, fun c hc => ?_⟩
    · have := numL_len (n := n) (k := 12) (by decide) hn
      have e : sz (.int (n : Int)) = 1 := by simp [sz]
      rw [e]
      omega
    · have := numL_digits n c hc
      omega
  | str x =>
    have h' : word (tl x) = true := h
    unfold word at h'
    rw [Bool.and_eq_true] at h'
    have e2 : sz (.str x) = (tl x).length + 1 := by simp [sz]
    rw [wr, e2]
    refine ⟨fun e => ?_, by omega, fun c hc => ?_⟩
    · rw [e] at h'
      exact absurd h'.1 (by decide)
    have := List.all_eq_true.mp h'.2 c hc
    unfold low at this
    rw [Bool.and_eq_true, decide_eq_true_eq, decide_eq_true_eq] at this
    omega
  | _ => cases h
theorem wr_len : ∀ (n : Nat) (d : PyData), okT n d → (wr d).length + 1 ≤ 14 * sz d
  | 0, _, h => absurd h id
  | n + 1, d, h => by
    have lf : leaf d = true → (wr d).length + 1 ≤ 14 * sz d := fun h => by
      have h1 := (wr_leaf h).2.1
      have h2 := sz_pos d
      omega
    cases d with
    | tuple xs =>
      have go : ∀ ys : List PyData, (∀ x ∈ ys, okT n x) → (wrRest ys).length ≤ 14 * szAll ys := by
        intro ys
        induction ys with
        | nil => intro _; simp [wrRest]
        | cons y r ih =>
          intro hy
          have h1 := wr_len n y (hy y (List.mem_cons_self ..))
          have h2 := ih fun x hx => hy x (List.mem_cons_of_mem _ hx)
          rw [wrRest, szAll, List.length_cons, List.length_append]
          omega
      have h2 : (wrAll xs).length ≤ 14 * szAll xs := by
        cases xs with
        | nil => simp [wrAll]
        | cons y r =>
          have h1 := wr_len n y (h y (List.mem_cons_self ..))
          have h2 := go r fun x hx => h x (List.mem_cons_of_mem _ hx)
          rw [wrAll, szAll, List.length_append]
          omega
      rw [wr, sz, List.length_cons, List.length_append, List.length_singleton]
      omega
    | none => exact lf h
    | int i => exact lf h
    | str x => exact lf h
    | bool b => cases h
    | list xs => cases h
    | dict xs => cases h
/-! ### pieces of a text -/
def sep (c : Nat) : Bool := c == 40 || c == 41 || c == 32
def flush (w : List Nat) : List (List Nat) := if w = [] then [] else [w]
def pcs : List Nat → List Nat → List (List Nat)
  | [], w => flush w
  | c :: r, w => if sep c = true then flush w ++ ((if c = 32 then [] else [[c]]) ++ pcs r []) else pcs r (w ++ [c])
theorem pcs_run : ∀ (l r w : List Nat), (∀ c ∈ l, c ≠ 32 ∧ c ≠ 40 ∧ c ≠ 41) → pcs (l ++ r) w = pcs r (w ++ l)
  | [], r, w, _ => by simp
  | c :: l, r, w, h => by
    have hc := h c (List.mem_cons_self ..)
    have e : sep c = false := by
      unfold sep
      simp [hc.1, hc.2.1, hc.2.2]
    rw [List.cons_append, pcs, if_neg (by rw [e]; decide), pcs_run l r (w ++ [c]) fun d hd => h d (List.mem_cons_of_mem _ hd)]
    simp
/-- what follows a value -/
def Ends (r : List Nat) : Prop := r = [] ∨ ∃ c r', r = c :: r' ∧ sep c = true
theorem pcs_ends {r w : List Nat} (h : Ends r) (hw : w ≠ []) : pcs r w = [w] ++ pcs r [] := by
  rcases h with rfl | ⟨c, r', rfl, e⟩
  · simp [pcs, flush, hw]
  · rw [pcs, if_pos e, pcs, if_pos e]
    simp [flush, hw]
/-! ### reading -/
def plain (p : List Nat) : Option PyData :=
  if p = [45] then some .none
  else if word p = true then some (.str ⟨p.toArray⟩)
  else if (decide (1 ≤ p.length) && decide (p.length ≤ 12) && p.all fun c => decide (48 ≤ c) && decide (c ≤ 57)) = true then some (.int (NumText.digitsVal p : Nat))
  else none
abbrev S2 : Type := List (List PyData) × List PyData
/-- a value has come -/
def put (st : S2) (v : PyData) : S2 := match st.1.getLast? with
  | none => (st.1, st.2 ++ [v])
  | some l => (st.1.dropLast ++ [l ++ [v]], st.2)
def step (st : S2) (p : List Nat) : Option S2 :=
  if p = [40] then some (st.1 ++ [[]], st.2)
  else if p = [41] then (match st.1.getLast? with
    | none => none
    | some l => some (put (st.1.dropLast, st.2) (.tuple l)))
  else (plain p).map (put st)
def steps : S2 → List (List Nat) → Option S2
  | st, [] => some st
  | st, p :: ps => (step st p).bind fun st' => steps st' ps
def fin (t : List Nat) (st : S2) : Option PyData := match st with
  | ([], [v]) => if isv v = true ∧ wr v = t then some v else none
  | _ => none
def rd (t : List Nat) : Option PyData := (steps ([], []) (pcs t [])).bind (fin t)
theorem steps_app : ∀ (ps qs : List (List Nat)) (st : S2), steps st (ps ++ qs) = (steps st ps).bind fun st' => steps st' qs
  | [], qs, st => rfl
  | p :: ps, qs, st => by
    rw [List.cons_append, steps, steps]
    cases step st p with
    | none => rfl
    | some st' => exact steps_app ps qs st'
theorem rd_sound {t : List Nat} {v : PyData} (h : rd t = some v) : isv v = true ∧ wr v = t := by
  unfold rd at h
  cases e : steps ([], []) (pcs t []) with
  | none =>
    rw [e] at h
    cases h
  | some st =>
    rw [e] at h
    have h' : fin t st = some v := h
    unfold fin at h'
    split at h'
    · split at h'
      · rename_i hv
        cases h'
        exact hv
      · cases h'
    · cases h'
theorem plain_leaf {d : PyData} (h : leaf d = true) : plain (wr d) = some d := by
  cases d with
  | none => rfl
  | int i =>
    obtain ⟨n, rfl, hn⟩ := whole_nat h
    rw [wr_int]
    have hd := numL_digits n
    have hne := numL_ne n
    have hl := numL_len (n := n) (k := 12) (by decide) hn
    have h0 : 1 ≤ (numL n).length := List.length_pos_iff.mpr hne
    have n1 : numL n ≠ [45] := fun e => by
      have := hd 45 (by rw [e]; exact List.mem_singleton.mpr rfl)
      omega
    have n2 : word (numL n) = false := by
      cases q : numL n with
      | nil => rfl
      | cons c r =>
        have := hd c (by rw [q]; exact List.mem_cons_self ..)
        unfold word low
        simp only [List.isEmpty_cons, Bool.not_false, Bool.true_and, List.all_cons, Bool.and_eq_false_iff, decide_eq_false_iff_not]
        left
        left
        omega
    have n3 : ((numL n).all fun c => decide (48 ≤ c) && decide (c ≤ 57)) = true := List.all_eq_true.mpr fun c hc => by
      have := hd c hc
      simp only [Bool.and_eq_true, decide_eq_true_eq]
      exact this
    unfold plain
    rw [if_neg n1, if_neg (by rw [n2]; decide), if_pos (by rw [n3, decide_eq_true h0, decide_eq_true hl]; rfl), numL_val]
  | str x =>
    have h' : word (tl x) = true := h
    have n1 : tl x ≠ [45] := fun e => by
      rw [e] at h'
      exact absurd h' (by decide)
    rw [wr]
    unfold plain
    rw [if_neg n1, if_pos h', mk_tl]
  | _ => cases h
theorem leaf_piece {d : PyData} (h : leaf d = true) : wr d ≠ [40] ∧ wr d ≠ [41] := by
  have z := (wr_leaf h).2.2
  refine ⟨fun e => (z 40 (by rw [e]; exact List.mem_singleton.mpr rfl)).2.1 rfl, fun e => (z 41 (by rw [e]; exact List.mem_singleton.mpr rfl)).2.2 rfl⟩
/-- a value's text is read as the value -/
theorem run_wr : ∀ (n : Nat) (d : PyData), okT n d → ∀ (r : List Nat) (st : S2), Ends r → steps st (pcs (wr d ++ r) []) = steps (put st d) (pcs r [])
  | 0, _, h => absurd h id
  | n + 1, d, h => by
    intro r st hr
    have lf : leaf d = true → steps st (pcs (wr d ++ r) []) = steps (put st d) (pcs r []) := fun h => by
      obtain ⟨h1, _, h3⟩ := wr_leaf h
      obtain ⟨n1, n2⟩ := leaf_piece h
      rw [pcs_run _ _ _ h3, List.nil_append, pcs_ends hr h1, List.singleton_append, steps]
      unfold step
      rw [if_neg n1, if_neg n2, plain_leaf h]
      rfl
    cases d with
    | tuple xs =>
      have e1 : wr (.tuple xs) ++ r = 40 :: (wrAll xs ++ (41 :: r)) := by
        rw [wr]
        simp
      have e2 : pcs (40 :: (wrAll xs ++ (41 :: r))) [] = [40] :: pcs (wrAll xs ++ (41 :: r)) [] := by
        rw [pcs, if_pos (by decide)]
        rfl
      -- the items that are left, behind those of acc
      have close : ∀ acc : List PyData, steps (st.1 ++ [acc], st.2) (pcs (41 :: r) []) = steps (put st (.tuple acc)) (pcs r []) := fun acc => by
        have e : pcs (41 :: r) [] = [41] :: pcs r [] := by
          rw [pcs, if_pos (by decide)]
          rfl
        rw [e, steps]
        unfold step
        rw [if_neg (by decide), if_pos rfl]
        simp
      have item : ∀ (y : PyData) (t : List Nat) (acc : List PyData), okT n y → Ends t → steps (st.1 ++ [acc], st.2) (pcs (wr y ++ t) []) = steps (st.1 ++ [acc ++ [y]], st.2) (pcs t []) := fun y t acc hy ht => by
        rw [run_wr n y hy t _ ht]
        have e : put (st.1 ++ [acc], st.2) y = (st.1 ++ [acc ++ [y]], st.2) := by
          unfold put
          simp
        rw [e]
      have rest : ∀ (ys acc : List PyData), (∀ y ∈ ys, okT n y) → steps (st.1 ++ [acc], st.2) (pcs (wrRest ys ++ (41 :: r)) []) = steps (put st (.tuple (acc ++ ys))) (pcs r []) := by
        intro ys
        induction ys with
        | nil =>
          intro acc _
          rw [wrRest, List.nil_append, List.append_nil]
          exact close acc
        | cons y ys ih =>
          intro acc hy
          have e : pcs (wrRest (y :: ys) ++ (41 :: r)) [] = pcs (wr y ++ (wrRest ys ++ (41 :: r))) [] := by
            rw [wrRest, List.cons_append, pcs, if_pos (by decide)]
            simp [flush]
          have ht : Ends (wrRest ys ++ (41 :: r)) := by
            cases ys with
            | nil => exact .inr ⟨41, r, by rw [wrRest]; rfl, by decide⟩
            | cons z zs => exact .inr ⟨32, _, by rw [wrRest]; rfl, by decide⟩
          rw [e, item y _ acc (hy y (List.mem_cons_self ..)) ht, ih _ fun x hx => hy x (List.mem_cons_of_mem _ hx)]
          simp
      rw [e1, e2, steps]
      have e3 : step st [40] = some (st.1 ++ [[]], st.2) := rfl
      rw [e3]
      show steps (st.1 ++ [[]], st.2) (pcs (wrAll xs ++ (41 :: r)) []) = _
      cases xs with
      | nil =>
        rw [wrAll, List.nil_append]
        exact close []
      | cons y ys =>
        have ht : Ends (wrRest ys ++ (41 :: r)) := by
          cases ys with
          | nil => exact .inr ⟨41, r, by rw [wrRest]; rfl, by decide⟩
          | cons z zs => exact .inr ⟨32, _, by rw [wrRest]; rfl, by decide⟩
        rw [wrAll, List.append_assoc, item y _ [] (h y (List.mem_cons_self ..)) ht, List.nil_append, rest ys [y] fun x hx => h x (List.mem_cons_of_mem _ hx)]
        rfl
    | none => exact lf h
    | int i => exact lf h
    | str x => exact lf h
    | bool b => cases h
    | list xs => cases h
    | dict xs => cases h
theorem rd_wr {d : PyData} (h : isv d = true) : rd (wr d) = some d := by
  have k := run_wr 60 d (isv_okT h) [] ([], []) (.inl rfl)
  rw [List.append_nil] at k
  unfold rd
  rw [k]
  show fin (wr d) (put ([], []) d) = some d
  show (if isv d = true ∧ wr d = wr d then some d else none) = some d
  rw [if_pos ⟨h, rfl⟩]
/-- the text tells the value -/
theorem wr_inj {d e : PyData} (h : isv d = true) (k : isv e = true) (q : wr d = wr e) : d = e := by
  have z := rd_wr h
  rw [q, rd_wr k] at z
  exact (Option.some.inj z).symm
end Vt



set_option Elab.async false
set_option linter.all false
set_option maxRecDepth 100000
set_option maxHeartbeats 4000000
namespace K76
open PySem PySem.Spec PyProof.Rows L2 U TL Vt
open C8 (pss_cut)
def topS (i : Nat) : Stmt := PySem.Challenge.pw_claimroots_k76_whole_values_as_texts.main.body.getD i (.Pass ⟨0, 0, 0, 0⟩)
abbrev s_is_word : Stmt := topS 9
abbrev N_is_word : List PySem.Str := ["thing", "sign"]
abbrev P_is_word : List PySem.Str := ["thing"]
theorem sc_is_word : FnScope N_is_word P_is_word (defScope s_is_word) := ⟨rfl, rfl, rfl, by decide +kernel, rfl, by decide +kernel, by decide +kernel⟩
abbrev s_is_whole : Stmt := topS 10
abbrev N_is_whole : List PySem.Str := ["thing"]
abbrev P_is_whole : List PySem.Str := ["thing"]
theorem sc_is_whole : FnScope N_is_whole P_is_whole (defScope s_is_whole) := ⟨rfl, rfl, rfl, by decide +kernel, rfl, by decide +kernel, by decide +kernel⟩
abbrev s_is_value : Stmt := topS 11
abbrev N_is_value : List PySem.Str := ["thing", "layer", "deep", "later", "one"]
abbrev P_is_value : List PySem.Str := ["thing"]
theorem sc_is_value : FnScope N_is_value P_is_value (defScope s_is_value) := ⟨rfl, rfl, rfl, by decide +kernel, rfl, by decide +kernel, by decide +kernel⟩
abbrev s_value_text : Stmt := topS 12
abbrev N_value_text : List PySem.Str := ["value", "found", "waiting", "here", "at", "one"]
abbrev P_value_text : List PySem.Str := ["value"]
theorem sc_value_text : FnScope N_value_text P_value_text (defScope s_value_text) := ⟨rfl, rfl, rfl, by decide +kernel, rfl, by decide +kernel, by decide +kernel⟩
abbrev s_pieces_in : Stmt := topS 13
abbrev N_pieces_in : List PySem.Str := ["text", "found", "word", "sign"]
abbrev P_pieces_in : List PySem.Str := ["text"]
theorem sc_pieces_in : FnScope N_pieces_in P_pieces_in (defScope s_pieces_in) := ⟨rfl, rfl, rfl, by decide +kernel, rfl, by decide +kernel, by decide +kernel⟩
abbrev s_plain_of : Stmt := topS 14
abbrev N_plain_of : List PySem.Str := ["piece", "sign"]
abbrev P_plain_of : List PySem.Str := ["piece"]
theorem sc_plain_of : FnScope N_plain_of P_plain_of (defScope s_plain_of) := ⟨rfl, rfl, rfl, by decide +kernel, rfl, by decide +kernel, by decide +kernel⟩
abbrev s_read_value : Stmt := topS 15
abbrev N_read_value : List PySem.Str := ["text", "stack", "found", "piece", "some"]
abbrev P_read_value : List PySem.Str := ["text"]
theorem sc_read_value : FnScope N_read_value P_read_value (defScope s_read_value) := ⟨rfl, rfl, rfl, by decide +kernel, rfl, by decide +kernel, by decide +kernel⟩
abbrev s__law_begun : Stmt := topS 17
abbrev N__law_begun : List PySem.Str := ["script", "great", "cell"]
abbrev P__law_begun : List PySem.Str := ["script"]
theorem sc__law_begun : FnScope N__law_begun P__law_begun (defScope s__law_begun) := ⟨rfl, rfl, rfl, by decide +kernel, rfl, by decide +kernel, by decide +kernel⟩
abbrev s__law_mixed : Stmt := topS 18
abbrev N__law_mixed : List PySem.Str := ["state", "turn", "found", "prime", "blend", "cell"]
abbrev P__law_mixed : List PySem.Str := ["state"]
theorem sc__law_mixed : FnScope N__law_mixed P__law_mixed (defScope s__law_mixed) := ⟨rfl, rfl, rfl, by decide +kernel, rfl, by decide +kernel, by decide +kernel⟩
abbrev s__law_draw : Stmt := topS 19
abbrev N__law_draw : List PySem.Str := ["state", "room", "found"]
abbrev P__law_draw : List PySem.Str := ["state", "room"]
theorem sc__law_draw : FnScope N__law_draw P__law_draw (defScope s__law_draw) := ⟨rfl, rfl, rfl, by decide +kernel, rfl, by decide +kernel, by decide +kernel⟩
abbrev s__law_pick : Stmt := topS 20
abbrev N__law_pick : List PySem.Str := ["state", "some"]
abbrev P__law_pick : List PySem.Str := ["state", "some"]
theorem sc__law_pick : FnScope N__law_pick P__law_pick (defScope s__law_pick) := ⟨rfl, rfl, rfl, by decide +kernel, rfl, by decide +kernel, by decide +kernel⟩
abbrev s__law_plain : Stmt := topS 21
abbrev N__law_plain : List PySem.Str := ["value", "one"]
abbrev P__law_plain : List PySem.Str := ["value"]
theorem sc__law_plain : FnScope N__law_plain P__law_plain (defScope s__law_plain) := ⟨rfl, rfl, rfl, by decide +kernel, rfl, by decide +kernel, by decide +kernel⟩
abbrev s__law_is : Stmt := topS 22
abbrev N__law_is : List PySem.Str := ["found", "due"]
abbrev P__law_is : List PySem.Str := ["found", "due"]
theorem sc__law_is : FnScope N__law_is P__law_is (defScope s__law_is) := ⟨rfl, rfl, rfl, by decide +kernel, rfl, by decide +kernel, by decide +kernel⟩
abbrev s__law_caught : Stmt := topS 23
abbrev N__law_caught : List PySem.Str := ["action", "found", "error"]
abbrev P__law_caught : List PySem.Str := ["action"]
theorem sc__law_caught : FnScope N__law_caught P__law_caught (defScope s__law_caught) := ⟨rfl, rfl, rfl, by decide +kernel, rfl, by decide +kernel, by decide +kernel⟩
abbrev s__law_value : Stmt := topS 24
abbrev N__law_value : List PySem.Str := ["state", "deep", "lap"]
abbrev P__law_value : List PySem.Str := ["state", "deep"]
theorem sc__law_value : FnScope N__law_value P__law_value (defScope s__law_value) := ⟨rfl, rfl, rfl, by decide +kernel, rfl, by decide +kernel, by decide +kernel⟩
abbrev s__law_written : Stmt := topS 25
abbrev N__law_written : List PySem.Str := ["value", "one"]
abbrev P__law_written : List PySem.Str := ["value"]
theorem sc__law_written : FnScope N__law_written P__law_written (defScope s__law_written) := ⟨rfl, rfl, rfl, by decide +kernel, rfl, by decide +kernel, by decide +kernel⟩
abbrev s_law : Stmt := topS 26
abbrev N_law : List PySem.Str := ["script", "state", "turn", "value", "text", "lap", "at", "found", "bent", "error", "wrong", "odd", "deep", "many"]
abbrev P_law : List PySem.Str := ["script"]
theorem sc_law : FnScope N_law P_law (defScope s_law) := ⟨rfl, rfl, rfl, by decide +kernel, rfl, by decide +kernel, by decide +kernel⟩
abbrev s_NoText___init__ : Stmt := U.clsB (topS 2) 0
abbrev N_NoText___init__ : List PySem.Str := ["self", "text", "line"]
abbrev P_NoText___init__ : List PySem.Str := ["self", "text", "line"]
theorem sc_NoText___init__ : FnScope N_NoText___init__ P_NoText___init__ (defScope s_NoText___init__) := ⟨rfl, rfl, rfl, by decide +kernel, rfl, by decide +kernel, by decide +kernel⟩
/-- built-in names that the module leaves as they are -/
structure Bi (mg : PySem.Str → Option Value) : Prop where
  n_abs : mg "abs" = none
  n_all : mg "all" = none
  n_bool : mg "bool" = none
  n_dict : mg "dict" = none
  n_enumerate : mg "enumerate" = none
  n_int : mg "int" = none
  n_isinstance : mg "isinstance" = none
  n_len : mg "len" = none
  n_list : mg "list" = none
  n_min : mg "min" = none
  n_range : mg "range" = none
  n_repr : mg "repr" = none
  n_str : mg "str" = none
  n_tuple : mg "tuple" = none
  c_LETTERS : ∃ t, mg "LETTERS" = some (.str (PySem.Str.ofString "abcdefghijklmnopqrstuvwxyz") t)
  c_DIGITS : ∃ t, mg "DIGITS" = some (.str (PySem.Str.ofString "0123456789") t)
  c_MOST_DEEP : ∃ t, mg "MOST_DEEP" = some (.int 60 t)
  c_MOST_SIGNS : ∃ t, mg "MOST_SIGNS" = some (.int 12 t)
  c_NOTHING : ∃ t, mg "NOTHING" = some (.str (PySem.Str.ofString "-") t)
/-! ### things that may be asked whether they are values -/
mutual
inductive Od (H : Hp) : V → PyData → Prop
  | non : Od H .non .none
  | bl (b : Bool) : Od H (.bl b) (.bool b)
  | int (i : Int) : Od H (.int i) (.int i)
  | str (x : PySem.Str) : Od H (.str x) (.str x)
  | tup {a : Addr} {xs : List V} {ds : List PyData} : H a = some (.tup xs) → OdAll H xs ds → Od H (.ref a) (.tuple ds)
  | lst {a : Addr} {xs : List V} : H a = some (.lst xs) → Od H (.ref a) (.list [])
  | dct {a : Addr} {kvs : List (Key × V)} : H a = some (.dK kvs) → Od H (.ref a) (.dict [])
inductive OdAll (H : Hp) : List V → List PyData → Prop
  | nil : OdAll H [] []
  | cons {v : V} {vs : List V} {d : PyData} {ds : List PyData} : Od H v d → OdAll H vs ds → OdAll H (v :: vs) (d :: ds)
end
mutual
theorem Od.mono {H H' : Hp} (t : Same H H') : ∀ {v : V} {d : PyData}, Od H v d → Od H' v d
  | _, _, .non => .non
  | _, _, .bl b => .bl b
  | _, _, .int i => .int i
  | _, _, .str x => .str x
  | _, _, .tup h a => .tup (t _ _ h) (OdAll.mono t a)
  | _, _, .lst h => .lst (t _ _ h)
  | _, _, .dct h => .dct (t _ _ h)
theorem OdAll.mono {H H' : Hp} (t : Same H H') : ∀ {vs : List V} {ds : List PyData}, OdAll H vs ds → OdAll H' vs ds
  | _, _, .nil => .nil
  | _, _, .cons h a => .cons (Od.mono t h) (OdAll.mono t a)
end
mutual
theorem Tr.od {H : Hp} : ∀ {v : V} {d : PyData}, Tr H v d → Od H v d
  | _, _, .non => .non
  | _, _, .bl b => .bl b
  | _, _, .int i => .int i
  | _, _, .str x => .str x
  | _, _, .tup h a => .tup h (TrAll.od a)
theorem TrAll.od {H : Hp} : ∀ {vs : List V} {ds : List PyData}, TrAll H vs ds → OdAll H vs ds
  | _, _, .nil => .nil
  | _, _, .cons h a => .cons (Tr.od h) (TrAll.od a)
end
theorem OdAll.length {H : Hp} : ∀ {vs : List V} {ds : List PyData}, OdAll H vs ds → vs.length = ds.length
  | _, _, .nil => rfl
  | _, _, .cons _ a => congrArg Nat.succ (OdAll.length a)
theorem OdAll.get {H : Hp} : ∀ {vs : List V} {ds : List PyData} {i : Nat} {v : V}, OdAll H vs ds → vs[i]? = some v → ∃ d, ds[i]? = some d ∧ Od H v d
  | _, _, _, _, .nil, e => by simp at e
  | _, _, 0, _, .cons h _, e => by
    have e' := Option.some.inj (show some _ = some _ from e)
    subst e'
    exact ⟨_, rfl, h⟩
  | _, _, i + 1, v, .cons _ a, e => OdAll.get (i := i) (v := v) a e
theorem OdAll.app {H : Hp} : ∀ {vs ws : List V} {ds es : List PyData}, OdAll H vs ds → OdAll H ws es → OdAll H (vs ++ ws) (ds ++ es)
  | _, _, _, _, .nil, k => k
  | _, _, _, _, .cons h a, k => .cons h (OdAll.app a k)
/-- the name of a thing's type -/
def tyN : PyData → String
  | .none => "NoneType"
  | .bool _ => "bool"
  | .int _ => "int"
  | .str _ => "str"
  | .tuple _ => "tuple"
  | .list _ => "list"
  | .dict _ => "dict"
theorem Od.ty {K : PySem.W.Frag} {H : Hp} {v : V} {d : PyData} (h : Od H v d) : TyX K H v (.type (tyN d)) := by
  cases h with
  | non => exact .base .non
  | bl b => exact .base (.bl b)
  | int i => exact .base (.int i)
  | str x => exact .base (.str x)
  | tup h _ => exact .base (.tup h)
  | lst h => exact .base (.lst h)
  | dct h => exact .base (.dK h)
def isS : PyData → Bool
  | .str _ => true
  | _ => false
def isI : PyData → Bool
  | .int _ => true
  | .bool _ => true
  | _ => false
def isB : PyData → Bool
  | .bool _ => true
  | _ => false
def isTp : PyData → Bool
  | .tuple _ => true
  | _ => false
def isL : PyData → Bool
  | .list _ => true
  | _ => false
theorem kit_S : ∀ d : PyData, kitB (tyN d) "str" = some (isS d)
  | .none => (by decide +kernel : kitB "NoneType" "str" = some false)
  | .bool _ => (by decide +kernel : kitB "bool" "str" = some false)
  | .int _ => (by decide +kernel : kitB "int" "str" = some false)
  | .str _ => (by decide +kernel : kitB "str" "str" = some true)
  | .tuple _ => (by decide +kernel : kitB "tuple" "str" = some false)
  | .list _ => (by decide +kernel : kitB "list" "str" = some false)
  | .dict _ => (by decide +kernel : kitB "dict" "str" = some false)
theorem kit_I : ∀ d : PyData, kitB (tyN d) "int" = some (isI d)
  | .none => (by decide +kernel : kitB "NoneType" "int" = some false)
  | .bool _ => (by decide +kernel : kitB "bool" "int" = some true)
  | .int _ => (by decide +kernel : kitB "int" "int" = some true)
  | .str _ => (by decide +kernel : kitB "str" "int" = some false)
  | .tuple _ => (by decide +kernel : kitB "tuple" "int" = some false)
  | .list _ => (by decide +kernel : kitB "list" "int" = some false)
  | .dict _ => (by decide +kernel : kitB "dict" "int" = some false)
theorem kit_B : ∀ d : PyData, kitB (tyN d) "bool" = some (isB d)
  | .none => (by decide +kernel : kitB "NoneType" "bool" = some false)
  | .bool _ => (by decide +kernel : kitB "bool" "bool" = some true)
  | .int _ => (by decide +kernel : kitB "int" "bool" = some false)
  | .str _ => (by decide +kernel : kitB "str" "bool" = some false)
  | .tuple _ => (by decide +kernel : kitB "tuple" "bool" = some false)
  | .list _ => (by decide +kernel : kitB "list" "bool" = some false)
  | .dict _ => (by decide +kernel : kitB "dict" "bool" = some false)
theorem kit_Tp : ∀ d : PyData, kitB (tyN d) "tuple" = some (isTp d)
  | .none => (by decide +kernel : kitB "NoneType" "tuple" = some false)
  | .bool _ => (by decide +kernel : kitB "bool" "tuple" = some false)
  | .int _ => (by decide +kernel : kitB "int" "tuple" = some false)
  | .str _ => (by decide +kernel : kitB "str" "tuple" = some false)
  | .tuple _ => (by decide +kernel : kitB "tuple" "tuple" = some true)
  | .list _ => (by decide +kernel : kitB "list" "tuple" = some false)
  | .dict _ => (by decide +kernel : kitB "dict" "tuple" = some false)
theorem kit_L : ∀ d : PyData, kitB (tyN d) "list" = some (isL d)
  | .none => (by decide +kernel : kitB "NoneType" "list" = some false)
  | .bool _ => (by decide +kernel : kitB "bool" "list" = some false)
  | .int _ => (by decide +kernel : kitB "int" "list" = some false)
  | .str _ => (by decide +kernel : kitB "str" "list" = some false)
  | .tuple _ => (by decide +kernel : kitB "tuple" "list" = some false)
  | .list _ => (by decide +kernel : kitB "list" "list" = some true)
  | .dict _ => (by decide +kernel : kitB "dict" "list" = some false)
def wordD : PyData → Bool
  | .str x => word (tl x)
  | _ => false
def wholeD : PyData → Bool
  | .int i => whole i
  | _ => false
def spWord : Sp := fun vs H Q _ => ∃ (v : V) (d : PyData), vs = [v] ∧ Od H v d ∧ sz d ≤ 4194304 ∧ ∀ H', Same H H' → Q (.bl (wordD d)) H'
def spWhole : Sp := fun vs H Q _ => ∃ (v : V) (d : PyData), vs = [v] ∧ Od H v d ∧ ∀ H', Same H H' → Q (.bl (wholeD d)) H'
def spValue : Sp := fun vs H Q _ => ∃ (v : V) (d : PyData), vs = [v] ∧ Od H v d ∧ sz d ≤ 4194304 ∧ ∀ H', Same H H' → Q (.bl (isv d)) H'
theorem lt_line {n : Nat} (h : n ≤ 16777215) : n < sizeLine := by
  rw [sizeLine_eq]
  omega
theorem le_line {n : Nat} (h : n ≤ 16777216) : n ≤ sizeLine := by
  rw [sizeLine_eq]
  exact h
theorem tl_letters : tl (PySem.Str.ofString "abcdefghijklmnopqrstuvwxyz") = (List.range 26).map (· + 97) := by decide +kernel
theorem tl_digits : tl (PySem.Str.ofString "0123456789") = (List.range 10).map (· + 48) := by decide +kernel
theorem mem_letters (c : Nat) : decide (c ∈ (PySem.Str.ofString "abcdefghijklmnopqrstuvwxyz").cps.toList) = low c := by
  have e : (PySem.Str.ofString "abcdefghijklmnopqrstuvwxyz").cps.toList = (List.range 26).map (· + 97) := tl_letters
  rw [e]
  unfold low
  rw [Bool.eq_iff_iff, decide_eq_true_eq, Bool.and_eq_true, decide_eq_true_eq, decide_eq_true_eq, List.mem_map]
  constructor
  · rintro ⟨a, ha, rfl⟩
    have := List.mem_range.mp ha
    omega
  · rintro ⟨h1, h2⟩
    exact ⟨c - 97, List.mem_range.mpr (by omega), by omega⟩
theorem mem_digits (c : Nat) : decide (c ∈ (PySem.Str.ofString "0123456789").cps.toList) = (decide (48 ≤ c) && decide (c ≤ 57)) := by
  have e : (PySem.Str.ofString "0123456789").cps.toList = (List.range 10).map (· + 48) := tl_digits
  rw [e]
  rw [Bool.eq_iff_iff, decide_eq_true_eq, Bool.and_eq_true, decide_eq_true_eq, decide_eq_true_eq, List.mem_map]
  constructor
  · rintro ⟨a, ha, rfl⟩
    have := List.mem_range.mp ha
    omega
  · rintro ⟨h1, h2⟩
    exact ⟨c - 48, List.mem_range.mpr (by omega), by omega⟩
section
variable {P : Program} {w : World} {K : PySem.W.Frag} {mg : PySem.Str → Option Value} {base : Heap}
theorem ok_word {f : Addr} {fd : FuncData} (F : FunD K "is_word" "is_word" (defArgs s_is_word) (defBody s_is_word) (defScope s_is_word) [] [] f fd) (T : Bi mg) : FnOk P w K mg base CX0 1 f fd P_is_word spWord := by
  refine F.ok sc_is_word (fun vs H Q E h => ?_) (fun cdv A outer s H vs Q E hr h => ?_)
  · obtain ⟨v, d, rfl, _⟩ := h
    rfl
  · have hu := hu_of hr
    obtain ⟨v, d, rfl, hd, hz, q⟩ := h
    refine ⟨_, PSs.nox ((pss_one (ps_ret (pe_and (pe_callB (k_isi K) (by rfl) T.n_isinstance (by decide +kernel) (pa_cons (pv 0) (pa_cons (pe_bltn (v := .ty "str") (by rfl) T.n_str (by decide +kernel) rfl) pa_nil))) (pe_and (pe_cmpR op_ne (pv 0) pe_str (nomark _)) (pe_one (pe_callB (cr_all rfl) (by rfl) T.n_all (by decide +kernel) (pa_cons (pe_lc (own := [("sign", 1)]) (g := gName 1) (tt := tYes) rfl sc_is_word.nd (pi_str (pv 0)) (blkOk_by (N := N_is_word) (sc := defScope s_is_word) (by decide +kernel)) (fun _ _ _ _ _ => (pg_name (i := 1) sc_is_word.nd rfl (.inl rfl))) (fun _ _ _ _ _ => pts_nil) (fun _ _ _ _ _ => (pe_cmpR op_in_sign (pv 1) (pe_gs T.c_LETTERS) (by rfl)))) pa_nil)))))))), ?_⟩
    refine ⟨v, rfl, v, .ty "str", .type (tyN d), .type "str", isS d, rfl, .ty _, hd.ty, kit_ty (kit_S d), _, rfl, ?_⟩
    cases hd with
    | @str x =>
      refine iteT ?_
      have hlen : (tl x).length + 1 ≤ 4194304 := by
        have e : sz (.str x) = (tl x).length + 1 := by simp [sz]
        rw [e] at hz
        exact hz
      refine ⟨.str x, rfl, rfl, _, rfl, ite2 (fun he => ?_) fun he => ?_⟩
      · have hne : x ≠ PySem.Str.ofString "" := by
          intro z
          rw [z] at he
          exact absurd he (by decide +kernel)
        refine ⟨.str x, rfl, x, rfl, fun D hD => ?_⟩
        refine lc_it walk_str (fun i H1 => H1 = upd H D (.lst ((((tl x).take i).map low).map V.bl))) rfl (fun _ _ _ _ => trivial) ?_ ?_
        · rintro i y H1 _ hi rfl ⟨rfl, c, hc, rfl⟩
          have hc' := at_sign hc
          have hlt : i < (tl x).length := (List.getElem?_eq_some_iff.mp hc').1
          refine ⟨rfl, yes ⟨.str ⟨#[c]⟩, rfl, c, _, rfl, rfl, _, upd_same, lt_line ?_, ?_⟩⟩
          · rw [List.length_map, List.length_map, List.length_take]
            omega
          · rw [upd_upd, take_sign hc', List.map_append, List.map_append, mem_letters]
            rfl
        · rintro H1 rfl
          rw [U.len_signs, List.take_length]
          refine ⟨D, _, rfl, SqL.of upd_same, ?_⟩
          rw [all_map]
          have e : (tl x).all low = wordD (.str x) := by
            show _ = word (tl x)
            unfold word
            have : tl x ≠ [] := fun z => hne (ext_tl (z.trans (by decide +kernel)))
            cases q : tl x with
            | nil => exact absurd q this
            | cons a r => simp
          rw [e]
          exact q _ (same_upd hD)
      · have hx : x = PySem.Str.ofString "" := by
          simpa using he
        have e : wordD (.str x) = false := by
          rw [hx]
          decide +kernel
        rw [e] at q
        exact q _ (Same.refl H)
    | _ => exact iteF (q _ (Same.refl H))
theorem ok_whole {f : Addr} {fd : FuncData} (F : FunD K "is_whole" "is_whole" (defArgs s_is_whole) (defBody s_is_whole) (defScope s_is_whole) [] [] f fd) (T : Bi mg) : FnOk P w K mg base CX0 1 f fd P_is_whole spWhole := by
  refine F.ok sc_is_whole (fun vs H Q E h => ?_) (fun cdv A outer s H vs Q E hr h => ?_)
  · obtain ⟨v, d, rfl, _⟩ := h
    rfl
  · have hu := hu_of hr
    obtain ⟨v, d, rfl, hd, q⟩ := h
    refine ⟨_, PSs.nox ((pss_one (ps_ret (pe_and (pe_callB (k_isi K) (by rfl) T.n_isinstance (by decide +kernel) (pa_cons (pv 0) (pa_cons (pe_bltn (v := .ty "int") (by rfl) T.n_int (by decide +kernel) rfl) pa_nil))) (pe_and (pe_not (pe_callB (k_isi K) (by rfl) T.n_isinstance (by decide +kernel) (pa_cons (pv 0) (pa_cons (pe_bltn (v := .ty "bool") (by rfl) T.n_bool (by decide +kernel) rfl) pa_nil)))) (pe_one (pe_chain op_le op_lt pe_int (pv 0) (pe_op op_pow pe_int pe_int)))))))), ?_⟩
    refine ⟨v, rfl, v, .ty "int", .type (tyN d), .type "int", isI d, rfl, .ty _, hd.ty, kit_ty (kit_I d), _, rfl, ?_⟩
    cases hd with
    | @int i =>
      refine iteT ⟨.int i, rfl, .int i, .ty "bool", .type "int", .type "bool", false, rfl, .ty _, .base (.int i), kit_ty (kit_B (.int i)), _, rfl, _, rfl, iteT ?_⟩
      refine ⟨.int i, rfl, 0, i, rfl, rfl, _, rfl, ite2 (fun h0 => ?_) fun h0 => ?_⟩
      · refine ⟨10, 12, rfl, rfl, ⟨by decide, by decide, by decide⟩, i, _, rfl, rfl, ?_⟩
        have e : decide (i < (10 : Int) ^ (12 : Int).toNat) = wholeD (.int i) := by
          show _ = whole i
          unfold whole
          rw [decide_eq_true (of_decide_eq_true h0)]
          rfl
        show Q (V.bl (decide (i < (10 : Int) ^ (12 : Int).toNat))) H
        rw [e]
        exact q _ (Same.refl H)
      · have e : wholeD (.int i) = false := by
          show whole i = false
          unfold whole
          have h1 : ¬ (0 : Int) ≤ i := by simpa using h0
          rw [decide_eq_false h1]
          rfl
        rw [e] at q
        exact q _ (Same.refl H)
    | @bl b => exact iteT ⟨.bl b, rfl, .bl b, .ty "bool", .type "bool", .type "bool", true, rfl, .ty _, .base (.bl b), kit_ty (kit_B (.bool b)), _, rfl, _, rfl, iteF (q _ (Same.refl H))⟩
    | _ => exact iteF (q _ (Same.refl H))
/-- what a thing on a layer is asked -/
def isN : PyData → Bool
  | .none => true
  | _ => false
theorem Od.isN {H : Hp} {v : V} {d : PyData} (h : Od H v d) : decide (v = .non) = isN d := by
  cases h <;> first | rfl | exact decide_eq_false (fun z => nomatch z)
theorem leaf_eq (d : PyData) (h : isTp d = false) : leaf d = (isN d || (wordD d || wholeD d)) := by
  cases d with
  | str x =>
    show word (tl x) = (false || (word (tl x) || false))
    simp
  | tuple _ => cases h
  | _ => rfl
theorem ok1_leaf {d : PyData} (h : isTp d = false) : ok1 d = leaf d := by
  cases d <;> first | rfl | cases h
theorem kids_leaf {d : PyData} (h : isTp d = false) : kids d = [] := by
  cases d <;> first | rfl | cases h
theorem take_snoc {α : Type} {l : List α} {i : Nat} {c : α} (h : l[i]? = some c) : l.take (i + 1) = l.take i ++ [c] := by
  rw [List.take_add_one, h]
  rfl
theorem all_false {ds : List PyData} {i : Nat} {d : PyData} (h : ds[i]? = some d) (hb : ok1 d = false) : ds.all ok1 = false := by
  rw [List.all_eq_false]
  exact ⟨d, List.mem_of_getElem? h, by rw [hb]; decide⟩
theorem ok_value {f : Addr} {fd : FuncData} (F : FunD K "is_value" "is_value" (defArgs s_is_value) (defBody s_is_value) (defScope s_is_value) [] [] f fd) (T : Bi mg)
    (C_is_word : Cal P w K mg base CX0 "is_word" 1 P_is_word spWord) (C_is_whole : Cal P w K mg base CX0 "is_whole" 1 P_is_whole spWhole) : FnOk P w K mg base CX0 2 f fd P_is_value spValue := by
  refine F.ok sc_is_value (fun vs H Q E h => ?_) (fun cdv A outer s H vs Q E hr h => ?_)
  · obtain ⟨v, d, rfl, _⟩ := h
    rfl
  · have hu := hu_of hr
    obtain ⟨v, d, rfl, hd, hz, q⟩ := h
    refine ⟨_, PSs.nox ((pss_cons (ps_set (i := 1) sc_is_value.nd rfl (.inl rfl) (pe_lst (pa_cons (pv 0) pa_nil)))
      (pss_cons (ps_for PassesOwn.never rfl (pi_range1 (by rfl) T.n_range (pa_cons (pe_gi T.c_MOST_DEEP) pa_nil)) (pg_name (i := 2) sc_is_value.nd rfl (.inl rfl)) (pss_cons (ps_set (i := 3) sc_is_value.nd rfl (.inl rfl) (pe_lst pa_nil))
      (pss_cons (ps_for PassesOwn.never rfl (k_pil K (pv 1)) (pg_name (i := 4) sc_is_value.nd rfl (.inl rfl)) (pss_one (ps_if (pt_val (pe_callB (k_isi K) (by rfl) T.n_isinstance (by decide +kernel) (pa_cons (pv 4) (pa_cons (pe_bltn (v := .ty "tuple") (by rfl) T.n_tuple (by decide +kernel) rfl) pa_nil)))) (pss_one (ps_expr (k_bm K PySem.F.plainAttrs_list PySem.F.slot_list_extend PySem.F.type_list_extend (k_extT K) (pv 3) (pa_cons (pv 4) pa_nil)))) (pss_one (ps_if (PW.pt (pw_and (pt_cmpR op_notN (pv 4) pe_non (nomark _)) (pw_and (pt_not (pt_val (pe_c C_is_word (hr.mono (by decide)) pass0 (pa_cons (pv 4) pa_nil)))) (pw_and1 (pt_not (pt_val (pe_c C_is_whole (hr.mono (by decide)) pass0 (pa_cons (pv 4) pa_nil)))))))) (pss_one (ps_ret pe_bl)) pss_nil)))))
      (pss_cons (ps_if (pt_cmpR (op_eqNil hr.units) (pv 3) (pe_lst pa_nil) (nomark _)) (pss_one (ps_ret pe_bl)) pss_nil)
      (pss_one (ps_set (i := 1) sc_is_value.nd rfl (.inl rfl) (pv 3)))))))
      (pss_one (ps_ret pe_bl))))), ?_⟩
    refine ⟨v, rfl, le_line (by show 1 ≤ 16777216; decide), fun l0 hl0 => ?_⟩
    refine ⟨60, rfl, by decide, by decide, ?_⟩
    refine for_range (lo := 0) (n := 60) (fun i σ H' => ∃ (ly : Addr) (xs : List V) (ds : List PyData) (x2 x3 x4 : Option V), σ = [some v, some (.ref ly), x2, x3, x4] ∧ H' ly = some (.lst xs) ∧ OdAll H xs ds ∧ szAll ds ≤ 4194304 ∧ Same H H' ∧ layers (60 - i) ds = isv d)
      ⟨l0, [v], [d], none, none, none, rfl, upd_same, .cons hd .nil, by simp only [szAll]; omega, same_upd hl0, rfl⟩ ?_ ?_
    · rintro i σ H' hi ⟨ly, xs, ds, x2, x3, x4, rfl, hly, hds, hsz, sm, hL⟩
      obtain ⟨m, hm⟩ : ∃ m, 60 - i = m + 1 := ⟨60 - i - 1, by omega⟩
      rw [hm, layers] at hL
      refine ⟨Nat.zero_le _, fun p hp => ?_⟩
      have lyp : ly ≠ p := ne_of_none hly hp
      have hpH : H p = none := sm.free hp
      refine ⟨.ref ly, rfl, ly, rfl, ⟨xs, SqL.of (by rw [upd_ne lyp]; exact hly)⟩, ?_⟩
      refine for_list (K := K) (a := ly) (xs := xs) (fun j σ H' => ∃ (x4 : Option V) (ys : List V), σ = [some v, some (.ref ly), some (.int (0 + (i : Int))), some (.ref p), x4] ∧ H' p = some (.lst ys) ∧ OdAll H ys ((ds.take j).flatMap kids) ∧ H' ly = some (.lst xs) ∧ Same H H' ∧ (ds.take j).all ok1 = true)
        ⟨x4, [], rfl, upd_same, .nil, by rw [upd_ne lyp]; exact hly, sm.trans (same_upd hp), rfl⟩ (fun j σ H1 _ ⟨_, _, _, _, _, h4, _⟩ => SqL.of h4) ?_ ?_
      · rintro j one σ H1 hj ⟨y4, ys, rfl, h1, h2, h3, h4, h5⟩
        obtain ⟨e, he, ho⟩ := hds.get hj
        have hoH1 := ho.mono h4
        have hse : sz e ≤ 4194304 := Nat.le_trans (szAll_mem (List.mem_of_getElem? he)) hsz
        refine ⟨one, rfl, one, .ty "tuple", .type (tyN e), .type "tuple", isTp e, rfl, .ty _, hoH1.ty, kit_ty (kit_Tp e), isTp e, rfl, ?_⟩
        cases hT : isTp e with
        | true =>
          refine iteT ?_
          cases ho with
          | @tup a zs es ha hall =>
            have ha1 := h4 _ _ ha
            refine ⟨.ref p, rfl, .inl ⟨rfl, _, SqL.of h1⟩, .ref a, rfl, p, a, ys, zs, rfl, rfl, h1, SqT.of ha1, ?_, ?_⟩
            · have n1 := h2.length
              have n2 := hall.length
              have n3 : (ds.take j).flatMap kids ++ es = (ds.take (j + 1)).flatMap kids := by
                rw [take_snoc he, List.flatMap_append, List.flatMap_singleton]
                rfl
              have n4 := szAll_len ((ds.take (j + 1)).flatMap kids)
              have n5 := szAll_kids (ds.take (j + 1))
              have n6 : szAll (ds.take (j + 1)) ≤ szAll ds := by
                have := szAll_app (ds.take (j + 1)) (ds.drop (j + 1))
                rw [List.take_append_drop] at this
                omega
              rw [← n3, List.length_append] at n4
              rw [← n3] at n5
              rw [n1, n2]
              exact le_line (by omega)
            · refine ⟨_, ys ++ zs, rfl, upd_same, ?_, by rw [upd_ne lyp]; exact h3, same_mut h4 hpH, ?_⟩
              · rw [take_snoc he, List.flatMap_append, List.flatMap_singleton]
                exact h2.app hall
              · rw [take_snoc he, List.all_append, h5]
                rfl
          | _ => cases hT
        | false =>
          refine iteF ?_
          have n3 : (ds.take (j + 1)).flatMap kids = (ds.take j).flatMap kids := by
            rw [take_snoc he, List.flatMap_append, List.flatMap_singleton, kids_leaf hT, List.append_nil]
          have good : leaf e = true → ∃ (x4 : Option V) (ys' : List V), ([some v, some (.ref ly), some (.int (0 + (i : Int))), some (.ref p), some one] : List (Option V)) = [some v, some (.ref ly), some (.int (0 + (i : Int))), some (.ref p), x4] ∧ H1 p = some (.lst ys') ∧ OdAll H ys' ((ds.take (j + 1)).flatMap kids) ∧ H1 ly = some (.lst xs) ∧ Same H H1 ∧ (ds.take (j + 1)).all ok1 = true := fun hl => by
            refine ⟨some one, ys, rfl, h1, by rw [n3]; exact h2, h3, h4, ?_⟩
            rw [take_snoc he, List.all_append, h5, List.all_cons, ok1_leaf hT, hl]
            rfl
          have bad : leaf e = false → isv d = false := fun hl => by
            rw [← hL, all_false he (by rw [ok1_leaf hT]; exact hl)]
            rfl
          have hle := leaf_eq e hT
          refine ⟨one, rfl, rfl, _, rfl, ?_⟩
          rw [hoH1.isN]
          cases hN : isN e with
          | true =>
            rw [hN] at hle
            exact iteF (good hle)
          | false =>
            rw [hN] at hle
            refine iteT ⟨one, rfl, one, e, rfl, hoH1, hse, fun H2 k2 => ⟨_, rfl, ?_⟩⟩
            cases hW : wordD e with
            | true =>
              rw [hW] at hle
              obtain ⟨x4', ys', g1, g2, g3, g4, g5, g6⟩ := good hle
              exact iteF ⟨x4', ys', g1, k2 _ _ g2, g3, k2 _ _ g4, g5.trans k2, g6⟩
            | false =>
              rw [hW] at hle
              refine iteT ⟨one, rfl, one, e, rfl, hoH1.mono k2, fun H3 k3 => ⟨_, rfl, ?_⟩⟩
              cases hI : wholeD e with
              | true =>
                rw [hI] at hle
                obtain ⟨x4', ys', g1, g2, g3, g4, g5, g6⟩ := good hle
                exact iteF ⟨x4', ys', g1, k3 _ _ (k2 _ _ g2), g3, k3 _ _ (k2 _ _ g4), (g5.trans k2).trans k3, g6⟩
              | false =>
                rw [hI] at hle
                have e0 := bad hle
                rw [e0] at q
                exact iteT (q _ ((h4.trans k2).trans k3))
      · rintro σ H1 ⟨y4, ys, rfl, h1, h2, h3, h4, h5⟩
        have en : ds.take xs.length = ds := by
          rw [hds.length]
          exact List.take_length
        rw [en] at h2 h5
        rw [h5, Bool.true_and] at hL
        refine ⟨.ref p, rfl, Nat.zero_le _, fun p2 hp2 => ?_⟩
        have pp2 : p ≠ p2 := ne_of_none h1 hp2
        refine ⟨p, p2, ys, rfl, rfl, SqL.of (by rw [upd_ne pp2]; exact h1), SqL.of upd_same, _, rfl, ?_⟩
        have hlen := h2.length
        cases hk : ds.flatMap kids with
        | nil =>
          rw [hk] at h2 hL
          cases h2
          have e0 : isv d = true := hL.symm
          rw [e0] at q
          exact iteT (q _ (h4.trans (same_upd hp2)))
        | cons k ks =>
          rw [hk] at h2 hL hlen
          cases ys with
          | nil => cases hlen
          | cons y yr =>
            refine iteF ⟨.ref p, rfl, p, y :: yr, k :: ks, _, _, _, rfl, by rw [upd_ne pp2]; exact h1, h2, ?_, h4.trans (same_upd hp2), ?_⟩
            · rw [← hk]
              exact Nat.le_trans (szAll_kids ds) hsz
            · have em : 60 - (i + 1) = m := by omega
              rw [em]
              simpa using hL
    · rintro σ H' ⟨ly, xs, ds, x2, x3, x4, rfl, hly, hds, hsz, sm, hL⟩
      have e : isv d = false := hL.symm
      rw [e] at q
      exact q _ sm
end

end K76



set_option Elab.async false
set_option linter.all false
set_option maxRecDepth 100000
set_option maxHeartbeats 4000000
namespace K76
open PySem PySem.Spec PyProof.Rows L2 U TL Vt
open C8 (pss_cut)
/-! ### NoText: made with a text and a line -/
def spIni (C : Addr) : Sp := fun vs H Q _ => ∃ (a : Addr) (t l : V), vs = [.ref a, t, l] ∧ H a = some (exo a C none) ∧ ∀ d, H d = none → d ≠ a → Q .non (upd (upd H d (exd d [("line", l)])) a (exo a C (some d)))
theorem mk_nt {C : Addr} {H : Hp} {vs dvs : List V} {t l : V} {Q : XK} {E : XK} (e : vs ++ dvs = [t, l]) (q : ∀ H' p, Same H H' → H p = none → H' p = some (.xd [("line", l)]) → Q (.ref C) (some p) H') :
    vs.length ≤ 1000 ∧ ∀ a, H a = none → spIni C (.ref a :: (vs ++ dvs)) (upd H a (exo a C none)) (fun v H2 => v = .non ∧ ∃ (d : Addr) (fs : List (PySem.Str × V)), H2 a = some (exo a C (some d)) ∧ H2 d = some (exd d fs) ∧ H d = none ∧ Q (.ref C) (some d) (upd (del H2 a) d (.xd fs))) E := by
  have hl : vs.length ≤ 2 := by
    have := congrArg List.length e
    simp at this
    omega
  refine ⟨by omega, fun a ha => ?_⟩
  rw [e]
  refine ⟨a, t, l, rfl, upd_same, fun d hd hne => ⟨rfl, d, _, upd_same, by rw [upd_ne hne, upd_same], ?_, ?_⟩⟩
  · rw [upd_ne hne] at hd
    exact hd
  · rw [upd_ne hne] at hd
    refine q _ d (fun b o hb => ?_) hd upd_same
    have nb : b ≠ d := ne_of_none hb hd
    have na : b ≠ a := ne_of_none hb ha
    rw [upd_ne nb, del_ne na, upd_ne na, upd_ne nb, upd_ne na]
    exact hb
/-! ### what waits in value_text -/
abbrev It1 : Type := PyData ⊕ Nat
def txt : It1 → List Nat
  | .inl d => wr d
  | .inr c => [c]
def txs (L : List It1) : List Nat := L.reverse.flatMap txt
theorem txs_snoc (L : List It1) (a : It1) : txs (L ++ [a]) = txt a ++ txs L := by
  unfold txs
  rw [List.reverse_append]
  rfl
theorem txs_app (L M : List It1) : txs (L ++ M) = txs M ++ txs L := by
  unfold txs
  rw [List.reverse_append, List.flatMap_append]
mutual
def cs : PyData → Nat
  | .tuple xs => 2 + csAll xs
  | _ => 1
def csAll : List PyData → Nat
  | [] => 0
  | x :: xs => 1 + cs x + csAll xs
end
theorem cs_pos (d : PyData) : 1 ≤ cs d := by
  cases d <;> simp [cs]
  omega
theorem csAll_app : ∀ xs ys : List PyData, csAll (xs ++ ys) = csAll xs + csAll ys
  | [], ys => by simp [csAll]
  | x :: xs, ys => by
    rw [List.cons_append, csAll, csAll, csAll_app xs ys]
    omega
theorem csAll_rev : ∀ xs : List PyData, csAll xs.reverse = csAll xs
  | [] => rfl
  | x :: xs => by
    rw [List.reverse_cons, csAll_app, csAll_rev xs]
    simp only [csAll]
    omega
def ct1 : It1 → Nat
  | .inl d => cs d
  | .inr _ => 1
def ct (L : List It1) : Nat := (L.map ct1).sum
theorem ct_app (L M : List It1) : ct (L ++ M) = ct L + ct M := by
  unfold ct
  rw [List.map_append, List.sum_append]
theorem ct_one (a : It1) : ct [a] = ct1 a := by
  unfold ct
  simp
theorem wr_pos {n : Nat} {d : PyData} (h : okT n d) : 1 ≤ (wr d).length := by
  cases n with
  | zero => exact absurd h id
  | succ n =>
    have lf : leaf d = true → 1 ≤ (wr d).length := fun h => List.length_pos_iff.mpr (wr_leaf h).1
    cases d with
    | tuple xs =>
      rw [wr, List.length_cons]
      omega
    | none => exact lf h
    | int i => exact lf h
    | str x => exact lf h
    | bool b => cases h
    | list xs => cases h
    | dict xs => cases h
theorem wrRest_len : ∀ ys : List PyData, ys.length ≤ (wrRest ys).length
  | [] => Nat.zero_le _
  | y :: ys => by
    have := wrRest_len ys
    rw [wrRest, List.length_cons, List.length_cons, List.length_append]
    omega
theorem wrAll_len (ys : List PyData) : ys.length ≤ (wrAll ys).length + 1 := by
  cases ys with
  | nil => exact Nat.zero_le _
  | cons y ys =>
    have := wrRest_len ys
    rw [wrAll, List.length_cons, List.length_append]
    omega
theorem OdAll.rev {H : Hp} : ∀ {vs : List V} {ds : List PyData}, OdAll H vs ds → OdAll H vs.reverse ds.reverse
  | _, _, .nil => .nil
  | _, _, .cons h a => by
    rw [List.reverse_cons, List.reverse_cons]
    exact (OdAll.rev a).app (.cons h .nil)
/-- a value that waits, or a sign's own list -/
def Wt (H H' : Hp) (fo wa : Addr) : V → It1 → Prop := fun v a => match a with
  | .inl d => Od H v d ∧ okT 60 d
  | .inr c => ∃ p, v = .ref p ∧ H' p = some (.lst [.str ⟨#[c]⟩]) ∧ p ≠ fo ∧ p ≠ wa
theorem Wt.val {H H' : Hp} {fo wa : Addr} {v : V} {d : PyData} (h : Od H v d) (k : okT 60 d) : Wt H H' fo wa v (.inl d) := ⟨h, k⟩
theorem Wt.sign {H H' : Hp} {fo wa p : Addr} {c : Nat} (h : H' p = some (.lst [.str ⟨#[c]⟩])) (n1 : p ≠ fo) (n2 : p ≠ wa) : Wt H H' fo wa (.ref p) (.inr c) := ⟨p, rfl, h, n1, n2⟩
def Kf (fo wa : Addr) (H H' : Hp) : Prop := ∀ b o, H b = some o → b ≠ fo → b ≠ wa → H' b = some o
theorem Wt.keep {H H1 H2 : Hp} {fo wa : Addr} {v : V} {a : It1} (h : Wt H H1 fo wa v a) (k : Kf fo wa H1 H2) : Wt H H2 fo wa v a := by
  cases a with
  | inl d => exact h
  | inr c =>
    obtain ⟨p, e, h1, h2, h3⟩ := h
    exact ⟨p, e, k _ _ h1 h2 h3, h2, h3⟩
theorem Kf.refl (fo wa : Addr) (H : Hp) : Kf fo wa H H := fun _ _ h _ _ => h
theorem Kf.trans {fo wa : Addr} {H H1 H2 : Hp} (a : Kf fo wa H H1) (b : Kf fo wa H1 H2) : Kf fo wa H H2 := fun x o h n1 n2 => b x o (a x o h n1 n2) n1 n2
theorem Kf.new {fo wa p : Addr} {H : Hp} {o : HO} (h : H p = none) : Kf fo wa H (upd H p o) := fun b u e _ _ => by
  rw [upd_ne (ne_of_none e h)]
  exact e
theorem Kf.fo {fo wa : Addr} {H : Hp} {o : HO} : Kf fo wa H (upd H fo o) := fun b u e n _ => by
  rw [upd_ne n]
  exact e
theorem Kf.wa {fo wa : Addr} {H : Hp} {o : HO} : Kf fo wa H (upd H wa o) := fun b u e _ n => by
  rw [upd_ne n]
  exact e
theorem Kf.same {fo wa : Addr} {H H1 H2 : Hp} (s : Same H H1) (k : Kf fo wa H1 H2) (hf : H fo = none) (hw : H wa = none) : Same H H2 := fun b o e => k b o (s b o e) (ne_of_none e hf) (ne_of_none e hw)
theorem paired_snoc {α β : Type} {F : α → β → Prop} {b : β} : ∀ {L : List β} {ws : List α}, Paired F ws (L ++ [b]) → ∃ ws0 y, ws = ws0 ++ [y] ∧ Paired F ws0 L ∧ F y b
  | [], _, .cons h .nil => ⟨[], _, rfl, .nil, h⟩
  | a :: L, _, .cons h r => by
    obtain ⟨ws0, y, e, k, q⟩ := paired_snoc r
    exact ⟨_ :: ws0, y, by rw [e]; rfl, .cons h k, q⟩
theorem Paired.app {α β : Type} {F : α → β → Prop} : ∀ {l₁ m₁ : List α} {l₂ m₂ : List β}, Paired F l₁ l₂ → Paired F m₁ m₂ → Paired F (l₁ ++ m₁) (l₂ ++ m₂)
  | _, _, _, _, .nil, k => k
  | _, _, _, _, .cons h r, k => .cons h (Paired.app r k)
theorem txs_len {H H' : Hp} {fo wa : Addr} {ws : List V} {L : List It1} (h : Paired (Wt H H' fo wa) ws L) : L.length ≤ (txs L).length := by
  have key : ∀ (L : List It1), (∀ a ∈ L, 1 ≤ (txt a).length) → L.length ≤ (L.flatMap txt).length := by
    intro L
    induction L with
    | nil => intro _; exact Nat.zero_le _
    | cons a L ih =>
      intro ha
      have h1 := ha a (List.mem_cons_self ..)
      have h2 := ih fun x hx => ha x (List.mem_cons_of_mem _ hx)
      rw [List.flatMap_cons, List.length_append, List.length_cons]
      omega
  have all : ∀ a ∈ L, 1 ≤ (txt a).length := by
    intro a ha
    obtain ⟨v, hv⟩ := h.right a ha
    cases a with
    | inl d => exact wr_pos hv.2
    | inr c => exact Nat.le_refl 1
  have := key L.reverse fun a ha => all a (List.mem_reverse.mp ha)
  rw [List.length_reverse] at this
  exact this
theorem strs_len : ∀ {ss : List PySem.Str}, (∀ s ∈ ss, tl s ≠ []) → ss.length ≤ ((ss.map tl).flatten).length
  | [], _ => Nat.zero_le _
  | s :: ss, h => by
    have h1 := List.length_pos_iff.mpr (h s (List.mem_cons_self ..))
    have h2 := strs_len fun x hx => h x (List.mem_cons_of_mem _ hx)
    rw [List.map_cons, List.flatten_cons, List.length_append, List.length_cons]
    omega
theorem sum_len : ∀ ss : List PySem.Str, (ss.map (·.length)).sum = ((ss.map tl).flatten).length
  | [] => rfl
  | s :: ss => by
    rw [List.map_cons, List.map_cons, List.flatten_cons, List.length_append, List.sum_cons, sum_len ss, len_tl]
theorem join_empty (ss : List PySem.Str) : Txt.join (PySem.Str.ofString "") ss = ⟨((ss.map tl).flatten).toArray⟩ := by
  apply ext_tl
  rw [join_eq, tl_join]
  show joinL (tl (PySem.Str.ofString "")) (ss.map tl) = (ss.map tl).flatten
  have e : tl (PySem.Str.ofString "") = [] := by decide +kernel
  rw [e]
  generalize ss.map tl = L
  induction L with
  | nil => rfl
  | cons a L ih =>
    cases L with
    | nil => simp [joinL]
    | cons b L =>
      rw [joinL, ih]
      simp
def spText (C : Addr) : Sp := fun vs H Q E => ∃ (v : V) (d : PyData), vs = [v] ∧ Od H v d ∧ sz d ≤ 262144 ∧ (isv d = true → ∀ H', Same H H' → Q (.str ⟨(wr d).toArray⟩) H') ∧
  (isv d = false → ∀ H' p, Same H H' → H p = none → H' p = some (.xd [("line", .non)]) → E (.ref C) (some p) H')
/-- value_text's state: found at fo, what waits at wa -/
def TxtW (H : Hp) (v : V) (fo wa : Addr) (d : PyData) (m : Nat) (σ : L2.St) (H' : Hp) : Prop := ∃ (ss : List PySem.Str) (ws : List V) (L : List It1) (x3 x4 x5 : Option V), σ = [some v, some (.ref fo), some (.ref wa), x3, x4, x5] ∧ H' fo = some (.lst (ss.map V.str)) ∧ H' wa = some (.lst ws) ∧ Paired (Wt H H' fo wa) ws L ∧
  (∀ s ∈ ss, tl s ≠ []) ∧ (ss.map tl).flatten ++ txs L = wr d ∧ Same H H' ∧ m = ct L
section
variable {P : Program} {w : World} {K : PySem.W.Frag} {mg : PySem.Str → Option Value} {base : Heap}
theorem ok_ini {f : Addr} {fd : FuncData} {C R : Addr} (F : FunD K "__init__" "NoText.__init__" (defArgs s_NoText___init__) (defBody s_NoText___init__) (defScope s_NoText___init__) [.non] [] f fd)
    (hO : OexC K C) (hRI : RIni K R) (gRoot : mg "RootError" = some (.ref R)) (hno : PySem.W.findIn K (.ref C) "line" = some none) : FnOk P w K mg base CX0 1 f fd P_NoText___init__ (spIni C) := by
  refine F.ok sc_NoText___init__ (fun vs H Q E h => ?_) (fun cdv A outer s H vs Q E hr h => ?_)
  · obtain ⟨a, t, l, rfl, _⟩ := h
    rfl
  · obtain ⟨a, t, l, rfl, ha, q⟩ := h
    refine ⟨_, PSs.nox ((pss_cons (ps_expr (pe_rinit hRI (by rfl) gRoot (pa_cons (pv 0) (pa_cons (pv 1) pa_nil))))
      (pss_one (ps_ost (pv 0) (pv 2))))), ?_⟩
    exact ⟨.ref a, rfl, t, rfl, a, C, [t], rfl, (by show 1 ≤ 1000; decide), hO, ha, l, rfl, .ref a, rfl, a, C, rfl, hO, hno, .inl ⟨ha, fun d hd hne => q d hd hne⟩⟩
theorem ok_text {f : Addr} {fd : FuncData} {C : Addr} (F : FunD K "value_text" "value_text" (defArgs s_value_text) (defBody s_value_text) (defScope s_value_text) [] [] f fd) (T : Bi mg)
    (C_is_value : Cal P w K mg base CX0 "is_value" 2 P_is_value spValue) (M1 : CalM P w K mg base "NoText" C 1 [.non] (spIni C)) : FnOk P w K mg base (L2.CX P w) 3 f fd P_value_text (spText C) := by
  refine F.ok sc_value_text (fun vs H Q E h => ?_) (fun cdv A outer s H vs Q E hr h => ?_)
  · obtain ⟨v, d, rfl, _⟩ := h
    rfl
  · have hu := hu_of hr
    obtain ⟨v, d, rfl, hd, hz, q1, q2⟩ := h
    refine ⟨_, (pss_cons (ps_if (pt_not (pt_val (pe_c C_is_value (hr.mono (by decide)) pass0 (pa_cons (pv 0) pa_nil)))) (pss_one (ps_raise rfl (takes_of (E := E) rfl rfl rfl rfl) (pmk_c M1 (hr.mono (by decide)) (pa_cons pe_str pa_nil)))) pss_nil)
      (pss_cons (ps_par (by rfl) sc_value_text.nd rfl rfl (by decide) rfl rfl (i := 1) (j := 2) (pa_cons (pe_lst pa_nil) (pa_cons (pe_lst (pa_cons (pv 0) pa_nil)) pa_nil)) (by rfl))
      (pss_cons (ps_while (passes_of rfl) (pt_cmpR (op_neNil hr.units) (pv 2) (pe_lst pa_nil) (nomark _)) (pss_cons (ps_set (i := 3) sc_value_text.nd rfl (.inl rfl) (k_bm0 K PySem.F.plainAttrs_list PySem.F.slot_list_pop PySem.F.type_list_pop mt_pop (pv 2)))
      (pss_one (ps_if (pt_val (pe_callB (k_isi K) (by rfl) T.n_isinstance (by decide +kernel) (pa_cons (pv 3) (pa_cons (pe_bltn (v := .ty "list") (by rfl) T.n_list (by decide +kernel) rfl) pa_nil)))) (pss_one (ps_expr (k_bm K PySem.F.plainAttrs_list PySem.F.slot_list_append PySem.F.type_list_append mt_append (pv 1) (pa_cons (pe_ix (k_ix K) (pv 3) pe_int (fun _ _ => rfl)) pa_nil)))) (pss_one (ps_if (pt_val (pe_callB (k_isi K) (by rfl) T.n_isinstance (by decide +kernel) (pa_cons (pv 3) (pa_cons (pe_bltn (v := .ty "tuple") (by rfl) T.n_tuple (by decide +kernel) rfl) pa_nil)))) (pss_cons (ps_expr (k_bm K PySem.F.plainAttrs_list PySem.F.slot_list_append PySem.F.type_list_append mt_append (pv 1) (pa_cons pe_str pa_nil)))
      (pss_cons (ps_expr (k_bm K PySem.F.plainAttrs_list PySem.F.slot_list_append PySem.F.type_list_append mt_append (pv 2) (pa_cons (pe_lst (pa_cons pe_str pa_nil)) pa_nil)))
      (pss_one (ps_for (passes_of rfl) rfl (pi_enumT (by rfl) T.n_enumerate (pa_cons (pe_revT (pv 3)) pa_nil)) (k_pgt K (by rfl) (pgs_cons (pg_name (i := 4) sc_value_text.nd rfl (.inl rfl)) (pgs_cons (pg_name (i := 5) sc_value_text.nd rfl (.inl rfl)) pgs_nil))) (pss_one (ps_expr (k_bm K PySem.F.plainAttrs_list PySem.F.slot_list_extend PySem.F.type_list_extend mt_extend (pv 2) (pa_cons (pe_ifExp (pt_cmpR op_eq (pv 4) (pe_op op_sub (pe_callB (k_len K) (by rfl) T.n_len (by decide +kernel) (pa_cons (pv 3) pa_nil)) pe_int) (nomark _)) (pe_lst (pa_cons (pv 5) pa_nil)) (pe_lst (pa_cons (pv 5) (pa_cons (pe_lst (pa_cons pe_str pa_nil)) pa_nil)))) pa_nil)))))))) (pss_one (ps_expr (k_bm K PySem.F.plainAttrs_list PySem.F.slot_list_append PySem.F.type_list_append mt_append (pv 1) (pa_cons (pe_ifExp (pt_cmpR op_isN (pv 3) pe_non (nomark _)) (pe_gs T.c_NOTHING) (pe_callTy (CallR.or call_str_int SkE.call_str_str) (by rfl) T.n_str (by decide +kernel) (pa_cons (pv 3) pa_nil))) pa_nil))))))))))
      (pss_one (ps_ret (pe_join pe_str (pv 1))))))), ?_⟩
    refine ⟨v, rfl, v, d, rfl, hd, by omega, fun H1 k1 => ⟨_, rfl, ?_⟩⟩
    cases hv : isv d with
    | false =>
      refine iteT ?_
      exact mk_nt (t := .str (PySem.Str.ofString "no value")) (l := .non) rfl fun H' p k hp hx => q2 hv H' p (k1.trans k) (k1.free hp) hx
    | true =>
      refine iteF ?_
      have hok := isv_okT hv
      have hw := wr_len 60 d hok
      refine ⟨Nat.zero_le _, fun fo hfo => ⟨v, rfl, le_line (by show 1 ≤ 16777216; decide), fun wa hwa => ⟨_, _, rfl, ?_⟩⟩⟩
      have fw : fo ≠ wa := ne_of_none upd_same hwa
      have hfoH : H fo = none := k1.free hfo
      have s1 : Same H (upd (upd H1 fo (.lst [])) wa (.lst [v])) := (k1.trans (same_upd hfo)).trans (same_upd hwa)
      have hwaH : H wa = none := (k1.trans (same_upd hfo)).free hwa
      refine ⟨TxtW H v fo wa d, ⟨_, [], [v], [.inl d], none, none, none, rfl, by rw [upd_ne fw]; exact upd_same, upd_same, .cons ⟨hd, hok⟩ .nil, (fun s hs => (by cases hs)), by simp [txs, txt], s1, rfl⟩, ?_⟩
      rintro m σ H' ⟨ss, ws, L, x3, x4, x5, rfl, h1, h2, h3, h4, h5, h6, rfl⟩
      have ltot : ((ss.map tl).flatten).length + (txs L).length = (wr d).length := by
        rw [← List.length_append, h5]
      have lss := strs_len h4
      have lL := txs_len h3
      have lws := h3.length
      refine ⟨.ref wa, rfl, Nat.zero_le _, fun p hp => ?_⟩
      have n1 : fo ≠ p := ne_of_none h1 hp
      have n2 : wa ≠ p := ne_of_none h2 hp
      have kp : Kf fo wa H' (upd H' p (.lst [])) := Kf.new hp
      have e1 : (upd H' p (.lst [])) fo = some (.lst (ss.map V.str)) := by rw [upd_ne n1]; exact h1
      have e2 : (upd H' p (.lst [])) wa = some (.lst ws) := by rw [upd_ne n2]; exact h2
      have sp : Same H (upd H' p (.lst [])) := h6.trans (same_upd hp)
      refine ⟨wa, p, ws, rfl, rfl, SqL.of e2, SqL.of upd_same, _, rfl, ?_⟩
      rcases List.eq_nil_or_concat L with rfl | ⟨L0, it, rfl⟩
      · cases h3
        refine iteF ⟨⟨_, rfl⟩, .ref fo, rfl, PySem.Str.ofString "", fo, ss, rfl, rfl, .inl (SqL.of e1), ?_, ?_⟩
        · have e0 : (PySem.Str.ofString "").length = 0 := by decide +kernel
          rw [sum_len, e0]
          omega
        · rw [join_empty]
          have e : (ss.map tl).flatten = wr d := by
            rw [← h5]
            simp [txs]
          rw [e]
          exact q1 hv _ sp
      · rw [List.concat_eq_append] at h3 h5 lL ltot
        obtain ⟨ws0, y, rfl, h30, hy⟩ := paired_snoc h3
        have h30' := h30.mono fun a b z => Wt.keep z kp
        have hy' := hy.keep kp
        have ne : (!(ws0 ++ [y]).isEmpty) = true := by simp
        rw [ne, List.concat_eq_append]
        rw [txs_snoc] at h5 ltot
        rw [List.length_append] at ltot
        rw [List.length_append, List.length_singleton] at lws
        rw [txs_snoc, List.length_append] at lL
        have lL0 := txs_len h30
        have lw0 := h30.length
        generalize hG : upd H' p (.lst []) = H2 at *
        refine iteT ⟨fun σ' H'' => ∃ m', m' < ct (L0 ++ [it]) ∧ TxtW H v fo wa d m' σ' H'', fun σ' H'' z => z, ?_⟩
        -- here = waiting.pop()
        refine ⟨.ref wa, rfl, .inl ⟨rfl, _, SqL.of e2⟩, wa, _, y, rfl, rfl, e2, by simp, ?_⟩
        rw [List.dropLast_concat]
        have k3 : Kf fo wa H2 (upd H2 wa (.lst ws0)) := Kf.wa
        have e13 : (upd H2 wa (.lst ws0)) fo = some (.lst (ss.map V.str)) := by rw [upd_ne fw]; exact e1
        have e23 : (upd H2 wa (.lst ws0)) wa = some (.lst ws0) := upd_same
        have s3 : Same H (upd H2 wa (.lst ws0)) := k3.same sp hfoH hwaH
        have h33 := h30'.mono fun a b z => Wt.keep z k3
        have hy3 := hy'.keep k3
        generalize hG3 : upd H2 wa (.lst ws0) = H3 at *
        -- a sign's text goes to found
        have lt1 : (ss.map V.str).length < sizeLine := by
          rw [List.length_map]
          exact lt_line (by omega)
        have done : ∀ (t : PySem.Str), tl t = txt it → tl t ≠ [] → ∀ (x4 x5 : Option V), ∃ m', m' < ct (L0 ++ [it]) ∧ TxtW H v fo wa d m' [some v, some (.ref fo), some (.ref wa), some y, x4, x5] (upd H3 fo (.lst (ss.map V.str ++ [.str t]))) := fun t ht hne x4 x5 => by
          refine ⟨ct L0, ?_, ss ++ [t], ws0, L0, _, _, _, rfl, ?_, by rw [upd_ne (Ne.symm fw)]; exact e23, h33.mono fun a b z => Wt.keep z Kf.fo, ?_, ?_, Kf.same s3 Kf.fo hfoH hwaH, rfl⟩
          · rw [ct_app, ct_one]
            have : 1 ≤ ct1 it := by
              cases it with
              | inl e => exact cs_pos e
              | inr c => exact Nat.le_refl 1
            omega
          · rw [upd_same, List.map_append]
            rfl
          · intro s hs
            rcases List.mem_append.mp hs with z | z
            · exact h4 s z
            · rw [List.mem_singleton.mp z]
              exact hne
          · rw [← h5, List.map_append, List.flatten_append, List.append_assoc]
            simp [ht]
        cases it with
        | inr c =>
          obtain ⟨a, rfl, ha, na1, na2⟩ := hy3
          refine ⟨.ref a, rfl, .ref a, .ty "list", .type "list", .type "list", true, rfl, .ty _, .base (.lst ha), kit_ty (by decide +kernel), true, rfl, iteT ?_⟩
          refine ⟨.ref fo, rfl, .inl ⟨rfl, _, SqL.of e13⟩, .ref a, rfl, .inl ⟨a, _, 0, .str ⟨#[c]⟩, rfl, rfl, SqL.of ha, rfl, fo, _, _, rfl, rfl, e13, lt1, ?_⟩⟩
          exact done ⟨#[c]⟩ rfl (by simp [tl]) _ _
        | inl e =>
          obtain ⟨hoe, hke⟩ := hy3
          have hoe3 := hoe.mono s3
          have hnl : isL e = false := by
            cases e with
            | list xs => exact absurd hke (by simp [okT, leaf])
            | _ => rfl
          refine ⟨y, rfl, y, .ty "list", .type (tyN e), .type "list", isL e, rfl, .ty _, hoe3.ty, kit_ty (kit_L e), false, by rw [hnl], iteF ?_⟩
          refine ⟨y, rfl, y, .ty "tuple", .type (tyN e), .type "tuple", isTp e, rfl, .ty _, hoe3.ty, kit_ty (kit_Tp e), isTp e, rfl, ?_⟩
          cases hT : isTp e with
          | false =>
            have hleaf : leaf e = true := by
              have := okT_ok1 hke
              rw [ok1_leaf hT] at this
              exact this
            obtain ⟨w1, w2, w3⟩ := wr_leaf hleaf
            refine iteF ⟨.ref fo, rfl, .inl ⟨rfl, _, SqL.of e13⟩, ?_⟩
            refine ⟨y, rfl, rfl, _, rfl, ?_⟩
            rw [hoe3.isN]
            cases hoe with
            | non => exact iteT ⟨fo, _, _, rfl, rfl, e13, lt1, done (PySem.Str.ofString "-") (by decide +kernel) (by decide +kernel) _ _⟩
            | @int i =>
              have hi : i.natAbs.log2 < 1920 := by
                obtain ⟨n, rfl, hn⟩ := whole_nat hleaf
                exact log_small (by omega)
              exact iteF ⟨.int i, rfl, .inl ⟨i, rfl, hi, fo, _, _, rfl, rfl, e13, lt1, done _ rfl w1 _ _⟩⟩
            | @str x => exact iteF ⟨.str x, rfl, .inr ⟨x, rfl, fo, _, _, rfl, rfl, e13, lt1, done x rfl w1 _ _⟩⟩
            | bl b => cases hleaf
            | tup _ _ => cases hT
            | lst _ => cases hleaf
            | dct _ => cases hleaf
          | true =>
            cases hoe with
            | @tup a zs es ha hall =>
              have ha3 := s3 _ _ ha
              have hke' : ∀ x ∈ es, okT 59 x := hke
              have hn := hall.length
              have hwt : (wr (.tuple es)).length = (wrAll es).length + 2 := by
                rw [wr, List.length_cons, List.length_append, List.length_singleton]
              have hnw := wrAll_len es
              have lt0 : (txt (.inl (.tuple es))).length = (wrAll es).length + 2 := hwt
              refine iteT ⟨.ref fo, rfl, .inl ⟨rfl, _, SqL.of e13⟩, fo, _, _, rfl, rfl, e13, lt1, ?_⟩
              have e14 : (upd H3 fo (.lst (ss.map V.str ++ [.str (PySem.Str.ofString "(")]))) fo = some (.lst ((ss ++ [PySem.Str.ofString "("]).map V.str)) := by
                rw [upd_same, List.map_append]
                rfl
              have e24 : (upd H3 fo (.lst (ss.map V.str ++ [.str (PySem.Str.ofString "(")]))) wa = some (.lst ws0) := by
                rw [upd_ne (Ne.symm fw)]
                exact e23
              have h34 := h33.mono fun a b z => Wt.keep z (Kf.fo (fo := fo) (wa := wa) (H := H3) (o := .lst (ss.map V.str ++ [.str (PySem.Str.ofString "(")])))
              have s4 : Same H (upd H3 fo (.lst (ss.map V.str ++ [.str (PySem.Str.ofString "(")]))) := Kf.same s3 Kf.fo hfoH hwaH
              generalize hG4 : upd H3 fo (.lst (ss.map V.str ++ [.str (PySem.Str.ofString "(")])) = H4 at *
              refine ⟨.ref wa, rfl, .inl ⟨rfl, _, SqL.of e24⟩, le_line (by show 1 ≤ 16777216; decide), fun mk hmk => ?_⟩
              have fm : fo ≠ mk := ne_of_none e14 hmk
              have wm : wa ≠ mk := ne_of_none e24 hmk
              refine ⟨wa, _, _, rfl, rfl, by rw [upd_ne wm]; exact e24, lt_line (by omega), ?_⟩
              have k5 : Kf fo wa H4 (upd (upd H4 mk (.lst [.str (PySem.Str.ofString ")")])) wa (.lst (ws0 ++ [.ref mk]))) := (Kf.new hmk).trans Kf.wa
              have e15 : (upd (upd H4 mk (.lst [.str (PySem.Str.ofString ")")])) wa (.lst (ws0 ++ [.ref mk]))) fo = some (.lst ((ss ++ [PySem.Str.ofString "("]).map V.str)) := by
                rw [upd_ne fw, upd_ne fm]
                exact e14
              have e25 : (upd (upd H4 mk (.lst [.str (PySem.Str.ofString ")")])) wa (.lst (ws0 ++ [.ref mk]))) wa = some (.lst (ws0 ++ [.ref mk])) := upd_same
              have em5 : (upd (upd H4 mk (.lst [.str (PySem.Str.ofString ")")])) wa (.lst (ws0 ++ [.ref mk]))) mk = some (.lst [.str ⟨#[41]⟩]) := by
                rw [upd_ne (Ne.symm wm), upd_same]
                have : PySem.Str.ofString ")" = ⟨#[41]⟩ := by decide +kernel
                rw [this]
              have h35 := h34.mono fun a b z => Wt.keep z k5
              have s5 := Kf.same s4 k5 hfoH hwaH
              generalize hG5 : upd (upd H4 mk (.lst [.str (PySem.Str.ofString ")")])) wa (.lst (ws0 ++ [.ref mk])) = H5 at *
              have ha5 := s5 _ _ ha
              refine ⟨.ref a, rfl, a, zs, rfl, SqT.of ha5, fun rv hrv => ⟨rv, zs.reverse, rfl, SqT.of upd_same, ?_⟩⟩
              have fr : fo ≠ rv := ne_of_none e15 hrv
              have wr' : wa ≠ rv := ne_of_none e25 hrv
              have k6 : Kf fo wa H5 (upd H5 rv (.tup zs.reverse)) := Kf.new hrv
              have e16 : (upd H5 rv (.tup zs.reverse)) fo = some (.lst ((ss ++ [PySem.Str.ofString "("]).map V.str)) := by rw [upd_ne fr]; exact e15
              have e26 : (upd H5 rv (.tup zs.reverse)) wa = some (.lst (ws0 ++ [.ref mk])) := by rw [upd_ne wr']; exact e25
              have er6 : (upd H5 rv (.tup zs.reverse)) rv = some (.tup zs.reverse) := upd_same
              have ea6 := k6 _ _ ha5 (ne_of_none ha hfoH) (ne_of_none ha hwaH)
              have em6 := k6 _ _ em5 (Ne.symm fm) (Ne.symm wm)
              have h36 := h35.mono fun a b z => Wt.keep z k6
              have s6 := Kf.same s5 k6 hfoH hwaH
              generalize hG6 : upd H5 rv (.tup zs.reverse) = H6 at *
              have hrl : zs.reverse.length = es.length := by rw [List.length_reverse, hn]
              have hrd := hall.rev
              refine for_IteT (K := K) (a := rv) (xs := zs.reverse) (fun i σ H' => ∃ (x4 x5 : Option V) (ws : List V) (P : List It1), σ = [some v, some (.ref fo), some (.ref wa), some (.ref a), x4, x5] ∧ H' fo = some (.lst ((ss ++ [PySem.Str.ofString "("]).map V.str)) ∧
                  H' wa = some (.lst (ws0 ++ [.ref mk] ++ ws)) ∧ Paired (Wt H H' fo wa) ws P ∧ txs P = (if i = es.length then wrAll es else wrRest ((es.reverse.take i).reverse)) ∧ ct P ≤ csAll (es.reverse.take i) ∧ P.length ≤ 2 * i ∧ Kf fo wa H6 H')
                ⟨x4, x5, [], [], rfl, e16, by rw [List.append_nil]; exact e26, .nil, ?_, Nat.zero_le _, Nat.zero_le _, Kf.refl _ _ _⟩ ?_ ?_ ?_
              · by_cases h0 : 0 = es.length
                · rw [if_pos h0]
                  rw [List.length_eq_zero_iff.mp h0.symm]
                  rfl
                · rw [if_neg h0]
                  rfl
              · rintro i σ H' ⟨_, _, _, _, _, _, _, _, _, _, _, k⟩
                exact SqT.of (k _ _ er6 (Ne.symm fr) (Ne.symm wr'))
              · rintro i x σ H' T hi hx ⟨x4, x5, ws, P, rfl, g1, g2, g3, g4, g5, g6, g7⟩ hT
                have hin : i < es.length := by omega
                obtain ⟨e, he, hox⟩ := hrd.get hx
                have hme : e ∈ es := List.mem_reverse.mp (List.mem_of_getElem? he)
                have hw1 : wa ≠ T := ne_of_none g2 hT
                have hf1 : fo ≠ T := ne_of_none g1 hT
                have k7 : Kf fo wa H' (upd H' T (.tup [.int (i : Nat), x])) := Kf.new hT
                have ga := g7 _ _ ea6 (ne_of_none ha hfoH) (ne_of_none ha hwaH)
                have ga7 := k7 _ _ ga (ne_of_none ha hfoH) (ne_of_none ha hwaH)
                have g17 : (upd H' T (.tup [.int (i : Nat), x])) fo = some (.lst ((ss ++ [PySem.Str.ofString "("]).map V.str)) := by rw [upd_ne hf1]; exact g1
                have g27 : (upd H' T (.tup [.int (i : Nat), x])) wa = some (.lst (ws0 ++ [.ref mk] ++ ws)) := by rw [upd_ne hw1]; exact g2
                have g37 := g3.mono fun a b z => Wt.keep z k7
                have g77 := g7.trans k7
                refine ⟨T, _, rfl, SqT.of upd_same, rfl, _, _, rfl, _, _, rfl, rfl, ?_⟩
                generalize hG7 : upd H' T (.tup [.int (i : Nat), x]) = H7 at *
                have lg := g3.length
                have lgt : (ws0 ++ [V.ref mk] ++ ws).length + 2 ≤ 16777216 := by
                  rw [List.length_append, List.length_append, List.length_singleton]
                  omega
                have tk : es.reverse.take (i + 1) = es.reverse.take i ++ [e] := take_snoc he
                have gi : txs P = wrRest ((es.reverse.take i).reverse) := by
                  rw [g4, if_neg (by omega)]
                refine ⟨.ref wa, rfl, .inl ⟨rfl, _, SqL.of g27⟩, .int (i : Nat), rfl, .ref a, rfl, .ref a, zs.length, rfl, .inr ⟨zs, SqT.of ga7, rfl⟩, zs.length, 1, rfl, rfl, rfl, _, rfl, ite2 (fun hc => ?_) fun hc => ?_⟩
                · have hc' : (i : Int) = (zs.length : Int) - 1 := by simpa using hc
                  refine ⟨x, rfl, le_line (by show 1 ≤ 16777216; decide), fun q hq => ?_⟩
                  have hwq : wa ≠ q := ne_of_none g27 hq
                  have hfq : fo ≠ q := ne_of_none g17 hq
                  have k8 : Kf fo wa H7 (upd (upd H7 q (.lst [x])) wa (.lst (ws0 ++ [.ref mk] ++ ws ++ [x]))) := (Kf.new hq).trans Kf.wa
                  refine ⟨wa, q, _, _, rfl, rfl, by rw [upd_ne hwq]; exact g27, upd_same, le_line (by rw [List.length_singleton]; omega), ?_⟩
                  refine ⟨_, _, ws ++ [x], P ++ [.inl e], rfl, by rw [upd_ne fw, upd_ne hfq]; exact g17, by rw [upd_same, List.append_assoc], Paired.app (g37.mono fun a b z => Wt.keep z k8) (.cons (Wt.val hox (okT_mono (by decide) (hke' e hme))) .nil), ?_, ?_, ?_, g77.trans k8⟩
                  · have hi1 : i + 1 = es.length := by omega
                    have full : es = e :: (es.reverse.take i).reverse := by
                      have z : es.reverse = es.reverse.take i ++ [e] := by
                        rw [← tk, List.take_of_length_le (by rw [List.length_reverse]; omega)]
                      have z2 := congrArg List.reverse z
                      rw [List.reverse_reverse, List.reverse_append] at z2
                      exact z2
                    rw [txs_snoc, gi, if_pos hi1]
                    conv => rhs; rw [full]
                    rfl
                  · rw [ct_app, ct_one, tk, csAll_app]
                    simp only [csAll, ct1]
                    omega
                  · rw [List.length_append, List.length_singleton]
                    omega
                · have hc' : ¬ (i : Int) = (zs.length : Int) - 1 := by simpa using hc
                  refine ⟨x, rfl, le_line (by show 1 ≤ 16777216; decide), fun m2 hm2 => ⟨le_line (by show 2 ≤ 16777216; decide), fun q hq => ?_⟩⟩
                  have hwm : wa ≠ m2 := ne_of_none g27 hm2
                  have hfm : fo ≠ m2 := ne_of_none g17 hm2
                  have hwq : wa ≠ q := ne_of_none (show upd H7 m2 _ wa = _ by rw [upd_ne hwm]; exact g27) hq
                  have hfq : fo ≠ q := ne_of_none (show upd H7 m2 _ fo = _ by rw [upd_ne hfm]; exact g17) hq
                  have hmq : m2 ≠ q := ne_of_none (upd_same (H := H7) (a := m2)) hq
                  have k8 : Kf fo wa H7 (upd (upd (upd H7 m2 (.lst [.str (PySem.Str.ofString " ")])) q (.lst [x, .ref m2])) wa (.lst (ws0 ++ [.ref mk] ++ ws ++ [x, .ref m2]))) := ((Kf.new hm2).trans (Kf.new hq)).trans Kf.wa
                  refine ⟨wa, q, _, _, rfl, rfl, by rw [upd_ne hwq, upd_ne hwm]; exact g27, upd_same, le_line (by rw [List.length_cons, List.length_singleton]; omega), ?_⟩
                  refine ⟨_, _, ws ++ [x, .ref m2], P ++ [.inl e, .inr 32], rfl, by rw [upd_ne fw, upd_ne hfq, upd_ne hfm]; exact g17, by rw [upd_same, List.append_assoc],
                    Paired.app (g37.mono fun a b z => Wt.keep z k8) (.cons (Wt.val hox (okT_mono (by decide) (hke' e hme))) (.cons (Wt.sign (c := 32) ?_ (Ne.symm hfm) (Ne.symm hwm)) .nil)), ?_, ?_, ?_, g77.trans k8⟩
                  · rw [upd_ne (Ne.symm hwm), upd_ne hmq, upd_same]
                    have : PySem.Str.ofString " " = ⟨#[32]⟩ := by decide +kernel
                    rw [this]
                  · have hi1 : ¬ i + 1 = es.length := by omega
                    have e3 : P ++ [Sum.inl e, Sum.inr 32] = (P ++ [Sum.inl e]) ++ [Sum.inr 32] := by simp
                    rw [e3, txs_snoc, txs_snoc, gi, if_neg hi1, tk, List.reverse_append, List.reverse_singleton, List.singleton_append, wrRest]
                    rfl
                  · have e3 : P ++ [Sum.inl e, Sum.inr 32] = (P ++ [Sum.inl e]) ++ [Sum.inr 32] := by simp
                    rw [e3, ct_app, ct_app, ct_one, ct_one, tk, csAll_app]
                    simp only [csAll, ct1]
                    omega
                  · rw [List.length_append, List.length_cons, List.length_singleton]
                    omega
              · rintro σ H' ⟨x4, x5, ws, P, rfl, g1, g2, g3, g4, g5, g6, g7⟩
                rw [hrl, List.take_of_length_le (by rw [List.length_reverse]; exact Nat.le_refl _), csAll_rev] at g5
                rw [hrl, if_pos rfl] at g4
                have em := g7 _ _ em6 (Ne.symm fm) (Ne.symm wm)
                have hL := Paired.app (Paired.app (h36.mono fun a b z => Wt.keep z g7) (.cons (show Wt H H' fo wa (.ref mk) (.inr 41) from ⟨mk, rfl, em, Ne.symm fm, Ne.symm wm⟩) .nil)) g3
                refine ⟨ct (L0 ++ [.inr 41] ++ P), ?_, ss ++ [PySem.Str.ofString "("], ws0 ++ [.ref mk] ++ ws, L0 ++ [.inr 41] ++ P, _, _, _, rfl, g1, g2, hL, ?_, ?_, Kf.same s6 g7 hfoH hwaH, rfl⟩
                · rw [ct_app, ct_app, ct_app, ct_one, ct_one]
                  simp only [ct1, cs]
                  omega
                · intro s hs
                  rcases List.mem_append.mp hs with z | z
                  · exact h4 s z
                  · rw [List.mem_singleton.mp z]
                    decide +kernel
                · have e40 : tl (PySem.Str.ofString "(") = [40] := by decide +kernel
                  rw [← h5, txs_app, txs_app, g4, List.map_append, List.flatten_append]
                  simp [txt, wr, txs, e40]
            | _ => cases hT
end

end K76



set_option Elab.async false
set_option linter.all false
set_option maxRecDepth 100000
set_option maxHeartbeats 4000000
namespace K76
open PySem PySem.Spec PyProof.Rows L2 U TL Vt
open C8 (pss_cut)
/-! ### pieces of a text -/
abbrev mkS (l : List Nat) : V := .str ⟨l.toArray⟩
theorem sep_mem (c : Nat) : decide (c ∈ (PySem.Str.ofString "() ").cps.toList) = sep c := by
  have e : (PySem.Str.ofString "() ").cps.toList = [40, 41, 32] := by decide +kernel
  rw [e]
  unfold sep
  rw [Bool.eq_iff_iff]
  simp
  omega
def wsum (ps : List (List Nat)) : Nat := (ps.map fun p => p.length + 1).sum
theorem wsum_app (ps qs : List (List Nat)) : wsum (ps ++ qs) = wsum ps + wsum qs := by
  unfold wsum
  rw [List.map_append, List.sum_append]
theorem wsum_one (p : List Nat) : wsum [p] = p.length + 1 := by
  unfold wsum
  simp
theorem flush_wsum (w : List Nat) : wsum (flush w) ≤ 2 * w.length := by
  unfold flush
  split
  · exact Nat.zero_le _
  · rename_i h
    have := List.length_pos_iff.mpr h
    rw [wsum_one]
    omega
theorem pcs_wsum : ∀ (r w : List Nat), wsum (pcs r w) ≤ 2 * (r.length + w.length)
  | [], w => by
    rw [pcs]
    have := flush_wsum w
    simp
    omega
  | c :: r, w => by
    rw [pcs, List.length_cons]
    split
    · have h1 := flush_wsum w
      have h2 := pcs_wsum r []
      rw [wsum_app, wsum_app]
      have h3 : wsum (if c = 32 then [] else [[c]]) ≤ 2 := by
        split
        · exact Nat.zero_le _
        · rw [wsum_one]
          exact Nat.le_refl 2
      simp at h2
      omega
    · have h2 := pcs_wsum r (w ++ [c])
      rw [List.length_append, List.length_singleton] at h2
      omega
theorem wsum_len (ps : List (List Nat)) : ps.length ≤ wsum ps := by
  induction ps with
  | nil => exact Nat.zero_le _
  | cons p ps ih =>
    have e : wsum (p :: ps) = (p.length + 1) + wsum ps := by
      unfold wsum
      simp
    rw [e, List.length_cons]
    omega
theorem wsum_take (ps : List (List Nat)) (i : Nat) : wsum (ps.take i) ≤ wsum ps := by
  have e := wsum_app (ps.take i) (ps.drop i)
  rw [List.take_append_drop] at e
  omega
def spPieces : Sp := fun vs H Q _ => ∃ (z : PySem.Str), vs = [.str z] ∧ z.length ≤ 1000000 ∧ ∀ H' p, Same H H' → H p = none → H' p = some (.lst ((pcs (tl z) []).map mkS)) → Q (.ref p) H'
/-- a leaf's value -/
def vOf : PyData → V
  | .int i => .int i
  | .str x => .str x
  | _ => .non
def spPlainOf : Sp := fun vs H Q _ => ∃ (z : PySem.Str), vs = [.str z] ∧ z.length ≤ 1000000 ∧ ∀ H' p, Same H H' → H p = none → H' p = some (.lst (((Vt.plain (tl z)).toList).map vOf)) → Q (.ref p) H'
theorem plain_tr {p : List Nat} {d : PyData} (h : Vt.plain p = some d) (H : Hp) : Tr H (vOf d) d ∧ sz d ≤ p.length + 1 := by
  unfold Vt.plain at h
  split at h
  · cases h
    exact ⟨.non, by simp [sz]⟩
  · split at h
    · cases h
      exact ⟨.str _, by simp [sz]⟩
    · split at h
      · cases h
        exact ⟨.int _, by simp [sz]⟩
      · cases h
theorem mkS_inj (l m : List Nat) : decide (mkS l = mkS m) = decide (l = m) := by
  rw [Bool.eq_iff_iff, decide_eq_true_eq, decide_eq_true_eq]
  refine ⟨fun h => ?_, fun h => by rw [h]⟩
  have e : (⟨l.toArray⟩ : PySem.Str) = ⟨m.toArray⟩ := by
    injection h
  have e2 := congrArg tl e
  exact e2
theorem str_tl (z : PySem.Str) : V.str z = mkS (tl z) := by rw [mkS, mk_tl]
theorem str_lit {s : String} {l : List Nat} (h : tl (PySem.Str.ofString s) = l) : V.str (PySem.Str.ofString s) = mkS l := by rw [str_tl, h]
theorem ne_empty (u : List Nat) : (!decide (mkS u = V.str (PySem.Str.ofString ""))) = !decide (u = []) := by
  rw [str_lit (show tl (PySem.Str.ofString "") = [] by decide +kernel), mkS_inj]
theorem ne_blank (c : Nat) : (!decide (V.str ⟨#[c]⟩ = V.str (PySem.Str.ofString " "))) = !decide (c = 32) := by
  rw [str_lit (show tl (PySem.Str.ofString " ") = [32] by decide +kernel), show V.str ⟨#[c]⟩ = mkS [c] from rfl, mkS_inj]
  simp
section
variable {P : Program} {w : World} {K : PySem.W.Frag} {mg : PySem.Str → Option Value} {base : Heap}
theorem ok_pieces {f : Addr} {fd : FuncData} (F : FunD K "pieces_in" "pieces_in" (defArgs s_pieces_in) (defBody s_pieces_in) (defScope s_pieces_in) [] [] f fd) (T : Bi mg) : FnOk P w K mg base CX0 1 f fd P_pieces_in spPieces := by
  refine F.ok sc_pieces_in (fun vs H Q E h => ?_) (fun cdv A outer s H vs Q E hr h => ?_)
  · obtain ⟨z, rfl, _⟩ := h
    rfl
  · have hu := hu_of hr
    obtain ⟨z, rfl, hz, q⟩ := h
    rw [len_tl] at hz
    refine ⟨_, PSs.nox ((pss_cons (ps_par (by rfl) sc_pieces_in.nd rfl rfl (by decide) rfl rfl (i := 1) (j := 2) (pa_cons (pe_lst pa_nil) (pa_cons pe_str pa_nil)) (by rfl))
      (pss_cons (ps_for PassesOwn.never rfl (pi_str (pv 0)) (pg_name (i := 3) sc_pieces_in.nd rfl (.inl rfl)) (pss_one (ps_if (pt_cmpR op_in_sign (pv 3) pe_str (by rfl)) (pss_cut (ps_expr (k_bm K PySem.F.plainAttrs_list PySem.F.slot_list_extend PySem.F.type_list_extend mt_extend (pv 1) (pa_cons (pe_ifExp (pt_cmpR op_ne (pv 2) pe_str (nomark _)) (pe_lst (pa_cons (pv 2) pa_nil)) (pe_lst pa_nil)) pa_nil)))
      (pss_cut (ps_expr (k_bm K PySem.F.plainAttrs_list PySem.F.slot_list_extend PySem.F.type_list_extend mt_extend (pv 1) (pa_cons (pe_ifExp (pt_cmpR op_ne (pv 3) pe_str (nomark _)) (pe_lst (pa_cons (pv 3) pa_nil)) (pe_lst pa_nil)) pa_nil)))
      (pss_one (ps_set (i := 2) sc_pieces_in.nd rfl (.inl rfl) pe_str)))) (pss_one (ps_aug (i := 2) sc_pieces_in.nd rfl (.inl rfl) (pv 3) iop_add_str)))))
      (pss_one (ps_ret (pe_op op_cat (pv 1) (pe_ifExp (pt_cmpR op_ne (pv 2) pe_str (nomark _)) (pe_lst (pa_cons (pv 2) pa_nil)) (pe_lst pa_nil)))))))), ?_⟩
    refine ⟨Nat.zero_le _, fun fo hfo => ⟨_, _, rfl, ?_⟩⟩
    refine ⟨.str z, rfl, z, rfl, ?_⟩
    refine for_signs (z := z) (fun l σ H' => ∃ (G : List (List Nat)) (u : List Nat) (x3 : Option V), σ = [some (.str z), some (.ref fo), some (mkS u), x3] ∧ H' fo = some (.lst (G.map mkS)) ∧ (∀ r, tl z = l ++ r → G ++ pcs r u = pcs (tl z) []) ∧ G.length ≤ 2 * l.length ∧ u.length ≤ l.length ∧ Same H H')
      ⟨[], [], none, rfl, upd_same, fun r e => by rw [e]; rfl, Nat.zero_le _, Nat.zero_le _, same_upd hfo⟩ ?_ ?_
    · rintro l c r σ H' hl ⟨G, u, x3, rfl, h1, h2, h3, h4, h5⟩
      have hll : l.length + 1 ≤ (tl z).length := by
        rw [hl, List.length_append, List.length_cons]
        omega
      have h2' := h2 (c :: r) hl
      rw [pcs] at h2'
      refine ⟨.str ⟨#[c]⟩, rfl, c, _, rfl, rfl, _, rfl, ?_⟩
      rw [sep_mem]
      cases hs : sep c with
      | true =>
        rw [if_pos hs] at h2'
        have hf : (flush u).length ≤ 1 := by
          unfold flush
          split <;> simp
        refine iteT ⟨fun σ H1 => σ = [some (.str z), some (.ref fo), some (mkS u), some (.str ⟨#[c]⟩)] ∧ H1 fo = some (.lst ((G ++ flush u).map mkS)) ∧ Same H H1, ?_, ?_⟩
        · refine ⟨.ref fo, rfl, .inl ⟨rfl, _, SqL.of h1⟩, mkS u, rfl, rfl, _, rfl, ?_⟩
          rw [ne_empty]
          refine ite2 (fun hc => ?_) fun hc => ?_
          · have hc' : ¬ u = [] := by simpa using hc
            refine ⟨mkS u, rfl, le_line (by show 1 ≤ 16777216; decide), fun q hq => ?_⟩
            have n1 : fo ≠ q := ne_of_none h1 hq
            refine ⟨fo, q, _, _, rfl, rfl, by rw [upd_ne n1]; exact h1, upd_same, le_line (by rw [List.length_map, List.length_singleton]; omega), rfl, ?_, same_mut (h5.trans (same_upd hq)) hfo⟩
            rw [upd_same, List.map_append]
            unfold flush
            rw [if_neg hc']
            rfl
          · have hc' : u = [] := by simpa using hc
            refine ⟨Nat.zero_le _, fun q hq => ?_⟩
            have n1 : fo ≠ q := ne_of_none h1 hq
            refine ⟨fo, q, _, _, rfl, rfl, by rw [upd_ne n1]; exact h1, upd_same, le_line (by rw [List.length_map, List.length_nil]; omega), rfl, ?_, same_mut (h5.trans (same_upd hq)) hfo⟩
            rw [upd_same, List.map_append]
            unfold flush
            rw [if_pos hc']
            rfl
        · rintro σ H1 ⟨rfl, g1, g2⟩
          refine ⟨fun σ H2 => σ = [some (.str z), some (.ref fo), some (mkS u), some (.str ⟨#[c]⟩)] ∧ H2 fo = some (.lst ((G ++ flush u ++ (if c = 32 then [] else [[c]])).map mkS)) ∧ Same H H2, ?_, ?_⟩
          · refine ⟨.ref fo, rfl, .inl ⟨rfl, _, SqL.of g1⟩, .str ⟨#[c]⟩, rfl, rfl, _, rfl, ?_⟩
            rw [ne_blank]
            refine ite2 (fun hc => ?_) fun hc => ?_
            · have hc' : ¬ c = 32 := by simpa using hc
              refine ⟨.str ⟨#[c]⟩, rfl, le_line (by show 1 ≤ 16777216; decide), fun q hq => ?_⟩
              have n1 : fo ≠ q := ne_of_none g1 hq
              refine ⟨fo, q, _, _, rfl, rfl, by rw [upd_ne n1]; exact g1, upd_same, le_line (by rw [List.length_map, List.length_append, List.length_singleton]; omega), rfl, ?_, same_mut (g2.trans (same_upd hq)) hfo⟩
              rw [upd_same, if_neg hc']
              simp [mkS]
            · have hc' : c = 32 := by simpa using hc
              refine ⟨Nat.zero_le _, fun q hq => ?_⟩
              have n1 : fo ≠ q := ne_of_none g1 hq
              refine ⟨fo, q, _, _, rfl, rfl, by rw [upd_ne n1]; exact g1, upd_same, le_line (by rw [List.length_map, List.length_append, List.length_nil]; omega), rfl, ?_, same_mut (g2.trans (same_upd hq)) hfo⟩
              rw [upd_same, if_pos hc']
              simp [mkS]
          · rintro σ H2 ⟨rfl, g3, g4⟩
            refine ⟨G ++ flush u ++ (if c = 32 then [] else [[c]]), [], some (.str ⟨#[c]⟩), ?_, g3, fun r' e => ?_, ?_, Nat.zero_le _, g4⟩
            · show ([some (.str z), some (.ref fo), some (.str (PySem.Str.ofString "")), some (.str ⟨#[c]⟩)] : List (Option V)) = _
              rw [str_lit (show tl (PySem.Str.ofString "") = [] by decide +kernel)]
            · have er : r' = r := by
                rw [hl, List.append_assoc] at e
                have := List.append_cancel_left e
                injection this with _ z2
                exact z2.symm
              subst er
              rw [← h2']
              simp
            · have hy : (if c = 32 then ([] : List (List Nat)) else [[c]]).length ≤ 1 := by split <;> simp
              rw [List.length_append, List.length_append, List.length_append, List.length_singleton]
              omega
      | false =>
        rw [if_neg (by rw [hs]; decide)] at h2'
        refine iteF ⟨mkS u, rfl, .str ⟨#[c]⟩, rfl, ⟨u.toArray⟩, ⟨#[c]⟩, rfl, rfl, ?_, ?_⟩
        · exact le_line (by show u.toArray.size + 1 ≤ 16777216; rw [List.size_toArray]; omega)
        · refine ⟨G, u ++ [c], some (.str ⟨#[c]⟩), ?_, h1, fun r' e => ?_, ?_, ?_, h5⟩
          · have e : (⟨u.toArray⟩ ++ ⟨#[c]⟩ : PySem.Str) = ⟨(u ++ [c]).toArray⟩ := ext_tl (by rw [tl_append])
            show ([some (.str z), some (.ref fo), some (.str (⟨u.toArray⟩ ++ ⟨#[c]⟩)), some (.str ⟨#[c]⟩)] : List (Option V)) = _
            rw [e]
          · have er : r' = r := by
              rw [hl, List.append_assoc] at e
              have := List.append_cancel_left e
              injection this with _ z2
              exact z2.symm
            subst er
            exact h2'
          · rw [List.length_append]
            omega
          · rw [List.length_append, List.length_append]
            simp
            omega
    · rintro σ H' ⟨G, u, x3, rfl, h1, h2, h3, h4, h5⟩
      have h2' := h2 [] (List.append_nil _).symm
      rw [pcs] at h2'
      refine ⟨.ref fo, rfl, mkS u, rfl, rfl, _, rfl, ?_⟩
      rw [ne_empty]
      have fin : ∀ q, H' q = none → ∀ (zs : List V), zs = (flush u).map mkS → rCat (.ref fo) (.ref q) (upd H' q (.lst zs)) Q := fun q' hq zs ezs => by
        subst ezs
        have n1 : fo ≠ q' := ne_of_none h1 hq
        refine ⟨fo, q', _, _, rfl, rfl, by rw [upd_ne n1]; exact h1, upd_same, ?_, fun p hp => ?_⟩
        · rw [List.length_map, List.length_map]
          have hf : (flush u).length ≤ 1 := by
            unfold flush
            split <;> simp
          exact le_line (by omega)
        · have s2 : Same H (upd H' q' (.lst ((flush u).map mkS))) := h5.trans (same_upd hq)
          refine q _ p (s2.trans (same_upd hp)) (s2.free hp) ?_
          rw [upd_same, ← List.map_append, h2']
      refine ite2 (fun hc => ?_) fun hc => ?_
      · have hc' : ¬ u = [] := by simpa using hc
        refine ⟨mkS u, rfl, le_line (by show 1 ≤ 16777216; decide), fun q hq => ?_⟩
        exact fin q hq [mkS u] (by unfold flush; rw [if_neg hc']; rfl)
      · have hc' : u = [] := by simpa using hc
        refine ⟨Nat.zero_le _, fun q hq => ?_⟩
        exact fin q hq [] (by unfold flush; rw [if_pos hc']; rfl)
theorem ok_plainof {f : Addr} {fd : FuncData} (F : FunD K "plain_of" "plain_of" (defArgs s_plain_of) (defBody s_plain_of) (defScope s_plain_of) [] [] f fd) (T : Bi mg) (C_is_word : Cal P w K mg base CX0 "is_word" 1 P_is_word spWord) : FnOk P w K mg base CX0 2 f fd P_plain_of spPlainOf := by
  refine F.ok sc_plain_of (fun vs H Q E h => ?_) (fun cdv A outer s H vs Q E hr h => ?_)
  · obtain ⟨z, rfl, _⟩ := h
    rfl
  · have hu := hu_of hr
    obtain ⟨z, rfl, hz, q⟩ := h
    rw [len_tl] at hz
    refine ⟨_, PSs.nox ((pss_cons (ps_if (pt_cmpR op_eq (pv 0) (pe_gs T.c_NOTHING) (nomark _)) (pss_one (ps_ret (pe_lst (pa_cons pe_non pa_nil)))) pss_nil)
      (pss_cons (ps_if (pt_val (pe_c C_is_word (hr.mono (by decide)) pass0 (pa_cons (pv 0) pa_nil))) (pss_one (ps_ret (pe_lst (pa_cons (pv 0) pa_nil)))) pss_nil)
      (pss_cons (ps_if (PW.pt (pw_and (pt_chain op_le op_le pe_int (pe_callB (k_len K) (by rfl) T.n_len (by decide +kernel) (pa_cons (pv 0) pa_nil)) (pe_gi T.c_MOST_SIGNS)) (pw_and1 (pt_val (pe_callB (cr_all rfl) (by rfl) T.n_all (by decide +kernel) (pa_cons (pe_lc (own := [("sign", 1)]) (g := gName 1) (tt := tYes) rfl sc_plain_of.nd (pi_str (pv 0)) (blkOk_by (N := N_plain_of) (sc := defScope s_plain_of) (by decide +kernel)) (fun _ _ _ _ _ => (pg_name (i := 1) sc_plain_of.nd rfl (.inl rfl))) (fun _ _ _ _ _ => pts_nil) (fun _ _ _ _ _ => (pe_cmpR op_in_sign (pv 1) (pe_gs T.c_DIGITS) (by rfl)))) pa_nil)))))) (pss_one (ps_ret (pe_lst (pa_cons (pe_callTy call_int_str (by rfl) T.n_int (by decide +kernel) (pa_cons (pv 0) pa_nil)) pa_nil)))) pss_nil)
      (pss_one (ps_ret (pe_lst pa_nil))))))), ?_⟩
    refine ⟨.str z, rfl, rfl, _, rfl, ?_⟩
    have e45 : decide (V.str z = V.str (PySem.Str.ofString "-")) = decide (tl z = [45]) := by
      rw [str_tl z, str_lit (show tl (PySem.Str.ofString "-") = [45] by decide +kernel), mkS_inj]
    rw [e45]
    refine ite2 (fun h1 => ?_) fun h1 => ?_
    · have h1' := of_decide_eq_true h1
      refine ⟨le_line (by show 1 ≤ 16777216; decide), fun p hp => q _ p (same_upd hp) hp ?_⟩
      rw [upd_same]
      unfold Vt.plain
      rw [if_pos h1']
      rfl
    · have h1' : ¬ tl z = [45] := by simpa using h1
      refine ⟨.str z, rfl, .str z, .str z, rfl, .str z, by simp only [sz]; omega, fun H1 k1 => ⟨_, rfl, ?_⟩⟩
      show if word (tl z) = true then _ else _
      refine ite2 (fun h2 => ?_) fun h2 => ?_
      · refine ⟨.str z, rfl, le_line (by show 1 ≤ 16777216; decide), fun p hp => q _ p (k1.trans (same_upd hp)) (k1.free hp) ?_⟩
        rw [upd_same]
        unfold Vt.plain
        rw [if_neg h1', if_pos h2, mk_tl]
        rfl
      · have empty : Vt.plain (tl z) = none → ∀ (H2 : Hp), Same H H2 → ∀ p, H2 p = none → Q (.ref p) (upd H2 p (.lst [])) := fun e H2 k2 p hp => q _ p (k2.trans (same_upd hp)) (k2.free hp) (by
          rw [upd_same, e]
          rfl)
        refine ⟨.str z, rfl, .str z, (tl z).length, rfl, ⟨le_line (by rw [len_tl]; omega), (len_tl z).symm⟩, ?_⟩
        refine ⟨1, _, rfl, rfl, _, rfl, ite2 (fun h3 => ?_) fun h3 => ?_⟩
        · have h3' : 1 ≤ (tl z).length := by
            have := of_decide_eq_true h3
            omega
          refine ⟨_, 12, rfl, rfl, _, rfl, ite2 (fun h4 => ?_) fun h4 => ?_⟩
          · have h4' : (tl z).length ≤ 12 := by
              have := of_decide_eq_true h4
              omega
            refine ⟨.str z, rfl, z, rfl, fun D hD => ?_⟩
            refine lc_it walk_str (fun i H2 => H2 = upd H1 D (.lst ((((tl z).take i).map fun c => decide (48 ≤ c) && decide (c ≤ 57)).map V.bl))) rfl (fun _ _ _ _ => trivial) ?_ ?_
            · rintro i y H2 _ hi rfl ⟨rfl, c, hc, rfl⟩
              have hc' := at_sign hc
              have hlt : i < (tl z).length := (List.getElem?_eq_some_iff.mp hc').1
              refine ⟨rfl, yes ⟨.str ⟨#[c]⟩, rfl, c, _, rfl, rfl, _, upd_same, lt_line ?_, ?_⟩⟩
              · rw [List.length_map, List.length_map, List.length_take]
                omega
              · rw [upd_upd, take_sign hc', List.map_append, List.map_append, mem_digits]
                rfl
            · rintro H2 rfl
              rw [U.len_signs, List.take_length]
              refine ⟨D, _, rfl, SqL.of upd_same, _, rfl, ?_⟩
              rw [all_map]
              refine ite2 (fun h5 => ?_) fun h5 => ?_
              · have hd : NumText.AllDigits (tl z) := fun c hc => by
                  have := List.all_eq_true.mp h5 c hc
                  rw [Bool.and_eq_true, decide_eq_true_eq, decide_eq_true_eq] at this
                  exact this
                have hne : tl z ≠ [] := fun e => by
                  rw [e] at h3'
                  exact absurd h3' (by decide)
                refine ⟨.str z, rfl, z, _, rfl, intText_digits hd hne (by rw [len_tl]; omega), by rw [len_tl]; omega, le_line (by show 1 ≤ 16777216; decide), fun p hp => q _ p ((k1.trans (same_upd hD)).trans (same_upd hp)) ((k1.trans (same_upd hD)).free hp) ?_⟩
                rw [upd_same]
                unfold Vt.plain
                rw [if_neg h1', if_neg h2, if_pos (by rw [h5, decide_eq_true h3', decide_eq_true h4']; rfl)]
                rfl
              · refine ⟨Nat.zero_le _, empty ?_ _ (k1.trans (same_upd hD))⟩
                have h5' : ((tl z).all fun c => decide (48 ≤ c) && decide (c ≤ 57)) = false := by simpa using h5
                unfold Vt.plain
                rw [if_neg h1', if_neg h2, if_neg (by rw [h5']; simp)]
          · have h4' : ¬ (tl z).length ≤ 12 := by
              have : ¬ ((tl z).length : Int) ≤ 12 := by simpa using h4
              omega
            refine iteF ⟨Nat.zero_le _, empty ?_ _ k1⟩
            unfold Vt.plain
            rw [if_neg h1', if_neg h2, if_neg (by rw [decide_eq_false h4']; simp)]
        · have h3' : ¬ 1 ≤ (tl z).length := by
            have : ¬ (1 : Int) ≤ ((tl z).length : Int) := by simpa using h3
            omega
          refine ⟨_, rfl, iteF ⟨Nat.zero_le _, empty ?_ _ k1⟩⟩
          unfold Vt.plain
          rw [if_neg h1', if_neg h2, if_neg (by rw [decide_eq_false h3']; simp)]
end

end K76



set_option Elab.async false
set_option linter.all false
set_option maxRecDepth 100000
set_option maxHeartbeats 4000000
namespace K76
open PySem PySem.Spec PyProof.Rows L2 U TL Vt
open C8 (pss_cut)
/-! ### read_value's state -/
def tsz (st : S2) : Nat := (st.1.map fun ds => szAll ds + 1).sum + szAll st.2
theorem szAll_one (d : PyData) : szAll [d] = sz d := by simp [szAll]
theorem put_nil (f : List PyData) (v : PyData) : put ([], f) v = ([], f ++ [v]) := rfl
theorem put_snoc (S : List (List PyData)) (ds : List PyData) (f : List PyData) (v : PyData) : put (S ++ [ds], f) v = (S ++ [ds ++ [v]], f) := by
  unfold put
  simp
theorem tsz_put (st : S2) (v : PyData) : tsz (put st v) = tsz st + sz v := by
  obtain ⟨S, f⟩ := st
  rcases List.eq_nil_or_concat S with rfl | ⟨S1, ds, rfl⟩
  · rw [put_nil]
    unfold tsz
    simp only [szAll_app, szAll_one]
    omega
  · rw [List.concat_eq_append, put_snoc]
    unfold tsz
    simp only [List.map_append, List.sum_append, List.map_cons, List.map_nil, List.sum_cons, List.sum_nil, szAll_app, szAll_one]
    omega
theorem tsz_step {st st' : S2} {p : List Nat} (h : step st p = some st') : tsz st' ≤ tsz st + (p.length + 1) := by
  obtain ⟨S, f⟩ := st
  unfold Vt.step at h
  split at h
  · cases h
    unfold tsz
    simp only [List.map_append, List.sum_append, List.map_cons, List.map_nil, List.sum_cons, List.sum_nil, szAll]
    omega
  · split at h
    · rcases List.eq_nil_or_concat S with rfl | ⟨S1, ds, rfl⟩
      · cases h
      · rw [List.concat_eq_append] at h ⊢
        have h' : some (put (S1, f) (.tuple ds)) = some st' := by simpa using h
        cases h'
        rw [tsz_put]
        unfold tsz
        simp only [List.map_append, List.sum_append, List.map_cons, List.map_nil, List.sum_cons, List.sum_nil, sz]
        omega
    · cases e : Vt.plain p with
      | none =>
        rw [e] at h
        cases h
      | some d =>
        rw [e] at h
        cases h
        have := (plain_tr e (fun _ => none)).2
        rw [tsz_put]
        omega
theorem steps_snoc {ps : List (List Nat)} {i : Nat} {p : List Nat} {st0 st st' : S2} (h : steps st0 (ps.take i) = some st) (hp : ps[i]? = some p) (hs : step st p = some st') : steps st0 (ps.take (i + 1)) = some st' := by
  rw [take_snoc hp, steps_app, h]
  show steps st [p] = some st'
  rw [steps, hs]
  rfl
theorem steps_fail {ps : List (List Nat)} {i : Nat} {p : List Nat} {st0 st : S2} (h : steps st0 (ps.take i) = some st) (hp : ps[i]? = some p) (hs : step st p = none) : steps st0 ps = none := by
  have e : ps = ps.take i ++ p :: ps.drop (i + 1) := by
    have hlt : i < ps.length := (List.getElem?_eq_some_iff.mp hp).1
    have e2 : ps[i] = p := (List.getElem?_eq_some_iff.mp hp).2
    rw [← e2, ← List.drop_eq_getElem_cons hlt, List.take_append_drop]
  rw [e, steps_app, h]
  show steps st (p :: ps.drop (i + 1)) = none
  rw [steps, hs]
  rfl
theorem trAll_app {H : Hp} : ∀ {vs ws : List V} {ds es : List PyData}, TrAll H vs ds → TrAll H ws es → TrAll H (vs ++ ws) (ds ++ es)
  | _, _, _, _, .nil, k => k
  | _, _, _, _, .cons h a, k => .cons h (trAll_app a k)
/-- the stack's lists at as, the list of found ones at fo, the pieces at pl -/
structure RdS (H : Hp) (sa fo pl : Addr) (ps : List V) (H' : Hp) (as : List Addr) (st : S2) (fv : List V) : Prop where
  stk : H' sa = some (.lst (as.map V.ref))
  lists : Paired (fun a ds => ∃ vs, H' a = some (.lst vs) ∧ TrAll H' vs ds) as st.1
  nd : as.Nodup
  new : ∀ a ∈ as, H a = none ∧ a ≠ sa ∧ a ≠ fo ∧ a ≠ pl
  fnd : H' fo = some (.lst fv)
  fdat : TrAll H' fv st.2
  pcs : H' pl = some (.lst ps)
  same : Same H H'
/-- three lists, new and apart -/
structure Apart (H : Hp) (sa fo pl : Addr) : Prop where
  hs : H sa = none
  hf : H fo = none
  hp : H pl = none
  sf : sa ≠ fo
  sp : sa ≠ pl
  fp : fo ≠ pl
section
variable {H : Hp} {sa fo pl : Addr} {ps : List V} {H' : Hp} {as : List Addr} {st : S2} {fv : List V}
/-- what is written beside -/
theorem RdS.keep {H2 : Hp} (r : RdS H sa fo pl ps H' as st fv) (k : ∀ b o, H' b = some o → (b = sa ∨ b = fo ∨ b = pl ∨ b ∈ as ∨ ∃ xs, o = .tup xs) → H2 b = some o) (s : Same H H2) : RdS H sa fo pl ps H2 as st fv := by
  have tu : Tu H' H2 := fun b xs e => k b _ e (.inr (.inr (.inr (.inr ⟨xs, rfl⟩))))
  refine ⟨k _ _ r.stk (.inl rfl), ?_, r.nd, r.new, k _ _ r.fnd (.inr (.inl rfl)), r.fdat.mono tu, k _ _ r.pcs (.inr (.inr (.inl rfl))), s⟩
  have key : ∀ (l : List Addr) (S : List (List PyData)), (∀ a ∈ l, a ∈ as) → Paired (fun a ds => ∃ vs, H' a = some (.lst vs) ∧ TrAll H' vs ds) l S → Paired (fun a ds => ∃ vs, H2 a = some (.lst vs) ∧ TrAll H2 vs ds) l S := by
    intro l S hm h
    induction h with
    | nil => exact .nil
    | cons h1 _ ih =>
      obtain ⟨vs, e, t⟩ := h1
      exact .cons ⟨vs, k _ _ e (.inr (.inr (.inr (.inl (hm _ (List.mem_cons_self ..)))))), t.mono tu⟩ (ih fun a ha => hm a (List.mem_cons_of_mem _ ha))
  exact key as st.1 (fun _ h => h) r.lists
theorem RdS.add {q : Addr} {o : HO} (r : RdS H sa fo pl ps H' as st fv) (hq : H' q = none) : RdS H sa fo pl ps (upd H' q o) as st fv :=
  r.keep (fun b u e _ => by rw [upd_ne (ne_of_none e hq)]; exact e) (r.same.trans (same_upd hq))
theorem RdS.len (r : RdS H sa fo pl ps H' as st fv) : as.length ≤ tsz st ∧ fv.length ≤ tsz st := by
  refine ⟨?_, ?_⟩
  · rw [r.lists.length]
    unfold tsz
    have key : ∀ S : List (List PyData), S.length ≤ (S.map fun ds => szAll ds + 1).sum := by
      intro S
      induction S with
      | nil => exact Nat.zero_le _
      | cons s S ih =>
        rw [List.map_cons, List.sum_cons, List.length_cons]
        omega
    have := key st.1
    omega
  · rw [r.fdat.length]
    have := szAll_len st.2
    unfold tsz
    omega
theorem RdS.push {q : Addr} (A : Apart H sa fo pl) (r : RdS H sa fo pl ps H' as st fv) (hq : H' q = none) : RdS H sa fo pl ps (upd (upd H' q (.lst [])) sa (.lst (as.map V.ref ++ [.ref q]))) (as ++ [q]) (st.1 ++ [[]], st.2) fv := by
  have r1 := r.add (o := .lst []) hq
  have nsq : sa ≠ q := ne_of_none r.stk hq
  have nfq : fo ≠ q := ne_of_none r.fnd hq
  have npq : pl ≠ q := ne_of_none r.pcs hq
  have tu : Tu (upd H' q (.lst [])) (upd (upd H' q (.lst [])) sa (.lst (as.map V.ref ++ [.ref q]))) := fun b xs e => by
    rw [upd_ne (ne_of e r1.stk (fun z => nomatch z))]
    exact e
  have other : ∀ a ∈ as, (upd (upd H' q (.lst [])) sa (.lst (as.map V.ref ++ [.ref q]))) a = (upd H' q (.lst [])) a := fun a ha => upd_ne (r.new a ha).2.1
  refine ⟨by rw [upd_same, List.map_append]; rfl, ?_, ?_, ?_, by rw [upd_ne (Ne.symm A.sf)]; exact r1.fnd, r1.fdat.mono tu, by rw [upd_ne (Ne.symm A.sp)]; exact r1.pcs, same_mut r1.same A.hs⟩
  · refine Paired.snoc ?_ ⟨[], by rw [upd_ne (Ne.symm nsq), upd_same], .nil⟩
    have key : ∀ (l : List Addr) (S : List (List PyData)), (∀ a ∈ l, a ∈ as) → Paired (fun a ds => ∃ vs, (upd H' q (.lst [])) a = some (.lst vs) ∧ TrAll (upd H' q (.lst [])) vs ds) l S →
        Paired (fun a ds => ∃ vs, (upd (upd H' q (.lst [])) sa (.lst (as.map V.ref ++ [.ref q]))) a = some (.lst vs) ∧ TrAll (upd (upd H' q (.lst [])) sa (.lst (as.map V.ref ++ [.ref q]))) vs ds) l S := by
      intro l S hm h
      induction h with
      | nil => exact .nil
      | cons h1 _ ih =>
        obtain ⟨vs, e, t⟩ := h1
        exact .cons ⟨vs, by rw [other _ (hm _ (List.mem_cons_self ..))]; exact e, t.mono tu⟩ (ih fun a ha => hm a (List.mem_cons_of_mem _ ha))
    exact key as st.1 (fun _ h => h) r1.lists
  · rw [List.nodup_append]
    refine ⟨r.nd, by simp, fun a ha b hb e => ?_⟩
    rw [List.mem_singleton.mp hb] at e
    subst e
    obtain ⟨ds, hd⟩ : ∃ ds, ∃ vs, H' a = some (.lst vs) ∧ TrAll H' vs ds := by
      have key : ∀ (l : List Addr) (S : List (List PyData)), Paired (fun a ds => ∃ vs, H' a = some (.lst vs) ∧ TrAll H' vs ds) l S → a ∈ l → ∃ ds, ∃ vs, H' a = some (.lst vs) ∧ TrAll H' vs ds := by
        intro l S h
        induction h with
        | nil => intro z; cases z
        | cons h1 _ ih =>
          intro z
          rcases List.mem_cons.mp z with z | z
          · rw [z]
            exact ⟨_, h1⟩
          · exact ih z
      exact key as st.1 r.lists ha
    obtain ⟨vs, e, _⟩ := hd
    rw [hq] at e
    cases e
  · intro a ha
    rcases List.mem_append.mp ha with z | z
    · exact r.new a z
    · rw [List.mem_singleton.mp z]
      exact ⟨r.same.free hq, Ne.symm nsq, Ne.symm nfq, Ne.symm npq⟩
/-- the stack's top -/
theorem RdS.top {S1 : List (List PyData)} {ds : List PyData} (r : RdS H sa fo pl ps H' as st fv) (e : st.1 = S1 ++ [ds]) : ∃ as1 a vs, as = as1 ++ [a] ∧ H' a = some (.lst vs) ∧ TrAll H' vs ds := by
  have h := r.lists
  rw [e] at h
  obtain ⟨as1, a, e2, _, vs, h1, h2⟩ := paired_snoc h
  exact ⟨as1, a, vs, e2, h1, h2⟩
theorem RdS.pop {S1 : List (List PyData)} {ds : List PyData} {as1 : List Addr} {a : Addr} (A : Apart H sa fo pl) (r : RdS H sa fo pl ps H' (as1 ++ [a]) (S1 ++ [ds], st.2) fv) : RdS H sa fo pl ps (upd H' sa (.lst (as1.map V.ref))) as1 (S1, st.2) fv := by
  have tu : Tu H' (upd H' sa (.lst (as1.map V.ref))) := fun b xs e => by
    rw [upd_ne (ne_of e r.stk (fun z => nomatch z))]
    exact e
  obtain ⟨ws0, y, e, h0, _⟩ := paired_snoc (show Paired _ (as1 ++ [a]) (S1 ++ [ds]) from r.lists)
  have e1 := List.append_inj_left' e rfl
  subst e1
  refine ⟨upd_same, ?_, (List.nodup_append.mp r.nd).1, fun b hb => r.new b (List.mem_append_left _ hb), by rw [upd_ne (Ne.symm A.sf)]; exact r.fnd, r.fdat.mono tu, by rw [upd_ne (Ne.symm A.sp)]; exact r.pcs, same_mut r.same A.hs⟩
  have key : ∀ (l : List Addr) (S : List (List PyData)), (∀ b ∈ l, b ≠ sa) → Paired (fun a ds => ∃ vs, H' a = some (.lst vs) ∧ TrAll H' vs ds) l S → Paired (fun b ds => ∃ vs, (upd H' sa (.lst (as1.map V.ref))) b = some (.lst vs) ∧ TrAll (upd H' sa (.lst (as1.map V.ref))) vs ds) l S := by
    intro l S hm h
    induction h with
    | nil => exact .nil
    | cons h1 _ ih =>
      obtain ⟨vs, e, t⟩ := h1
      exact .cons ⟨vs, by rw [upd_ne (hm _ (List.mem_cons_self ..))]; exact e, t.mono tu⟩ (ih fun b hb => hm b (List.mem_cons_of_mem _ hb))
  exact key as1 S1 (fun b hb => (r.new b (List.mem_append_left _ hb)).2.1) h0
theorem RdS.putF {v : V} {d : PyData} (A : Apart H sa fo pl) (r : RdS H sa fo pl ps H' as st fv) (t : Tr H' v d) : RdS H sa fo pl ps (upd H' fo (.lst (fv ++ [v]))) as (st.1, st.2 ++ [d]) (fv ++ [v]) := by
  have tu : Tu H' (upd H' fo (.lst (fv ++ [v]))) := fun b xs e => by
    rw [upd_ne (ne_of e r.fnd (fun z => nomatch z))]
    exact e
  refine ⟨by rw [upd_ne A.sf]; exact r.stk, ?_, r.nd, r.new, upd_same, trAll_app (r.fdat.mono tu) (.cons (t.mono tu) .nil), by rw [upd_ne (Ne.symm A.fp)]; exact r.pcs, same_mut r.same A.hf⟩
  have key : ∀ (l : List Addr) (S : List (List PyData)), (∀ b ∈ l, b ≠ fo) → Paired (fun a ds => ∃ vs, H' a = some (.lst vs) ∧ TrAll H' vs ds) l S → Paired (fun b ds => ∃ vs, (upd H' fo (.lst (fv ++ [v]))) b = some (.lst vs) ∧ TrAll (upd H' fo (.lst (fv ++ [v]))) vs ds) l S := by
    intro l S hm h
    induction h with
    | nil => exact .nil
    | cons h1 _ ih =>
      obtain ⟨vs, e, t⟩ := h1
      exact .cons ⟨vs, by rw [upd_ne (hm _ (List.mem_cons_self ..))]; exact e, t.mono tu⟩ (ih fun b hb => hm b (List.mem_cons_of_mem _ hb))
  exact key as st.1 (fun b hb => (r.new b hb).2.2.1) r.lists
theorem RdS.putS {S1 : List (List PyData)} {ds : List PyData} {as1 : List Addr} {a : Addr} {vs : List V} {v : V} {d : PyData} (r : RdS H sa fo pl ps H' (as1 ++ [a]) (S1 ++ [ds], st.2) fv) (ha : H' a = some (.lst vs)) (hv : TrAll H' vs ds) (t : Tr H' v d) :
    RdS H sa fo pl ps (upd H' a (.lst (vs ++ [v]))) (as1 ++ [a]) (S1 ++ [ds ++ [d]], st.2) fv := by
  have tu : Tu H' (upd H' a (.lst (vs ++ [v]))) := fun b xs e => by
    rw [upd_ne (ne_of e ha (fun z => nomatch z))]
    exact e
  obtain ⟨n1, n2, n3, n4⟩ := r.new a (List.mem_append_right _ (List.mem_singleton.mpr rfl))
  obtain ⟨ws0, y, e, h0, _⟩ := paired_snoc (show Paired _ (as1 ++ [a]) (S1 ++ [ds]) from r.lists)
  have e1 := List.append_inj_left' e rfl
  subst e1
  have nda : ∀ b ∈ as1, b ≠ a := fun b hb => (List.nodup_append.mp r.nd).2.2 b hb a (List.mem_singleton.mpr rfl)
  refine ⟨by rw [upd_ne (Ne.symm n2)]; exact r.stk, Paired.snoc ?_ ⟨_, upd_same, trAll_app (hv.mono tu) (.cons (t.mono tu) .nil)⟩, r.nd, r.new, by rw [upd_ne (Ne.symm n3)]; exact r.fnd, r.fdat.mono tu, by rw [upd_ne (Ne.symm n4)]; exact r.pcs, same_mut r.same n1⟩
  have key : ∀ (l : List Addr) (S : List (List PyData)), (∀ b ∈ l, b ≠ a) → Paired (fun a ds => ∃ vs, H' a = some (.lst vs) ∧ TrAll H' vs ds) l S → Paired (fun b ds => ∃ ws, (upd H' a (.lst (vs ++ [v]))) b = some (.lst ws) ∧ TrAll (upd H' a (.lst (vs ++ [v]))) ws ds) l S := by
    intro l S hm h
    induction h with
    | nil => exact .nil
    | cons h1 _ ih =>
      obtain ⟨ws, e, t⟩ := h1
      exact .cons ⟨ws, by rw [upd_ne (hm _ (List.mem_cons_self ..))]; exact e, t.mono tu⟩ (ih fun b hb => hm b (List.mem_cons_of_mem _ hb))
  exact key as1 S1 nda h0
end

end K76



set_option Elab.async false
set_option linter.all false
set_option maxRecDepth 100000
set_option maxHeartbeats 4000000
namespace K76
open PySem PySem.Spec PyProof.Rows L2 U TL Vt
open C8 (pss_cut)
def spRead (C : Addr) : Sp := fun vs H Q E => ∃ v : V, vs = [v] ∧
  ((∃ z : PySem.Str, v = .str z ∧ z.length ≤ 100000 ∧ (∀ d, rd (tl z) = some d → ∀ H' u, Same H H' → Tr H' u d → Q u H') ∧ (rd (tl z) = none → ∀ H' p, Same H H' → H p = none → H' p = some (.xd [("line", .int 0)]) → E (.ref C) (some p) H')) ∨
    ∃ d, Od H v d ∧ isS d = false ∧ ∀ H' p, Same H H' → H p = none → H' p = some (.xd [("line", .int 0)]) → E (.ref C) (some p) H')
theorem atI_last {α : Type} (l : List α) (a : α) : atI (l ++ [a]) (-1) = some a := by
  have e : ixN (l.length + 1) (-1) = some l.length := by
    unfold ixN
    rw [if_neg (by decide), if_pos (by omega)]
    congr 1
    omega
  unfold atI
  rw [List.length_append, List.length_singleton, e]
  simp
theorem fin_none {t : List Nat} {st : S2} {as : List Addr} {fv : List V} (h : st.1 ≠ [] ∨ st.2.length ≠ 1) : fin t st = none := by
  obtain ⟨S, f⟩ := st
  unfold fin
  cases S with
  | cons s S => rfl
  | nil =>
    match f, h with
    | [], _ => rfl
    | [a], h => rcases h with h | h <;> exact absurd rfl h
    | a :: b :: r, _ => rfl
section
variable {P : Program} {w : World} {K : PySem.W.Frag} {mg : PySem.Str → Option Value} {base : Heap}
theorem ok_read {f : Addr} {fd : FuncData} {C : Addr} (F : FunD K "read_value" "read_value" (defArgs s_read_value) (defBody s_read_value) (defScope s_read_value) [] [] f fd) (T : Bi mg)
    (C_pieces_in : Cal P w K mg base CX0 "pieces_in" 1 P_pieces_in spPieces) (C_plain_of : Cal P w K mg base CX0 "plain_of" 2 P_plain_of spPlainOf) (C_is_value : Cal P w K mg base CX0 "is_value" 2 P_is_value spValue)
    (C_value_text : Cal P w K mg base (L2.CX P w) "value_text" 3 P_value_text (spText C)) (M2 : CalM P w K mg base "NoText" C 1 [] (spIni C)) : FnOk P w K mg base (L2.CX P w) 4 f fd P_read_value (spRead C) := by
  refine F.ok sc_read_value (fun vs H Q E h => ?_) (fun cdv A outer s H vs Q E hr h => ?_)
  · obtain ⟨v, rfl, _⟩ := h
    rfl
  · have hu := hu_of hr
    obtain ⟨v, rfl, h⟩ := h
    refine ⟨_, (pss_cons (ps_if (pt_not (pt_val (pe_callB (k_isi K) (by rfl) T.n_isinstance (by decide +kernel) (pa_cons (pv 0) (pa_cons (pe_bltn (v := .ty "str") (by rfl) T.n_str (by decide +kernel) rfl) pa_nil))))) (pss_one (ps_raise rfl (takes_of (E := E) rfl rfl rfl rfl) (pmk_c M2 (hr.mono (by decide)) (pa_cons pe_str (pa_cons pe_int pa_nil))))) pss_nil)
      (pss_cons (ps_par (by rfl) sc_read_value.nd rfl rfl (by decide) rfl rfl (i := 1) (j := 2) (pa_cons (pe_lst pa_nil) (pa_cons (pe_lst pa_nil) pa_nil)) (by rfl))
      (pss_cons (ps_for (passes_of rfl) rfl (k_pil K (pe_c C_pieces_in (hr.mono (by decide)) pass0 (pa_cons (pv 0) pa_nil))) (pg_name (i := 3) sc_read_value.nd rfl (.inl rfl)) (pss_cons (ps_if (pt_cmpR op_eq (pv 3) pe_str (nomark _)) (pss_cons (ps_expr (k_bm K PySem.F.plainAttrs_list PySem.F.slot_list_append PySem.F.type_list_append mt_append (pv 1) (pa_cons (pe_lst pa_nil) pa_nil)))
      (pss_one ps_continue)) pss_nil)
      (pss_cut (ps_if (PW.pt (pw_and (pt_cmpR op_eq (pv 3) pe_str (nomark _)) (pw_and1 (pt_cmpR (op_eqNil hr.units) (pv 1) (pe_lst pa_nil) (nomark _))))) (pss_one (ps_raise rfl (takes_of (E := E) rfl rfl rfl rfl) (pmk_c M2 (hr.mono (by decide)) (pa_cons pe_str (pa_cons pe_int pa_nil))))) pss_nil)
      (pss_cut (ps_set (i := 4) sc_read_value.nd rfl (.inl rfl) (pe_ifExp (pt_cmpR op_eq (pv 3) pe_str (nomark _)) (pe_lst (pa_cons (pe_callTy (k_tuple K) (by rfl) T.n_tuple (by decide +kernel) (pa_cons (k_bm0 K PySem.F.plainAttrs_list PySem.F.slot_list_pop PySem.F.type_list_pop mt_pop (pv 1)) pa_nil)) pa_nil)) (pe_c C_plain_of (hr.mono (by decide)) pass0 (pa_cons (pv 3) pa_nil))))
      (pss_cut (ps_if (pt_cmpR (op_eqNil hr.units) (pv 4) (pe_lst pa_nil) (nomark _)) (pss_one (ps_raise rfl (takes_of (E := E) rfl rfl rfl rfl) (pmk_c M2 (hr.mono (by decide)) (pa_cons pe_str (pa_cons pe_int pa_nil))))) pss_nil)
      (pss_one (ps_if (pt_cmpR (op_eqNil hr.units) (pv 1) (pe_lst pa_nil) (nomark _)) (pss_one (ps_expr (k_bm K PySem.F.plainAttrs_list PySem.F.slot_list_append PySem.F.type_list_append mt_append (pv 2) (pa_cons (pe_ix (k_ix K) (pv 4) pe_int (fun _ _ => rfl)) pa_nil)))) (pss_one (ps_expr (k_bm K PySem.F.plainAttrs_list PySem.F.slot_list_append PySem.F.type_list_append mt_append (pe_ix (k_ix K) (pv 1) (pe_un un_neg pe_int) (fun _ _ => rfl)) (pa_cons (pe_ix (k_ix K) (pv 4) pe_int (fun _ _ => rfl)) pa_nil)))))))))))
      (pss_cons (ps_if (PW.pt (pw_or (pt_cmpR (op_neNil hr.units) (pv 1) (pe_lst pa_nil) (nomark _)) (pw_or (pt_cmpR op_ne (pe_callB (k_len K) (by rfl) T.n_len (by decide +kernel) (pa_cons (pv 2) pa_nil)) pe_int (nomark _)) (pw_or (pt_not (pt_val (pe_c C_is_value (hr.mono (by decide)) pass0 (pa_cons (pe_ix (k_ix K) (pv 2) pe_int (fun _ _ => rfl)) pa_nil)))) (pw_or1 (pt_cmpR op_ne (pe_c C_value_text (hr.mono (by decide)) passF (pa_cons (pe_ix (k_ix K) (pv 2) pe_int (fun _ _ => rfl)) pa_nil)) (pv 0) (nomark _))))))) (pss_one (ps_raise rfl (takes_of (E := E) rfl rfl rfl rfl) (pmk_c M2 (hr.mono (by decide)) (pa_cons pe_str (pa_cons pe_int pa_nil))))) pss_nil)
      (pss_one (ps_ret (pe_ix (k_ix K) (pv 2) pe_int (fun _ _ => rfl)))))))), ?_⟩
    rcases h with ⟨z, rfl, hz, q, qE⟩ | ⟨d, hd, hs, qE⟩
    · refine ⟨.str z, rfl, .str z, .ty "str", .type "str", .type "str", true, rfl, .ty _, .base (.str z), kit_ty (by decide +kernel), true, rfl, iteF ?_⟩
      rw [len_tl] at hz
      refine ⟨Nat.zero_le _, fun sa hsa => ⟨Nat.zero_le _, fun fo hfo => ⟨_, _, rfl, ?_⟩⟩⟩
      have nsf : sa ≠ fo := ne_of_none upd_same hfo
      have hfoH : H fo = none := (same_upd hsa).free hfo
      have s0 : Same H (upd (upd H sa (.lst [])) fo (.lst [])) := (same_upd hsa).trans (same_upd hfo)
      refine ⟨.str z, rfl, z, rfl, by rw [len_tl]; omega, fun H1 pl k1 hpl hpx => ?_⟩
      have nsp : sa ≠ pl := ne_of_none (show (upd (upd H sa (.lst [])) fo (.lst [])) sa = _ by rw [upd_ne nsf]; exact upd_same) hpl
      have nfp : fo ≠ pl := ne_of_none (show (upd (upd H sa (.lst [])) fo (.lst [])) fo = _ from upd_same) hpl
      have AP : Apart H sa fo pl := ⟨hsa, hfoH, s0.free hpl, nsf, nsp, nfp⟩
      have hws : wsum (pcs (tl z) []) ≤ 2 * (tl z).length := by
        have := pcs_wsum (tl z) []
        simpa using this
      have erd : rd (tl z) = (steps ([], []) (pcs (tl z) [])).bind (fin (tl z)) := rfl
      generalize pcs (tl z) [] = ps at *
      have bad : rd (tl z) = none → ∀ (t : V) (H2 : Hp), Same H H2 → [t, V.int 0].length ≤ 1000 ∧ ∀ a, H2 a = none → spIni C (.ref a :: ([t, V.int 0] ++ [])) (upd H2 a (exo a C none)) (fun v H3 => v = .non ∧ ∃ (d : Addr) (fs : List (PySem.Str × V)), H3 a = some (exo a C (some d)) ∧ H3 d = some (exd d fs) ∧ H2 d = none ∧ E (.ref C) (some d) (upd (del H3 a) d (.xd fs))) (fun _ _ _ => False) :=
        fun e t H2 k2 => mk_nt rfl fun H' p k hp hx => qE e H' p (k2.trans k) (k2.free hp) hx
      refine ⟨pl, rfl, ⟨_, SqL.of hpx⟩, ?_⟩
      refine for_list (K := K) (a := pl) (xs := ps.map mkS) (fun i σ H' => ∃ (st : S2) (as : List Addr) (fv : List V) (x3 x4 : Option V), σ = [some (.str z), some (.ref sa), some (.ref fo), x3, x4] ∧ steps ([], []) (ps.take i) = some st ∧ RdS H sa fo pl (ps.map mkS) H' as st fv ∧ tsz st ≤ wsum (ps.take i))
        ⟨([], []), [], [], none, none, rfl, rfl, ⟨k1 _ _ (by rw [upd_ne nsf]; exact upd_same), .nil, List.nodup_nil, fun a ha => by (cases ha), k1 _ _ upd_same, .nil, hpx, s0.trans k1⟩, Nat.zero_le _⟩ (fun i σ H' _ ⟨_, _, _, _, _, _, _, r, _⟩ => SqL.of r.pcs) ?_ ?_
      · rintro i x σ H' hi ⟨st, as, fv, x3, x4, rfl, hst, r, hsz⟩
        obtain ⟨p, hp, rfl⟩ : ∃ p, ps[i]? = some p ∧ x = mkS p := by
          rw [List.getElem?_map] at hi
          cases e : ps[i]? with
          | none => rw [e] at hi; cases hi
          | some p => rw [e] at hi; exact ⟨p, rfl, (Option.some.inj hi).symm⟩
        have htk := wsum_take ps i
        have htk1 := wsum_take ps (i + 1)
        obtain ⟨hl1, hl2⟩ := r.len
        have wnext : wsum (ps.take (i + 1)) = wsum (ps.take i) + (p.length + 1) := by rw [take_snoc hp, wsum_app, wsum_one]
        have e40 : decide (mkS p = V.str (PySem.Str.ofString "(")) = decide (p = [40]) := by rw [str_lit (show tl (PySem.Str.ofString "(") = [40] by decide +kernel), mkS_inj]
        have e41 : decide (mkS p = V.str (PySem.Str.ofString ")")) = decide (p = [41]) := by rw [str_lit (show tl (PySem.Str.ofString ")") = [41] by decide +kernel), mkS_inj]
        refine ⟨mkS p, rfl, rfl, _, rfl, ?_⟩
        rw [e40]
        refine ite2 (fun h1 => ?_) fun h1 => ?_
        · have h1' := of_decide_eq_true h1
          refine ⟨.ref sa, rfl, .inl ⟨rfl, _, SqL.of r.stk⟩, Nat.zero_le _, fun qa hqa => ?_⟩
          have nq : sa ≠ qa := ne_of_none r.stk hqa
          have hstep : step st p = some (st.1 ++ [[]], st.2) := by
            unfold Vt.step
            rw [if_pos h1']
          refine ⟨sa, _, _, rfl, rfl, by rw [upd_ne nq]; exact r.stk, lt_line (by rw [List.length_map]; omega), ?_⟩
          exact ⟨_, _, fv, _, _, rfl, steps_snoc hst hp hstep, r.push AP hqa, by have := tsz_step hstep; omega⟩
        · have h1' : ¬ p = [40] := by simpa using h1
          -- if piece == ')' and stack == []
          refine ⟨fun σ H2 => σ = [some (.str z), some (.ref sa), some (.ref fo), some (mkS p), x4] ∧ RdS H sa fo pl (ps.map mkS) H2 as st fv ∧ ¬ (p = [41] ∧ st.1 = []), ?_, ?_⟩
          · refine ⟨mkS p, rfl, rfl, _, rfl, ?_⟩
            rw [e41]
            refine ite2 (fun h2 => ?_) fun h2 => ?_
            · have h2' := of_decide_eq_true h2
              refine ⟨.ref sa, rfl, Nat.zero_le _, fun qa hqa => ?_⟩
              have nq : sa ≠ qa := ne_of_none r.stk hqa
              refine ⟨sa, qa, _, rfl, rfl, SqL.of (by rw [upd_ne nq]; exact r.stk), SqL.of upd_same, _, rfl, ?_⟩
              have hlen := r.lists.length
              cases as with
              | nil =>
                have hS : st.1 = [] := List.length_eq_zero_iff.mp hlen.symm
                refine iteT (bad ?_ _ _ (r.add (o := .lst []) hqa).same)
                rw [erd, steps_fail hst hp ?_]
                · rfl
                · unfold Vt.step
                  rw [if_neg h1', if_pos h2', hS]
                  rfl
              | cons a as1 =>
                refine iteF ⟨rfl, r.add hqa, fun z2 => ?_⟩
                rw [z2.2] at hlen
                cases hlen
            · have h2' : ¬ p = [41] := by simpa using h2
              exact iteF ⟨rfl, r, fun z2 => h2' z2.1⟩
          · rintro σ H2 ⟨rfl, r2, hne⟩
            -- some = ..
            refine ⟨fun σ H3 => ∃ (sm : Addr) (as1 : List Addr) (S1 : List (List PyData)) (ov : Option (V × PyData)), σ = [some (.str z), some (.ref sa), some (.ref fo), some (mkS p), some (.ref sm)] ∧ H3 sm = some (.lst (ov.toList.map (·.1))) ∧ (∀ v d, ov = some (v, d) → Tr H3 v d) ∧
              RdS H sa fo pl (ps.map mkS) H3 as1 (S1, st.2) fv ∧ step st p = ov.map (fun vd => put (S1, st.2) vd.2), ?_, ?_⟩
            · refine ⟨mkS p, rfl, rfl, _, rfl, ?_⟩
              rw [e41]
              refine ite2 (fun h2 => ?_) fun h2 => ?_
              · have h2' := of_decide_eq_true h2
                rcases List.eq_nil_or_concat st.1 with e | ⟨S1, ds, e⟩
                · exact absurd ⟨h2', e⟩ hne
                · rw [List.concat_eq_append] at e
                  obtain ⟨as1, a, vs, rfl, ha, hv⟩ := r2.top e
                  have hst' : st = (S1 ++ [ds], st.2) := by
                    rw [← e]
                  have r2' : RdS H sa fo pl (ps.map mkS) H2 (as1 ++ [a]) (S1 ++ [ds], st.2) fv := by
                    rw [← hst']
                    exact r2
                  refine ⟨.ref sa, rfl, .inl ⟨rfl, _, SqL.of r2.stk⟩, sa, _, .ref a, rfl, rfl, r2.stk, by simp, ?_⟩
                  have edl : ((as1 ++ [a]).map V.ref).dropLast = as1.map V.ref := by simp
                  rw [edl]
                  have r3 := r2'.pop AP
                  have nas : a ≠ sa := (r2'.new a (List.mem_append_right _ (List.mem_singleton.mpr rfl))).2.1
                  have ha3 : (upd H2 sa (.lst (as1.map V.ref))) a = some (.lst vs) := by rw [upd_ne nas]; exact ha
                  have hv3 : TrAll (upd H2 sa (.lst (as1.map V.ref))) vs ds := hv.mono fun b xs e => by
                    rw [upd_ne (ne_of e r2.stk (fun z => nomatch z))]
                    exact e
                  refine ⟨a, vs, rfl, .inl ⟨SqL.of ha3, fun tp htp => ⟨le_line (by show 1 ≤ 16777216; decide), fun sm hsm => ?_⟩⟩⟩
                  have r4 := r3.add (o := .tup vs) htp
                  have r5 := r4.add (o := .lst [.ref tp]) hsm
                  have ntm : tp ≠ sm := ne_of_none upd_same hsm
                  refine ⟨sm, as1, S1, some (.ref tp, .tuple ds), rfl, upd_same, fun v d e => ?_, r5, ?_⟩
                  · cases e
                    refine .tup (by rw [upd_ne ntm, upd_same]) (hv3.mono fun b xs e => ?_)
                    have := (same_upd (o := HO.tup vs) htp) _ _ e
                    exact (same_upd (o := HO.lst [.ref tp]) hsm) _ _ this
                  · unfold Vt.step
                    rw [if_neg h1', if_pos h2', hst']
                    simp
              · have h2' : ¬ p = [41] := by simpa using h2
                refine ⟨mkS p, rfl, ⟨p.toArray⟩, rfl, ?_, fun H3 sm k3 hsm hx => ⟨sm, as, st.1, (Vt.plain p).map (fun d => (vOf d, d)), rfl, ?_, fun v d e => ?_, r2.keep (fun b o e _ => k3 b o e) (r2.same.trans k3), ?_⟩⟩
                · have hpl : p.length ≤ wsum ps := by
                    have h3 := wsum_take ps (i + 1)
                    omega
                  show p.toArray.size ≤ 1000000
                  rw [List.size_toArray]
                  omega
                · have e : tl (⟨p.toArray⟩ : PySem.Str) = p := rfl
                  rw [e] at hx
                  rw [hx]
                  cases Vt.plain p <;> rfl
                · cases e2 : Vt.plain p with
                  | none =>
                    rw [e2] at e
                    cases e
                  | some d' =>
                    rw [e2] at e
                    cases e
                    exact (plain_tr e2 H3).1
                · unfold Vt.step
                  rw [if_neg h1', if_neg h2']
                  cases Vt.plain p <;> rfl
            · rintro σ H3 ⟨sm, as1, S1, ov, rfl, hsm, htr, r3, hstep⟩
              -- if some == []
              refine ⟨fun σ H4 => ∃ v d, ov = some (v, d) ∧ σ = [some (.str z), some (.ref sa), some (.ref fo), some (mkS p), some (.ref sm)] ∧ H4 sm = some (.lst [v]) ∧ Tr H4 v d ∧ RdS H sa fo pl (ps.map mkS) H4 as1 (S1, st.2) fv, ?_, ?_⟩
              · refine ⟨.ref sm, rfl, Nat.zero_le _, fun qa hqa => ?_⟩
                have nq : sm ≠ qa := ne_of_none hsm hqa
                refine ⟨sm, qa, _, rfl, rfl, SqL.of (by rw [upd_ne nq]; exact hsm), SqL.of upd_same, _, rfl, ?_⟩
                cases ov with
                | none =>
                  refine iteT (bad ?_ _ _ (r3.add (o := .lst []) hqa).same)
                  rw [erd, steps_fail hst hp hstep]
                  rfl
                | some vd =>
                  obtain ⟨v, d⟩ := vd
                  exact iteF ⟨v, d, rfl, rfl, by rw [upd_ne nq]; exact hsm, (htr v d rfl).mono (Same.tu (same_upd hqa)), r3.add hqa⟩
              · rintro σ H4 ⟨v, d, rfl, rfl, hsm4, ht4, r4⟩
                have hstep' : step st p = some (put (S1, st.2) d) := hstep
                have hsz' := tsz_step hstep'
                obtain ⟨hl1', hl2'⟩ := r4.len
                have hsm1 : tsz (S1, st.2) ≤ tsz (put (S1, st.2) d) := by rw [tsz_put]; omega
                refine ⟨.ref sa, rfl, Nat.zero_le _, fun qa hqa => ?_⟩
                have r5 := r4.add (o := .lst []) hqa
                have nq : sm ≠ qa := ne_of_none hsm4 hqa
                have hsm5 : (upd H4 qa (.lst [])) sm = some (.lst [v]) := by rw [upd_ne nq]; exact hsm4
                have ht5 := ht4.mono (Same.tu (same_upd (o := HO.lst []) hqa))
                refine ⟨sa, qa, _, rfl, rfl, SqL.of r5.stk, SqL.of upd_same, _, rfl, ?_⟩
                have hlen := r5.lists.length
                have next : steps ([], []) (ps.take (i + 1)) = some (put (S1, st.2) d) := steps_snoc hst hp hstep'
                generalize upd H4 qa (.lst []) = H5 at *
                rcases List.eq_nil_or_concat S1 with e | ⟨S2, ds, e⟩
                · subst e
                  have has : as1 = [] := List.length_eq_zero_iff.mp hlen
                  subst has
                  refine iteT ⟨.ref fo, rfl, .inl ⟨rfl, _, SqL.of r5.fnd⟩, .ref sm, rfl, .inl ⟨sm, _, 0, v, rfl, rfl, SqL.of hsm5, rfl, fo, _, _, rfl, rfl, r5.fnd, lt_line (by omega), ?_⟩⟩
                  exact ⟨put ([], st.2) d, [], _, _, _, rfl, next, r5.putF AP ht5, by omega⟩
                · rw [List.concat_eq_append] at e
                  subst e
                  obtain ⟨as2, a, vs, rfl, ha, hv⟩ := r5.top (S1 := S2) (ds := ds) rfl
                  have ene : ((as2 ++ [a]).map V.ref).isEmpty = false := by simp
                  rw [ene]
                  have hvl : vs.length ≤ tsz (S2 ++ [ds], st.2) := by
                    rw [hv.length]
                    have h3 := szAll_len ds
                    unfold tsz
                    simp only [List.map_append, List.sum_append, List.map_cons, List.map_nil, List.sum_cons, List.sum_nil]
                    omega
                  refine iteF ⟨.ref sa, rfl, 1, rfl, .inl ⟨sa, _, -1, .ref a, rfl, rfl, SqL.of r5.stk, ?_, .inl ⟨rfl, _, SqL.of ha⟩, .ref sm, rfl, .inl ⟨sm, _, 0, v, rfl, rfl, SqL.of hsm5, rfl, a, _, _, rfl, rfl, ha, lt_line (by omega), ?_⟩⟩⟩
                  · rw [List.map_append]
                    exact atI_last _ _
                  · refine ⟨put (S2 ++ [ds], st.2) d, as2 ++ [a], fv, _, _, rfl, next, ?_, by omega⟩
                    rw [put_snoc]
                    exact r5.putS ha hv ht5
      · rintro σ H' ⟨st, as, fv, x3, x4, rfl, hst, r, hsz⟩
        have eps : ps.take (ps.map mkS).length = ps := by
          rw [List.length_map, List.take_length]
        rw [eps] at hst hsz
        rw [hst] at erd
        have erd' : rd (tl z) = fin (tl z) st := erd
        refine ⟨.ref sa, rfl, Nat.zero_le _, fun qa hqa => ?_⟩
        have r1 := r.add (o := .lst []) hqa
        refine ⟨sa, qa, _, rfl, rfl, SqL.of r1.stk, SqL.of upd_same, _, rfl, ?_⟩
        have hlen := r1.lists.length
        obtain ⟨S, fd2⟩ := st
        generalize upd H' qa (.lst []) = H2 at *
        cases S with
        | cons ds S1 =>
          have ene : (as.map V.ref).isEmpty = false := by
            cases as with
            | nil => cases hlen
            | cons a as => rfl
          rw [ene]
          refine iteT (iteT (bad ?_ _ _ r1.same))
          rw [erd']
          exact fin_none (as := as) (fv := fv) (.inl (by simp))
        | nil =>
          have has : as = [] := List.length_eq_zero_iff.mp hlen
          subst has
          refine iteF ⟨.ref fo, rfl, .ref fo, fv.length, rfl, .inl ⟨fv, SqL.of r1.fnd, rfl⟩, rfl, _, rfl, ?_⟩
          have hfl := r1.fdat.length
          refine ite2 (fun h1 => ?_) fun h1 => ?_
          · have h1' : fv.length ≠ 1 := by
              intro z2
              rw [z2] at h1
              exact absurd h1 (by decide)
            refine iteT (bad ?_ _ _ r1.same)
            rw [erd']
            exact fin_none (as := []) (fv := fv) (.inr (by rw [← hfl]; exact h1'))
          · have h1' : fv.length = 1 := by
              have h0 : decide (V.int (fv.length : Nat) = V.int 1) = true := by simpa using h1
              have h0' := of_decide_eq_true h0
              injection h0' with h0''
              omega
            obtain ⟨v, rfl⟩ := List.length_eq_one_iff.mp h1'
            have hd1 : fd2.length = 1 := by rw [← hfl]; rfl
            obtain ⟨d, rfl⟩ := List.length_eq_one_iff.mp hd1
            have ht : Tr H2 v d := by
              cases r1.fdat with
              | cons h _ => exact h
            have hdz : sz d ≤ 262144 := by
              have e : tsz (([] : List (List PyData)), [d]) = sz d := by
                unfold tsz
                simp [szAll]
              rw [e] at hsz
              omega
            have efin : rd (tl z) = if isv d = true ∧ wr d = tl z then some d else none := by
              rw [erd']
              rfl
            refine ⟨.ref fo, rfl, .inl ⟨fo, _, 0, v, rfl, rfl, SqL.of r1.fnd, rfl, v, d, rfl, Tr.od ht, by omega, fun H3 k3 => ⟨_, rfl, ?_⟩⟩⟩
            cases hv : isv d with
            | false =>
              refine iteT (iteT (bad ?_ _ _ (r1.same.trans k3)))
              rw [efin, if_neg (by rw [hv]; simp)]
            | true =>
              have fnd3 := k3 _ _ r1.fnd
              have ht3 := ht.mono (Same.tu k3)
              refine iteF ⟨.ref fo, rfl, .inl ⟨fo, _, 0, v, rfl, rfl, SqL.of fnd3, rfl, v, d, rfl, Tr.od ht3, hdz, fun _ H4 k4 => ?_, fun z2 => by rw [hv] at z2; cases z2⟩⟩
              refine ⟨.str z, rfl, rfl, _, rfl, ?_⟩
              have ewr : decide (V.str (⟨(wr d).toArray⟩ : PySem.Str) = V.str z) = decide (wr d = tl z) := by rw [str_tl z, mkS_inj]
              rw [ewr]
              refine ite2 (fun h2 => ?_) fun h2 => ?_
              · have h2' : ¬ wr d = tl z := by simpa using h2
                refine bad ?_ _ _ ((r1.same.trans k3).trans k4)
                rw [efin, if_neg (fun z2 => h2' z2.2)]
              · have h2' : wr d = tl z := by simpa using h2
                refine ⟨.ref fo, rfl, .inl ⟨fo, _, 0, v, rfl, rfl, SqL.of (k4 _ _ fnd3), rfl, ?_⟩⟩
                exact q d (by rw [efin, if_pos ⟨hv, h2'⟩]) _ v ((r1.same.trans k3).trans k4) (ht3.mono (Same.tu k4))
    · refine ⟨v, rfl, v, .ty "str", .type (tyN d), .type "str", isS d, rfl, .ty _, hd.ty, kit_ty (kit_S d), isS d, rfl, ?_⟩
      rw [hs]
      exact iteT (mk_nt rfl fun H' p k hp hx => qE H' p k hp hx)
end

end K76



set_option Elab.async false
set_option linter.all false
set_option maxRecDepth 100000
set_option maxHeartbeats 4000000
namespace K76
open PySem PySem.Spec PyProof.Rows L2 U TL Vt
open C8 (pss_cut)
/-! ### what draws are taken from -/
def stD (g c : Addr) (r t : Int) : HO := .dK [(.inr "great", .ref g), (.inr "cells", .ref c), (.inr "rest", .int r), (.inr "turn", .int t)]
/-- the state at st: great digits at g, cells at c, at most n turns so far -/
structure Dr (H : Hp) (st g c : Addr) (n : Nat) : Prop where
  ex : ∃ (gs cs : List Int) (r t : Int), H st = some (stD g c r t) ∧ H g = some (.lst (gs.map V.int)) ∧ H c = some (.lst (cs.map V.int)) ∧ (∀ x ∈ gs, 0 ≤ x) ∧ (∀ x ∈ cs, 0 ≤ x) ∧ gs.length ≤ 63 ∧ cs.length ≤ 63 ∧ 0 ≤ r ∧ 0 ≤ t ∧ t ≤ n
  ne : g ≠ c
/-- all but the state's own objects stands -/
def Kp (st g : Addr) (H H' : Hp) : Prop := ∀ b o, H b = some o → b ≠ st → b ≠ g → H' b = some o
theorem Kp.refl (st g : Addr) (H : Hp) : Kp st g H H := fun _ _ h _ _ => h
theorem Kp.trans {st g : Addr} {H H1 H2 : Hp} (a : Kp st g H H1) (b : Kp st g H1 H2) : Kp st g H H2 := fun x o h n1 n2 => b x o (a x o h n1 n2) n1 n2
theorem Kp.of_same {st g : Addr} {H H' : Hp} (s : Same H H') : Kp st g H H' := fun b o h _ _ => s b o h
theorem Dr.tu {H H' : Hp} {st g c : Addr} {n : Nat} (d : Dr H st g c n) (k : Kp st g H H') : Tu H H' := fun b xs h => by
  obtain ⟨gs, cs, r, t, h1, h2, _⟩ := d.ex
  exact k b _ h (ne_of h h1 (fun z => nomatch z)) (ne_of h h2 (fun z => nomatch z))
/-- the state stands where nothing of it was written -/
theorem Dr.same {H H' : Hp} {st g c : Addr} {n : Nat} (d : Dr H st g c n) (s : Same H H') : Dr H' st g c n := by
  obtain ⟨gs, cs, r, t, h1, h2, h3, q⟩ := d.ex
  exact ⟨⟨gs, cs, r, t, s _ _ h1, s _ _ h2, s _ _ h3, q⟩, d.ne⟩
theorem Dr.mut {H : Hp} {st g c p : Addr} {n : Nat} {o : HO} (d : Dr H st g c n) (h1 : p ≠ st) (h2 : p ≠ g) (h3 : p ≠ c) : Dr (upd H p o) st g c n := by
  obtain ⟨gs, cs, r, t, q1, q2, q3, q⟩ := d.ex
  exact ⟨⟨gs, cs, r, t, by rw [upd_ne (Ne.symm h1)]; exact q1, by rw [upd_ne (Ne.symm h2)]; exact q2, by rw [upd_ne (Ne.symm h3)]; exact q3, q⟩, d.ne⟩
theorem Dr.free {H : Hp} {st g c p : Addr} {n : Nat} (d : Dr H st g c n) (h : H p = none) : p ≠ st ∧ p ≠ g ∧ p ≠ c := by
  obtain ⟨gs, cs, r, t, q1, q2, q3, q⟩ := d.ex
  exact ⟨(ne_of_none q1 h).symm, (ne_of_none q2 h).symm, (ne_of_none q3 h).symm⟩
theorem Dr.more {H : Hp} {st g c : Addr} {n m : Nat} (d : Dr H st g c n) (h : n ≤ m) : Dr H st g c m := by
  obtain ⟨gs, cs, r, t, q1, q2, q3, q4, q5, q6, q7, q8, q9, q10⟩ := d.ex
  exact ⟨⟨gs, cs, r, t, q1, q2, q3, q4, q5, q6, q7, q8, q9, by omega⟩, d.ne⟩
section
variable {H : Hp} {st g c : Addr} {r t : Int}
theorem get_great (h : H st = some (stD g c r t)) : DGet H st (.str "great") (some (.ref g)) := DGet.k (k := .inr "great") h
theorem get_cells (h : H st = some (stD g c r t)) : DGet H st (.str "cells") (some (.ref c)) := DGet.k (k := .inr "cells") h
theorem get_rest (h : H st = some (stD g c r t)) : DGet H st (.str "rest") (some (.int r)) := DGet.k (k := .inr "rest") h
theorem get_turn (h : H st = some (stD g c r t)) : DGet H st (.str "turn") (some (.int t)) := DGet.k (k := .inr "turn") h
theorem put_rest (h : H st = some (stD g c r t)) (z : Int) : DPut H st (.str "rest") (.int z) (upd H st (stD g c z t)) := DPut.k (k := .inr "rest") h (by show 4 < sizeLine; decide)
theorem put_turn (h : H st = some (stD g c r t)) (z : Int) : DPut H st (.str "turn") (.int z) (upd H st (stD g c r z)) := DPut.k (k := .inr "turn") h (by show 4 < sizeLine; decide)
end
/-! ### begun -/
def spBegun (K : PySem.W.Frag) : Sp := fun vs H Q _ => ∃ (a : Addr) (ns : List Int), vs = [.ref a] ∧ SqL K H a (ns.map V.int) ∧ ns.length ≤ 63 ∧
  ∀ H' st g c, Same H H' → H st = none → H g = none → H c = none → Dr H' st g c 0 → Q (.ref st) H'
def spMixed : Sp := fun vs H Q _ => ∃ (st g c : Addr) (n : Nat), vs = [.ref st] ∧ Dr H st g c n ∧ n < 2 ^ 40 ∧
  ∀ H' z, (∀ b o, H b = some o → b ≠ st → H' b = some o) → (∃ r t t', H st = some (stD g c r t) ∧ H' st = some (stD g c r t')) → Dr H' st g c (n + 1) → 0 ≤ z → Q (.int z) H'
def spDraw : Sp := fun vs H Q _ => ∃ (st g c : Addr) (n : Nat) (room : Int), vs = [.ref st, .int room] ∧ 0 < room ∧ room < 1073741824 ∧ Dr H st g c n ∧ n < 2 ^ 40 ∧
  ∀ H' z, Kp st g H H' → Dr H' st g c (n + 1) → 0 ≤ z → z < room → Q (.int z) H'
theorem list_more {l : List V} {n : Nat} (h : l.length ≤ n) (hn : n ≤ 1000) : l.length < sizeLine := small1000 (by omega)
theorem get_int {ns : List Int} {i : Nat} {x : V} (h : (ns.map V.int)[i]? = some x) : ∃ n, ns[i]? = some n ∧ x = .int n := by
  rw [List.getElem?_map] at h
  cases e : ns[i]? with
  | none => rw [e] at h; cases h
  | some n => rw [e] at h; exact ⟨n, rfl, (Option.some.inj h).symm⟩
theorem nn_abs (i : Int) : 0 ≤ (if i < 0 then -i else i) := by
  split <;> omega
section
variable {P : Program} {w : World} {K : PySem.W.Frag} {mg : PySem.Str → Option Value} {base : Heap}
theorem ok_begun {f : Addr} {fd : FuncData} (F : FunD K "_law_begun" "_law_begun" (defArgs s__law_begun) (defBody s__law_begun) (defScope s__law_begun) [] [] f fd) (T : Bi mg) : FnOk P w K mg base CX0 1 f fd P__law_begun (spBegun K) := by
  refine F.ok sc__law_begun (fun vs H Q E h => ?_) (fun cdv A outer s H vs Q E hr h => ?_)
  · obtain ⟨a, ns, rfl, _⟩ := h
    rfl
  · have hu := hu_of hr
    obtain ⟨a, ns, rfl, hS, hlen, q⟩ := h
    refine ⟨_, PSs.nox ((pss_cons (ps_setLc (i := 1) (own := [("cell", 2)]) (g := gName 2) rfl sc__law_begun.nd rfl rfl (sw_true rfl rfl rfl (by decide +kernel)) (k_pil K (pv 0)) (blkOk_by (N := N__law_begun) (sc := defScope s__law_begun) (by decide +kernel)) (fun _ _ _ _ _ => (pg_name (i := 2) sc__law_begun.nd rfl (.inl rfl))) (fun _ _ _ _ _ => (pts_one (pt_cmpR op_ge (pe_callB call_abs (by rfl) T.n_abs (by decide +kernel) (pa_cons (pv 2) pa_nil)) (pe_op op_pow pe_int pe_int) (nomark _)))) (fun _ _ _ _ _ => (pe_op op_sub (pe_callB call_abs (by rfl) T.n_abs (by decide +kernel) (pa_cons (pv 2) pa_nil)) (pe_op op_pow pe_int pe_int))))
      (pss_one (ps_ret (pe_disp (pps_cons pe_str (pv 1) (pps_cons pe_str (pe_lc (own := [("cell", 2)]) (g := gName 2) (tt := tYes) rfl sc__law_begun.nd (k_pil K (pv 0)) (blkOk_by (N := N__law_begun) (sc := defScope s__law_begun) (by decide +kernel)) (fun _ _ _ _ _ => (pg_name (i := 2) sc__law_begun.nd rfl (.inl rfl))) (fun _ _ _ _ _ => pts_nil) (fun _ _ _ _ _ => (pe_callB call_abs (by rfl) T.n_abs (by decide +kernel) (pa_cons (pv 2) pa_nil)))) (pps_cons pe_str pe_int (pps_cons pe_str pe_int pps_nil)))) (by rfl) (by rfl) (fun z => by cases z) (by decide)))))), ?_⟩
    -- great = [..]
    refine ⟨.ref a, rfl, a, rfl, ⟨_, hS⟩, fun g hg => ?_⟩
    refine lc_list (K := K) (a := a) (xs := ns.map V.int) (fun i H1 => ∃ gs : List Int, H1 = upd H g (.lst (gs.map V.int)) ∧ gs.length ≤ i ∧ ∀ x ∈ gs, 0 ≤ x) ⟨[], rfl, Nat.le_refl 0, fun x hx => by cases hx⟩ ?_ ?_ ?_
    · rintro i H1 _ ⟨gs, rfl, _⟩
      exact (same_upd hg).seq hS
    · rintro i x H1 hi ⟨gs, rfl, hl, hp⟩
      obtain ⟨n, hn, rfl⟩ := get_int hi
      have hin : i < ns.length := (List.getElem?_eq_some_iff.mp hn).1
      refine ⟨rfl, _, rfl, n, rfl, 10, 18, rfl, rfl, ⟨by decide, by decide, by decide⟩, _, _, rfl, rfl, _, rfl, ite2 (fun ht => ?_) fun _ => ⟨gs, rfl, Nat.le_succ_of_le hl, hp⟩⟩
      have ht' := of_decide_eq_true ht
      refine ⟨_, rfl, n, rfl, 10, 18, rfl, rfl, ⟨by decide, by decide, by decide⟩, _, _, rfl, rfl, _, upd_same, list_more (n := 63) (by rw [List.length_map]; omega) (by decide), gs ++ [(if n < 0 then -n else n) - 10 ^ 18], ?_, ?_, ?_⟩
      · rw [upd_upd, List.map_append]
        rfl
      · rw [List.length_append, List.length_singleton]
        omega
      · intro x hx
        rcases List.mem_append.mp hx with z | z
        · exact hp x z
        · rw [List.mem_singleton.mp z]
          have : (10 : Int) ^ 18 = 1000000000000000000 := by decide
          have h2 : (10 : Int) ^ (18 : Int).toNat = 1000000000000000000 := by decide
          rw [h2] at ht'
          omega
    · rintro H1 ⟨gs, rfl, hl, hp⟩
      rw [List.length_map] at hl
      -- the dict
      intro st hst
      have gst : g ≠ st := ne_of_none upd_same hst
      refine ⟨.ref g, rfl, .ref a, rfl, a, rfl, ⟨_, (same_upd hst).seq ((same_upd hg).seq hS)⟩, fun c hc => ?_⟩
      have gc : g ≠ c := ne_of_none (show (upd (upd H g (.lst (gs.map V.int))) st (.dK [])) g = some (.lst (gs.map V.int)) by rw [upd_ne gst]; exact upd_same) hc
      have stc : st ≠ c := ne_of_none upd_same hc
      have s0 : Same H (upd (upd H g (.lst (gs.map V.int))) st (.dK [])) := (same_upd hg).trans (same_upd hst)
      refine lc_list (K := K) (a := a) (xs := ns.map V.int) (fun i H1 => ∃ cs : List Int, H1 = upd (upd (upd H g (.lst (gs.map V.int))) st (.dK [])) c (.lst (cs.map V.int)) ∧ cs.length ≤ i ∧ ∀ x ∈ cs, 0 ≤ x) ⟨[], rfl, Nat.le_refl 0, fun x hx => by cases hx⟩ ?_ ?_ ?_
      · rintro i H1 _ ⟨cs, rfl, _⟩
        exact (s0.trans (same_upd hc)).seq hS
      · rintro i x H1 hi ⟨cs, rfl, hl2, hp2⟩
        obtain ⟨n, hn, rfl⟩ := get_int hi
        have hin : i < ns.length := (List.getElem?_eq_some_iff.mp hn).1
        refine ⟨rfl, yes ⟨_, rfl, n, rfl, _, upd_same, list_more (n := 63) (by rw [List.length_map]; omega) (by decide), cs ++ [if n < 0 then -n else n], ?_, ?_, ?_⟩⟩
        · rw [upd_upd, List.map_append]
          rfl
        · rw [List.length_append, List.length_singleton]
          omega
        · intro x hx
          rcases List.mem_append.mp hx with z | z
          · exact hp2 x z
          · rw [List.mem_singleton.mp z]
            exact nn_abs n
      · rintro H1 ⟨cs, rfl, hl2, hp2⟩
        rw [List.length_map] at hl2
        refine ⟨by rw [upd_ne stc]; exact upd_same, [(.inr "great", .ref g), (.inr "cells", .ref c), (.inr "rest", .int 0), (.inr "turn", .int 0)], rfl, (by show 4 ≤ 15; decide), ?_⟩
        have hc0 : H c = none := s0.free hc
        have hst0 : H st = none := (same_upd hg).free hst
        refine q _ st g c (same_mut (s0.trans (same_upd hc)) hst0) hst0 hg hc0 ⟨⟨gs, cs, 0, 0, upd_same, ?_, ?_, hp, hp2, by omega, by omega, Int.le_refl 0, Int.le_refl 0, Int.le_refl 0⟩, gc⟩
        · rw [upd_ne gst, upd_ne gc, upd_ne gst, upd_same]
        · rw [upd_ne (Ne.symm stc), upd_same]
/-- the four primes -/
theorem prime_of {i : Nat} {x : V} (h : ([.int 2147483629, .int 2147483587, .int 2147483579, .int 2147483563] : List V)[i]? = some x) : ∃ p : Int, x = .int p ∧ 2147483000 < p ∧ p < 2147483648 := by
  match i, h with
  | 0, h => exact ⟨_, (Option.some.inj h).symm, by decide, by decide⟩
  | 1, h => exact ⟨_, (Option.some.inj h).symm, by decide, by decide⟩
  | 2, h => exact ⟨_, (Option.some.inj h).symm, by decide, by decide⟩
  | 3, h => exact ⟨_, (Option.some.inj h).symm, by decide, by decide⟩
  | n + 4, h => simp at h
theorem pow5_nn {b : Int} (h : 0 ≤ b) : 0 ≤ b ^ (5 : Int).toNat := Int.pow_nonneg h
theorem ok_mixed {f : Addr} {fd : FuncData} (F : FunD K "_law_mixed" "_law_mixed" (defArgs s__law_mixed) (defBody s__law_mixed) (defScope s__law_mixed) [] [] f fd) (T : Bi mg) : FnOk P w K mg base CX0 1 f fd P__law_mixed spMixed := by
  refine F.ok sc__law_mixed (fun vs H Q E h => ?_) (fun cdv A outer s H vs Q E hr h => ?_)
  · obtain ⟨st, g, c, n, rfl, _⟩ := h
    rfl
  · have hu := hu_of hr
    obtain ⟨st, g, c, n, rfl, d, hn, q⟩ := h
    obtain ⟨gs, cs, r, t, h1, h2, h3, p1, p2, l1, l2, r0, t0, tn⟩ := d.ex
    refine ⟨_, PSs.nox ((pss_cons (ps_par (by rfl) sc__law_mixed.nd rfl rfl (by decide) rfl rfl (i := 1) (j := 2) (pa_cons (pe_op op_add (pe_dget hu (pv 0) pe_str (fun _ _ => rfl)) pe_int) (pa_cons pe_int pa_nil)) (by rfl))
      (pss_cons (ps_dput hu (pv 0) pe_str (pv 1) rfl)
      (pss_cons (ps_for PassesOwn.never rfl (k_pil K (pe_lst (pa_cons pe_int (pa_cons pe_int (pa_cons pe_int (pa_cons pe_int pa_nil)))))) (pg_name (i := 3) sc__law_mixed.nd rfl (.inl rfl)) (pss_cons (ps_set (i := 4) sc__law_mixed.nd rfl (.inl rfl) (pe_op op_add (pe_op op_mul pe_int (pv 1)) (pe_op op_fdiv (pv 3) pe_int)))
      (pss_cons (ps_for PassesOwn.never rfl (k_pil K (pe_dget hu (pv 0) pe_str (fun _ _ => rfl))) (pg_name (i := 5) sc__law_mixed.nd rfl (.inl rfl)) (pss_one (ps_set (i := 4) sc__law_mixed.nd rfl (.inl rfl) (pe_op op_mod (pe_callTy call_int1 (by rfl) T.n_int (by decide +kernel) (pa_cons (pe_op op_add (pe_op op_add (pe_op op_mul (pv 4) pe_int) (pv 5)) (pv 1)) pa_nil)) (pv 3)))))
      (pss_one (ps_set (i := 2) sc__law_mixed.nd rfl (.inl rfl) (pe_op op_add (pe_op op_mul (pv 2) pe_int) (pe_op op_mod (pe_callTy call_int1 (by rfl) T.n_int (by decide +kernel) (pa_cons (pe_op op_pow (pv 4) pe_int) pa_nil)) (pv 3))))))))
      (pss_one (ps_ret (pv 2))))))), ?_⟩
    -- turn, found = ..; state['turn'] = turn
    refine ⟨.ref st, rfl, st, .int t, rfl, get_turn h1, t, 1, rfl, rfl, _, _, rfl, .int (t + 1), rfl, .ref st, rfl, st, _, rfl, put_turn h1 (t + 1), ?_⟩
    have sg : g ≠ st := ne_of h2 h1 (fun z => nomatch z)
    have sc : c ≠ st := ne_of h3 h1 (fun z => nomatch z)
    have k1 : ∀ b o, H b = some o → b ≠ st → (upd H st (stD g c r (t + 1))) b = some o := fun b o e hb => by
      rw [upd_ne hb]
      exact e
    -- for prime in [..]
    refine ⟨by show 4 ≤ sizeLine; decide, fun pl hpl => ⟨pl, rfl, ⟨_, SqL.of upd_same⟩, ?_⟩⟩
    have k2 : Same (upd H st (stD g c r (t + 1))) (upd (upd H st (stD g c r (t + 1))) pl (.lst [.int 2147483629, .int 2147483587, .int 2147483579, .int 2147483563])) := same_upd hpl
    have e1 := k2 _ _ (upd_same : upd H st (stD g c r (t + 1)) st = _)
    have e3 := k2 _ _ (k1 _ _ h3 sc)
    refine for_list (K := K) (a := pl) (xs := [.int 2147483629, .int 2147483587, .int 2147483579, .int 2147483563])
      (fun i σ H' => ∃ (z : Int) (x3 x4 x5 : Option V), 0 ≤ z ∧ σ = [some (.ref st), some (.int (t + 1)), some (.int z), x3, x4, x5] ∧ H' = upd (upd H st (stD g c r (t + 1))) pl (.lst [.int 2147483629, .int 2147483587, .int 2147483579, .int 2147483563]))
      ⟨0, none, none, none, Int.le_refl 0, rfl, rfl⟩ ?_ ?_ ?_
    · rintro i σ H' _ ⟨z, x3, x4, x5, _, _, rfl⟩
      exact SqL.of upd_same
    · rintro i x σ H' hi ⟨z, x3, x4, x5, hz, rfl, rfl⟩
      obtain ⟨p, rfl, hp1, hp2⟩ := prime_of hi
      -- blend = ..
      have hb0 : 0 ≤ p / 41 := Int.ediv_nonneg (by omega) (by decide)
      have hb1 : p / 41 < 2147483648 := Int.lt_of_le_of_lt (Int.ediv_le_self _ (by omega)) hp2
      refine ⟨.int (t + 1), rfl, 69621, t + 1, rfl, rfl, .inl ⟨by decide, by decide⟩, .int p, rfl, p, 41, rfl, rfl, ⟨by decide, by decide⟩, _, _, rfl, rfl, ?_⟩
      -- for cell in state['cells']
      refine ⟨.ref st, rfl, st, .ref c, rfl, get_cells e1, c, rfl, ⟨_, SqL.of e3⟩, ?_⟩
      refine for_list (K := K) (a := c) (xs := cs.map V.int)
        (fun i σ H' => ∃ (b : Int) (x5 : Option V), 0 ≤ b ∧ b < 2 ^ 62 ∧ σ = [some (.ref st), some (.int (t + 1)), some (.int z), some (.int p), some (.int b), x5] ∧ H' = upd (upd H st (stD g c r (t + 1))) pl (.lst [.int 2147483629, .int 2147483587, .int 2147483579, .int 2147483563]))
        ⟨69621 * (t + 1) + p / 41, x5, by omega, ?_, rfl, rfl⟩ ?_ ?_ ?_
      · have h40 : (2 : Int) ^ 40 = 1099511627776 := by decide
        have h62 : (2 : Int) ^ 62 = 4611686018427387904 := by decide
        have hn' : (n : Int) < 1099511627776 := by
          have : (n : Int) < ((2 ^ 40 : Nat) : Int) := Int.ofNat_lt.mpr hn
          exact this
        omega
      · rintro j σ H' _ ⟨b, x5, _, _, _, rfl⟩
        exact SqL.of e3
      · rintro j x σ H' hj ⟨b, y5, hb, hb2, rfl, rfl⟩
        obtain ⟨m, hm, rfl⟩ := get_int hj
        have m0 : 0 ≤ m := p2 m (List.mem_of_getElem? hm)
        refine ⟨.int b, rfl, b, 48271, rfl, rfl, .inr ⟨by decide, by decide⟩, .int m, rfl, _, m, rfl, rfl, .int (t + 1), rfl, _, t + 1, rfl, rfl, .inl ⟨_, rfl, ?_⟩⟩
        refine ⟨.int p, rfl, _, p, rfl, rfl, show 0 < p by omega, (b * 48271 + m + (t + 1)) % p, _, Int.emod_nonneg _ (by omega), ?_, rfl, rfl⟩
        have := Int.emod_lt_of_pos (b * 48271 + m + (t + 1)) (show 0 < p by omega)
        have h62 : (2 : Int) ^ 62 = 4611686018427387904 := by decide
        omega
      · rintro σ H' ⟨b, y5, hb, hb2, rfl, rfl⟩
        -- found = ..
        have hpow : b.natAbs < 2 ^ 64 := by
          have h62 : (2 : Int) ^ 62 = 4611686018427387904 := by decide
          have h64 : (2 : Nat) ^ 64 = 18446744073709551616 := by decide
          omega
        refine ⟨.int z, rfl, z, 2147483659, rfl, rfl, .inr ⟨by decide, by decide⟩, .int b, rfl, b, 5, rfl, rfl, ⟨by decide, by decide, hpow⟩, .inl ⟨_, rfl, ?_⟩⟩
        refine ⟨.int p, rfl, _, p, rfl, rfl, show 0 < p by omega, _, _, rfl, rfl, _, _, _, _, ?_, rfl, rfl⟩
        have := Int.emod_nonneg (b ^ (5 : Int).toNat) (show p ≠ 0 by omega)
        omega
    · rintro σ H' ⟨z, x3, x4, x5, hz, rfl, rfl⟩
      have plst : pl ≠ st := (ne_of_none upd_same hpl).symm
      refine ⟨.int z, rfl, q _ z (fun b o e hb => k2 _ _ (k1 b o e hb)) ⟨r, t, t + 1, h1, e1⟩ ⟨⟨gs, cs, r, t + 1, e1, k2 _ _ (k1 _ _ h2 sg), e3, p1, p2, l1, l2, r0, by omega, by omega⟩, d.ne⟩ hz⟩
theorem ok_draw {f : Addr} {fd : FuncData} (F : FunD K "_law_draw" "_law_draw" (defArgs s__law_draw) (defBody s__law_draw) (defScope s__law_draw) [] [] f fd) (T : Bi mg) (C__law_mixed : Cal P w K mg base CX0 "_law_mixed" 1 P__law_mixed spMixed) : FnOk P w K mg base CX0 2 f fd P__law_draw spDraw := by
  refine F.ok sc__law_draw (fun vs H Q E h => ?_) (fun cdv A outer s H vs Q E hr h => ?_)
  · obtain ⟨st, g, c, n, room, rfl, _⟩ := h
    rfl
  · have hu := hu_of hr
    obtain ⟨st, g, c, n, room, rfl, hr0, hr1, d, hn, q⟩ := h
    obtain ⟨gs, cs, r, t, h1, h2, h3, p1, p2, l1, l2, r0, t0, tn⟩ := d.ex
    refine ⟨_, PSs.nox ((pss_cut (ps_if (pt_cmpR (k_eq K hr.units) (pe_dget hu (pv 0) pe_str (fun _ _ => rfl)) pe_int (nomark _)) (pss_one (ps_dput hu (pv 0) pe_str (pe_ifExp (pt_cmpR (k_ne K hr.units) (pe_dget hu (pv 0) pe_str (fun _ _ => rfl)) (pe_lst pa_nil) (nomark _)) (k_bm K PySem.F.plainAttrs_list PySem.F.slot_list_pop PySem.F.type_list_pop mt_popAt (pe_dget hu (pv 0) pe_str (fun _ _ => rfl)) (pa_cons pe_int pa_nil)) (pe_c C__law_mixed (hr.mono (by decide)) pass0 (pa_cons (pv 0) pa_nil))) rfl)) pss_nil)
      (pss_cons (ps_set (i := 2) sc__law_draw.nd rfl (.inl rfl) (pe_op op_mod (pe_callTy call_int1 (by rfl) T.n_int (by decide +kernel) (pa_cons (pe_dget hu (pv 0) pe_str (fun _ _ => rfl)) pa_nil)) (pv 1)))
      (pss_cons (ps_dput hu (pv 0) pe_str (pe_op op_fdiv (pe_dget hu (pv 0) pe_str (fun _ _ => rfl)) (pv 1)) rfl)
      (pss_one (ps_ret (pv 2))))))), ?_⟩
    refine ⟨fun σ H1 => σ = [some (.ref st), some (.int room), none] ∧ Kp st g H H1 ∧ Dr H1 st g c (n + 1), ?_, ?_⟩
    · -- if state['rest'] == 0
      refine ⟨.ref st, rfl, st, .int r, rfl, get_rest h1, .int r, .int 0, .int r, .int 0, rfl, rfl, _, rfl, ite2 (fun ht => ?_) fun _ => ⟨rfl, Kp.refl _ _ _, d.more (Nat.le_succ n)⟩⟩
      refine ⟨.ref st, rfl, st, .ref g, rfl, get_great h1, ?_⟩
      refine ⟨Nat.zero_le _, fun p hp => ?_⟩
      refine ne_nil (ns := gs) (SqL.of h2) hp ⟨_, rfl, ?_⟩
      have sp := same_upd (o := HO.lst []) hp
      have nst : st ≠ p := ne_of_none h1 hp
      cases gs with
      | nil =>
        refine iteF ⟨.ref st, rfl, st, g, c, n, rfl, d.same sp, hn, fun H2 z k2 ⟨r2, t2, t3, e0, e1⟩ d2 hz => ?_⟩
        refine ⟨.ref st, rfl, st, _, rfl, put_rest e1 z, rfl, fun b o e n1 n2 => ?_, ?_⟩
        · rw [upd_ne n1]
          exact k2 _ _ (sp _ _ e) n1
        · obtain ⟨gs', cs', r', t', e1', e2', e3', p1', p2', l1', l2', r0', t0', tn'⟩ := d2.ex
          have e4 := e1.symm.trans e1'
          simp only [stD, Option.some.injEq, HO.dK.injEq, List.cons.injEq, Prod.mk.injEq, V.int.injEq, true_and, and_true] at e4
          refine ⟨⟨gs', cs', z, t', by rw [upd_same, e4.2], by rw [upd_ne (ne_of e2' e1' (fun z => nomatch z))]; exact e2', by rw [upd_ne (ne_of e3' e1' (fun z => nomatch z))]; exact e3', p1', p2', l1', l2', hz, t0', tn'⟩, d2.ne⟩
      | cons x gs =>
        have h2' := sp _ _ h2
        refine iteT ⟨.ref st, rfl, st, .ref g, rfl, get_great (sp _ _ h1), .inl ⟨rfl, _, SqL.of h2'⟩, ?_⟩
        refine ⟨g, _, 0, 0, .int x, rfl, rfl, h2', by decide, by decide, by simp [seqIndex?], rfl, ?_⟩
        have sg : st ≠ g := (ne_of h2 h1 (fun z => nomatch z)).symm
        have e1 : (upd (upd H p (.lst [])) g (.lst (((x :: gs).map V.int).eraseIdx 0))) st = some (stD g c r t) := by
          rw [upd_ne sg]
          exact sp _ _ h1
        refine ⟨.ref st, rfl, st, _, rfl, put_rest e1 x, rfl, fun b o e n1 n2 => ?_, ⟨⟨gs, cs, x, t, upd_same, ?_, ?_, fun y hy => p1 y (List.mem_cons_of_mem _ hy), p2, ?_, l2, p1 x (List.mem_cons_self ..), t0, by omega⟩, d.ne⟩⟩
        · rw [upd_ne n1, upd_ne n2]
          exact sp _ _ e
        · rw [upd_ne (Ne.symm sg), upd_same]
          rfl
        · rw [upd_ne (ne_of h3 h1 (fun z => nomatch z)), upd_ne (Ne.symm d.ne)]
          exact sp _ _ h3
        · rw [List.length_cons] at l1
          omega
    · rintro σ H1 ⟨rfl, k1, d1⟩
      obtain ⟨gs', cs', r', t', e1, e2, e3, p1', p2', l1', l2', r0', t0', tn'⟩ := d1.ex
      refine ⟨.ref st, rfl, st, .int r', rfl, get_rest e1, .inl ⟨r', rfl, .int room, rfl, r', room, rfl, rfl, hr0, ?_⟩⟩
      refine ⟨.ref st, rfl, st, .int r', rfl, get_rest e1, .int room, rfl, r', room, rfl, rfl, ⟨hr0, hr1⟩, .ref st, rfl, st, _, rfl, put_rest e1 (r' / room), ?_⟩
      have sg : g ≠ st := ne_of e2 e1 (fun z => nomatch z)
      have sc : c ≠ st := ne_of e3 e1 (fun z => nomatch z)
      refine ⟨_, rfl, q _ (r' % room) (fun b o e n1 n2 => by rw [upd_ne n1]; exact k1 b o e n1 n2) ⟨⟨gs', cs', r' / room, t', upd_same, by rw [upd_ne sg]; exact e2, by rw [upd_ne sc]; exact e3, p1', p2', l1', l2', Int.ediv_nonneg r0' (by omega), t0', tn'⟩, d1.ne⟩ (Int.emod_nonneg _ (by omega)) (Int.emod_lt_of_pos _ hr0)⟩
end

/-! ### what a law's own look at values is -/
def spPlain (m : Nat) : Sp := fun vs H Q _ => ∃ (v : V) (d : PyData), vs = [v] ∧ Tr H v d ∧ d.depth < m ∧ ∀ H', Same H H' → Q (.bl true) H'
def spIs (m : Nat) : Sp := fun vs H Q _ => ∃ (x y : V) (d : PyData), vs = [x, y] ∧ Tr H x d ∧ Tr H y d ∧ Plain d = true ∧ Ints12 d = true ∧ d.bulk ≤ 2 ^ 20 ∧ d.depth < m ∧ m ≤ 60 ∧ ∀ H', Same H H' → Q (.bl true) H'
theorem all_get {H : Hp} {xs : List V} {ds : List PyData} {i : Nat} {v : V} (h : TrAll H xs ds) (e : xs[i]? = some v) : ∃ d, Tr H v d ∧ d.depth ≤ PyData.depthAll ds := by
  induction ds generalizing xs i with
  | nil =>
    cases h
    simp at e
  | cons d ds ih =>
    cases h with
    | cons h1 h2 =>
      rw [PyData.depthAll]
      cases i with
      | zero =>
        cases (Option.some.inj (show some _ = some _ from e))
        exact ⟨d, h1, Nat.le_max_left _ _⟩
      | succ i =>
        obtain ⟨d', a, b⟩ := ih h2 e
        exact ⟨d', a, Nat.le_trans b (Nat.le_max_right _ _)⟩
theorem no_dict : ∀ {H : Hp} {v : V} {d : PyData}, Tr H v d → d.hasDict = false := by
  intro H v d h
  exact Tr.rec (motive_1 := fun v d _ => d.hasDict = false) (motive_2 := fun vs ds _ => PyData.hasDictAll ds = false)
    (by simp [PyData.hasDict]) (fun _ => by simp [PyData.hasDict]) (fun _ => by simp [PyData.hasDict]) (fun _ => by simp [PyData.hasDict]) (fun _ _ ih => by rw [PyData.hasDict]; exact ih)
    (by simp [PyData.hasDictAll]) (fun _ _ h1 h2 => by rw [PyData.hasDictAll, h1, h2]; rfl) h
section
variable {P : Program} {w : World} {K : PySem.W.Frag} {mg : PySem.Str → Option Value} {base : Heap}
theorem kit2 {t a b : String} {r : Bool} (h1 : kitB t a = some false) (h2 : kitB t b = some r) : PySem.W.kitAny K (.type t) [.type a, .type b] = some r :=
  kitAny_cons (kit_ty h1) (fun _ => kitAny_cons (kit_ty h2) (fun z => by rw [z]; exact kitAny_nil) (fun z => z)) (fun z => by cases z)
theorem kit2' {t a b : String} (h1 : kitB t a = some true) : PySem.W.kitAny K (.type t) [.type a, .type b] = some true :=
  kitAny_cons (r := true) (kit_ty h1) (fun z => by cases z) (fun _ => rfl)
/-- a tuple, or a flat thing by its type's name -/
theorem tr_kind {H : Hp} {v : V} {d : PyData} (hd : Tr H v d) : (∃ a xs ds, v = .ref a ∧ H a = some (.tup xs) ∧ d = .tuple ds ∧ TrAll H xs ds) ∨
    ∃ t : String, (∀ H', TyOf K H' v (.type t)) ∧ kitB t "list" = some false ∧ kitB t "tuple" = some false ∧ kitB t "dict" = some false ∧ (v = .non ∨ (decide (v = .non) = false ∧ (kitB t "int" = some true ∨ kitB t "int" = some false ∧ kitB t "str" = some true))) := by
  cases hd with
  | non => exact .inr ⟨"NoneType", fun _ => .non, by decide +kernel, by decide +kernel, by decide +kernel, .inl rfl⟩
  | bl b => exact .inr ⟨"bool", fun _ => .bl b, by decide +kernel, by decide +kernel, by decide +kernel, .inr ⟨rfl, .inl (by decide +kernel)⟩⟩
  | int i => exact .inr ⟨"int", fun _ => .int i, by decide +kernel, by decide +kernel, by decide +kernel, .inr ⟨rfl, .inl (by decide +kernel)⟩⟩
  | str x => exact .inr ⟨"str", fun _ => .str x, by decide +kernel, by decide +kernel, by decide +kernel, .inr ⟨rfl, .inr ⟨by decide +kernel, by decide +kernel⟩⟩⟩
  | @tup a xs ds ha hall => exact .inl ⟨a, xs, ds, rfl, ha, rfl, hall⟩
theorem ok_plain {f : Addr} {fd : FuncData} (F : FunD K "_law_plain" "_law_plain" (defArgs s__law_plain) (defBody s__law_plain) (defScope s__law_plain) [] [] f fd) (gl : mg "_law_plain" = some (.ref f)) (T : Bi mg) : ∀ m, FnOk P w K mg base CX0 m f fd P__law_plain (spPlain m)
  | 0 => ⟨fun vs H Q E ⟨_, _, e, _⟩ => by rw [e]; rfl, fun _ _ _ _ _ _ _ _ _ _ _ _ _ ⟨_, _, _, _, z, _⟩ => absurd z (Nat.not_lt_zero _)⟩
  | m + 1 => by
    have C__law_plain : Cal P w K mg base CX0 "_law_plain" m P__law_plain (spPlain m) := cal_of F gl (ok_plain F gl T m) (fun _ _ _ _ _ _ us hl => match us, hl with | [_], _ => rfl)
    refine F.ok sc__law_plain (fun vs H Q E h => ?_) (fun cdv A outer s H vs Q E hr h => ?_)
    · obtain ⟨v, d, rfl, _⟩ := h
      rfl
    · have hu := hu_of hr
      obtain ⟨v, d, rfl, hd, hm, q⟩ := h
      refine ⟨_, PSs.nox ((pss_cons (ps_if (pt_val (pe_callB (k_isiT K) (by rfl) T.n_isinstance (by decide +kernel) (pa_cons (pv 0) (pa_cons (pe_tup (pa_cons (pe_bltn (v := .ty "list") (by rfl) T.n_list (by decide +kernel) rfl) (pa_cons (pe_bltn (v := .ty "tuple") (by rfl) T.n_tuple (by decide +kernel) rfl) pa_nil))) pa_nil)))) (pss_one (ps_ret (pe_cmpR (k_eq K hr.units) (pe_lc (own := [("one", 1)]) (g := gName 1) rfl sc__law_plain.nd (k_pit K (pv 0)) (blkOk_by (N := N__law_plain) (sc := defScope s__law_plain) (by decide +kernel)) (fun _ _ _ _ _ => (pg_name (i := 1) sc__law_plain.nd rfl (.inl rfl))) (fun _ _ _ _ _ => (pts_one (pt_not (pt_val (pe_c C__law_plain hr pass0 (pa_cons (pv 1) pa_nil)))))) (fun _ _ _ _ _ => pe_int)) (pe_lst pa_nil) (nomark _)))) pss_nil)
      (pss_cons (ps_if (pt_val (pe_callB (k_isi K) (by rfl) T.n_isinstance (by decide +kernel) (pa_cons (pv 0) (pa_cons (pe_bltn (v := .ty "dict") (by rfl) T.n_dict (by decide +kernel) rfl) pa_nil)))) (pss_one ps_never) pss_nil)
      (pss_one (ps_ret (pe_or (pe_cmpR op_isN (pv 0) pe_non (nomark _)) (pe_one (pe_callB (k_isiT K) (by rfl) T.n_isinstance (by decide +kernel) (pa_cons (pv 0) (pa_cons (pe_tup (pa_cons (pe_bltn (v := .ty "int") (by rfl) T.n_int (by decide +kernel) rfl) (pa_cons (pe_bltn (v := .ty "str") (by rfl) T.n_str (by decide +kernel) rfl) pa_nil))) pa_nil)))))))))), ?_⟩
      rcases tr_kind (K := K) hd with ⟨a, xs, ds, rfl, ha, rfl, hall⟩ | ⟨t, tys, k1, k2, k3, hv⟩
      · refine ⟨.ref a, rfl, (by show 2 ≤ sizeLine; decide), fun tp htp => ⟨.ref a, tp, [.ty "list", .ty "tuple"], .type "tuple", [.type "list", .type "tuple"], true, rfl, upd_same, .cons (.ty _) (.cons (.ty _) .nil), .base (.tup ((same_upd htp) _ _ ha)), kit2 (by decide +kernel) (by decide +kernel), true, rfl, iteT ?_⟩⟩
        have s1 := same_upd (o := HO.tup [.ty "list", .ty "tuple"]) htp
        refine ⟨.ref a, rfl, a, rfl, ⟨xs, SqT.of (s1 _ _ ha)⟩, fun D hD => ?_⟩
        have s2 : Same H (upd (upd H tp (.tup [.ty "list", .ty "tuple"])) D (.lst [])) := s1.trans (same_upd hD)
        refine lc_tup (K := K) (a := a) (xs := xs) (fun i H' => H' D = some (.lst []) ∧ Same H H') ⟨upd_same, s2⟩ (fun i H' _ p => SqT.of (p.2 _ _ ha)) ?_ ?_
        · rintro i x H' hi ⟨h1, h2⟩
          obtain ⟨d', hx, hdep⟩ := all_get hall hi
          refine ⟨rfl, x, rfl, x, d', rfl, hx.mono (Same.tu h2), ?_, fun H2 k2 => ⟨true, rfl, iteF ⟨k2 _ _ h1, h2.trans k2⟩⟩⟩
          rw [PyData.depth] at hm
          omega
        · rintro H' ⟨h1, h2⟩
          refine ⟨Nat.zero_le _, fun p hp => ?_⟩
          exact eq_nil (ns := []) (SqL.of h1) hp (q _ (h2.trans (same_upd hp)))
      · refine ⟨v, rfl, (by show 2 ≤ sizeLine; decide), fun tp htp => ⟨v, tp, [.ty "list", .ty "tuple"], .type t, [.type "list", .type "tuple"], false, rfl, upd_same, .cons (.ty _) (.cons (.ty _) .nil), .base (tys _), kit2 k1 k2, false, rfl, iteF ?_⟩⟩
        have s1 := same_upd (o := HO.tup [.ty "list", .ty "tuple"]) htp
        refine ⟨v, rfl, v, .ty "dict", .type t, .type "dict", false, rfl, .ty _, .base (tys _), kit_ty k3, false, rfl, iteF ?_⟩
        refine ⟨v, rfl, rfl, _, rfl, ?_⟩
        rcases hv with rfl | ⟨hv, hi⟩
        · exact iteT (q _ s1)
        · rw [hv]
          refine iteF ⟨v, rfl, (by show 2 ≤ sizeLine; decide), fun tq htq => ?_⟩
          have s2 := s1.trans (same_upd (o := HO.tup [.ty "int", .ty "str"]) htq)
          refine ⟨v, tq, [.ty "int", .ty "str"], .type t, [.type "int", .type "str"], true, rfl, upd_same, .cons (.ty _) (.cons (.ty _) .nil), .base (tys _), ?_, q _ s2⟩
          rcases hi with hi | ⟨hi, hj⟩
          · exact kit2' hi
          · exact kit2 hi hj
theorem ok_is {f : Addr} {fd : FuncData} {m : Nat} (F : FunD K "_law_is" "_law_is" (defArgs s__law_is) (defBody s__law_is) (defScope s__law_is) [] [] f fd) (T : Bi mg) (C__law_plain : Cal P w K mg base CX0 "_law_plain" m P__law_plain (spPlain m)) : FnG P w K mg base CX0 (m + 1) f fd P__law_is (spIs m) := by
  refine okG F sc__law_is (fun vs H Q E h => ?_) (fun cdv A outer s H vs Q E hgd hr h => ?_)
  · obtain ⟨x, y, d, rfl, _⟩ := h
    rfl
  · have hu := hu_of hr
    obtain ⟨x, y, d, rfl, hx, hy, hp, h12, hbk, hm, hm60, q⟩ := h
    have hs := (Ints12.show d h12).1
    have hz := shown_short hp h12 hbk
    refine ⟨_, PSs.nox ((pss_one (ps_ret (pe_and (pe_c C__law_plain hr pass0 (pa_cons (pv 0) pa_nil)) (pe_and (pe_cmpR (k_eq K hr.units) (pv 0) (pv 1) (nomark _)) (pe_and (pe_cmpR (k_eq K hr.units) (pv 1) (pv 0) (nomark _)) (pe_one (pe_cmpR op_eq (pe_callB (k_repr K hgd (room101 hr)) (by rfl) T.n_repr (by decide +kernel) (pa_cons (pv 0) pa_nil)) (pe_callB (k_repr K hgd (room101 hr)) (by rfl) T.n_repr (by decide +kernel) (pa_cons (pv 1) pa_nil)) (nomark _))))))))), ?_⟩
    have sh := shaped_of hp (by omega)
    refine ⟨x, rfl, x, d, rfl, hx, hm, fun H1 k1 => ⟨true, rfl, iteT ?_⟩⟩
    have hx1 := hx.mono (Same.tu k1)
    have hy1 := hy.mono (Same.tu k1)
    refine ⟨x, rfl, y, rfl, d, d, hx1.dp, hy1.dp, sh, sh, true, by rw [eqv_same hp], iteT ?_⟩
    refine ⟨y, rfl, x, rfl, d, d, hy1.dp, hx1.dp, sh, sh, true, by rw [eqv_same hp], iteT ?_⟩
    refine ⟨x, rfl, x, d, rfl, hx1.dp, hs, no_dict hx1, by omega, hz, ?_⟩
    refine ⟨y, rfl, y, d, rfl, hy1.dp, hs, no_dict hx1, by omega, hz, rfl, ?_⟩
    rw [decide_eq_true rfl]
    exact q _ k1
end

/-! ### what the law makes -/
def spPick : Sp := fun vs H Q _ => ∃ (st g c p : Addr) (n : Nat) (xs : List V), vs = [.ref st, .ref p] ∧ H p = some (.lst xs) ∧ p ≠ g ∧ xs ≠ [] ∧ xs.length ≤ 1000 ∧ Dr H st g c n ∧ n < 2 ^ 40 ∧
  ∀ (H' : Hp) (i : Nat) (x : V), xs[i]? = some x → Kp st g H H' → Dr H' st g c (n + 1) → Q x H'
/-- draws, size of a value of such a height -/
def nd : Nat → Nat
  | 0 => 2
  | n + 1 => 3 + 3 * nd n
def szb : Nat → Nat
  | 0 => 13
  | n + 1 => 13 + 3 * szb n
/-- signs of its text -/
def wb : Nat → Nat
  | 0 => 12
  | n + 1 => 12 + 3 * wb n
def spVal (m : Nat) : Sp := fun vs H Q _ => ∃ (st g c : Addr) (n : Nat), vs = [.ref st, .int (m : Nat)] ∧ Dr H st g c n ∧ n + nd m < 2 ^ 40 ∧
  ∀ H' v d, Kp st g H H' → Dr H' st g c (n + nd m) → Tr H' v d → okT (m + 1) d → sz d ≤ szb m ∧ (wr d).length ≤ wb m → Q v H'
def spWritten (m : Nat) : Sp := fun vs H Q _ => ∃ (v : V) (d : PyData), vs = [v] ∧ Tr H v d ∧ okT m d ∧ (wr d).length ≤ 1000000 ∧ ∀ H', Same H H' → Q (.str ⟨(wr d).toArray⟩) H'
theorem wr_mem {xs : List PyData} {x : PyData} (h : x ∈ xs) : (wr x).length ≤ (wrAll xs).length := by
  have rest : ∀ ys : List PyData, x ∈ ys → (wr x).length ≤ (wrRest ys).length := by
    intro ys
    induction ys with
    | nil => intro h; cases h
    | cons y ys ih =>
      intro h
      rw [wrRest, List.length_cons, List.length_append]
      rcases List.mem_cons.mp h with e | e
      · rw [e]
        omega
      · have := ih e
        omega
  cases xs with
  | nil => cases h
  | cons y ys =>
    rw [wrAll, List.length_append]
    rcases List.mem_cons.mp h with e | e
    · rw [e]
      omega
    · have := rest ys e
      omega
theorem szAll_le {b : Nat} : ∀ {ds : List PyData}, (∀ d ∈ ds, sz d ≤ b) → szAll ds ≤ ds.length * b
  | [], _ => by simp [szAll]
  | d :: ds, h => by
    have h1 := h d (List.mem_cons_self ..)
    have h2 := szAll_le (ds := ds) fun x hx => h x (List.mem_cons_of_mem _ hx)
    rw [szAll, List.length_cons, Nat.add_mul]
    omega
theorem wb_pos (m : Nat) : 12 ≤ wb m := by
  cases m with
  | zero => exact Nat.le_refl 12
  | succ n =>
    rw [wb]
    omega
theorem wrAll_le {b : Nat} {ds : List PyData} (h : ∀ d ∈ ds, (wr d).length ≤ b) : (wrAll ds).length ≤ ds.length * (b + 1) := by
  have rest : ∀ ys : List PyData, (∀ d ∈ ys, (wr d).length ≤ b) → (wrRest ys).length ≤ ys.length * (b + 1) := by
    intro ys
    induction ys with
    | nil => intro _; simp [wrRest]
    | cons y ys ih =>
      intro hy
      have h1 := hy y (List.mem_cons_self ..)
      have h2 := ih fun d hd => hy d (List.mem_cons_of_mem _ hd)
      rw [wrRest, List.length_cons, List.length_append, List.length_cons, Nat.add_mul]
      omega
  cases ds with
  | nil => simp [wrAll]
  | cons y ys =>
    have h1 := h y (List.mem_cons_self ..)
    have h2 := rest ys fun d hd => h d (List.mem_cons_of_mem _ hd)
    rw [wrAll, List.length_append, List.length_cons, Nat.add_mul]
    omega
theorem nd_pos (m : Nat) : 2 ≤ nd m := by
  cases m with
  | zero => exact Nat.le_refl 2
  | succ n =>
    rw [nd]
    omega
theorem szb_pos (m : Nat) : 13 ≤ szb m := by
  cases m <;> simp [szb]
/-- the leaves that are picked -/
theorem pick_leaf {H : Hp} {e : Addr} {i : Nat} {x : V} (he : H e = some (.tup []))
    (h : ([.str (PySem.Str.ofString "a"), .str (PySem.Str.ofString "run"), .str (PySem.Str.ofString "likes"), .str (PySem.Str.ofString "zzzzzzzzzzzz"), .int 0, .int 1, .int 42, .int ((10 : Int) ^ (12 : Int).toNat - 1), .non, .ref e] : List V)[i]? = some x) (m : Nat) : ∃ d, Tr H x d ∧ okT (m + 1) d ∧ sz d ≤ 13 ∧ (wr d).length ≤ 12 := by
  match i, h with
  | 0, h => cases h; exact ⟨_, .str _, (show leaf _ = true by decide +kernel), by decide +kernel, by decide +kernel⟩
  | 1, h => cases h; exact ⟨_, .str _, (show leaf _ = true by decide +kernel), by decide +kernel, by decide +kernel⟩
  | 2, h => cases h; exact ⟨_, .str _, (show leaf _ = true by decide +kernel), by decide +kernel, by decide +kernel⟩
  | 3, h => cases h; exact ⟨_, .str _, (show leaf _ = true by decide +kernel), by decide +kernel, by decide +kernel⟩
  | 4, h => cases h; exact ⟨_, .int _, (show leaf _ = true by decide +kernel), by decide +kernel, by decide +kernel⟩
  | 5, h => cases h; exact ⟨_, .int _, (show leaf _ = true by decide +kernel), by decide +kernel, by decide +kernel⟩
  | 6, h => cases h; exact ⟨_, .int _, (show leaf _ = true by decide +kernel), by decide +kernel, by decide +kernel⟩
  | 7, h => cases h; exact ⟨_, .int _, (show leaf _ = true by decide +kernel), by decide +kernel, by decide +kernel⟩
  | 8, h => cases h; exact ⟨_, .non, (show leaf _ = true by decide +kernel), by decide +kernel, by decide +kernel⟩
  | 9, h => cases h; exact ⟨_, .tup he .nil, (fun x hx => by cases hx), by decide +kernel, by decide +kernel⟩
  | n + 10, h => simp at h
theorem atI_nat {α : Type} {l : List α} {z : Int} (h0 : 0 ≤ z) (h : z < l.length) : ∃ (i : Nat) (x : α), l[i]? = some x ∧ atI l z = some x := by
  have hn : z.toNat < l.length := by omega
  refine ⟨z.toNat, l[z.toNat], List.getElem?_eq_getElem hn, ?_⟩
  unfold atI ixN
  rw [if_pos h0, if_pos h]
  simp [hn]
/-- a leaf is picked -/
theorem val_pick {H : Hp} {st g c : Addr} {n : Nat} (d : Dr H st g c n) (hn : n < 2 ^ 40) (m : Nat) {Q : VK} {E : XK} (q : ∀ H' v d, Kp st g H H' → Dr H' st g c (n + 1) → Tr H' v d → okT (m + 1) d → sz d ≤ 13 ∧ (wr d).length ≤ 12 → Q v H') :
    ∀ e, H e = none → 10 ≤ sizeLine ∧ ∀ p, (upd H e (.tup [])) p = none → spPick [.ref st, .ref p] (upd (upd H e (.tup [])) p (.lst [.str (PySem.Str.ofString "a"), .str (PySem.Str.ofString "run"), .str (PySem.Str.ofString "likes"), .str (PySem.Str.ofString "zzzzzzzzzzzz"), .int 0, .int 1, .int 42, .int ((10 : Int) ^ (12 : Int).toNat - 1), .non, .ref e])) Q E := by
  intro e he
  refine ⟨le_line (by decide), fun p hp => ?_⟩
  have nep : e ≠ p := ne_of_none upd_same hp
  have s2 : Same H (upd (upd H e (.tup [])) p (.lst [.str (PySem.Str.ofString "a"), .str (PySem.Str.ofString "run"), .str (PySem.Str.ofString "likes"), .str (PySem.Str.ofString "zzzzzzzzzzzz"), .int 0, .int 1, .int 42, .int ((10 : Int) ^ (12 : Int).toNat - 1), .non, .ref e])) := (same_upd he).trans (same_upd hp)
  obtain ⟨f1, f2, f3⟩ := d.free ((same_upd he).free hp)
  obtain ⟨g1, g2, g3⟩ := d.free he
  refine ⟨st, g, c, p, n, _, rfl, upd_same, f2, by simp, (by show 10 ≤ 1000; decide), d.same s2, hn, fun H' i x hx k d' => ?_⟩
  obtain ⟨dd, t1, t2, t3⟩ := pick_leaf (H := H') (k _ _ (show _ = some (HO.tup []) by rw [upd_ne nep, upd_same]) g1 g2) hx m
  exact q H' x dd ((Kp.of_same s2).trans k) d' t1 t2 t3
section
variable {P : Program} {w : World} {K : PySem.W.Frag} {mg : PySem.Str → Option Value} {base : Heap}
theorem ok_pick {f : Addr} {fd : FuncData} (F : FunD K "_law_pick" "_law_pick" (defArgs s__law_pick) (defBody s__law_pick) (defScope s__law_pick) [] [] f fd) (T : Bi mg) (C__law_draw : Cal P w K mg base CX0 "_law_draw" 2 P__law_draw spDraw) : FnOk P w K mg base CX0 3 f fd P__law_pick spPick := by
  refine F.ok sc__law_pick (fun vs H Q E h => ?_) (fun cdv A outer s H vs Q E hr h => ?_)
  · obtain ⟨st, g, c, p, n, xs, rfl, _⟩ := h
    rfl
  · have hu := hu_of hr
    obtain ⟨st, g, c, p, n, xs, rfl, hp, npg, hne, hl, d, hn, q⟩ := h
    refine ⟨_, PSs.nox ((pss_one (ps_ret (pe_ix (k_ix K) (pv 1) (pe_c C__law_draw (hr.mono (by decide)) pass0 (pa_cons (pv 0) (pa_cons (pe_callB (k_len K) (by rfl) T.n_len (by decide +kernel) (pa_cons (pv 1) pa_nil)) pa_nil))) (fun _ _ => rfl))))), ?_⟩
    have hl0 := List.length_pos_iff.mpr hne
    have nps : p ≠ st := by
      obtain ⟨gs, cs, r, t, e1, _⟩ := d.ex
      exact ne_of hp e1 (fun z => nomatch z)
    refine ⟨.ref p, rfl, .ref st, rfl, .ref p, rfl, .ref p, xs.length, rfl, .inl ⟨xs, SqL.of hp, rfl⟩, st, g, c, n, (xs.length : Nat), rfl, by omega, by omega, d, hn, fun H' z k d' h0 h1 => ?_⟩
    obtain ⟨i, x, hx, he⟩ := atI_nat (l := xs) h0 h1
    exact .inl ⟨p, xs, z, x, rfl, rfl, SqL.of (k _ _ hp nps npg), he, q H' i x hx k d'⟩
theorem ok_val {f : Addr} {fd : FuncData} (F : FunD K "_law_value" "_law_value" (defArgs s__law_value) (defBody s__law_value) (defScope s__law_value) [] [] f fd) (gl : mg "_law_value" = some (.ref f)) (T : Bi mg)
    (C__law_draw : Cal P w K mg base CX0 "_law_draw" 2 P__law_draw spDraw) (C__law_pick : Cal P w K mg base CX0 "_law_pick" 3 P__law_pick spPick) : ∀ m, FnOk P w K mg base CX0 (4 + m) f fd P__law_value (spVal m)
  | 0 => by
    have C__law_value : Cal P w K mg base CX0 "_law_value" 3 P__law_value (fun _ _ _ _ => False) := cal_of F gl ⟨fun _ _ _ _ z => z.elim, fun _ _ _ _ _ _ _ _ _ _ _ _ _ z => z.elim⟩ (fun _ _ _ _ _ _ us hl => match us, hl with | [_, _], _ => rfl)
    refine F.ok sc__law_value (fun vs H Q E h => ?_) (fun cdv A outer s H vs Q E hr h => ?_)
    · obtain ⟨st, g, c, n, rfl, _⟩ := h
      rfl
    · have hu := hu_of hr
      obtain ⟨st, g, c, n, rfl, d, hn, q⟩ := h
      refine ⟨_, PSs.nox ((pss_cons (ps_if (PW.pt (pw_or (pt_cmpR op_eq (pv 1) pe_int (nomark _)) (pw_or1 (pt_cmpR op_eq (pe_c C__law_draw (hr.mono (by omega)) pass0 (pa_cons (pv 0) (pa_cons pe_int pa_nil))) pe_int (nomark _))))) (pss_one (ps_ret (pe_c C__law_pick (hr.mono (by omega)) pass0 (pa_cons (pv 0) (pa_cons (pe_lst (pa_cons pe_str (pa_cons pe_str (pa_cons pe_str (pa_cons pe_str (pa_cons pe_int (pa_cons pe_int (pa_cons pe_int (pa_cons (pe_op op_sub (pe_op op_pow pe_int pe_int) pe_int) (pa_cons pe_non (pa_cons (pe_tup pa_nil) pa_nil))))))))))) pa_nil))))) pss_nil)
      (pss_one (ps_ret (pe_callTy (k_tuple K) (by rfl) T.n_tuple (by decide +kernel) (pa_cons (pe_lc (own := [("lap", 2)]) (g := gName 2) (tt := tYes) rfl sc__law_value.nd (pi_range1 (by rfl) T.n_range (pa_cons (pe_c C__law_draw (hr.mono (by omega)) pass0 (pa_cons (pv 0) (pa_cons pe_int pa_nil))) pa_nil)) (blkOk_by (N := N__law_value) (sc := defScope s__law_value) (by decide +kernel)) (fun _ _ _ _ _ => (pg_name (i := 2) sc__law_value.nd rfl (.inl rfl))) (fun _ _ _ _ _ => pts_nil) (fun _ _ _ _ _ => (pe_c C__law_value hr pass0 (pa_cons (pv 0) (pa_cons (pe_op op_sub (pv 1) pe_int) pa_nil))))) pa_nil)))))), ?_⟩
      refine ⟨_, rfl, rfl, _, rfl, ite2 (fun _ => ?_) fun hc => absurd (by rfl) hc⟩
      refine iteT ⟨.ref st, rfl, 10, 12, rfl, rfl, ⟨by decide, by decide, by decide⟩, _, 1, rfl, rfl, Nat.zero_le _, fun e he => ?_⟩
      exact val_pick (E := fun _ _ _ => False) d (by omega) 0 (fun H' v dd k d' t1 t2 t3 => q H' v dd k (d'.more (by simp only [nd]; omega)) t1 t2 t3) e he
  | m + 1 => by
    have C__law_value : Cal P w K mg base CX0 "_law_value" (4 + m) P__law_value (spVal m) := cal_of F gl (ok_val F gl T C__law_draw C__law_pick m) (fun _ _ _ _ _ _ us hl => match us, hl with | [_, _], _ => rfl)
    refine F.ok (k := 4 + m) sc__law_value (fun vs H Q E h => ?_) (fun cdv A outer s H vs Q E hr h => ?_)
    · obtain ⟨st, g, c, n, rfl, _⟩ := h
      rfl
    · have hu := hu_of hr
      obtain ⟨st, g, c, n, rfl, d, hn, q⟩ := h
      refine ⟨_, PSs.nox ((pss_cons (ps_if (PW.pt (pw_or (pt_cmpR op_eq (pv 1) pe_int (nomark _)) (pw_or1 (pt_cmpR op_eq (pe_c C__law_draw (hr.mono (by omega)) pass0 (pa_cons (pv 0) (pa_cons pe_int pa_nil))) pe_int (nomark _))))) (pss_one (ps_ret (pe_c C__law_pick (hr.mono (by omega)) pass0 (pa_cons (pv 0) (pa_cons (pe_lst (pa_cons pe_str (pa_cons pe_str (pa_cons pe_str (pa_cons pe_str (pa_cons pe_int (pa_cons pe_int (pa_cons pe_int (pa_cons (pe_op op_sub (pe_op op_pow pe_int pe_int) pe_int) (pa_cons pe_non (pa_cons (pe_tup pa_nil) pa_nil))))))))))) pa_nil))))) pss_nil)
      (pss_one (ps_ret (pe_callTy (k_tuple K) (by rfl) T.n_tuple (by decide +kernel) (pa_cons (pe_lc (own := [("lap", 2)]) (g := gName 2) (tt := tYes) rfl sc__law_value.nd (pi_range1 (by rfl) T.n_range (pa_cons (pe_c C__law_draw (hr.mono (by omega)) pass0 (pa_cons (pv 0) (pa_cons pe_int pa_nil))) pa_nil)) (blkOk_by (N := N__law_value) (sc := defScope s__law_value) (by decide +kernel)) (fun _ _ _ _ _ => (pg_name (i := 2) sc__law_value.nd rfl (.inl rfl))) (fun _ _ _ _ _ => pts_nil) (fun _ _ _ _ _ => (pe_c C__law_value hr pass0 (pa_cons (pv 0) (pa_cons (pe_op op_sub (pv 1) pe_int) pa_nil))))) pa_nil)))))), ?_⟩
      have hnd : nd (m + 1) = 3 + 3 * nd m := rfl
      refine ⟨_, rfl, rfl, _, rfl, ite2 (fun hc => ?_) fun hc => ?_⟩
      · exfalso
        have := of_decide_eq_true hc
        injection this with this
        omega
      · refine ⟨.ref st, rfl, st, g, c, n, 3, rfl, by decide, by decide, d, by omega, fun H1 z k1 d1 z0 z3 => ⟨rfl, _, rfl, ite2 (fun hz => ?_) fun hz => ?_⟩⟩
        · refine ⟨.ref st, rfl, 10, 12, rfl, rfl, ⟨by decide, by decide, by decide⟩, _, 1, rfl, rfl, Nat.zero_le _, fun e he => ?_⟩
          have hb := szb_pos (m + 1)
          have hb2 := wb_pos (m + 1)
          exact val_pick (E := fun _ _ _ => False) d1 (by omega) (m + 1) (fun H' v dd k d' t1 t2 t3 => q H' v dd (k1.trans k) (d'.more (by omega)) t1 t2 (by omega)) e he
        · refine ⟨.ref st, rfl, st, g, c, n + 1, 4, rfl, by decide, by decide, d1, by omega, fun H2 z2 k2 d2 y0 y4 => ?_⟩
          refine ⟨z2, rfl, by omega, by omega, fun D hD => ?_⟩
          obtain ⟨f1, f2, f3⟩ := d2.free hD
          refine lc_range (lo := 0) (n := z2.toNat) (fun i H' => ∃ (vs : List V) (ds : List PyData), H' D = some (.lst vs) ∧ TrAll H' vs ds ∧ vs.length = i ∧ (∀ x ∈ ds, okT (m + 1) x ∧ sz x ≤ szb m ∧ (wr x).length ≤ wb m) ∧ Kp st g H2 H' ∧ Dr H' st g c (n + 2 + i * nd m))
            ⟨[], [], upd_same, .nil, rfl, (fun x hx => by cases hx), Kp.of_same (same_upd hD), by simpa using d2.same (same_upd hD)⟩ ?_ ?_
          · rintro i H' hi ⟨vs, ds, h1, h2, h3, h4, h5, h6⟩
            have hi3 : i ≤ 2 := by omega
            have hmul : i * nd m ≤ 2 * nd m := Nat.mul_le_mul_right _ hi3
            refine ⟨rfl, yes ⟨.ref st, rfl, _, rfl, _, 1, rfl, rfl, ?_⟩⟩
            refine ⟨st, g, c, n + 2 + i * nd m, ?_, h6, by omega, fun H3 v x k3 d3 t1 t2 t3 => ?_⟩
            · have e : ((m + 1 : Nat) : Int) - 1 = (m : Nat) := by omega
              show ([V.ref st, V.int (((m + 1 : Nat) : Int) - 1)] : List V) = _
              rw [e]
            · have h13 := k3 _ _ h1 f1 f2
              have tu3 : Tu H' H3 := h6.tu k3
              have tu4 : Tu H3 (upd H3 D (.lst (vs ++ [v]))) := fun b xs e => by
                rw [upd_ne (ne_of e h13 (fun z => nomatch z))]
                exact e
              refine ⟨vs, h13, small1000 (by omega), vs ++ [v], ds ++ [x], upd_same, trAll_app ((h2.mono tu3).mono tu4) (.cons (t1.mono tu4) .nil), by rw [List.length_append, h3]; rfl, ?_, ?_, ?_⟩
              · intro y hy
                rcases List.mem_append.mp hy with z | z
                · exact h4 y z
                · rw [List.mem_singleton.mp z]
                  exact ⟨t2, t3⟩
              · intro b o e n1 n2
                have e3 := (h5.trans k3) b o e n1 n2
                rw [upd_ne (fun z => by rw [z, hD] at e; cases e)]
                exact e3
              · have e : n + 2 + (i + 1) * nd m = n + 2 + i * nd m + nd m := by
                  rw [Nat.add_mul]
                  omega
                rw [e]
                exact d3.mut f1 f2 f3
          · rintro H' ⟨vs, ds, h1, h2, h3, h4, h5, h6⟩
            have hl3 : z2.toNat ≤ 3 := by omega
            have hmul : z2.toNat * nd m ≤ 3 * nd m := Nat.mul_le_mul_right _ hl3
            refine ⟨D, vs, rfl, .inl ⟨SqL.of h1, fun p hp => ?_⟩⟩
            have hlen := h2.length
            have hszs := szAll_le (b := szb m) fun x hx => (h4 x hx).2.1
            have hwrs := wrAll_le (b := wb m) fun x hx => (h4 x hx).2.2
            have hw3 : ds.length * (wb m + 1) ≤ 3 * (wb m + 1) := Nat.mul_le_mul_right _ (by omega)
            have hm3 : ds.length * szb m ≤ 3 * szb m := Nat.mul_le_mul_right _ (by omega)
            have k6 : Kp st g H (upd H' p (.tup vs)) := ((k1.trans k2).trans h5).trans (Kp.of_same (same_upd hp))
            refine q _ (.ref p) (.tuple ds) k6 ((h6.more (by omega)).same (same_upd hp)) (.tup upd_same (h2.mono (Same.tu (same_upd hp)))) (fun x hx => (h4 x hx).1) ?_
            refine ⟨?_, ?_⟩
            · rw [sz]
              show szAll ds + 1 ≤ 13 + 3 * szb m
              omega
            · rw [wr, List.length_cons, List.length_append, List.length_singleton]
              show (wrAll ds).length + 1 + 1 ≤ 12 + 3 * wb m
              omega
end

end K76



set_option Elab.async false
set_option linter.all false
set_option maxRecDepth 100000
set_option maxHeartbeats 4000000
namespace K76
open PySem PySem.Spec PyProof.Rows L2 U TL Vt
open C8 (pss_cut)
theorem wrRest_sum : ∀ ds : List PyData, (ds.map fun d => (wr d).length).sum ≤ (wrRest ds).length
  | [] => Nat.zero_le _
  | d :: ds => by
    have := wrRest_sum ds
    rw [wrRest, List.map_cons, List.sum_cons, List.length_cons, List.length_append]
    omega
theorem wrAll_sum (ds : List PyData) : (ds.map fun d => (wr d).length).sum ≤ (wrAll ds).length := by
  cases ds with
  | nil => exact Nat.zero_le _
  | cons d ds =>
    have := wrRest_sum ds
    rw [wrAll, List.map_cons, List.sum_cons, List.length_append]
    omega
abbrev strW (d : PyData) : PySem.Str := ⟨(wr d).toArray⟩
section
variable {P : Program} {w : World} {K : PySem.W.Frag} {mg : PySem.Str → Option Value} {base : Heap}
theorem ok_written {f : Addr} {fd : FuncData} (F : FunD K "_law_written" "_law_written" (defArgs s__law_written) (defBody s__law_written) (defScope s__law_written) [] [] f fd) (gl : mg "_law_written" = some (.ref f)) (T : Bi mg) : ∀ m, FnOk P w K mg base CX0 m f fd P__law_written (spWritten m)
  | 0 => ⟨fun vs H Q E ⟨_, _, e, _⟩ => by rw [e]; rfl, fun _ _ _ _ _ _ _ _ _ _ _ _ _ ⟨_, _, _, _, z, _⟩ => z.elim⟩
  | m + 1 => by
    have C__law_written : Cal P w K mg base CX0 "_law_written" m P__law_written (spWritten m) := cal_of F gl (ok_written F gl T m) (fun _ _ _ _ _ _ us hl => match us, hl with | [_], _ => rfl)
    refine F.ok sc__law_written (fun vs H Q E h => ?_) (fun cdv A outer s H vs Q E hr h => ?_)
    · obtain ⟨v, d, rfl, _⟩ := h
      rfl
    · have hu := hu_of hr
      obtain ⟨v, d, rfl, hd, ho, hl, q⟩ := h
      refine ⟨_, PSs.nox ((pss_cons (ps_if (pt_val (pe_callB (k_isi K) (by rfl) T.n_isinstance (by decide +kernel) (pa_cons (pv 0) (pa_cons (pe_bltn (v := .ty "tuple") (by rfl) T.n_tuple (by decide +kernel) rfl) pa_nil)))) (pss_one (ps_ret (pe_op op_add_str (pe_op op_add_str pe_str (pe_join pe_str (pe_lc (own := [("one", 1)]) (g := gName 1) (tt := tYes) rfl sc__law_written.nd (k_pit K (pv 0)) (blkOk_by (N := N__law_written) (sc := defScope s__law_written) (by decide +kernel)) (fun _ _ _ _ _ => (pg_name (i := 1) sc__law_written.nd rfl (.inl rfl))) (fun _ _ _ _ _ => pts_nil) (fun _ _ _ _ _ => (pe_c C__law_written hr pass0 (pa_cons (pv 1) pa_nil)))))) pe_str))) pss_nil)
      (pss_one (ps_ret (pe_ifExp (pt_cmpR op_isN (pv 0) pe_non (nomark _)) pe_str (pe_callTy (CallR.or call_str_int SkE.call_str_str) (by rfl) T.n_str (by decide +kernel) (pa_cons (pv 0) pa_nil))))))), ?_⟩
      refine ⟨v, rfl, v, .ty "tuple", .type (tyN d), .type "tuple", isTp d, rfl, .ty _, (Tr.od hd).ty, kit_ty (kit_Tp d), isTp d, rfl, ?_⟩
      have leafy : ∀ (x : PySem.Str), tl x = wr d → Q (.str x) H := fun x e => by
        have : x = ⟨(wr d).toArray⟩ := ext_tl e
        rw [this]
        exact q _ (Same.refl H)
      cases hd with
      | @tup a xs ds ha hall =>
        have hwt : (wr (.tuple ds)).length = (wrAll ds).length + 2 := by
          rw [wr, List.length_cons, List.length_append, List.length_singleton]
        refine iteT ⟨⟨_, rfl⟩, .ref a, rfl, a, rfl, ⟨xs, SqT.of ha⟩, fun D hD => ?_⟩
        refine lc_tup (K := K) (a := a) (xs := xs) (fun i H' => H' D = some (.lst (((ds.take i).map strW).map V.str)) ∧ Same H H') ⟨upd_same, same_upd hD⟩ (fun i H' _ p => SqT.of (p.2 _ _ ha)) ?_ ?_
        · rintro i x H' hi ⟨h1, h2⟩
          obtain ⟨e, he, ht⟩ := hall.get hi
          have hme := List.mem_of_getElem? he
          have hlen := hall.length
          have hxl := wrAll_len ds
          have hil : i < ds.length := (List.getElem?_eq_some_iff.mp he).1
          refine ⟨rfl, yes ⟨x, rfl, x, e, rfl, ht.mono (Same.tu h2), ho e hme, by have := wr_mem hme; omega, fun H2 k2 => ⟨_, k2 _ _ h1, lt_line ?_, ?_, ?_⟩⟩⟩
          · rw [List.length_map, List.length_map, List.length_take]
            omega
          · rw [upd_same, take_snoc he]
            simp [strW]
          · exact same_mut (h2.trans k2) hD
        · rintro H' ⟨h1, h2⟩
          rw [hall.length, List.take_length] at h1
          have hsum := wrAll_sum ds
          have hxl := wrAll_len ds
          have e1 : (PySem.Str.ofString " ").length = 1 := by decide +kernel
          have ejoin : tl (Txt.join (PySem.Str.ofString " ") (ds.map strW)) = wrAll ds := by
            rw [join_eq, tl_join, ← wrAll_join, List.map_map]
            have e2 : tl (PySem.Str.ofString " ") = [32] := by decide +kernel
            rw [e2]
            rfl
          have t40 : tl (PySem.Str.ofString "(") = [40] := by decide +kernel
          have t41 : tl (PySem.Str.ofString ")") = [41] := by decide +kernel
          refine ⟨PySem.Str.ofString " ", D, ds.map strW, rfl, rfl, .inl (SqL.of h1), ?_, ?_⟩
          · rw [e1, List.map_map, List.length_map]
            have e3 : (ds.map ((fun x : PySem.Str => x.length) ∘ strW)) = ds.map fun d => (wr d).length := by
              apply List.map_congr_left
              intro d _
              show (⟨(wr d).toArray⟩ : PySem.Str).length = _
              rw [len_tl]
            rw [e3]
            omega
          · refine ⟨_, _, rfl, rfl, ?_, ?_⟩
            · rw [len_tl, len_tl, ejoin, t40]
              exact le_line (by show 1 + _ ≤ _; omega)
            · refine ⟨_, _, rfl, rfl, ?_, ?_⟩
              · rw [len_tl, len_tl, tl_append, ejoin, t40, t41]
                exact le_line (by rw [List.length_append]; show 1 + _ + 1 ≤ _; omega)
              · have e4 : ((PySem.Str.ofString "(" ++ Txt.join (PySem.Str.ofString " ") (ds.map strW)) ++ PySem.Str.ofString ")") = ⟨(wr (.tuple ds)).toArray⟩ := by
                  apply ext_tl
                  rw [tl_append, tl_append, ejoin, t40, t41]
                  show [40] ++ wrAll ds ++ [41] = wr (.tuple ds)
                  rw [wr]
                  rfl
                rw [e4]
                exact q _ h2
      | non => exact iteF ⟨.non, rfl, rfl, _, rfl, iteT (leafy _ (by rw [wr]; decide +kernel))⟩
      | @int i =>
        have hi : i.natAbs.log2 < 1920 := by
          obtain ⟨n, rfl, hn⟩ := whole_nat ho
          exact log_small (by omega)
        exact iteF ⟨.int i, rfl, rfl, _, rfl, iteF ⟨.int i, rfl, .inl ⟨i, rfl, hi, leafy _ (by rw [wr])⟩⟩⟩
      | @str x => exact iteF ⟨.str x, rfl, rfl, _, rfl, iteF ⟨.str x, rfl, .inr ⟨x, rfl, leafy _ (by rw [wr])⟩⟩⟩
      | bl b => cases ho
end
/-! ### _law_caught -/
/-- try: what was handed / except R: the error is told -/
def TTk (K : PySem.W.Frag) (R : Addr) : (XK → Hp → VK → Prop) → Hp → VK → Prop := fun tl H Q =>
  tl (fun cls d H' => ∃ b, PySem.W.exmOne K cls (.ref R) = some b ∧ (b = true → ∀ a, H' a = none → Q (.ref a) (upd H' a (exk a cls d))) ∧ (b = false → False)) H (fun _ H' => ∃ v, (some (some V.non) : Option (Option V)) = some (some v) ∧ Q v H')
section
variable {X : Cx} {R g : Addr}
theorem takes_len {X : Cx} {W : WX} (tk : Takes X W) : Takes X (fun cls d σ H => σ.length = X.N.length → W cls d σ H) := fun u s' ⟨a, B, sI, pins, σ, H, cls, d, e, I, nb, up, sky, na, os, ag, w⟩ =>
  tk u s' ⟨a, B, sI, pins, σ, H, cls, d, e, I, nb, up, sky, na, os, ag, w I.len⟩
theorem caught_gives {cdg : Value} {q : PySem.Str} (gR : X.mg "RootError" = some (.ref R)) : LamX.GivesTo X N__law_caught "_law_caught" (defScope s__law_caught) g cdg (defBody s__law_caught) "action" q (TTk X.K R) := by
  intro f c' s H Q tl act hc h
  refine ⟨_, pss_cons (ps_set (i := 1) sc__law_caught.nd rfl (.inl rfl) pe_non) (pss_cons (ps_try_keep (X := (cxOf C8.CX0 X.prog X.w X.K X.mg X.base N__law_caught "_law_caught" (defScope s__law_caught) g cdg X.A X.stack s H C8.E0).nox) (c := .ref R) (i := 2)
      (tb := fun W D σ H => ∃ Ech : XK, (∀ cls d σ' H', σ'.length = 3 → Ech cls d H' → W cls d σ' H') ∧ σ[0]? = some (some (.ref f)) ∧ H c' = some (LamX.CodeO c' q) ∧ tl Ech H fun _ H' => D.nx σ H')
      rfl rfl rfl sc__law_caught.nd rfl rfl ⟨rfl, by decide, .inl gR⟩ LamX.takes0 (fun W pn xe tk _ => ?_) (fun a oe cls d pn hz hf => pss_one (ps_set (i := 1) sc__law_caught.nd rfl (.inl rfl) (pv 2)))) (pss_one (ps_ret (pv 1)))), ?_⟩
  · refine ⟨fun pins s' σ H' D I h' => ?_⟩
    obtain ⟨Ech, hW, h1, h2, h3⟩ := h'
    have hq := fun (p1 p2 p3 : Pos) => pss_one (ps_expr (pos := p3) (act _ pn xe Ech p1 p2 (takes_len tk) (fun cls d σ' H' he hl => hW cls d σ' H' hl he)))
    exact (hq _ _ _).run pins s' σ H' D I ⟨h1, h2, h3⟩
  · refine ⟨fun cls d H' => ∃ b, PySem.W.exmOne X.K cls (.ref R) = some b ∧ (b = true → ∀ a, H' a = none → Q (.ref a) (upd H' a (exk a cls d))) ∧ (b = false → False), fun cls d σ' H' hl ⟨b, e1, e2, e3⟩ => ⟨b, e1, fun hb a ha => ?_, fun hb => e3 hb⟩, rfl, hc, ?_⟩
    · match σ', hl with
      | [x, y, z], _ => exact ⟨.ref a, rfl, fun _ => ⟨.ref a, rfl, e2 hb a ha⟩⟩
    · exact h
/-- _law_caught(lambda: body) -/
theorem pe_caught {fd : FuncData} {c P : Addr} {params : Arguments} {body : Expr} {scope : Scope} {t : XK → TE} {p lpos pos : Pos} (F : FunD X.K "_law_caught" "_law_caught" (defArgs s__law_caught) (defBody s__law_caught) (defScope s__law_caught) [] [] g fd) (gl : X.mg "_law_caught" = some (.ref g)) (gR : X.mg "RootError" = some (.ref R))
    (TB : LamX.TabB X.base X.mg c P) (hcode : X.env.code = .ref c) (hr : Room 6 X.A)
    (hbody : ∀ (A : Around) (outer : List Env) (s : Shared) (H : Hp) (E : XK) (f c' : Addr), Room 4 (A.deeper (LamX.lamEnv X scope s.heap.objs.size f c')) → PE (LamX.lamCx X A outer s H E scope f c') body (t E))
    (hg : Gl X "_law_caught" := by rfl) (L : LamX.LamS X.env.scope scope := by exact LamX.lamS_by (by kernel_rfl)) (hdef : defaultsOf params X.env = ([], []) := by rfl)
    (hbind : ∀ (q : PySem.Str) (cl : List (PySem.Str × Addr)) (pm cv ctv : Value), bindArgs (PySem.W.kla_fn "<lambda>" q params body scope cl pm cv ctv) ⟨[], []⟩ = pure [] := by exact fun _ _ _ _ _ => rfl) :
    PE X (.Call (.Name "_law_caught" p) [.Lambda params body scope lpos] [] pos) (LamX.tLam [(P, X.env.qual ++ "<lambda>")] (TTk X.K R) t) := by
  have hB := F.bindsN (ps := P__law_caught) fun _ _ _ _ _ _ us hl => match us, hl with | [_], _ => rfl
  obtain ⟨oc, od, dV, kV, doc, pm, an, cdv, ct, osl, rfl, lk, hcd, hD, hK⟩ := F.ex
  exact LamX.pe_lamcall hg gl F.kp lk hcd hB sc__law_caught rfl (.inl rfl) (caught_gives gR) TB hcode (List.mem_singleton.mpr rfl) (fun q hq _ => by rw [List.mem_singleton.mp hq]) hr L hdef hbind hbody
end

end K76



set_option Elab.async false
set_option linter.all false
set_option maxRecDepth 100000
set_option maxHeartbeats 4000000
namespace K76
open PySem PySem.Spec PyProof.Rows L2 U TL Vt
open C8 (pss_cut)
/-! ### what stays -/
theorem tabs_kp {T : List (Addr × PySem.Str)} {H H' : Hp} {st g c : Addr} {n : Nat} (t : LamX.Tabs T H) (d : Dr H st g c n) (k : Kp st g H H') : LamX.Tabs T H' := fun p hp => by
  obtain ⟨gs, cs, r, tt, e1, e2, _⟩ := d.ex
  obtain ⟨ps, h1, h2, h3⟩ := t p hp
  have code : ∀ (q : PySem.Str) (a : Addr), H a = some (LamX.CodeO a q) → H' a = some (LamX.CodeO a q) := fun q a e => k _ _ e (ne_of e e1 (fun z => by unfold LamX.CodeO stD at z; cases z)) (ne_of e e2 (fun z => by unfold LamX.CodeO at z; cases z))
  exact ⟨ps, k _ _ h1 (ne_of h1 e1 (fun z => by unfold stD at z; cases z)) (ne_of h1 e2 (fun z => by cases z)), h2, fun pos cv hc => by
    obtain ⟨cc, a, b⟩ := h3 pos cv hc
    exact ⟨cc, a, code _ _ b⟩⟩
theorem tabs_mut {T : List (Addr × PySem.Str)} {H : Hp} {p : Addr} {xs : List V} {o : HO} (t : LamX.Tabs T H) (h : H p = some (.lst xs)) : LamX.Tabs T (upd H p o) := fun q hq => by
  obtain ⟨ps, h1, h2, h3⟩ := t q hq
  refine ⟨ps, by rw [upd_ne (ne_of h1 h (fun z => by cases z))]; exact h1, h2, fun pos cv hc => ?_⟩
  obtain ⟨cc, a, b⟩ := h3 pos cv hc
  exact ⟨cc, a, by rw [upd_ne (ne_of b h (fun z => by unfold LamX.CodeO at z; cases z))]; exact b⟩
theorem dr_ext {H H' : Hp} {st g c : Addr} {n : Nat} (d : Dr H st g c n) (e : LamX.ExtN H H') : Dr H' st g c n := by
  obtain ⟨gs, cs, r, tt, e1, e2, e3, q⟩ := d.ex
  exact ⟨⟨gs, cs, r, tt, e _ _ e1 (fun ps z => by unfold stD at z; cases z), e _ _ e2 (fun ps z => by cases z), e _ _ e3 (fun ps z => by cases z), q⟩, d.ne⟩
theorem tu_ext {H H' : Hp} (e : LamX.ExtN H H') : Tu H H' := fun b xs h => e _ _ h (fun ps z => by cases z)
/-! ### what the law's values are like -/
theorem okT_data : ∀ (n : Nat) (d : PyData), okT n d → Plain d = true ∧ Ints12 d = true ∧ d.depth ≤ n ∧ d.bulk + 1 ≤ 2 * sz d
  | 0, _, h => absurd h id
  | n + 1, d, h => by
    cases d with
    | tuple xs =>
      have go : ∀ ys : List PyData, (∀ y ∈ ys, okT n y) → PlainAll ys = true ∧ Ints12All ys = true ∧ PyData.depthAll ys ≤ n ∧ PyData.bulkAll ys ≤ 2 * szAll ys := by
        intro ys
        induction ys with
        | nil => intro _; exact ⟨by simp [PlainAll], by simp [Ints12All], by simp [PyData.depthAll], by simp [PyData.bulkAll]⟩
        | cons y ys ih =>
          intro hy
          obtain ⟨a1, a2, a3, a4⟩ := okT_data n y (hy y (List.mem_cons_self ..))
          obtain ⟨b1, b2, b3, b4⟩ := ih fun z hz => hy z (List.mem_cons_of_mem _ hz)
          refine ⟨by rw [PlainAll, a1, b1]; rfl, by rw [Ints12All, a2, b2]; rfl, ?_, ?_⟩
          · rw [PyData.depthAll]
            exact Nat.max_le.mpr ⟨a3, b3⟩
          · rw [PyData.bulkAll, szAll]
            omega
      obtain ⟨b1, b2, b3, b4⟩ := go xs h
      refine ⟨by rw [Plain]; exact b1, by rw [Ints12]; exact b2, ?_, ?_⟩
      · rw [PyData.depth]
        omega
      · rw [PyData.bulk, sz]
        omega
    | none => exact ⟨by simp [Plain], by simp [Ints12], by simp [PyData.depth], by simp [PyData.bulk, sz]⟩
    | int i =>
      obtain ⟨k, rfl, hk⟩ := whole_nat h
      refine ⟨by simp [Plain], ?_, by simp [PyData.depth], by simp [PyData.bulk, sz]⟩
      rw [Ints12, decide_eq_true_eq]
      omega
    | str x =>
      have h' : word (tl x) = true := h
      refine ⟨?_, by simp [Ints12], by simp [PyData.depth], ?_⟩
      · rw [Plain]
        unfold PyData.strOk
        unfold word at h'
        rw [Bool.and_eq_true] at h'
        rw [← Array.all_toList]
        refine List.all_eq_true.mpr fun c hc => ?_
        have := List.all_eq_true.mp h'.2 c hc
        unfold low at this
        rw [Bool.and_eq_true, decide_eq_true_eq, decide_eq_true_eq] at this
        rw [decide_eq_true_eq]
        omega
      · have e : (tl x).length = x.cps.size := by simp [tl]
        simp only [PyData.bulk, sz, e]
        omega
    | bool b => cases h
    | list xs => cases h
    | dict xs => cases h
theorem wr_small : ∀ (n : Nat) (d : PyData), okT n d → ∀ c ∈ wr d, c < 128
  | 0, _, h => absurd h id
  | n + 1, d, h => by
    cases d with
    | tuple xs =>
      have rest : ∀ ys : List PyData, (∀ y ∈ ys, okT n y) → ∀ c ∈ wrRest ys, c < 128 := by
        intro ys
        induction ys with
        | nil => intro _ c hc; rw [wrRest] at hc; cases hc
        | cons y ys ih =>
          intro hy c hc
          rw [wrRest] at hc
          rcases List.mem_cons.mp hc with e | hc
          · rw [e]
            decide
          · rcases List.mem_append.mp hc with hc | hc
            · exact wr_small n y (hy y (List.mem_cons_self ..)) c hc
            · exact ih (fun z hz => hy z (List.mem_cons_of_mem _ hz)) c hc
      intro c hc
      rw [wr] at hc
      rcases List.mem_cons.mp hc with e | hc
      · rw [e]
        decide
      · rcases List.mem_append.mp hc with hc | hc
        · cases xs with
          | nil => rw [wrAll] at hc; cases hc
          | cons y ys =>
            rw [wrAll] at hc
            rcases List.mem_append.mp hc with hc | hc
            · exact wr_small n y (h y (List.mem_cons_self ..)) c hc
            · exact rest ys (fun z hz => h z (List.mem_cons_of_mem _ hz)) c hc
        · rw [List.mem_singleton.mp hc]
          decide
    | none =>
      intro c hc
      rw [wr, List.mem_singleton] at hc
      rw [hc]
      decide
    | int i =>
      obtain ⟨k, rfl, hk⟩ := whole_nat h
      rw [wr_int]
      intro c hc
      have := numL_digits k c hc
      omega
    | str x =>
      have h' : word (tl x) = true := h
      unfold word at h'
      rw [Bool.and_eq_true] at h'
      intro c hc
      rw [wr] at hc
      have := List.all_eq_true.mp h'.2 c hc
      unfold low at this
      rw [Bool.and_eq_true, decide_eq_true_eq, decide_eq_true_eq] at this
      omega
    | bool b => cases h
    | list xs => cases h
    | dict xs => cases h
theorem text_plain {d : PyData} {n : Nat} (h : okT n d) : Plain (.str (strW d)) = true := by
  rw [Plain]
  unfold PyData.strOk
  rw [← Array.all_toList]
  refine List.all_eq_true.mpr fun c hc => ?_
  have := wr_small n d h c hc
  rw [decide_eq_true_eq]
  omega
/-- one within the other -/
def nest : Nat → PyData
  | 0 => .int 7
  | n + 1 => .tuple [nest n]
theorem nest_okT : ∀ n, okT (n + 1) (nest n)
  | 0 => (show whole 7 = true by decide)
  | n + 1 => fun x hx => by
    rw [List.mem_singleton.mp hx]
    exact nest_okT n
theorem nest_not : ∀ n, ¬ okT n (nest n)
  | 0 => id
  | n + 1 => fun h => nest_not n (h _ (List.mem_singleton.mpr rfl))
theorem nest_isv {n : Nat} (h : n ≤ 60) : isv (nest n) = decide (n < 60) := by
  by_cases c : n < 60
  · rw [decide_eq_true c]
    exact okT_isv c (nest_okT n)
  · have e : n = 60 := by omega
    rw [decide_eq_false c]
    cases q : isv (nest n) with
    | false => rfl
    | true =>
      have z := isv_okT q
      rw [e] at z
      exact absurd z (nest_not 60)
theorem nest_sz : ∀ n, sz (nest n) = n + 1
  | 0 => by simp [nest, sz]
  | n + 1 => by
    rw [nest, sz]
    simp only [szAll]
    rw [nest_sz n]
theorem nest_wr : ∀ n, wr (nest n) = List.replicate n 40 ++ [55] ++ List.replicate n 41
  | 0 => by decide +kernel
  | n + 1 => by
    rw [nest, wr, wrAll, wrRest, List.append_nil, nest_wr n, List.replicate_succ, List.replicate_succ']
    simp
def qL : PySem.Str := (PySem.Str.ofString "law" ++ ".<locals>.") ++ "<lambda>"
/-- a def at a name, its code object known -/
theorem okGC {P : Program} {w : World} {K : PySem.W.Frag} {mg : PySem.Str → Option Value} {base : Heap} {CX : CXT} {nm q : PySem.Str} {pr : Arguments} {bd : List Stmt} {sc : Scope} {dvs : List V} {kws : List (PySem.Str × V)} {at_ : PySem.Str × Option PySem.Str} {fd : FuncData} {N ps : List PySem.Str} {k : Nat} {sp : Sp}
    (F : FunD K nm q pr bd sc dvs kws (He.fAd K at_) fd) (S : FnScope N ps sc) (len : ∀ vs H Q E, sp vs H Q E → vs.length = ps.length)
    (hbody : ∀ (A : Around) (outer : List Env) (s : Shared) (H : Hp) (vs : List V) (Q : VK) (E : XK),
      A.guards = some [] → Room k (A.deeper (envOfC q sc s.heap.objs.size (He.fAd K at_) (.ref (He.codeOf K at_)))) → sp vs H Q E →
      ∃ t, PSs (cxOf CX P w K mg base N q sc (He.fAd K at_) (.ref (He.codeOf K at_)) A outer s H E) bd t ∧ t { nx := fun _ H' => Q .non H', rt := Q } (start N vs) H) :
    FnG P w K mg base CX (k + 1) (He.fAd K at_) fd ps sp := by
  obtain ⟨oc, od, dV, kV, doc, pm, an, cdv, ct, osl, rfl, lk, hcd, _, _⟩ := F.ex
  obtain ⟨cc, rfl⟩ := He.codeIn_ref hcd
  have e := He.codeOf_eq (p := at_) lk rfl
  subst e
  exact fnG_of lk hcd S len fun A outer s H vs Q E hg hr hsp => hbody A outer s H vs Q E hg hr hsp
theorem pick_str {i : Nat} {x : V} (h : ([.str (PySem.Str.ofString ""), .str (PySem.Str.ofString " "), .str (PySem.Str.ofString "("), .str (PySem.Str.ofString ")"), .str (PySem.Str.ofString "0"), .str (PySem.Str.ofString "a"), .str (PySem.Str.ofString "-"), .str (PySem.Str.ofString "A"), .str (PySem.Str.ofString "()"), .str (PySem.Str.ofString "1")] : List V)[i]? = some x) :
    ∃ z : PySem.Str, x = .str z ∧ z.length ≤ 2 := by
  match i, h with
  | 0, h => cases h; exact ⟨_, rfl, by decide +kernel⟩
  | 1, h => cases h; exact ⟨_, rfl, by decide +kernel⟩
  | 2, h => cases h; exact ⟨_, rfl, by decide +kernel⟩
  | 3, h => cases h; exact ⟨_, rfl, by decide +kernel⟩
  | 4, h => cases h; exact ⟨_, rfl, by decide +kernel⟩
  | 5, h => cases h; exact ⟨_, rfl, by decide +kernel⟩
  | 6, h => cases h; exact ⟨_, rfl, by decide +kernel⟩
  | 7, h => cases h; exact ⟨_, rfl, by decide +kernel⟩
  | 8, h => cases h; exact ⟨_, rfl, by decide +kernel⟩
  | 9, h => cases h; exact ⟨_, rfl, by decide +kernel⟩
  | n + 10, h => simp at h
mutual
theorem od_ext {H H' : Hp} (t : LamX.ExtN H H') : ∀ {v : V} {d : PyData}, Od H v d → Od H' v d
  | _, _, .non => .non
  | _, _, .bl b => .bl b
  | _, _, .int i => .int i
  | _, _, .str x => .str x
  | _, _, .tup h a => .tup (t _ _ h (fun ps z => by cases z)) (odAll_ext t a)
  | _, _, .lst h => .lst (t _ _ h (fun ps z => by cases z))
  | _, _, .dct h => .dct (t _ _ h (fun ps z => by cases z))
theorem odAll_ext {H H' : Hp} (t : LamX.ExtN H H') : ∀ {vs : List V} {ds : List PyData}, OdAll H vs ds → OdAll H' vs ds
  | _, _, .nil => .nil
  | _, _, .cons h a => .cons (od_ext t h) (odAll_ext t a)
end
/-- texts that are none, other things -/
def NoRead (H : Hp) (x : V) : Prop := (∃ z : PySem.Str, x = .str z ∧ z.length ≤ 100000 ∧ rd (tl z) = none) ∨ ∃ d, Od H x d ∧ isS d = false
theorem rd_no {z : PySem.Str} (h : (rd (tl z)).isNone = true) : rd (tl z) = none := Option.isNone_iff_eq_none.mp h
def spBad (C : Addr) : Sp := fun vs H Q E => ∃ x : V, vs = [x] ∧ NoRead H x ∧ ∀ H' p, Same H H' → H p = none → H' p = some (.xd [("line", .int 0)]) → E (.ref C) (some p) H'
theorem read_bad {C : Addr} {vs : List V} {H : Hp} {Q : VK} {E : XK} (h : spBad C vs H Q E) : spRead C vs H Q E := by
  obtain ⟨x, rfl, h, q⟩ := h
  rcases h with ⟨z, rfl, hz, hr⟩ | ⟨d, hd, hs⟩
  · exact ⟨_, rfl, .inl ⟨z, rfl, hz, fun d hd => (by rw [hr] at hd; cases hd), fun _ => q⟩⟩
  · exact ⟨_, rfl, .inr ⟨d, hd, hs, q⟩⟩
theorem cal_sub {P : Program} {w : World} {K : PySem.W.Frag} {mg : PySem.Str → Option Value} {base : Heap} {CX : CXT} {x : PySem.Str} {k : Nat} {ps : List PySem.Str} {sp sp' : Sp} (c : Cal P w K mg base CX x k ps sp) (h : ∀ vs H Q E, sp' vs H Q E → sp vs H Q E) : Cal P w K mg base CX x k ps sp' := by
  obtain ⟨f, fd, h1, h2, h3, h4⟩ := c.ex
  exact ⟨f, fd, h1, h2, h3, ⟨fun vs H Q E z => h4.len vs H Q E (h _ _ _ _ z), fun A outer s H args us vs Q E hr e0 hb r z => h4.run A outer s H args us vs Q E hr e0 hb r (h _ _ _ _ z)⟩⟩
theorem pick_wrong {H : Hp} {tw : Addr} {i : Nat} {x : V} (ht : H tw = some (.tup [.str (PySem.Str.ofString "a")])) (h : ([.str (PySem.Str.ofString ""), .str (PySem.Str.ofString " "), .str (PySem.Str.ofString "()()"), .str (PySem.Str.ofString "a b"), .str (PySem.Str.ofString "(a"), .str (PySem.Str.ofString "a)"), .str (PySem.Str.ofString "( a)"), .str (PySem.Str.ofString "(a )"), .str (PySem.Str.ofString "(a  b)"), .str (PySem.Str.ofString "01"), .str (PySem.Str.ofString "-1"), .str (PySem.Str.ofString "1000000000000"), .str (PySem.Str.ofString "a1"), .str (PySem.Str.ofString "1a"), .str (PySem.Str.ofString "A"), .non, .int 5, .ref tw] : List V)[i]? = some x) : NoRead H x := by
  match i, h with
  | 0, h => cases h; exact .inl ⟨_, rfl, by decide +kernel, rd_no (by decide +kernel)⟩
  | 1, h => cases h; exact .inl ⟨_, rfl, by decide +kernel, rd_no (by decide +kernel)⟩
  | 2, h => cases h; exact .inl ⟨_, rfl, by decide +kernel, rd_no (by decide +kernel)⟩
  | 3, h => cases h; exact .inl ⟨_, rfl, by decide +kernel, rd_no (by decide +kernel)⟩
  | 4, h => cases h; exact .inl ⟨_, rfl, by decide +kernel, rd_no (by decide +kernel)⟩
  | 5, h => cases h; exact .inl ⟨_, rfl, by decide +kernel, rd_no (by decide +kernel)⟩
  | 6, h => cases h; exact .inl ⟨_, rfl, by decide +kernel, rd_no (by decide +kernel)⟩
  | 7, h => cases h; exact .inl ⟨_, rfl, by decide +kernel, rd_no (by decide +kernel)⟩
  | 8, h => cases h; exact .inl ⟨_, rfl, by decide +kernel, rd_no (by decide +kernel)⟩
  | 9, h => cases h; exact .inl ⟨_, rfl, by decide +kernel, rd_no (by decide +kernel)⟩
  | 10, h => cases h; exact .inl ⟨_, rfl, by decide +kernel, rd_no (by decide +kernel)⟩
  | 11, h => cases h; exact .inl ⟨_, rfl, by decide +kernel, rd_no (by decide +kernel)⟩
  | 12, h => cases h; exact .inl ⟨_, rfl, by decide +kernel, rd_no (by decide +kernel)⟩
  | 13, h => cases h; exact .inl ⟨_, rfl, by decide +kernel, rd_no (by decide +kernel)⟩
  | 14, h => cases h; exact .inl ⟨_, rfl, by decide +kernel, rd_no (by decide +kernel)⟩
  | 15, h => cases h; exact .inr ⟨_, .non, rfl⟩
  | 16, h => cases h; exact .inr ⟨_, .int 5, rfl⟩
  | 17, h => cases h; exact .inr ⟨_, .tup ht (.cons (.str _) .nil), rfl⟩
  | n + 18, h => simp at h
theorem pick_odd {H : Hp} {l1 dd l2 t1 t2 t3 : Addr} {i : Nat} {x : V} (h1 : H l1 = some (.lst [.int 1])) (h2 : H dd = some (.dK [])) (h3 : H l2 = some (.lst [.str (PySem.Str.ofString "a")])) (h4 : H t1 = some (.tup [.int 1, .ref l2])) (h5 : H t2 = some (.tup [.str (PySem.Str.ofString "B")])) (h6 : H t3 = some (.tup [.str (PySem.Str.ofString "a"), .ref t2]))
    (h : ([.str (PySem.Str.ofString ""), .str (PySem.Str.ofString "A"), .str (PySem.Str.ofString "a b"), .str (PySem.Str.ofString "a1"), .int (0 - 1), .int ((10 : Int) ^ (12 : Int).toNat), .bl true, .ref l1, .ref dd, .ref t1, .ref t3, .bl (PyData.eqv (.int 1) (.int 1))] : List V)[i]? = some x) : ∃ d, Od H x d ∧ isv d = false ∧ sz d ≤ 100 := by
  match i, h with
  | 0, h => cases h; exact ⟨_, .str _, by decide +kernel, by decide +kernel⟩
  | 1, h => cases h; exact ⟨_, .str _, by decide +kernel, by decide +kernel⟩
  | 2, h => cases h; exact ⟨_, .str _, by decide +kernel, by decide +kernel⟩
  | 3, h => cases h; exact ⟨_, .str _, by decide +kernel, by decide +kernel⟩
  | 4, h => cases h; exact ⟨_, .int _, by decide +kernel, by decide +kernel⟩
  | 5, h => cases h; exact ⟨_, .int _, by decide +kernel, by decide +kernel⟩
  | 6, h => cases h; exact ⟨_, .bl _, by decide +kernel, by decide +kernel⟩
  | 7, h => cases h; exact ⟨_, .lst h1, by decide +kernel, by decide +kernel⟩
  | 8, h => cases h; exact ⟨_, .dct h2, by decide +kernel, by decide +kernel⟩
  | 9, h => cases h; exact ⟨_, .tup h4 (.cons (.int 1) (.cons (.lst h3) .nil)), by decide +kernel, by decide +kernel⟩
  | 10, h => cases h; exact ⟨_, .tup h6 (.cons (.str _) (.cons (.tup h5 (.cons (.str _) .nil)) .nil)), by decide +kernel, by decide +kernel⟩
  | 11, h => cases h; exact ⟨.bool _, .bl _, by decide +kernel, by decide +kernel⟩
  | n + 12, h => simp at h
theorem flat_one (c : Nat) : ∀ n : Nat, (List.replicate n [c]).flatten = List.replicate n c
  | 0 => rfl
  | n + 1 => by
    rw [List.replicate_succ, List.flatten_cons, flat_one c n, List.replicate_succ]
    rfl
theorem rep40 (n : Nat) : tl (⟨(List.replicate n (tl (PySem.Str.ofString "("))).flatten.toArray⟩ : PySem.Str) = List.replicate n 40 := by
  have e : tl (PySem.Str.ofString "(") = [40] := by decide +kernel
  rw [e, flat_one]
theorem rep41 (n : Nat) : tl (⟨(List.replicate n (tl (PySem.Str.ofString ")"))).flatten.toArray⟩ : PySem.Str) = List.replicate n 41 := by
  have e : tl (PySem.Str.ofString ")") = [41] := by decide +kernel
  rw [e, flat_one]
theorem tl7 : tl (PySem.Str.ofString "7") = [55] := by decide +kernel
theorem shaped_bool (b : Bool) : SeqAt.shaped (.bool b) = true := by cases b <;> decide +kernel
theorem eqv_tt : PyData.eqv (.bool true) (.bool true) = true := by decide +kernel
theorem eqv_ff : PyData.eqv (.bool false) (.bool false) = true := by decide +kernel
theorem pick_many {i : Nat} {x : V} (h : ([.int 59, .int 60, .int 58] : List V)[i]? = some x) : ∃ M : Nat, x = .int (M : Nat) ∧ 58 ≤ M ∧ M ≤ 60 := by
  match i, h with
  | 0, h => cases h; exact ⟨59, rfl, by decide, by decide⟩
  | 1, h => cases h; exact ⟨60, rfl, by decide, by decide⟩
  | 2, h => cases h; exact ⟨58, rfl, by decide, by decide⟩
  | n + 3, h => simp at h
/-- the written value that the law asks first -/
def d0 : PyData := .tuple [.str (PySem.Str.ofString "run"), .tuple [.str (PySem.Str.ofString "a"), .int 3, .none], .tuple []]
abbrev t0 : PySem.Str := PySem.Str.ofString "(run (a 3 -) ())"
theorem d0_isv : isv d0 = true := by decide +kernel
theorem d0_wr : tl t0 = wr d0 := by decide +kernel
theorem d0_sz : sz d0 ≤ 262144 := by decide +kernel
theorem d0_rd : rd (tl t0) = some d0 := by
  rw [d0_wr]
  exact rd_wr d0_isv
theorem d0_plain : Plain d0 = true := by decide +kernel
theorem d0_depth : d0.depth ≤ 64 := by decide +kernel
theorem ne_same (v : V) : (!decide (v = v)) = false := by simp
def spLaw (K : PySem.W.Frag) (P : Addr) : Sp := fun vs H Q _ => ∃ (a : Addr) (ns : List Int), vs = [.ref a] ∧ SqL K H a (ns.map V.int) ∧ ns.length ≤ 63 ∧ H P = some (.tbl #[]) ∧ ∀ H', Q (.bl true) H'
/-- the class of the refused texts -/
structure ErrC (K : PySem.W.Frag) (C R : Addr) : Prop where
  ec : ExcC K C
  xf : XfC K C
  noL : PySem.W.findIn K (.ref C) "line" = some none
  exm : PySem.W.exmOne K (.ref C) (.ref R) = some true
  kit : PySem.W.kitOne K (.ref C) (.ref C) = some true
section
variable {P : Program} {w : World} {K : PySem.W.Frag} {mg : PySem.Str → Option Value} {base : Heap}
theorem ok_law {fd fdc : FuncData} {gc C R : Addr} (F : FunD K "law" "law" (defArgs s_law) (defBody s_law) (defScope s_law) [] [] (He.fAd K ("law", none)) fd) (T : Bi mg)
    (F_caught : FunD K "_law_caught" "_law_caught" (defArgs s__law_caught) (defBody s__law_caught) (defScope s__law_caught) [] [] gc fdc) (gl_caught : mg "_law_caught" = some (.ref gc)) (gR : mg "RootError" = some (.ref R)) (gN : mg "NoText" = some (.ref C)) (EC : ErrC K C R)
    (TB : LamX.TabB base mg (He.codeOf K ("law", none)) (He.tabOf K (He.codeOf K ("law", none))))
    (C__law_begun : Cal P w K mg base CX0 "_law_begun" 1 P__law_begun (spBegun K)) (C__law_draw : Cal P w K mg base CX0 "_law_draw" 2 P__law_draw spDraw) (C__law_pick : Cal P w K mg base CX0 "_law_pick" 3 P__law_pick spPick)
    (C__law_value : Cal P w K mg base CX0 "_law_value" 9 P__law_value (spVal 5)) (C__law_written : Cal P w K mg base CX0 "_law_written" 60 P__law_written (spWritten 60)) (C__law_is : CalG P w K mg base CX0 "_law_is" 8 P__law_is (spIs 7))
    (C_value_text : Cal P w K mg base (L2.CX P w) "value_text" 3 P_value_text (spText C)) (C_read_value : Cal P w K mg base (L2.CX P w) "read_value" 4 P_read_value (spRead C))
    (CK_value_text_value : CalK P w K mg base (L2.CX P w) "value_text" 3 P_value_text ["value"] (fun _ zs => zs) (spText C)) (CK_read_value_text : CalK P w K mg base (L2.CX P w) "read_value" 4 P_read_value ["text"] (fun _ zs => zs) (spRead C)) :
    FnG P w K mg base (L2.CX P w) 62 (He.fAd K ("law", none)) fd P_law (spLaw K (He.tabOf K (He.codeOf K ("law", none)))) := by
  have C_read_bad := cal_sub (sp' := spBad C) C_read_value fun _ _ _ _ h => read_bad h
  have hEC := EC.ec
  have hXF := EC.xf
  have hNoL := EC.noL
  refine okGC F sc_law (fun vs H Q E h => ?_) (fun A outer s H vs Q E hgd hr h => ?_)
  · obtain ⟨a, ns, rfl, _⟩ := h
    rfl
  · have hu := hu_of hr
    obtain ⟨a, ns, rfl, hS, hlen, hT, q⟩ := h
    refine ⟨_, PSs.nox ((pss_cons (ps_set (i := 1) sc_law.nd rfl (.inl rfl) (pe_c C__law_begun (hr.mono (by decide)) pass0 (pa_cons (pv 0) pa_nil)))
      (pss_cons (ps_if (PW.pt (pw_or (pt_cmpR op_ne (pe_c C_value_text (hr.mono (by decide)) passF (pa_cons (pe_tup (pa_cons pe_str (pa_cons (pe_tup (pa_cons pe_str (pa_cons pe_int (pa_cons pe_non pa_nil)))) (pa_cons (pe_tup pa_nil) pa_nil)))) pa_nil)) pe_str (nomark _)) (pw_or1 (pt_cmpR (k_ne K hr.units) (pe_c C_read_value (hr.mono (by decide)) passF (pa_cons pe_str pa_nil)) (pe_tup (pa_cons pe_str (pa_cons (pe_tup (pa_cons pe_str (pa_cons pe_int (pa_cons pe_non pa_nil)))) (pa_cons (pe_tup pa_nil) pa_nil)))) (nomark _))))) (pss_one (ps_ret pe_bl)) pss_nil)
      (pss_cons (ps_for PassesOwn.never rfl (pi_range1 (by rfl) T.n_range (pa_cons (pe_op op_add pe_int (pe_callB (call_min2 rfl) (by rfl) T.n_min (by decide +kernel) (pa_cons (pe_callB (k_len K) (by rfl) T.n_len (by decide +kernel) (pa_cons (pv 0) pa_nil)) (pa_cons pe_int pa_nil)))) pa_nil)) (pg_name (i := 2) sc_law.nd rfl (.inl rfl)) (pss_cons (ps_set (i := 3) sc_law.nd rfl (.inl rfl) (pe_c C__law_value (hr.mono (by decide)) pass0 (pa_cons (pv 1) (pa_cons pe_int pa_nil))))
      (pss_cons (ps_set (i := 4) sc_law.nd rfl (.inl rfl) (pe_c C__law_written (hr.mono (by decide)) pass0 (pa_cons (pv 3) pa_nil)))
      (pss_cons (ps_if (PW.pt (pw_or (pt_not (pt_val (pe_cG C__law_is hgd (hr.mono (by decide)) pass0 (pa_cons (pe_c C_value_text (hr.mono (by decide)) passF (pa_cons (pv 3) pa_nil)) (pa_cons (pv 4) pa_nil))))) (pw_or (pt_not (pt_val (pe_cG C__law_is hgd (hr.mono (by decide)) pass0 (pa_cons (pe_c C_read_value (hr.mono (by decide)) passF (pa_cons (pv 4) pa_nil)) (pa_cons (pv 3) pa_nil))))) (pw_or (pt_cmpR op_ne (pe_ck CK_value_text_value (hr.mono (by decide)) passF (pk_cons (pv 3) pk_nil)) (pv 4) (nomark _)) (pw_or1 (pt_cmpR (k_ne K hr.units) (pe_ck CK_read_value_text (hr.mono (by decide)) passF (pk_cons (pv 4) pk_nil)) (pv 3) (nomark _))))))) (pss_one (ps_ret pe_bl)) pss_nil)
      (pss_cons (ps_for PassesOwn.never rfl (pi_range1 (by rfl) T.n_range (pa_cons pe_int pa_nil)) (pg_name (i := 5) sc_law.nd rfl (.inl rfl)) (pss_cons (ps_asg (pe_tup (pa_cons (pe_c C__law_draw (hr.mono (by decide)) pass0 (pa_cons (pv 1) (pa_cons (pe_op op_add (pe_callB (k_len K) (by rfl) T.n_len (by decide +kernel) (pa_cons (pv 4) pa_nil)) pe_int) pa_nil))) (pa_cons (pe_lst pa_nil) pa_nil))) (k_pgt K (by rfl) (pgs_cons (pg_name (i := 6) sc_law.nd rfl (.inl rfl)) (pgs_cons (pg_name (i := 7) sc_law.nd rfl (.inr rfl)) pgs_nil))))
      (pss_cons (ps_set (i := 8) sc_law.nd rfl (.inr rfl) (pe_op op_add_str (pe_op op_add_str (pe_slice sl_str (pv 4) po_none (po_some (pv 6))) (pe_c C__law_pick (hr.mono (by decide)) pass0 (pa_cons (pv 1) (pa_cons (pe_lst (pa_cons pe_str (pa_cons pe_str (pa_cons pe_str (pa_cons pe_str (pa_cons pe_str (pa_cons pe_str (pa_cons pe_str (pa_cons pe_str (pa_cons pe_str (pa_cons pe_str pa_nil))))))))))) pa_nil)))) (pe_slice sl_str (pv 4) (po_some (pe_op op_add (pv 6) (pe_c C__law_draw (hr.mono (by decide)) pass0 (pa_cons (pv 1) (pa_cons pe_int pa_nil))))) po_none)))
      (pss_cons (ps_set (i := 9) sc_law.nd rfl (.inl rfl) (pe_caught F_caught gl_caught gR TB rfl (hr.mono (by decide)) fun A outer s H E f c' hr => (k_bm K PySem.F.plainAttrs_list PySem.F.slot_list_append PySem.F.type_list_append mt_append (pv 7) (pa_cons (pe_c C_read_value (hr.mono (by decide)) (passE (takes_of rfl rfl rfl rfl) (fun _ _ _ _ h => h)) (pa_cons (pv 8) pa_nil)) pa_nil))))
      (pss_cons (ps_if (PW.pt (pw_and (pt_cmpR op_notN (pv 9) pe_non (nomark _)) (pw_and1 (PW.pt (pw_or (pt_not (pt_val (pe_callB (call_isK hEC) (by rfl) T.n_isinstance (by decide +kernel) (pa_cons (pv 9) (pa_cons (pe_gc gN) pa_nil))))) (pw_or (pt_cmpR op_ne (pe_xk hXF hNoL (pv 9)) pe_int (nomark _)) (pw_or1 (pt_cmpR op_eq (pv 8) (pv 4) (nomark _))))))))) (pss_one (ps_ret pe_bl)) pss_nil)
      (pss_one (ps_if (PW.pt (pw_and (pt_cmpR op_isN (pv 9) pe_non (nomark _)) (pw_and1 (pt_cmpR op_ne (pe_c C__law_written (hr.mono (by decide)) pass0 (pa_cons (pe_ix (k_ix K) (pv 7) pe_int (fun _ _ => rfl)) pa_nil)) (pv 8) (nomark _))))) (pss_one (ps_ret pe_bl)) pss_nil)))))))
      (pss_cons (ps_set (i := 10) sc_law.nd rfl (.inr rfl) (pe_c C__law_pick (hr.mono (by decide)) pass0 (pa_cons (pv 1) (pa_cons (pe_lst (pa_cons pe_str (pa_cons pe_str (pa_cons pe_str (pa_cons pe_str (pa_cons pe_str (pa_cons pe_str (pa_cons pe_str (pa_cons pe_str (pa_cons pe_str (pa_cons pe_str (pa_cons pe_str (pa_cons pe_str (pa_cons pe_str (pa_cons pe_str (pa_cons pe_str (pa_cons pe_non (pa_cons pe_int (pa_cons (pe_tup (pa_cons pe_str pa_nil)) pa_nil))))))))))))))))))) pa_nil))))
      (pss_cons (ps_if (pt_not (pt_val (pe_callB (call_isK hEC) (by rfl) T.n_isinstance (by decide +kernel) (pa_cons (pe_caught F_caught gl_caught gR TB rfl (hr.mono (by decide)) fun A outer s H E f c' hr => (pe_c C_read_bad (hr.mono (by decide)) (passE (takes_of rfl rfl rfl rfl) (fun _ _ _ _ h => h)) (pa_cons (pv 10) pa_nil))) (pa_cons (pe_gc gN) pa_nil))))) (pss_one (ps_ret pe_bl)) pss_nil)
      (pss_cons (ps_set (i := 11) sc_law.nd rfl (.inr rfl) (pe_c C__law_pick (hr.mono (by decide)) pass0 (pa_cons (pv 1) (pa_cons (pe_lst (pa_cons pe_str (pa_cons pe_str (pa_cons pe_str (pa_cons pe_str (pa_cons (pe_op op_sub pe_int pe_int) (pa_cons (pe_op op_pow pe_int pe_int) (pa_cons pe_bl (pa_cons (pe_lst (pa_cons pe_int pa_nil)) (pa_cons pe_dnewK (pa_cons (pe_tup (pa_cons pe_int (pa_cons (pe_lst (pa_cons pe_str pa_nil)) pa_nil))) (pa_cons (pe_tup (pa_cons pe_str (pa_cons (pe_tup (pa_cons pe_str pa_nil)) pa_nil))) (pa_cons (pe_cmpR (k_eq K hr.units) pe_int pe_int (nomark _)) pa_nil))))))))))))) pa_nil))))
      (pss_cons (ps_if (pt_not (pt_val (pe_callB (call_isK hEC) (by rfl) T.n_isinstance (by decide +kernel) (pa_cons (pe_caught F_caught gl_caught gR TB rfl (hr.mono (by decide)) fun A outer s H E f c' hr => (pe_c C_value_text (hr.mono (by decide)) (passE (takes_of rfl rfl rfl rfl) (fun _ _ _ _ h => h)) (pa_cons (pv 11) pa_nil))) (pa_cons (pe_gc gN) pa_nil))))) (pss_one (ps_ret pe_bl)) pss_nil)
      (pss_cons (ps_asg (pe_tup (pa_cons pe_int (pa_cons (pe_c C__law_pick (hr.mono (by decide)) pass0 (pa_cons (pv 1) (pa_cons (pe_lst (pa_cons pe_int (pa_cons pe_int (pa_cons pe_int pa_nil)))) pa_nil))) pa_nil))) (k_pgt K (by rfl) (pgs_cons (pg_name (i := 12) sc_law.nd rfl (.inr rfl)) (pgs_cons (pg_name (i := 13) sc_law.nd rfl (.inl rfl)) pgs_nil))))
      (pss_cons (ps_for PassesOwn.never rfl (pi_range1 (by rfl) T.n_range (pa_cons (pv 13) pa_nil)) (pg_name (i := 5) sc_law.nd rfl (.inl rfl)) (pss_one (ps_set (i := 12) sc_law.nd rfl (.inr rfl) (pe_tup (pa_cons (pv 12) pa_nil)))))
      (pss_cons (ps_set (i := 9) sc_law.nd rfl (.inl rfl) (pe_caught F_caught gl_caught gR TB rfl (hr.mono (by decide)) fun A outer s H E f c' hr => (pe_c C_value_text (hr.mono (by decide)) (passE (takes_of rfl rfl rfl rfl) (fun _ _ _ _ h => h)) (pa_cons (pv 12) pa_nil))))
      (pss_one (ps_if (PW.pt (pw_or (pt_cmpR (k_ne K hr.units) (pe_cmpR op_isN (pv 9) pe_non (nomark _)) (pe_cmpR op_lt (pv 13) pe_int (nomark _)) (nomark _)) (pw_or1 (PW.pt (pw_and (pt_cmpR op_isN (pv 9) pe_non (nomark _)) (pw_and1 (PW.pt (pw_or (pt_cmpR op_ne (pe_c C_value_text (hr.mono (by decide)) passF (pa_cons (pv 12) pa_nil)) (pe_op op_add_str (pe_op op_add_str (pe_op op_mul_str pe_str (pv 13)) pe_str) (pe_op op_mul_str pe_str (pv 13))) (nomark _)) (pw_or1 (pt_cmpR (k_ne K hr.units) (pe_c C_read_value (hr.mono (by decide)) passF (pa_cons (pe_c C_value_text (hr.mono (by decide)) passF (pa_cons (pv 12) pa_nil)) pa_nil)) (pv 12) (nomark _))))))))))) (pss_one (ps_ret pe_bl)) pss_nil))))))))))))))
      (pss_one (ps_ret pe_bl)))))), ?_⟩
    generalize He.tabOf K (He.codeOf K ("law", none)) = TP at *
    refine ⟨.ref a, rfl, a, ns, rfl, hS, hlen, fun H1 st g c s1 n1 n2 n3 d1 => ?_⟩
    have tab1 : LamX.Tabs [(TP, qL)] H1 := fun p hp => by
      rw [List.mem_singleton.mp hp]
      exact LamX.TabS.nil (s1 _ _ hT)
    have hS1 := s1.seq hS
    -- the first if
    refine ⟨le_line (by show 3 ≤ 16777216; decide), fun ta hta => ⟨Nat.zero_le _, fun tb htb => ⟨le_line (by show 3 ≤ 16777216; decide), fun tc htc => ?_⟩⟩⟩
    have s2 : Same H1 (upd (upd (upd H1 ta (.tup [.str (PySem.Str.ofString "a"), .int 3, .non])) tb (.tup [])) tc (.tup [.str (PySem.Str.ofString "run"), .ref ta, .ref tb])) := ((same_upd hta).trans (same_upd htb)).trans (same_upd htc)
    have trA : Tr (upd (upd (upd H1 ta (.tup [.str (PySem.Str.ofString "a"), .int 3, .non])) tb (.tup [])) tc (.tup [.str (PySem.Str.ofString "run"), .ref ta, .ref tb])) (.ref tc) d0 :=
      .tup upd_same (.cons (.str _) (.cons (.tup (((same_upd htb).trans (same_upd htc)) _ _ upd_same) (.cons (.str _) (.cons (.int _) (.cons .non .nil)))) (.cons (.tup ((same_upd htc) _ _ upd_same) .nil) .nil)))
    refine ⟨.ref tc, d0, rfl, Tr.od trA, d0_sz, fun _ H3 s3 => ⟨rfl, _, rfl, ?_⟩, fun z => by rw [d0_isv] at z; cases z⟩
    have e1 : V.str (⟨(wr d0).toArray⟩ : PySem.Str) = V.str t0 := (str_lit d0_wr).symm
    rw [e1, ne_same]
    refine iteF ⟨.str t0, rfl, .inl ⟨t0, rfl, by decide +kernel, fun d hrd H4 u s4 tru => ?_, fun z => by rw [d0_rd] at z; cases z⟩⟩
    rw [d0_rd] at hrd
    cases hrd
    refine ⟨le_line (by show 3 ≤ 16777216; decide), fun ta' hta' => ⟨Nat.zero_le _, fun tb' htb' => ⟨le_line (by show 3 ≤ 16777216; decide), fun tc' htc' => ?_⟩⟩⟩
    have s5 : Same H4 (upd (upd (upd H4 ta' (.tup [.str (PySem.Str.ofString "a"), .int 3, .non])) tb' (.tup [])) tc' (.tup [.str (PySem.Str.ofString "run"), .ref ta', .ref tb'])) := ((same_upd hta').trans (same_upd htb')).trans (same_upd htc')
    have trB : Tr (upd (upd (upd H4 ta' (.tup [.str (PySem.Str.ofString "a"), .int 3, .non])) tb' (.tup [])) tc' (.tup [.str (PySem.Str.ofString "run"), .ref ta', .ref tb'])) (.ref tc') d0 :=
      .tup upd_same (.cons (.str _) (.cons (.tup (((same_upd htb').trans (same_upd htc')) _ _ upd_same) (.cons (.str _) (.cons (.int _) (.cons .non .nil)))) (.cons (.tup ((same_upd htc') _ _ upd_same) .nil) .nil)))
    refine ⟨d0, d0, (tru.mono (Same.tu s5)).dp, trB.dp, shaped_of d0_plain d0_depth, shaped_of d0_plain d0_depth, _, rfl, ?_⟩
    rw [eqv_same d0_plain]
    have sA : Same H1 (upd (upd (upd H4 ta' (.tup [.str (PySem.Str.ofString "a"), .int 3, .non])) tb' (.tup [])) tc' (.tup [.str (PySem.Str.ofString "run"), .ref ta', .ref tb'])) := ((s2.trans s3).trans s4).trans s5
    have d2 := d1.same sA
    have tab2 := tab1.ext sA
    have hS2 := sA.seq hS1
    generalize upd (upd (upd H4 ta' (.tup [.str (PySem.Str.ofString "a"), .int 3, .non])) tb' (.tup [])) tc' (.tup [.str (PySem.Str.ofString "run"), .ref ta', .ref tb']) = H5 at *
    refine iteF ⟨.ref a, rfl, .ref a, ns.length, rfl, .inl ⟨_, hS2, (List.length_map ..).symm⟩, (ns.length : Int), 6, rfl, 5, _, rfl, rfl, 5 + (if (6 : Int) < (ns.length : Int) then 6 else (ns.length : Int)), rfl, by split <;> omega, by split <;> omega, ?_⟩
    refine for_range (lo := 0) (n := (5 + (if (6 : Int) < (ns.length : Int) then 6 else (ns.length : Int))).toNat) (fun i σ H' => ∃ (n : Nat) (x2 x3 x4 x5 x6 x7 x8 x9 x10 x11 x12 x13 : Option V), n ≤ i * 1000 ∧ σ = [some (.ref a), some (.ref st), x2, x3, x4, x5, x6, x7, x8, x9, x10, x11, x12, x13] ∧ Dr H' st g c n ∧ LamX.Tabs [(TP, qL)] H')
      ⟨0, _, _, _, _, _, _, _, _, _, _, _, _, Nat.zero_le _, rfl, d2, tab2⟩ ?_ fun σ H' _ => q H'
    have h40 : (2 : Nat) ^ 40 = 1099511627776 := by decide
    have bound : (5 + (if (6 : Int) < (ns.length : Int) then 6 else (ns.length : Int))).toNat ≤ 11 := by split <;> omega
    rintro i σ H6 hi ⟨n, x2, x3, x4, x5, x6, x7, x8, x9, x10, x11, x12, x13, hn, rfl, d3, tab3⟩
    clear d2 tab2 hS2 sA trA trB s2 s3 s4 s5
    have nd5 : nd 5 = 849 := by decide
    have szb5 : szb 5 = 4732 := by decide
    have wb5 : wb 5 = 4368 := by decide
    -- value, text
    refine ⟨.ref st, rfl, st, g, c, n, rfl, d3, by omega, fun H7 v d k7 d4 trv okv hb => ?_⟩
    have tab4 := tabs_kp tab3 d3 k7
    rw [nd5] at d4
    rw [szb5, wb5] at hb
    have okv60 : okT 60 d := okT_mono (by decide) okv
    have hisv : isv d = true := okT_isv (by decide) okv
    have hrd : rd (wr d) = some d := rd_wr hisv
    obtain ⟨pd1, pd2, pd3, pd4⟩ := okT_data 6 d okv
    have ptx := text_plain okv
    refine ⟨v, rfl, v, d, rfl, trv, okv60, by omega, fun H8 s8 => ?_⟩
    have d5 := d4.same s8
    have tab5 := tab4.ext s8
    have trv5 := trv.mono (Same.tu s8)
    have tlt : tl (strW d) = wr d := rfl
    -- the second if
    refine ⟨v, rfl, v, d, rfl, Tr.od trv5, by omega, fun _ H9 s9 => ⟨.str (strW d), rfl, .str (strW d), .str (strW d), .str (strW d), rfl, .str _, .str _, ptx, by simp [Ints12], ?_, by simp [PyData.depth], by decide, fun H10 s10 => ⟨true, rfl, iteF ?_⟩⟩, fun z => by rw [hisv] at z; cases z⟩
    · have e : (PyData.str (strW d)).bulk = (wr d).length := by simp [PyData.bulk]
      rw [e]
      have h20 : (2 : Nat) ^ 20 = 1048576 := by decide
      omega
    have s910 := s9.trans s10
    refine ⟨.str (strW d), rfl, .str (strW d), rfl, .inl ⟨strW d, rfl, by rw [len_tl, tlt]; omega, fun d' hd' H11 u s11 tru => ?_, fun z => by rw [tlt, hrd] at z; cases z⟩⟩
    rw [tlt, hrd] at hd'
    cases hd'
    have trv11 := trv5.mono (Same.tu (s910.trans s11))
    refine ⟨v, rfl, u, v, d, rfl, tru, trv11, pd1, pd2, ?_, by omega, by decide, fun H12 s12 => ⟨true, rfl, iteF ?_⟩⟩
    · have h20 : (2 : Nat) ^ 20 = 1048576 := by decide
      omega
    have s812 := (s910.trans s11).trans s12
    refine ⟨v, rfl, rfl, rfl, v, d, rfl, Tr.od (trv5.mono (Same.tu s812)), by omega, fun _ H13 s13 => ⟨.str (strW d), rfl, rfl, _, rfl, ?_⟩, fun z => by rw [hisv] at z; cases z⟩
    rw [ne_same]
    refine iteF ⟨.str (strW d), rfl, rfl, rfl, .str (strW d), rfl, .inl ⟨strW d, rfl, by rw [len_tl, tlt]; omega, fun d' hd' H14 u' s14 tru' => ?_, fun z => by rw [tlt, hrd] at z; cases z⟩⟩
    rw [tlt, hrd] at hd'
    cases hd'
    have s814 := (s812.trans s13).trans s14
    have trv14 := trv5.mono (Same.tu s814)
    refine ⟨v, rfl, d, d, tru'.dp, trv14.dp, shaped_of pd1 (by omega), shaped_of pd1 (by omega), _, rfl, ?_⟩
    rw [eqv_same pd1]
    refine iteF ?_
    have d6 := d5.same s814
    have tab6 := tab5.ext s814
    clear d5 tab5 d4 tab4 trv5 tru tru' trv11 trv s910 s812 s8 s9 s10 s11 s12 s13 s14 s814 d3 tab3 k7
    -- for lap in range(6)
    refine ⟨6, rfl, by decide, by decide, ?_⟩
    refine for_range (lo := 0) (n := 6) (fun j σ H' => ∃ (n' : Nat) (y5 y6 y7 y8 y9 : Option V), n' ≤ n + 849 + 3 * j ∧ σ = [some (.ref a), some (.ref st), some (.int (0 + (i : Int))), some v, some (.str (strW d)), y5, y6, y7, y8, y9, x10, x11, x12, x13] ∧ Dr H' st g c n' ∧ LamX.Tabs [(TP, qL)] H' ∧ Tr H' v d)
      ⟨n + 849, _, _, _, _, _, Nat.le_refl _, rfl, d6, tab6, trv14⟩ ?_ ?_
    · clear d6 tab6 trv14
      rintro j σ HA hj ⟨n', y5, y6, y7, y8, y9, hn', rfl, dA, tabA, trA⟩
      -- at, found = ..
      refine ⟨.ref st, rfl, .str (strW d), rfl, .str (strW d), (wr d).length, rfl, ⟨le_line (by rw [len_tl, tlt]; omega), by rw [len_tl, tlt]⟩, _, 1, rfl, rfl, st, g, c, n', _, rfl, by omega, by omega, dA, by omega, fun HB z kB dB z0 z1 => ?_⟩
      have tabB := tabs_kp tabA dA kB
      have trB := trA.mono (dA.tu kB)
      refine ⟨Nat.zero_le _, fun fa hfa => ⟨le_line (by show 2 ≤ 16777216; decide), fun tp htp => ?_⟩⟩
      have sB := (same_upd (o := HO.lst []) hfa).trans (same_upd (o := HO.tup [.int z, .ref fa]) htp)
      have nft : fa ≠ tp := ne_of_none upd_same htp
      have hfaB : (upd (upd HB fa (.lst [])) tp (.tup [.int z, .ref fa])) fa = some (.lst []) := by rw [upd_ne nft, upd_same]
      refine ⟨tp, _, rfl, SqT.of upd_same, rfl, _, _, rfl, _, _, rfl, rfl, ?_⟩
      obtain ⟨fB1, fB2, fB3⟩ := dB.free hfa
      have dB' := dB.same sB
      have tabB' := tabB.ext sB
      have trB' := trB.mono (Same.tu sB)
      generalize upd (upd HB fa (.lst [])) tp (.tup [.int z, .ref fa]) = HC at *
      -- bent = ..
      refine ⟨.str (strW d), rfl, .int z, rfl, z, rfl, strW d, rfl, le_line (by rw [len_tl, tlt]; omega), .ref st, rfl, le_line (by show 10 ≤ 16777216; decide), fun pl hpl => ?_⟩
      obtain ⟨fC1, fC2, fC3⟩ := dB'.free hpl
      refine ⟨st, g, c, pl, n' + 1, _, rfl, upd_same, fC2, by simp, (by show 10 ≤ 1000; decide), dB'.same (same_upd hpl), by omega, fun HD k x hx kD dD => ?_⟩
      obtain ⟨z2, rfl, hz2⟩ := pick_str hx
      have kD' : Kp st g HC HD := (Kp.of_same (same_upd hpl)).trans kD
      have tabD := tabs_kp tabB' dB' kD'
      have trD := trB'.mono (dB'.tu kD')
      have hfaD := kD' _ _ hfaB fB1 fB2
      have hsl : (strW d).length = (wr d).length := by rw [len_tl, tlt]
      have hc1 := cutS_length (strW d) none (some z)
      refine ⟨_, z2, rfl, rfl, le_line (by omega), ?_⟩
      refine ⟨.str (strW d), rfl, .int z, rfl, .ref st, rfl, st, g, c, n' + 2, 2, rfl, by decide, by decide, dD, by omega, fun HE z3 kE dE y0 y1 => ?_⟩
      have tabE := tabs_kp tabD dD kE
      have trE := trD.mono (dD.tu kE)
      have hfaE := kE _ _ hfaD fB1 fB2
      have hc2 := cutS_length (strW d) (some (z + z3)) none
      have happ : ∀ x y : PySem.Str, (x ++ y).length = x.length + y.length := fun x y => by rw [len_tl, tl_append, List.length_append, len_tl, len_tl]
      refine ⟨z, z3, rfl, rfl, _, rfl, strW d, rfl, le_line (by omega), _, _, rfl, rfl, le_line (by rw [happ]; omega), ?_⟩
      have hB : (cutS (strW d) none (some z) ++ z2 ++ cutS (strW d) (some (z + z3)) none).length ≤ 10000 := by
        rw [happ, happ]
        omega
      generalize cutS (strW d) none (some z) ++ z2 ++ cutS (strW d) (some (z + z3)) none = B at *
      clear hc1 hc2 tabD trD hfaD dD kD kD' tabB' trB' dB' hfaB sB tabB trB dB kB tabA trA dA hpl hx hz2
      -- error = _law_caught(..)
      refine ⟨tabE, fun HF eF tabF => ?_⟩
      have dF := dr_ext dE eF
      have trF := trE.mono (tu_ext eF)
      have hfaF := eF _ _ hfaE (fun ps z => by cases z)
      refine ⟨.ref fa, rfl, .inl ⟨rfl, _, SqL.of hfaF⟩, .str B, rfl, .str B, rfl, .inl ⟨B, rfl, by omega, fun e hre HG u sG trG => ?_, fun hre HG p sG hp hxp => ⟨true, EC.exm, fun _ ea hea => ?_, fun z => by cases z⟩⟩⟩
      · -- read: nothing is caught
        obtain ⟨he1, he2⟩ := rd_sound hre
        refine ⟨fa, _, _, rfl, rfl, sG _ _ hfaF, by decide, .non, rfl, ?_⟩
        have tuG : Tu HG (upd HG fa (.lst ([] ++ [u]))) := fun b xs e => by
          rw [upd_ne (ne_of e (sG _ _ hfaF) (fun z => nomatch z))]
          exact e
        refine ⟨.non, rfl, rfl, _, rfl, iteF ?_⟩
        have hst : strW e = B := ext_tl he2
        have hel : (wr e).length ≤ 10000 := by
          rw [he2, ← len_tl]
          exact hB
        refine ⟨.non, rfl, rfl, _, rfl, iteT ⟨.ref fa, rfl, .inl ⟨fa, _, 0, u, rfl, rfl, SqL.of upd_same, rfl, u, e, rfl, trG.mono tuG, isv_okT he1, by omega, fun HH sH => ⟨.str B, rfl, rfl, _, rfl, ?_⟩⟩⟩⟩
        have hst' : V.str (⟨(wr e).toArray⟩ : PySem.Str) = V.str B := by rw [← hst]
        rw [hst', ne_same]
        exact iteF ⟨n' + 3, _, _, _, _, _, by omega, rfl, ((dF.same sG).mut fB1 fB2 fB3).same sH, (tabs_mut (tabF.ext sG) (sG _ _ hfaF)).ext sH, ((trF.mono (Same.tu sG)).mono tuG).mono (Same.tu sH)⟩
      · -- refused
        have npe : p ≠ ea := ne_of_none hxp hea
        have sK := same_upd (o := exk ea (.ref C) (some p)) hea
        have hxp' := sK _ _ hxp
        have hne : B ≠ strW d := fun z => by
          rw [z, tlt, hrd] at hre
          cases hre
        refine ⟨.ref ea, rfl, rfl, _, rfl, iteT ⟨.ref ea, rfl, ea, p, _, .ref C, .ref C, true, rfl, upd_same, hxp', .own C, EC.kit, true, rfl, iteF ⟨.ref ea, rfl, ea, p, _, .int 0, rfl, upd_same, hxp', rfl, rfl, _, rfl, iteF ?_⟩⟩⟩
        refine ⟨.str B, rfl, .str (strW d), rfl, rfl, _, rfl, ?_⟩
        have hdec : decide (V.str B = V.str (strW d)) = false := decide_eq_false fun z => hne (by injection z)
        rw [hdec]
        refine iteF ⟨.ref ea, rfl, rfl, _, rfl, iteF ?_⟩
        exact ⟨n' + 3, _, _, _, _, _, by omega, rfl, (dF.same sG).same sK, (tabF.ext sG).ext sK, (trF.mono (Same.tu sG)).mono (Same.tu sK)⟩
    · rintro σ HA ⟨n', y5, y6, y7, y8, y9, hn', rfl, dA, tabA, trA⟩
      clear d6 tab6 trv14 trA
      -- wrong = ..
      refine ⟨.ref st, rfl, le_line (by show 1 ≤ 16777216; decide), fun tw htw => ⟨le_line (by show 18 ≤ 16777216; decide), fun pl hpl => ?_⟩⟩
      obtain ⟨w1, w2, w3⟩ := dA.free htw
      have sP := (same_upd (o := HO.tup [.str (PySem.Str.ofString "a")]) htw)
      obtain ⟨f1, f2, f3⟩ := dA.free (sP.free hpl)
      refine ⟨st, g, c, pl, n', _, rfl, upd_same, f2, by simp, (by show 18 ≤ 1000; decide), dA.same (sP.trans (same_upd hpl)), by omega, fun HB k x hx kB dB => ?_⟩
      have kB' := (Kp.of_same (st := st) (g := g) (sP.trans (same_upd hpl))).trans kB
      have htwB := kB _ _ ((same_upd hpl) _ _ upd_same) w1 w2
      have hno := pick_wrong htwB hx
      have tabB := tabs_kp tabA dA kB'
      -- the wrong one is refused
      have toC : ∀ HC, LamX.ExtN HB HC → NoRead HC x := fun HC eC => by
        rcases hno with ⟨z, a1, a2, a3⟩ | ⟨dd, b1, b2⟩
        · exact .inl ⟨z, a1, a2, a3⟩
        · exact .inr ⟨dd, od_ext eC b1, b2⟩
      refine ⟨tabB, fun HC eC tabC => ⟨x, rfl, x, rfl, toC HC eC, fun HD p sD hp hxp => ⟨true, EC.exm, fun _ ea hea => ?_, fun z => by cases z⟩⟩⟩
      have dC := dr_ext dB eC
      have sE := same_upd (o := exk ea (.ref C) (some p)) hea
      refine ⟨ea, p, _, .ref C, .ref C, true, rfl, upd_same, sE _ _ hxp, .own C, EC.kit, true, rfl, iteF ?_⟩
      have dE := (dC.same sD).same sE
      have tabE := (tabC.ext sD).ext sE
      generalize upd HD ea (exk ea (.ref C) (some p)) = HE at *
      clear toC hno htwB hx tabB tabC dB dC kB kB'
      -- odd = ..
      refine ⟨.ref st, rfl, 0, 1, rfl, rfl, 10, 12, rfl, rfl, ⟨by decide, by decide, by decide⟩, le_line (by show 1 ≤ 16777216; decide), fun l1 hl1 => ?_⟩
      intro dd hdd
      refine ⟨le_line (by show 1 ≤ 16777216; decide), fun l2 hl2 => ⟨le_line (by show 2 ≤ 16777216; decide), fun t1 ht1 => ⟨le_line (by show 1 ≤ 16777216; decide), fun t2 ht2 => ⟨le_line (by show 2 ≤ 16777216; decide), fun t3 ht3 => ?_⟩⟩⟩⟩
      have q1 := same_upd (o := HO.lst [.int 1]) hl1
      have q2 := same_upd (o := HO.dK []) hdd
      have q3 := same_upd (o := HO.lst [.str (PySem.Str.ofString "a")]) hl2
      have q4 := same_upd (o := HO.tup [.int 1, .ref l2]) ht1
      have q5 := same_upd (o := HO.tup [.str (PySem.Str.ofString "B")]) ht2
      have q6 := same_upd (o := HO.tup [.str (PySem.Str.ofString "a"), .ref t2]) ht3
      have a1 := q6 _ _ (q5 _ _ (q4 _ _ (q3 _ _ (q2 _ _ (upd_same (H := HE) (a := l1) (o := .lst [.int 1]))))))
      have a2 := q6 _ _ (q5 _ _ (q4 _ _ (q3 _ _ upd_same)))
      have a3 := q6 _ _ (q5 _ _ (q4 _ _ upd_same))
      have a4 := q6 _ _ (q5 _ _ upd_same)
      have a5 := q6 _ _ upd_same
      have sF := ((((q1.trans q2).trans q3).trans q4).trans q5).trans q6
      obtain ⟨b11, b12, _⟩ := dE.free hl1
      obtain ⟨b21, b22, _⟩ := dE.free (q1.free hdd)
      obtain ⟨b31, b32, _⟩ := dE.free ((q1.trans q2).free hl2)
      obtain ⟨b41, b42, _⟩ := dE.free (((q1.trans q2).trans q3).free ht1)
      obtain ⟨b51, b52, _⟩ := dE.free ((((q1.trans q2).trans q3).trans q4).free ht2)
      obtain ⟨b61, b62, _⟩ := dE.free (((((q1.trans q2).trans q3).trans q4).trans q5).free ht3)
      refine ⟨.int 1, .int 1, .int 1, .int 1, rfl, rfl, le_line (by show 12 ≤ 16777216; decide), fun pl2 hpl2 => ?_⟩
      have a6 : (upd (upd (upd (upd (upd (upd HE l1 (.lst [.int 1])) dd (.dK [])) l2 (.lst [.str (PySem.Str.ofString "a")])) t1 (.tup [.int 1, .ref l2])) t2 (.tup [.str (PySem.Str.ofString "B")])) t3 (.tup [.str (PySem.Str.ofString "a"), .ref t2])) t3 = some (.tup [.str (PySem.Str.ofString "a"), .ref t2]) := upd_same
      obtain ⟨c1, c2, _⟩ := dE.free (sF.free hpl2)
      refine ⟨st, g, c, pl2, n' + 1, _, rfl, upd_same, c2, by simp, (by show 12 ≤ 1000; decide), dE.same (sF.trans (same_upd hpl2)), by omega, fun HF k2 x2' hx2 kF dF => ?_⟩
      have kP := fun (b : Addr) (o : HO) e n1 n2 => kF b o ((same_upd hpl2) b o e) n1 n2
      obtain ⟨od, hod, hbad, hsz⟩ := pick_odd (H := HF) (kP _ _ a1 b11 b12) (kP _ _ a2 b21 b22) (kP _ _ a3 b31 b32) (kP _ _ a4 b41 b42) (kP _ _ a5 b51 b52) (kP _ _ a6 b61 b62) hx2
      have tabF := tabs_kp tabE dE ((Kp.of_same (st := st) (g := g) (sF.trans (same_upd hpl2))).trans kF)
      clear kP a1 a2 a3 a4 a5 a6 q1 q2 q3 q4 q5 q6
      -- the odd one is refused
      refine ⟨tabF, fun HG eG tabG => ⟨x2', rfl, x2', od, rfl, od_ext eG hod, by omega, fun z => (by rw [hbad] at z; cases z), fun _ HI p2 sI hp2 hxp2 => ⟨true, EC.exm, fun _ ea2 hea2 => ?_, fun z => by cases z⟩⟩⟩
      have sJ := same_upd (o := exk ea2 (.ref C) (some p2)) hea2
      refine ⟨ea2, p2, _, .ref C, .ref C, true, rfl, upd_same, sJ _ _ hxp2, .own C, EC.kit, true, rfl, iteF ?_⟩
      have dJ := ((dr_ext dF eG).same sI).same sJ
      have tabJ := (tabG.ext sI).ext sJ
      generalize upd HI ea2 (exk ea2 (.ref C) (some p2)) = HJ at *
      clear hod hbad hsz tabF tabG hx2 dF kF sF dE tabE
      -- deep, many = ..
      refine ⟨.ref st, rfl, le_line (by show 3 ≤ 16777216; decide), fun pl3 hpl3 => ?_⟩
      obtain ⟨g1, g2, g3⟩ := dJ.free hpl3
      refine ⟨st, g, c, pl3, n' + 2, _, rfl, upd_same, g2, by simp, (by show 3 ≤ 1000; decide), dJ.same (same_upd hpl3), by omega, fun HK k3 x3' hx3 kK dK => ?_⟩
      have tabK := tabs_kp tabJ dJ ((Kp.of_same (st := st) (g := g) (same_upd hpl3)).trans kK)
      obtain ⟨M, rfl, hM1, hM2⟩ := pick_many hx3
      refine ⟨le_line (by show 2 ≤ 16777216; decide), fun tq htq => ⟨tq, _, rfl, SqT.of upd_same, rfl, _, _, rfl, _, _, rfl, rfl, ?_⟩⟩
      have dL := dK.same (same_upd (o := HO.tup [.int 7, .int (M : Nat)]) htq)
      have tabL := tabK.ext (same_upd (o := HO.tup [.int 7, .int (M : Nat)]) htq)
      generalize upd HK tq (.tup [.int 7, .int (M : Nat)]) = HL at *
      -- for lap in range(many)
      refine ⟨.int (M : Nat), rfl, _, rfl, by omega, by omega, ?_⟩
      refine for_range (lo := 0) (n := ((M : Nat) : Int).toNat) (fun j σ H' => ∃ (y5 : Option V) (u : V), σ = [some (.ref a), some (.ref st), some (.int (0 + (i : Int))), some v, some (.str (strW d)), y5, y6, y7, y8, y9, some x, some x2', some u, some (.int (M : Nat))] ∧ Tr H' u (nest j) ∧ Dr H' st g c (n' + 3) ∧ LamX.Tabs [(TP, qL)] H')
        ⟨_, .int 7, rfl, .int 7, dL, tabL⟩ ?_ ?_
      · rintro j σ H' hj ⟨y5', u, rfl, tr, dM, tabM⟩
        refine ⟨u, rfl, le_line (by show 1 ≤ 16777216; decide), fun tn htn => ⟨_, .ref tn, rfl, .tup upd_same (.cons (tr.mono (Same.tu (same_upd htn))) .nil), dM.same (same_upd htn), tabM.ext (same_upd htn)⟩⟩
      · rintro σ H' ⟨y5', u, rfl, tr, dM, tabM⟩
        rw [Int.toNat_natCast] at tr
        clear dL tabL dK tabK dJ tabJ kK hx3 hpl3
        have hnv := nest_isv hM2
        have hnz := nest_sz M
        -- error = ..
        refine ⟨tabM, fun HN eN tabN => ?_⟩
        have dN := dr_ext dM eN
        have trN := tr.mono (tu_ext eN)
        refine ⟨u, rfl, u, nest M, rfl, Tr.od trN, by omega, fun hv HO_ sO => ⟨.non, rfl, ?_⟩, fun hv HO_ p3 sO hp3 hxp3 => ⟨true, EC.exm, fun _ ea3 hea3 => ?_, fun z => by cases z⟩⟩
        · -- few
          rw [hnv] at hv
          have hlt : M < 60 := of_decide_eq_true hv
          have hv' : isv (nest M) = true := by rw [hnv]; exact hv
          have dO := dN.same sO
          have tabO := tabN.ext sO
          have trO := trN.mono (Same.tu sO)
          have hdec : decide (((M : Nat) : Int) < 60) = true := decide_eq_true (by omega)
          refine ⟨.non, rfl, rfl, .int (M : Nat), rfl, _, 60, rfl, rfl, .bool true, .bool (decide (((M : Nat) : Int) < 60)), .bl _, .bl _, by decide +kernel, shaped_bool _, _, rfl, ?_⟩
          rw [hdec, eqv_tt]
          refine iteF ⟨.non, rfl, rfl, _, rfl, iteT ?_⟩
          have trO' := Tr.od trO
          have hl : tl (strW (nest M)) = wr (nest M) := rfl
          have hlen : (wr (nest M)).length = 2 * M + 1 := by
            rw [nest_wr, List.length_append, List.length_append, List.length_replicate, List.length_replicate]
            simp
            omega
          refine ⟨u, rfl, u, nest M, rfl, trO', by omega, fun _ HP sP => ⟨.int (M : Nat), rfl, PySem.Str.ofString "(", (M : Nat), rfl, rfl, by omega, by omega, by decide +kernel, _, PySem.Str.ofString "7", rfl, rfl, ?_, .int (M : Nat), rfl, PySem.Str.ofString ")", (M : Nat), rfl, rfl, by omega, by omega, by decide +kernel, _, _, rfl, rfl, ?_, rfl, _, rfl, ?_⟩, fun z => (by rw [hv'] at z; cases z)⟩
          · rw [len_tl, len_tl, rep40]
            rw [Int.toNat_natCast, List.length_replicate, tl7]
            exact le_line (by show M + 1 ≤ _; omega)
          · rw [len_tl, len_tl, tl_append, rep40, rep41, tl7, List.length_append, Int.toNat_natCast, List.length_replicate, List.length_replicate]
            exact le_line (by show M + 1 + M ≤ _; omega)
          have est : V.str (⟨(wr (nest M)).toArray⟩ : PySem.Str) = V.str (⟨(List.replicate ((M : Nat) : Int).toNat (tl (PySem.Str.ofString "("))).flatten.toArray⟩ ++ PySem.Str.ofString "7" ++ ⟨(List.replicate ((M : Nat) : Int).toNat (tl (PySem.Str.ofString ")"))).flatten.toArray⟩) := by
            congr 1
            apply ext_tl
            rw [tl_append, tl_append, rep40, rep41, tl7, Int.toNat_natCast]
            show wr (nest M) = _
            rw [nest_wr]
          rw [← est, ne_same]
          obtain ⟨np1, np2, np3, np4⟩ := okT_data (M + 1) _ (nest_okT M)
          have sNP := sO.trans sP
          refine iteF ⟨u, rfl, u, nest M, rfl, Tr.od (trN.mono (Same.tu sNP)), by omega, fun _ HQ sQ => ⟨_, rfl, .inl ⟨strW (nest M), rfl, by rw [len_tl, hl]; omega, fun d' hd' HR uu sR trr => ?_, fun z => (by rw [hl, rd_wr hv'] at z; cases z)⟩⟩, fun z => (by rw [hv'] at z; cases z)⟩
          rw [hl, rd_wr hv'] at hd'
          cases hd'
          have sNR := (sNP.trans sQ).trans sR
          refine ⟨u, rfl, nest M, nest M, trr.dp, (trN.mono (Same.tu sNR)).dp, shaped_of np1 (by omega), shaped_of np1 (by omega), _, rfl, ?_⟩
          rw [eqv_same np1]
          exact iteF ⟨n' + 3, _, _, _, _, _, _, _, _, _, _, _, _, by omega, rfl, dN.same sNR, tabN.ext sNR⟩
        · -- sixty
          rw [hnv] at hv
          have hge : ¬ M < 60 := of_decide_eq_false hv
          have hdec : decide (((M : Nat) : Int) < 60) = false := decide_eq_false (by omega)
          have sP := same_upd (o := exk ea3 (.ref C) (some p3)) hea3
          refine ⟨.ref ea3, rfl, rfl, .int (M : Nat), rfl, _, 60, rfl, rfl, .bool false, .bool (decide (((M : Nat) : Int) < 60)), .bl _, .bl _, by decide +kernel, shaped_bool _, _, rfl, ?_⟩
          rw [hdec, eqv_ff]
          refine iteF ⟨.ref ea3, rfl, rfl, _, rfl, iteF ?_⟩
          exact ⟨n' + 3, _, _, _, _, _, _, _, _, _, _, _, _, by omega, rfl, (dN.same sO).same sP, (tabN.ext sO).ext sP⟩
end

end K76



set_option Elab.async false
set_option linter.all false
set_option maxRecDepth 100000
set_option maxHeartbeats 0
namespace K76
open PySem PySem.Spec PyProof.Rows L2 U TL Vt
def d_is_word : He.DefD := ⟨("is_word", none), "is_word", "is_word", defArgs s_is_word, defBody s_is_word, defScope s_is_word, [], []⟩
def d_is_whole : He.DefD := ⟨("is_whole", none), "is_whole", "is_whole", defArgs s_is_whole, defBody s_is_whole, defScope s_is_whole, [], []⟩
def d_is_value : He.DefD := ⟨("is_value", none), "is_value", "is_value", defArgs s_is_value, defBody s_is_value, defScope s_is_value, [], []⟩
def d_value_text : He.DefD := ⟨("value_text", none), "value_text", "value_text", defArgs s_value_text, defBody s_value_text, defScope s_value_text, [], []⟩
def d_pieces_in : He.DefD := ⟨("pieces_in", none), "pieces_in", "pieces_in", defArgs s_pieces_in, defBody s_pieces_in, defScope s_pieces_in, [], []⟩
def d_plain_of : He.DefD := ⟨("plain_of", none), "plain_of", "plain_of", defArgs s_plain_of, defBody s_plain_of, defScope s_plain_of, [], []⟩
def d_read_value : He.DefD := ⟨("read_value", none), "read_value", "read_value", defArgs s_read_value, defBody s_read_value, defScope s_read_value, [], []⟩
def d__law_begun : He.DefD := ⟨("_law_begun", none), "_law_begun", "_law_begun", defArgs s__law_begun, defBody s__law_begun, defScope s__law_begun, [], []⟩
def d__law_mixed : He.DefD := ⟨("_law_mixed", none), "_law_mixed", "_law_mixed", defArgs s__law_mixed, defBody s__law_mixed, defScope s__law_mixed, [], []⟩
def d__law_draw : He.DefD := ⟨("_law_draw", none), "_law_draw", "_law_draw", defArgs s__law_draw, defBody s__law_draw, defScope s__law_draw, [], []⟩
def d__law_pick : He.DefD := ⟨("_law_pick", none), "_law_pick", "_law_pick", defArgs s__law_pick, defBody s__law_pick, defScope s__law_pick, [], []⟩
def d__law_plain : He.DefD := ⟨("_law_plain", none), "_law_plain", "_law_plain", defArgs s__law_plain, defBody s__law_plain, defScope s__law_plain, [], []⟩
def d__law_is : He.DefD := ⟨("_law_is", none), "_law_is", "_law_is", defArgs s__law_is, defBody s__law_is, defScope s__law_is, [], []⟩
def d__law_caught : He.DefD := ⟨("_law_caught", none), "_law_caught", "_law_caught", defArgs s__law_caught, defBody s__law_caught, defScope s__law_caught, [], []⟩
def d__law_value : He.DefD := ⟨("_law_value", none), "_law_value", "_law_value", defArgs s__law_value, defBody s__law_value, defScope s__law_value, [], []⟩
def d__law_written : He.DefD := ⟨("_law_written", none), "_law_written", "_law_written", defArgs s__law_written, defBody s__law_written, defScope s__law_written, [], []⟩
def d_law : He.DefD := ⟨("law", none), "law", "law", defArgs s_law, defBody s_law, defScope s_law, [], []⟩
def d_NoText___init__ : He.DefD := ⟨("NoText", some "__init__"), "__init__", "NoText.__init__", defArgs s_NoText___init__, defBody s_NoText___init__, defScope s_NoText___init__, [.non], []⟩
def fnL : List He.DefD := [d_is_word, d_is_whole, d_is_value, d_value_text, d_pieces_in, d_plain_of, d_read_value, d__law_begun, d__law_mixed, d__law_draw, d__law_pick, d__law_plain, d__law_is, d__law_caught, d__law_value, d__law_written, d_law, d_NoText___init__]
def faL : List He.Fa := [.glo "is_word", .glo "is_whole", .glo "is_value", .glo "value_text", .glo "pieces_in", .glo "plain_of", .glo "read_value", .glo "_law_begun", .glo "_law_mixed", .glo "_law_draw", .glo "_law_pick", .glo "_law_plain", .glo "_law_is", .glo "_law_caught", .glo "_law_value", .glo "_law_written", .glo "law", .glo "RootError", .glo "NoText", .free "abs", .free "all", .free "bool", .free "dict", .free "enumerate", .free "int", .free "isinstance", .free "len", .free "list", .free "min", .free "range", .free "repr", .free "str", .free "tuple", .str "LETTERS" (PySem.Str.ofString "abcdefghijklmnopqrstuvwxyz"), .str "DIGITS" (PySem.Str.ofString "0123456789"), .int "MOST_DEEP" 60, .int "MOST_SIGNS" 12, .str "NOTHING" (PySem.Str.ofString "-")]
abbrev RR : PySem.W.OpenRow := PySem.W.OpenLaw.row PySem.Challenge.rw_claimroots_k76_whole_values_as_texts
def exB (K : PySem.W.Frag) : Bool := errB K "NoText" "RootError" "line"
abbrev tfL : List He.Defn := [("law", none)]
abbrev hk : PySem.W.Hook := U.hookY 6 faL fnL [] tfL exB
def ob (s : PySem.W.SharedT) : He.AlX := U.obsY 6 faL fnL [] tfL exB (HandSHeadRun.getT s)
theorem ob_eq (s : PySem.W.SharedT) : ob s = hk.obs s.abs := U.obsY_eq (HandSHeadRun.getT_eq s)
theorem run (w : World) : HandSHeadRun.RunEq RR (PySem.W.view RR.prog [26]) hk ob 6000 ((["DIGITS", "LETTERS", "MOST_DEEP", "MOST_SIGNS", "NOTHING", "NoText", "RootError", "_law_begun", "_law_caught", "_law_draw", "_law_is", "_law_mixed", "_law_pick", "_law_plain", "_law_value", "_law_written", "is_value", "is_whole", "is_word", "pieces_in", "plain_of", "read_value", "value_text"] : List PySem.Str)) w := by
  intro os
  kernel_rfl
theorem facts {P : Program} {w : World} {K : PySem.W.Frag} {h : Heap} {mg : PySem.Str → Option Value} {f : Addr} (X : K.In h) (G : h.Ns mainGlobals mg) (hfa : mg ("law" : PySem.Str) = some (.ref f)) (c0 : He.SaysX faL fnL [] tfL exB w h K) :
    ∃ fd : FuncData, (∀ (s : Shared) (v : Value), BindsTo s fd ⟨[v], []⟩ [("script", v)]) ∧ ∀ base : Heap, K.In base → base.Ns mainGlobals mg → LamX.TabB base mg (He.codeOf K ("law", none)) (He.tabOf K (He.codeOf K ("law", none))) →
      FnG P w K mg base (L2.CX P w) 62 f fd ["script"] (spLaw K (He.tabOf K (He.codeOf K ("law", none)))) := by
  have c := c0.t.d
  have err : ErrF K "NoText" "RootError" "line" := errB_ok c0.more
  obtain ⟨fd_is_word, F_is_word⟩ := c.def_ 0 (d := d_is_word) rfl
  have gl_is_word := He.glo_ok X G (c.fact 0 (f := .glo "is_word") rfl)
  obtain ⟨fd_is_whole, F_is_whole⟩ := c.def_ 1 (d := d_is_whole) rfl
  have gl_is_whole := He.glo_ok X G (c.fact 1 (f := .glo "is_whole") rfl)
  obtain ⟨fd_is_value, F_is_value⟩ := c.def_ 2 (d := d_is_value) rfl
  have gl_is_value := He.glo_ok X G (c.fact 2 (f := .glo "is_value") rfl)
  obtain ⟨fd_value_text, F_value_text⟩ := c.def_ 3 (d := d_value_text) rfl
  have gl_value_text := He.glo_ok X G (c.fact 3 (f := .glo "value_text") rfl)
  obtain ⟨fd_pieces_in, F_pieces_in⟩ := c.def_ 4 (d := d_pieces_in) rfl
  have gl_pieces_in := He.glo_ok X G (c.fact 4 (f := .glo "pieces_in") rfl)
  obtain ⟨fd_plain_of, F_plain_of⟩ := c.def_ 5 (d := d_plain_of) rfl
  have gl_plain_of := He.glo_ok X G (c.fact 5 (f := .glo "plain_of") rfl)
  obtain ⟨fd_read_value, F_read_value⟩ := c.def_ 6 (d := d_read_value) rfl
  have gl_read_value := He.glo_ok X G (c.fact 6 (f := .glo "read_value") rfl)
  obtain ⟨fd__law_begun, F__law_begun⟩ := c.def_ 7 (d := d__law_begun) rfl
  have gl__law_begun := He.glo_ok X G (c.fact 7 (f := .glo "_law_begun") rfl)
  obtain ⟨fd__law_mixed, F__law_mixed⟩ := c.def_ 8 (d := d__law_mixed) rfl
  have gl__law_mixed := He.glo_ok X G (c.fact 8 (f := .glo "_law_mixed") rfl)
  obtain ⟨fd__law_draw, F__law_draw⟩ := c.def_ 9 (d := d__law_draw) rfl
  have gl__law_draw := He.glo_ok X G (c.fact 9 (f := .glo "_law_draw") rfl)
  obtain ⟨fd__law_pick, F__law_pick⟩ := c.def_ 10 (d := d__law_pick) rfl
  have gl__law_pick := He.glo_ok X G (c.fact 10 (f := .glo "_law_pick") rfl)
  obtain ⟨fd__law_plain, F__law_plain⟩ := c.def_ 11 (d := d__law_plain) rfl
  have gl__law_plain := He.glo_ok X G (c.fact 11 (f := .glo "_law_plain") rfl)
  obtain ⟨fd__law_is, F__law_is⟩ := c.def_ 12 (d := d__law_is) rfl
  have gl__law_is := He.glo_ok X G (c.fact 12 (f := .glo "_law_is") rfl)
  obtain ⟨fd__law_caught, F__law_caught⟩ := c.def_ 13 (d := d__law_caught) rfl
  have gl__law_caught := He.glo_ok X G (c.fact 13 (f := .glo "_law_caught") rfl)
  obtain ⟨fd__law_value, F__law_value⟩ := c.def_ 14 (d := d__law_value) rfl
  have gl__law_value := He.glo_ok X G (c.fact 14 (f := .glo "_law_value") rfl)
  obtain ⟨fd__law_written, F__law_written⟩ := c.def_ 15 (d := d__law_written) rfl
  have gl__law_written := He.glo_ok X G (c.fact 15 (f := .glo "_law_written") rfl)
  obtain ⟨fd_law, F_law⟩ := c.def_ 16 (d := d_law) rfl
  have gl_law := He.glo_ok X G (c.fact 16 (f := .glo "law") rfl)
  obtain ⟨fd_NoText___init__, F_NoText___init__⟩ := c.def_ 17 (d := d_NoText___init__) rfl
  have gN := He.glo_ok X G (c.fact 18 (f := .glo "NoText") rfl)
  have gR := He.glo_ok X G (c.fact 17 (f := .glo "RootError") rfl)
  have T : Bi mg := ⟨He.free_ok X G (c.fact 19 (f := .free "abs") rfl), He.free_ok X G (c.fact 20 (f := .free "all") rfl), He.free_ok X G (c.fact 21 (f := .free "bool") rfl), He.free_ok X G (c.fact 22 (f := .free "dict") rfl), He.free_ok X G (c.fact 23 (f := .free "enumerate") rfl), He.free_ok X G (c.fact 24 (f := .free "int") rfl), He.free_ok X G (c.fact 25 (f := .free "isinstance") rfl), He.free_ok X G (c.fact 26 (f := .free "len") rfl), He.free_ok X G (c.fact 27 (f := .free "list") rfl), He.free_ok X G (c.fact 28 (f := .free "min") rfl), He.free_ok X G (c.fact 29 (f := .free "range") rfl), He.free_ok X G (c.fact 30 (f := .free "repr") rfl), He.free_ok X G (c.fact 31 (f := .free "str") rfl), He.free_ok X G (c.fact 32 (f := .free "tuple") rfl), He.str_ok X G (c.fact 33 (f := .str "LETTERS" (PySem.Str.ofString "abcdefghijklmnopqrstuvwxyz")) rfl), He.str_ok X G (c.fact 34 (f := .str "DIGITS" (PySem.Str.ofString "0123456789")) rfl), He.int_ok X G (c.fact 35 (f := .int "MOST_DEEP" 60) rfl), He.int_ok X G (c.fact 36 (f := .int "MOST_SIGNS" 12) rfl), He.str_ok X G (c.fact 37 (f := .str "NOTHING" (PySem.Str.ofString "-")) rfl)⟩
  have e := hfa.symm.trans gl_law
  cases e
  have b := FunD.bindsA (ps := ["script"]) F_law fun _ _ _ _ _ _ us hl => match us, hl with | [_], _ => rfl
  refine ⟨fd_law, fun s v => b s [v] rfl, fun base _ _ TB => ?_⟩
  have G_ini := ok_ini (P := P) (w := w) (mg := mg) (base := base) F_NoText___init__ err.oex err.ini gR err.noL
  have M1 : CalM P w K mg base "NoText" (He.ga K "NoText") 1 [.non] (spIni (He.ga K "NoText")) := by
    obtain ⟨ds, v, bd⟩ := FunD.binds1 (ps := P_NoText___init__) F_NoText___init__ 2 0 (by simp [He.DefD.dvs, d_NoText___init__]) rfl fun _ _ _ _ _ _ _ us its h1 h2 => match us, its, h1, h2 with | [_, _], [_], _, _ => ⟨_, rfl, rfl⟩
    exact ⟨_, _, _, ds, err.oex, err.iC, err.tI, G_ini, bd, v, gN⟩
  have M2 : CalM P w K mg base "NoText" (He.ga K "NoText") 1 [] (spIni (He.ga K "NoText")) := by
    obtain ⟨ds, v, bd⟩ := FunD.binds1 (ps := P_NoText___init__) F_NoText___init__ 3 1 (by simp [He.DefD.dvs, d_NoText___init__]) rfl fun _ _ _ _ _ _ _ us its h1 h2 => match us, its, h1, h2 with | [_, _, _], [_], _, _ => ⟨_, rfl, rfl⟩
    exact ⟨_, _, _, ds, err.oex, err.iC, err.tI, G_ini, bd, v, gN⟩
  have C__law_begun := cal_of F__law_begun gl__law_begun (ok_begun (P := P) (w := w) (base := base) F__law_begun T) (fun _ _ _ _ _ _ us hl => match us, hl with | [_], _ => rfl)
  have C__law_mixed := cal_of F__law_mixed gl__law_mixed (ok_mixed (P := P) (w := w) (base := base) F__law_mixed T) (fun _ _ _ _ _ _ us hl => match us, hl with | [_], _ => rfl)
  have C__law_draw := cal_of F__law_draw gl__law_draw (ok_draw F__law_draw T C__law_mixed) (fun _ _ _ _ _ _ us hl => match us, hl with | [_, _], _ => rfl)
  have C__law_pick := cal_of F__law_pick gl__law_pick (ok_pick F__law_pick T C__law_draw) (fun _ _ _ _ _ _ us hl => match us, hl with | [_, _], _ => rfl)
  have C__law_plain := cal_of F__law_plain gl__law_plain (ok_plain (P := P) (w := w) (base := base) F__law_plain gl__law_plain T 7) (fun _ _ _ _ _ _ us hl => match us, hl with | [_], _ => rfl)
  have C__law_is := calG_of F__law_is gl__law_is (ok_is F__law_is T C__law_plain) (fun _ _ _ _ _ _ us hl => match us, hl with | [_, _], _ => rfl)
  have C__law_value := cal_of F__law_value gl__law_value (ok_val F__law_value gl__law_value T C__law_draw C__law_pick 5) (fun _ _ _ _ _ _ us hl => match us, hl with | [_, _], _ => rfl)
  have C__law_written := cal_of F__law_written gl__law_written (ok_written (P := P) (w := w) (base := base) F__law_written gl__law_written T 60) (fun _ _ _ _ _ _ us hl => match us, hl with | [_], _ => rfl)
  have C_is_word := cal_of F_is_word gl_is_word (ok_word (P := P) (w := w) (base := base) F_is_word T) (fun _ _ _ _ _ _ us hl => match us, hl with | [_], _ => rfl)
  have C_is_whole := cal_of F_is_whole gl_is_whole (ok_whole (P := P) (w := w) (base := base) F_is_whole T) (fun _ _ _ _ _ _ us hl => match us, hl with | [_], _ => rfl)
  have C_is_value := cal_of F_is_value gl_is_value (ok_value F_is_value T C_is_word C_is_whole) (fun _ _ _ _ _ _ us hl => match us, hl with | [_], _ => rfl)
  have G_text := ok_text F_value_text T C_is_value M1
  have C_value_text := cal_of F_value_text gl_value_text G_text (fun _ _ _ _ _ _ us hl => match us, hl with | [_], _ => rfl)
  have C_pieces_in := cal_of F_pieces_in gl_pieces_in (ok_pieces (P := P) (w := w) (base := base) F_pieces_in T) (fun _ _ _ _ _ _ us hl => match us, hl with | [_], _ => rfl)
  have C_plain_of := cal_of F_plain_of gl_plain_of (ok_plainof F_plain_of T C_is_word) (fun _ _ _ _ _ _ us hl => match us, hl with | [_], _ => rfl)
  have G_read := ok_read F_read_value T C_pieces_in C_plain_of C_is_value C_value_text M2
  have C_read_value := cal_of F_read_value gl_read_value G_read (fun _ _ _ _ _ _ us hl => match us, hl with | [_], _ => rfl)
  have CKv := calK_of (ks := ["value"]) F_value_text gl_value_text G_text (fun {α} l => l) (fun r => r) fun _ _ _ _ _ _ ws hl => match ws, hl with | [_], _ => rfl
  have CKr := calK_of (ks := ["text"]) F_read_value gl_read_value G_read (fun {α} l => l) (fun r => r) fun _ _ _ _ _ _ ws hl => match ws, hl with | [_], _ => rfl
  exact ok_law F_law T F__law_caught gl__law_caught gR gN ⟨err.ec, err.xf, err.noL, err.exm, err.kit⟩ TB C__law_begun C__law_draw C__law_pick C__law_value C__law_written C__law_is C_value_text C_read_value CKv CKr
end K76
open PySem PySem.W PySem.Calls PyProof.Rows
theorem PySem.Challenge.cw_claimroots_k76_whole_values_as_texts_holds : PySem.Challenge.rw_claimroots_k76_whole_values_as_texts.Holds := by
  w_on; o_law
  refine HandSHeadRun.head_any (r := OpenLaw.row PySem.Challenge.rw_claimroots_k76_whole_values_as_texts) (q := view (OpenLaw.row PySem.Challenge.rw_claimroots_k76_whole_values_as_texts).prog [26]) (H := K76.hk) (ob := K76.ob) (M := 6000) (loose := ((["DIGITS", "LETTERS", "MOST_DEEP", "MOST_SIGNS", "NOTHING", "NoText", "RootError", "_law_begun", "_law_caught", "_law_draw", "_law_is", "_law_mixed", "_law_pick", "_law_plain", "_law_value", "_law_written", "is_value", "is_whole", "is_word", "pieces_in", "plain_of", "read_value", "value_text"] : List PySem.Str))) (d := HandSHeadRun.topDef (OpenLaw.row PySem.Challenge.rw_claimroots_k76_whole_values_as_texts).prog 26) (kwd := []) K76.ob_eq
    (by kernel_rfl) (fun s => by kernel_rfl) K76.run (by kernel_rfl) (by kernel_rfl) (by kernel_rfl) (by rfl) (by first | assumption | decide +kernel) (by decide +kernel) ⟨rfl, rfl, rfl, rfl, rfl, by decide +kernel⟩ ?hw ?hc
  case hw => w_witness2
  case hc =>
    refine U.walk_ofTG (l := PySem.Challenge.rw_claimroots_k76_whole_values_as_texts) (n := 63) (k := 62) (x := "script") (CX := fun w => L2.CX (PySem.Challenge.rw_claimroots_k76_whole_values_as_texts).prog w) rfl (by decide) (by kernel_rfl) ⟨rfl, by decide, by decide⟩ ?F (fun _ _ _ _ _ cc => by obtain ⟨_, _, _, _, _, _, _, _, _, _, _, _, z⟩ := cc; exact z)
    intro w mg fa h Y G hmg0
    obtain ⟨K, KX, c⟩ := Y
    have hmg : mg ("law" : PySem.Str) = some (.ref fa) := by
      have e : (HandSHeadRun.topDef (OpenLaw.row PySem.Challenge.rw_claimroots_k76_whole_values_as_texts).prog 26).name = ("law" : PySem.Str) := by kernel_rfl
      rw [← e]
      exact hmg0
    obtain ⟨fd, hb, hF⟩ := K76.facts (P := (PySem.Challenge.rw_claimroots_k76_whole_values_as_texts).prog) (w := w) KX G hmg c
    have one : ∀ p ∈ [He.cT K ("law", none)], ∃ q ∈ K76.tfL, p = He.cT K q := fun p hp => ⟨_, List.mem_singleton.mpr rfl, List.mem_singleton.mp hp⟩
    refine ⟨K, fd, [He.cT K ("law", none)], K76.spLaw K (He.tabOf K (He.codeOf K ("law", none))), KX, fun p hp => ?_, fun p hp => ?_, fun p hp => ?_, hb, fun H a ns hl hT hS => ⟨a, ns, rfl, hS, hl, hT _ (List.mem_singleton.mpr rfl), fun _ => rfl⟩, fun base h1 h2 hTB => hF base h1 h2 (hTB _ (List.mem_singleton.mpr rfl))⟩
    · obtain ⟨q, hq, rfl⟩ := one p hp
      exact c.empty q hq
    · obtain ⟨q, hq, rfl⟩ := one p hp
      exact c.out q hq
    · obtain ⟨q, hq, rfl⟩ := one p hp
      exact c.hd q hq

