import PyProof.Rows.All
import Wide.All
import OpenK.AllK
import Wide.FinOn
import PyProof.EqAt
import PyProof.EqKinds
import PyProof.TupleCall
import KE.KStateDown
import Lean
import HandS.ForMost
import HandS.More
import HandS.DictComp
import HandS.IsInst
import HandS.Defaults
import HandS.Head0
import HandS.Head1
import HandS.Head2
import HandS.HeadEnd
import HandS.HeadHook1
import HandS.HeadHook2
import HandS.RaiseMore
import HandS.Codes
import HandS.SortInts
import PyProof.ReprBulk
import PySem.Challenge.RW_claimroots_k75_whole_bases_of_commits
set_option Elab.async false
set_option linter.all false
set_option maxRecDepth 100000
set_option maxHeartbeats 4000000
/-! rules beside the layer's: extend by a tuple, repr of data, defs that are called where no repr runs -/
namespace U
open PySem PySem.Spec PyProof.Rows L2

/-! ### list.extend(tuple) -/
theorem list_extend_tup (l : Addr) (items : Array Value) (n : Nat) (b : Addr) (items2 : Array Value) (h1 : items.size ≤ sizeLine) (h2 : items.size + items2.size ≤ sizeLine) :
    Meets (Builtin.«list.extend» ⟨[.ref l, .ref b], []⟩) (fun _ R s => s.heap.get? l = some { cls := .type "list", dict := none, data := .seq items n, slots := #[] } ∧ (∃ o m, s.heap.get? b = some o ∧ o.cls = .type "tuple" ∧ o.data = .seq items2 m) ∧
      R (.ok (.ret Value.none)) { s with heap := s.heap.update l (Obj.mapSeq fun x => x ++ items2), toks := s.toks }) := by
  intro prog w A R s h
  obtain ⟨hl, ⟨o, m, ho, hc, hd⟩, h⟩ := h
  show wpAny _ A.in1 (Builtin.List.listExtendWith (.ref l) (.ref b) .none) _ _ s
  unfold Builtin.List.listExtendWith
  refine wpAny_bind (wpAny_typeOf ⟨o, ho, hc⟩ ?_)
  have h3 : (Builtin.List.listSameRef (.ref l) (.ref b) || Value.type "tuple" == Value.type "list" || Value.type "tuple" == Value.type "tuple") = true := by simp
  simp only [h3, if_true]
  refine wpAny_bind ?_
  unfold Builtin.List.listItems
  refine wpAny_bind (wpAny_seqItems ho hd (wpAny_pure ?_))
  refine wpAny_bind ?_
  refine wpAny_bind (wpAny_seqItems hl rfl (wpAny_pure ?_))
  have hlong : ¬ (!items.isEmpty && Builtin.List.listTooLong (items.size + items2.size)) = true := by
    rw [notLongL h2, Bool.and_false]
    exact Bool.false_ne_true
  rw [if_neg hlong]
  show wpAny _ A.in1 (updateSeq l (· ++ items2) >>= fun _ => ret .none) _ _ s
  refine wpAny_bind (wpAny_updateSeq hl rfl ?_ (hz := h1) (_hz' := by rw [Array.size_append]; omega))
  exact wpAny_pure h
def rExtT (K : PySem.W.Frag) : V → List V → Hp → VK → Prop := fun x vs H Q => ∃ l b xs zs, x = .ref l ∧ vs = [.ref b] ∧ H l = some (.lst xs) ∧ SqT K H b zs ∧ xs.length + zs.length ≤ sizeLine ∧ Q .non (upd H l (.lst (xs ++ zs)))
theorem mt_extT {X : Cx} : MtM X "list.extend" (rExtT X.K) := by
  intro pins s σ H x vs v us Q I rx rv h
  obtain ⟨l, b, xs, zs, rfl, rfl, hH, hB, hz, q⟩ := h
  cases rx
  obtain ⟨u, rfl, ru⟩ := rv.one
  cases ru
  obtain ⟨z, its, n, r, hl, e⟩ := I.lstM hH
  obtain ⟨its2, r2, ⟨o, ho, hc, m, hd⟩, z2⟩ := I.tuple hB
  have hl2 := r2.length
  refine call_meets F.slot_list_extend ⟨_, e, rfl⟩ F.entry_list_extend (F.args_list_extend_2 _ _)
    (list_extend_tup l its.toArray n b its2.toArray (by rw [List.size_toArray]; omega) (by rw [List.size_toArray, List.size_toArray]; omega)) ⟨e, ⟨o, m, ho, hc, hd⟩, ?_⟩
  refine ⟨.non, _, I.lset (its' := its ++ its2) hH e (by simp) (r.append r2) ?_, rfl, q⟩
  rw [List.length_append]
  omega

/-! ### repr of data -/
def rRepr (K : PySem.W.Frag) : List V → Hp → VK → Prop := fun xs H Q => ∃ x d, xs = [x] ∧ Dp K H x d ∧ d.showable = true ∧ d.hasDict = false ∧ d.depth ≤ 100 ∧ d.shown.length ≤ sizeLine ∧ Q (.str d.shown) H
theorem call_repr {X : Cx} (hg : X.A.guards = some []) (hu : X.A.units + 101 < cLine) : CallR X (.builtin "repr") (rRepr X.K) := by
  intro pins s σ H xs us Q I r h
  obtain ⟨x, d, rfl, hd, hs, hn, hp, hz, q⟩ := h
  obtain ⟨u, rfl, ru⟩ := vals1 r
  have fin : ∀ t, EP X pins σ Q (.str d.shown t) s := fun t => ⟨.str d.shown, H, I, ⟨t, rfl⟩, q⟩
  obtain ⟨as, rd⟩ := Dp.reads I d x u hd ru
  cases hd with
  | non =>
    cases ru
    refine PySem.P.repr_of_none ?_
    exact ⟨.str _, H, I.tok _, ⟨_, rfl⟩, by simpa only [PyData.shown] using q⟩
  | bl b =>
    cases ru
    refine PySem.P.repr_of_bool ?_
    exact ⟨.str _, H, I.tok _, ⟨_, rfl⟩, by simpa only [PyData.shown] using q⟩
  | int i =>
    obtain ⟨t, rfl⟩ := ru
    refine PySem.P.repr_of_int (by simpa only [PyData.showable, decide_eq_true_eq] using hs) ?_
    exact ⟨.str _, H, I.tok _, ⟨_, rfl⟩, by simpa only [PyData.shown] using q⟩
  | str z =>
    obtain ⟨t, rfl⟩ := ru
    refine PySem.P.repr_of_str ?_ (by simpa only [PyData.shown] using hz)
    exact ⟨.str _, H, I.tok _, ⟨_, rfl⟩, by simpa only [PyData.shown] using q⟩
  | lst h1 h2 =>
    cases ru
    refine repr_of_reads' rd hs (PyData.noDict_hsm hn) hg (by omega) (fun _ _ e => e) (fun h' u tk hk => ?_) hz
    exact ⟨.str _, H, I.kept hk, ⟨u, rfl⟩, q⟩
  | tup h1 h2 =>
    cases ru
    refine repr_of_reads' rd hs (PyData.noDict_hsm hn) hg (by omega) (fun _ _ e => e) (fun h' u tk hk => ?_) hz
    exact ⟨.str _, H, I.kept hk, ⟨u, rfl⟩, q⟩

/-! ### defs that are called where no repr runs (guards: none) -/
structure FnG (P : Program) (w : World) (K : PySem.W.Frag) (mg : Str → Option Value) (base : Heap) (CX : CXT) (k : Nat) (f : Addr) (fd : FuncData) (ps : List Str) (sp : Sp) : Prop where
  len : ∀ vs H Q E, sp vs H Q E → vs.length = ps.length
  run : ∀ (A : Around) (outer : List Env) (s : Shared) (H : Hp) (args : Args) (us : List Value) (vs : List V) (Q : VK) (E : XK), A.guards = some [] → Room k A → Env0 P w K mg base A outer s H → BindsTo s fd args (ps.zip us) → Vals vs us → sp vs H Q E →
    codeAny (model P w) A (.call (.ref f) args) (CR CX outer P w H s Q E) s
theorem FnG.of {P : Program} {w : World} {K : PySem.W.Frag} {mg : Str → Option Value} {base : Heap} {CX : CXT} {k : Nat} {f : Addr} {fd : FuncData} {ps : List Str} {sp : Sp} (F : FnOk P w K mg base CX k f fd ps sp) : FnG P w K mg base CX k f fd ps sp :=
  ⟨F.len, fun A outer s H args us vs Q E _ hr => F.run A outer s H args us vs Q E hr⟩
section
variable {P : Program} {w : World} {K : PySem.W.Frag} {mg : Str → Option Value} {base : Heap}
/-- a def's body, entered where no repr runs -/
theorem fnG_of {CX : CXT} {k : Nat} {f : Addr} {nm q : Str} {pr : Arguments} {bd : List Stmt} {sc : Scope} {v1 v2 v3 v4 v5 v6 v7 : Value} {a1 a2 : Option Addr}
    {sl : Array (Option Value)} {N ps : List Str} {sp : Sp}
    (lk : K.lookup f = some ⟨v1, a1, .func (PySem.W.fnOf nm q pr bd sc v2 v3 v4 v5 a2 v6 v7), sl⟩) (hcd : PySem.W.codeIn K v6 q = true) (S : FnScope N ps sc)
    (len : ∀ vs H Q E, sp vs H Q E → vs.length = ps.length)
    (hbody : ∀ (A : Around) (outer : List Env) (s : Shared) (H : Hp) (vs : List V) (Q : VK) (E : XK),
      A.guards = some [] → Room k (A.deeper (envOfC q sc s.heap.objs.size f v6)) → sp vs H Q E →
      ∃ t, PSs (cxOf CX P w K mg base N q sc f v6 A outer s H E) bd t ∧ t { nx := fun _ H' => Q .non H', rt := Q } (start N vs) H) :
    FnG P w K mg base CX (k + 1) f (PySem.W.fnOf nm q pr bd sc v2 v3 v4 v5 a2 v6 v7) ps sp := by
  refine ⟨len, ?_⟩
  intro A outer s H args us vs Q E hg hr e0 hb r hsp
  have keep0 : ∀ b o, base.get? b = some o → s.heap.get? b = some o := fun b o e => (e0.bs b o e).1
  have KX : K.In s.heap := e0.mod.kin.keeps keep0
  refine codeAny_call_function hr.depth (KX _ _ lk) rfl S.co S.gen rfl (PySem.W.codeRec_of KX hcd) (hb _ _ _ _ ?_)
  have hkind : ∀ y ∈ ps.zip us, sc.names.lookup y.1 = some .local ∨
      (sc.names.lookup y.1 = some .cell ∧ ((cellsFrom (s.heap.objs.size + 1) sc.names []).lookup y.1).isSome = true) := by
    intro y hy
    have hm : y.1 ∈ ps := (List.of_mem_zip (a := y.1) (b := y.2) hy).1
    rcases S.par _ hm with c | c
    · exact Or.inl c
    · exact Or.inr ⟨c, PySem.W.cellsFrom_some _ _ _ (Or.inl c)⟩
  refine wpAny_newFunctionEnv_cells S.kind hkind ?_
  intro env he s1 x
  subst he
  refine ⟨(e0.mod.nolimit.keeps keep0).keeps x.toInCall.keep, codeAny_func ?_⟩
  obtain ⟨t, ht, hq⟩ := hbody A outer s H vs Q E hg (hr.deeper _) hsp
  have I := inv_start (CX := CX) (mg := mg) (E := E) S hr.hd e0 (len _ _ _ _ hsp) r x
  refine wpAny_mono (ht.run [] s1 _ H _ I hq) ?_ (fun e s' h => h)
  intro fl s' hs
  cases fl with
  | ret u =>
    obtain ⟨v, σ', H', J, rv, z⟩ := hs
    exact ⟨v, H', J.os, J.bare, J.base, J.hok, rv, z⟩
  | next =>
    obtain ⟨σ', H', J, z⟩ := hs
    exact ⟨V.non, H', J.os, J.bare, J.base, J.hok, rfl, z⟩
  | brk => exact (let ⟨_, _, _, z⟩ := hs; False.elim z)
  | cont => exact (let ⟨_, _, _, z⟩ := hs; False.elim z)
/-- such a def as it stands behind the top -/
theorem okG {CX : CXT} {nm q : Str} {pr : Arguments} {bd : List Stmt} {sc : Scope} {dvs : List V} {kws : List (Str × V)} {f : Addr} {fd : FuncData} {N ps : List Str} {k : Nat} {sp : Sp}
    (F : FunD K nm q pr bd sc dvs kws f fd) (S : FnScope N ps sc) (len : ∀ vs H Q E, sp vs H Q E → vs.length = ps.length)
    (hbody : ∀ (cdv : Value) (A : Around) (outer : List Env) (s : Shared) (H : Hp) (vs : List V) (Q : VK) (E : XK),
      A.guards = some [] → Room k (A.deeper (envOfC q sc s.heap.objs.size f cdv)) → sp vs H Q E →
      ∃ t, PSs (cxOf CX P w K mg base N q sc f cdv A outer s H E) bd t ∧ t { nx := fun _ H' => Q .non H', rt := Q } (start N vs) H) :
    FnG P w K mg base CX (k + 1) f fd ps sp := by
  obtain ⟨oc, od, dV, kV, doc, pm, an, cdv, ct, osl, rfl, lk, hcd, _, _⟩ := F.ex
  exact fnG_of lk hcd S len fun A outer s H vs Q E hg hr hsp => hbody cdv A outer s H vs Q E hg hr hsp
end
theorem room101 {k : Nat} {A : Around} (hr : Room k A) : A.units + 101 < cLine := by
  have := hr.un
  omega
theorem guards_deeper {A : Around} {env : Env} (h : A.guards = some []) : (A.deeper env).guards = some [] := h
section
variable {X : Cx} {CX : CXT} {k : Nat} {f : Addr} {fd : FuncData} {ps ks : List Str} {sp : Sp} {dvs : List V} {ds : List Value} {E : XK} {x : Str} {p pos : Pos} {e : Expr} {es : List Expr} {kw : Keyword} {kws : List Keyword} {t tk : TA} {n : Nat}
/-- the end of a call, whatever it handed back -/
theorem ends_of {σ : L2.St} {H : Hp} {pins : List (Addr × Obj)} {s : Shared} {Q : VK} (hx : Passes CX X E) (I : Inv X pins σ H s) (r : Result) (s' : Shared) (h : CR CX X.stack X.prog X.w H s Q E r s') :
    wants (EP X pins σ Q) X.xe r s' := by
  cases r with
  | error z => exact hx pins σ H s z s' I h
  | ok fl => cases fl with
    | ret u => exact I.after h
    | next => exact h.elim
    | brk => exact h.elim
    | cont => exact h.elim
theorem run_G {pins : List (Addr × Obj)} {σ : L2.St} {H : Hp} {s : Shared} {Q : VK} {us : List Value} {vs : List V} (F : FnG X.prog X.w X.K X.mg X.base CX k f fd ps sp) (hg : X.A.guards = some []) (hr : Room k X.A) (hb : Binds X.K fd ps ds)
    (hd : Vals dvs ds) (hx : Passes CX X E) (I : Inv X pins σ H s) (r : Vals vs us) (h : sp (vs ++ dvs) H Q E) : wpAny (model X.prog X.w) X.A (call (.ref f) us) (EP X pins σ Q) X.xe s := by
  have r2 := r.append hd
  have hl : (us ++ ds).length = ps.length := r2.length.symm.trans (F.len _ _ _ _ h)
  exact wpAny_call (codeAny_mono (F.run X.A X.stack s H ⟨us, []⟩ (us ++ ds) (vs ++ dvs) Q E hg hr I.env0 (hb s us I.kIn hl) r2 h) fun r s' hq => ends_of hx I r s' hq)
/-- f(e, ..) where no repr runs -/
theorem pe_callG (F : FnG X.prog X.w X.K X.mg X.base CX k f fd ps sp) (hg : X.A.guards = some []) (hr : Room k X.A) (hgl : Gl X x) (hm : X.mg x = some (.ref f)) (hk : PySem.W.keepIn X.K (.ref f) = true) (hb : Binds X.K fd ps ds) (hd : Vals dvs ds)
    (hx : Passes CX X E) (ha : PA X (e :: es) t) (hdb : (x == ("__debug__" : Str)) = false := by decide) (he : starEach (e :: es) X.env = (false, eval e X.env) :: starEach es X.env := by rfl)
    (hpl : (backTo pos (starEach es X.env)).any (·.1) = false := by rfl) : PE X (.Call (.Name x p) (e :: es) [] pos) (tCall sp dvs E t) := by
  constructor
  intro pins s σ H Q I h
  refine wpAny_Call_Name_kw (ld_glob I hgl hm ?_ hdb)
  refine PySem.W.callWith_K (h₀ := X.base) I.ok.mod.kin hk (thn (ha.run pos pins s σ H _ I h) ?_) he hpl
  rintro us s1 ⟨vs, H1, I1, r, q⟩
  exact ⟨I1.kIn, run_G F hg hr hb hd hx I1 r q⟩
end
section
variable {P : Program} {w : World} {K : PySem.W.Frag} {mg mb : Str → Option Value} {s₁ : Shared} {a : Addr} {vs : List Value} {ns : List Int}
/-- what is tracked at a law's entry: the script alone, or nothing (it is one of the module's own lists) -/
structure Entry (P : Program) (w : World) (K : PySem.W.Frag) (s₁ : Shared) (a : Addr) (vs : List Value) (ns : List Int) (H : Hp) : Prop where
  only : Only H
  seq : SqL K H a (ns.map V.int)
  ok : HOk P w H s₁.heap
  at_ : ∀ b, H b ≠ none → b = a
  own : H a ≠ none → K.lookup a = none
theorem entry_of (KX : K.In s₁.heap) (ha : s₁.heap.get? a = some { cls := .type "list", data := .seq vs.toArray }) (hi : IntsAre vs ns) (hl : ns.length ≤ sizeLine) : ∃ H, Entry P w K s₁ a vs ns H := by
  have rv := vals_ints hi
  have lenV := hi.length
  cases hk : K.lookup a with
  | some o =>
    have e := (KX a o hk).symm.trans ha
    cases e
    refine ⟨fun _ => none, fun _ => Or.inl rfl, Or.inr ⟨_, vs.toArray, _, hk, rfl, rfl, rfl, ?_, ?_⟩, ?_, ?_, ?_⟩
    · rw [List.size_toArray, lenV]
      exact hl
    · simpa using rv
    · intro b u z
      cases (show (none : Option HO) = some u from z)
    · exact fun b z => absurd rfl z
    · exact fun z => absurd rfl z
  | none =>
    let u : HO := .frz { cls := .type "list", data := .seq vs.toArray } (.lst (ns.map V.int))
    have same : (upd (fun _ => none) a u) a = some u := upd_same
    have other : ∀ b, b ≠ a → (upd (fun _ => none) a u) b = none := fun b hb => upd_ne hb
    refine ⟨upd (fun _ => none) a u, ?_, Or.inl (Or.inr ⟨_, same⟩), ?_, ?_, fun _ => hk⟩
    · intro b
      by_cases hb : b = a
      · rw [hb]
        exact Or.inr ⟨_, _, same⟩
      · exact Or.inl (other b hb)
    · intro b v z
      by_cases hb : b = a
      · rw [hb, same] at z
        rw [← Option.some.inj z, hb]
        exact ⟨ha, by rw [List.length_map]; exact hl, vs, _, rv, ha⟩
      · rw [other b hb] at z
        cases z
    · intro b z
      by_cases hb : b = a
      · exact hb
      · exact absurd (other b hb) z
theorem Entry.env {H : Hp} (E : Entry P w K s₁ a vs ns H) (KX : K.In s₁.heap) (hns : s₁.heap.Ns mainGlobals mg) (hb : s₁.heap.Ns builtinsNs mb) (hbb : ∀ x : Str, x ≠ "__name__" → mb x = bootBuiltins x) (hlim : s₁.heap.NoLimit) (hg : s₁.gens = #[])
    (ha : s₁.heap.get? a = some { cls := .type "list", data := .seq vs.toArray }) :
    K.In (hidT s₁.heap H) ∧ (hidT s₁.heap H).Ns mainGlobals mg ∧ Env0 P w K mg (hidT s₁.heap H) callerA [] s₁ H := by
  have atA : ∀ {b : Addr} {u : HO}, H b = some u → b = a := fun {b u} e => E.at_ b (by rw [e]; exact fun z => nomatch z)
  have notDict : ∀ {b : Addr} {o : Obj} {es : Array DictEntry} {ep : Nat}, s₁.heap.get? b = some o → o.data = .dict es ep → H b = none := by
    intro b o es ep e d
    cases q : H b with
    | none => rfl
    | some u =>
      rw [atA q, ha] at e
      rw [← Option.some.inj e] at d
      cases d
  have ns' : ∀ {b : Addr} {m : Str → Option Value}, s₁.heap.Ns b m → (hidT s₁.heap H).Ns b m := by
    rintro b m ⟨o, es, ep, e, d, r⟩
    exact ⟨o, es, ep, hidT_get e (notDict e d), d, r⟩
  have hK : K.In (hidT s₁.heap H) := by
    intro b o e
    refine hidT_get (KX b o e) ?_
    cases q : H b with
    | none => rfl
    | some u =>
      have hba := atA q
      rw [hba] at e q
      rw [E.own (by rw [q]; exact fun z => nomatch z)] at e
      cases e
  have hlim' : (hidT s₁.heap H).NoLimit := by
    obtain ⟨mc, h1, h2⟩ := hlim
    exact ⟨mc, ns' h1, h2⟩
  exact ⟨hK, ns' hns, rfl, ⟨hK, ns' hns, ⟨mb, ns' hb, hbb⟩, hlim'⟩, fun b o e => of_hidT e, Nat.le_of_eq (hidT_size _ _), trivial, fun b hb => absurd (show b ∈ ([] : List Addr) from hb) (by simp), E.ok, .of_eq hg⟩
/-- the law's promise, at the heap behind the top, where no repr runs -/
theorem law_callG {CX : CXT} {k : Nat} {fa : Addr} {fd : FuncData} {x : Str} {sp : Sp}
    (KX : K.In s₁.heap) (hns : s₁.heap.Ns mainGlobals mg) (hb : s₁.heap.Ns builtinsNs mb) (hbb : ∀ x : Str, x ≠ "__name__" → mb x = bootBuiltins x) (hlim : s₁.heap.NoLimit) (hg : s₁.gens = #[])
    (ha : s₁.heap.get? a = some { cls := .type "list", data := .seq vs.toArray }) (hi : IntsAre vs ns) (hl : ns.length ≤ sizeLine) (hr : Room k callerA)
    (F : ∀ base : Heap, K.In base → base.Ns mainGlobals mg → FnG P w K mg base CX k fa fd [x] sp) (hbind : ∀ (s : Shared) (u : Value), BindsTo s fd ⟨[u], []⟩ [(x, u)])
    (hsp : ∀ H : Hp, Only H → SqL K H a (ns.map V.int) → sp [.ref a] H (fun v _ => v = .bl true) fun _ _ _ => False) (hCX : ∀ H e s', CX [] H s₁ (fun _ _ _ => False) e s' → False) :
    codeAny (model P w) callerA (.call (.ref fa) ⟨[.ref a], []⟩) (fun r s' => r = .ok (.ret (.bool true)) ∧ OldK s₁.heap s'.heap ∧ s'.os = s₁.os ∧ AllBare s'.gens) s₁ := by
  obtain ⟨H, En⟩ := entry_of (P := P) (w := w) KX ha hi hl
  obtain ⟨hK, hN, e0⟩ := En.env KX hns hb hbb hlim hg ha
  refine codeAny_mono ((F _ hK hN).run callerA [] s₁ H ⟨[.ref a], []⟩ [.ref a] [.ref a] _ _ rfl hr e0 (hbind s₁ (.ref a)) (.cons rfl .nil) (hsp H En.only En.seq)) ?_
  intro r s' h
  cases r with
  | error e => exact (hCX H e s' h).elim
  | ok fl =>
    cases fl with
    | next => exact False.elim h
    | brk => exact False.elim h
    | cont => exact False.elim h
    | ret u =>
      obtain ⟨v, H', os, bare, un, hok', r', q⟩ := h
      rw [show v = .bl true from q] at r'
      refine ⟨by rw [show u = Value.bool true from r'], OldK.of_keep ?_, os, bare⟩
      intro b o e
      cases qb : H b with
      | none => exact un.keep b o e qb (fun z => absurd (show b ∈ ([] : List Addr) from z) (by simp)) (by simp)
      | some u =>
        rcases En.only b with z | ⟨ob, xs, z⟩
        · rw [qb] at z
          cases z
        · have e1 := (En.ok b _ z).1
          have e2 := (hok' b _ (un.frzs b ob _ z)).1
          rw [e2, ← e1, e]
end
/-- a law's end over a head by facts, its def called where no repr runs -/
theorem walk_ofG {l : PySem.W.OpenLaw} {n k : Nat} {q : Program} {loose : List Str} {XP : (Str → Option Value) → Heap → Prop} {YP : World → Heap → Prop} {d : DefRec} {CX : CXT} {x : Str}
    (hn : l.most = some n) (hn2 : n ≤ sizeLine) (hdf : d.params.defaults = []) (hr : Room k callerA)
    (F : ∀ (w : World) (mg : Str → Option Value) (fa : Addr) (h : Heap), YP w h → h.Ns mainGlobals mg → mg d.name = some (.ref fa) →
      ∃ (K : PySem.W.Frag) (fd : FuncData) (sp : Sp), K.In h ∧ (∀ (s : Shared) (u : Value), BindsTo s fd ⟨[u], []⟩ [(x, u)]) ∧
        (∀ (H : Hp) (a : Addr) (ns : List Int), ns.length ≤ n → Only H → SqL K H a (ns.map V.int) → sp [.ref a] H (fun v _ => v = .bl true) fun _ _ _ => False) ∧
        ∀ base : Heap, K.In base → base.Ns mainGlobals mg → FnG l.prog w K mg base CX k fa fd [x] sp)
    (hCX : ∀ (H : Hp) (s : Shared) (e : Value) (s' : Shared), CX [] H s (fun _ _ _ => False) e s' → False) :
    PySem.W.WalkO q loose XP YP l.row.toRowW d [] (fun f vs => PySem.call f vs) := by
  refine Att.attach_call hn hdf ?_
  intro w s₀ s₁ mg mb fa o pm cd doc a vs ns G Y ho hd hcd hmg hobj hints hlen hg
  obtain ⟨K, fd, sp, KX, hb, hsp, hF⟩ := F w mg fa _ Y G.T.g hmg
  exact law_callG KX G.T.g G.T.b G.T.builtins G.T.nolimit hg hobj hints (Nat.le_trans hlen hn2) hr hF hb (fun H hO hS => hsp H a ns hlen hO hS) fun H e s' => hCX H s₁ e s'

/-- a comprehension without a test -/
theorem yes {σ : L2.St} {H : Hp} {R S : Hp → Prop} (h : R H) : tYes σ H fun b H3 => if b = true then R H3 else S H3 := by
  show (if true = true then R H else S H)
  rw [if_pos rfl]
  exact h

/-! ### a def by its name -/
/-- the module's x is a def that keeps sp, called with every parameter written -/
structure Cal (P : Program) (w : World) (K : PySem.W.Frag) (mg : Str → Option Value) (base : Heap) (CX : CXT) (x : Str) (k : Nat) (ps : List Str) (sp : Sp) : Prop where
  ex : ∃ (f : Addr) (fd : FuncData), mg x = some (.ref f) ∧ PySem.W.keepIn K (.ref f) = true ∧ L2.Binds K fd ps [] ∧ FnOk P w K mg base CX k f fd ps sp
/-- the same with keywords alone, in the sequence ks -/
structure CalK (P : Program) (w : World) (K : PySem.W.Frag) (mg : Str → Option Value) (base : Heap) (CX : CXT) (x : Str) (k : Nat) (ps ks : List Str) (gV : List V → List V → List V) (sp : Sp) : Prop where
  ex : ∃ (f : Addr) (fd : FuncData) (g : List Value → List Value → List Value), mg x = some (.ref f) ∧ PySem.W.keepIn K (.ref f) = true ∧ KBn K fd ps 0 ks g gV ∧ FnOk P w K mg base CX k f fd ps sp
/-- called where no repr runs -/
structure CalG (P : Program) (w : World) (K : PySem.W.Frag) (mg : Str → Option Value) (base : Heap) (CX : CXT) (x : Str) (k : Nat) (ps : List Str) (sp : Sp) : Prop where
  ex : ∃ (f : Addr) (fd : FuncData), mg x = some (.ref f) ∧ PySem.W.keepIn K (.ref f) = true ∧ L2.Binds K fd ps [] ∧ FnG P w K mg base CX k f fd ps sp
section
variable {X : Cx} {CX : CXT} {k : Nat} {ps ks : List Str} {sp : Sp} {E : XK} {x : Str} {p pos : Pos} {e : Expr} {es : List Expr} {kws : List Keyword} {t tk : TA} {gV : List V → List V → List V}
theorem pe_c (C : Cal X.prog X.w X.K X.mg X.base CX x k ps sp) (hr : Room k X.A) (hx : Passes CX X E) (ha : PA X (e :: es) t) (hg : Gl X x := by rfl) (hdb : (x == ("__debug__" : Str)) = false := by decide)
    (he : starEach (e :: es) X.env = (false, eval e X.env) :: starEach es X.env := by rfl) (hpl : (backTo pos (starEach es X.env)).any (·.1) = false := by rfl) : PE X (.Call (.Name x p) (e :: es) [] pos) (tCall sp [] E t) := by
  obtain ⟨f, fd, h1, h2, h3, h4⟩ := C.ex
  exact pe_call h4 hr hg h1 h2 h3 .nil hx ha hdb he hpl
theorem pe_c0 (C : Cal X.prog X.w X.K X.mg X.base CX x k ps sp) (hr : Room k X.A) (hx : Passes CX X E) (hg : Gl X x := by rfl) (hdb : (x == ("__debug__" : Str)) = false := by decide) : PE X (.Call (.Name x p) [] [] pos) (tCall sp [] E tNil) := by
  obtain ⟨f, fd, h1, h2, h3, h4⟩ := C.ex
  exact pe_call0 h4 hr hg h1 h2 h3 .nil hx hdb
theorem pe_cG (C : CalG X.prog X.w X.K X.mg X.base CX x k ps sp) (hgd : X.A.guards = some []) (hr : Room k X.A) (hx : Passes CX X E) (ha : PA X (e :: es) t) (hg : Gl X x := by rfl) (hdb : (x == ("__debug__" : Str)) = false := by decide)
    (he : starEach (e :: es) X.env = (false, eval e X.env) :: starEach es X.env := by rfl) (hpl : (backTo pos (starEach es X.env)).any (·.1) = false := by rfl) : PE X (.Call (.Name x p) (e :: es) [] pos) (tCall sp [] E t) := by
  obtain ⟨f, fd, h1, h2, h3, h4⟩ := C.ex
  exact pe_callG h4 hgd hr hg h1 h2 h3 .nil hx ha hdb he hpl
/-- f(k = v, ..), keywords alone -/
theorem pe_ck (C : CalK X.prog X.w X.K X.mg X.base CX x k ps ks gV sp) (hr : Room k X.A) (hx : Passes CX X E) (hkw : PK X kws tk) (hg : Gl X x := by rfl)
    (hall : (backToKw pos (keywordEach kws X.env)).all (·.1.isSome) = true := by rfl) (hks : (backToKw pos (keywordEach kws X.env)).filterMap (·.1) = ks := by rfl) (hdb : (x == ("__debug__" : Str)) = false := by decide)
    (hpl : ((backTo pos (starEach [] X.env)).any (·.1) || (backToKw pos (keywordEach kws X.env)).any (·.1.isNone)) = false := by rfl) :
    PE X (.Call (.Name x p) [] kws pos) (tCallN 0 ks.length sp gV E tNil tk) := by
  obtain ⟨f, fd, g, h1, h2, h3, h4⟩ := C.ex
  constructor
  intro pins s σ H Q I h
  refine wpAny_Call_Name_kw (ld_glob I hg h1 ?_ hdb)
  refine PySem.W.callWith_KW0 (h₀ := X.base) I.ok.mod.kin h2 hall ?_ hpl
  refine thn (hkw.run pos pins s σ H _ I h) ?_
  rintro ws s2 ⟨zs, H2, I2, rz, l1, l2, q2⟩
  refine ⟨I2.kIn, ?_⟩
  rw [hks]
  exact run_fnN (us := []) (vs := []) h4 hr h3 hx I2 .nil rz rfl l2 q2
end
section
variable {P : Program} {w : World} {K : PySem.W.Frag} {mg : Str → Option Value} {base : Heap} {CX : CXT} {k : Nat} {ps ks : List Str} {sp : Sp} {x y q : Str} {pr : Arguments} {bd : List Stmt} {sc : Scope} {f : Addr} {fd : FuncData}
/-- hb: «fun _ _ _ _ _ _ us hl => match us, hl with | [_, _], _ => rfl» -/
theorem cal_of (F : FunD K y q pr bd sc [] [] f fd) (gl : mg x = some (.ref f)) (G : FnOk P w K mg base CX k f fd ps sp)
    (hb : ∀ (kV doc pm : Value) (an : Option Addr) (cdv ct : Value) (us : List Value), us.length = ps.length → bindArgs (PySem.W.fnOf y q pr bd sc .none kV doc pm an cdv ct) ⟨us, []⟩ = pure (ps.zip us)) : Cal P w K mg base CX x k ps sp :=
  ⟨f, fd, gl, F.kp, F.bindsN hb, G⟩
theorem calG_of (F : FunD K y q pr bd sc [] [] f fd) (gl : mg x = some (.ref f)) (G : FnG P w K mg base CX k f fd ps sp)
    (hb : ∀ (kV doc pm : Value) (an : Option Addr) (cdv ct : Value) (us : List Value), us.length = ps.length → bindArgs (PySem.W.fnOf y q pr bd sc .none kV doc pm an cdv ct) ⟨us, []⟩ = pure (ps.zip us)) : CalG P w K mg base CX x k ps sp :=
  ⟨f, fd, gl, F.kp, F.bindsN hb, G⟩
/-- keywords alone, each parameter by its name: ix the places of the parameters in ks -/
theorem calK_of (F : FunD K y q pr bd sc [] [] f fd) (gl : mg x = some (.ref f)) (G : FnOk P w K mg base CX k f fd ps sp) (g : {α : Type} → List α → List α)
    (hg : ∀ {vs : List V} {us : List Value}, Vals vs us → Vals (g vs) (g us))
    (hb : ∀ (kV doc pm : Value) (an : Option Addr) (cdv ct : Value) (ws : List Value), ws.length = ks.length → bindArgs (PySem.W.fnOf y q pr bd sc .none kV doc pm an cdv ct) ⟨[], ks.zip ws⟩ = pure (ps.zip (g ws))) : CalK P w K mg base CX x k ps ks (fun _ zs => g zs) sp := by
  refine ⟨f, fd, fun _ ws => g ws, gl, F.kp, ⟨?_, fun _ r => hg r⟩, G⟩
  intro s us ws X h1 h2
  have e : us = [] := List.length_eq_zero_iff.mp h1
  subst e
  obtain ⟨oc, od, dV, kV, doc, pm, an, cdv, ct, osl, rfl, lk, hcd, hD, hK⟩ := F.ex
  rcases hD with ⟨_, rfl⟩ | ⟨e, _⟩
  · exact .of_eq (hb kV doc pm an cdv ct ws h2)
  · exact absurd rfl e
end

/-! ### tuples never change; data made of tuples -/
def Tu (H H' : Hp) : Prop := ∀ b xs, H b = some (.tup xs) → H' b = some (.tup xs)
theorem Tu.refl (H : Hp) : Tu H H := fun _ _ h => h
theorem Tu.trans {H H1 H2 : Hp} (a : Tu H H1) (b : Tu H1 H2) : Tu H H2 := fun c xs h => b c xs (a c xs h)
theorem Same.tu {H H' : Hp} (s : Same H H') : Tu H H' := fun b xs h => s b _ h
theorem same_upd {H : Hp} {p : Addr} {o : HO} (h : H p = none) : Same H (upd H p o) := fun b x e => by
  rw [upd_ne (ne_of_none e h)]
  exact e
theorem same_mut {H H' : Hp} {p : Addr} {o : HO} (e : Same H H') (h : H p = none) : Same H (upd H' p o) := fun b u q => by
  rw [upd_ne (ne_of_none q h)]
  exact e b u q
theorem Tu.mut {H H' : Hp} {p : Addr} {o : HO} (e : Tu H H') (h : ∀ xs, H p ≠ some (.tup xs)) : Tu H (upd H' p o) := fun b xs q => by
  have hb : b ≠ p := by
    intro z
    rw [z] at q
    exact h xs q
  rw [upd_ne hb]
  exact e b xs q
mutual
/-- data of none, bools, ints, texts, tuples -/
inductive Tr (H : Hp) : V → PyData → Prop
  | non : Tr H .non .none
  | bl (b : Bool) : Tr H (.bl b) (.bool b)
  | int (i : Int) : Tr H (.int i) (.int i)
  | str (x : Str) : Tr H (.str x) (.str x)
  | tup {a : Addr} {xs : List V} {ds : List PyData} : H a = some (.tup xs) → TrAll H xs ds → Tr H (.ref a) (.tuple ds)
inductive TrAll (H : Hp) : List V → List PyData → Prop
  | nil : TrAll H [] []
  | cons {v : V} {vs : List V} {d : PyData} {ds : List PyData} : Tr H v d → TrAll H vs ds → TrAll H (v :: vs) (d :: ds)
end
mutual
theorem Tr.mono {H H' : Hp} (t : Tu H H') : ∀ {v : V} {d : PyData}, Tr H v d → Tr H' v d
  | _, _, .non => .non
  | _, _, .bl b => .bl b
  | _, _, .int i => .int i
  | _, _, .str x => .str x
  | _, _, .tup h a => .tup (t _ _ h) (TrAll.mono t a)
theorem TrAll.mono {H H' : Hp} (t : Tu H H') : ∀ {vs : List V} {ds : List PyData}, TrAll H vs ds → TrAll H' vs ds
  | _, _, .nil => .nil
  | _, _, .cons h a => .cons (Tr.mono t h) (TrAll.mono t a)
end
mutual
theorem Tr.dp {K : PySem.W.Frag} {H : Hp} : ∀ {v : V} {d : PyData}, Tr H v d → Dp K H v d
  | _, _, .non => .non
  | _, _, .bl b => .bl b
  | _, _, .int i => .int i
  | _, _, .str x => .str x
  | _, _, .tup h a => .tup (SqT.of h) (TrAll.dp a)
theorem TrAll.dp {K : PySem.W.Frag} {H : Hp} : ∀ {vs : List V} {ds : List PyData}, TrAll H vs ds → DpAll K H vs ds
  | _, _, .nil => .nil
  | _, _, .cons h a => .cons (Tr.dp h) (TrAll.dp a)
end
theorem TrAll.get {H : Hp} : ∀ {vs : List V} {ds : List PyData} {i : Nat} {v : V}, TrAll H vs ds → vs[i]? = some v → ∃ d, ds[i]? = some d ∧ Tr H v d
  | _, _, _, _, .nil, e => by simp at e
  | _, _, 0, _, .cons h _, e => by
    have e' := Option.some.inj (show some _ = some _ from e)
    subst e'
    exact ⟨_, rfl, h⟩
  | _, _, i + 1, v, .cons _ a, e => TrAll.get (i := i) (v := v) a e
theorem TrAll.length {H : Hp} : ∀ {vs : List V} {ds : List PyData}, TrAll H vs ds → vs.length = ds.length
  | _, _, .nil => rfl
  | _, _, .cons _ a => congrArg Nat.succ (TrAll.length a)
theorem tr_ints (H : Hp) : ∀ ns : List Int, TrAll H (ns.map V.int) (ns.map PyData.int)
  | [] => .nil
  | n :: ns => .cons (.int n) (tr_ints H ns)

/-! ### data compared -/
mutual
/-- no truths, no dicts; texts of signs -/
def Plain : PyData → Bool
  | .none => true
  | .bool _ => false
  | .int _ => true
  | .str x => PyData.strOk x
  | .list xs => PlainAll xs
  | .tuple xs => PlainAll xs
  | .dict _ => false
def PlainAll : List PyData → Bool
  | [] => true
  | x :: xs => Plain x && PlainAll xs
end
mutual
theorem eqv_eq : ∀ (d e : PyData), Plain d = true → Plain e = true → PyData.eqv d e = true → d = e
  | .none, e, _, h, q => by cases e <;> simp_all [PyData.eqv, Plain]
  | .bool _, e, h, _, q => by simp [Plain] at h
  | .int i, e, _, h, q => by cases e <;> simp_all [PyData.eqv, Plain]
  | .str x, e, _, h, q => by cases e <;> simp_all [PyData.eqv, Plain]
  | .list xs, e, h, h2, q => by
    cases e with
    | list ys =>
      rw [PyData.eqv] at q
      rw [Plain] at h h2
      rw [eqvAll_eq' xs ys h h2 q]
    | _ => simp [PyData.eqv] at q
  | .tuple xs, e, h, h2, q => by
    cases e with
    | tuple ys =>
      rw [PyData.eqv] at q
      rw [Plain] at h h2
      rw [eqvAll_eq' xs ys h h2 q]
    | _ => simp [PyData.eqv] at q
  | .dict _, e, h, _, q => by simp [Plain] at h
theorem eqvAll_eq' : ∀ (xs ys : List PyData), PlainAll xs = true → PlainAll ys = true → PyData.eqvAll xs ys = true → xs = ys
  | [], [], _, _, _ => rfl
  | [], y :: ys, _, _, q => by simp [PyData.eqvAll] at q
  | x :: xs, [], _, _, q => by simp [PyData.eqvAll] at q
  | x :: xs, y :: ys, h, h2, q => by
    rw [PyData.eqvAll, Bool.and_eq_true] at q
    rw [PlainAll, Bool.and_eq_true] at h h2
    rw [eqv_eq x y h.1 h2.1 q.1, eqvAll_eq' xs ys h.2 h2.2 q.2]
end
mutual
theorem Plain.lay : ∀ (d : PyData), Plain d = true → d.canLay0 = true
  | .none, _ => by simp [PyData.canLay0]
  | .bool _, h => by simp [Plain] at h
  | .int _, _ => by simp [PyData.canLay0]
  | .str x, h => by
    rw [Plain] at h
    rw [PyData.canLay0]
    exact h
  | .list xs, h => by
    rw [Plain] at h
    rw [PyData.canLay0]
    exact PlainAll.lay xs h
  | .tuple xs, h => by
    rw [Plain] at h
    rw [PyData.canLay0]
    exact PlainAll.lay xs h
  | .dict _, h => by simp [Plain] at h
theorem PlainAll.lay : ∀ (ds : List PyData), PlainAll ds = true → PyData.canLayAll0 ds = true
  | [], _ => by simp [PyData.canLayAll0]
  | d :: ds, h => by
    rw [PlainAll, Bool.and_eq_true] at h
    rw [PyData.canLayAll0, Plain.lay d h.1, PlainAll.lay ds h.2]
    rfl
end
theorem eqv_same {d : PyData} (h : Plain d = true) : PyData.eqv d d = true := SeqAt.eqv_refl d (Plain.lay d h)
theorem eqv_ne {d e : PyData} (h : Plain d = true) (k : Plain e = true) (n : d ≠ e) : PyData.eqv d e = false := by
  cases q : PyData.eqv d e with
  | false => rfl
  | true => exact absurd (eqv_eq d e h k q) n
theorem shaped_of {d : PyData} (h : Plain d = true) (k : d.depth ≤ 64) : SeqAt.shaped d = true := by
  unfold SeqAt.shaped
  rw [Plain.lay d h, decide_eq_true k]
  rfl
theorem plain_ints : ∀ ns : List Int, PlainAll (ns.map PyData.int) = true
  | [] => by simp [PlainAll]
  | n :: ns => by
    rw [List.map_cons, PlainAll, Plain, plain_ints ns]
    rfl
theorem depth_ints : ∀ ns : List Int, PyData.depthAll (ns.map PyData.int) = 0
  | [] => by simp [PyData.depthAll]
  | n :: ns => by
    rw [List.map_cons, PyData.depthAll, depth_ints ns, PyData.depth]
    rfl
theorem shaped_intL (ns : List Int) : SeqAt.shaped (.list (ns.map PyData.int)) = true := shaped_of (by rw [Plain]; exact plain_ints ns) (by rw [PyData.depth, depth_ints]; decide)
theorem shaped_intT (ns : List Int) : SeqAt.shaped (.tuple (ns.map PyData.int)) = true := shaped_of (by rw [Plain]; exact plain_ints ns) (by rw [PyData.depth, depth_ints]; decide)
theorem dp_ints (K : PySem.W.Frag) (H : Hp) : ∀ ns : List Int, DpAll K H (ns.map V.int) (ns.map PyData.int)
  | [] => .nil
  | n :: ns => .cons (.int n) (dp_ints K H ns)
/-- xs == [] of a list of ints -/
theorem eqv_nilL (ns : List Int) : PyData.eqv (.list (ns.map PyData.int)) (.list []) = ns.isEmpty := by
  cases ns with
  | nil => simp [PyData.eqv, PyData.eqvAll]
  | cons n ns => simp [PyData.eqv, PyData.eqvAll]
/-- xs != [], the empty list just laid at p: its answer -/
theorem ne_nil {K : PySem.W.Frag} {H : Hp} {a : Addr} {ns : List Int} {p : Addr} {Q : VK} (h : SqL K H a (ns.map V.int)) (hp : H p = none) (q : Q (.bl (!ns.isEmpty)) (upd H p (.lst []))) : rNeD K (.ref a) (.ref p) (upd H p (.lst [])) Q := by
  refine ⟨.list (ns.map PyData.int), .list [], .lst ((same_upd hp).seq h) (dp_ints K _ ns), .lst (SqL.of upd_same) .nil, shaped_intL ns, shaped_intL [], ?_⟩
  rw [eqv_nilL]
  exact q
/-- xs == [] -/
theorem eq_nil {K : PySem.W.Frag} {H : Hp} {a : Addr} {ns : List Int} {p : Addr} {Q : VK} (h : SqL K H a (ns.map V.int)) (hp : H p = none) (q : Q (.bl ns.isEmpty) (upd H p (.lst []))) : rEqD K (.ref a) (.ref p) (upd H p (.lst [])) Q := by
  refine ⟨.list (ns.map PyData.int), .list [], .lst ((same_upd hp).seq h) (dp_ints K _ ns), .lst (SqL.of upd_same) .nil, shaped_intL ns, shaped_intL [], ?_⟩
  rw [eqv_nilL]
  exact q

/-! ### data that is shown in few signs -/
mutual
def Ints12 : PyData → Bool
  | .int i => decide (i.natAbs < 10 ^ 12)
  | .list xs => Ints12All xs
  | .tuple xs => Ints12All xs
  | .dict _ => false
  | .none => true
  | .bool _ => true
  | .str _ => true
def Ints12All : List PyData → Bool
  | [] => true
  | x :: xs => Ints12 x && Ints12All xs
end
theorem log_small {n : Nat} (h : n < 10 ^ 12) : n.log2 < 1920 := by
  have h2 : n < 2 ^ 40 := Nat.lt_trans h (by decide)
  by_cases e : n = 0
  · subst e
    decide
  · have := (Nat.log2_lt e).mpr h2
    omega
mutual
theorem Ints12.show : ∀ (d : PyData), Ints12 d = true → d.showable = true ∧ d.intsShort 13 = true
  | .none, _ => by simp [PyData.showable, PyData.intsShort]
  | .bool _, _ => by simp [PyData.showable, PyData.intsShort]
  | .str _, _ => by simp [PyData.showable, PyData.intsShort]
  | .int i, h => by
    rw [Ints12, decide_eq_true_eq] at h
    rw [PyData.showable, PyData.intsShort, decide_eq_true_eq, decide_eq_true_eq]
    exact ⟨log_small h, PyData.shown_int_le h⟩
  | .list xs, h => by
    rw [Ints12] at h
    rw [PyData.showable, PyData.intsShort]
    exact Ints12All.show xs h
  | .tuple xs, h => by
    rw [Ints12] at h
    rw [PyData.showable, PyData.intsShort]
    exact Ints12All.show xs h
  | .dict _, h => by simp [Ints12] at h
theorem Ints12All.show : ∀ (ds : List PyData), Ints12All ds = true → PyData.showableAll ds = true ∧ PyData.intsShortAll 13 ds = true
  | [], _ => by simp [PyData.showableAll, PyData.intsShortAll]
  | d :: ds, h => by
    rw [Ints12All, Bool.and_eq_true] at h
    obtain ⟨a, b⟩ := Ints12.show d h.1
    obtain ⟨a', b'⟩ := Ints12All.show ds h.2
    rw [PyData.showableAll, PyData.intsShortAll, a, b, a', b']
    exact ⟨rfl, rfl⟩
end
theorem shown_short {d : PyData} (h : Plain d = true) (k : Ints12 d = true) (b : d.bulk ≤ 2 ^ 20) : d.shown.length ≤ sizeLine :=
  PyData.shown_fits_bulk (B := 13) (by decide) (by decide) (PyData.leavesShort_of_canLay0 13 d (Plain.lay d h) (Ints12.show d k).2) b
theorem ints12_ints : ∀ ns : List Int, (∀ n ∈ ns, n.natAbs < 10 ^ 12) → Ints12All (ns.map PyData.int) = true
  | [], _ => by simp [Ints12All]
  | n :: r, h => by
    rw [List.map_cons, Ints12All, Ints12, decide_eq_true (h n (List.mem_cons_self ..)), ints12_ints r fun m hm => h m (List.mem_cons_of_mem _ hm)]
    rfl
theorem bulk_ints : ∀ ns : List Int, PyData.bulkAll (ns.map PyData.int) = ns.length
  | [] => by simp [PyData.bulkAll]
  | n :: r => by
    rw [List.map_cons, PyData.bulkAll, PyData.bulk, bulk_ints r, List.length_cons]
    omega

/-! ### the rules with the written part K by its name (within a comprehension's block a reading may not hang on the block) -/
section
variable {X : Cx} (K : PySem.W.Frag)
theorem k_ix (h : X.K = K := by rfl) : IxR X (rIx K) := by subst h; exact ix_seq
theorem k_eq (hu : X.A.units + 64 < cLine) (h : X.K = K := by rfl) : OpR X (compareOp .Eq) (rEqD K) := by subst h; exact op_eqD hu
theorem k_ne (hu : X.A.units + 64 < cLine) (h : X.K = K := by rfl) : OpR X (compareOp .NotEq) (rNeD K) := by subst h; exact op_neD hu
theorem k_in (h : X.K = K := by rfl) : OpR X (compareOp .In) (rIn K false) := by subst h; exact op_in_seq
theorem k_nin (h : X.K = K := by rfl) : OpR X (compareOp .NotIn) (rIn K true) := by subst h; exact op_notIn_seq
def rLenK : List V → Hp → VK → Prop := fun xs H Q => ∃ x n, xs = [x] ∧ LenV K x H n ∧ Q (.int n) H
theorem k_len (h : X.K = K := by rfl) : CallR X (.builtin "len") (rLenK K) := by subst h; exact call_len
theorem k_isi (h : X.K = K := by rfl) : CallR X (.builtin "isinstance") (rIsi K) := by subst h; exact call_isi
theorem k_isiT (h : X.K = K := by rfl) : CallR X (.builtin "isinstance") (rIsiT K) := by subst h; exact call_isiT
def rListK : List V → Hp → VK → Prop := fun xs H Q => ∃ p ys, xs = [.ref p] ∧ (SqL K H p ys ∨ SqT K H p ys) ∧ ∀ l, H l = none → Q (.ref l) (upd H l (.lst ys))
theorem k_list (h : X.K = K := by rfl) : CallR X (.type "list") (rListK K) := by subst h; exact call_list_of
def rTupleK : List V → Hp → VK → Prop := fun xs H Q => ∃ p ys, xs = [.ref p] ∧ ((SqL K H p ys ∧ ∀ l, H l = none → Q (.ref l) (upd H l (.tup ys))) ∨ (SqT K H p ys ∧ Q (.ref p) H))
theorem k_tuple (h : X.K = K := by rfl) : CallR X (.type "tuple") (rTupleK K) := by subst h; exact call_tuple_of
theorem k_sorted (h : X.K = K := by rfl) : CallR X (.builtin "sorted") (rSortedI K) := by subst h; exact cr_sortedI
theorem k_max (hc : X.calm = true) (h : X.K = K := by rfl) : CallR X (.builtin "max") (rMax K) := by subst h; exact cr_max hc
theorem k_min (hc : X.calm = true) (h : X.K = K := by rfl) : CallR X (.builtin "min") (rMin K) := by subst h; exact cr_min hc
theorem k_repr (hg : X.A.guards = some []) (hu : X.A.units + 101 < cLine) (h : X.K = K := by rfl) : CallR X (.builtin "repr") (rRepr K) := by subst h; exact call_repr hg hu
theorem k_extT (h : X.K = K := by rfl) : MtM X "list.extend" (rExtT K) := by subst h; exact mt_extT
theorem k_pil {tg l : Expr} {tl : TE} (hl : PE X l tl) (h : X.K = K := by rfl) : PI X tg l (iList K tl) := by subst h; exact pi_list hl
theorem k_pit {tg l : Expr} {tl : TE} (hl : PE X l tl) (h : X.K = K := by rfl) : PI X tg l (iTup K tl) := by subst h; exact pi_tup hl
theorem k_pgt {es : List Expr} {k n : Nat} {t : TGs} {pos : Pos} (hc : X.calm = true) (hp : PGs X es t) (hn : (assignEach es X.env).length = n := by rfl) (hst : (assignEach es X.env).findIdx? (·.1) = none := by rfl) (h : X.K = K := by rfl) :
    PG X (.Tuple es k pos) (gTup K n t) := by subst h; exact pg_tup hc hp hn hst
theorem k_sll (h : X.K = K := by rfl) : SlR X (rSlL K) := by subst h; exact sl_list
theorem k_slt (h : X.K = K := by rfl) : SlR X (rSlT K) := by subst h; exact sl_tup
variable {o e : Expr} {es : List Expr} {to : TE} {t : TA} {name : PySem.Str} {apos cpos : Pos} {T id : String} {r : V → List V → Hp → VK → Prop}
theorem k_bm0 (pa : PlainAttrs T) (slot : Slot T name id) (hty : typeOf (.builtin id) = pure (.type "method_descriptor")) (hm : MtR X id r) (ho : PE X o to)
    (hbase : attributeBase o name X.env (eval o X.env) = eval o X.env := by rfl) (hline : (apos.endLine == cpos.line) = true := by rfl) (h : X.K = K := by rfl) : PE X (.Call (.Attribute o name apos) [] [] cpos) (tBM0 K T r to) := by
  subst h
  exact pe_bm0 pa slot hty hm ho hbase hline
theorem k_bm (pa : PlainAttrs T) (slot : Slot T name id) (hty : typeOf (.builtin id) = pure (.type "method_descriptor")) (hm : MtR X id r) (ho : PE X o to) (ha : PA X (e :: es) t)
    (hbase : attributeBase o name X.env (eval o X.env) = eval o X.env := by rfl)
    (hfew : ((backTo cpos (starEach (e :: es) X.env)).all (fun x => !x.1) && (backToKw cpos (keywordEach [] X.env)).all (fun x => x.1.isSome)
      && decide ((e :: es).length + ([] : List Keyword).length + (if ([] : List Keyword).isEmpty then 0 else 1) < 30)) = true := by rfl)
    (hline : (apos.endLine == cpos.line) = true := by rfl) (hs : starEach (e :: es) X.env = (false, eval e X.env) :: starEach es X.env := by rfl) (hplain : (backTo cpos (starEach es X.env)).any (·.1) = false := by rfl) (h : X.K = K := by rfl) :
    PE X (.Call (.Attribute o name apos) (e :: es) [] cpos) (tBM K T r to t) := by
  subst h
  exact pe_bm pa slot hty hm ho ha hbase hfew hline hs hplain
end
theorem vals_rev {xs : List V} {us : List Value} (r : Vals xs us) : Vals xs.reverse us.reverse := by
  induction r with
  | nil => exact .nil
  | cons h _ ih =>
    rw [List.reverse_cons, List.reverse_cons]
    exact ih.append (.cons h .nil)
end U


set_option Elab.async false
/-! the commits from which a commit comes: plain Lean -/
namespace Rch
/-- m is n, or a parent of what n comes of -/
inductive Reach (ps : List (List Nat)) : Nat → Nat → Prop
  | refl (n : Nat) : Reach ps n n
  | step {n m k : Nat} {l : List Nat} : ps[n]? = some l → m ∈ l → Reach ps m k → Reach ps n k
theorem Reach.snoc {ps : List (List Nat)} {n m k : Nat} {l : List Nat} (h : Reach ps n m) (e : ps[m]? = some l) (hk : k ∈ l) : Reach ps n k := by
  induction h with
  | refl n => exact .step e hk (.refl k)
  | step e1 h1 _ ih => exact .step e1 h1 (ih e)
/-- parents are earlier ones; at most two -/
structure Hist (ps : List (List Nat)) : Prop where
  lt : ∀ (i : Nat) (l : List Nat), ps[i]? = some l → ∀ m ∈ l, m < i
  two : ∀ (i : Nat) (l : List Nat), ps[i]? = some l → l.length ≤ 2
theorem Hist.le {ps : List (List Nat)} (h : Hist ps) {n m : Nat} (r : Reach ps n m) : m ≤ n := by
  induction r with
  | refl n => exact Nat.le_refl n
  | step e hm _ ih =>
    have q := h.lt _ _ e _ hm
    omega
theorem Hist.in {ps : List (List Nat)} (h : Hist ps) {n m : Nat} (hn : n < ps.length) (r : Reach ps n m) : m < ps.length := Nat.lt_of_le_of_lt (h.le r) hn
/-- all come of the first one -/
theorem Hist.zero {ps : List (List Nat)} (h : Hist ps) (hr : ∀ (i : Nat) (l : List Nat), ps[i]? = some l → 0 < i → l ≠ []) : ∀ (n : Nat), n < ps.length → Reach ps n 0 := by
  intro n
  induction n using Nat.strongRecOn with
  | ind n ih =>
    intro hn
    cases n with
    | zero => exact .refl 0
    | succ n =>
      obtain ⟨l, hl⟩ : ∃ l, ps[n + 1]? = some l := ⟨_, List.getElem?_eq_getElem hn⟩
      cases l with
      | nil => exact absurd rfl (hr _ _ hl (Nat.succ_pos _))
      | cons m r =>
        have q := h.lt _ _ hl m (List.mem_cons_self ..)
        exact .step hl (List.mem_cons_self ..) (ih m q (Nat.lt_trans q hn))
/-- the search's state: what waits, what is found -/
structure Dfs (ps : List (List Nat)) (n : Nat) (waiting found : List Nat) : Prop where
  w : ∀ m ∈ waiting, Reach ps n m
  f : ∀ m ∈ found, Reach ps n m
  n : n ∈ found ∨ n ∈ waiting
  cl : ∀ m ∈ found, ∀ l, ps[m]? = some l → ∀ k ∈ l, k ∈ found ∨ k ∈ waiting
  nd : found.Nodup
theorem Dfs.start (ps : List (List Nat)) (n : Nat) : Dfs ps n [n] [] :=
  ⟨fun m hm => by rw [List.mem_singleton.mp hm]; exact .refl n, fun m hm => (by cases hm), .inr (List.mem_singleton.mpr rfl), fun m hm => (by cases hm), List.nodup_nil⟩
theorem Dfs.skip {ps : List (List Nat)} {n m : Nat} {w f : List Nat} (d : Dfs ps n (w ++ [m]) f) (h : m ∈ f) : Dfs ps n w f := by
  refine ⟨fun k hk => d.w k (List.mem_append_left _ hk), d.f, ?_, fun a ha l e k hk => ?_, d.nd⟩
  · rcases d.n with q | q
    · exact .inl q
    · rcases List.mem_append.mp q with q | q
      · exact .inr q
      · rw [List.mem_singleton.mp q]; exact .inl h
  · rcases d.cl a ha l e k hk with q | q
    · exact .inl q
    · rcases List.mem_append.mp q with q | q
      · exact .inr q
      · rw [List.mem_singleton.mp q]; exact .inl h
theorem Dfs.take {ps : List (List Nat)} {n m : Nat} {w f l : List Nat} (d : Dfs ps n (w ++ [m]) f) (h : m ∉ f) (hl : ps[m]? = some l) : Dfs ps n (w ++ l) (f ++ [m]) := by
  have rm : Reach ps n m := d.w m (List.mem_append_right _ (List.mem_singleton.mpr rfl))
  have mv : ∀ k, k ∈ w ++ [m] → k ∈ f ++ [m] ∨ k ∈ w ++ l := fun k hk => by
    rcases List.mem_append.mp hk with q | q
    · exact .inr (List.mem_append_left _ q)
    · exact .inl (List.mem_append_right _ q)
  refine ⟨fun k hk => ?_, fun k hk => ?_, ?_, fun a ha l' e k hk => ?_, ?_⟩
  · rcases List.mem_append.mp hk with q | q
    · exact d.w k (List.mem_append_left _ q)
    · exact rm.snoc hl q
  · rcases List.mem_append.mp hk with q | q
    · exact d.f k q
    · rw [List.mem_singleton.mp q]; exact rm
  · rcases d.n with q | q
    · exact .inl (List.mem_append_left _ q)
    · exact mv n q
  · rcases List.mem_append.mp ha with q | q
    · rcases d.cl a q l' e k hk with z | z
      · exact .inl (List.mem_append_left _ z)
      · exact mv k z
    · rw [List.mem_singleton.mp q, hl] at e
      cases e
      exact .inr (List.mem_append_right _ hk)
  · refine List.nodup_append.mpr ⟨d.nd, List.nodup_cons.mpr ⟨by simp, List.nodup_nil⟩, fun a ha b hb => ?_⟩
    rw [List.mem_singleton.mp hb]
    exact fun e => h (e ▸ ha)
/-- behind the search -/
theorem Dfs.done {ps : List (List Nat)} {n : Nat} {f : List Nat} (d : Dfs ps n [] f) : ∀ m, m ∈ f ↔ Reach ps n m := by
  intro m
  refine ⟨d.f m, fun r => ?_⟩
  have hn : n ∈ f := d.n.resolve_right (by simp)
  have go : ∀ {a b : Nat}, Reach ps a b → a ∈ f → b ∈ f := by
    intro a b r
    induction r with
    | refl a => exact id
    | step e hk _ ih => exact fun ha => ih ((d.cl _ ha _ e _ hk).resolve_right (by simp))
  exact go r hn
theorem nodup_le : ∀ (n : Nat) (l : List Nat), l.Nodup → (∀ m ∈ l, m < n) → l.length ≤ n := by
  intro n
  induction n with
  | zero =>
    intro l _ h
    cases l with
    | nil => exact Nat.le_refl 0
    | cons a r => exact absurd (h a (List.mem_cons_self ..)) (Nat.not_lt_zero _)
  | succ n ih =>
    intro l nd h
    have h1 := ih (l.filter (fun a => decide (a ≠ n))) (nd.sublist List.filter_sublist) (fun m hm => by
      obtain ⟨h1, h2⟩ := List.mem_filter.mp hm
      have h3 := of_decide_eq_true h2
      have h4 := h m h1
      omega)
    have h2 : l.length ≤ (l.filter (fun a => decide (a ≠ n))).length + 1 := by
      clear h ih h1
      induction l with
      | nil => exact Nat.zero_le _
      | cons a r ihr =>
        obtain ⟨n1, n2⟩ := List.nodup_cons.mp nd
        by_cases e : a = n
        · have hr : r.filter (fun a => decide (a ≠ n)) = r := List.filter_eq_self.mpr fun b hb => decide_eq_true fun q => n1 (by rw [e, ← q]; exact hb)
          rw [List.filter_cons_of_neg (by simpa using e), hr]
          exact Nat.le_refl _
        · rw [List.filter_cons_of_pos (by simpa using e)]
          have := ihr n2
          simp only [List.length_cons]
          omega
    omega
/-- the measure -/
def mea (ps : List (List Nat)) (w f : List Nat) : Nat := 3 * (ps.length - f.length) + w.length
theorem mea_skip {ps : List (List Nat)} {m : Nat} {w f : List Nat} : mea ps w f < mea ps (w ++ [m]) f := by
  unfold mea
  simp only [List.length_append, List.length_cons, List.length_nil]
  omega
theorem mea_take {ps : List (List Nat)} (H : Hist ps) {n m : Nat} {w f l : List Nat} (hn : n < ps.length) (d : Dfs ps n (w ++ [m]) f) (h : m ∉ f) (hl : ps[m]? = some l) : mea ps (w ++ l) (f ++ [m]) < mea ps (w ++ [m]) f := by
  have d2 := d.take h hl
  have h1 := nodup_le ps.length _ d2.nd fun k hk => H.in hn (d2.f k hk)
  have h2 := H.two _ _ hl
  unfold mea
  simp only [List.length_append, List.length_cons, List.length_nil] at h1 ⊢
  omega
theorem Dfs.wait_le {ps : List (List Nat)} {n : Nat} {w f : List Nat} (H : Hist ps) (hn : n < ps.length) (d : Dfs ps n w f) : f.length ≤ ps.length :=
  nodup_le ps.length _ d.nd fun k hk => H.in hn (d.f k hk)
/-! ### what is told: ints -/
/-- L is the rising list of those of which n comes -/
structure Anc (ps : List (List Nat)) (n : Nat) (L : List Int) : Prop where
  up : L.Pairwise (· < ·)
  mem : ∀ z : Int, z ∈ L ↔ ∃ m : Nat, z = m ∧ Reach ps n m
theorem up_unique : ∀ {a b : List Int}, a.Pairwise (· < ·) → b.Pairwise (· < ·) → (∀ z, z ∈ a ↔ z ∈ b) → a = b
  | [], [], _, _, _ => rfl
  | [], y :: b, _, _, h => absurd ((h y).mpr (List.mem_cons_self ..)) (by simp)
  | x :: a, [], _, _, h => absurd ((h x).mp (List.mem_cons_self ..)) (by simp)
  | x :: a, y :: b, pa, pb, h => by
    obtain ⟨a1, a2⟩ := List.pairwise_cons.mp pa
    obtain ⟨b1, b2⟩ := List.pairwise_cons.mp pb
    have e : x = y := by
      have hx := (h x).mp (List.mem_cons_self ..)
      have hy := (h y).mpr (List.mem_cons_self ..)
      rcases List.mem_cons.mp hx with q | q
      · exact q
      · rcases List.mem_cons.mp hy with z | z
        · exact z.symm
        · have := b1 x q
          have := a1 y z
          omega
    subst e
    refine congrArg (x :: ·) (up_unique a2 b2 fun z => ⟨fun hz => ?_, fun hz => ?_⟩)
    · rcases List.mem_cons.mp ((h z).mp (List.mem_cons_of_mem _ hz)) with q | q
      · have := a1 z hz
        omega
      · exact q
    · rcases List.mem_cons.mp ((h z).mpr (List.mem_cons_of_mem _ hz)) with q | q
      · have := b1 z hz
        omega
      · exact q
theorem Anc.one {ps : List (List Nat)} {n : Nat} {a b : List Int} (h : Anc ps n a) (k : Anc ps n b) : a = b :=
  up_unique h.up k.up fun z => (h.mem z).trans (k.mem z).symm
theorem lt_of_le_nodup : ∀ {l : List Int}, l.Pairwise (· ≤ ·) → l.Nodup → l.Pairwise (· < ·)
  | [], _, _ => .nil
  | x :: r, h, nd => by
    obtain ⟨h1, h2⟩ := List.pairwise_cons.mp h
    obtain ⟨n1, n2⟩ := List.nodup_cons.mp nd
    refine List.pairwise_cons.mpr ⟨fun y hy => ?_, lt_of_le_nodup h2 n2⟩
    have q := h1 y hy
    have : x ≠ y := fun e => n1 (e ▸ hy)
    omega
theorem map_nodup {l : List Nat} (h : l.Nodup) : (l.map fun m : Nat => (m : Int)).Nodup := by
  induction l with
  | nil => exact List.nodup_nil
  | cons a r ih =>
    obtain ⟨h1, h2⟩ := List.nodup_cons.mp h
    refine List.nodup_cons.mpr ⟨fun q => ?_, ih h2⟩
    obtain ⟨b, hb, e⟩ := List.mem_map.mp q
    have : b = a := Int.ofNat.inj e
    exact h1 (this ▸ hb)
/-- the sorted list of what was found -/
theorem Dfs.anc {ps : List (List Nat)} {n : Nat} {f : List Nat} (d : Dfs ps n [] f) {ys : List Int} (p : ys.Perm (f.map fun m : Nat => (m : Int))) (u : ys.Pairwise (· ≤ ·)) : Anc ps n ys := by
  refine ⟨lt_of_le_nodup u (p.nodup_iff.mpr (map_nodup d.nd)), fun z => ?_⟩
  rw [p.mem_iff, List.mem_map]
  constructor
  · rintro ⟨m, hm, rfl⟩
    exact ⟨m, rfl, (d.done m).mp hm⟩
  · rintro ⟨m, rfl, r⟩
    exact ⟨m, (d.done m).mpr r, rfl⟩
theorem Anc.length {ps : List (List Nat)} {n : Nat} {L : List Int} (H : Hist ps) (hn : n < ps.length) (h : Anc ps n L) : L.length ≤ ps.length := by
  have nd : L.Nodup := h.up.imp fun {a b} q => by omega
  have e : L = (L.map Int.toNat).map fun m : Nat => (m : Int) := by
    rw [List.map_map]
    refine (List.map_id L).symm.trans (List.map_congr_left fun z hz => ?_)
    obtain ⟨m, rfl, _⟩ := (h.mem z).mp hz
    rfl
  have l : (L.map Int.toNat).length = L.length := List.length_map ..
  rw [← l]
  refine nodup_le _ _ ?_ fun m hm => ?_
  · have : ((L.map Int.toNat).map fun m : Nat => (m : Int)).Nodup := e ▸ nd
    exact (List.pairwise_map.mp this).imp fun {a b} q e => q (by rw [e])
  · obtain ⟨z, hz, rfl⟩ := List.mem_map.mp hm
    obtain ⟨k, rfl, r⟩ := (h.mem z).mp hz
    exact H.in hn r
/-- the greatest of which both come -/
structure Bas (ps : List (List Nat)) (a b : Nat) (z : Int) : Prop where
  is : ∃ m : Nat, z = m ∧ Reach ps a m ∧ Reach ps b m
  top : ∀ m : Nat, Reach ps a m → Reach ps b m → (m : Int) ≤ z
theorem Bas.one {ps : List (List Nat)} {a b : Nat} {y z : Int} (h : Bas ps a b y) (k : Bas ps a b z) : y = z := by
  obtain ⟨m, e1, r1, r2⟩ := h.is
  obtain ⟨n, e2, q1, q2⟩ := k.is
  have h1 := h.top n q1 q2
  have h2 := k.top m r1 r2
  omega
theorem Bas.turn {ps : List (List Nat)} {a b : Nat} {z : Int} (h : Bas ps a b z) : Bas ps b a z :=
  ⟨let ⟨m, e, r1, r2⟩ := h.is; ⟨m, e, r2, r1⟩, fun m r1 r2 => h.top m r2 r1⟩
theorem Bas.self {ps : List (List Nat)} (H : Hist ps) (a : Nat) : Bas ps a a a := ⟨⟨a, rfl, .refl a, .refl a⟩, fun m r _ => by have := H.le r; omega⟩
/-- the greatest of those in both lists -/
theorem Bas.of {ps : List (List Nat)} {a b : Nat} {A B F : List Int} {z : Int} (ha : Anc ps a A) (hb : Anc ps b B) (hF : ∀ y, y ∈ F ↔ y ∈ A ∧ y ∈ B) (hz : z ∈ F) (ht : ∀ y ∈ F, y ≤ z) : Bas ps a b z := by
  refine ⟨?_, fun m r1 r2 => ht _ ((hF _).mpr ⟨(ha.mem _).mpr ⟨m, rfl, r1⟩, (hb.mem _).mpr ⟨m, rfl, r2⟩⟩)⟩
  obtain ⟨h1, h2⟩ := (hF z).mp hz
  obtain ⟨m, e, r1⟩ := (ha.mem z).mp h1
  obtain ⟨n, e2, r2⟩ := (hb.mem z).mp h2
  have : m = n := by omega
  subst this
  exact ⟨m, e, r1, r2⟩
/-- one of both lists stands, if all come of the first one -/
theorem Anc.has {ps : List (List Nat)} {a : Nat} {A : List Int} {m : Nat} (h : Anc ps a A) (r : Reach ps a m) : (m : Int) ∈ A := (h.mem _).mpr ⟨m, rfl, r⟩
/-- a closed list holds all of which one comes -/
theorem reach_in {ps : List (List Nat)} {S : List Nat} (c : ∀ m ∈ S, ∀ l, ps[m]? = some l → ∀ k ∈ l, k ∈ S) : ∀ {a b : Nat}, Reach ps a b → a ∈ S → b ∈ S := by
  intro a b r
  induction r with
  | refl a => exact id
  | step e hk _ ih => exact fun ha => ih (c _ ha _ e _ hk)
end Rch



set_option Elab.async false
set_option linter.all false
set_option maxRecDepth 100000
set_option maxHeartbeats 4000000
namespace K75
open PySem PySem.Spec PyProof.Rows L2 U Rch
open C8 (pss_cut)
def topS (i : Nat) : Stmt := PySem.Challenge.pw_claimroots_k75_whole_bases_of_commits.main.body.getD i (.Pass ⟨0, 0, 0, 0⟩)
abbrev s_parents_of : Stmt := topS 1
abbrev N_parents_of : List PySem.Str := ["commit"]
abbrev P_parents_of : List PySem.Str := ["commit"]
theorem sc_parents_of : FnScope N_parents_of P_parents_of (defScope s_parents_of) := ⟨rfl, rfl, rfl, by decide +kernel, rfl, by decide +kernel, by decide +kernel⟩
abbrev s_ancestors : Stmt := topS 2
abbrev N_ancestors : List PySem.Str := ["commits", "number", "waiting", "found", "here"]
abbrev P_ancestors : List PySem.Str := ["commits", "number"]
theorem sc_ancestors : FnScope N_ancestors P_ancestors (defScope s_ancestors) := ⟨rfl, rfl, rfl, by decide +kernel, rfl, by decide +kernel, by decide +kernel⟩
abbrev s_base_of : Stmt := topS 3
abbrev N_base_of : List PySem.Str := ["commits", "one", "other", "mine", "at"]
abbrev P_base_of : List PySem.Str := ["commits", "one", "other"]
theorem sc_base_of : FnScope N_base_of P_base_of (defScope s_base_of) := ⟨rfl, rfl, rfl, by decide +kernel, rfl, by decide +kernel, by decide +kernel⟩
abbrev s__law_begun : Stmt := topS 5
abbrev N__law_begun : List PySem.Str := ["script", "great", "cell"]
abbrev P__law_begun : List PySem.Str := ["script"]
theorem sc__law_begun : FnScope N__law_begun P__law_begun (defScope s__law_begun) := ⟨rfl, rfl, rfl, by decide +kernel, rfl, by decide +kernel, by decide +kernel⟩
abbrev s__law_mixed : Stmt := topS 6
abbrev N__law_mixed : List PySem.Str := ["state", "turn", "found", "prime", "blend", "cell"]
abbrev P__law_mixed : List PySem.Str := ["state"]
theorem sc__law_mixed : FnScope N__law_mixed P__law_mixed (defScope s__law_mixed) := ⟨rfl, rfl, rfl, by decide +kernel, rfl, by decide +kernel, by decide +kernel⟩
abbrev s__law_draw : Stmt := topS 7
abbrev N__law_draw : List PySem.Str := ["state", "room", "found"]
abbrev P__law_draw : List PySem.Str := ["state", "room"]
theorem sc__law_draw : FnScope N__law_draw P__law_draw (defScope s__law_draw) := ⟨rfl, rfl, rfl, by decide +kernel, rfl, by decide +kernel, by decide +kernel⟩
abbrev s__law_plain : Stmt := topS 8
abbrev N__law_plain : List PySem.Str := ["value", "one"]
abbrev P__law_plain : List PySem.Str := ["value"]
theorem sc__law_plain : FnScope N__law_plain P__law_plain (defScope s__law_plain) := ⟨rfl, rfl, rfl, by decide +kernel, rfl, by decide +kernel, by decide +kernel⟩
abbrev s__law_is : Stmt := topS 9
abbrev N__law_is : List PySem.Str := ["found", "due"]
abbrev P__law_is : List PySem.Str := ["found", "due"]
theorem sc__law_is : FnScope N__law_is P__law_is (defScope s__law_is) := ⟨rfl, rfl, rfl, by decide +kernel, rfl, by decide +kernel, by decide +kernel⟩
abbrev s__law_ahead : Stmt := topS 10
abbrev N__law_ahead : List PySem.Str := ["model", "number", "waiting", "found", "here"]
abbrev P__law_ahead : List PySem.Str := ["model", "number"]
theorem sc__law_ahead : FnScope N__law_ahead P__law_ahead (defScope s__law_ahead) := ⟨rfl, rfl, rfl, by decide +kernel, rfl, by decide +kernel, by decide +kernel⟩
abbrev s_law : Stmt := topS 11
abbrev N_law : List PySem.Str := ["script", "state", "some", "parents", "turn", "commits", "at", "model", "commit", "lots", "lap", "one", "other", "due"]
abbrev P_law : List PySem.Str := ["script"]
theorem sc_law : FnScope N_law P_law (defScope s_law) := ⟨rfl, rfl, rfl, by decide +kernel, rfl, by decide +kernel, by decide +kernel⟩
/-- built-in names that the module leaves as they are -/
structure Bi (mg : PySem.Str → Option Value) : Prop where
  n_abs : mg "abs" = none
  n_dict : mg "dict" = none
  n_int : mg "int" = none
  n_isinstance : mg "isinstance" = none
  n_len : mg "len" = none
  n_list : mg "list" = none
  n_max : mg "max" = none
  n_min : mg "min" = none
  n_range : mg "range" = none
  n_repr : mg "repr" = none
  n_sorted : mg "sorted" = none
  n_str : mg "str" = none
  n_tuple : mg "tuple" = none
/-! ### what draws are taken from -/
def stD (g c : Addr) (r t : Int) : HO := .dK [(.inr "great", .ref g), (.inr "cells", .ref c), (.inr "rest", .int r), (.inr "turn", .int t)]
/-- the state at st: great digits at g, cells at c, at most n turns so far -/
structure Dr (H : Hp) (st g c : Addr) (n : Nat) : Prop where
  ex : ∃ (gs cs : List Int) (r t : Int), H st = some (stD g c r t) ∧ H g = some (.lst (gs.map V.int)) ∧ H c = some (.lst (cs.map V.int)) ∧ (∀ x ∈ gs, 0 ≤ x) ∧ (∀ x ∈ cs, 0 ≤ x) ∧ gs.length ≤ 63 ∧ cs.length ≤ 63 ∧ 0 ≤ r ∧ 0 ≤ t ∧ t ≤ n
  ne : g ≠ c
/-- all but the state's own objects stands -/
def Kp (st g : Addr) (H H' : Hp) : Prop := ∀ b o, H b = some o → b ≠ st → b ≠ g → H' b = some o
theorem Kp.refl (st g : Addr) (H : Hp) : Kp st g H H := fun _ _ h _ _ => h
theorem Kp.trans {st g : Addr} {H H1 H2 : Hp} (a : Kp st g H H1) (b : Kp st g H1 H2) : Kp st g H H2 := fun x o h n1 n2 => b x o (a x o h n1 n2) n1 n2
theorem Kp.of_same {st g : Addr} {H H' : Hp} (s : Same H H') : Kp st g H H' := fun b o h _ _ => s b o h
theorem Dr.tu {H H' : Hp} {st g c : Addr} {n : Nat} (d : Dr H st g c n) (k : Kp st g H H') : Tu H H' := fun b xs h => by
  obtain ⟨gs, cs, r, t, h1, h2, _⟩ := d.ex
  exact k b _ h (ne_of h h1 (fun z => nomatch z)) (ne_of h h2 (fun z => nomatch z))
/-- the state stands where nothing of it was written -/
theorem Dr.same {H H' : Hp} {st g c : Addr} {n : Nat} (d : Dr H st g c n) (s : Same H H') : Dr H' st g c n := by
  obtain ⟨gs, cs, r, t, h1, h2, h3, q⟩ := d.ex
  exact ⟨⟨gs, cs, r, t, s _ _ h1, s _ _ h2, s _ _ h3, q⟩, d.ne⟩
theorem Dr.mut {H : Hp} {st g c p : Addr} {n : Nat} {o : HO} (d : Dr H st g c n) (h1 : p ≠ st) (h2 : p ≠ g) (h3 : p ≠ c) : Dr (upd H p o) st g c n := by
  obtain ⟨gs, cs, r, t, q1, q2, q3, q⟩ := d.ex
  exact ⟨⟨gs, cs, r, t, by rw [upd_ne (Ne.symm h1)]; exact q1, by rw [upd_ne (Ne.symm h2)]; exact q2, by rw [upd_ne (Ne.symm h3)]; exact q3, q⟩, d.ne⟩
theorem Dr.free {H : Hp} {st g c p : Addr} {n : Nat} (d : Dr H st g c n) (h : H p = none) : p ≠ st ∧ p ≠ g ∧ p ≠ c := by
  obtain ⟨gs, cs, r, t, q1, q2, q3, q⟩ := d.ex
  exact ⟨(ne_of_none q1 h).symm, (ne_of_none q2 h).symm, (ne_of_none q3 h).symm⟩
theorem Dr.more {H : Hp} {st g c : Addr} {n m : Nat} (d : Dr H st g c n) (h : n ≤ m) : Dr H st g c m := by
  obtain ⟨gs, cs, r, t, q1, q2, q3, q4, q5, q6, q7, q8, q9, q10⟩ := d.ex
  exact ⟨⟨gs, cs, r, t, q1, q2, q3, q4, q5, q6, q7, q8, q9, by omega⟩, d.ne⟩
section
variable {H : Hp} {st g c : Addr} {r t : Int}
theorem get_great (h : H st = some (stD g c r t)) : DGet H st (.str "great") (some (.ref g)) := DGet.k (k := .inr "great") h
theorem get_cells (h : H st = some (stD g c r t)) : DGet H st (.str "cells") (some (.ref c)) := DGet.k (k := .inr "cells") h
theorem get_rest (h : H st = some (stD g c r t)) : DGet H st (.str "rest") (some (.int r)) := DGet.k (k := .inr "rest") h
theorem get_turn (h : H st = some (stD g c r t)) : DGet H st (.str "turn") (some (.int t)) := DGet.k (k := .inr "turn") h
theorem put_rest (h : H st = some (stD g c r t)) (z : Int) : DPut H st (.str "rest") (.int z) (upd H st (stD g c z t)) := DPut.k (k := .inr "rest") h (by show 4 < sizeLine; decide)
theorem put_turn (h : H st = some (stD g c r t)) (z : Int) : DPut H st (.str "turn") (.int z) (upd H st (stD g c r z)) := DPut.k (k := .inr "turn") h (by show 4 < sizeLine; decide)
end
/-! ### begun -/
def spBegun (K : PySem.W.Frag) : Sp := fun vs H Q _ => ∃ (a : Addr) (ns : List Int), vs = [.ref a] ∧ SqL K H a (ns.map V.int) ∧ ns.length ≤ 63 ∧
  ∀ H' st g c, Same H H' → H st = none → H g = none → H c = none → Dr H' st g c 0 → Q (.ref st) H'
def spMixed : Sp := fun vs H Q _ => ∃ (st g c : Addr) (n : Nat), vs = [.ref st] ∧ Dr H st g c n ∧ n < 2 ^ 40 ∧
  ∀ H' z, (∀ b o, H b = some o → b ≠ st → H' b = some o) → (∃ r t t', H st = some (stD g c r t) ∧ H' st = some (stD g c r t')) → Dr H' st g c (n + 1) → 0 ≤ z → Q (.int z) H'
def spDraw : Sp := fun vs H Q _ => ∃ (st g c : Addr) (n : Nat) (room : Int), vs = [.ref st, .int room] ∧ 0 < room ∧ room < 1073741824 ∧ Dr H st g c n ∧ n < 2 ^ 40 ∧
  ∀ H' z, Kp st g H H' → Dr H' st g c (n + 1) → 0 ≤ z → z < room → Q (.int z) H'
theorem list_more {l : List V} {n : Nat} (h : l.length ≤ n) (hn : n ≤ 1000) : l.length < sizeLine := small1000 (by omega)
theorem get_int {ns : List Int} {i : Nat} {x : V} (h : (ns.map V.int)[i]? = some x) : ∃ n, ns[i]? = some n ∧ x = .int n := by
  rw [List.getElem?_map] at h
  cases e : ns[i]? with
  | none => rw [e] at h; cases h
  | some n => rw [e] at h; exact ⟨n, rfl, (Option.some.inj h).symm⟩
theorem nn_abs (i : Int) : 0 ≤ (if i < 0 then -i else i) := by
  split <;> omega
section
variable {P : Program} {w : World} {K : PySem.W.Frag} {mg : PySem.Str → Option Value} {base : Heap}
theorem ok_begun {f : Addr} {fd : FuncData} (F : FunD K "_law_begun" "_law_begun" (defArgs s__law_begun) (defBody s__law_begun) (defScope s__law_begun) [] [] f fd) (T : Bi mg) : FnOk P w K mg base CX0 1 f fd P__law_begun (spBegun K) := by
  refine F.ok sc__law_begun (fun vs H Q E h => ?_) (fun cdv A outer s H vs Q E hr h => ?_)
  · obtain ⟨a, ns, rfl, _⟩ := h
    rfl
  · have hu := hu_of hr
    obtain ⟨a, ns, rfl, hS, hlen, q⟩ := h
    refine ⟨_, PSs.nox ((pss_cons (ps_setLc (i := 1) (own := [("cell", 2)]) (g := gName 2) rfl sc__law_begun.nd rfl rfl (sw_true rfl rfl rfl (by decide +kernel)) (k_pil K (pv 0)) (blkOk_by (N := N__law_begun) (sc := defScope s__law_begun) (by decide +kernel)) (fun _ _ _ _ _ => (pg_name (i := 2) sc__law_begun.nd rfl (.inl rfl))) (fun _ _ _ _ _ => (pts_one (pt_cmpR op_ge (pe_callB call_abs (by rfl) T.n_abs (by decide +kernel) (pa_cons (pv 2) pa_nil)) (pe_op op_pow pe_int pe_int) (nomark _)))) (fun _ _ _ _ _ => (pe_op op_sub (pe_callB call_abs (by rfl) T.n_abs (by decide +kernel) (pa_cons (pv 2) pa_nil)) (pe_op op_pow pe_int pe_int))))
      (pss_one (ps_ret (pe_disp (pps_cons pe_str (pv 1) (pps_cons pe_str (pe_lc (own := [("cell", 2)]) (g := gName 2) (tt := tYes) rfl sc__law_begun.nd (k_pil K (pv 0)) (blkOk_by (N := N__law_begun) (sc := defScope s__law_begun) (by decide +kernel)) (fun _ _ _ _ _ => (pg_name (i := 2) sc__law_begun.nd rfl (.inl rfl))) (fun _ _ _ _ _ => pts_nil) (fun _ _ _ _ _ => (pe_callB call_abs (by rfl) T.n_abs (by decide +kernel) (pa_cons (pv 2) pa_nil)))) (pps_cons pe_str pe_int (pps_cons pe_str pe_int pps_nil)))) (by rfl) (by rfl) (fun z => by cases z) (by decide)))))), ?_⟩
    -- great = [..]
    refine ⟨.ref a, rfl, a, rfl, ⟨_, hS⟩, fun g hg => ?_⟩
    refine lc_list (K := K) (a := a) (xs := ns.map V.int) (fun i H1 => ∃ gs : List Int, H1 = upd H g (.lst (gs.map V.int)) ∧ gs.length ≤ i ∧ ∀ x ∈ gs, 0 ≤ x) ⟨[], rfl, Nat.le_refl 0, fun x hx => by cases hx⟩ ?_ ?_ ?_
    · rintro i H1 _ ⟨gs, rfl, _⟩
      exact (same_upd hg).seq hS
    · rintro i x H1 hi ⟨gs, rfl, hl, hp⟩
      obtain ⟨n, hn, rfl⟩ := get_int hi
      have hin : i < ns.length := (List.getElem?_eq_some_iff.mp hn).1
      refine ⟨rfl, _, rfl, n, rfl, 10, 18, rfl, rfl, ⟨by decide, by decide, by decide⟩, _, _, rfl, rfl, _, rfl, ite2 (fun ht => ?_) fun _ => ⟨gs, rfl, Nat.le_succ_of_le hl, hp⟩⟩
      have ht' := of_decide_eq_true ht
      refine ⟨_, rfl, n, rfl, 10, 18, rfl, rfl, ⟨by decide, by decide, by decide⟩, _, _, rfl, rfl, _, upd_same, list_more (n := 63) (by rw [List.length_map]; omega) (by decide), gs ++ [(if n < 0 then -n else n) - 10 ^ 18], ?_, ?_, ?_⟩
      · rw [upd_upd, List.map_append]
        rfl
      · rw [List.length_append, List.length_singleton]
        omega
      · intro x hx
        rcases List.mem_append.mp hx with z | z
        · exact hp x z
        · rw [List.mem_singleton.mp z]
          have : (10 : Int) ^ 18 = 1000000000000000000 := by decide
          have h2 : (10 : Int) ^ (18 : Int).toNat = 1000000000000000000 := by decide
          rw [h2] at ht'
          omega
    · rintro H1 ⟨gs, rfl, hl, hp⟩
      rw [List.length_map] at hl
      -- the dict
      intro st hst
      have gst : g ≠ st := ne_of_none upd_same hst
      refine ⟨.ref g, rfl, .ref a, rfl, a, rfl, ⟨_, (same_upd hst).seq ((same_upd hg).seq hS)⟩, fun c hc => ?_⟩
      have gc : g ≠ c := ne_of_none (show (upd (upd H g (.lst (gs.map V.int))) st (.dK [])) g = some (.lst (gs.map V.int)) by rw [upd_ne gst]; exact upd_same) hc
      have stc : st ≠ c := ne_of_none upd_same hc
      have s0 : Same H (upd (upd H g (.lst (gs.map V.int))) st (.dK [])) := (same_upd hg).trans (same_upd hst)
      refine lc_list (K := K) (a := a) (xs := ns.map V.int) (fun i H1 => ∃ cs : List Int, H1 = upd (upd (upd H g (.lst (gs.map V.int))) st (.dK [])) c (.lst (cs.map V.int)) ∧ cs.length ≤ i ∧ ∀ x ∈ cs, 0 ≤ x) ⟨[], rfl, Nat.le_refl 0, fun x hx => by cases hx⟩ ?_ ?_ ?_
      · rintro i H1 _ ⟨cs, rfl, _⟩
        exact (s0.trans (same_upd hc)).seq hS
      · rintro i x H1 hi ⟨cs, rfl, hl2, hp2⟩
        obtain ⟨n, hn, rfl⟩ := get_int hi
        have hin : i < ns.length := (List.getElem?_eq_some_iff.mp hn).1
        refine ⟨rfl, yes ⟨_, rfl, n, rfl, _, upd_same, list_more (n := 63) (by rw [List.length_map]; omega) (by decide), cs ++ [if n < 0 then -n else n], ?_, ?_, ?_⟩⟩
        · rw [upd_upd, List.map_append]
          rfl
        · rw [List.length_append, List.length_singleton]
          omega
        · intro x hx
          rcases List.mem_append.mp hx with z | z
          · exact hp2 x z
          · rw [List.mem_singleton.mp z]
            exact nn_abs n
      · rintro H1 ⟨cs, rfl, hl2, hp2⟩
        rw [List.length_map] at hl2
        refine ⟨by rw [upd_ne stc]; exact upd_same, [(.inr "great", .ref g), (.inr "cells", .ref c), (.inr "rest", .int 0), (.inr "turn", .int 0)], rfl, (by show 4 ≤ 15; decide), ?_⟩
        have hc0 : H c = none := s0.free hc
        have hst0 : H st = none := (same_upd hg).free hst
        refine q _ st g c (same_mut (s0.trans (same_upd hc)) hst0) hst0 hg hc0 ⟨⟨gs, cs, 0, 0, upd_same, ?_, ?_, hp, hp2, by omega, by omega, Int.le_refl 0, Int.le_refl 0, Int.le_refl 0⟩, gc⟩
        · rw [upd_ne gst, upd_ne gc, upd_ne gst, upd_same]
        · rw [upd_ne (Ne.symm stc), upd_same]
/-- the four primes -/
theorem prime_of {i : Nat} {x : V} (h : ([.int 2147483629, .int 2147483587, .int 2147483579, .int 2147483563] : List V)[i]? = some x) : ∃ p : Int, x = .int p ∧ 2147483000 < p ∧ p < 2147483648 := by
  match i, h with
  | 0, h => exact ⟨_, (Option.some.inj h).symm, by decide, by decide⟩
  | 1, h => exact ⟨_, (Option.some.inj h).symm, by decide, by decide⟩
  | 2, h => exact ⟨_, (Option.some.inj h).symm, by decide, by decide⟩
  | 3, h => exact ⟨_, (Option.some.inj h).symm, by decide, by decide⟩
  | n + 4, h => simp at h
theorem pow5_nn {b : Int} (h : 0 ≤ b) : 0 ≤ b ^ (5 : Int).toNat := Int.pow_nonneg h
theorem ok_mixed {f : Addr} {fd : FuncData} (F : FunD K "_law_mixed" "_law_mixed" (defArgs s__law_mixed) (defBody s__law_mixed) (defScope s__law_mixed) [] [] f fd) (T : Bi mg) : FnOk P w K mg base CX0 1 f fd P__law_mixed spMixed := by
  refine F.ok sc__law_mixed (fun vs H Q E h => ?_) (fun cdv A outer s H vs Q E hr h => ?_)
  · obtain ⟨st, g, c, n, rfl, _⟩ := h
    rfl
  · have hu := hu_of hr
    obtain ⟨st, g, c, n, rfl, d, hn, q⟩ := h
    obtain ⟨gs, cs, r, t, h1, h2, h3, p1, p2, l1, l2, r0, t0, tn⟩ := d.ex
    refine ⟨_, PSs.nox ((pss_cons (ps_par (by rfl) sc__law_mixed.nd rfl rfl (by decide) rfl rfl (i := 1) (j := 2) (pa_cons (pe_op op_add (pe_dget hu (pv 0) pe_str (fun _ _ => rfl)) pe_int) (pa_cons pe_int pa_nil)) (by rfl))
      (pss_cons (ps_dput hu (pv 0) pe_str (pv 1) rfl)
      (pss_cons (ps_for PassesOwn.never rfl (k_pil K (pe_lst (pa_cons pe_int (pa_cons pe_int (pa_cons pe_int (pa_cons pe_int pa_nil)))))) (pg_name (i := 3) sc__law_mixed.nd rfl (.inl rfl)) (pss_cons (ps_set (i := 4) sc__law_mixed.nd rfl (.inl rfl) (pe_op op_add (pe_op op_mul pe_int (pv 1)) (pe_op op_fdiv (pv 3) pe_int)))
      (pss_cons (ps_for PassesOwn.never rfl (k_pil K (pe_dget hu (pv 0) pe_str (fun _ _ => rfl))) (pg_name (i := 5) sc__law_mixed.nd rfl (.inl rfl)) (pss_one (ps_set (i := 4) sc__law_mixed.nd rfl (.inl rfl) (pe_op op_mod (pe_callTy call_int1 (by rfl) T.n_int (by decide +kernel) (pa_cons (pe_op op_add (pe_op op_add (pe_op op_mul (pv 4) pe_int) (pv 5)) (pv 1)) pa_nil)) (pv 3)))))
      (pss_one (ps_set (i := 2) sc__law_mixed.nd rfl (.inl rfl) (pe_op op_add (pe_op op_mul (pv 2) pe_int) (pe_op op_mod (pe_callTy call_int1 (by rfl) T.n_int (by decide +kernel) (pa_cons (pe_op op_pow (pv 4) pe_int) pa_nil)) (pv 3))))))))
      (pss_one (ps_ret (pv 2))))))), ?_⟩
    -- turn, found = ..; state['turn'] = turn
    refine ⟨.ref st, rfl, st, .int t, rfl, get_turn h1, t, 1, rfl, rfl, _, _, rfl, .int (t + 1), rfl, .ref st, rfl, st, _, rfl, put_turn h1 (t + 1), ?_⟩
    have sg : g ≠ st := ne_of h2 h1 (fun z => nomatch z)
    have sc : c ≠ st := ne_of h3 h1 (fun z => nomatch z)
    have k1 : ∀ b o, H b = some o → b ≠ st → (upd H st (stD g c r (t + 1))) b = some o := fun b o e hb => by
      rw [upd_ne hb]
      exact e
    -- for prime in [..]
    refine ⟨by show 4 ≤ sizeLine; decide, fun pl hpl => ⟨pl, rfl, ⟨_, SqL.of upd_same⟩, ?_⟩⟩
    have k2 : Same (upd H st (stD g c r (t + 1))) (upd (upd H st (stD g c r (t + 1))) pl (.lst [.int 2147483629, .int 2147483587, .int 2147483579, .int 2147483563])) := same_upd hpl
    have e1 := k2 _ _ (upd_same : upd H st (stD g c r (t + 1)) st = _)
    have e3 := k2 _ _ (k1 _ _ h3 sc)
    refine for_list (K := K) (a := pl) (xs := [.int 2147483629, .int 2147483587, .int 2147483579, .int 2147483563])
      (fun i σ H' => ∃ (z : Int) (x3 x4 x5 : Option V), 0 ≤ z ∧ σ = [some (.ref st), some (.int (t + 1)), some (.int z), x3, x4, x5] ∧ H' = upd (upd H st (stD g c r (t + 1))) pl (.lst [.int 2147483629, .int 2147483587, .int 2147483579, .int 2147483563]))
      ⟨0, none, none, none, Int.le_refl 0, rfl, rfl⟩ ?_ ?_ ?_
    · rintro i σ H' _ ⟨z, x3, x4, x5, _, _, rfl⟩
      exact SqL.of upd_same
    · rintro i x σ H' hi ⟨z, x3, x4, x5, hz, rfl, rfl⟩
      obtain ⟨p, rfl, hp1, hp2⟩ := prime_of hi
      -- blend = ..
      have hb0 : 0 ≤ p / 41 := Int.ediv_nonneg (by omega) (by decide)
      have hb1 : p / 41 < 2147483648 := Int.lt_of_le_of_lt (Int.ediv_le_self _ (by omega)) hp2
      refine ⟨.int (t + 1), rfl, 69621, t + 1, rfl, rfl, .inl ⟨by decide, by decide⟩, .int p, rfl, p, 41, rfl, rfl, ⟨by decide, by decide⟩, _, _, rfl, rfl, ?_⟩
      -- for cell in state['cells']
      refine ⟨.ref st, rfl, st, .ref c, rfl, get_cells e1, c, rfl, ⟨_, SqL.of e3⟩, ?_⟩
      refine for_list (K := K) (a := c) (xs := cs.map V.int)
        (fun i σ H' => ∃ (b : Int) (x5 : Option V), 0 ≤ b ∧ b < 2 ^ 62 ∧ σ = [some (.ref st), some (.int (t + 1)), some (.int z), some (.int p), some (.int b), x5] ∧ H' = upd (upd H st (stD g c r (t + 1))) pl (.lst [.int 2147483629, .int 2147483587, .int 2147483579, .int 2147483563]))
        ⟨69621 * (t + 1) + p / 41, x5, by omega, ?_, rfl, rfl⟩ ?_ ?_ ?_
      · have h40 : (2 : Int) ^ 40 = 1099511627776 := by decide
        have h62 : (2 : Int) ^ 62 = 4611686018427387904 := by decide
        have hn' : (n : Int) < 1099511627776 := by
          have : (n : Int) < ((2 ^ 40 : Nat) : Int) := Int.ofNat_lt.mpr hn
          exact this
        omega
      · rintro j σ H' _ ⟨b, x5, _, _, _, rfl⟩
        exact SqL.of e3
      · rintro j x σ H' hj ⟨b, y5, hb, hb2, rfl, rfl⟩
        obtain ⟨m, hm, rfl⟩ := get_int hj
        have m0 : 0 ≤ m := p2 m (List.mem_of_getElem? hm)
        refine ⟨.int b, rfl, b, 48271, rfl, rfl, .inr ⟨by decide, by decide⟩, .int m, rfl, _, m, rfl, rfl, .int (t + 1), rfl, _, t + 1, rfl, rfl, .inl ⟨_, rfl, ?_⟩⟩
        refine ⟨.int p, rfl, _, p, rfl, rfl, show 0 < p by omega, (b * 48271 + m + (t + 1)) % p, _, Int.emod_nonneg _ (by omega), ?_, rfl, rfl⟩
        have := Int.emod_lt_of_pos (b * 48271 + m + (t + 1)) (show 0 < p by omega)
        have h62 : (2 : Int) ^ 62 = 4611686018427387904 := by decide
        omega
      · rintro σ H' ⟨b, y5, hb, hb2, rfl, rfl⟩
        -- found = ..
        have hpow : b.natAbs < 2 ^ 64 := by
          have h62 : (2 : Int) ^ 62 = 4611686018427387904 := by decide
          have h64 : (2 : Nat) ^ 64 = 18446744073709551616 := by decide
          omega
        refine ⟨.int z, rfl, z, 2147483659, rfl, rfl, .inr ⟨by decide, by decide⟩, .int b, rfl, b, 5, rfl, rfl, ⟨by decide, by decide, hpow⟩, .inl ⟨_, rfl, ?_⟩⟩
        refine ⟨.int p, rfl, _, p, rfl, rfl, show 0 < p by omega, _, _, rfl, rfl, _, _, _, _, ?_, rfl, rfl⟩
        have := Int.emod_nonneg (b ^ (5 : Int).toNat) (show p ≠ 0 by omega)
        omega
    · rintro σ H' ⟨z, x3, x4, x5, hz, rfl, rfl⟩
      have plst : pl ≠ st := (ne_of_none upd_same hpl).symm
      refine ⟨.int z, rfl, q _ z (fun b o e hb => k2 _ _ (k1 b o e hb)) ⟨r, t, t + 1, h1, e1⟩ ⟨⟨gs, cs, r, t + 1, e1, k2 _ _ (k1 _ _ h2 sg), e3, p1, p2, l1, l2, r0, by omega, by omega⟩, d.ne⟩ hz⟩
theorem ok_draw {f : Addr} {fd : FuncData} (F : FunD K "_law_draw" "_law_draw" (defArgs s__law_draw) (defBody s__law_draw) (defScope s__law_draw) [] [] f fd) (T : Bi mg) (C__law_mixed : Cal P w K mg base CX0 "_law_mixed" 1 P__law_mixed spMixed) : FnOk P w K mg base CX0 2 f fd P__law_draw spDraw := by
  refine F.ok sc__law_draw (fun vs H Q E h => ?_) (fun cdv A outer s H vs Q E hr h => ?_)
  · obtain ⟨st, g, c, n, room, rfl, _⟩ := h
    rfl
  · have hu := hu_of hr
    obtain ⟨st, g, c, n, room, rfl, hr0, hr1, d, hn, q⟩ := h
    obtain ⟨gs, cs, r, t, h1, h2, h3, p1, p2, l1, l2, r0, t0, tn⟩ := d.ex
    refine ⟨_, PSs.nox ((pss_cut (ps_if (pt_cmpR (k_eq K hr.units) (pe_dget hu (pv 0) pe_str (fun _ _ => rfl)) pe_int (nomark _)) (pss_one (ps_dput hu (pv 0) pe_str (pe_ifExp (pt_cmpR (k_ne K hr.units) (pe_dget hu (pv 0) pe_str (fun _ _ => rfl)) (pe_lst pa_nil) (nomark _)) (k_bm K PySem.F.plainAttrs_list PySem.F.slot_list_pop PySem.F.type_list_pop mt_popAt (pe_dget hu (pv 0) pe_str (fun _ _ => rfl)) (pa_cons pe_int pa_nil)) (pe_c C__law_mixed (hr.mono (by decide)) pass0 (pa_cons (pv 0) pa_nil))) rfl)) pss_nil)
      (pss_cons (ps_set (i := 2) sc__law_draw.nd rfl (.inl rfl) (pe_op op_mod (pe_callTy call_int1 (by rfl) T.n_int (by decide +kernel) (pa_cons (pe_dget hu (pv 0) pe_str (fun _ _ => rfl)) pa_nil)) (pv 1)))
      (pss_cons (ps_dput hu (pv 0) pe_str (pe_op op_fdiv (pe_dget hu (pv 0) pe_str (fun _ _ => rfl)) (pv 1)) rfl)
      (pss_one (ps_ret (pv 2))))))), ?_⟩
    refine ⟨fun σ H1 => σ = [some (.ref st), some (.int room), none] ∧ Kp st g H H1 ∧ Dr H1 st g c (n + 1), ?_, ?_⟩
    · -- if state['rest'] == 0
      refine ⟨.ref st, rfl, st, .int r, rfl, get_rest h1, .int r, .int 0, .int r, .int 0, rfl, rfl, _, rfl, ite2 (fun ht => ?_) fun _ => ⟨rfl, Kp.refl _ _ _, d.more (Nat.le_succ n)⟩⟩
      refine ⟨.ref st, rfl, st, .ref g, rfl, get_great h1, ?_⟩
      refine ⟨Nat.zero_le _, fun p hp => ?_⟩
      refine ne_nil (ns := gs) (SqL.of h2) hp ⟨_, rfl, ?_⟩
      have sp := same_upd (o := HO.lst []) hp
      have nst : st ≠ p := ne_of_none h1 hp
      cases gs with
      | nil =>
        refine iteF ⟨.ref st, rfl, st, g, c, n, rfl, d.same sp, hn, fun H2 z k2 ⟨r2, t2, t3, e0, e1⟩ d2 hz => ?_⟩
        refine ⟨.ref st, rfl, st, _, rfl, put_rest e1 z, rfl, fun b o e n1 n2 => ?_, ?_⟩
        · rw [upd_ne n1]
          exact k2 _ _ (sp _ _ e) n1
        · obtain ⟨gs', cs', r', t', e1', e2', e3', p1', p2', l1', l2', r0', t0', tn'⟩ := d2.ex
          have e4 := e1.symm.trans e1'
          simp only [stD, Option.some.injEq, HO.dK.injEq, List.cons.injEq, Prod.mk.injEq, V.int.injEq, true_and, and_true] at e4
          refine ⟨⟨gs', cs', z, t', by rw [upd_same, e4.2], by rw [upd_ne (ne_of e2' e1' (fun z => nomatch z))]; exact e2', by rw [upd_ne (ne_of e3' e1' (fun z => nomatch z))]; exact e3', p1', p2', l1', l2', hz, t0', tn'⟩, d2.ne⟩
      | cons x gs =>
        have h2' := sp _ _ h2
        refine iteT ⟨.ref st, rfl, st, .ref g, rfl, get_great (sp _ _ h1), .inl ⟨rfl, _, SqL.of h2'⟩, ?_⟩
        refine ⟨g, _, 0, 0, .int x, rfl, rfl, h2', by decide, by decide, by simp [seqIndex?], rfl, ?_⟩
        have sg : st ≠ g := (ne_of h2 h1 (fun z => nomatch z)).symm
        have e1 : (upd (upd H p (.lst [])) g (.lst (((x :: gs).map V.int).eraseIdx 0))) st = some (stD g c r t) := by
          rw [upd_ne sg]
          exact sp _ _ h1
        refine ⟨.ref st, rfl, st, _, rfl, put_rest e1 x, rfl, fun b o e n1 n2 => ?_, ⟨⟨gs, cs, x, t, upd_same, ?_, ?_, fun y hy => p1 y (List.mem_cons_of_mem _ hy), p2, ?_, l2, p1 x (List.mem_cons_self ..), t0, by omega⟩, d.ne⟩⟩
        · rw [upd_ne n1, upd_ne n2]
          exact sp _ _ e
        · rw [upd_ne (Ne.symm sg), upd_same]
          rfl
        · rw [upd_ne (ne_of h3 h1 (fun z => nomatch z)), upd_ne (Ne.symm d.ne)]
          exact sp _ _ h3
        · rw [List.length_cons] at l1
          omega
    · rintro σ H1 ⟨rfl, k1, d1⟩
      obtain ⟨gs', cs', r', t', e1, e2, e3, p1', p2', l1', l2', r0', t0', tn'⟩ := d1.ex
      refine ⟨.ref st, rfl, st, .int r', rfl, get_rest e1, .inl ⟨r', rfl, .int room, rfl, r', room, rfl, rfl, hr0, ?_⟩⟩
      refine ⟨.ref st, rfl, st, .int r', rfl, get_rest e1, .int room, rfl, r', room, rfl, rfl, ⟨hr0, hr1⟩, .ref st, rfl, st, _, rfl, put_rest e1 (r' / room), ?_⟩
      have sg : g ≠ st := ne_of e2 e1 (fun z => nomatch z)
      have sc : c ≠ st := ne_of e3 e1 (fun z => nomatch z)
      refine ⟨_, rfl, q _ (r' % room) (fun b o e n1 n2 => by rw [upd_ne n1]; exact k1 b o e n1 n2) ⟨⟨gs', cs', r' / room, t', upd_same, by rw [upd_ne sg]; exact e2, by rw [upd_ne sc]; exact e3, p1', p2', l1', l2', Int.ediv_nonneg r0' (by omega), t0', tn'⟩, d1.ne⟩ (Int.emod_nonneg _ (by omega)) (Int.emod_lt_of_pos _ hr0)⟩
end

/-! ### what a law's own look at values is -/
def spPlain (m : Nat) : Sp := fun vs H Q _ => ∃ (v : V) (d : PyData), vs = [v] ∧ Tr H v d ∧ d.depth < m ∧ ∀ H', Same H H' → Q (.bl true) H'
def spIs (m : Nat) : Sp := fun vs H Q _ => ∃ (x y : V) (d : PyData), vs = [x, y] ∧ Tr H x d ∧ Tr H y d ∧ Plain d = true ∧ Ints12 d = true ∧ d.bulk ≤ 2 ^ 20 ∧ d.depth < m ∧ m ≤ 60 ∧ ∀ H', Same H H' → Q (.bl true) H'
theorem all_get {H : Hp} {xs : List V} {ds : List PyData} {i : Nat} {v : V} (h : TrAll H xs ds) (e : xs[i]? = some v) : ∃ d, Tr H v d ∧ d.depth ≤ PyData.depthAll ds := by
  induction ds generalizing xs i with
  | nil =>
    cases h
    simp at e
  | cons d ds ih =>
    cases h with
    | cons h1 h2 =>
      rw [PyData.depthAll]
      cases i with
      | zero =>
        cases (Option.some.inj (show some _ = some _ from e))
        exact ⟨d, h1, Nat.le_max_left _ _⟩
      | succ i =>
        obtain ⟨d', a, b⟩ := ih h2 e
        exact ⟨d', a, Nat.le_trans b (Nat.le_max_right _ _)⟩
theorem no_dict : ∀ {H : Hp} {v : V} {d : PyData}, Tr H v d → d.hasDict = false := by
  intro H v d h
  exact Tr.rec (motive_1 := fun v d _ => d.hasDict = false) (motive_2 := fun vs ds _ => PyData.hasDictAll ds = false)
    (by simp [PyData.hasDict]) (fun _ => by simp [PyData.hasDict]) (fun _ => by simp [PyData.hasDict]) (fun _ => by simp [PyData.hasDict]) (fun _ _ ih => by rw [PyData.hasDict]; exact ih)
    (by simp [PyData.hasDictAll]) (fun _ _ h1 h2 => by rw [PyData.hasDictAll, h1, h2]; rfl) h
section
variable {P : Program} {w : World} {K : PySem.W.Frag} {mg : PySem.Str → Option Value} {base : Heap}
theorem kit2 {t a b : String} {r : Bool} (h1 : kitB t a = some false) (h2 : kitB t b = some r) : PySem.W.kitAny K (.type t) [.type a, .type b] = some r :=
  kitAny_cons (kit_ty h1) (fun _ => kitAny_cons (kit_ty h2) (fun z => by rw [z]; exact kitAny_nil) (fun z => z)) (fun z => by cases z)
theorem kit2' {t a b : String} (h1 : kitB t a = some true) : PySem.W.kitAny K (.type t) [.type a, .type b] = some true :=
  kitAny_cons (r := true) (kit_ty h1) (fun z => by cases z) (fun _ => rfl)
/-- a tuple, or a flat thing by its type's name -/
theorem tr_kind {H : Hp} {v : V} {d : PyData} (hd : Tr H v d) : (∃ a xs ds, v = .ref a ∧ H a = some (.tup xs) ∧ d = .tuple ds ∧ TrAll H xs ds) ∨
    ∃ t : String, (∀ H', TyOf K H' v (.type t)) ∧ kitB t "list" = some false ∧ kitB t "tuple" = some false ∧ kitB t "dict" = some false ∧ (v = .non ∨ (decide (v = .non) = false ∧ (kitB t "int" = some true ∨ kitB t "int" = some false ∧ kitB t "str" = some true))) := by
  cases hd with
  | non => exact .inr ⟨"NoneType", fun _ => .non, by decide +kernel, by decide +kernel, by decide +kernel, .inl rfl⟩
  | bl b => exact .inr ⟨"bool", fun _ => .bl b, by decide +kernel, by decide +kernel, by decide +kernel, .inr ⟨rfl, .inl (by decide +kernel)⟩⟩
  | int i => exact .inr ⟨"int", fun _ => .int i, by decide +kernel, by decide +kernel, by decide +kernel, .inr ⟨rfl, .inl (by decide +kernel)⟩⟩
  | str x => exact .inr ⟨"str", fun _ => .str x, by decide +kernel, by decide +kernel, by decide +kernel, .inr ⟨rfl, .inr ⟨by decide +kernel, by decide +kernel⟩⟩⟩
  | @tup a xs ds ha hall => exact .inl ⟨a, xs, ds, rfl, ha, rfl, hall⟩
theorem ok_plain {f : Addr} {fd : FuncData} (F : FunD K "_law_plain" "_law_plain" (defArgs s__law_plain) (defBody s__law_plain) (defScope s__law_plain) [] [] f fd) (gl : mg "_law_plain" = some (.ref f)) (T : Bi mg) : ∀ m, FnOk P w K mg base CX0 m f fd P__law_plain (spPlain m)
  | 0 => ⟨fun vs H Q E ⟨_, _, e, _⟩ => by rw [e]; rfl, fun _ _ _ _ _ _ _ _ _ _ _ _ _ ⟨_, _, _, _, z, _⟩ => absurd z (Nat.not_lt_zero _)⟩
  | m + 1 => by
    have C__law_plain : Cal P w K mg base CX0 "_law_plain" m P__law_plain (spPlain m) := cal_of F gl (ok_plain F gl T m) (fun _ _ _ _ _ _ us hl => match us, hl with | [_], _ => rfl)
    refine F.ok sc__law_plain (fun vs H Q E h => ?_) (fun cdv A outer s H vs Q E hr h => ?_)
    · obtain ⟨v, d, rfl, _⟩ := h
      rfl
    · have hu := hu_of hr
      obtain ⟨v, d, rfl, hd, hm, q⟩ := h
      refine ⟨_, PSs.nox ((pss_cons (ps_if (pt_val (pe_callB (k_isiT K) (by rfl) T.n_isinstance (by decide +kernel) (pa_cons (pv 0) (pa_cons (pe_tup (pa_cons (pe_bltn (v := .ty "list") (by rfl) T.n_list (by decide +kernel) rfl) (pa_cons (pe_bltn (v := .ty "tuple") (by rfl) T.n_tuple (by decide +kernel) rfl) pa_nil))) pa_nil)))) (pss_one (ps_ret (pe_cmpR (k_eq K hr.units) (pe_lc (own := [("one", 1)]) (g := gName 1) rfl sc__law_plain.nd (k_pit K (pv 0)) (blkOk_by (N := N__law_plain) (sc := defScope s__law_plain) (by decide +kernel)) (fun _ _ _ _ _ => (pg_name (i := 1) sc__law_plain.nd rfl (.inl rfl))) (fun _ _ _ _ _ => (pts_one (pt_not (pt_val (pe_c C__law_plain hr pass0 (pa_cons (pv 1) pa_nil)))))) (fun _ _ _ _ _ => pe_int)) (pe_lst pa_nil) (nomark _)))) pss_nil)
      (pss_cons (ps_if (pt_val (pe_callB (k_isi K) (by rfl) T.n_isinstance (by decide +kernel) (pa_cons (pv 0) (pa_cons (pe_bltn (v := .ty "dict") (by rfl) T.n_dict (by decide +kernel) rfl) pa_nil)))) (pss_one ps_never) pss_nil)
      (pss_one (ps_ret (pe_or (pe_cmpR op_isN (pv 0) pe_non (nomark _)) (pe_one (pe_callB (k_isiT K) (by rfl) T.n_isinstance (by decide +kernel) (pa_cons (pv 0) (pa_cons (pe_tup (pa_cons (pe_bltn (v := .ty "int") (by rfl) T.n_int (by decide +kernel) rfl) (pa_cons (pe_bltn (v := .ty "str") (by rfl) T.n_str (by decide +kernel) rfl) pa_nil))) pa_nil)))))))))), ?_⟩
      rcases tr_kind (K := K) hd with ⟨a, xs, ds, rfl, ha, rfl, hall⟩ | ⟨t, tys, k1, k2, k3, hv⟩
      · refine ⟨.ref a, rfl, (by show 2 ≤ sizeLine; decide), fun tp htp => ⟨.ref a, tp, [.ty "list", .ty "tuple"], .type "tuple", [.type "list", .type "tuple"], true, rfl, upd_same, .cons (.ty _) (.cons (.ty _) .nil), .base (.tup ((same_upd htp) _ _ ha)), kit2 (by decide +kernel) (by decide +kernel), true, rfl, iteT ?_⟩⟩
        have s1 := same_upd (o := HO.tup [.ty "list", .ty "tuple"]) htp
        refine ⟨.ref a, rfl, a, rfl, ⟨xs, SqT.of (s1 _ _ ha)⟩, fun D hD => ?_⟩
        have s2 : Same H (upd (upd H tp (.tup [.ty "list", .ty "tuple"])) D (.lst [])) := s1.trans (same_upd hD)
        refine lc_tup (K := K) (a := a) (xs := xs) (fun i H' => H' D = some (.lst []) ∧ Same H H') ⟨upd_same, s2⟩ (fun i H' _ p => SqT.of (p.2 _ _ ha)) ?_ ?_
        · rintro i x H' hi ⟨h1, h2⟩
          obtain ⟨d', hx, hdep⟩ := all_get hall hi
          refine ⟨rfl, x, rfl, x, d', rfl, hx.mono (Same.tu h2), ?_, fun H2 k2 => ⟨true, rfl, iteF ⟨k2 _ _ h1, h2.trans k2⟩⟩⟩
          rw [PyData.depth] at hm
          omega
        · rintro H' ⟨h1, h2⟩
          refine ⟨Nat.zero_le _, fun p hp => ?_⟩
          exact eq_nil (ns := []) (SqL.of h1) hp (q _ (h2.trans (same_upd hp)))
      · refine ⟨v, rfl, (by show 2 ≤ sizeLine; decide), fun tp htp => ⟨v, tp, [.ty "list", .ty "tuple"], .type t, [.type "list", .type "tuple"], false, rfl, upd_same, .cons (.ty _) (.cons (.ty _) .nil), .base (tys _), kit2 k1 k2, false, rfl, iteF ?_⟩⟩
        have s1 := same_upd (o := HO.tup [.ty "list", .ty "tuple"]) htp
        refine ⟨v, rfl, v, .ty "dict", .type t, .type "dict", false, rfl, .ty _, .base (tys _), kit_ty k3, false, rfl, iteF ?_⟩
        refine ⟨v, rfl, rfl, _, rfl, ?_⟩
        rcases hv with rfl | ⟨hv, hi⟩
        · exact iteT (q _ s1)
        · rw [hv]
          refine iteF ⟨v, rfl, (by show 2 ≤ sizeLine; decide), fun tq htq => ?_⟩
          have s2 := s1.trans (same_upd (o := HO.tup [.ty "int", .ty "str"]) htq)
          refine ⟨v, tq, [.ty "int", .ty "str"], .type t, [.type "int", .type "str"], true, rfl, upd_same, .cons (.ty _) (.cons (.ty _) .nil), .base (tys _), ?_, q _ s2⟩
          rcases hi with hi | ⟨hi, hj⟩
          · exact kit2' hi
          · exact kit2 hi hj
theorem ok_is {f : Addr} {fd : FuncData} {m : Nat} (F : FunD K "_law_is" "_law_is" (defArgs s__law_is) (defBody s__law_is) (defScope s__law_is) [] [] f fd) (T : Bi mg) (C__law_plain : Cal P w K mg base CX0 "_law_plain" m P__law_plain (spPlain m)) : FnG P w K mg base CX0 (m + 1) f fd P__law_is (spIs m) := by
  refine okG F sc__law_is (fun vs H Q E h => ?_) (fun cdv A outer s H vs Q E hgd hr h => ?_)
  · obtain ⟨x, y, d, rfl, _⟩ := h
    rfl
  · have hu := hu_of hr
    obtain ⟨x, y, d, rfl, hx, hy, hp, h12, hbk, hm, hm60, q⟩ := h
    have hs := (Ints12.show d h12).1
    have hz := shown_short hp h12 hbk
    refine ⟨_, PSs.nox ((pss_one (ps_ret (pe_and (pe_c C__law_plain hr pass0 (pa_cons (pv 0) pa_nil)) (pe_and (pe_cmpR (k_eq K hr.units) (pv 0) (pv 1) (nomark _)) (pe_and (pe_cmpR (k_eq K hr.units) (pv 1) (pv 0) (nomark _)) (pe_one (pe_cmpR op_eq (pe_callB (k_repr K hgd (room101 hr)) (by rfl) T.n_repr (by decide +kernel) (pa_cons (pv 0) pa_nil)) (pe_callB (k_repr K hgd (room101 hr)) (by rfl) T.n_repr (by decide +kernel) (pa_cons (pv 1) pa_nil)) (nomark _))))))))), ?_⟩
    have sh := shaped_of hp (by omega)
    refine ⟨x, rfl, x, d, rfl, hx, hm, fun H1 k1 => ⟨true, rfl, iteT ?_⟩⟩
    have hx1 := hx.mono (Same.tu k1)
    have hy1 := hy.mono (Same.tu k1)
    refine ⟨x, rfl, y, rfl, d, d, hx1.dp, hy1.dp, sh, sh, true, by rw [eqv_same hp], iteT ?_⟩
    refine ⟨y, rfl, x, rfl, d, d, hy1.dp, hx1.dp, sh, sh, true, by rw [eqv_same hp], iteT ?_⟩
    refine ⟨x, rfl, x, d, rfl, hx1.dp, hs, no_dict hx1, by omega, hz, ?_⟩
    refine ⟨y, rfl, y, d, rfl, hy1.dp, hs, no_dict hx1, by omega, hz, rfl, ?_⟩
    rw [decide_eq_true rfl]
    exact q _ k1
end

end K75



set_option Elab.async false
set_option linter.all false
set_option maxRecDepth 100000
set_option maxHeartbeats 4000000
namespace K75
open PySem PySem.Spec PyProof.Rows L2 U Rch
open C8 (pss_cut)
/-! ### commits -/
section
variable {K : PySem.W.Frag}
abbrev nV (m : Nat) : V := .int (m : Int)
/-- xs are tuples whose j-th item is the tuple of their parents -/
structure Comm (j : Nat) (H : Hp) (xs : List V) (ps : List (List Nat)) : Prop where
  len : xs.length = ps.length
  at_ : ∀ (i : Nat) (l : List Nat), ps[i]? = some l → ∃ (t q : Addr) (ys : List V), xs[i]? = some (.ref t) ∧ H t = some (.tup ys) ∧ ys[j]? = some (.ref q) ∧ H q = some (.tup (l.map nV))
theorem Comm.mono {j : Nat} {H H' : Hp} {xs : List V} {ps : List (List Nat)} (c : Comm j H xs ps) (t : Tu H H') : Comm j H' xs ps :=
  ⟨c.len, fun i l e => let ⟨a, q, ys, h1, h2, h3, h4⟩ := c.at_ i l e; ⟨a, q, ys, h1, t _ _ h2, h3, t _ _ h4⟩⟩
def Sq (K : PySem.W.Frag) (H : Hp) (a : Addr) (xs : List V) : Prop := SqL K H a xs ∨ SqT K H a xs
theorem Same.sqT {H H' : Hp} {a : Addr} {xs : List V} (e : Same H H') (h : SqT K H a xs) : SqT K H' a xs := by
  rcases h with (h | ⟨o, h⟩) | h
  · exact .inl (.inl (e _ _ h))
  · exact .inl (.inr ⟨o, e _ _ h⟩)
  · exact .inr h
theorem Sq.same {H H' : Hp} {a : Addr} {xs : List V} (e : Same H H') (h : Sq K H a xs) : Sq K H' a xs := h.elim (fun z => .inl (e.seq z)) (fun z => .inr (Same.sqT e z))
theorem ix_sq {H : Hp} {a : Addr} {xs : List V} {i : Int} {v : V} {Q : VK} (h : Sq K H a xs) (e : atI xs i = some v) (q : Q v H) : rIx K (.ref a) (.int i) H Q :=
  h.elim (fun z => .inl ⟨a, xs, i, v, rfl, rfl, z, e, q⟩) fun z => .inr (.inl ⟨a, xs, i, v, rfl, rfl, z, e, q⟩)
def spPar (K : PySem.W.Frag) : Sp := fun vs H Q _ => ∃ (t : Addr) (ys : List V) (v : V), vs = [.ref t] ∧ SqT K H t ys ∧ ys[2]? = some v ∧ Q v H
def spAnc (K : PySem.W.Frag) : Sp := fun vs H Q _ => ∃ (a : Addr) (n : Nat) (xs : List V) (ps : List (List Nat)), vs = [.ref a, nV n] ∧ Sq K H a xs ∧ Comm 2 H xs ps ∧ Hist ps ∧ n < ps.length ∧ ps.length ≤ 60 ∧
  ∀ H' p L, Same H H' → H p = none → H' p = some (.tup (L.map V.int)) → Anc ps n L → Q (.ref p) H'
def spBase (K : PySem.W.Frag) : Sp := fun vs H Q _ => ∃ (a : Addr) (n m : Nat) (xs : List V) (ps : List (List Nat)), vs = [.ref a, nV n, nV m] ∧ Sq K H a xs ∧ Comm 2 H xs ps ∧ Hist ps ∧ n < ps.length ∧ m < ps.length ∧ ps.length ≤ 60 ∧ (∃ k, Reach ps n k ∧ Reach ps m k) ∧
  ∀ H' z, Same H H' → Bas ps n m z → Q (.int z) H'
/-- the keys that were found -/
def keysT (fs : List Nat) : List (L2.Key × V) := fs.map fun m : Nat => (Sum.inl (m : Int), V.bl true)
theorem keys_val (fs : List Nat) (m : Nat) : (valV (keysT fs) (Sum.inl (m : Int))).isSome = decide (m ∈ fs) := by
  induction fs with
  | nil => rfl
  | cons a r ih =>
    show (valV ((Sum.inl (a : Int), V.bl true) :: keysT r) _).isSome = _
    by_cases e : a = m
    · subst e
      rw [valV_pos rfl]
      simp
    · have ne : ¬ ((Sum.inl (a : Int), V.bl true) : L2.Key × V).1 = Sum.inl (m : Int) := fun z => e (by
        have z' : (a : Int) = (m : Int) := Sum.inl.inj z
        omega)
      rw [valV_neg ne, ih]
      have : m ≠ a := Ne.symm e
      simp [this]
theorem flat_nats (fs : List Nat) : (fs.map nV).all flatV = true := by
  rw [List.all_eq_true]
  intro x hx
  obtain ⟨m, _, rfl⟩ := List.mem_map.mp hx
  rfl
theorem in_nats (fs : List Nat) (k : Nat) : inV (nV k) (fs.map nV) = decide (k ∈ fs) := by
  induction fs with
  | nil => rfl
  | cons a r ih =>
    show (eqV (nV a) (nV k) || inV (nV k) (r.map nV)) = _
    rw [ih]
    have e : eqV (nV a) (nV k) = decide (k = a) := by
      show ((a : Int) == (k : Int)) = _
      by_cases h : k = a
      · subst h
        simp
      · have : ¬ ((a : Int) = (k : Int)) := fun z => h (by omega)
        simp [h, this]
    rw [e]
    by_cases h : k = a <;> by_cases h2 : k ∈ r <;> simp [h, h2]
theorem last_of {α : Type} (ws : List α) (m : α) : (ws ++ [m])[(ws ++ [m]).length - 1]? = some m := by simp
section
variable {P : Program} {w : World} {mg : PySem.Str → Option Value} {base : Heap}
theorem ok_parents {f : Addr} {fd : FuncData} (F : FunD K "parents_of" "parents_of" (defArgs s_parents_of) (defBody s_parents_of) (defScope s_parents_of) [] [] f fd) : FnOk P w K mg base CX0 1 f fd P_parents_of (spPar K) := by
  refine F.ok sc_parents_of (fun vs H Q E h => ?_) (fun cdv A outer s H vs Q E hr h => ?_)
  · obtain ⟨t, ys, v, rfl, _⟩ := h
    rfl
  · obtain ⟨t, ys, v, rfl, ht, hv, q⟩ := h
    exact ⟨_, PSs.nox ((pss_one (ps_ret (pe_ix (k_ix K) (pv 0) pe_int (fun _ _ => rfl))))), .ref t, rfl, .inr (.inl ⟨t, ys, 2, v, rfl, rfl, ht, atI_nat (j := 2) hv, q⟩)⟩
theorem ok_ancestors {f : Addr} {fd : FuncData} (F : FunD K "ancestors" "ancestors" (defArgs s_ancestors) (defBody s_ancestors) (defScope s_ancestors) [] [] f fd) (T : Bi mg) (C_parents_of : Cal P w K mg base CX0 "parents_of" 1 P_parents_of (spPar K)) : FnOk P w K mg base CX0 2 f fd P_ancestors (spAnc K) := by
  refine F.ok sc_ancestors (fun vs H Q E h => ?_) (fun cdv A outer s H vs Q E hr h => ?_)
  · obtain ⟨a, n, xs, ps, rfl, _⟩ := h
    rfl
  · have hu := hu_of hr
    obtain ⟨a, n, xs, ps, rfl, hS, hC, hH, hn, h60, q⟩ := h
    refine ⟨_, PSs.nox ((pss_cons (ps_par (by rfl) sc_ancestors.nd rfl rfl (by decide) rfl rfl (i := 2) (j := 3) (pa_cons (pe_lst (pa_cons (pv 1) pa_nil)) (pa_cons pe_dnewK pa_nil)) (by rfl))
      (pss_cons (ps_while PassesOwn.never (pt_cmpR (k_ne K hr.units) (pv 2) (pe_lst pa_nil) (nomark _)) (pss_cons (ps_set (i := 4) sc_ancestors.nd rfl (.inl rfl) (k_bm0 K PySem.F.plainAttrs_list PySem.F.slot_list_pop PySem.F.type_list_pop mt_pop (pv 2)))
      (pss_one (ps_if (pt_cmp (pc_dnotin hu (pv 4) (pv 3))) (pss_cons (ps_dput hu (pv 3) (pv 4) pe_bl rfl)
      (pss_one (ps_expr (k_bm K PySem.F.plainAttrs_list PySem.F.slot_list_extend PySem.F.type_list_extend (k_extT K) (pv 2) (pa_cons (pe_c C_parents_of (hr.mono (by decide)) pass0 (pa_cons (pe_ix (k_ix K) (pv 0) (pv 4) (fun _ _ => rfl)) pa_nil)) pa_nil))))) pss_nil))))
      (pss_one (ps_ret (pe_callTy (k_tuple K) (by rfl) T.n_tuple (by decide +kernel) (pa_cons (pe_callB (call_sortedDI rfl) (by rfl) T.n_sorted (by decide +kernel) (pa_cons (pv 3) pa_nil)) pa_nil))))))), ?_⟩
    -- waiting, found = [number], {}
    refine ⟨nV n, rfl, by show 1 ≤ sizeLine; decide, fun w0 hw0 f0 hf0 => ⟨.ref w0, .ref f0, rfl, ?_⟩⟩
    have wf : w0 ≠ f0 := ne_of_none upd_same hf0
    have s1 : Same H (upd H w0 (.lst [nV n])) := same_upd hw0
    have hf0' : H f0 = none := s1.free hf0
    refine ⟨fun m σ H' => ∃ (ws fs : List Nat) (x4 : Option V), m = mea ps ws fs ∧ σ = [some (.ref a), some (nV n), some (.ref w0), some (.ref f0), x4] ∧ Same H H' ∧ H' w0 = some (.lst (ws.map nV)) ∧ H' f0 = some (.dK (keysT fs)) ∧ Dfs ps n ws fs ∧ ws.length ≤ 1 + 2 * fs.length,
      ⟨_, [n], [], none, rfl, rfl, s1.trans (same_upd hf0), by rw [upd_ne wf]; exact upd_same, upd_same, Dfs.start ps n, Nat.le_refl 1⟩, ?_⟩
    rintro m σ H1 ⟨ws, fs, x4, rfl, rfl, sm, hw, hf, dfs, hlen⟩
    -- while waiting != []
    refine ⟨.ref w0, rfl, Nat.zero_le _, fun p hp => ?_⟩
    have sp := same_upd (o := HO.lst []) hp
    have hwi : SqL K H1 w0 ((ws.map fun k : Nat => (k : Int)).map V.int) := by
      rw [List.map_map]
      exact SqL.of hw
    refine ne_nil hwi hp ⟨_, rfl, ?_⟩
    have sm2 := sm.trans sp
    have hw2 := sp _ _ hw
    have hf2 := sp _ _ hf
    rcases List.eq_nil_or_concat ws with rfl | ⟨ws, k, rfl⟩
    · -- the end: tuple(sorted(found))
      refine iteF ⟨.ref f0, rfl, f0, keysT fs, fs.map fun k : Nat => (k : Int), rfl, Or.inl hf2, ?_, ?_, fun ys p2 perm up hp2 => ⟨p2, _, rfl, .inl ⟨SqL.of upd_same, fun l hl => ?_⟩⟩⟩
      · unfold keysT
        rw [List.map_map, List.map_map]
        rfl
      · rw [List.length_map]
        have := dfs.wait_le hH hn
        omega
      · have s3 := (sm2.trans (same_upd hp2)).trans (same_upd (o := HO.tup (ys.map V.int)) hl)
        exact q _ l ys s3 ((sm2.trans (same_upd hp2)).free hl) upd_same (dfs.anc perm up)
    · have hk : k < ps.length := hH.in hn (dfs.w k (by simp))
      have ne : (!(((ws.concat k).map fun k : Nat => (k : Int)).isEmpty)) = true := by simp
      rw [ne]
      refine iteT ⟨fun σ' H' => ∃ m' < mea ps (ws.concat k) fs, ∃ (ws fs : List Nat) (x4 : Option V), m' = mea ps ws fs ∧ σ' = [some (.ref a), some (nV n), some (.ref w0), some (.ref f0), x4] ∧ Same H H' ∧ H' w0 = some (.lst (ws.map nV)) ∧ H' f0 = some (.dK (keysT fs)) ∧ Dfs ps n ws fs ∧ ws.length ≤ 1 + 2 * fs.length, fun σ' H' z => z, ?_⟩
      rw [List.concat_eq_append] at hw2 dfs hlen ⊢
      rw [List.length_append, List.length_singleton] at hlen
      rw [List.map_append] at hw2
      -- here = waiting.pop()
      refine ⟨.ref w0, rfl, .inl ⟨rfl, _, SqL.of hw2⟩, w0, _, nV k, rfl, rfl, hw2, last_of _ _, ?_⟩
      have ed : ((ws.map nV) ++ [nV k]).dropLast = ws.map nV := by simp
      have hw3 : (upd (upd H1 p (.lst [])) w0 (.lst (((ws.map nV) ++ [nV k]).dropLast))) w0 = some (.lst (ws.map nV)) := by rw [upd_same, ed]
      have hf3 : (upd (upd H1 p (.lst [])) w0 (.lst (((ws.map nV) ++ [nV k]).dropLast))) f0 = some (.dK (keysT fs)) := by
        rw [upd_ne (Ne.symm wf)]
        exact hf2
      have sm3 : Same H (upd (upd H1 p (.lst [])) w0 (.lst (((ws.map nV) ++ [nV k]).dropLast))) := same_mut sm2 hw0
      -- if here not in found
      refine ⟨nV k, rfl, .ref f0, rfl, f0, _, rfl, DGet.k (k := .inl (k : Int)) hf3, _, rfl, ?_⟩
      rw [keys_val]
      by_cases hin : k ∈ fs
      · rw [decide_eq_true hin]
        exact iteF ⟨_, mea_skip, ws, fs, some (nV k), rfl, rfl, sm3, hw3, hf3, dfs.skip hin, by omega⟩
      · rw [decide_eq_false hin]
        refine iteT ⟨.ref f0, rfl, nV k, rfl, f0, _, rfl, DPut.k (k := .inl (k : Int)) hf3 ?_, ?_⟩
        · unfold keysT
          rw [List.length_map]
          have := dfs.wait_le hH hn
          exact small1000 (by omega)
        · obtain ⟨l, hl⟩ : ∃ l, ps[k]? = some l := ⟨_, List.getElem?_eq_getElem hk⟩
          have eput : putK (keysT fs) (.inl (k : Int)) (.bl true) = keysT (fs ++ [k]) := by
            rw [putK_new]
            · unfold keysT
              rw [List.map_append]
              rfl
            · have := keys_val fs k
              rw [decide_eq_false hin] at this
              cases e : valV (keysT fs) (.inl (k : Int)) with
              | none => rfl
              | some v =>
                rw [e] at this
                cases this
          rw [eput]
          have hw4 : (upd (upd (upd H1 p (.lst [])) w0 (.lst (((ws.map nV) ++ [nV k]).dropLast))) f0 (.dK (keysT (fs ++ [k])))) w0 = some (.lst (ws.map nV)) := by
            rw [upd_ne wf]
            exact hw3
          have sm4 := same_mut (o := HO.dK (keysT (fs ++ [k]))) sm3 hf0'
          have hC4 := hC.mono (Same.tu sm4)
          obtain ⟨t, qd, ys, e1, e2, e3, e4⟩ := hC4.at_ k l hl
          -- waiting.extend(parents_of(commits[here]))
          refine ⟨.ref w0, rfl, .inl ⟨rfl, _, SqL.of hw4⟩, .ref a, rfl, nV k, rfl, ix_sq (Sq.same sm4 hS) (atI_nat e1) ?_⟩
          refine ⟨t, ys, .ref qd, rfl, SqT.of e2, e3, w0, qd, ws.map nV, l.map nV, rfl, rfl, hw4, SqT.of e4, ?_, ?_⟩
          · rw [List.length_map, List.length_map]
            have l1 := dfs.wait_le hH hn
            have l2 := hH.two _ _ hl
            exact Nat.le_of_lt (small1000 (by omega))
          · refine ⟨_, mea_take hH hn dfs hin hl, ws ++ l, fs ++ [k], some (nV k), rfl, rfl, same_mut sm4 hw0, by rw [upd_same, List.map_append], ?_, dfs.take hin hl, ?_⟩
            · rw [upd_ne (Ne.symm wf)]
              exact upd_same
            · have l2 := hH.two _ _ hl
              rw [List.length_append, List.length_append, List.length_singleton]
              omega
/-- those of a list that are in another one -/
def both (A B : List Int) : List Int := A.filter fun z => decide (z ∈ B)
theorem mem_both {A B : List Int} {z : Int} : z ∈ both A B ↔ z ∈ B ∧ z ∈ A := by
  unfold both
  rw [List.mem_filter, decide_eq_true_eq]
  exact And.comm
theorem both_take {A B : List Int} {i : Nat} {z : Int} (h : A[i]? = some z) : both (A.take (i + 1)) B = both (A.take i) B ++ if z ∈ B then [z] else [] := by
  unfold both
  rw [List.take_add_one, h, List.filter_append]
  by_cases e : z ∈ B
  · simp [e]
  · simp [e]
/-- the dict of mine -/
def trueK (L : List Int) : List (L2.Key × V) := L.map fun z : Int => (Sum.inl z, V.bl true)
theorem trueK_val (L : List Int) (z : Int) : (valV (trueK L) (Sum.inl z)).isSome = decide (z ∈ L) := by
  induction L with
  | nil => rfl
  | cons a r ih =>
    show (valV ((Sum.inl a, V.bl true) :: trueK r) _).isSome = _
    by_cases e : a = z
    · subst e
      rw [valV_pos rfl]
      simp
    · have ne : ¬ ((Sum.inl a, V.bl true) : L2.Key × V).1 = Sum.inl z := fun q => e (Sum.inl.inj q)
      rw [valV_neg ne, ih]
      have : z ≠ a := Ne.symm e
      simp [this]
theorem trueK_put {L : List Int} {z : Int} (h : z ∉ L) : putK (trueK L) (.inl z) (.bl true) = trueK (L ++ [z]) := by
  rw [putK_new]
  · unfold trueK
    rw [List.map_append]
    rfl
  · have := trueK_val L z
    rw [decide_eq_false h] at this
    cases e : valV (trueK L) (.inl z) with
    | none => rfl
    | some v =>
      rw [e] at this
      cases this
theorem up_not_mem {L : List Int} {i : Nat} {z : Int} (u : L.Pairwise (· < ·)) (h : L[i]? = some z) : z ∉ L.take i := by
  intro hm
  obtain ⟨j, hj, e⟩ := List.mem_iff_getElem.mp hm
  rw [List.length_take] at hj
  obtain ⟨hi, e2⟩ := List.getElem?_eq_some_iff.mp h
  rw [List.getElem_take] at e
  have := List.pairwise_iff_getElem.mp u j i (by omega) hi (by omega)
  omega
theorem ok_base {f : Addr} {fd : FuncData} (F : FunD K "base_of" "base_of" (defArgs s_base_of) (defBody s_base_of) (defScope s_base_of) [] [] f fd) (T : Bi mg) (C_ancestors : Cal P w K mg base CX0 "ancestors" 2 P_ancestors (spAnc K)) : FnOk P w K mg base CX0 3 f fd P_base_of (spBase K) := by
  refine F.ok sc_base_of (fun vs H Q E h => ?_) (fun cdv A outer s H vs Q E hr h => ?_)
  · obtain ⟨a, n, m, xs, ps, rfl, _⟩ := h
    rfl
  · have hu := hu_of hr
    obtain ⟨a, n, m, xs, ps, rfl, hS, hC, hH, hn, hm, h60, ⟨k0, r1, r2⟩, q⟩ := h
    refine ⟨_, PSs.nox ((pss_cons (ps_set (i := 3) sc_base_of.nd rfl (.inr rfl) (pe_dc (own := [("at", 4)]) (g := gName 4) (tt := tYes) rfl sc_base_of.nd (k_pit K (pe_c C_ancestors (hr.mono (by decide)) pass0 (pa_cons (pv 0) (pa_cons (pv 1) pa_nil)))) (blkOk_by (N := N_base_of) (sc := defScope s_base_of) (by decide +kernel)) (fun _ _ _ _ _ => (pg_name (i := 4) sc_base_of.nd rfl (.inl rfl))) (fun _ _ _ _ _ => pts_nil) (fun _ _ _ _ _ => (pv 4)) (fun _ _ _ _ _ => pe_bl)))
      (pss_one (ps_ret (pe_callB (k_max K rfl) (by rfl) T.n_max (by decide +kernel) (pa_cons (pe_lc (own := [("at", 4)]) (g := gName 4) rfl sc_base_of.nd (k_pit K (pe_c C_ancestors (hr.mono (by decide)) pass0 (pa_cons (pv 0) (pa_cons (pv 2) pa_nil)))) (blkOk_by (N := N_base_of) (sc := defScope s_base_of) (by decide +kernel)) (fun _ _ _ _ _ => (pg_name (i := 4) sc_base_of.nd rfl (.inl rfl))) (fun _ _ _ _ _ => (pts_one (pt_cmp (pc_din hu (pv 4) (pv 3))))) (fun _ _ _ _ _ => (pv 4))) pa_nil)))))), ?_⟩
    -- mine = {at: True for at in ancestors(commits, one)}
    refine ⟨.ref a, rfl, nV n, rfl, a, n, xs, ps, rfl, hS, hC, hH, hn, h60, fun H1 p1 L1 sm1 np1 hp1 anc1 => ⟨p1, rfl, ⟨_, SqT.of hp1⟩, fun D hD => ?_⟩⟩
    have len1 := anc1.length hH hn
    have s1 : Same H1 (upd H1 D (.dK [])) := same_upd hD
    refine dc_tup (K := K) (a := p1) (xs := L1.map V.int) (fun i H' => H' D = some (.dK (trueK (L1.take i))) ∧ Same H1 H') ⟨upd_same, s1⟩ (fun i H' _ p => SqT.of (p.2 _ _ hp1)) ?_ ?_
    · rintro i x H' hi ⟨h1, h2⟩
      obtain ⟨z, hz, rfl⟩ := get_int hi
      have hil : i < L1.length := (List.getElem?_eq_some_iff.mp hz).1
      refine ⟨rfl, yes ⟨.int z, rfl, trueK (L1.take i), .inl z, rfl, h1, ?_, ?_, same_mut h2 hD⟩⟩
      · unfold trueK
        rw [List.length_map, List.length_take]
        exact small1000 (by omega)
      · rw [upd_same, trueK_put (up_not_mem anc1.up hz), List.take_add_one, hz]
        rfl
    · rintro H2 ⟨h1, h2⟩
      rw [List.length_map, List.take_length] at h1
      have sm2 := sm1.trans h2
      -- return max([at for at in ancestors(commits, other) if at in mine])
      refine ⟨.ref a, rfl, nV m, rfl, a, m, xs, ps, rfl, Sq.same sm2 hS, hC.mono (Same.tu sm2), hH, hm, h60, fun H3 p2 L2 sm3 np2 hp2 anc2 => ⟨p2, rfl, ⟨_, SqT.of hp2⟩, fun R hR => ?_⟩⟩
      have len2 := anc2.length hH hm
      refine lc_tup (K := K) (a := p2) (xs := L2.map V.int) (fun i H' => H' R = some (.lst ((both (L2.take i) L1).map V.int)) ∧ Same H3 H') ⟨upd_same, same_upd hR⟩ (fun i H' _ p => SqT.of (p.2 _ _ hp2)) ?_ ?_
      · rintro i x H' hi ⟨h3, h4⟩
        obtain ⟨z, hz, rfl⟩ := get_int hi
        have hil : i < L2.length := (List.getElem?_eq_some_iff.mp hz).1
        refine ⟨rfl, .int z, rfl, .ref D, rfl, D, _, rfl, DGet.k (k := .inl z) (h4 _ _ (sm3 _ _ h1)), _, rfl, ?_⟩
        rw [trueK_val, both_take hz]
        by_cases hin : z ∈ L1
        · rw [decide_eq_true hin, if_pos hin]
          refine iteT ⟨.int z, rfl, _, h3, ?_, ?_, same_mut h4 hR⟩
          · rw [List.length_map]
            have : (both (L2.take i) L1).length ≤ (L2.take i).length := List.length_filter_le _ _
            rw [List.length_take] at this
            exact small1000 (by omega)
          · rw [upd_same, List.map_append]
            rfl
        · rw [decide_eq_false hin, if_neg hin, List.append_nil]
          exact iteF ⟨h3, h4⟩
      · rintro H4 ⟨h3, h4⟩
        rw [List.length_map, List.take_length] at h3
        refine ⟨R, both L2 L1, rfl, SqL.of h3, List.length_pos_of_mem (mem_both.mpr ⟨anc1.has r1, anc2.has r2⟩), fun z hz hle => ?_⟩
        exact q _ z ((sm2.trans sm3).trans h4) (Bas.of anc1 anc2 (fun y => mem_both) hz hle)
/-! ### the law's own going back -/
def spAhead (K : PySem.W.Frag) : Sp := fun vs H Q _ => ∃ (md cl : Addr) (n : Nat) (xs : List V) (ps : List (List Nat)), vs = [.ref md, nV n] ∧ H md = some (.dK [(.inr "commits", .ref cl)]) ∧ SqL K H cl xs ∧ Comm 1 H xs ps ∧ Hist ps ∧ n < ps.length ∧ ps.length ≤ 60 ∧
  ∀ H' p fs, Same H H' → H p = none → H' p = some (.lst (fs.map nV)) → Dfs ps n [] fs → Q (.ref p) H'
theorem ok_ahead {f : Addr} {fd : FuncData} (F : FunD K "_law_ahead" "_law_ahead" (defArgs s__law_ahead) (defBody s__law_ahead) (defScope s__law_ahead) [] [] f fd) (T : Bi mg) : FnOk P w K mg base CX0 1 f fd P__law_ahead (spAhead K) := by
  refine F.ok sc__law_ahead (fun vs H Q E h => ?_) (fun cdv A outer s H vs Q E hr h => ?_)
  · obtain ⟨md, cl, n, xs, ps, rfl, _⟩ := h
    rfl
  · have hu := hu_of hr
    obtain ⟨md, cl, n, xs, ps, rfl, hmd, hS, hC, hH, hn, h60, q⟩ := h
    refine ⟨_, PSs.nox ((pss_cons (ps_par (by rfl) sc__law_ahead.nd rfl rfl (by decide) rfl rfl (i := 2) (j := 3) (pa_cons (pe_lst (pa_cons (pv 1) pa_nil)) (pa_cons (pe_lst pa_nil) pa_nil)) (by rfl))
      (pss_cons (ps_while PassesOwn.never (pt_cmpR (k_ne K hr.units) (pv 2) (pe_lst pa_nil) (nomark _)) (pss_cons (ps_set (i := 4) sc__law_ahead.nd rfl (.inl rfl) (k_bm0 K PySem.F.plainAttrs_list PySem.F.slot_list_pop PySem.F.type_list_pop mt_pop (pv 2)))
      (pss_one (ps_if (pt_cmpR (k_nin K) (pv 4) (pv 3) (by rfl)) (pss_cons (ps_expr (k_bm K PySem.F.plainAttrs_list PySem.F.slot_list_append PySem.F.type_list_append mt_append (pv 3) (pa_cons (pv 4) pa_nil)))
      (pss_one (ps_set (i := 2) sc__law_ahead.nd rfl (.inl rfl) (pe_op op_cat (pv 2) (pe_callTy (k_list K) (by rfl) T.n_list (by decide +kernel) (pa_cons (pe_ix (k_ix K) (pe_ix (k_ix K) (pe_dget hu (pv 0) pe_str (fun _ _ => rfl)) (pv 4) (fun _ _ => rfl)) pe_int (fun _ _ => rfl)) pa_nil)))))) pss_nil))))
      (pss_one (ps_ret (pv 3)))))), ?_⟩
    -- waiting, found = [number], []
    refine ⟨nV n, rfl, by show 1 ≤ sizeLine; decide, fun w0 hw0 => ⟨Nat.zero_le _, fun f0 hf0 => ⟨.ref w0, .ref f0, rfl, ?_⟩⟩⟩
    have wf : w0 ≠ f0 := ne_of_none upd_same hf0
    have s1 : Same H (upd H w0 (.lst [nV n])) := same_upd hw0
    have hf0' : H f0 = none := s1.free hf0
    let W : Nat → L2.St → Hp → Prop := fun m σ H' => ∃ (w : Addr) (ws fs : List Nat) (x4 : Option V), m = mea ps ws fs ∧ σ = [some (.ref md), some (nV n), some (.ref w), some (.ref f0), x4] ∧ Same H H' ∧ H w = none ∧ w ≠ f0 ∧ H' w = some (.lst (ws.map nV)) ∧ H' f0 = some (.lst (fs.map nV)) ∧ Dfs ps n ws fs ∧ ws.length ≤ 1 + 2 * fs.length
    refine ⟨W, ⟨_, w0, [n], [], none, rfl, rfl, s1.trans (same_upd hf0), hw0, wf, by rw [upd_ne wf]; exact upd_same, upd_same, Dfs.start ps n, Nat.le_refl 1⟩, ?_⟩
    rintro m σ H1 ⟨w, ws, fs, x4, rfl, rfl, sm, nw, wf, hw, hf, dfs, hlen⟩
    refine ⟨.ref w, rfl, Nat.zero_le _, fun p hp => ?_⟩
    have sp := same_upd (o := HO.lst []) hp
    have hwi : SqL K H1 w ((ws.map fun k : Nat => (k : Int)).map V.int) := by
      rw [List.map_map]
      exact SqL.of hw
    refine ne_nil hwi hp ⟨_, rfl, ?_⟩
    have sm2 := sm.trans sp
    have hw2 := sp _ _ hw
    have hf2 := sp _ _ hf
    rcases List.eq_nil_or_concat ws with rfl | ⟨ws, k, rfl⟩
    · exact iteF ⟨.ref f0, rfl, q _ f0 fs sm2 hf0' hf2 dfs⟩
    · have hk : k < ps.length := hH.in hn (dfs.w k (by simp))
      have ne : (!(((ws.concat k).map fun k : Nat => (k : Int)).isEmpty)) = true := by simp
      rw [ne]
      refine iteT ⟨fun σ' H' => ∃ m' < mea ps (ws.concat k) fs, W m' σ' H', fun σ' H' z => z, ?_⟩
      rw [List.concat_eq_append] at hw2 dfs hlen ⊢
      rw [List.length_append, List.length_singleton] at hlen
      rw [List.map_append] at hw2
      refine ⟨.ref w, rfl, .inl ⟨rfl, _, SqL.of hw2⟩, w, _, nV k, rfl, rfl, hw2, last_of _ _, ?_⟩
      have ed : ((ws.map nV) ++ [nV k]).dropLast = ws.map nV := by simp
      have hw3 : (upd (upd H1 p (.lst [])) w (.lst (((ws.map nV) ++ [nV k]).dropLast))) w = some (.lst (ws.map nV)) := by rw [upd_same, ed]
      have hf3 : (upd (upd H1 p (.lst [])) w (.lst (((ws.map nV) ++ [nV k]).dropLast))) f0 = some (.lst (fs.map nV)) := by
        rw [upd_ne (Ne.symm wf)]
        exact hf2
      have sm3 : Same H (upd (upd H1 p (.lst [])) w (.lst (((ws.map nV) ++ [nV k]).dropLast))) := same_mut sm2 nw
      refine ⟨nV k, rfl, .ref f0, rfl, f0, _, rfl, .inl (SqL.of hf3), rfl, flat_nats fs, _, rfl, ?_⟩
      rw [in_nats, if_pos rfl]
      by_cases hin : k ∈ fs
      · rw [decide_eq_true hin]
        exact iteF ⟨_, mea_skip, w, ws, fs, some (nV k), rfl, rfl, sm3, nw, wf, hw3, hf3, dfs.skip hin, by omega⟩
      · rw [decide_eq_false hin]
        have l1 := dfs.wait_le hH hn
        obtain ⟨l, hl⟩ : ∃ l, ps[k]? = some l := ⟨_, List.getElem?_eq_getElem hk⟩
        have l2 := hH.two _ _ hl
        -- found.append(here)
        refine iteT ⟨.ref f0, rfl, .inl ⟨rfl, _, SqL.of hf3⟩, nV k, rfl, f0, _, nV k, rfl, rfl, hf3, by rw [List.length_map]; exact small1000 (by omega), ?_⟩
        have sm4 := same_mut (o := HO.lst (fs.map nV ++ [nV k])) sm3 hf0'
        have hw4 : (upd (upd (upd H1 p (.lst [])) w (.lst (((ws.map nV) ++ [nV k]).dropLast))) f0 (.lst (fs.map nV ++ [nV k]))) w = some (.lst (ws.map nV)) := by
          rw [upd_ne wf]
          exact hw3
        obtain ⟨t, qd, ys, e1, e2, e3, e4⟩ := (hC.mono (Same.tu sm4)).at_ k l hl
        -- waiting = waiting + list(..)
        refine ⟨.ref w, rfl, .ref md, rfl, md, .ref cl, rfl, DGet.k (k := .inr "commits") (sm4 _ _ hmd), nV k, rfl, ix_sq (.inl (sm4.seq hS)) (atI_nat e1) ?_⟩
        refine ix_sq (.inr (SqT.of e2)) (atI_nat (j := 1) e3) ⟨qd, _, rfl, .inr (SqT.of e4), fun li hli => ⟨w, li, ws.map nV, l.map nV, rfl, rfl, (same_upd hli) _ _ hw4, upd_same, ?_, fun p2 hp2 => ?_⟩⟩
        · rw [List.length_map, List.length_map]
          exact Nat.le_of_lt (small1000 (by omega))
        · have sm5 := sm4.trans (same_upd (o := HO.lst (l.map nV)) hli)
          have sm6 := sm5.trans (same_upd (o := HO.lst (ws.map nV ++ l.map nV)) hp2)
          have hf5 := (same_upd (o := HO.lst (l.map nV)) hli) f0 (.lst (fs.map nV ++ [nV k])) upd_same
          have pf : p2 ≠ f0 := (ne_of_none hf5 hp2).symm
          refine ⟨_, mea_take hH hn dfs hin hl, p2, ws ++ l, fs ++ [k], some (nV k), rfl, rfl, sm6, sm5.free hp2, pf, by rw [upd_same, List.map_append], ?_, dfs.take hin hl, ?_⟩
          · rw [List.map_append]
            exact (same_upd hp2) _ _ hf5
          · rw [List.length_append, List.length_append, List.length_singleton]
            omega
end
end

end K75



set_option Elab.async false
set_option linter.all false
set_option maxRecDepth 100000
set_option maxHeartbeats 4000000
namespace K75
open PySem PySem.Spec PyProof.Rows L2 U Rch
open C8 (pss_cut)
def spLaw (K : PySem.W.Frag) : Sp := fun vs H Q _ => ∃ (a : Addr) (ns : List Int), vs = [.ref a] ∧ SqL K H a (ns.map V.int) ∧ ns.length ≤ 63 ∧ ∀ H', Q (.bl true) H'
theorem lt40 {n : Nat} (h : n ≤ 1000000) : n < 2 ^ 40 := Nat.lt_of_le_of_lt h (by decide)
theorem Comm.snoc {j : Nat} {H : Hp} {xs : List V} {ps : List (List Nat)} {t q : Addr} {ys : List V} {l : List Nat} (c : Comm j H xs ps) (h1 : H t = some (.tup ys)) (h2 : ys[j]? = some (.ref q)) (h3 : H q = some (.tup (l.map nV))) : Comm j H (xs ++ [.ref t]) (ps ++ [l]) := by
  refine ⟨by rw [List.length_append, List.length_append, c.len]; rfl, fun i l' e => ?_⟩
  by_cases hi : i < ps.length
  · rw [List.getElem?_append_left hi] at e
    obtain ⟨t', q', ys', a1, a2⟩ := c.at_ i l' e
    refine ⟨t', q', ys', ?_, a2⟩
    rw [List.getElem?_append_left (by rw [c.len]; exact hi)]
    exact a1
  · rw [List.getElem?_append_right (Nat.le_of_not_lt hi)] at e
    have e0 : i - ps.length = 0 := by
      obtain ⟨h, _⟩ := List.getElem?_eq_some_iff.mp e
      rw [List.length_singleton] at h
      omega
    rw [e0] at e
    cases (Option.some.inj (show some l = some l' from e))
    refine ⟨t, q, ys, ?_, h1, h2, h3⟩
    rw [List.getElem?_append_right (by rw [c.len]; omega), c.len, e0]
    rfl
theorem hist_snoc {ps : List (List Nat)} {l : List Nat} (h : Hist ps) (h1 : ∀ m ∈ l, m < ps.length) (h2 : l.length ≤ 2) : Hist (ps ++ [l]) := by
  have split : ∀ i l', (ps ++ [l])[i]? = some l' → ps[i]? = some l' ∨ (i = ps.length ∧ l' = l) := by
    intro i l' e
    by_cases hi : i < ps.length
    · rw [List.getElem?_append_left hi] at e
      exact .inl e
    · rw [List.getElem?_append_right (Nat.le_of_not_lt hi)] at e
      obtain ⟨h, e2⟩ := List.getElem?_eq_some_iff.mp e
      rw [List.length_singleton] at h
      have e0 : i - ps.length = 0 := by omega
      rw [e0] at e
      exact .inr ⟨by omega, (Option.some.inj (show some l = some l' from e)).symm⟩
  refine ⟨fun i l' e m hm => ?_, fun i l' e => ?_⟩
  · rcases split i l' e with z | ⟨rfl, rfl⟩
    · exact h.lt i l' z m hm
    · exact h1 m hm
  · rcases split i l' e with z | ⟨rfl, rfl⟩
    · exact h.two i l' z
    · exact h2
theorem root_snoc {ps : List (List Nat)} {l : List Nat} (h : ∀ (i : Nat) (l : List Nat), ps[i]? = some l → 0 < i → l ≠ []) (h1 : l ≠ []) : ∀ (i : Nat) (l' : List Nat), (ps ++ [l])[i]? = some l' → 0 < i → l' ≠ [] := by
  intro i l' e h0
  by_cases hi : i < ps.length
  · rw [List.getElem?_append_left hi] at e
    exact h i l' e h0
  · rw [List.getElem?_append_right (Nat.le_of_not_lt hi)] at e
    obtain ⟨h, e2⟩ := List.getElem?_eq_some_iff.mp e
    rw [List.length_singleton] at h
    have e0 : i - ps.length = 0 := by omega
    rw [e0] at e
    rw [← Option.some.inj (show some l = some l' from e)]
    exact h1
/-- tuples of parents -/
inductive Pars (H : Hp) : List V → List (List Nat) → Prop
  | nil : Pars H [] []
  | cons {q : Addr} {l : List Nat} {xs : List V} {ps : List (List Nat)} : H q = some (.tup (l.map nV)) → Pars H xs ps → Pars H (.ref q :: xs) (l :: ps)
theorem Pars.get {H : Hp} : ∀ {xs : List V} {ps : List (List Nat)} {i : Nat} {x : V}, Pars H xs ps → xs[i]? = some x → ∃ q l, x = .ref q ∧ ps[i]? = some l ∧ H q = some (.tup (l.map nV))
  | _, _, _, _, .nil, e => by simp at e
  | _, _, 0, _, .cons h _, e => ⟨_, _, (Option.some.inj (show some _ = some _ from e)).symm, rfl, h⟩
  | _, _, i + 1, x, .cons _ p, e => Pars.get (i := i) (x := x) p e
theorem Pars.mono {H H' : Hp} (t : Tu H H') : ∀ {xs : List V} {ps : List (List Nat)}, Pars H xs ps → Pars H' xs ps
  | _, _, .nil => .nil
  | _, _, .cons h p => .cons (t _ _ h) (p.mono t)
theorem Pars.length {H : Hp} : ∀ {xs : List V} {ps : List (List Nat)}, Pars H xs ps → xs.length = ps.length
  | _, _, .nil => rfl
  | _, _, .cons _ p => congrArg Nat.succ p.length
theorem take_snoc {α : Type} {l : List α} {i : Nat} {x : α} (h : l[i]? = some x) : l.take (i + 1) = l.take i ++ [x] := by
  rw [List.take_add_one, h]
  rfl
/-! ### the five written commits -/
def ps5 : List (List Nat) := [[], [0], [0], [1, 2], [2, 1]]
theorem five {i : Nat} {l : List Nat} (e : ps5[i]? = some l) : (i = 0 ∧ l = []) ∨ (i = 1 ∧ l = [0]) ∨ (i = 2 ∧ l = [0]) ∨ (i = 3 ∧ l = [1, 2]) ∨ (i = 4 ∧ l = [2, 1]) := by
  match i, e with
  | 0, e => exact .inl ⟨rfl, (Option.some.inj e).symm⟩
  | 1, e => exact .inr (.inl ⟨rfl, (Option.some.inj e).symm⟩)
  | 2, e => exact .inr (.inr (.inl ⟨rfl, (Option.some.inj e).symm⟩))
  | 3, e => exact .inr (.inr (.inr (.inl ⟨rfl, (Option.some.inj e).symm⟩)))
  | 4, e => exact .inr (.inr (.inr (.inr ⟨rfl, (Option.some.inj e).symm⟩)))
  | n + 5, e => simp [ps5] at e
theorem hist5 : Hist ps5 := by
  refine ⟨fun i l e m hm => ?_, fun i l e => ?_⟩
  · rcases five e with ⟨rfl, rfl⟩ | ⟨rfl, rfl⟩ | ⟨rfl, rfl⟩ | ⟨rfl, rfl⟩ | ⟨rfl, rfl⟩ <;> simp at hm <;> omega
  · rcases five e with ⟨rfl, rfl⟩ | ⟨rfl, rfl⟩ | ⟨rfl, rfl⟩ | ⟨rfl, rfl⟩ | ⟨rfl, rfl⟩ <;> simp
theorem r10 : Reach ps5 1 0 := .step (l := [0]) rfl (by simp) (.refl 0)
theorem r20 : Reach ps5 2 0 := .step (l := [0]) rfl (by simp) (.refl 0)
theorem r31 : Reach ps5 3 1 := .step (l := [1, 2]) rfl (by simp) (.refl 1)
theorem r32 : Reach ps5 3 2 := .step (l := [1, 2]) rfl (by simp) (.refl 2)
theorem r42 : Reach ps5 4 2 := .step (l := [2, 1]) rfl (by simp) (.refl 2)
theorem r30 : Reach ps5 3 0 := .step (l := [1, 2]) rfl (by simp) r20
theorem anc5 : Anc ps5 3 [0, 1, 2, 3] := by
  refine ⟨by simp, fun z => ⟨fun h => ?_, ?_⟩⟩
  · simp only [List.mem_cons, List.not_mem_nil, or_false] at h
    rcases h with rfl | rfl | rfl | rfl
    · exact ⟨0, rfl, r30⟩
    · exact ⟨1, rfl, r31⟩
    · exact ⟨2, rfl, r32⟩
    · exact ⟨3, rfl, .refl 3⟩
  · rintro ⟨m, rfl, r⟩
    have := hist5.le r
    have : m = 0 ∨ m = 1 ∨ m = 2 ∨ m = 3 := by omega
    rcases this with rfl | rfl | rfl | rfl <;> simp
theorem bas34 : Bas ps5 3 4 2 := by
  refine ⟨⟨2, rfl, r32, r42⟩, fun m r1 r2 => ?_⟩
  have := hist5.le r1
  have ne : m ≠ 3 := by
    rintro rfl
    cases r2 with
    | step e hm r3 =>
      rcases five e with ⟨h, _⟩ | ⟨h, _⟩ | ⟨h, _⟩ | ⟨h, _⟩ | ⟨_, rfl⟩
      · cases h
      · cases h
      · cases h
      · cases h
      · have := hist5.le r3
        simp at hm
        omega
  omega
theorem bas12 : Bas ps5 1 2 0 := by
  refine ⟨⟨0, rfl, r10, r20⟩, fun m r1 r2 => ?_⟩
  have := hist5.le r1
  have ne : m ≠ 1 := by
    rintro rfl
    cases r2 with
    | step e hm r3 =>
      rcases five e with ⟨h, _⟩ | ⟨h, _⟩ | ⟨_, rfl⟩ | ⟨h, _⟩ | ⟨h, _⟩
      · cases h
      · cases h
      · have := hist5.le r3
        simp at hm
        omega
      · cases h
      · cases h
  omega
/-! ### what stands between the law's rows -/
structure Cms (H : Hp) (st g c cm : Addr) (xs : List V) (ps : List (List Nat)) : Prop where
  l : H cm = some (.lst xs)
  com : Comm 2 H xs ps
  hist : Hist ps
  root : ∀ (i : Nat) (l : List Nat), ps[i]? = some l → 0 < i → l ≠ []
  pos : 0 < ps.length
  few : ps.length ≤ 20
  nst : cm ≠ st
  ng : cm ≠ g
  nc : cm ≠ c
theorem Cms.to {H H' : Hp} {st g c cm : Addr} {xs : List V} {ps : List (List Nat)} (h : Cms H st g c cm xs ps) (t : Tu H H') (hl : H' cm = some (.lst xs)) : Cms H' st g c cm xs ps :=
  ⟨hl, h.com.mono t, h.hist, h.root, h.pos, h.few, h.nst, h.ng, h.nc⟩
theorem Cms.same {H H' : Hp} {st g c cm : Addr} {xs : List V} {ps : List (List Nat)} (h : Cms H st g c cm xs ps) (s : Same H H') : Cms H' st g c cm xs ps := h.to (Same.tu s) (s _ _ h.l)
theorem Cms.kp {H H' : Hp} {st g c cm : Addr} {n : Nat} {xs : List V} {ps : List (List Nat)} (h : Cms H st g c cm xs ps) (d : Dr H st g c n) (k : Kp st g H H') : Cms H' st g c cm xs ps := h.to (d.tu k) (k _ _ h.l h.nst h.ng)
/-- zs are lists, none of them in B: of the j-th all of which it comes, rising -/
structure Lots (H : Hp) (B : List Addr) (zs : List V) (ps : List (List Nat)) (k : Nat) : Prop where
  len : zs.length = k
  at_ : ∀ j, j < k → ∃ (p : Addr) (L : List Int), zs[j]? = some (.ref p) ∧ H p = some (.lst (L.map V.int)) ∧ Anc ps j L ∧ ∀ b ∈ B, p ≠ b
theorem Lots.to {H H' : Hp} {B : List Addr} {zs : List V} {ps : List (List Nat)} {k : Nat} (h : Lots H B zs ps k) (q : ∀ p o, H p = some o → (∀ b ∈ B, p ≠ b) → H' p = some o) : Lots H' B zs ps k :=
  ⟨h.len, fun j hj => let ⟨p, L, a, b, c, d⟩ := h.at_ j hj; ⟨p, L, a, q _ _ b d, c, d⟩⟩
theorem Lots.snoc {H : Hp} {B : List Addr} {zs : List V} {ps : List (List Nat)} {k : Nat} {p : Addr} {L : List Int} (h : Lots H B zs ps k) (h1 : H p = some (.lst (L.map V.int))) (h2 : Anc ps k L) (h3 : ∀ b ∈ B, p ≠ b) : Lots H B (zs ++ [.ref p]) ps (k + 1) := by
  refine ⟨by rw [List.length_append, h.len]; rfl, fun j hj => ?_⟩
  by_cases e : j < k
  · obtain ⟨p', L', a, b⟩ := h.at_ j e
    exact ⟨p', L', by rw [List.getElem?_append_left (by rw [h.len]; exact e)]; exact a, b⟩
  · have : j = k := by omega
    subst this
    exact ⟨p, L, by rw [List.getElem?_append_right (by rw [h.len]; exact Nat.le_refl _), h.len, Nat.sub_self]; rfl, h1, h2, h3⟩
theorem flat_ints (L : List Int) : (L.map V.int).all flatV = true := by
  rw [List.all_eq_true]
  intro x hx
  obtain ⟨m, _, rfl⟩ := List.mem_map.mp hx
  rfl
theorem in_ints (L : List Int) (z : Int) : inV (.int z) (L.map V.int) = decide (z ∈ L) := by
  induction L with
  | nil => rfl
  | cons a r ih =>
    show (eqV (.int a) (.int z) || inV (.int z) (r.map V.int)) = _
    rw [ih]
    have e : eqV (.int a) (.int z) = decide (z = a) := by
      show (a == z) = _
      by_cases h : z = a
      · subst h
        simp
      · have : ¬ (a = z) := fun q => h q.symm
        simp [h, this]
    rw [e]
    by_cases h : z = a <;> by_cases h2 : z ∈ r <;> simp [h, h2]
/-! ### texts of few small numbers -/
theorem anc_small {ps : List (List Nat)} {n : Nat} {L : List Int} (H : Hist ps) (hn : n < ps.length) (h : Anc ps n L) : ∀ z ∈ L, 0 ≤ z ∧ z < ps.length := by
  intro z hz
  obtain ⟨m, rfl, r⟩ := (h.mem z).mp hz
  have := H.in hn r
  omega
theorem add_commit {H : Hp} {st g c cm p t : Addr} {n : Nat} {xs : List V} {ps : List (List Nat)} {l : List Nat} (d : Dr H st g c n) (C : Cms H st g c cm xs ps) (hp : H p = none) (ht : (upd H p (.tup (l.map nV))) t = none)
    (h1 : ∀ m ∈ l, m < ps.length) (h2 : l.length ≤ 2) (h3 : l ≠ []) (h4 : ps.length < 20) :
    Dr (upd (upd (upd H p (.tup (l.map nV))) t (.tup [.str "commit", .non, .ref p])) cm (.lst (xs ++ [.ref t]))) st g c n ∧
      Cms (upd (upd (upd H p (.tup (l.map nV))) t (.tup [.str "commit", .non, .ref p])) cm (.lst (xs ++ [.ref t]))) st g c cm (xs ++ [.ref t]) (ps ++ [l]) := by
  have s1 := same_upd (o := HO.tup (l.map nV)) hp
  have s2 := same_upd (o := HO.tup [.str "commit", .non, .ref p]) ht
  have tu : Tu (upd (upd H p (.tup (l.map nV))) t (.tup [.str "commit", .non, .ref p])) (upd (upd (upd H p (.tup (l.map nV))) t (.tup [.str "commit", .non, .ref p])) cm (.lst (xs ++ [.ref t]))) :=
    (Tu.refl _).mut fun ys z => by
      rw [s2 _ _ (s1 _ _ C.l)] at z
      cases z
  refine ⟨((d.same s1).same s2).mut C.nst C.ng C.nc, upd_same, ?_, hist_snoc C.hist h1 h2, root_snoc C.root h3, ?_, ?_, C.nst, C.ng, C.nc⟩
  · exact (C.com.mono ((Same.tu (s1.trans s2)).trans tu)).snoc (q := p) (ys := [.str "commit", .non, .ref p]) (tu _ _ upd_same) rfl (tu _ _ (s2 _ _ upd_same))
  · rw [List.length_append]
    exact Nat.lt_of_lt_of_le C.pos (Nat.le_add_right _ _)
  · rw [List.length_append, List.length_singleton]
    omega
theorem first_commit {H : Hp} {st g c q0 t0 cm : Addr} {n : Nat} (d : Dr H st g c n) (hq : H q0 = none) (ht : (upd H q0 (.tup [])) t0 = none) (hc : (upd (upd H q0 (.tup [])) t0 (.tup [.str "commit", .non, .ref q0])) cm = none) :
    Same H (upd (upd (upd H q0 (.tup [])) t0 (.tup [.str "commit", .non, .ref q0])) cm (.lst [.ref t0])) ∧ Cms (upd (upd (upd H q0 (.tup [])) t0 (.tup [.str "commit", .non, .ref q0])) cm (.lst [.ref t0])) st g c cm [.ref t0] [[]] := by
  have s1 := same_upd (o := HO.tup []) hq
  have s2 := same_upd (o := HO.tup [.str "commit", .non, .ref q0]) ht
  have s3 := same_upd (o := HO.lst [.ref t0]) hc
  obtain ⟨f1, f2, f3⟩ := (d.same (s1.trans s2)).free hc
  have none0 : ∀ (i : Nat) (l : List Nat), ([[]] : List (List Nat))[i]? = some l → i = 0 ∧ l = [] := by
    intro i l e
    match i, e with
    | 0, e => exact ⟨rfl, (Option.some.inj e).symm⟩
    | i + 1, e => simp at e
  refine ⟨(s1.trans s2).trans s3, upd_same, ?_, ⟨fun i l e m hm => ?_, fun i l e => ?_⟩, fun i l e h0 => ?_, by decide, by decide, f1, f2, f3⟩
  · exact Comm.snoc (j := 2) (xs := []) (ps := []) (t := t0) (q := q0) (ys := [.str "commit", .non, .ref q0]) (l := []) ⟨rfl, fun i l e => by simp at e⟩ (s3 _ _ upd_same) rfl (s3 _ _ (s2 _ _ upd_same))
  · rw [(none0 i l e).2] at hm
    cases hm
  · rw [(none0 i l e).2]
    decide
  · have := (none0 i l e).1
    omega
section
variable {P : Program} {w : World} {K : PySem.W.Frag} {mg : PySem.Str → Option Value} {base : Heap}
theorem ok_law {f : Addr} {fd : FuncData} (F : FunD K "law" "law" (defArgs s_law) (defBody s_law) (defScope s_law) [] [] f fd) (T : Bi mg)
    (C__law_begun : Cal P w K mg base CX0 "_law_begun" 1 P__law_begun (spBegun K)) (C__law_draw : Cal P w K mg base CX0 "_law_draw" 2 P__law_draw spDraw)
    (C_ancestors : Cal P w K mg base CX0 "ancestors" 2 P_ancestors (spAnc K)) (CK_ancestors_number_commits : CalK P w K mg base CX0 "ancestors" 2 P_ancestors ["number", "commits"] (fun _ zs => zs.reverse) (spAnc K))
    (C_base_of : Cal P w K mg base CX0 "base_of" 3 P_base_of (spBase K)) (CK_base_of_other_one_commits : CalK P w K mg base CX0 "base_of" 3 P_base_of ["other", "one", "commits"] (fun _ zs => zs.reverse) (spBase K))
    (C__law_ahead : Cal P w K mg base CX0 "_law_ahead" 1 P__law_ahead (spAhead K)) (C__law_is : CalG P w K mg base CX0 "_law_is" 3 P__law_is (spIs 2)) : FnG P w K mg base CX0 4 f fd P_law (spLaw K) := by
  refine okG F sc_law (fun vs H Q E h => ?_) (fun cdv A outer s H vs Q E hgd hr h => ?_)
  · obtain ⟨a, ns, rfl, _⟩ := h
    rfl
  · have hu := hu_of hr
    obtain ⟨a, ns, rfl, hS, hlen, q⟩ := h
    refine ⟨_, PSs.nox ((pss_cons (ps_set (i := 1) sc_law.nd rfl (.inl rfl) (pe_c C__law_begun (hr.mono (by decide)) pass0 (pa_cons (pv 0) pa_nil)))
      (pss_cons (ps_setLc (i := 2) (own := [("parents", 3)]) (g := gName 3) (tt := tYes) rfl sc_law.nd rfl rfl (sw_true rfl rfl rfl (by decide +kernel)) (k_pil K (pe_lst (pa_cons (pe_tup pa_nil) (pa_cons (pe_tup (pa_cons pe_int pa_nil)) (pa_cons (pe_tup (pa_cons pe_int pa_nil)) (pa_cons (pe_tup (pa_cons pe_int (pa_cons pe_int pa_nil))) (pa_cons (pe_tup (pa_cons pe_int (pa_cons pe_int pa_nil))) pa_nil))))))) (blkOk_by (N := N_law) (sc := defScope s_law) (by decide +kernel)) (fun _ _ _ _ _ => (pg_name (i := 3) sc_law.nd rfl (.inl rfl))) (fun _ _ _ _ _ => pts_nil) (fun _ _ _ _ _ => (pe_tup (pa_cons pe_str (pa_cons pe_non (pa_cons (pv 3) pa_nil))))))
      (pss_cons (ps_if (PW.pt (pw_or (pt_cmpR (k_ne K hr.units) (pe_c C_ancestors (hr.mono (by decide)) pass0 (pa_cons (pv 2) (pa_cons pe_int pa_nil))) (pe_tup (pa_cons pe_int (pa_cons pe_int (pa_cons pe_int (pa_cons pe_int pa_nil))))) (nomark _)) (pw_or (pt_cmpR (k_ne K hr.units) (pe_c C_base_of (hr.mono (by decide)) pass0 (pa_cons (pv 2) (pa_cons pe_int (pa_cons pe_int pa_nil)))) pe_int (nomark _)) (pw_or1 (pt_cmpR (k_ne K hr.units) (pe_c C_base_of (hr.mono (by decide)) pass0 (pa_cons (pv 2) (pa_cons pe_int (pa_cons pe_int pa_nil)))) pe_int (nomark _)))))) (pss_one (ps_ret pe_bl)) pss_nil)
      (pss_cons (ps_for PassesOwn.never rfl (pi_range1 (by rfl) T.n_range (pa_cons (pe_op op_add pe_int (pe_callB (call_min2 rfl) (by rfl) T.n_min (by decide +kernel) (pa_cons (pe_callB (k_len K) (by rfl) T.n_len (by decide +kernel) (pa_cons (pv 0) pa_nil)) (pa_cons pe_int pa_nil)))) pa_nil)) (pg_name (i := 4) sc_law.nd rfl (.inl rfl)) (pss_cons (ps_set (i := 5) sc_law.nd rfl (.inl rfl) (pe_lst (pa_cons (pe_tup (pa_cons pe_str (pa_cons pe_non (pa_cons (pe_tup pa_nil) pa_nil)))) pa_nil)))
      (pss_cons (ps_for PassesOwn.never rfl (pi_range2 (by rfl) T.n_range (pa_cons pe_int (pa_cons (pe_op op_add pe_int (pe_c C__law_draw (hr.mono (by decide)) pass0 (pa_cons (pv 1) (pa_cons pe_int pa_nil)))) pa_nil))) (pg_name (i := 6) sc_law.nd rfl (.inl rfl)) (pss_cons (ps_set (i := 3) sc_law.nd rfl (.inl rfl) (pe_ifExp (pt_cmpR op_gt (pe_c C__law_draw (hr.mono (by decide)) pass0 (pa_cons (pv 1) (pa_cons pe_int pa_nil))) pe_int (nomark _)) (pe_tup (pa_cons (pe_c C__law_draw (hr.mono (by decide)) pass0 (pa_cons (pv 1) (pa_cons (pv 6) pa_nil))) pa_nil)) (pe_tup (pa_cons (pe_c C__law_draw (hr.mono (by decide)) pass0 (pa_cons (pv 1) (pa_cons (pv 6) pa_nil))) (pa_cons (pe_c C__law_draw (hr.mono (by decide)) pass0 (pa_cons (pv 1) (pa_cons (pv 6) pa_nil))) pa_nil)))))
      (pss_one (ps_expr (k_bm K PySem.F.plainAttrs_list PySem.F.slot_list_append PySem.F.type_list_append mt_append (pv 5) (pa_cons (pe_tup (pa_cons pe_str (pa_cons pe_non (pa_cons (pv 3) pa_nil)))) pa_nil))))))
      (pss_cons (ps_set (i := 7) sc_law.nd rfl (.inr rfl) (pe_disp (pps_cons pe_str (pe_lc (own := [("commit", 8)]) (g := gName 8) (tt := tYes) rfl sc_law.nd (k_pil K (pv 5)) (blkOk_by (N := N_law) (sc := defScope s_law) (by decide +kernel)) (fun _ _ _ _ _ => (pg_name (i := 8) sc_law.nd rfl (.inl rfl))) (fun _ _ _ _ _ => pts_nil) (fun _ _ _ _ _ => (pe_tup (pa_cons pe_str (pa_cons (pe_ix (k_ix K) (pv 8) pe_int (fun _ _ => rfl)) (pa_cons pe_non pa_nil)))))) pps_nil) (by rfl) (by rfl) (fun z => by cases z) (by decide)))
      (pss_cons (ps_set (i := 9) sc_law.nd rfl (.inr rfl) (pe_lc (own := [("at", 6)]) (g := gName 6) (tt := tYes) rfl sc_law.nd (pi_range1 (by rfl) T.n_range (pa_cons (pe_callB (k_len K) (by rfl) T.n_len (by decide +kernel) (pa_cons (pv 5) pa_nil)) pa_nil)) (blkOk_by (N := N_law) (sc := defScope s_law) (by decide +kernel)) (fun _ _ _ _ _ => (pg_name (i := 6) sc_law.nd rfl (.inl rfl))) (fun _ _ _ _ _ => pts_nil) (fun _ _ _ _ _ => (pe_callB (k_sorted K) (by rfl) T.n_sorted (by decide +kernel) (pa_cons (pe_c C__law_ahead (hr.mono (by decide)) pass0 (pa_cons (pv 7) (pa_cons (pv 6) pa_nil))) pa_nil)))))
      (pss_cons (ps_for PassesOwn.never rfl (pi_range1 (by rfl) T.n_range (pa_cons (pe_callB (k_len K) (by rfl) T.n_len (by decide +kernel) (pa_cons (pv 5) pa_nil)) pa_nil)) (pg_name (i := 6) sc_law.nd rfl (.inl rfl)) (pss_one (ps_if (PW.pt (pw_or (pt_not (pt_val (pe_cG C__law_is hgd (hr.mono (by decide)) pass0 (pa_cons (pe_c C_ancestors (hr.mono (by decide)) pass0 (pa_cons (pv 5) (pa_cons (pv 6) pa_nil))) (pa_cons (pe_callTy (k_tuple K) (by rfl) T.n_tuple (by decide +kernel) (pa_cons (pe_ix (k_ix K) (pv 9) (pv 6) (fun _ _ => rfl)) pa_nil)) pa_nil))))) (pw_or1 (pt_cmpR (k_ne K hr.units) (pe_ck CK_ancestors_number_commits (hr.mono (by decide)) pass0 (pk_cons (pv 6) (pk_cons (pe_callTy (k_tuple K) (by rfl) T.n_tuple (by decide +kernel) (pa_cons (pv 5) pa_nil)) pk_nil))) (pe_callTy (k_tuple K) (by rfl) T.n_tuple (by decide +kernel) (pa_cons (pe_ix (k_ix K) (pv 9) (pv 6) (fun _ _ => rfl)) pa_nil)) (nomark _))))) (pss_one (ps_ret pe_bl)) pss_nil)))
      (pss_one (ps_for PassesOwn.never rfl (pi_range1 (by rfl) T.n_range (pa_cons pe_int pa_nil)) (pg_name (i := 10) sc_law.nd rfl (.inl rfl)) (pss_cons (ps_asg (pe_tup (pa_cons (pe_c C__law_draw (hr.mono (by decide)) pass0 (pa_cons (pv 1) (pa_cons (pe_callB (k_len K) (by rfl) T.n_len (by decide +kernel) (pa_cons (pv 5) pa_nil)) pa_nil))) (pa_cons (pe_c C__law_draw (hr.mono (by decide)) pass0 (pa_cons (pv 1) (pa_cons (pe_callB (k_len K) (by rfl) T.n_len (by decide +kernel) (pa_cons (pv 5) pa_nil)) pa_nil))) pa_nil))) (k_pgt K (by rfl) (pgs_cons (pg_name (i := 11) sc_law.nd rfl (.inl rfl)) (pgs_cons (pg_name (i := 12) sc_law.nd rfl (.inr rfl)) pgs_nil))))
      (pss_cons (ps_set (i := 13) sc_law.nd rfl (.inl rfl) (pe_callB (k_max K rfl) (by rfl) T.n_max (by decide +kernel) (pa_cons (pe_lc (own := [("at", 6)]) (g := gName 6) rfl sc_law.nd (k_pil K (pe_ix (k_ix K) (pv 9) (pv 11) (fun _ _ => rfl))) (blkOk_by (N := N_law) (sc := defScope s_law) (by decide +kernel)) (fun _ _ _ _ _ => (pg_name (i := 6) sc_law.nd rfl (.inl rfl))) (fun _ _ _ _ _ => (pts_one (pt_cmpR (k_in K) (pv 6) (pe_ix (k_ix K) (pv 9) (pv 12) (fun _ _ => rfl)) (by rfl)))) (fun _ _ _ _ _ => (pv 6))) pa_nil)))
      (pss_one (ps_if (PW.pt (pw_or (pt_not (pt_val (pe_cG C__law_is hgd (hr.mono (by decide)) pass0 (pa_cons (pe_c C_base_of (hr.mono (by decide)) pass0 (pa_cons (pv 5) (pa_cons (pv 11) (pa_cons (pv 12) pa_nil)))) (pa_cons (pv 13) pa_nil))))) (pw_or (pt_cmpR (k_ne K hr.units) (pe_ck CK_base_of_other_one_commits (hr.mono (by decide)) pass0 (pk_cons (pv 11) (pk_cons (pv 12) (pk_cons (pv 5) pk_nil)))) (pv 13) (nomark _)) (pw_or1 (pt_cmpR (k_ne K hr.units) (pe_c C_base_of (hr.mono (by decide)) pass0 (pa_cons (pv 5) (pa_cons (pv 11) (pa_cons (pv 11) pa_nil)))) (pv 11) (nomark _)))))) (pss_one (ps_ret pe_bl)) pss_nil))))))))))))
      (pss_one (ps_ret pe_bl))))))), ?_⟩
    -- state
    refine ⟨.ref a, rfl, a, ns, rfl, hS, hlen, fun H1 st g c s1 nst ng nc d1 => ?_⟩
    -- some
    refine ⟨Nat.zero_le _, fun q1 hq1 => ⟨by show 1 ≤ sizeLine; decide, fun q2 hq2 => ⟨by show 1 ≤ sizeLine; decide, fun q3 hq3 => ⟨by show 2 ≤ sizeLine; decide, fun q4 hq4 => ⟨by show 2 ≤ sizeLine; decide, fun q5 hq5 => ⟨by show 5 ≤ sizeLine; decide, fun li hli => ?_⟩⟩⟩⟩⟩⟩
    have e1 := same_upd (o := HO.tup []) hq1
    have e2 := same_upd (o := HO.tup [.int 0]) hq2
    have e3 := same_upd (o := HO.tup [.int 0]) hq3
    have e4 := same_upd (o := HO.tup [.int 1, .int 2]) hq4
    have e5 := same_upd (o := HO.tup [.int 2, .int 1]) hq5
    have e6 := same_upd (o := HO.lst [.ref q1, .ref q2, .ref q3, .ref q4, .ref q5]) hli
    have pars : Pars _ [.ref q1, .ref q2, .ref q3, .ref q4, .ref q5] ps5 := .cons (e6 _ _ (e5 _ _ (e4 _ _ (e3 _ _ (e2 _ _ upd_same))))) (.cons (e6 _ _ (e5 _ _ (e4 _ _ (e3 _ _ upd_same)))) (.cons (e6 _ _ (e5 _ _ (e4 _ _ upd_same))) (.cons (e6 _ _ (e5 _ _ upd_same)) (.cons (e6 _ _ upd_same) .nil))))
    have s2 := s1.trans ((((((e1.trans e2).trans e3).trans e4).trans e5)).trans e6)
    have d2 := d1.same ((((((e1.trans e2).trans e3).trans e4).trans e5)).trans e6)
    have hlis := SqL.of (K := K) (show (upd (upd (upd (upd (upd (upd H1 q1 (.tup [])) q2 (.tup [.int 0])) q3 (.tup [.int 0])) q4 (.tup [.int 1, .int 2])) q5 (.tup [.int 2, .int 1])) li (HO.lst [.ref q1, .ref q2, .ref q3, .ref q4, .ref q5])) li = _ from upd_same)
    refine ⟨li, rfl, ⟨_, hlis⟩, fun D hD => ?_⟩
    clear e1 e2 e3 e4 e5 e6
    generalize upd _ li (HO.lst _) = H2 at pars s2 d2 hlis hD ⊢
    clear hli hq5 hq4 hq3 hq2 hq1
    have s3 := same_upd (o := HO.lst []) hD
    refine lc_list (K := K) (a := li) (xs := [.ref q1, .ref q2, .ref q3, .ref q4, .ref q5]) (fun i H' => ∃ ys, H' D = some (.lst ys) ∧ Comm 2 H' ys (ps5.take i) ∧ Same H2 H') ⟨[], upd_same, ⟨rfl, fun i l e => by simp at e⟩, s3⟩ (fun i H' _ p => let ⟨_, _, _, s⟩ := p; s.seq hlis) ?_ ?_
    · rintro i x H' hi ⟨ys, h1, h2, h3⟩
      obtain ⟨qd, l, rfl, hl, hq⟩ := (pars.mono (Same.tu h3)).get hi
      refine ⟨rfl, yes ⟨.ref qd, rfl, by show 3 ≤ sizeLine; decide, fun t ht => ⟨ys, (same_upd ht) _ _ h1, ?_, ys ++ [.ref t], upd_same, ?_, ?_⟩⟩⟩
      · rw [h2.len, List.length_take]
        have : ps5.length = 5 := rfl
        exact small1000 (by omega)
      · have s4 := same_upd (o := HO.tup [.str "commit", .non, .ref qd]) ht
        have tu : Tu H' (upd (upd H' t (.tup [.str "commit", .non, .ref qd])) D (.lst (ys ++ [.ref t]))) := (Same.tu s4).mut fun xs z => by rw [h1] at z; cases z
        rw [take_snoc hl]
        refine (h2.mono tu).snoc (q := qd) (ys := [.str "commit", .non, .ref qd]) ?_ rfl (tu _ _ hq)
        rw [upd_ne (ne_of_none h1 ht).symm]
        exact upd_same
      · exact same_mut (h3.trans (same_upd ht)) hD
    · rintro H3 ⟨ys, h1, h2, h3⟩
      have h2' : Comm 2 H3 ys ps5 := h2
      have s5 := s2.trans h3
      have d3 := d2.same h3
      clear h2 pars hlis
      -- the written commits
      refine ⟨.ref D, rfl, D, 3, ys, ps5, rfl, .inl (SqL.of h1), h2', hist5, by decide, by decide, fun H4 p L s6 np hp anc => ?_⟩
      cases anc.one anc5
      refine ⟨by show 4 ≤ sizeLine; decide, fun t ht => ⟨.tuple ([0, 1, 2, 3].map PyData.int), .tuple ([0, 1, 2, 3].map PyData.int), .tup (SqT.of ((same_upd ht) _ _ hp)) (dp_ints K _ [0, 1, 2, 3]), .tup (SqT.of upd_same) (dp_ints K _ [0, 1, 2, 3]), shaped_intT _, shaped_intT _, _, rfl, ?_⟩⟩
      rw [eqv_same (by rw [Plain]; exact plain_ints _)]
      refine iteF ?_
      have s7 := s6.trans (same_upd (o := HO.tup [.int 0, .int 1, .int 2, .int 3]) ht)
      refine ⟨.ref D, rfl, D, 3, 4, ys, ps5, rfl, .inl (SqL.of (s7 _ _ h1)), h2'.mono (Same.tu s7), hist5, by decide, by decide, by decide, ⟨2, r32, r42⟩, fun H5 z s8 bz => ?_⟩
      cases bz.one bas34
      refine ⟨.int 2, .int 2, .int 2, .int 2, rfl, rfl, _, rfl, ?_⟩
      refine iteF ⟨.ref D, rfl, D, 1, 2, ys, ps5, rfl, .inl (SqL.of (s8 _ _ (s7 _ _ h1))), h2'.mono (Same.tu (s7.trans s8)), hist5, by decide, by decide, by decide, ⟨0, r10, r20⟩, fun H6 z s9 bz => ?_⟩
      cases bz.one bas12
      refine ⟨.int 0, .int 0, .int 0, .int 0, rfl, rfl, _, rfl, iteF ?_⟩
      have d6 := d3.same ((s7.trans s8).trans s9)
      have s10 := s5.trans ((s7.trans s8).trans s9)
      clear s9 s8 s7 hp h1 h2' h3 s6 d3 s5 s2 d2 hD s3 ht np anc bz
      clear t p H5 H4 ys li H3 H2 q1 q2 q3 q4 q5
      -- for turn in range(..)
      refine ⟨.ref a, rfl, .ref a, ns.length, rfl, .inl ⟨_, s10.seq hS, (List.length_map ..).symm⟩, (ns.length : Int), 6, rfl, 5, _, rfl, rfl, 5 + (if (6 : Int) < (ns.length : Int) then 6 else (ns.length : Int)), rfl, by split <;> omega, by split <;> omega, ?_⟩
      refine for_range (lo := 0) (n := (5 + (if (6 : Int) < (ns.length : Int) then 6 else (ns.length : Int))).toNat) (fun i σ H' => ∃ (n : Nat) (x2 x3 x4 x5 x6 x7 x8 x9 x10 x11 x12 x13 : Option V), n ≤ i * 1000 ∧ σ = [some (.ref a), some (.ref st), x2, x3, x4, x5, x6, x7, x8, x9, x10, x11, x12, x13] ∧ Dr H' st g c n)
        ⟨0, _, _, _, _, _, _, _, _, _, _, _, _, Nat.zero_le _, rfl, d6⟩ ?_ fun σ H' _ => q H'
      clear d6 s10 hS hlen
      rintro i σ H0 hi ⟨n, x2, x3, x4, x5, x6, x7, x8, x9, x10, x11, x12, x13, hn, rfl, d0⟩
      have hi11 : i < 11 := by
        revert hi
        split <;> omega
      -- commits = [..]
      refine ⟨Nat.zero_le _, fun q0 hq0 => ⟨by show 3 ≤ sizeLine; decide, fun t0 ht0 => ⟨by show 1 ≤ sizeLine; decide, fun cm hcm => ?_⟩⟩⟩
      obtain ⟨s1, C1⟩ := first_commit d0 hq0 ht0 hcm
      have d1 := d0.same s1
      generalize upd _ cm (HO.lst [.ref t0]) = H1 at s1 C1 d1 ⊢
      clear hcm ht0 hq0 s1 d0
      -- for at in range(1, 2 + ..)
      refine ⟨.ref st, rfl, st, g, c, n, 12, rfl, by decide, by decide, d1, lt40 (by omega), fun H2 z k2 d2 z0 z1 => ⟨2, z, rfl, rfl, 1, 2 + z, rfl, ⟨by decide, by decide, by omega, by omega⟩, ?_⟩⟩
      have C2 := C1.kp d1 k2
      refine for_range (lo := 1) (n := (2 + z - 1).toNat) (fun j σ H' => ∃ (n' : Nat) (xs : List V) (ps : List (List Nat)) (y3 y6 : Option V), σ = [some (.ref a), some (.ref st), x2, y3, some (.int (0 + i)), some (.ref cm), y6, x7, x8, x9, x10, x11, x12, x13] ∧ n' ≤ n + 1 + 3 * j ∧ Dr H' st g c n' ∧ Cms H' st g c cm xs ps ∧ ps.length = j + 1)
        ⟨n + 1, _, _, _, _, rfl, Nat.le_refl _, d2, C2, rfl⟩ ?_ ?_
      · clear C2 d2 k2 C1 d1
        rintro j σ H' hj ⟨n', xs, ps, y3, y6, rfl, hn', d', C', hl⟩
        have hj' : j ≤ 13 := by omega
        refine ⟨.ref st, rfl, st, g, c, n', 3, rfl, by decide, by decide, d', lt40 (by omega), fun H3 z3 k3 d3 _ _ => ⟨z3, 0, rfl, rfl, _, rfl, ite2 (fun _ => ?_) (fun _ => ?_)⟩⟩
        · have C3 := C'.kp d' k3
          refine ⟨.ref st, rfl, .int (1 + j), rfl, st, g, c, n' + 1, 1 + j, rfl, by omega, by omega, d3, lt40 (by omega), fun H4 y k4 d4 y0 y1 => ⟨by show 1 ≤ sizeLine; decide, fun p hp => ?_⟩⟩
          obtain ⟨m, rfl⟩ := Int.eq_ofNat_of_zero_le y0
          have C4 := C3.kp d3 k4
          refine ⟨.ref cm, rfl, .inl ⟨rfl, _, SqL.of ((same_upd hp) _ _ C4.l)⟩, .ref p, rfl, by show 3 ≤ sizeLine; decide, fun t ht => ⟨cm, xs, .ref t, rfl, rfl, (same_upd ht) _ _ ((same_upd hp) _ _ C4.l), ?_, ?_⟩⟩
          · rw [C4.com.len]
            exact small1000 (by omega)
          · obtain ⟨d5, C5⟩ := add_commit (l := [m]) d4 C4 hp ht (fun k hk => by rw [List.mem_singleton.mp hk]; omega) (Nat.le_succ 1) (by simp) (by omega)
            exact ⟨n' + 1 + 1, _, _, _, _, rfl, by omega, d5, C5, by rw [List.length_append, hl]; rfl⟩
        · have C3 := C'.kp d' k3
          refine ⟨.ref st, rfl, .int (1 + j), rfl, st, g, c, n' + 1, 1 + j, rfl, by omega, by omega, d3, lt40 (by omega), fun H4 y k4 d4 y0 y1 => ?_⟩
          refine ⟨.ref st, rfl, .int (1 + j), rfl, st, g, c, n' + 1 + 1, 1 + j, rfl, by omega, by omega, d4, lt40 (by omega), fun H5 u k5 d5 u0 u1 => ⟨by show 2 ≤ sizeLine; decide, fun p hp => ?_⟩⟩
          obtain ⟨m, rfl⟩ := Int.eq_ofNat_of_zero_le y0
          obtain ⟨r, rfl⟩ := Int.eq_ofNat_of_zero_le u0
          have C5 := (C3.kp d3 k4).kp d4 k5
          refine ⟨.ref cm, rfl, .inl ⟨rfl, _, SqL.of ((same_upd hp) _ _ C5.l)⟩, .ref p, rfl, by show 3 ≤ sizeLine; decide, fun t ht => ⟨cm, xs, .ref t, rfl, rfl, (same_upd ht) _ _ ((same_upd hp) _ _ C5.l), ?_, ?_⟩⟩
          · rw [C5.com.len]
            exact small1000 (by omega)
          · obtain ⟨d6, C6⟩ := add_commit (l := [m, r]) d5 C5 hp ht (fun k hk => by
              simp only [List.mem_cons, List.not_mem_nil, or_false] at hk
              rcases hk with rfl | rfl <;> omega) (Nat.le_refl 2) (by simp) (by omega)
            exact ⟨n' + 1 + 1 + 1, _, _, _, _, rfl, by omega, d6, C6, by rw [List.length_append, hl]; rfl⟩
      · clear C2 d2 k2 C1 d1
        rintro σ H3 ⟨n', xs, ps, y3, y6, rfl, hn', d3, C3, hl⟩
        have hz : (2 + z - 1).toNat ≤ 12 := by omega
        have hps : ps.length ≤ 13 := by omega
        have hn2 : n' ≤ n + 40 := by omega
        clear hn' hl z0 z1 hz
        -- model
        intro md hmd
        have s1 := same_upd (o := HO.dK []) hmd
        have d4 := d3.same s1
        have C4 := C3.same s1
        refine ⟨.ref cm, rfl, cm, rfl, ⟨_, SqL.of C4.l⟩, fun cl hcl => ?_⟩
        have mdcl : md ≠ cl := ne_of_none upd_same hcl
        refine lc_list (K := K) (a := cm) (xs := xs) (fun i H' => ∃ ys, H' cl = some (.lst ys) ∧ Comm 1 H' ys (ps.take i) ∧ Same (upd H3 md (.dK [])) H') ⟨[], upd_same, ⟨rfl, fun i l e => by simp at e⟩, same_upd hcl⟩ (fun i H' _ p => let ⟨_, _, _, s⟩ := p; SqL.of (s _ _ C4.l)) ?_ ?_
        · rintro j x H' hj ⟨ys, h1, h2, h3⟩
          have hjl : j < ps.length := by rw [← C4.com.len]; exact (List.getElem?_eq_some_iff.mp hj).1
          obtain ⟨l, hl⟩ : ∃ l, ps[j]? = some l := ⟨_, List.getElem?_eq_getElem hjl⟩
          obtain ⟨t, qd, zs, e1, e2, e3, e4⟩ := (C4.com.mono (Same.tu h3)).at_ j l hl
          cases (Option.some.inj (e1.symm.trans hj))
          refine ⟨rfl, yes ⟨.ref t, rfl, ix_sq (.inr (SqT.of e2)) (atI_nat (j := 2) e3) ⟨by show 3 ≤ sizeLine; decide, fun t' ht' => ⟨ys, (same_upd ht') _ _ h1, ?_, ys ++ [.ref t'], upd_same, ?_, same_mut (h3.trans (same_upd ht')) hcl⟩⟩⟩⟩
          · rw [h2.len, List.length_take]
            exact small1000 (by omega)
          · have s4 := same_upd (o := HO.tup [.str "run", .ref qd, .non]) ht'
            have tu : Tu H' (upd (upd H' t' (.tup [.str "run", .ref qd, .non])) cl (.lst (ys ++ [.ref t']))) := (Same.tu s4).mut fun xs z => by rw [h1] at z; cases z
            rw [take_snoc hl]
            refine (h2.mono tu).snoc (q := qd) (ys := [.str "run", .ref qd, .non]) ?_ rfl (tu _ _ e4)
            rw [upd_ne (ne_of_none h1 ht').symm]
            exact upd_same
        · rintro H5 ⟨ys, h1, h2, h3⟩
          rw [C4.com.len, List.take_length] at h2
          refine ⟨h3 _ _ upd_same, [(.inr "commits", .ref cl)], rfl, by show 1 ≤ 15; decide, ?_⟩
          have s2 : Same H3 (upd H5 md (.dK [(.inr "commits", .ref cl)])) := same_mut (s1.trans h3) hmd
          have d6 := d3.same s2
          have C6 := C3.same s2
          have hmd6 : upd H5 md (.dK [(.inr "commits", .ref cl)]) md = some (.dK [(.inr "commits", .ref cl)]) := upd_same
          have hcl6 : upd H5 md (.dK [(.inr "commits", .ref cl)]) cl = some (.lst ys) := by
            rw [upd_ne (Ne.symm mdcl)]
            exact h1
          have Y6 : Comm 1 (upd H5 md (.dK [(.inr "commits", .ref cl)])) ys ps := h2.mono ((Tu.refl _).mut fun xs z => by rw [h3 _ _ upd_same] at z; cases z)
          have em : mergeK [] ([(Sum.inr "commits", V.ref cl)] : List (L2.Key × V)) = ([(Sum.inr "commits", V.ref cl)] : List (L2.Key × V)) := rfl
          rw [em]
          generalize upd H5 md (.dK [(.inr "commits", .ref cl)]) = H6 at d6 C6 hmd6 hcl6 Y6 s2 ⊢
          clear h1 h2 h3 C4 d4 s1 mdcl hcl hmd d3 C3 s2
          clear H5 H3
          -- lots
          have hxl : (xs.length : Int) = (ps.length : Int) := by rw [C6.com.len]
          refine ⟨.ref cm, rfl, .ref cm, xs.length, rfl, .inl ⟨_, SqL.of C6.l, rfl⟩, (xs.length : Int), rfl, by omega, by omega, fun lt hlt => ?_⟩
          obtain ⟨n1, n2, n3⟩ := d6.free hlt
          refine lc_range (lo := 0) (n := (xs.length : Int).toNat) (fun i H' => ∃ zs, H' lt = some (.lst zs) ∧ Lots H' [st, g, lt] zs ps i ∧ Same H6 H') ⟨[], upd_same, ⟨rfl, fun j hj => absurd hj (Nat.not_lt_zero _)⟩, same_upd hlt⟩ ?_ ?_
          · rintro j H' hj ⟨zs, h1, h2, h3⟩
            have hjl : j < ps.length := by omega
            refine ⟨rfl, yes ⟨.ref md, rfl, .int (0 + j), rfl, md, cl, j, ys, ps, by rw [Int.zero_add]; rfl, h3 _ _ hmd6, SqL.of (h3 _ _ hcl6), Y6.mono (Same.tu h3), C6.hist, hjl, by omega, fun H5 p fs s5 np hp dfs => ?_⟩⟩
            refine ⟨p, fs.map fun k : Nat => (k : Int), rfl, SqL.of (by rw [List.map_map]; exact hp), fun L p2 perm up hp2 => ⟨zs, (same_upd hp2) _ _ (s5 _ _ h1), ?_, zs ++ [.ref p2], upd_same, ?_, same_mut ((h3.trans s5).trans (same_upd hp2)) hlt⟩⟩
            · rw [h2.len]
              exact small1000 (by omega)
            · have s6 := s5.trans (same_upd (o := HO.lst (L.map V.int)) hp2)
              have d7 := (d6.same h3).same s5
              obtain ⟨m1, m2, m3⟩ := d7.free hp2
              have m4 : p2 ≠ lt := (ne_of_none (s5 _ _ h1) hp2).symm
              have L7 : Lots (upd (upd H5 p2 (.lst (L.map V.int))) lt (.lst (zs ++ [.ref p2]))) [st, g, lt] zs ps j := h2.to fun b o e hb => by
                rw [upd_ne (hb lt (by simp))]
                exact s6 _ _ e
              refine L7.snoc (by rw [upd_ne m4]; exact upd_same) (dfs.anc perm up) fun b hb => ?_
              simp only [List.mem_cons, List.not_mem_nil, or_false] at hb
              rcases hb with rfl | rfl | rfl
              · exact m1
              · exact m2
              · exact m4
          · rintro H7 ⟨zs, hz7, L7, s7⟩
            have d7 := d6.same s7
            have C7 := C6.same s7
            rw [show (xs.length : Int).toNat = ps.length by omega] at L7
            clear Y6 hcl6 hmd6 C6 d6 s7 hlt
            clear H6
            -- for at in range(len(commits))
            refine ⟨.ref cm, rfl, .ref cm, xs.length, rfl, .inl ⟨_, SqL.of C7.l, rfl⟩, (xs.length : Int), rfl, by omega, by omega, ?_⟩
            refine for_range (lo := 0) (n := (xs.length : Int).toNat) (fun j σ H' => ∃ (y6 : Option V), σ = [some (.ref a), some (.ref st), x2, y3, some (.int (0 + i)), some (.ref cm), y6, some (.ref md), x8, some (.ref lt), x10, x11, x12, x13] ∧ Same H7 H') ⟨_, rfl, Same.refl _⟩ ?_ ?_
            · rintro j σ H' hj ⟨y6, rfl, sm⟩
              have hjl : j < ps.length := by omega
              obtain ⟨pj, L, e1, e2, anc, _⟩ := L7.at_ j hjl
              have small := anc_small C7.hist hjl anc
              have hpl : Plain (.tuple (L.map PyData.int)) = true := by rw [Plain]; exact plain_ints L
              have atj : atI zs (0 + (j : Int)) = some (.ref pj) := by rw [Int.zero_add]; exact atI_nat e1
              refine ⟨.ref cm, rfl, .int (0 + j), rfl, cm, j, xs, ps, by rw [Int.zero_add]; rfl, .inl (SqL.of (sm _ _ C7.l)), C7.com.mono (Same.tu sm), C7.hist, hjl, by omega, fun H8 p1 L1 s8 np1 hp1 anc1 => ?_⟩
              cases anc1.one anc
              have sm8 := sm.trans s8
              refine ⟨.ref lt, rfl, .int (0 + j), rfl, ix_sq (.inl (SqL.of (sm8 _ _ hz7))) atj ⟨pj, L.map V.int, rfl, .inl ⟨SqL.of (sm8 _ _ e2), fun p2 hp2 => ?_⟩⟩⟩
              have s9 := same_upd (o := HO.tup (L.map V.int)) hp2
              refine ⟨.ref p1, .ref p2, .tuple (L.map PyData.int), rfl, .tup (s9 _ _ hp1) (tr_ints _ L), .tup upd_same (tr_ints _ L), hpl, ?_, ?_, ?_, by decide, fun H9 s10 => ⟨true, rfl, iteF ?_⟩⟩
              · rw [Ints12]
                exact ints12_ints L fun z hz => by have := small z hz; omega
              · rw [PyData.bulk, bulk_ints]
                have := anc.length C7.hist hjl
                have h20 : (2 : Nat) ^ 20 = 1048576 := by decide
                omega
              · rw [PyData.depth, depth_ints]
                decide
              have sm10 := (sm8.trans s9).trans s10
              -- ancestors(number=at, commits=tuple(commits)) != tuple(lots[at])
              refine ⟨.int (0 + j), rfl, .ref cm, rfl, cm, xs, rfl, .inl ⟨SqL.of (sm10 _ _ C7.l), fun tc htc => ⟨rfl, rfl, tc, j, xs, ps, by rw [Int.zero_add]; rfl, .inr (SqT.of upd_same), C7.com.mono (Same.tu (sm10.trans (same_upd htc))), C7.hist, hjl, by omega, fun H11 p3 L3 s11 np3 hp3 anc3 => ?_⟩⟩⟩
              cases anc3.one anc
              have sm11 := (sm10.trans (same_upd (o := HO.tup xs) htc)).trans s11
              refine ⟨.ref lt, rfl, .int (0 + j), rfl, ix_sq (.inl (SqL.of (sm11 _ _ hz7))) atj ⟨pj, L.map V.int, rfl, .inl ⟨SqL.of (sm11 _ _ e2), fun p4 hp4 => ?_⟩⟩⟩
              have s12 := same_upd (o := HO.tup (L.map V.int)) hp4
              refine ⟨.tuple (L.map PyData.int), .tuple (L.map PyData.int), .tup (SqT.of (s12 _ _ hp3)) (dp_ints K _ L), .tup (SqT.of upd_same) (dp_ints K _ L), shaped_intT L, shaped_intT L, _, rfl, ?_⟩
              rw [eqv_same hpl]
              exact iteF ⟨_, rfl, sm11.trans s12⟩
            · rintro σ H8 ⟨y6', rfl, sm⟩
              have d8 := d7.same sm
              have C8 := C7.same sm
              have hz8 := sm _ _ hz7
              have L8 : Lots H8 [st, g, lt] zs ps ps.length := L7.to fun p o e _ => sm _ _ e
              clear sm d7 C7 hz7 L7
              clear H7
              have zero : ∀ u : Nat, u < ps.length → Reach ps u 0 := fun u hu => C8.hist.zero C8.root u hu
              -- for lap in range(8)
              refine ⟨8, rfl, by decide, by decide, ?_⟩
              refine for_range (lo := 0) (n := 8) (fun k σ H' => ∃ (m : Nat) (y6 y10 y11 y12 y13 : Option V), σ = [some (.ref a), some (.ref st), x2, y3, some (.int (0 + i)), some (.ref cm), y6, some (.ref md), x8, some (.ref lt), y10, y11, y12, y13] ∧ m ≤ n' + 2 * k ∧ Dr H' st g c m ∧ Cms H' st g c cm xs ps ∧ H' lt = some (.lst zs) ∧ Lots H' [st, g, lt] zs ps ps.length)
                ⟨n', _, _, _, _, _, rfl, Nat.le_refl _, d8, C8, hz8, L8⟩ ?_ ?_
              · clear d8 C8 hz8 L8
                rintro k σ H' hk ⟨m, z6, z10, z11, z12, z13, rfl, hm, d9, C9, hz9, L9⟩
                have hxl9 : (xs.length : Int) = (ps.length : Int) := hxl
                have hpos := C9.pos
                -- one, other = ..
                refine ⟨.ref st, rfl, .ref cm, rfl, .ref cm, xs.length, rfl, .inl ⟨_, SqL.of C9.l, rfl⟩, st, g, c, m, (xs.length : Int), rfl, by omega, by omega, d9, lt40 (by omega), fun HA u kA dA u0 u1 => ?_⟩
                have CA := C9.kp d9 kA
                have hzA := kA _ _ hz9 n1 n2
                have LA : Lots HA [st, g, lt] zs ps ps.length := L9.to fun p o e hb => kA _ _ e (hb st (by simp)) (hb g (by simp))
                refine ⟨.ref st, rfl, .ref cm, rfl, .ref cm, xs.length, rfl, .inl ⟨_, SqL.of CA.l, rfl⟩, st, g, c, m + 1, (xs.length : Int), rfl, by omega, by omega, dA, lt40 (by omega), fun HB v kB dB v0 v1 => ?_⟩
                have CB := CA.kp dA kB
                have hzB := kB _ _ hzA n1 n2
                have LB : Lots HB [st, g, lt] zs ps ps.length := LA.to fun p o e hb => kB _ _ e (hb st (by simp)) (hb g (by simp))
                clear C9 hz9 L9 d9 CA hzA LA dA
                obtain ⟨u', rfl⟩ := Int.eq_ofNat_of_zero_le u0
                obtain ⟨v', rfl⟩ := Int.eq_ofNat_of_zero_le v0
                have hu' : u' < ps.length := by omega
                have hv' : v' < ps.length := by omega
                refine ⟨by show 2 ≤ sizeLine; decide, fun tp htp => ⟨tp, [nV u', nV v'], rfl, SqT.of upd_same, rfl, nV u', [nV v'], rfl, nV v', [], rfl, rfl, ?_⟩⟩
                have sC := same_upd (o := HO.tup [nV u', nV v']) htp
                have dC := dB.same sC
                have CC := CB.same sC
                have hzC := sC _ _ hzB
                have LC : Lots (upd HB tp (.tup [nV u', nV v'])) [st, g, lt] zs ps ps.length := LB.to fun p o e _ => sC _ _ e
                generalize upd HB tp (.tup [nV u', nV v']) = HC at dC CC hzC LC ⊢
                clear sC htp LB hzB CB dB
                clear tp
                -- due
                obtain ⟨pu, LU, e1, e2, ancU, _⟩ := LC.at_ u' hu'
                obtain ⟨pv', LV, f1, f2, ancV, _⟩ := LC.at_ v' hv'
                have lenU := ancU.length CC.hist hu'
                refine ⟨.ref lt, rfl, nV u', rfl, ix_sq (.inl (SqL.of hzC)) (atI_nat e1) ⟨pu, rfl, ⟨_, SqL.of e2⟩, fun R hR => ?_⟩⟩
                refine lc_list (K := K) (a := pu) (xs := LU.map V.int) (fun i H' => H' R = some (.lst ((both (LU.take i) LV).map V.int)) ∧ Same HC H') ⟨upd_same, same_upd hR⟩ (fun i H' _ p => SqL.of (p.2 _ _ e2)) ?_ ?_
                · rintro r x H' hr' ⟨h3, h4⟩
                  obtain ⟨z, hz, rfl⟩ := get_int hr'
                  have hil : r < LU.length := (List.getElem?_eq_some_iff.mp hz).1
                  refine ⟨rfl, .int z, rfl, .ref lt, rfl, nV v', rfl, ix_sq (.inl (SqL.of (h4 _ _ hzC))) (atI_nat f1) ⟨pv', LV.map V.int, rfl, .inl (SqL.of (h4 _ _ f2)), rfl, flat_ints LV, _, rfl, ?_⟩⟩
                  rw [if_neg Bool.false_ne_true, in_ints, both_take hz]
                  by_cases hin : z ∈ LV
                  · rw [decide_eq_true hin, if_pos hin]
                    refine iteT ⟨.int z, rfl, _, h3, ?_, ?_, same_mut h4 hR⟩
                    · rw [List.length_map]
                      have : (both (LU.take r) LV).length ≤ (LU.take r).length := List.length_filter_le _ _
                      rw [List.length_take] at this
                      exact small1000 (by omega)
                    · rw [upd_same, List.map_append]
                      rfl
                  · rw [decide_eq_false hin, if_neg hin, List.append_nil]
                    exact iteF ⟨h3, h4⟩
                · rintro HD ⟨h3, h4⟩
                  rw [List.length_map, List.take_length] at h3
                  refine ⟨R, both LU LV, rfl, SqL.of h3, List.length_pos_of_mem (mem_both.mpr ⟨ancV.has (zero v' hv'), ancU.has (zero u' hu')⟩), fun z hz hle => ?_⟩
                  have B : Bas ps u' v' z := (Bas.of ancV ancU (fun y => mem_both) hz hle).turn
                  have hpl : Plain (.int z) = true := by rw [Plain]
                  have z12 : z.natAbs < 10 ^ 12 := by
                    obtain ⟨k', e, r1, _⟩ := B.is
                    have := CC.hist.in hu' r1
                    have : (10 : Nat) ^ 12 = 1000000000000 := by decide
                    omega
                  -- the three tests
                  refine ⟨.ref cm, rfl, nV u', rfl, nV v', rfl, cm, u', v', xs, ps, rfl, .inl (SqL.of (h4 _ _ CC.l)), CC.com.mono (Same.tu h4), CC.hist, hu', hv', by omega, ⟨0, zero u' hu', zero v' hv'⟩, fun HE z1 sE b1 => ?_⟩
                  cases b1.one B
                  have sm := h4.trans sE
                  refine ⟨.int z, rfl, .int z, .int z, .int z, rfl, .int z, .int z, hpl, ?_, ?_, ?_, by decide, fun HF sF => ⟨true, rfl, iteF ?_⟩⟩
                  · rw [Ints12, decide_eq_true z12]
                  · rw [PyData.bulk]
                    decide
                  · rw [PyData.depth]
                    decide
                  have sm2 := sm.trans sF
                  refine ⟨nV u', rfl, nV v', rfl, .ref cm, rfl, rfl, rfl, cm, v', u', xs, ps, rfl, .inl (SqL.of (sm2 _ _ CC.l)), CC.com.mono (Same.tu sm2), CC.hist, hv', hu', by omega, ⟨0, zero v' hv', zero u' hu'⟩, fun HG z2 sG b2 => ?_⟩
                  cases b2.one B.turn
                  refine ⟨.int z, rfl, .int z, .int z, .int _, .int _, shaped_of hpl (by rw [PyData.depth]; decide), shaped_of hpl (by rw [PyData.depth]; decide), _, rfl, ?_⟩
                  rw [eqv_same hpl]
                  have sm3 := sm2.trans sG
                  refine iteF ⟨.ref cm, rfl, nV u', rfl, nV u', rfl, cm, u', u', xs, ps, rfl, .inl (SqL.of (sm3 _ _ CC.l)), CC.com.mono (Same.tu sm3), CC.hist, hu', hu', by omega, ⟨0, zero u' hu', zero u' hu'⟩, fun HI z3 sI b3 => ?_⟩
                  cases b3.one (Bas.self CC.hist u')
                  have hpu : Plain (.int (u' : Int)) = true := by rw [Plain]
                  refine ⟨nV u', rfl, .int (u' : Int), .int (u' : Int), .int _, .int _, shaped_of hpu (by rw [PyData.depth]; decide), shaped_of hpu (by rw [PyData.depth]; decide), _, rfl, ?_⟩
                  rw [eqv_same hpu]
                  have sm4 := sm3.trans sI
                  exact iteF ⟨m + 1 + 1, _, _, _, _, _, rfl, by omega, dC.same sm4, CC.same sm4, sm4 _ _ hzC, LC.to fun p o e _ => sm4 _ _ e⟩
              · rintro σ H' ⟨m, z6, z10, z11, z12, z13, rfl, hm, d9, C9, hz9, L9⟩
                exact ⟨m, _, _, _, _, _, _, _, _, _, _, _, _, by omega, rfl, d9⟩
end

end K75



set_option Elab.async false
set_option linter.all false
set_option maxRecDepth 100000
set_option maxHeartbeats 0
namespace K75
open PySem PySem.Spec PyProof.Rows L2 U Rch
def d_parents_of : He.DefD := ⟨("parents_of", none), "parents_of", "parents_of", defArgs s_parents_of, defBody s_parents_of, defScope s_parents_of, [], []⟩
def d_ancestors : He.DefD := ⟨("ancestors", none), "ancestors", "ancestors", defArgs s_ancestors, defBody s_ancestors, defScope s_ancestors, [], []⟩
def d_base_of : He.DefD := ⟨("base_of", none), "base_of", "base_of", defArgs s_base_of, defBody s_base_of, defScope s_base_of, [], []⟩
def d__law_begun : He.DefD := ⟨("_law_begun", none), "_law_begun", "_law_begun", defArgs s__law_begun, defBody s__law_begun, defScope s__law_begun, [], []⟩
def d__law_mixed : He.DefD := ⟨("_law_mixed", none), "_law_mixed", "_law_mixed", defArgs s__law_mixed, defBody s__law_mixed, defScope s__law_mixed, [], []⟩
def d__law_draw : He.DefD := ⟨("_law_draw", none), "_law_draw", "_law_draw", defArgs s__law_draw, defBody s__law_draw, defScope s__law_draw, [], []⟩
def d__law_plain : He.DefD := ⟨("_law_plain", none), "_law_plain", "_law_plain", defArgs s__law_plain, defBody s__law_plain, defScope s__law_plain, [], []⟩
def d__law_is : He.DefD := ⟨("_law_is", none), "_law_is", "_law_is", defArgs s__law_is, defBody s__law_is, defScope s__law_is, [], []⟩
def d__law_ahead : He.DefD := ⟨("_law_ahead", none), "_law_ahead", "_law_ahead", defArgs s__law_ahead, defBody s__law_ahead, defScope s__law_ahead, [], []⟩
def d_law : He.DefD := ⟨("law", none), "law", "law", defArgs s_law, defBody s_law, defScope s_law, [], []⟩
def fnL : List He.DefD := [d_parents_of, d_ancestors, d_base_of, d__law_begun, d__law_mixed, d__law_draw, d__law_plain, d__law_is, d__law_ahead, d_law]
def faL : List He.Fa := [.glo "parents_of", .glo "ancestors", .glo "base_of", .glo "_law_begun", .glo "_law_mixed", .glo "_law_draw", .glo "_law_plain", .glo "_law_is", .glo "_law_ahead", .glo "law", .free "abs", .free "dict", .free "int", .free "isinstance", .free "len", .free "list", .free "max", .free "min", .free "range", .free "repr", .free "sorted", .free "str", .free "tuple"]
abbrev RR : PySem.W.OpenRow := PySem.W.OpenLaw.row PySem.Challenge.rw_claimroots_k75_whole_bases_of_commits
abbrev hk : PySem.W.Hook := He.hookD 4 faL fnL
def ob (s : PySem.W.SharedT) : He.AlD := He.obsDG 4 faL fnL (HandSHeadRun.getT s)
theorem ob_eq (s : PySem.W.SharedT) : ob s = hk.obs s.abs := He.obsDG_eq (HandSHeadRun.getT_eq s)
theorem run (w : World) : HandSHeadRun.RunEq RR (PySem.W.view RR.prog [11]) hk ob 2000 ((["_law_ahead", "_law_begun", "_law_draw", "_law_is", "_law_mixed", "_law_plain", "ancestors", "base_of", "parents_of"] : List PySem.Str)) w := by
  intro os
  kernel_rfl
theorem facts {P : Program} {w : World} {K : PySem.W.Frag} {h : Heap} {mg : PySem.Str → Option Value} {f : Addr} (X : K.In h) (G : h.Ns mainGlobals mg) (hfa : mg ("law" : PySem.Str) = some (.ref f)) (c : He.SaysD faL fnL K) :
    ∃ fd : FuncData, (∀ (s : Shared) (v : Value), BindsTo s fd ⟨[v], []⟩ [("script", v)]) ∧ ∀ base : Heap, K.In base → base.Ns mainGlobals mg → FnG P w K mg base CX0 4 f fd ["script"] (spLaw K) := by
  obtain ⟨fd_parents_of, F_parents_of⟩ := c.def_ 0 (d := d_parents_of) rfl
  have gl_parents_of := He.glo_ok X G (c.fact 0 (f := .glo "parents_of") rfl)
  obtain ⟨fd_ancestors, F_ancestors⟩ := c.def_ 1 (d := d_ancestors) rfl
  have gl_ancestors := He.glo_ok X G (c.fact 1 (f := .glo "ancestors") rfl)
  obtain ⟨fd_base_of, F_base_of⟩ := c.def_ 2 (d := d_base_of) rfl
  have gl_base_of := He.glo_ok X G (c.fact 2 (f := .glo "base_of") rfl)
  obtain ⟨fd__law_begun, F__law_begun⟩ := c.def_ 3 (d := d__law_begun) rfl
  have gl__law_begun := He.glo_ok X G (c.fact 3 (f := .glo "_law_begun") rfl)
  obtain ⟨fd__law_mixed, F__law_mixed⟩ := c.def_ 4 (d := d__law_mixed) rfl
  have gl__law_mixed := He.glo_ok X G (c.fact 4 (f := .glo "_law_mixed") rfl)
  obtain ⟨fd__law_draw, F__law_draw⟩ := c.def_ 5 (d := d__law_draw) rfl
  have gl__law_draw := He.glo_ok X G (c.fact 5 (f := .glo "_law_draw") rfl)
  obtain ⟨fd__law_plain, F__law_plain⟩ := c.def_ 6 (d := d__law_plain) rfl
  have gl__law_plain := He.glo_ok X G (c.fact 6 (f := .glo "_law_plain") rfl)
  obtain ⟨fd__law_is, F__law_is⟩ := c.def_ 7 (d := d__law_is) rfl
  have gl__law_is := He.glo_ok X G (c.fact 7 (f := .glo "_law_is") rfl)
  obtain ⟨fd__law_ahead, F__law_ahead⟩ := c.def_ 8 (d := d__law_ahead) rfl
  have gl__law_ahead := He.glo_ok X G (c.fact 8 (f := .glo "_law_ahead") rfl)
  obtain ⟨fd_law, F_law⟩ := c.def_ 9 (d := d_law) rfl
  have gl_law := He.glo_ok X G (c.fact 9 (f := .glo "law") rfl)
  have T : Bi mg := ⟨He.free_ok X G (c.fact 10 (f := .free "abs") rfl), He.free_ok X G (c.fact 11 (f := .free "dict") rfl), He.free_ok X G (c.fact 12 (f := .free "int") rfl), He.free_ok X G (c.fact 13 (f := .free "isinstance") rfl), He.free_ok X G (c.fact 14 (f := .free "len") rfl), He.free_ok X G (c.fact 15 (f := .free "list") rfl), He.free_ok X G (c.fact 16 (f := .free "max") rfl), He.free_ok X G (c.fact 17 (f := .free "min") rfl), He.free_ok X G (c.fact 18 (f := .free "range") rfl), He.free_ok X G (c.fact 19 (f := .free "repr") rfl), He.free_ok X G (c.fact 20 (f := .free "sorted") rfl), He.free_ok X G (c.fact 21 (f := .free "str") rfl), He.free_ok X G (c.fact 22 (f := .free "tuple") rfl)⟩
  have e := hfa.symm.trans gl_law
  cases e
  have b := FunD.bindsA (ps := ["script"]) F_law fun _ _ _ _ _ _ us hl => match us, hl with | [_], _ => rfl
  refine ⟨fd_law, fun s v => b s [v] rfl, fun base _ _ => ?_⟩
  have C__law_begun := cal_of F__law_begun gl__law_begun (ok_begun (P := P) (w := w) (base := base) F__law_begun T) (fun _ _ _ _ _ _ us hl => match us, hl with | [_], _ => rfl)
  have C__law_mixed := cal_of F__law_mixed gl__law_mixed (ok_mixed (P := P) (w := w) (base := base) F__law_mixed T) (fun _ _ _ _ _ _ us hl => match us, hl with | [_], _ => rfl)
  have C__law_draw := cal_of F__law_draw gl__law_draw (ok_draw F__law_draw T C__law_mixed) (fun _ _ _ _ _ _ us hl => match us, hl with | [_, _], _ => rfl)
  have C__law_plain := cal_of F__law_plain gl__law_plain (ok_plain (P := P) (w := w) (base := base) F__law_plain gl__law_plain T 2) (fun _ _ _ _ _ _ us hl => match us, hl with | [_], _ => rfl)
  have C__law_is := calG_of F__law_is gl__law_is (ok_is F__law_is T C__law_plain) (fun _ _ _ _ _ _ us hl => match us, hl with | [_, _], _ => rfl)
  have C_parents_of := cal_of F_parents_of gl_parents_of (ok_parents (P := P) (w := w) (mg := mg) (base := base) F_parents_of) (fun _ _ _ _ _ _ us hl => match us, hl with | [_], _ => rfl)
  have G_ancestors := ok_ancestors F_ancestors T C_parents_of
  have C_ancestors := cal_of F_ancestors gl_ancestors G_ancestors (fun _ _ _ _ _ _ us hl => match us, hl with | [_, _], _ => rfl)
  have G_base_of := ok_base F_base_of T C_ancestors
  have C_base_of := cal_of F_base_of gl_base_of G_base_of (fun _ _ _ _ _ _ us hl => match us, hl with | [_, _, _], _ => rfl)
  have C__law_ahead := cal_of F__law_ahead gl__law_ahead (ok_ahead (P := P) (w := w) (base := base) F__law_ahead T) (fun _ _ _ _ _ _ us hl => match us, hl with | [_, _], _ => rfl)
  have CKa := calK_of (ks := ["number", "commits"]) F_ancestors gl_ancestors G_ancestors (fun {α} l => l.reverse) (fun r => vals_rev r) fun _ _ _ _ _ _ ws hl => match ws, hl with | [_, _], _ => rfl
  have CKb := calK_of (ks := ["other", "one", "commits"]) F_base_of gl_base_of G_base_of (fun {α} l => l.reverse) (fun r => vals_rev r) fun _ _ _ _ _ _ ws hl => match ws, hl with | [_, _, _], _ => rfl
  exact ok_law F_law T C__law_begun C__law_draw C_ancestors CKa C_base_of CKb C__law_ahead C__law_is
end K75
open PySem PySem.W PySem.Calls PyProof.Rows
theorem PySem.Challenge.cw_claimroots_k75_whole_bases_of_commits_holds : PySem.Challenge.rw_claimroots_k75_whole_bases_of_commits.Holds := by
  w_on; o_law
  refine HandSHeadRun.head_any (r := OpenLaw.row PySem.Challenge.rw_claimroots_k75_whole_bases_of_commits) (q := view (OpenLaw.row PySem.Challenge.rw_claimroots_k75_whole_bases_of_commits).prog [11]) (H := K75.hk) (ob := K75.ob) (M := 2000) (loose := ((["_law_ahead", "_law_begun", "_law_draw", "_law_is", "_law_mixed", "_law_plain", "ancestors", "base_of", "parents_of"] : List PySem.Str))) (d := HandSHeadRun.topDef (OpenLaw.row PySem.Challenge.rw_claimroots_k75_whole_bases_of_commits).prog 11) (kwd := []) K75.ob_eq
    (by kernel_rfl) (fun s => by kernel_rfl) K75.run (by kernel_rfl) (by kernel_rfl) (by kernel_rfl) (by rfl) (by first | assumption | decide +kernel) (by decide +kernel) ⟨rfl, rfl, rfl, rfl, rfl, by decide +kernel⟩ ?hw ?hc
  case hw => w_witness2
  case hc =>
    refine U.walk_ofG (l := PySem.Challenge.rw_claimroots_k75_whole_bases_of_commits) (n := 63) (k := 4) (x := "script") (CX := L2.CX0) rfl (by decide) (by kernel_rfl) ⟨rfl, by decide, by decide⟩ ?F (fun _ _ _ _ z => z)
    intro w mg fa h Y G hmg0
    obtain ⟨K, KX, c⟩ := Y
    have hmg : mg ("law" : PySem.Str) = some (.ref fa) := by
      have e : (HandSHeadRun.topDef (OpenLaw.row PySem.Challenge.rw_claimroots_k75_whole_bases_of_commits).prog 11).name = ("law" : PySem.Str) := by kernel_rfl
      rw [← e]
      exact hmg0
    obtain ⟨fd, hb, hF⟩ := K75.facts (P := (PySem.Challenge.rw_claimroots_k75_whole_bases_of_commits).prog) (w := w) KX G hmg c
    exact ⟨K, fd, K75.spLaw K, KX, hb, fun H a ns hl _ hS => ⟨a, ns, rfl, hS, hl, fun _ => rfl⟩, hF⟩

