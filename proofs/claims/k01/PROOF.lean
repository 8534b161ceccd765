import PyProof.Rows.All
import Wide.All
import OpenK.AllK
import Wide.FinOn
import HandS.ForMost
import HandS.WordsExc
import HandS.IsInst
import HandS.Evl
import HandS.Walk
import PySem.Challenge.RW_fivetrees_k01_names
set_option Elab.async false
set_option maxRecDepth 100000
set_option maxHeartbeats 4000000
set_option linter.all false
/-! Own layer G: promises of defs that are only called where no built-in's guard lies on the stack (so that repr may be asked). -/
namespace Ft
open PySem PySem.Spec PyProof.Rows L2

/-- as a def's promise, for stacks without guards -/
structure FnG (P : Program) (w : World) (K : PySem.W.Frag) (mg : Str → Option Value) (base : Heap) (CX : CXT) (k : Nat) (f : Addr)
    (fd : FuncData) (ps : List Str) (sp : Sp) : Prop where
  gLen : ∀ vs H Q E, sp vs H Q E → vs.length = ps.length
  gRun : ∀ (A : Around), A.guards = some [] → Room k A → ∀ (outer : List Env) (s : Shared) (H : Hp), Env0 P w K mg base A outer s H →
    ∀ (args : Args) (us : List Value) (vs : List V) (Q : VK) (E : XK), BindsTo s fd args (ps.zip us) → Vals vs us → sp vs H Q E →
      codeAny (model P w) A (.call (.ref f) args) (CR CX outer P w H s Q E) s

section
variable {P : Program} {w : World} {K : PySem.W.Frag} {mg : Str → Option Value} {base : Heap} {CX : CXT} {j k : Nat} {f : Addr} {fd : FuncData} {ps : List Str} {sp sp' : Sp}
theorem ofOk (F : FnOk P w K mg base CX k f fd ps sp) : FnG P w K mg base CX k f fd ps sp :=
  ⟨F.len, fun A _ hr outer s H e0 args us vs Q E hb r h => F.run A outer s H args us vs Q E hr e0 hb r h⟩
theorem FnG.mono (F : FnG P w K mg base CX j f fd ps sp) (h : j ≤ k) : FnG P w K mg base CX k f fd ps sp :=
  ⟨F.gLen, fun A hg hr => F.gRun A hg (hr.mono h)⟩
theorem FnG.imp (F : FnG P w K mg base CX k f fd ps sp) (h : ∀ vs H Q E, sp' vs H Q E → sp vs H Q E) : FnG P w K mg base CX k f fd ps sp' :=
  ⟨fun vs H Q E q => F.gLen vs H Q E (h vs H Q E q), fun A hg hr outer s H e0 args us vs Q E hb r q => F.gRun A hg hr outer s H e0 args us vs Q E hb r (h _ _ _ _ q)⟩

/-- the rule for a def of the text, by its body -/
theorem fnG {name qual : Str} {params : Arguments} {body : List Stmt} {scope : Scope} {dV kV doc pm cdv ct oc : Value} {an od : Option Addr} {osl : Array (Option Value)} {N : List Str}
    (lk : K.lookup f = some ⟨oc, od, .func (PySem.W.fnOf name qual params body scope dV kV doc pm an cdv ct), osl⟩) (hcd : PySem.W.codeIn K cdv qual = true)
    (S : FnScope N ps scope) (len : ∀ vs H Q E, sp vs H Q E → vs.length = ps.length)
    (hb : ∀ (A : Around) (outer : List Env) (s : Shared) (H : Hp) (vs : List V) (Q : VK) (E : XK), A.guards = some [] →
      Room k (A.deeper (envOfC qual scope s.heap.objs.size f cdv)) → sp vs H Q E →
      ∃ t, PSs (cxOf CX P w K mg base N qual scope f cdv A outer s H E) body t ∧ t ⟨fun _ H' => Q .non H', Q, fun _ _ => False, fun _ _ => False⟩ (start N vs) H) :
    FnG P w K mg base CX (k + 1) f (PySem.W.fnOf name qual params body scope dV kV doc pm an cdv ct) ps sp := by
  constructor
  · exact len
  intro A hg hr outer s H e0 args us vs Q E bt vv hsp
  have inK : K.In s.heap := e0.mod.kin.keeps fun b o q => (e0.bs b o q).1
  have nolim : s.heap.NoLimit := e0.mod.nolimit.keeps fun b o q => (e0.bs b o q).1
  apply codeAny_call_function hr.depth (inK f _ lk) rfl S.co S.gen rfl (PySem.W.codeRec_of inK hcd)
  apply bt
  apply wpAny_newFunctionEnv_cells S.kind
  · rintro ⟨n, v⟩ hm
    cases S.par n (List.of_mem_zip hm).1 with
    | inl q => exact Or.inl q
    | inr q => exact Or.inr ⟨q, PySem.W.cellsFrom_some _ _ _ (Or.inl q)⟩
  · intro env henv s1 ic
    cases henv
    refine And.intro (nolim.keeps ic.toInCall.keep) (codeAny_func ?_)
    obtain ⟨t, d, rd⟩ := hb A outer s H vs Q E hg (hr.deeper _) hsp
    have J := inv_start (CX := CX) (E := E) S hr.hd e0 (len vs H Q E hsp) vv ic
    apply wpAny_mono (d.run [] s1 (start N vs) H _ J rd)
    · intro fl s2 hfl
      match fl, hfl with
      | .ret u, ⟨v, σ', H', J', rv, q⟩ => exact ⟨v, H', J'.os, J'.bare, J'.base, J'.hok, rv, q⟩
      | .next, ⟨σ', H', J', q⟩ => exact ⟨V.non, H', J'.os, J'.bare, J'.base, J'.hok, rfl, q⟩
      | .brk, ⟨_, _, _, q⟩ => exact q.elim
      | .cont, ⟨_, _, _, q⟩ => exact q.elim
    · intro e s2 q
      exact q
end

section
variable {P : Program} {w : World} {K : PySem.W.Frag} {mg : Str → Option Value} {base : Heap}
/-- no exception leaves -/
theorem okG {x qual : Str} {st : Stmt} {f : Addr} {fd : FuncData} {N ps : List Str} {k : Nat} {sp : Sp} (F : Fun K x qual st f fd) (S : FnScope N ps (defScope st))
    (len : ∀ vs H Q E, sp vs H Q E → vs.length = ps.length)
    (hb : ∀ (cdv : Value) (A : Around) (outer : List Env) (s : Shared) (H : Hp) (vs : List V) (Q : VK) (E : XK), A.guards = some [] →
      Room k (A.deeper (envOfC qual (defScope st) s.heap.objs.size f cdv)) → sp vs H Q E →
      ∃ t, PSs (cxOf CX0 P w K mg base N qual (defScope st) f cdv A outer s H E).nox (defBody st) t ∧ t ⟨fun _ H' => Q .non H', Q, fun _ _ => False, fun _ _ => False⟩ (start N vs) H) :
    FnG P w K mg base CX0 (k + 1) f fd ps sp := by
  obtain ⟨_, _, _, _, _, _, cdv, _, _, e, lk, hcd⟩ := F.ex
  subst e
  refine fnG lk hcd S len fun A outer s H vs Q E hg hr h => ?_
  obtain ⟨t, d, q⟩ := hb cdv A outer s H vs Q E hg hr h
  exact ⟨t, d.nox, q⟩
/-- exceptions may leave -/
theorem okGX {x qual : Str} {st : Stmt} {f : Addr} {fd : FuncData} {N ps : List Str} {k : Nat} {sp : Sp} (F : Fun K x qual st f fd) (S : FnScope N ps (defScope st))
    (len : ∀ vs H Q E, sp vs H Q E → vs.length = ps.length)
    (hb : ∀ (cdv : Value) (A : Around) (outer : List Env) (s : Shared) (H : Hp) (vs : List V) (Q : VK) (E : XK), A.guards = some [] →
      Room k (A.deeper (envOfC qual (defScope st) s.heap.objs.size f cdv)) → sp vs H Q E →
      ∃ t, PSs (cxOf (L2.CX P w) P w K mg base N qual (defScope st) f cdv A outer s H E) (defBody st) t ∧ t ⟨fun _ H' => Q .non H', Q, fun _ _ => False, fun _ _ => False⟩ (start N vs) H) :
    FnG P w K mg base (L2.CX P w) (k + 1) f fd ps sp := by
  obtain ⟨_, _, _, _, _, _, cdv, _, _, e, lk, hcd⟩ := F.ex
  subst e
  exact fnG lk hcd S len (hb cdv)
end

section
variable {X : Cx} {CX : CXT} {k : Nat} {f C : Addr} {fd : FuncData} {ps ks : List Str} {sp : Sp} {E : XK} {x m : Str} {p pos apos : Pos} {e o : Expr} {es : List Expr} {kws : List Keyword} {ta : TE} {t tk : TA}
theorem runG {pins : List (Addr × Obj)} {σ : L2.St} {H : Hp} {s : Shared} {Q : VK} {args : Args} {us : List Value} {vs : List V} (F : FnG X.prog X.w X.K X.mg X.base CX k f fd ps sp) (hg : X.A.guards = some []) (hr : Room k X.A)
    (hx : Passes CX X E) (I : Inv X pins σ H s) (bt : BindsTo s fd args (ps.zip us)) (r : Vals vs us) (h : sp vs H Q E) :
    codeAny (model X.prog X.w) X.A (.call (.ref f) args) (fun r s' => match r with
      | .ok (.ret u) => EP X pins σ Q u s'
      | .ok _ => False
      | .error e => X.xe e s') s := by
  apply codeAny_mono (F.gRun X.A hg hr X.stack s H I.env0 args us vs Q E bt r h)
  intro res s2 q
  match res, q with
  | .ok (.ret u), q => exact I.after q
  | .ok .next, q => exact q
  | .ok .brk, q => exact q
  | .ok .cont, q => exact q
  | .error e, q => exact hx pins σ H s e s2 I q
theorem callG {pins : List (Addr × Obj)} {σ : L2.St} {H : Hp} {s : Shared} {Q : VK} {us : List Value} {vs : List V} (F : FnG X.prog X.w X.K X.mg X.base CX k f fd ps sp) (hg : X.A.guards = some []) (hr : Room k X.A)
    (hb : Binds X.K fd ps []) (hx : Passes CX X E) (I : Inv X pins σ H s) (r : Vals vs us) (h : sp vs H Q E) : wpAny (model X.prog X.w) X.A (call (.ref f) us) (EP X pins σ Q) X.xe s := by
  have hl : us.length = ps.length := r.length.symm.trans (F.gLen vs H Q E h)
  have bt := hb s us I.kIn (by rw [List.append_nil]; exact hl)
  rw [List.append_nil] at bt
  apply wpAny_call
  apply codeAny_mono (runG (E := E) F hg hr hx I bt r h)
  intro res s2 q
  match res, q with
  | .ok (.ret u), q => exact q
  | .ok .next, q => exact False.elim q
  | .ok .brk, q => exact False.elim q
  | .ok .cont, q => exact False.elim q
  | .error e, q => exact q
end

/-- a def of the module: its promise, its place, how it binds -/
structure Has (P : Program) (w : World) (K : PySem.W.Frag) (mg : Str → Option Value) (base : Heap) (CX : CXT) (k : Nat) (x : Str) (ps : List Str) (sp : Sp) : Prop where
  ex : ∃ (f : Addr) (fd : FuncData), FnG P w K mg base CX k f fd ps sp ∧ mg x = some (.ref f) ∧ PySem.W.keepIn K (.ref f) = true ∧ Binds K fd ps []
section
variable {X : Cx} {CX : CXT} {k : Nat} {ps : List Str} {sp : Sp} {E : XK} {x : Str} {p pos : Pos} {e : Expr} {es : List Expr} {t : TA}
theorem pe_f (F : Has X.prog X.w X.K X.mg X.base CX k x ps sp) (hg : X.A.guards = some []) (hr : Room k X.A) (hx : Passes CX X E) (gl : Gl X x) (ha : PA X (e :: es) t)
    (hdb : (x == ("__debug__" : Str)) = false := by decide) (he : starEach (e :: es) X.env = (false, eval e X.env) :: starEach es X.env := by rfl) (hpl : (backTo pos (starEach es X.env)).any (·.1) = false := by rfl) :
    PE X (.Call (.Name x p) (e :: es) [] pos) (tCall sp [] E t) := by
  obtain ⟨f, fd, G, hm, hk, hb⟩ := F.ex
  constructor
  intro pins s σ H Q I h
  apply wpAny_Call_Name_kw
  apply ld_glob I gl hm _ hdb
  apply PySem.W.callWith_K (h₀ := X.base) I.ok.mod.kin hk _ he hpl
  apply thn (ha.run pos pins s σ H _ I h)
  rintro us s1 ⟨vs, H1, I1, r, q⟩
  rw [List.append_nil] at q
  exact ⟨I1.kIn, callG G hg hr hb hx I1 r q⟩
theorem pe_f0 (F : Has X.prog X.w X.K X.mg X.base CX k x ps sp) (hg : X.A.guards = some []) (hr : Room k X.A) (hx : Passes CX X E) (gl : Gl X x)
    (hdb : (x == ("__debug__" : Str)) = false := by decide) : PE X (.Call (.Name x p) [] [] pos) (tCall sp [] E tNil) := by
  obtain ⟨f, fd, G, hm, hk, hb⟩ := F.ex
  constructor
  intro pins s σ H Q I h
  apply wpAny_Call_Name_kw
  apply ld_glob I gl hm _ hdb
  exact PySem.W.callWith_K0 I.kIn hk (callG (us := []) G hg hr hb hx I .nil h)
end
/-- repr of data -/
theorem call_reprD {X : Cx} (hg : X.A.guards = some []) (hu : X.A.units + 64 < cLine) : CallR X (.builtin "repr") (fun xs H Q => ∃ a d, xs = [.ref a] ∧ Dp X.K H (.ref a) d ∧ d.showable = true ∧ d.hasDict = false ∧ d.depth ≤ 60 ∧ d.shown.length ≤ sizeLine ∧ Q (.str d.shown) H) := by
  rintro pins s σ H xs us Q I r ⟨a, d, rfl, hd, hs, hn, hdp, hz, q⟩
  obtain ⟨u, rfl, ru⟩ := vals1 r
  cases ru
  obtain ⟨as, rd⟩ := Dp.reads I d (.ref a) (.ref a) hd rfl
  refine repr_of_reads' rd hs (PyData.noDict_hsm hn) hg (by omega) (fun _ _ z => z) (fun h' u tk keep => ?_) hz
  exact ⟨.str d.shown, H, I.kept keep, ⟨u, rfl⟩, q⟩
end Ft

/-! The end of a law row over the layer G. -/
namespace Ft
open PySem PySem.Spec PyProof.Rows L2

theorem lawEnd {P : Program} {w : World} {K : PySem.W.Frag} {mg mb : Str → Option Value} {k : Nat} {fa a : Addr} {fd : FuncData} {x : Str} {sp : Sp} {s : Shared} {vs : List Value} {ns : List Int}
    (inK : K.In s.heap) (hG : s.heap.Ns mainGlobals mg) (hB : s.heap.Ns builtinsNs mb) (hBB : ∀ y : Str, y ≠ "__name__" → mb y = bootBuiltins y) (nolim : s.heap.NoLimit) (nogen : s.gens = #[])
    (ha : s.heap.get? a = some { cls := .type "list", data := .seq vs.toArray }) (hints : IntsAre vs ns) (hlen : ns.length ≤ sizeLine) (room : Room k callerA)
    (F : ∀ base : Heap, K.In base → base.Ns mainGlobals mg → FnG P w K mg base CX0 k fa fd [x] sp)
    (bt : ∀ (s : Shared) (u : Value), BindsTo s fd ⟨[u], []⟩ [(x, u)])
    (hsp : ∀ H : Hp, SqL K H a (ns.map V.int) → sp [.ref a] H (fun v _ => v = .bl true) E0) :
    codeAny (model P w) callerA (.call (.ref fa) ⟨[.ref a], []⟩) (fun r s' => r = .ok (.ret (.bool true)) ∧ OldK s.heap s'.heap ∧ s'.os = s.os ∧ AllBare s'.gens) s := by
  have rel := vals_ints hints
  -- the script is tracked unless it is one of the written objects
  let ob : Obj := { cls := .type "list", data := .seq vs.toArray }
  let H : Hp := fun b => if b = a ∧ K.lookup a = none then some (.frz ob (.lst (ns.map V.int))) else none
  have Hsome : ∀ {b : Addr} {u : HO}, H b = some u → b = a ∧ K.lookup a = none ∧ u = .frz ob (.lst (ns.map V.int)) := by
    intro b u q
    by_cases c : b = a ∧ K.lookup a = none
    · have q' : some (HO.frz ob (.lst (ns.map V.int))) = some u := (if_pos c).symm.trans q
      exact ⟨c.1, c.2, (Option.some.inj q').symm⟩
    · have q' : (none : Option HO) = some u := (if_neg c).symm.trans q
      cases q'
  have Hnone : ∀ {b : Addr} {o : Obj} {es : Array DictEntry} {ep : Nat}, s.heap.get? b = some o → o.data = .dict es ep → H b = none := by
    intro b o es ep e1 e2
    cases c : H b with
    | none => rfl
    | some u =>
      obtain ⟨rfl, -, -⟩ := Hsome c
      rw [ha] at e1
      cases e1
      exact absurd e2 (by intro z; cases z)
  let base := hidT s.heap H
  have onto : ∀ {b : Addr} {m : Str → Option Value}, s.heap.Ns b m → base.Ns b m := by
    rintro b m ⟨o, es, ep, e1, e2, r⟩
    exact ⟨o, es, ep, hidT_get e1 (Hnone e1 e2), e2, r⟩
  have inB : K.In base := by
    intro b o e
    apply hidT_get (inK b o e)
    cases c : H b with
    | none => rfl
    | some u =>
      obtain ⟨rfl, z, -⟩ := Hsome c
      exact absurd (z.symm.trans e) (by intro y; cases y)
  have sq : SqL K H a (ns.map V.int) := by
    cases c : K.lookup a with
    | none => exact .inl (.inr ⟨ob, if_pos ⟨rfl, c⟩⟩)
    | some o =>
      have e := inK a o c
      rw [ha] at e
      cases e
      refine .inr ⟨_, vs.toArray, _, c, rfl, rfl, rfl, ?_, ?_⟩
      · rw [List.size_toArray, ← rel.length, List.length_map]
        exact hlen
      · rw [List.toList_toArray]
        exact rel
  have hok : HOk P w H s.heap := by
    intro b u q
    obtain ⟨rfl, -, rfl⟩ := Hsome q
    exact ⟨ha, by rw [List.length_map]; exact hlen, vs, _, rel, ha⟩
  have nomem : ∀ b : Addr, b ∉ frs ([] : List Env) := fun b z => by
    cases z
  have e0 : Env0 P w K mg base callerA [] s H :=
    { frames := rfl, mod := ⟨inB, onto hG, ⟨mb, onto hB, hBB⟩, ?lim⟩, bs := fun b o e => of_hidT e, bsz := Nat.le_of_eq (hidT_size s.heap H), funs := trivial, frf := fun b z => absurd z (nomem b), hok := hok, bare := .of_eq nogen }
  case lim =>
    obtain ⟨mc, h1, h2⟩ := nolim
    exact ⟨mc, onto h1, h2⟩
  apply codeAny_mono ((F base inB (onto hG)).gRun callerA rfl room [] s H e0 ⟨[.ref a], []⟩ [.ref a] [.ref a] _ _ (bt s (.ref a)) (.cons rfl .nil) (hsp H sq))
  intro r s2 q
  match r, q with
  | .error e, q => exact False.elim q
  | .ok .next, q => exact False.elim q
  | .ok .brk, q => exact False.elim q
  | .ok .cont, q => exact False.elim q
  | .ok (.ret u), ⟨v, H2, hos, hbare, un, hok2, rv, hv⟩ =>
    cases (show v = .bl true from hv)
    cases (show u = Value.bool true from rv)
    refine ⟨rfl, OldK.of_keep fun b o e => ?_, hos, hbare⟩
    cases c : H b with
    | none => exact un.keep b o e c (nomem b) (by intro z; cases z)
    | some y =>
      obtain ⟨rfl, -, rfl⟩ := Hsome c
      rw [ha] at e
      cases e
      exact (hok2 _ _ (un.frzs _ _ _ c)).1

theorem walkG {l : PySem.W.OpenLaw} {n k : Nat} {q : Program} {loose : List Str} {XP : (Str → Option Value) → Heap → Prop} {YP : World → Heap → Prop} {d : DefRec} {K : Params → PySem.W.Frag} {sp : PySem.W.Frag → Sp} {x : Str}
    (hn : l.most = some n) (hn2 : n ≤ sizeLine) (hdf : d.params.defaults = []) (room : Room k callerA) (hY : ∀ (w : World) (h : Heap), YP w h → (K w.params).In h)
    (F : ∀ (w : World) (mg : Str → Option Value) (fa : Addr) (h : Heap), (K w.params).In h → h.Ns mainGlobals mg → mg d.name = some (.ref fa) →
      ∃ fd : FuncData, (∀ (s : Shared) (u : Value), BindsTo s fd ⟨[u], []⟩ [(x, u)]) ∧
        ∀ base : Heap, (K w.params).In base → base.Ns mainGlobals mg → FnG l.prog w (K w.params) mg base CX0 k fa fd [x] (sp (K w.params)))
    (hsp : ∀ (K : PySem.W.Frag) (H : Hp) (a : Addr) (ns : List Int), ns.length ≤ n → SqL K H a (ns.map V.int) → sp K [.ref a] H (fun v _ => v = .bl true) E0) :
    PySem.W.WalkO q loose XP YP l.row.toRowW d [] (fun f vs => PySem.call f vs) := by
  apply Att.attach_call hn hdf
  intro w s0 s1 mg mb fa o pm cd doc a vs ns G Y _ _ _ hmg hobj hints hlen hg
  obtain ⟨fd, b, F'⟩ := F w mg fa _ (hY w _ Y) G.T.g hmg
  exact lawEnd (hY w _ Y) G.T.g G.T.b G.T.builtins G.T.nolimit hg hobj hints (Nat.le_trans hlen hn2) room F' b fun H hS => hsp _ H a ns hlen hS
end Ft

namespace Ft
open PySem PySem.Spec PyProof.Rows L2
/-! ### built-in names -/
theorem bt_len : bootBuiltins "len" = some (.builtin "len") := by decide +kernel
theorem bt_abs : bootBuiltins "abs" = some (.builtin "abs") := by decide +kernel
theorem bt_max : bootBuiltins "max" = some (.builtin "max") := by decide +kernel
theorem bt_min : bootBuiltins "min" = some (.builtin "min") := by decide +kernel
theorem bt_all : bootBuiltins "all" = some (.builtin "all") := by decide +kernel
theorem bt_any : bootBuiltins "any" = some (.builtin "any") := by decide +kernel
theorem bt_sum : bootBuiltins "sum" = some (.builtin "sum") := by decide +kernel
theorem bt_repr : bootBuiltins "repr" = some (.builtin "repr") := by decide +kernel
theorem bt_isinstance : bootBuiltins "isinstance" = some (.builtin "isinstance") := by decide +kernel
theorem bt_divmod : bootBuiltins "divmod" = some (.builtin "divmod") := by decide +kernel
theorem bt_sorted : bootBuiltins "sorted" = some (.builtin "sorted") := by decide +kernel
theorem bt_int : bootBuiltins "int" = some (.type "int") := by decide +kernel
theorem bt_str : bootBuiltins "str" = some (.type "str") := by decide +kernel
theorem bt_bool : bootBuiltins "bool" = some (.type "bool") := by decide +kernel
theorem bt_list : bootBuiltins "list" = some (.type "list") := by decide +kernel
theorem bt_tuple : bootBuiltins "tuple" = some (.type "tuple") := by decide +kernel
theorem bt_set : bootBuiltins "set" = some (.type "set") := by decide +kernel

/-- a module's constant -/
def Cst (mg : Str → Option Value) (x : Str) (v : V) : Prop := ∃ u, mg x = some u ∧ RelV v u
theorem pe_const {X : Cx} {x : Str} {v : V} {pos : Pos} (h : Cst X.mg x v) (hg : Gl X x) (hd : (x == ("__debug__" : Str)) = false := by decide) : PE X (.Name x pos) (tC v) := by
  obtain ⟨u, hm, r⟩ := h
  exact pe_glob hg hm r hd

/-! ### calls by keywords -/
structure KwB (K : PySem.W.Frag) (fd : FuncData) (ps : List Str) (n : Nat) (ks : List Str) (g : {α : Type} → List α → List α → List α) : Prop where
  to : ∀ (s : Shared) (us ws : List Value), K.In s.heap → us.length = n → ws.length = ks.length → BindsTo s fd ⟨us, ks.zip ws⟩ (ps.zip (g us ws))
  rel : ∀ {vs zs : List V} {us ws : List Value}, Vals vs us → Vals zs ws → Vals (g vs zs) (g us ws)
structure HasK (P : Program) (w : World) (K : PySem.W.Frag) (mg : Str → Option Value) (base : Heap) (CX : CXT) (k : Nat) (x : Str) (ps : List Str) (n : Nat) (ks : List Str) (g : {α : Type} → List α → List α → List α) (sp : Sp) : Prop where
  ex : ∃ (f : Addr) (fd : FuncData), FnG P w K mg base CX k f fd ps sp ∧ mg x = some (.ref f) ∧ PySem.W.keepIn K (.ref f) = true ∧ KwB K fd ps n ks g
def tFk (sp : Sp) (n m : Nat) (g : List V → List V → List V) (E : XK) (t tk : TA) : TE := fun σ H Q => t σ H fun vs H1 => tk σ H1 fun zs H2 => vs.length = n ∧ zs.length = m ∧ sp (g vs zs) H2 Q E
section
variable {X : Cx} {CX : CXT} {k n : Nat} {ps ks : List Str} {sp : Sp} {E : XK} {x : Str} {p pos : Pos} {e : Expr} {es : List Expr} {kws : List Keyword} {t tk : TA} {g : {α : Type} → List α → List α → List α}
theorem runK {pins : List (Addr × Obj)} {σ : L2.St} {H : Hp} {s : Shared} {Q : VK} {f : Addr} {fd : FuncData} {us ws : List Value} {vs zs : List V} (F : FnG X.prog X.w X.K X.mg X.base CX k f fd ps sp) (B : KwB X.K fd ps n ks g) (hg : X.A.guards = some [])
    (hr : Room k X.A) (hx : Passes CX X E) (I : Inv X pins σ H s) (r : Vals vs us) (rz : Vals zs ws) (h1 : vs.length = n) (h2 : zs.length = ks.length) (h : sp (g vs zs) H Q E) :
    wpAny (model X.prog X.w) X.A (call (.ref f) us (ks.zip ws)) (EP X pins σ Q) X.xe s := by
  apply wpAny_call
  apply codeAny_mono (runG (E := E) F hg hr hx I (B.to s us ws I.kIn (r.length.symm.trans h1) (rz.length.symm.trans h2)) (B.rel r rz) h)
  intro res s2 q
  match res, q with
  | .ok (.ret u), q => exact q
  | .ok .next, q => exact False.elim q
  | .ok .brk, q => exact False.elim q
  | .ok .cont, q => exact False.elim q
  | .error e, q => exact q
theorem pe_fk0 (F : HasK X.prog X.w X.K X.mg X.base CX k x ps 0 ks g sp) (hg : X.A.guards = some []) (hr : Room k X.A) (hx : Passes CX X E) (gl : Gl X x) (hkw : PK X kws tk)
    (hall : (backToKw pos (keywordEach kws X.env)).all (·.1.isSome) = true := by rfl) (hks : (backToKw pos (keywordEach kws X.env)).filterMap (·.1) = ks := by rfl) (hdb : (x == ("__debug__" : Str)) = false := by decide)
    (hpl : ((backTo pos (starEach [] X.env)).any (·.1) || (backToKw pos (keywordEach kws X.env)).any (·.1.isNone)) = false := by rfl) :
    PE X (.Call (.Name x p) [] kws pos) (tFk sp 0 ks.length g E tNil tk) := by
  obtain ⟨f, fd, G, hm, hk, hb⟩ := F.ex
  constructor
  intro pins s σ H Q I h
  apply wpAny_Call_Name_kw
  apply ld_glob I gl hm _ hdb
  apply PySem.W.callWith_KW0 (h₀ := X.base) I.ok.mod.kin hk hall _ hpl
  apply thn (hkw.run pos pins s σ H _ I h)
  rintro ws s2 ⟨zs, H2, I2, rz, h1, h2, q⟩
  refine ⟨I2.kIn, ?_⟩
  rw [hks]
  exact runK (us := []) G hb hg hr hx I2 .nil rz h1 h2 q
theorem pe_fk (F : HasK X.prog X.w X.K X.mg X.base CX k x ps n ks g sp) (hg : X.A.guards = some []) (hr : Room k X.A) (hx : Passes CX X E) (gl : Gl X x) (ha : PA X (e :: es) t) (hkw : PK X kws tk)
    (hall : (backToKw pos (keywordEach kws X.env)).all (·.1.isSome) = true := by rfl) (hks : (backToKw pos (keywordEach kws X.env)).filterMap (·.1) = ks := by rfl) (hdb : (x == ("__debug__" : Str)) = false := by decide)
    (he : starEach (e :: es) X.env = (false, eval e X.env) :: starEach es X.env := by rfl)
    (hpl : ((backTo pos (starEach (e :: es) X.env)).any (·.1) || (backToKw pos (keywordEach kws X.env)).any (·.1.isNone)) = false := by rfl) :
    PE X (.Call (.Name x p) (e :: es) kws pos) (tFk sp n ks.length g E t tk) := by
  obtain ⟨f, fd, G, hm, hk, hb⟩ := F.ex
  constructor
  intro pins s σ H Q I h
  apply wpAny_Call_Name_kw
  apply ld_glob I gl hm _ hdb
  apply PySem.W.callWith_KW (h₀ := X.base) I.ok.mod.kin hk hall _ hpl he
  apply thn (ha.run pos pins s σ H _ I h)
  rintro us s1 ⟨vs, H1, I1, r, q1⟩
  apply thn (hkw.run pos pins s1 σ H1 _ I1 q1)
  rintro ws s2 ⟨zs, H2, I2, rz, h1, h2, q⟩
  refine ⟨I2.kIn, ?_⟩
  rw [hks]
  exact runK G hb hg hr hx I2 r rz h1 h2 q
end

/-! ### a def that stands in the module -/
structure DefAt (K : PySem.W.Frag) (mg : Str → Option Value) (x : Str) (st : Stmt) (f : Addr) (fd : FuncData) : Prop where
  fn : Fun K x x st f fd
  at_ : mg x = some (.ref f)
section
variable {P : Program} {w : World} {K : PySem.W.Frag} {mg : Str → Option Value} {base : Heap} {CX : CXT} {k : Nat} {x : Str} {st : Stmt} {ps : List Str} {sp : Sp} {f : Addr} {fd : FuncData}
theorem DefAt.has (A : DefAt K mg x st f fd) (G : Fun K x x st f fd → FnG P w K mg base CX k f fd ps sp)
    (hb : ∀ (kV doc pm : Value) (an : Option Addr) (cdv ct : Value) (us : List Value), us.length = ps.length → bindArgs (PySem.W.fnOf x x (defArgs st) (defBody st) (defScope st) .none kV doc pm an cdv ct) ⟨us, []⟩ = pure (ps.zip us)) :
    Has P w K mg base CX k x ps sp := ⟨⟨f, fd, G A.fn, A.at_, A.fn.kp, A.fn.binds hb⟩⟩
theorem DefAt.hasK {n : Nat} {ks : List Str} {g : {α : Type} → List α → List α → List α} (A : DefAt K mg x st f fd) (G : Fun K x x st f fd → FnG P w K mg base CX k f fd ps sp)
    (hb : ∀ (kV doc pm : Value) (an : Option Addr) (cdv ct : Value) (us ws : List Value), us.length = n → ws.length = ks.length → bindArgs (PySem.W.fnOf x x (defArgs st) (defBody st) (defScope st) .none kV doc pm an cdv ct) ⟨us, ks.zip ws⟩ = pure (ps.zip (g us ws)))
    (hrel : ∀ {vs zs : List V} {us ws : List Value}, Vals vs us → Vals zs ws → Vals (g vs zs) (g us ws)) : HasK P w K mg base CX k x ps n ks g sp := by
  refine ⟨⟨f, fd, G A.fn, A.at_, A.fn.kp, ⟨fun s us ws _ h1 h2 => ?_, hrel⟩⟩⟩
  obtain ⟨_, _, kV, doc, pm, an, cdv, ct, _, e, _, _⟩ := A.fn.ex
  subst e
  exact .of_eq (hb kV doc pm an cdv ct us ws h1 h2)
end
theorem defAt {K : PySem.W.Frag} {mg : Str → Option Value} {h : Heap} {x : Str} {st : Stmt} {f : Addr} {oc : Value} {od an : Option Addr} {osl : Array (Option Value)} {kV doc pm cdv ct : Value} (X : K.In h) (G : h.Ns mainGlobals mg)
    (a : PySem.W.nsIn K mainGlobals x = some (some (.ref f))) (l : K.lookup f = some ⟨oc, od, .func (PySem.W.fnOf x x (defArgs st) (defBody st) (defScope st) .none kV doc pm an cdv ct), osl⟩)
    (c : PySem.W.codeIn K cdv x = true) (k : PySem.W.keepIn K (.ref f) = true) : DefAt K mg x st f (PySem.W.fnOf x x (defArgs st) (defBody st) (defScope st) .none kV doc pm an cdv ct) :=
  ⟨fun_mk l c k, PySem.W.mg_of X G a⟩
theorem cst {K : PySem.W.Frag} {mg : Str → Option Value} {h : Heap} {x : Str} {v : V} {u : Value} (X : K.In h) (G : h.Ns mainGlobals mg) (a : PySem.W.nsIn K mainGlobals x = some (some u)) (r : RelV v u) : Cst mg x v :=
  ⟨u, PySem.W.mg_of X G a, r⟩
/-- what stood stands, but for the list at d -/
def Mv (d : Addr) (H H' : Hp) : Prop := ∀ b o, b ≠ d → H b = some o → H' b = some o
theorem Mv.refl (d : Addr) (H : Hp) : Mv d H H := fun _ _ _ h => h
theorem Mv.trans {d : Addr} {H H1 H2 : Hp} (a : Mv d H H1) (b : Mv d H1 H2) : Mv d H H2 := fun x o n h => b x o n (a x o n h)
theorem Mv.same {d : Addr} {H H' : Hp} (a : Same H H') : Mv d H H' := fun x o _ h => a x o h
theorem Mv.upd {d : Addr} {H H' : Hp} {o : HO} (a : Mv d H H') : Mv d H (upd H' d o) := fun x u n h => by
  rw [upd_ne n]
  exact a x u n h
theorem Mv.new {d p : Addr} {H H' : Hp} {o : HO} (a : Mv d H H') (hp : H' p = none) : Mv d H (L2.upd H' p o) := fun x u n h => by
  rw [upd_ne (ne_of_none (a x u n h) hp)]
  exact a x u n h
theorem Mv.free {d D : Addr} {H H' : Hp} (m : Mv d H H') (n : D ≠ d) (h : H' D = none) : H D = none := by
  cases c : H D with
  | none => rfl
  | some o => exact absurd ((m D o n c).symm.trans h) (by intro z; cases z)
/-- what H does not know may change -/
theorem Mv.fresh {d D : Addr} {H H' : Hp} {o : HO} (m : Mv d H H') (h : H D = none) : Mv d H (L2.upd H' D o) := fun x u n hx => by
  rw [upd_ne (ne_of_none hx h)]
  exact m x u n hx
theorem same_fresh {D : Addr} {H H' : Hp} {o : HO} (m : Same H H') (h : H D = none) : Same H (L2.upd H' D o) := fun x u hx => by
  rw [upd_ne (ne_of_none hx h)]
  exact m x u hx
theorem same_new {H : Hp} {p : Addr} {o : HO} (hp : H p = none) : Same H (upd H p o) := fun x u h => by
  rw [upd_ne (ne_of_none h hp)]
  exact h
theorem same_tup {K : PySem.W.Frag} {H H' : Hp} {a : Addr} {xs : List V} (e : Same H H') (h : SqT K H a xs) : SqT K H' a xs := by
  rcases h with (h | ⟨o, h⟩) | h
  · exact .inl (.inl (e _ _ h))
  · exact .inl (.inr ⟨o, e _ _ h⟩)
  · exact .inr h
end Ft

/-! Drawing, names, texts. -/
namespace Ft
open PySem L2
/-- the list that is drawn from -/
def Deal (H : Hp) (d : Addr) : Prop := ∃ a b c : Int, H d = some (.lst [.int a, .int b, .int c]) ∧ 0 ≤ a ∧ 0 ≤ b ∧ b < 2147483423 ∧ 0 ≤ c
abbrev tl (x : Str) : List Nat := x.cps.toList
def smallL : List Nat := (List.range 26).map (· + 97)
def nameL : List Nat := smallL ++ (List.range 10).map (· + 48)
/-- the signs of a name -/
def isNameL (l : List Nat) : Bool := decide (1 ≤ l.length) && decide (l.length ≤ 8) && decide (l.headD 0 ∈ smallL) && l.all fun c => decide (c ∈ nameL)
def isName (x : Str) : Prop := isNameL (tl x) = true
theorem tl_small : tl ("abcdefghijklmnopqrstuvwxyz" : Str) = smallL := by decide +kernel
theorem tl_naming : tl ("abcdefghijklmnopqrstuvwxyz0123456789" : Str) = nameL := by decide +kernel
theorem tl_w : tl ("w" : Str) = [119] := by decide +kernel
theorem len_tl (x : Str) : x.length = (tl x).length := by
  show x.cps.size = x.cps.toList.length
  simp
theorem tl_app (x y : Str) : tl (x ++ y) = tl x ++ tl y := TL.tl_append x y
theorem tl_one (c : Nat) : tl ⟨#[c]⟩ = [c] := rfl
theorem tl_ext {x y : Str} (h : tl x = tl y) : x = y := TL.ext_tl h
theorem isNameL_iff (l : List Nat) : isNameL l = true ↔ 1 ≤ l.length ∧ l.length ≤ 8 ∧ l.headD 0 ∈ smallL ∧ ∀ c ∈ l, c ∈ nameL := by
  unfold isNameL
  simp only [Bool.and_eq_true, decide_eq_true_eq, List.all_eq_true, and_assoc]
theorem isName_len {x : Str} (h : isName x) : 1 ≤ x.length ∧ x.length ≤ 8 := by
  have := (isNameL_iff _).mp h
  rw [len_tl]
  exact ⟨this.1, this.2.1⟩
theorem join_flat : ∀ ls : List (List Nat), TL.joinL [] ls = ls.flatten
  | [] => rfl
  | [p] => by simp [TL.joinL]
  | p :: q :: r => by
    rw [TL.joinL, join_flat (q :: r)]
    simp
theorem tl_empty : tl ("" : Str) = [] := by decide +kernel
theorem tl_join0 (ys : List Str) : tl (Txt.join ("" : Str) ys) = (ys.map tl).flatten := by
  rw [TL.join_eq]
  show TL.tl (Str.join _ _) = _
  rw [TL.tl_join]
  show TL.joinL (tl ("" : Str)) _ = _
  rw [tl_empty, join_flat]
theorem flat_ones : ∀ l : List Nat, ((l.map fun c => (⟨#[c]⟩ : Str)).map tl).flatten = l
  | [] => rfl
  | c :: l => by
    rw [List.map_cons, List.map_cons, List.flatten_cons, flat_ones l]
    rfl
theorem at_lt {xs : List V} {r : Int} (h0 : 0 ≤ r) (h1 : r < (xs.length : Int)) : ∃ v, v ∈ xs ∧ atI xs r = some v := by
  have hk : r.toNat < xs.length := by omega
  refine ⟨xs[r.toNat], List.getElem_mem hk, at_of (j := r.toNat) (by omega) (List.getElem?_eq_getElem hk)⟩
theorem at_ltN {l : List Nat} {r : Int} (h0 : 0 ≤ r) (h1 : r < (l.length : Int)) : ∃ c, c ∈ l ∧ atI l r = some c := by
  have hk : r.toNat < l.length := by omega
  refine ⟨l[r.toNat], List.getElem_mem hk, ?_⟩
  have := atI_nat (List.getElem?_eq_getElem hk)
  rwa [show ((r.toNat : Nat) : Int) = r by omega] at this
theorem Mv.seq {d a : Addr} {H H' : Hp} {xs : List V} {K : PySem.W.Frag} (m : Mv d H H') (n : a ≠ d) (h : SqL K H a xs) : SqL K H' a xs := by
  rcases h with (h | ⟨o, h⟩) | h
  · exact .inl (.inl (m _ _ n h))
  · exact .inl (.inr ⟨o, m _ _ n h⟩)
  · exact .inr h
theorem Mv.tup {d a : Addr} {H H' : Hp} {xs : List V} {K : PySem.W.Frag} (m : Mv d H H') (n : a ≠ d) (h : SqT K H a xs) : SqT K H' a xs := by
  rcases h with (h | ⟨o, h⟩) | h
  · exact .inl (.inl (m _ _ n h))
  · exact .inl (.inr ⟨o, m _ _ n h⟩)
  · exact .inr h
theorem Deal.new {H : Hp} {d p : Addr} {o : HO} (h : Deal H d) (hp : H p = none) : Deal (upd H p o) d := by
  obtain ⟨a, b, c, e, r⟩ := h
  exact ⟨a, b, c, by rw [upd_ne (ne_of_none e hp)]; exact e, r⟩
theorem Deal.put {H : Hp} {d p : Addr} {o : HO} (h : Deal H d) (n : p ≠ d) : Deal (upd H p o) d := by
  obtain ⟨a, b, c, e, r⟩ := h
  exact ⟨a, b, c, by rw [upd_ne n.symm]; exact e, r⟩
theorem Deal.same {H H' : Hp} {d : Addr} (h : Deal H d) (s : Same H H') : Deal H' d := by
  obtain ⟨a, b, c, e, r⟩ := h
  exact ⟨a, b, c, s _ _ e, r⟩
theorem Deal.ne {H : Hp} {d p : Addr} (h : Deal H d) (hp : H p = none) : p ≠ d := by
  obtain ⟨a, b, c, e, r⟩ := h
  exact (ne_of_none e hp).symm
/-- w0, w1, .. -/
def wk (k : Nat) : Str := ("w" : Str) ++ Str.ofString (toString ((k : Nat) : Int))
theorem tl_wk (k : Nat) : tl (wk k) = 119 :: TL.numL k := by
  unfold wk
  rw [tl_app, tl_w]
  show [119] ++ TL.tl (Str.ofString (toString ((k : Nat) : Int))) = _
  rw [TL.tl_num]
  rfl
theorem wk_inj {j k : Nat} (h : wk j = wk k) : j = k := by
  have e : tl (wk j) = tl (wk k) := by rw [h]
  rw [tl_wk, tl_wk] at e
  exact TL.numL_inj (List.cons.inj e).2
theorem wk_name {k : Nat} (h : k < 10 ^ 6) : isName (wk k) := by
  unfold isName
  rw [tl_wk, isNameL_iff]
  have hl := TL.numL_len (n := k) (k := 6) (by decide) h
  refine ⟨by simp, by simp; omega, (by show 119 ∈ smallL; decide), fun c hc => ?_⟩
  rcases List.mem_cons.mp hc with rfl | hc
  · decide
  · by_cases q : c < 48 ∨ 57 < c
    · exact absurd hc (TL.numL_free q)
    · have : c - 48 < 10 := by omega
      unfold nameL
      refine List.mem_append_right _ (List.mem_map.mpr ⟨c - 48, List.mem_range.mpr this, by omega⟩)
theorem nodup_le {α : Type} [DecidableEq α] : ∀ {l m : List α}, l.Nodup → (∀ x ∈ l, x ∈ m) → l.length ≤ m.length
  | [], _, _, _ => Nat.zero_le _
  | a :: l, m, hn, hs => by
    have hm := hs a List.mem_cons_self
    have h1 : ∀ x ∈ l, x ∈ m.erase a := fun x hx => by
      have hne : x ≠ a := fun e => (List.nodup_cons.mp hn).1 (e ▸ hx)
      exact (List.mem_erase_of_ne hne).mpr (hs x (List.mem_cons_of_mem _ hx))
    have h2 := nodup_le (List.nodup_cons.mp hn).2 h1
    have h3 := List.length_erase_of_mem hm
    have h4 : 0 < m.length := List.length_pos_of_mem hm
    rw [List.length_cons]
    omega
theorem wk_nodup (n : Nat) : ((List.range n).map wk).Nodup := by
  unfold List.Nodup
  rw [List.pairwise_map]
  exact List.Pairwise.imp (fun h e => h (wk_inj e)) List.nodup_range
theorem wk_free {ts : List Str} (h : ∀ j, j < ts.length → wk j ∈ ts) : wk ts.length ∉ ts := fun hm => by
  have := nodup_le (wk_nodup (ts.length + 1)) (m := ts) (fun x hx => by
    obtain ⟨j, hj, rfl⟩ := List.mem_map.mp hx
    have hj' := List.mem_range.mp hj
    by_cases e : j = ts.length
    · rw [e]; exact hm
    · exact h j (by omega))
  rw [List.length_map, List.length_range] at this
  omega
theorem inV_strs (x : Str) (ts : List Str) : inV (.str x) (ts.map V.str) = decide (x ∈ ts) := by
  unfold inV
  rw [List.any_map]
  induction ts with
  | nil => rfl
  | cons t ts ih =>
    rw [List.any_cons, ih]
    show ((t == x) || _) = _
    by_cases e : t = x
    · subst e; simp
    · have : (t == x) = false := by simp [e]
      rw [this, Bool.false_or]
      by_cases q : x ∈ ts
      · simp [q]
      · simp [q, Ne.symm e]
theorem flat_strs (ts : List Str) : (ts.map V.str).all flatV = true := by
  rw [List.all_eq_true]
  intro v hv
  obtain ⟨t, _, rfl⟩ := List.mem_map.mp hv
  rfl
theorem str_small_len : ("abcdefghijklmnopqrstuvwxyz" : Str).length = 26 := by decide +kernel
theorem str_naming_len : ("abcdefghijklmnopqrstuvwxyz0123456789" : Str).length = 36 := by decide +kernel
end Ft

namespace K1
open PySem L2 Ft
def top (i : Nat) : Stmt := PySem.Challenge.pw_fivetrees_k01_names.main.body.getD i (.Pass ⟨0, 0, 0, 0⟩)
abbrev s_is_name : Stmt := top 4
abbrev N_is_name : List Str := ["value", "sign"]
theorem sc_is_name : FnScope N_is_name ["value"] (defScope s_is_name) := ⟨rfl, rfl, rfl, by decide +kernel, rfl, by decide +kernel, by decide +kernel⟩
abbrev s_law_number : Stmt := top 6
abbrev N_law_number : List Str := ["_law_cells", "_law_k", "_law_mixed", "_law_one", "_law_more"]
theorem sc_law_number : FnScope N_law_number ["_law_cells", "_law_k"] (defScope s_law_number) := ⟨rfl, rfl, rfl, by decide +kernel, rfl, by decide +kernel, by decide +kernel⟩
abbrev s_law_deal : Stmt := top 7
abbrev N_law_deal : List Str := ["_law_number_here"]
theorem sc_law_deal : FnScope N_law_deal ["_law_number_here"] (defScope s_law_deal) := ⟨rfl, rfl, rfl, by decide +kernel, rfl, by decide +kernel, by decide +kernel⟩
abbrev s_law_pick : Stmt := top 8
abbrev N_law_pick : List Str := ["_law_deal_here", "_law_many", "_law_digit", "_law_seed", "_law_turn"]
theorem sc_law_pick : FnScope N_law_pick ["_law_deal_here", "_law_many"] (defScope s_law_pick) := ⟨rfl, rfl, rfl, by decide +kernel, rfl, by decide +kernel, by decide +kernel⟩
abbrev s_law_word : Stmt := top 9
abbrev N_law_word : List Str := ["_law_deal_here", "_law_taken", "_law_letters", "_law_way", "_law_word_here", "_law_tail", "_law_k"]
theorem sc_law_word : FnScope N_law_word ["_law_deal_here", "_law_taken"] (defScope s_law_word) := ⟨rfl, rfl, rfl, by decide +kernel, rfl, by decide +kernel, by decide +kernel⟩
abbrev s_law_is_name : Stmt := top 10
abbrev N_law_is_name : List Str := ["_law_thing_here", "_law_small", "_law_sign"]
theorem sc_law_is_name : FnScope N_law_is_name ["_law_thing_here"] (defScope s_law_is_name) := ⟨rfl, rfl, rfl, by decide +kernel, rfl, by decide +kernel, by decide +kernel⟩
abbrev s_law_thing : Stmt := top 11
abbrev N_law_thing : List Str := ["_law_deal_here", "_law_word_here", "_law_way", "_law_at"]
theorem sc_law_thing : FnScope N_law_thing ["_law_deal_here"] (defScope s_law_thing) := ⟨rfl, rfl, rfl, by decide +kernel, rfl, by decide +kernel, by decide +kernel⟩
abbrev s_law_right : Stmt := top 12
abbrev N_law_right : List Str := ["_law_deal_here", "_law_turn", "_law_thing_here"]
theorem sc_law_right : FnScope N_law_right ["_law_deal_here"] (defScope s_law_right) := ⟨rfl, rfl, rfl, by decide +kernel, rfl, by decide +kernel, by decide +kernel⟩
abbrev s_law : Stmt := top 13
abbrev N_law : List Str := ["_law_cells", "_law_k"]
theorem sc_law : FnScope N_law ["_law_cells"] (defScope s_law) := ⟨rfl, rfl, rfl, by decide +kernel, rfl, by decide +kernel, by decide +kernel⟩
structure Txt (K : PySem.W.Frag) (mg : Str → Option Value) : Prop where
  b_len : mg "len" = none
  b_abs : mg "abs" = none
  b_max : mg "max" = none
  b_min : mg "min" = none
  b_all : mg "all" = none
  b_repr : mg "repr" = none
  b_isinstance : mg "isinstance" = none
  b_int : mg "int" = none
  b_str : mg "str" = none
  b_range : mg "range" = none
  m_SMALL : Cst mg "SMALL" (.str "abcdefghijklmnopqrstuvwxyz")
  m_NAMING : Cst mg "NAMING" (.str "abcdefghijklmnopqrstuvwxyz0123456789")
  m_LONGEST : Cst mg "LONGEST" (.int 8)
end K1

namespace K1
open PySem L2 Ft
section
variable {P : Program} {w : World} {K : PySem.W.Frag} {mg : Str → Option Value} {base : Heap}
def sp_law_number (K : PySem.W.Frag) : Sp := fun vs H Q _ => ∃ (a : Addr) (k : Int) (ns : List Int), vs = [.ref a, .int k] ∧ SqL K H a (ns.map V.int) ∧ 0 ≤ k ∧ k ≤ 1000 ∧ ∀ r H', Same H H' → Q (.int r) H'
theorem ok_law_number (T : Txt K mg) {f : Addr} {fd : FuncData} (F : Fun K "_law_number" "_law_number" s_law_number f fd) : FnG P w K mg base CX0 1 f fd ["_law_cells", "_law_k"] (sp_law_number K) := by
  refine okG F sc_law_number (fun vs H Q E h => ?_) (fun cdv A outer s H vs Q E hg hr h => ?_)
  · obtain ⟨a, k, ns, rfl, _⟩ := h
    rfl
  · obtain ⟨a, k, ns, rfl, hS, k0, k1, q⟩ := h
    refine ⟨_, (pss_cons (ps_if (pt_cmpR op_lt (pv 1) (pe_callB call_len_seq rfl T.b_len bt_len (pa_cons (pv 0) pa_nil)) (nomark _)) (pss_one (ps_ret (pe_callTy call_int1 rfl T.b_int bt_int (pa_cons (pe_ix ix_list (pv 0) (pv 1) (fun _ _ => rfl)) pa_nil)))) pss_nil)
    (pss_cons (ps_set (i := 2) sc_law_number.nd rfl (Or.inl rfl) (pe_op op_mul pe_int (pe_op op_add (pv 1) pe_int)))
    (pss_cons (ps_for PassesOwn.never rfl (pi_list (pe_slice sl_list (pv 0) po_none (po_some pe_int))) (pg_name (i := 3) sc_law_number.nd rfl (Or.inl rfl)) (pss_cons (ps_set (i := 4) sc_law_number.nd rfl (Or.inl rfl) (pe_op op_mod (pe_callTy call_int1 rfl T.b_int bt_int (pa_cons (pv 3) pa_nil)) pe_int))
    (pss_one (ps_set (i := 2) sc_law_number.nd rfl (Or.inl rfl) (pe_op op_mod (pe_callTy call_int1 rfl T.b_int bt_int (pa_cons (pe_op op_add (pe_op op_add (pe_op op_mul (pv 2) pe_int) (pv 4)) (pv 1)) pa_nil)) pe_int)))))
    (pss_one (ps_ret (pv 2)))))), ?_⟩
    refine ⟨_, rfl, _, rfl, a, _, rfl, .inl hS, _, _, rfl, rfl, _, rfl, ?_⟩
    refine ite2 (fun c => ?_) (fun _ => ?_)
    · have c' : k < ((ns.map V.int).length : Int) := of_decide_eq_true c
      rw [List.length_map] at c'
      have hk : (ns.map V.int)[k.toNat]? = some (V.int (ns[k.toNat]'(by omega))) := by
        rw [List.getElem?_map, List.getElem?_eq_getElem (by omega)]
        rfl
      refine ⟨_, rfl, _, rfl, a, _, k, _, rfl, rfl, hS, at_of (show k = ((k.toNat : Nat) : Int) by omega) hk, .inl ⟨_, rfl, ?_⟩⟩
      exact q _ _ (Same.refl H)
    · refine ⟨_, rfl, _, _, rfl, rfl, _, _, rfl, rfl, .inl ⟨by decide, by decide⟩, ?_⟩
      refine ⟨_, rfl, _, rfl, a, _, rfl, hS, fun p np => ?_⟩
      refine ⟨p, rfl, ⟨_, SqL.of upd_same⟩, for_list (K := K) (a := p) (xs := cutV (ns.map V.int) none (some 6)) (fun i σ H' => ∃ (m : Int) (u v : Option V), σ = [some (.ref a), some (.int k), some (.int m), u, v] ∧ Same H H' ∧ SqL K H' p (cutV (ns.map V.int) none (some 6)))
        ⟨_, _, _, rfl, same_new np, SqL.of upd_same⟩ (fun i σ H' _ ⟨_, _, _, _, _, z⟩ => z) ?_ ?_⟩
      · rintro i x σ H' hi ⟨m, u, v, rfl, hs, hl⟩
        have hx : ∃ n, x = V.int n := by
          have hm : x ∈ cutV (ns.map V.int) none (some 6) := List.mem_of_getElem? hi
          unfold cutV at hm
          have hm2 := List.mem_of_mem_drop (List.mem_of_mem_take hm)
          obtain ⟨n, -, e⟩ := List.mem_map.mp hm2
          exact ⟨n, e.symm⟩
        obtain ⟨n, rfl⟩ := hx
        refine ⟨_, rfl, .inl ⟨_, rfl, _, _, rfl, rfl, (by show (0 : Int) < 999983; decide), ?_⟩⟩
        refine ⟨_, rfl, _, _, rfl, rfl, .inr ⟨by decide, by decide⟩, _, rfl, _, _, rfl, rfl, _, rfl, _, _, rfl, rfl, .inl ⟨_, rfl, _, _, rfl, rfl, (by show (0 : Int) < 2147483423; decide), ?_⟩⟩
        exact ⟨_, _, _, rfl, hs, hl⟩
      · rintro σ H' ⟨m, u, v, rfl, hs, hl⟩
        exact ⟨_, rfl, q _ _ hs⟩
def sp_law_deal : Sp := fun vs H Q _ => ∃ n : Int, vs = [.int n] ∧ ∀ p H', H p = none → Same H H' → Deal H' p → Q (.ref p) H'
theorem ok_law_deal (T : Txt K mg) {f : Addr} {fd : FuncData} (F : Fun K "_law_deal" "_law_deal" s_law_deal f fd) : FnG P w K mg base CX0 1 f fd ["_law_number_here"] sp_law_deal := by
  refine okG F sc_law_deal (fun vs H Q E h => ?_) (fun cdv A outer s H vs Q E hg hr h => ?_)
  · obtain ⟨n, rfl, _⟩ := h
    rfl
  · obtain ⟨n, rfl, q⟩ := h
    refine ⟨_, (pss_one (ps_ret (pe_lst (pa_cons (pe_ifExp (PW.pt (pw_or (pt_cmpR op_lt (pv 0) pe_int (nomark _)) (pw_or1 (pt_cmpR op_ge (pv 0) (pe_op op_pow pe_int pe_int) (nomark _))))) (pe_callB call_abs rfl T.b_abs bt_abs (pa_cons (pv 0) pa_nil)) pe_int) (pa_cons (pe_op op_mod (pe_callTy call_int1 rfl T.b_int bt_int (pa_cons (pv 0) pa_nil)) pe_int) (pa_cons pe_int pa_nil)))))), ?_⟩
    have fin : ∀ x : Int, 0 ≤ x → (∃ v, (start N_law_deal [V.int n])[0]? = some (some v) ∧ ((∃ i, [v] = [V.int i] ∧ ∃ i' j, V.int i = .int i' ∧ V.int 2147483423 = .int j ∧ 0 < j ∧ ([V.int x, V.int (i' % j), V.int 0].length ≤ sizeLine ∧ ∀ p, H p = none → Q (.ref p) (upd H p (.lst [V.int x, V.int (i' % j), V.int 0])))) ∨ (∃ k, [v] = [V.bl k] ∧ ∃ i' j, V.int (if k then 1 else 0) = .int i' ∧ V.int 2147483423 = .int j ∧ 0 < j ∧ ([V.int x, V.int (i' % j), V.int 0].length ≤ sizeLine ∧ ∀ p, H p = none → Q (.ref p) (upd H p (.lst [V.int x, V.int (i' % j), V.int 0])))))) := by
      intro x hx
      refine ⟨_, rfl, .inl ⟨_, rfl, _, _, rfl, rfl, (by decide), (by show 3 ≤ sizeLine; decide), fun p np => q p _ np (same_new np) ⟨_, _, _, upd_same, hx, Int.emod_nonneg _ (by decide), Int.emod_lt_of_pos _ (by decide), Int.le_refl _⟩⟩⟩
    refine ⟨_, rfl, _, _, rfl, rfl, _, rfl, ?_⟩
    refine ite2 (fun c => ?_) (fun c => ?_)
    · refine iteT ?_
      refine ⟨_, rfl, _, rfl, ?_⟩
      exact fin _ (by split <;> omega)
    · refine ⟨_, rfl, _, _, rfl, rfl, ⟨by decide, by decide, by decide⟩, _, _, rfl, rfl, _, rfl, ?_⟩
      refine ite2 (fun c => ?_) (fun c => ?_)
      · refine ⟨_, rfl, _, rfl, ?_⟩
        exact fin _ (by split <;> omega)
      · exact fin _ (Int.le_refl _)
def sp_law_pick : Sp := fun vs H Q _ => ∃ (d : Addr) (m : Int), vs = [.ref d, .int m] ∧ Deal H d ∧ 0 < m ∧ m < 1000000 ∧ ∀ r H', 0 ≤ r → r < m → Mv d H H' → Deal H' d → Q (.int r) H'
theorem ok_law_pick (T : Txt K mg) {f : Addr} {fd : FuncData} (F : Fun K "_law_pick" "_law_pick" s_law_pick f fd) : FnG P w K mg base CX0 1 f fd ["_law_deal_here", "_law_many"] sp_law_pick := by
  refine okG F sc_law_pick (fun vs H Q E h => ?_) (fun cdv A outer s H vs Q E hg hr h => ?_)
  · obtain ⟨d, m, rfl, _⟩ := h
    rfl
  · obtain ⟨d, m, rfl, ⟨a, b, c, hd, a0, b0, b1, c0⟩, m0, m1, q⟩ := h
    refine ⟨_, (pss_cons (ps_asg (pe_op op_add (pe_ix ix_list (pv 0) pe_int (fun _ _ => rfl)) pe_int) (pg_sub (pv 0) pe_int set_list))
    (pss_cons (ps_if (pt_cmpR op_gt (pe_ix ix_list (pv 0) pe_int (fun _ _ => rfl)) pe_int (nomark _)) (pss_cons (ps_set (i := 2) sc_law_pick.nd rfl (Or.inl rfl) (pe_op op_mod (pe_callTy call_int1 rfl T.b_int bt_int (pa_cons (pe_ix ix_list (pv 0) pe_int (fun _ _ => rfl)) pa_nil)) (pv 1)))
    (pss_cons (ps_asg (pe_op op_fdiv (pe_ix ix_list (pv 0) pe_int (fun _ _ => rfl)) (pv 1)) (pg_sub (pv 0) pe_int set_list))
    (pss_one (ps_ret (pv 2))))) pss_nil)
    (pss_cons (ps_par (i := 3) (j := 4) (by rfl) sc_law_pick.nd rfl rfl (by decide) rfl rfl (pa_cons (pe_callTy call_int1 rfl T.b_int bt_int (pa_cons (pe_ix ix_list (pv 0) pe_int (fun _ _ => rfl)) pa_nil)) (pa_cons (pe_callTy call_int1 rfl T.b_int bt_int (pa_cons (pe_ix ix_list (pv 0) pe_int (fun _ _ => rfl)) pa_nil)) pa_nil)) (by rfl))
    (pss_cons (ps_set (i := 3) sc_law_pick.nd rfl (Or.inl rfl) (pe_op op_mod (pe_callTy call_int1 rfl T.b_int bt_int (pa_cons (pe_op op_add (pe_op op_add (pe_op op_mul (pv 3) (pe_op op_add (pe_op op_add (pv 3) pe_int) (pe_op op_mul pe_int (pv 4)))) (pe_op op_mul pe_int (pv 4))) pe_int) pa_nil)) pe_int))
    (pss_cons (ps_asg (pv 3) (pg_sub (pv 0) pe_int set_list))
    (pss_one (ps_ret (pe_op op_mod (pe_callTy call_int1 rfl T.b_int bt_int (pa_cons (pe_op op_fdiv (pv 3) pe_int) pa_nil)) (pv 1))))))))), ?_⟩
    refine ⟨_, rfl, d, _, _, _, rfl, rfl, SqL.of hd, rfl, _, _, rfl, rfl, _, rfl, d, _, _, _, rfl, rfl, hd, rfl, ?_⟩
    refine ⟨_, rfl, d, _, _, _, rfl, rfl, SqL.of upd_same, rfl, _, _, rfl, rfl, _, rfl, ?_⟩
    refine ite2 (fun _ => ?_) (fun _ => ?_)
    · refine ⟨_, rfl, d, _, _, _, rfl, rfl, SqL.of upd_same, rfl, .inl ⟨_, rfl, _, rfl, _, _, rfl, rfl, m0, ?_⟩⟩
      refine ⟨_, rfl, d, _, _, _, rfl, rfl, SqL.of upd_same, rfl, _, rfl, _, _, rfl, rfl, ⟨m0, by omega⟩, _, rfl, d, _, _, _, rfl, rfl, upd_same, rfl, ?_⟩
      refine ⟨_, rfl, q _ _ (Int.emod_nonneg _ (by omega)) (Int.emod_lt_of_pos _ m0) ((Mv.refl d H).upd.upd) ?_⟩
      exact ⟨_, _, _, upd_same, Int.ediv_nonneg a0 (by omega), b0, b1, by omega⟩
    · refine ⟨_, rfl, d, _, _, _, rfl, rfl, SqL.of upd_same, rfl, .inl ⟨_, rfl, _, rfl, d, _, _, _, rfl, rfl, SqL.of upd_same, rfl, .inl ⟨_, rfl, _, _, rfl, ?_⟩⟩⟩
      refine ⟨_, rfl, _, rfl, _, _, rfl, rfl, _, rfl, _, _, rfl, rfl, .inl ⟨by decide, by decide⟩, _, _, rfl, rfl, _, _, rfl, rfl, .inl ⟨by omega, by omega⟩, _, rfl, _, _, rfl, rfl, .inl ⟨by decide, by decide⟩, _, _, rfl, rfl, _, _, rfl, rfl, .inl ⟨_, rfl, _, _, rfl, rfl, (by show (0 : Int) < 2147483423; decide), ?_⟩⟩
      refine ⟨_, rfl, _, rfl, d, _, _, _, rfl, rfl, upd_same, rfl, ?_⟩
      refine ⟨_, rfl, _, _, rfl, rfl, ⟨by decide, by decide⟩, .inl ⟨_, rfl, _, rfl, _, _, rfl, rfl, m0, ?_⟩⟩
      refine q _ _ (Int.emod_nonneg _ (by omega)) (Int.emod_lt_of_pos _ m0) ((Mv.refl d H).upd.upd) ?_
      exact ⟨_, _, _, upd_same, a0, Int.emod_nonneg _ (by decide), Int.emod_lt_of_pos _ (by decide), by omega⟩
end
end K1

namespace K1
open PySem L2 Ft
section
variable {P : Program} {w : World} {K : PySem.W.Frag} {mg : Str → Option Value} {base : Heap}
def sp_law_word (K : PySem.W.Frag) : Sp := fun vs H Q _ => ∃ (d t : Addr) (ts : List Str), vs = [.ref d, .ref t] ∧ Deal H d ∧ SqL K H t (ts.map V.str) ∧ t ≠ d ∧ ts.length ≤ 1000 ∧
  ∀ x H', isName x → x ∉ ts → Mv d H H' → Deal H' d → Q (.str x) H'
def sevenW : List Str := ["kind", "make", "a", "b", "ab", "one", "x0"]
theorem sevenW_name : ∀ x ∈ sevenW, isName x := by
  unfold isName
  decide +kernel
theorem ok_law_word (T : Txt K mg) (F_law_pick : Has P w K mg base CX0 1 "_law_pick" ["_law_deal_here", "_law_many"] sp_law_pick) {f : Addr} {fd : FuncData} (F : Fun K "_law_word" "_law_word" s_law_word f fd) :
    FnG P w K mg base CX0 2 f fd ["_law_deal_here", "_law_taken"] (sp_law_word K) := by
  refine okG F sc_law_word (fun vs H Q E h => ?_) (fun cdv A outer s H vs Q E hg hr h => ?_)
  · obtain ⟨a, k, ns, rfl, _⟩ := h
    rfl
  · obtain ⟨d, t, ts, rfl, hd, ht, ntd, hl, q⟩ := h
    refine ⟨_, (pss_cons (ps_set (i := 2) sc_law_word.nd rfl (Or.inr rfl) pe_str)
    (pss_cons (ps_par (i := 3) (j := 4) (by rfl) sc_law_word.nd rfl rfl (by decide) rfl rfl (pa_cons (pe_f F_law_pick hg (hr.mono (by decide)) pass0 rfl (pa_cons (pv 0) (pa_cons pe_int pa_nil))) (pa_cons (pe_ix ix_list (pe_lst (pa_cons pe_str (pa_cons pe_str (pa_cons pe_str (pa_cons pe_str (pa_cons pe_str (pa_cons pe_str (pa_cons pe_str pa_nil)))))))) (pe_f F_law_pick hg (hr.mono (by decide)) pass0 rfl (pa_cons (pv 0) (pa_cons pe_int pa_nil))) (fun _ _ => rfl)) pa_nil)) (by rfl))
    (Evl.pss_cut (ps_if (pt_cmpR op_gt (pv 3) pe_int (nomark _)) (pss_cons (ps_setLc (i := 5) (own := [("_law_k", 6)]) rfl sc_law_word.nd rfl rfl (sw_true rfl rfl rfl (by decide +kernel)) (pi_range1 rfl T.b_range (pa_cons (pe_ix ix_list (pe_lst (pa_cons pe_int (pa_cons pe_int (pa_cons pe_int pa_nil)))) (pe_op op_sub (pv 3) pe_int) (fun _ _ => rfl)) pa_nil)) (blkOk_by (own := [("_law_k", 6)]) (N := N_law_word) (sc := defScope s_law_word) (by decide +kernel)) (fun _ _ _ _ _ => (pg_name (i := 6) sc_law_word.nd rfl (Or.inl rfl))) (fun _ _ _ _ _ => pts_nil) (fun _ _ _ _ _ => (pe_ix ix_str (pv 2) (pe_f F_law_pick hg (hr.mono (by decide)) pass0 rfl (pa_cons (pv 0) (pa_cons pe_int pa_nil))) (fun _ _ => rfl))))
    (pss_one (ps_set (i := 4) sc_law_word.nd rfl (Or.inl rfl) (pe_op op_add_str (pe_ix ix_str (pv 2) (pe_f F_law_pick hg (hr.mono (by decide)) pass0 rfl (pa_cons (pv 0) (pa_cons pe_int pa_nil))) (fun _ _ => rfl)) (pe_join pe_str (pv 5)))))) pss_nil)
    (pss_cons (ps_for PassesOwn.never rfl (pi_range1 rfl T.b_range (pa_cons (pe_op op_add (pe_callB call_len_seq rfl T.b_len bt_len (pa_cons (pv 1) pa_nil)) pe_int) pa_nil)) (pg_name (i := 6) sc_law_word.nd rfl (Or.inl rfl)) (pss_cons (ps_if (pt_cmpR op_notIn_seq (pv 4) (pv 1) rfl) (pss_one (ps_ret (pv 4))) pss_nil)
    (pss_one (ps_set (i := 4) sc_law_word.nd rfl (Or.inl rfl) (pe_op op_add_str pe_str (pe_callTy call_str_int rfl T.b_str bt_str (pa_cons (pv 6) pa_nil)))))))
    (pss_one (ps_ret (pv 4))))))), ?_⟩
    refine ⟨_, rfl, d, 4, rfl, hd, by decide, by decide, fun way H1 w0 w1 m1 d1 => ?_⟩
    refine ⟨by show 7 ≤ sizeLine; decide, fun p np => ⟨_, rfl, d, 7, rfl, d1.new np, by decide, by decide, fun r H2 r0 r1 m2 d2 => ?_⟩⟩
    have npd := d1.ne np
    have hp : H2 p = some (.lst (sevenW.map V.str)) := m2 _ _ npd upd_same
    obtain ⟨v, hv, av⟩ := at_lt (xs := sevenW.map V.str) r0 (by show r < 7; omega)
    obtain ⟨x, hx, rfl⟩ := List.mem_map.mp hv
    have mv2 : Mv d H H2 := (m1.new np).trans m2
    refine ⟨p, _, _, _, rfl, rfl, SqL.of hp, av, _, _, rfl, ?_⟩
    refine ⟨fun σ H' => ∃ (x : Str) (u6 u7 : Option V), σ = [some (.ref d), some (.ref t), some (.str "abcdefghijklmnopqrstuvwxyz0123456789"), some (.int way), some (.str x), u6, u7] ∧ isName x ∧ Mv d H H' ∧ Deal H' d, ?_, ?_⟩
    rotate_left
    · rintro σ H' ⟨x, u6, u7, rfl, hx, mv, hd'⟩
      have ht' : SqL K H' t (ts.map V.str) := mv.seq ntd ht
      refine ⟨_, rfl, t, _, rfl, .inl ht', _, _, rfl, rfl, _, rfl, by omega, by rw [List.length_map]; omega, ?_⟩
      refine for_range (lo := 0) (n := _) (fun i σ H2 => ∃ (y : Str) (u v : Option V), σ = [some (.ref d), some (.ref t), some (.str "abcdefghijklmnopqrstuvwxyz0123456789"), some (.int way), some (.str y), u, v] ∧ isName y ∧ H2 = H' ∧ (∀ k, i = k + 1 → y = wk k) ∧ ∀ k, k + 1 < i → wk k ∈ ts)
        ⟨x, _, _, rfl, hx, rfl, (fun k e => by omega), (fun k e => by omega)⟩ ?_ ?_
      · rintro i σ H2 hi ⟨y, u, v, rfl, hy, rfl, hk, ha⟩
        have hi' : i < ts.length + 1 := by
          rw [List.length_map] at hi
          omega
        refine ⟨_, rfl, _, rfl, t, _, rfl, .inl ht', rfl, flat_strs ts, _, rfl, ?_⟩
        refine ite2 (fun c => ?_) (fun c => ?_)
        · have c' : y ∉ ts := by
            have c2 : (!inV (.str y) (ts.map V.str)) = true := c
            rw [inV_strs] at c2
            simpa using c2
          exact ⟨_, rfl, q y _ hy c' mv hd'⟩
        · have c' : y ∈ ts := by
            have c2 : ¬ (!inV (.str y) (ts.map V.str)) = true := c
            rw [inV_strs] at c2
            simpa using c2
          refine ⟨_, rfl, _, rfl, ?_, _, _, rfl, rfl, ?_, ?_⟩
          · have : (0 + (i : Int)).natAbs = i := by omega
            rw [this]
            exact Nat.lt_of_le_of_lt (Nat.log2_le_self i) (by omega)
          · rw [show (0 : Int) + (i : Int) = ((i : Nat) : Int) by omega, len_tl, len_tl, tl_w]
            show 1 + (TL.tl (Str.ofString (toString ((i : Nat) : Int)))).length ≤ sizeLine
            rw [TL.tl_num]
            have := TL.numL_len (n := i) (k := 4) (by decide) (by omega)
            exact Nat.le_trans (by omega : 1 + (TL.numL i).length ≤ 5) (by decide)
          · refine ⟨wk i, u, some (.int (0 + (i : Int))), ?_, wk_name (by omega), rfl, ?_, ?_⟩
            · rw [show (0 : Int) + (i : Int) = ((i : Nat) : Int) by omega]
              rfl
            · intro k e
              rw [show k = i by omega]
            · intro k e
              by_cases e2 : i = k + 1
              · rw [← hk k e2]
                exact c'
              · exact ha k (by omega)
      · rintro σ H2 ⟨y, u, v, rfl, hy, rfl, hk, ha⟩
        rw [List.length_map] at hk ha
        have e : ((((ts.length : Nat) : Int) + 1).toNat) = ts.length + 1 := by omega
        rw [e] at hk ha
        have ey := hk ts.length rfl
        refine ⟨_, rfl, q y _ hy ?_ mv hd'⟩
        rw [ey]
        exact wk_free fun j hj => ha j (by omega)

    refine ⟨_, rfl, _, _, rfl, rfl, _, rfl, ?_⟩
    refine ite2 (fun c => ?_) (fun c => ?_)
    · have c' : 0 < way := of_decide_eq_true c
      refine ⟨by show 3 ≤ sizeLine; decide, fun p2 np2 => ⟨_, rfl, _, _, rfl, rfl, ?_⟩⟩
      obtain ⟨vn, hvn, avn⟩ := at_lt (xs := [V.int 1, V.int 2, V.int 7]) (r := way - 1) (by omega) (by show way - 1 < 3; omega)
      have hn : ∃ n : Nat, vn = V.int (n : Int) ∧ n ≤ 7 := by
        simp only [List.mem_cons, List.not_mem_nil, or_false] at hvn
        rcases hvn with rfl | rfl | rfl
        · exact ⟨1, rfl, by decide⟩
        · exact ⟨2, rfl, by decide⟩
        · exact ⟨7, rfl, by decide⟩
      obtain ⟨n, rfl, hn⟩ := hn
      refine ⟨p2, _, _, _, rfl, rfl, SqL.of upd_same, avn, _, rfl, by omega, by omega, fun D nD => ?_⟩
      have d3 : Deal (upd H2 p2 (.lst [V.int 1, V.int 2, V.int 7])) d := d2.new np2
      have nDd : D ≠ d := d3.ne nD
      have hDn : H D = none := (mv2.new np2).free nDd nD
      refine lc_range (lo := 0) (n := _) (fun i H3 => ∃ l : List Nat, l.length = i ∧ (∀ c ∈ l, c ∈ nameL) ∧ H3 D = some (.lst (l.map fun c => V.str ⟨#[c]⟩)) ∧ Mv d H H3 ∧ Deal H3 d)
        ⟨[], rfl, (fun _ h => nomatch h), upd_same, (mv2.new np2).new nD, d3.new nD⟩ ?_ ?_
      · rintro i H3 hi ⟨l, hll, hln, hD, m3, d4⟩
        refine ⟨rfl, ?_⟩
        refine ⟨_, rfl, _, rfl, d, 36, rfl, d4, by decide, by decide, fun r H4 r0 r1 m4 d5 => ?_⟩
        obtain ⟨cc, hc, ac⟩ := at_ltN (l := nameL) r0 (by show r < 36; omega)
        refine ⟨_, _, cc, rfl, rfl, by rw [str_naming_len]; decide, by rw [show ("abcdefghijklmnopqrstuvwxyz0123456789" : Str).cps.toList = nameL from tl_naming]; exact ac, _, m4 _ _ nDd hD, ?_, ?_⟩
        · rw [List.length_map, hll]
          exact Nat.lt_of_lt_of_le hi (Nat.le_trans (show ((n : Int)).toNat ≤ 7 by omega) (by decide))
        · refine ⟨l ++ [cc], by simp [hll], ?_, ?_, (m3.trans m4).fresh hDn, ?_⟩
          · intro c hc'
            rcases List.mem_append.mp hc' with z | z
            · exact hln c z
            · rw [List.mem_singleton.mp z]
              exact hc
          · rw [upd_same, List.map_append]
            rfl
          · exact d5.put nDd
      · rintro H3 ⟨l, hll, hln, hD, m3, d4⟩
        refine ⟨_, rfl, _, rfl, d, 26, rfl, d4, by decide, by decide, fun r H4 r0 r1 m4 d5 => ?_⟩
        obtain ⟨cc, hc, ac⟩ : ∃ c, c ∈ smallL ∧ atI nameL r = some c := by
          have hk : r.toNat < smallL.length := by
            show r.toNat < 26
            omega
          refine ⟨smallL[r.toNat], List.getElem_mem hk, ?_⟩
          have e := atI_nat (xs := nameL) (j := r.toNat) (v := smallL[r.toNat]) (by
            unfold nameL
            rw [List.getElem?_append_left hk, List.getElem?_eq_getElem hk])
          rwa [show ((r.toNat : Nat) : Int) = r by omega] at e
        refine ⟨_, _, cc, rfl, rfl, by rw [str_naming_len]; decide, by rw [show ("abcdefghijklmnopqrstuvwxyz0123456789" : Str).cps.toList = nameL from tl_naming]; exact ac, ⟨_, rfl⟩, _, rfl, _, D, l.map (fun c => ⟨#[c]⟩), rfl, rfl, .inl (SqL.of ?_), ?_, _, _, rfl, rfl, ?_, ?_⟩
        · rw [List.map_map]
          exact m4 _ _ nDd hD
        · have e1 : ((l.map fun c => (⟨#[c]⟩ : Str)).map (·.length)).sum = l.length := by
            rw [List.map_map]
            have : ((fun x : Str => x.length) ∘ fun c => (⟨#[c]⟩ : Str)) = fun _ => 1 := rfl
            rw [this]
            clear hD hll hln
            induction l with
            | nil => rfl
            | cons a l ih =>
              rw [List.map_cons, List.sum_cons, ih, List.length_cons]
              omega
          rw [e1, show ("" : Str).length = 0 by decide +kernel, hll]
          have : ((n : Int)).toNat ≤ 7 := by omega
          omega
        · rw [len_tl (Txt.join _ _), tl_join0, flat_ones, hll]
          show 1 + ((n : Int)).toNat ≤ sizeLine
          have : ((n : Int)).toNat ≤ 7 := by omega
          exact Nat.le_trans (show 1 + ((n : Int)).toNat ≤ 8 by omega) (by decide)
        · refine ⟨_, _, _, rfl, ?_, m3.trans m4, d5⟩
          unfold isName
          rw [isNameL_iff, tl_app, tl_join0, flat_ones, tl_one]
          have hn7 : ((n : Int)).toNat ≤ 7 := by omega
          refine ⟨by simp, by simp; omega, by simpa using hc, fun c hc' => ?_⟩
          rcases List.mem_cons.mp hc' with rfl | z
          · exact List.mem_append_left _ hc
          · exact hln c z
    · exact ⟨x, _, _, rfl, sevenW_name x hx, mv2, d2⟩
end
end K1

namespace K1
open PySem L2 Ft
/-- a value that is_name is asked of -/
def Thing (K : PySem.W.Frag) (H : Hp) (v : V) : Prop := (∃ x, v = .str x ∧ x.length ≤ 1000) ∨ (∃ t, TyOf K H v (.type t) ∧ t ∈ ["NoneType", "bool", "int", "tuple", "list", "dict"])
def isNameV : V → Bool
  | .str x => isNameL (tl x)
  | _ => false
theorem kit_no {K : PySem.W.Frag} {t : String} (h : t ∈ ["NoneType", "bool", "int", "tuple", "list", "dict"]) : PySem.W.kitOne K (.type t) (.type "str") = some false := by
  refine kit_ty ?_
  simp only [List.mem_cons, List.not_mem_nil, or_false] at h
  rcases h with rfl | rfl | rfl | rfl | rfl | rfl <;> decide +kernel
theorem kit_yes {K : PySem.W.Frag} : PySem.W.kitOne K (.type "str") (.type "str") = some true := kit_ty (by decide +kernel)
theorem nameV_no {K : PySem.W.Frag} {H : Hp} {v : V} {t : String} (h : TyOf K H v (.type t)) (ht : t ∈ ["NoneType", "bool", "int", "tuple", "list", "dict"]) : isNameV v = false := by
  cases h <;> first | rfl | exact absurd ht (by decide)
theorem head_at {x : Str} (h : 1 ≤ x.length) : atI x.cps.toList 0 = some ((tl x).headD 0) := by
  rw [len_tl] at h
  show atI (tl x) 0 = _
  cases e : tl x with
  | nil => rw [e] at h; simp at h
  | cons c l => exact atI_nat (j := 0) rfl
theorem naming_iff (c : Nat) : (decide (c ∈ smallL) || decide (c ∈ tl ("0123456789" : Str))) = decide (c ∈ nameL) := by
  have e : tl ("0123456789" : Str) = (List.range 10).map (· + 48) := by decide +kernel
  rw [e, ← Bool.decide_or]
  exact decide_eq_decide.mpr List.mem_append.symm
/-- a comprehension over the signs of a text that gives bools, i turns done -/
def Signs (H : Hp) (D : Addr) (x : Str) (p : Nat → Bool) (i : Nat) (H1 : Hp) : Prop := Same H H1 ∧ H1 D = some (.lst ((((tl x).take i).map p).map V.bl))
theorem Signs.zero {H : Hp} {D : Addr} {x : Str} {p : Nat → Bool} (nD : H D = none) : Signs H D x p 0 (upd H D (.lst [])) := ⟨same_new nD, upd_same⟩
theorem Signs.step {H H1 : Hp} {D : Addr} {x : Str} {p : Nat → Bool} {i c : Nat} {y : V} (h : Signs H D x p i H1) (nD : H D = none) (hl : x.length ≤ 1000) (hc : x.cps[i]? = some c) (hy : y = .bl (p c)) :
    ∃ acc, H1 D = some (.lst acc) ∧ acc.length < sizeLine ∧ Signs H D x p (i + 1) (upd H1 D (.lst (acc ++ [y]))) := by
  obtain ⟨s1, h1⟩ := h
  subst hy
  have hc' : (tl x)[i]? = some c := by
    rw [← hc]
    simp [tl]
  refine ⟨_, h1, ?_, same_fresh s1 nD, ?_⟩
  · rw [List.length_map, List.length_map]
    rw [len_tl] at hl
    have h2 : ((tl x).take i).length ≤ (tl x).length := by rw [List.length_take]; omega
    exact Nat.lt_of_le_of_lt (Nat.le_trans h2 hl) (by decide)
  · rw [upd_same]
    have : (tl x).take (i + 1) = (tl x).take i ++ [c] := by
      rw [List.take_succ, hc']
      rfl
    rw [this, List.map_append, List.map_append]
    rfl
theorem Signs.done {H H1 : Hp} {D : Addr} {x : Str} {p : Nat → Bool} (h : Signs H D x p x.cps.size H1) : Same H H1 ∧ H1 D = some (.lst (((tl x).map p).map V.bl)) := by
  refine ⟨h.1, ?_⟩
  rw [h.2, List.take_of_length_le (by simp [tl])]
theorem nameL_if {x : Str} {b : Bool} (h1 : 1 ≤ x.length) (h2 : x.length ≤ 8) (h3 : decide ((tl x).headD 0 ∈ smallL) = b) : isNameV (.str x) = (b && ((tl x).map fun c => decide (c ∈ nameL)).all id) := by
  show isNameL (tl x) = _
  unfold isNameL
  rw [len_tl] at h1 h2
  rw [decide_eq_true h1, decide_eq_true h2, h3, List.all_map]
  rfl
theorem nameL_not {x : Str} (h : ¬ (1 ≤ x.length ∧ x.length ≤ 8)) : isNameV (.str x) = false := by
  show isNameL (tl x) = false
  cases e : isNameL (tl x) with
  | false => rfl
  | true =>
    have := (isNameL_iff _).mp e
    rw [len_tl] at h
    exact absurd ⟨this.1, this.2.1⟩ h
section
variable {P : Program} {w : World} {K : PySem.W.Frag} {mg : Str → Option Value} {base : Heap}
def sp_name (K : PySem.W.Frag) : Sp := fun vs H Q _ => ∃ v, vs = [v] ∧ Thing K H v ∧ ∀ H', Same H H' → Q (.bl (isNameV v)) H'
theorem ok_is_name (T : Txt K mg) {f : Addr} {fd : FuncData} (F : Fun K "is_name" "is_name" s_is_name f fd) : FnG P w K mg base CX0 1 f fd ["value"] (sp_name K) := by
  refine okG F sc_is_name (fun vs H Q E h => ?_) (fun cdv A outer s H vs Q E hg hr h => ?_)
  · obtain ⟨v, rfl, _⟩ := h
    rfl
  · obtain ⟨v, rfl, hv, q⟩ := h
    refine ⟨_, (pss_cons (ps_if (PW.pt (pw_or (pt_not (pt_val (pe_callB call_isi rfl T.b_isinstance bt_isinstance (pa_cons (pv 0) (pa_cons (pe_bltn (v := .ty "str") rfl T.b_str bt_str rfl) pa_nil))))) (pw_or (pt_not (pt_chain op_le op_le pe_int (pe_callB call_len_str rfl T.b_len bt_len (pa_cons (pv 0) pa_nil)) (pe_const T.m_LONGEST rfl))) (pw_or1 (pt_cmpR op_notIn_sign (pe_ix ix_str (pv 0) pe_int (fun _ _ => rfl)) (pe_const T.m_SMALL rfl) rfl))))) (pss_one (ps_ret pe_bl)) pss_nil)
    (pss_one (ps_ret (pe_callB (cr_all rfl) rfl T.b_all bt_all (pa_cons (pe_lc (own := [("sign", 1)]) rfl sc_is_name.nd (pi_str (pv 0)) (blkOk_by (own := [("sign", 1)]) (N := N_is_name) (sc := defScope s_is_name) (by decide +kernel)) (fun _ _ _ _ _ => (pg_name (i := 1) sc_is_name.nd rfl (Or.inl rfl))) (fun _ _ _ _ _ => pts_nil) (fun _ _ _ _ _ => (pe_cmpR op_in_sign (pv 1) (pe_const T.m_NAMING rfl) rfl))) pa_nil))))), ?_⟩
    rcases hv with ⟨x, rfl, hx⟩ | ⟨t, ht, hm⟩
    · refine ⟨_, rfl, _, _, _, _, _, rfl, .ty _, .base (.str x), kit_yes, _, rfl, ?_⟩
      have hz : x.length ≤ sizeLine := Nat.le_trans hx (by decide)
      refine ⟨_, rfl, _, rfl, hz, _, _, rfl, rfl, _, rfl, ?_⟩
      by_cases h1 : 1 ≤ x.length
      · rw [decide_eq_true (show (1 : Int) ≤ (x.length : Int) by omega)]
        refine ⟨_, _, rfl, rfl, _, rfl, ?_⟩
        by_cases h8 : x.length ≤ 8
        · rw [decide_eq_true (show (x.length : Int) ≤ 8 by omega)]
          refine ⟨_, rfl, _, _, _, rfl, rfl, hz, head_at h1, _, _, rfl, rfl, _, rfl, ?_⟩
          rw [show ("abcdefghijklmnopqrstuvwxyz" : Str).cps.toList = smallL from tl_small]
          by_cases hh : (tl x).headD 0 ∈ smallL
          · rw [decide_eq_true hh]
            refine ⟨_, rfl, x, rfl, fun D nD => ?_⟩
            refine lc_it walk_str (Signs H D x fun c => decide (c ∈ nameL)) (.zero nD) (fun _ _ _ _ => trivial) ?_ ?_
            · rintro i v H1 H2 hi hs ⟨rfl, c, hc, rfl⟩
              refine ⟨rfl, ?_⟩
              refine ⟨_, rfl, c, _, rfl, rfl, hs.step nD hx hc ?_⟩
              rw [show ("abcdefghijklmnopqrstuvwxyz0123456789" : Str).cps.toList = nameL from tl_naming]
            · rintro H1 hs
              obtain ⟨s1, hD⟩ := hs.done
              refine ⟨D, _, rfl, SqL.of hD, ?_⟩
              have := q _ s1
              rw [nameL_if h1 h8 (decide_eq_true hh)] at this
              exact this
          · rw [decide_eq_false hh]
            have := q _ (Same.refl H)
            rw [nameL_if h1 h8 (decide_eq_false hh)] at this
            exact this
        · rw [decide_eq_false (show ¬ (x.length : Int) ≤ 8 by omega)]
          have := q _ (Same.refl H)
          rw [nameL_not (fun z => h8 z.2)] at this
          exact this
      · rw [decide_eq_false (show ¬ (1 : Int) ≤ (x.length : Int) by omega)]
        refine ⟨_, rfl, ?_⟩
        have := q _ (Same.refl H)
        rw [nameL_not (fun z => h1 z.1)] at this
        exact this
    · refine ⟨_, rfl, _, _, _, _, _, rfl, .ty _, .base ht, kit_no hm, _, rfl, ?_⟩
      have := q _ (Same.refl H)
      rw [nameV_no ht hm] at this
      exact this
theorem ok_law_is_name (T : Txt K mg) {f : Addr} {fd : FuncData} (F : Fun K "_law_is_name" "_law_is_name" s_law_is_name f fd) : FnG P w K mg base CX0 1 f fd ["_law_thing_here"] (sp_name K) := by
  refine okG F sc_law_is_name (fun vs H Q E h => ?_) (fun cdv A outer s H vs Q E hg hr h => ?_)
  · obtain ⟨v, rfl, _⟩ := h
    rfl
  · obtain ⟨v, rfl, hv, q⟩ := h
    refine ⟨_, (pss_cons (ps_if (PW.pt (pw_or (pt_not (pt_val (pe_callB call_isi rfl T.b_isinstance bt_isinstance (pa_cons (pv 0) (pa_cons (pe_bltn (v := .ty "str") rfl T.b_str bt_str rfl) pa_nil))))) (pw_or1 (pt_not (pt_chain op_lt op_lt pe_int (pe_callB call_len_str rfl T.b_len bt_len (pa_cons (pv 0) pa_nil)) pe_int))))) (pss_one (ps_ret pe_bl)) pss_nil)
    (pss_cons (ps_set (i := 1) sc_law_is_name.nd rfl (Or.inr rfl) pe_str)
    (pss_one (ps_ret (pe_and (pe_cmpR op_in_sign (pe_ix ix_str (pv 0) pe_int (fun _ _ => rfl)) (pv 1) rfl) (pe_one (pe_callB (cr_all rfl) rfl T.b_all bt_all (pa_cons (pe_lc (own := [("_law_sign", 2)]) rfl sc_law_is_name.nd (pi_str (pv 0)) (blkOk_by (own := [("_law_sign", 2)]) (N := N_law_is_name) (sc := defScope s_law_is_name) (by decide +kernel)) (fun _ _ _ _ _ => (pg_name (i := 2) sc_law_is_name.nd rfl (Or.inl rfl))) (fun _ _ _ _ _ => pts_nil) (fun _ _ _ _ _ => (pe_or (pe_cmpR op_in_sign (pv 2) (pv 1) rfl) (pe_one (pe_cmpR op_in_sign (pv 2) pe_str rfl))))) pa_nil)))))))), ?_⟩
    rcases hv with ⟨x, rfl, hx⟩ | ⟨t, ht, hm⟩
    · refine ⟨_, rfl, _, _, _, _, _, rfl, .ty _, .base (.str x), kit_yes, _, rfl, ?_⟩
      have hz : x.length ≤ sizeLine := Nat.le_trans hx (by decide)
      refine ⟨_, rfl, _, rfl, hz, _, _, rfl, rfl, _, rfl, ?_⟩
      by_cases h1 : 1 ≤ x.length
      · rw [decide_eq_true (show (0 : Int) < (x.length : Int) by omega)]
        refine ⟨_, _, rfl, rfl, _, rfl, ?_⟩
        by_cases h8 : x.length ≤ 8
        · rw [decide_eq_true (show (x.length : Int) < 9 by omega)]
          refine ⟨_, rfl, _, _, _, rfl, rfl, hz, head_at h1, _, rfl, _, _, rfl, rfl, _, rfl, ?_⟩
          rw [show ("abcdefghijklmnopqrstuvwxyz" : Str).cps.toList = smallL from tl_small]
          by_cases hh : (tl x).headD 0 ∈ smallL
          · rw [decide_eq_true hh]
            refine ⟨_, rfl, x, rfl, fun D nD => ?_⟩
            refine lc_it walk_str (Signs H D x fun c => decide (c ∈ nameL)) (.zero nD) (fun _ _ _ _ => trivial) ?_ ?_
            · rintro i v H1 H2 hi hs ⟨rfl, c, hc, rfl⟩
              refine ⟨rfl, ?_⟩
              refine ⟨_, rfl, _, rfl, c, _, rfl, rfl, _, rfl, ?_⟩
              rw [show ("abcdefghijklmnopqrstuvwxyz" : Str).cps.toList = smallL from tl_small]
              have key := naming_iff c
              by_cases hc2 : c ∈ smallL
              · rw [decide_eq_true hc2] at key ⊢
                exact hs.step nD hx hc (by rw [← key]; rfl)
              · rw [decide_eq_false hc2] at key ⊢
                exact ⟨_, rfl, c, _, rfl, rfl, hs.step nD hx hc (by rw [← key]; rfl)⟩
            · rintro H1 hs
              obtain ⟨s1, hD⟩ := hs.done
              refine ⟨D, _, rfl, SqL.of hD, ?_⟩
              have := q _ s1
              rw [nameL_if h1 h8 (decide_eq_true hh)] at this
              exact this
          · rw [decide_eq_false hh]
            have := q _ (Same.refl H)
            rw [nameL_if h1 h8 (decide_eq_false hh)] at this
            exact this
        · rw [decide_eq_false (show ¬ (x.length : Int) < 9 by omega)]
          have := q _ (Same.refl H)
          rw [nameL_not (fun z => h8 z.2)] at this
          exact this
      · rw [decide_eq_false (show ¬ (0 : Int) < (x.length : Int) by omega)]
        refine ⟨_, rfl, ?_⟩
        have := q _ (Same.refl H)
        rw [nameL_not (fun z => h1 z.1)] at this
        exact this
    · refine ⟨_, rfl, _, _, _, _, _, rfl, .ty _, .base ht, kit_no hm, _, rfl, ?_⟩
      have := q _ (Same.refl H)
      rw [nameV_no ht hm] at this
      exact this
end
end K1

namespace K1
open PySem L2 Ft
theorem len_app (x y : Str) : (x ++ y).length = x.length + y.length := by
  rw [len_tl, tl_app, List.length_append, ← len_tl, ← len_tl]
def bentW : List Str := ["A", "_", "-", " ", "\n", "~", "Z", "."]
theorem bentW_len : ∀ x ∈ bentW, x.length ≤ 1 := by decide +kernel
section
variable {P : Program} {w : World} {K : PySem.W.Frag} {mg : Str → Option Value} {base : Heap}
def sp_law_thing (K : PySem.W.Frag) : Sp := fun vs H Q _ => ∃ d : Addr, vs = [.ref d] ∧ Deal H d ∧ ∀ v H', Thing K H' v → Mv d H H' → Deal H' d → Q v H'
theorem ok_law_thing (T : Txt K mg) (F_law_pick : Has P w K mg base CX0 1 "_law_pick" ["_law_deal_here", "_law_many"] sp_law_pick) (F_law_word : Has P w K mg base CX0 2 "_law_word" ["_law_deal_here", "_law_taken"] (sp_law_word K))
    {f : Addr} {fd : FuncData} (F : Fun K "_law_thing" "_law_thing" s_law_thing f fd) : FnG P w K mg base CX0 3 f fd ["_law_deal_here"] (sp_law_thing K) := by
  refine okG F sc_law_thing (fun vs H Q E h => ?_) (fun cdv A outer s H vs Q E hg hr h => ?_)
  · obtain ⟨d, rfl, _⟩ := h
    rfl
  · obtain ⟨d, rfl, hd, q⟩ := h
    refine ⟨_, (pss_cons (ps_par (i := 1) (j := 2) (by rfl) sc_law_thing.nd rfl rfl (by decide) rfl rfl (pa_cons (pe_f F_law_word hg (hr.mono (by decide)) pass0 rfl (pa_cons (pv 0) (pa_cons (pe_lst pa_nil) pa_nil))) (pa_cons (pe_f F_law_pick hg (hr.mono (by decide)) pass0 rfl (pa_cons (pv 0) (pa_cons pe_int pa_nil))) pa_nil)) (by rfl))
    (pss_cons (ps_if (pt_cmpR op_eq (pv 2) pe_int (nomark _)) (pss_one (ps_ret (pe_ix ix_list (pe_lst (pa_cons pe_non (pa_cons pe_bl (pa_cons pe_int (pa_cons (pe_tup (pa_cons (pv 1) pa_nil)) (pa_cons (pe_lst (pa_cons (pv 1) pa_nil)) (pa_cons pe_dnewK (pa_cons (pe_op op_pow pe_int pe_int) (pa_cons pe_str (pa_cons pe_str (pa_cons (pe_tup pa_nil) pa_nil))))))))))) (pe_f F_law_pick hg (hr.mono (by decide)) pass0 rfl (pa_cons (pv 0) (pa_cons pe_int pa_nil))) (fun _ _ => rfl)))) pss_nil)
    (pss_cons (ps_if (pt_cmpR op_eq (pv 2) pe_int (nomark _)) (pss_one (ps_ret (pe_op op_add_str (pv 1) (pe_slice sl_str pe_str po_none (po_some (pe_f F_law_pick hg (hr.mono (by decide)) pass0 rfl (pa_cons (pv 0) (pa_cons pe_int pa_nil)))))))) pss_nil)
    (pss_cons (ps_if (pt_cmpR op_eq (pv 2) pe_int (nomark _)) (pss_cons (ps_set (i := 3) sc_law_thing.nd rfl (Or.inl rfl) (pe_f F_law_pick hg (hr.mono (by decide)) pass0 rfl (pa_cons (pv 0) (pa_cons (pe_op op_add (pe_callB call_len_str rfl T.b_len bt_len (pa_cons (pv 1) pa_nil)) pe_int) pa_nil))))
    (pss_one (ps_ret (pe_op op_add_str (pe_op op_add_str (pe_slice sl_str (pv 1) po_none (po_some (pv 3))) (pe_ix ix_list (pe_lst (pa_cons pe_str (pa_cons pe_str (pa_cons pe_str (pa_cons pe_str (pa_cons pe_str (pa_cons pe_str (pa_cons pe_str (pa_cons pe_str pa_nil))))))))) (pe_f F_law_pick hg (hr.mono (by decide)) pass0 rfl (pa_cons (pv 0) (pa_cons pe_int pa_nil))) (fun _ _ => rfl))) (pe_slice sl_str (pv 1) (po_some (pv 3)) po_none))))) pss_nil)
    (pss_one (ps_ret (pe_ifExp (pt_cmpR op_eq (pv 2) pe_int (nomark _)) (pe_op op_add_str (pe_ix ix_str pe_str (pe_f F_law_pick hg (hr.mono (by decide)) pass0 rfl (pa_cons (pv 0) (pa_cons pe_int pa_nil))) (fun _ _ => rfl)) (pe_slice sl_str (pv 1) (po_some pe_int) po_none)) (pv 1)))))))), ?_⟩
    refine ⟨_, rfl, by show 0 ≤ sizeLine; decide, fun p0 n0 => ⟨d, p0, [], rfl, hd.new n0, SqL.of upd_same, hd.ne n0, by decide, fun x H1 hx _ m1 d1 => ?_⟩⟩
    have lx := isName_len hx
    have zx : x.length ≤ sizeLine := Nat.le_trans lx.2 (by decide)
    have M1 : Mv d H H1 := ((Mv.refl d H).new n0).trans m1
    refine ⟨_, rfl, d, 6, rfl, d1, by decide, by decide, fun way H2 w0 w1 m2 d2 => ⟨_, _, rfl, ?_⟩⟩
    have M2 : Mv d H H2 := M1.trans m2
    refine ⟨_, rfl, rfl, _, rfl, ?_⟩
    refine ite2 (fun c => ?_) (fun c => ?_)
    · -- another value
      refine ⟨_, rfl, by show 1 ≤ sizeLine; decide, fun p1 n1 => ⟨_, rfl, by show 1 ≤ sizeLine; decide, fun p2 n2 => ?_⟩⟩
      refine fun p3 n3 => ⟨_, _, rfl, rfl, ⟨by decide, by decide, by decide⟩, by show 0 ≤ sizeLine; decide, fun p4 n4 => ⟨by show 10 ≤ sizeLine; decide, fun p5 n5 => ?_⟩⟩
      have D3 : Deal _ d := ((((d2.new (o := .tup [.str x]) n1).new (o := .lst [.str x]) n2).new (o := .dK []) n3).new (o := .tup []) n4).new (o := .lst [.non, .bl true, .int 0, .ref p1, .ref p2, .ref p3, .int (10 ^ 39), .str "", .str " ", .ref p4]) n5
      refine ⟨_, rfl, d, 10, rfl, D3, by decide, by decide, fun r H3 r0 r1 m3 d3 => ?_⟩
      have e1 : p1 ≠ d := d2.ne n1
      have e2 : p2 ≠ d := (d2.new n1).ne n2
      have e3 : p3 ≠ d := ((d2.new n1).new n2).ne n3
      have e4 : p4 ≠ d := (((d2.new n1).new n2).new n3).ne n4
      have e5 : p5 ≠ d := ((((d2.new n1).new n2).new n3).new n4).ne n5
      have f5 : H3 p5 = some (.lst [.non, .bl true, .int 0, .ref p1, .ref p2, .ref p3, .int (10 ^ 39), .str "", .str " ", .ref p4]) := m3 _ _ e5 upd_same
      have f4 : H3 p4 = some (.tup []) := m3 _ _ e4 (same_new n5 _ _ upd_same)
      have f3 : H3 p3 = some (.dK []) := m3 _ _ e3 (same_new n5 _ _ (same_new n4 _ _ upd_same))
      have f2 : H3 p2 = some (.lst [.str x]) := m3 _ _ e2 (same_new n5 _ _ (same_new n4 _ _ (same_new n3 _ _ upd_same)))
      have f1 : H3 p1 = some (.tup [.str x]) := m3 _ _ e1 (same_new n5 _ _ (same_new n4 _ _ (same_new n3 _ _ (same_new n2 _ _ upd_same))))
      obtain ⟨v, hv, av⟩ := at_lt (xs := [V.non, .bl true, .int 0, .ref p1, .ref p2, .ref p3, .int (10 ^ 39), .str "", .str " ", .ref p4]) r0 (by show r < 10; omega)
      refine ⟨p5, _, _, v, rfl, rfl, SqL.of f5, av, q v H3 ?_ ((((((M2.new n1).new n2).new n3).new n4).new n5).trans m3) d3⟩
      simp only [List.mem_cons, List.not_mem_nil, or_false] at hv
      rcases hv with rfl | rfl | rfl | rfl | rfl | rfl | rfl | rfl | rfl | rfl
      · exact .inr ⟨_, .non, by decide⟩
      · exact .inr ⟨_, .bl _, by decide⟩
      · exact .inr ⟨_, .int _, by decide⟩
      · exact .inr ⟨_, .tup f1, by decide⟩
      · exact .inr ⟨_, .lst f2, by decide⟩
      · exact .inr ⟨_, .dK f3, by decide⟩
      · exact .inr ⟨_, .int _, by decide⟩
      · exact .inl ⟨_, rfl, by decide +kernel⟩
      · exact .inl ⟨_, rfl, by decide +kernel⟩
      · exact .inr ⟨_, .tup f4, by decide⟩
    · refine ⟨_, rfl, rfl, _, rfl, ?_⟩
      refine ite2 (fun c => ?_) (fun c => ?_)
      · refine ⟨_, rfl, _, rfl, d, 10, rfl, d2, by decide, by decide, fun r H3 r0 r1 m3 d3 => ?_⟩
        have hc := cutS_length ("abcdefghij" : Str) none (some r)
        rw [show ("abcdefghij" : Str).length = 10 by decide +kernel] at hc
        refine ⟨_, rfl, _, rfl, by decide +kernel, _, _, rfl, rfl, ?_, q _ H3 (.inl ⟨_, rfl, ?_⟩) (M2.trans m3) d3⟩
        · exact Nat.le_trans (show _ ≤ 18 by omega) (by decide)
        · rw [len_app]
          omega
      · refine ⟨_, rfl, rfl, _, rfl, ?_⟩
        refine ite2 (fun c => ?_) (fun c => ?_)
        · refine ⟨_, rfl, _, rfl, _, rfl, zx, _, _, rfl, rfl, d, _, rfl, d2, by omega, by omega, fun r H3 r0 r1 m3 d3 => ?_⟩
          refine ⟨_, rfl, _, rfl, _, rfl, _, rfl, zx, by show 8 ≤ sizeLine; decide, fun p np => ⟨_, rfl, d, 8, rfl, d3.new np, by decide, by decide, fun r' H4 r0' r1' m4 d4 => ?_⟩⟩
          have hp : H4 p = some (.lst (bentW.map V.str)) := m4 _ _ (d3.ne np) upd_same
          obtain ⟨v, hv, av⟩ := at_lt (xs := bentW.map V.str) r0' (by show r' < 8; omega)
          obtain ⟨y, hy, rfl⟩ := List.mem_map.mp hv
          have ly := bentW_len y hy
          have k1 := cutS_length x none (some r)
          have k2 := cutS_length x (some r) none
          refine ⟨p, _, _, _, rfl, rfl, SqL.of hp, av, _, _, rfl, rfl, ?_, _, rfl, _, rfl, _, rfl, _, rfl, zx, _, _, rfl, rfl, ?_, q _ H4 (.inl ⟨_, rfl, ?_⟩) (((M2.trans m3).new np).trans m4) d4⟩
          · exact Nat.le_trans (show _ ≤ 18 by omega) (by decide)
          · rw [len_app]
            exact Nat.le_trans (show _ ≤ 18 by omega) (by decide)
          · rw [len_app, len_app]
            omega
        · refine ⟨_, rfl, rfl, _, rfl, ?_⟩
          refine ite2 (fun c => ?_) (fun c => ?_)
          · refine ⟨_, rfl, d, 10, rfl, d2, by decide, by decide, fun r H3 r0 r1 m3 d3 => ?_⟩
            obtain ⟨cc, hc, ac⟩ := at_ltN (l := tl ("0123456789" : Str)) r0 (by rw [← len_tl, show ("0123456789" : Str).length = 10 by decide +kernel]; omega)
            have k2 := cutS_length x (some 1) none
            refine ⟨_, _, cc, rfl, rfl, by decide +kernel, ac, _, rfl, _, rfl, _, rfl, zx, _, _, rfl, rfl, ?_, q _ H3 (.inl ⟨_, rfl, ?_⟩) (M2.trans m3) d3⟩
            · exact Nat.le_trans (show _ ≤ 18 by show 1 + _ ≤ 18; omega) (by decide)
            · rw [len_app]
              show 1 + _ ≤ 1000
              omega
          · exact ⟨_, rfl, q _ H2 (.inl ⟨_, rfl, by omega⟩) M2 d2⟩
end
end K1

namespace K1
open PySem L2 Ft
theorem show2 (b : Bool) : (PyData.list [.bool b, .bool b]).shown.length ≤ sizeLine := by cases b <;> decide +kernel
theorem depth2 (b : Bool) : (PyData.list [.bool b, .bool b]).depth ≤ 60 := by cases b <;> decide +kernel
section
variable {P : Program} {w : World} {K : PySem.W.Frag} {mg : Str → Option Value} {base : Heap}
def sp_law_right : Sp := fun vs H Q _ => ∃ d : Addr, vs = [.ref d] ∧ Deal H d ∧ ∀ H', Mv d H H' → Q (.bl true) H'
theorem ok_law_right (T : Txt K mg) (F_law_thing : Has P w K mg base CX0 3 "_law_thing" ["_law_deal_here"] (sp_law_thing K)) (F_is_name : Has P w K mg base CX0 1 "is_name" ["value"] (sp_name K))
    (Fk_is_name : HasK P w K mg base CX0 1 "is_name" ["value"] 0 ["value"] (fun us ws => us ++ ws) (sp_name K)) (F_law_is_name : Has P w K mg base CX0 1 "_law_is_name" ["_law_thing_here"] (sp_name K))
    {f : Addr} {fd : FuncData} (F : Fun K "_law_right" "_law_right" s_law_right f fd) : FnG P w K mg base CX0 4 f fd ["_law_deal_here"] sp_law_right := by
  refine okG F sc_law_right (fun vs H Q E h => ?_) (fun cdv A outer s H vs Q E hg hr h => ?_)
  · obtain ⟨d, rfl, _⟩ := h
    rfl
  · obtain ⟨d, rfl, hd, q⟩ := h
    have hu64 := hr.units
    refine ⟨_, (pss_cons (ps_for PassesOwn.never rfl (pi_range1 rfl T.b_range (pa_cons pe_int pa_nil)) (pg_name (i := 1) sc_law_right.nd rfl (Or.inl rfl)) (pss_cons (ps_set (i := 2) sc_law_right.nd rfl (Or.inl rfl) (pe_f F_law_thing hg (hr.mono (by decide)) pass0 rfl (pa_cons (pv 0) pa_nil)))
    (pss_one (ps_if (pt_cmpR op_ne (pe_callB (call_reprD hg hu64) rfl T.b_repr bt_repr (pa_cons (pe_lst (pa_cons (pe_f F_is_name hg (hr.mono (by decide)) pass0 rfl (pa_cons (pv 2) pa_nil)) (pa_cons (pe_fk0 Fk_is_name hg (hr.mono (by decide)) pass0 rfl (pk_cons (pv 2) pk_nil)) pa_nil))) pa_nil)) (pe_callB (call_reprD hg hu64) rfl T.b_repr bt_repr (pa_cons (pe_op op_rep (pe_lst (pa_cons (pe_f F_law_is_name hg (hr.mono (by decide)) pass0 rfl (pa_cons (pv 2) pa_nil)) pa_nil)) pe_int) pa_nil)) (nomark _)) (pss_one (ps_ret pe_bl)) pss_nil))))
    (pss_one (ps_ret pe_bl))), ?_⟩
    refine ⟨_, rfl, by decide, by decide, for_range (lo := 0) (n := 12) (fun i σ H' => ∃ u v : Option V, σ = [some (.ref d), u, v] ∧ Mv d H H' ∧ Deal H' d) ⟨_, _, rfl, Mv.refl d H, hd⟩ ?_ ?_⟩
    · rintro i σ H1 hi ⟨u, v, rfl, m1, d1⟩
      refine ⟨_, rfl, d, rfl, d1, fun v H2 hv m2 d2 => ?_⟩
      have tup : ∀ {H H' : Hp}, Same H H' → Thing K H v → Thing K H' v := by
        rintro H H' s1 (z | ⟨t, ht, hm⟩)
        · exact .inl z
        · refine .inr ⟨t, ?_, hm⟩
          cases ht with
          | non => exact .non
          | bl b => exact .bl b
          | int i => exact .int i
          | str x => exact .str x
          | flt x => exact .flt x
          | lst e => exact .lst (s1 _ _ e)
          | frz e => exact .frz (s1 _ _ e)
          | tup e => exact .tup (s1 _ _ e)
          | dK e => exact .dK (s1 _ _ e)
          | dT e => exact .dT (s1 _ _ e)
      refine ⟨_, rfl, v, rfl, hv, fun H3 s3 => ⟨_, rfl, rfl, rfl, v, rfl, tup s3 hv, fun H4 s4 => ⟨by show 2 ≤ sizeLine; decide, fun p np => ?_⟩⟩⟩
      refine ⟨p, .list [.bool (isNameV v), .bool (isNameV v)], rfl, .lst (SqL.of upd_same) (.cons (.bl _) (.cons (.bl _) .nil)), rfl, rfl, depth2 _, show2 _, ?_⟩
      have s5 : Same H2 (upd H4 p (.lst [.bl (isNameV v), .bl (isNameV v)])) := (s3.trans s4).trans (same_new np)
      refine ⟨_, rfl, v, rfl, tup s5 hv, fun H5 s6 => ⟨by show 1 ≤ sizeLine; decide, fun p2 np2 => ?_⟩⟩
      refine ⟨p2, 2, _, rfl, rfl, upd_same, by decide, by decide, by show 1 * 2 ≤ sizeLine; decide, fun p3 np3 => ?_⟩
      refine ⟨p3, .list [.bool (isNameV v), .bool (isNameV v)], rfl, .lst (SqL.of upd_same) (.cons (.bl _) (.cons (.bl _) .nil)), rfl, rfl, depth2 _, show2 _, rfl, _, rfl, ?_⟩
      have S : Same H2 (upd (upd H5 p2 (.lst [.bl (isNameV v)])) p3 (.lst [.bl (isNameV v), .bl (isNameV v)])) := ((s5.trans s6).trans (same_new np2)).trans (same_new np3)
      rw [decide_eq_true rfl]
      exact ⟨_, _, rfl, (m1.trans m2).trans (Mv.same S), d2.same S⟩
    · rintro σ H1 ⟨u, v, rfl, m1, d1⟩
      exact q _ m1
def sp_law (K : PySem.W.Frag) : Sp := fun vs H Q _ => ∃ (a : Addr) (ns : List Int), vs = [.ref a] ∧ SqL K H a (ns.map V.int) ∧ ns.length ≤ 63 ∧ ∀ H', Q (.bl true) H'
theorem ok_law (T : Txt K mg) (F_law_number : Has P w K mg base CX0 1 "_law_number" ["_law_cells", "_law_k"] (sp_law_number K)) (F_law_deal : Has P w K mg base CX0 1 "_law_deal" ["_law_number_here"] sp_law_deal)
    (F_law_right : Has P w K mg base CX0 4 "_law_right" ["_law_deal_here"] sp_law_right) {f : Addr} {fd : FuncData} (F : Fun K "law" "law" s_law f fd) : FnG P w K mg base CX0 5 f fd ["_law_cells"] (sp_law K) := by
  refine okG F sc_law (fun vs H Q E h => ?_) (fun cdv A outer s H vs Q E hg hr h => ?_)
  · obtain ⟨d, _, rfl, _⟩ := h
    rfl
  · obtain ⟨a, ns, rfl, hS, hlen, q⟩ := h
    refine ⟨_, (pss_one (ps_ret (pe_callB (cr_all rfl) rfl T.b_all bt_all (pa_cons (pe_lc (own := [("_law_k", 1)]) rfl sc_law.nd (pi_range1 rfl T.b_range (pa_cons (pe_callB (call_max2 rfl) rfl T.b_max bt_max (pa_cons pe_int (pa_cons (pe_callB (call_min2 rfl) rfl T.b_min bt_min (pa_cons (pe_callB call_len_seq rfl T.b_len bt_len (pa_cons (pv 0) pa_nil)) (pa_cons pe_int pa_nil))) pa_nil))) pa_nil)) (blkOk_by (own := [("_law_k", 1)]) (N := N_law) (sc := defScope s_law) (by decide +kernel)) (fun _ _ _ _ _ => (pg_name (i := 1) sc_law.nd rfl (Or.inl rfl))) (fun _ _ _ _ _ => pts_nil) (fun _ _ _ _ _ => (pe_f F_law_right hg (hr.mono (by decide)) pass0 rfl (pa_cons (pe_f F_law_deal hg (hr.mono (by decide)) pass0 rfl (pa_cons (pe_f F_law_number hg (hr.mono (by decide)) pass0 rfl (pa_cons (pv 0) (pa_cons (pv 1) pa_nil))) pa_nil)) pa_nil)))) pa_nil)))), ?_⟩
    refine ⟨_, rfl, a, _, rfl, .inl hS, _, _, rfl, _, _, rfl, ?_⟩
    rw [List.length_map]
    obtain ⟨n, hn, hn5⟩ : ∃ n : Nat, (if (if (5 : Int) < (ns.length : Int) then (5 : Int) else (ns.length : Int)) > 2 then (if (5 : Int) < (ns.length : Int) then (5 : Int) else (ns.length : Int)) else 2) = (n : Int) ∧ n ≤ 5 := by
      by_cases h1 : (5 : Int) < (ns.length : Int)
      · rw [if_pos h1, if_pos (by decide)]
        exact ⟨5, rfl, by decide⟩
      · rw [if_neg h1]
        by_cases h2 : (ns.length : Int) > 2
        · rw [if_pos h2]
          exact ⟨ns.length, rfl, by omega⟩
        · rw [if_neg h2]
          exact ⟨2, rfl, by decide⟩
    rw [hn]
    refine ⟨_, rfl, by omega, by omega, fun D nD => ?_⟩
    refine lc_range (lo := 0) (n := _) (fun i H1 => H1 D = some (.lst ((List.replicate i true).map V.bl)) ∧ Same H H1) ⟨upd_same, same_new nD⟩ ?_ ?_
    · rintro i H1 hi ⟨hD, s1⟩
      have hi5 : i < 5 := by
        have : ((n : Int)).toNat = n := by omega
        omega
      refine ⟨rfl, ?_⟩
      refine ⟨_, rfl, _, rfl, a, _, ns, rfl, s1.seq hS, by omega, by omega, fun r H2 s2 => ⟨r, rfl, fun p H3 np s3 d3 => ⟨p, rfl, d3, fun H4 m4 => ?_⟩⟩⟩
      have hp1 : p ≠ D := (ne_of_none (s2 _ _ hD) np).symm
      have keep : Same H H4 := fun b o hb => by
        have h3 := s3 _ _ (s2 _ _ (s1 _ _ hb))
        have : b ≠ p := ne_of_none (s2 _ _ (s1 _ _ hb)) np
        exact m4 _ _ this h3
      refine ⟨_, m4 _ _ hp1.symm (s3 _ _ (s2 _ _ hD)), ?_, ?_, same_fresh keep nD⟩
      · rw [List.length_map, List.length_replicate]
        exact Nat.lt_of_lt_of_le hi5 (by decide)
      · rw [upd_same, List.replicate_succ', List.map_append]
        rfl
    · rintro H1 ⟨hD, s1⟩
      refine ⟨D, _, rfl, SqL.of hD, ?_⟩
      have : ∀ m : Nat, (List.replicate m true).all id = true := fun m => by
        rw [List.all_eq_true]
        intro b hb
        rw [(List.mem_replicate.mp hb).2]
        rfl
      rw [this]
      exact q _
end
end K1

namespace K1
open PySem L2 Ft
theorem all_mk {P : Program} {w : World} {K : PySem.W.Frag} {mg : Str → Option Value} {base : Heap} (T : Txt K mg) {f1 f2 f3 f4 f5 f6 f7 f8 f9 : Addr} {d1 d2 d3 d4 d5 d6 d7 d8 d9 : FuncData}
    (A1 : DefAt K mg "_law_number" s_law_number f1 d1) (A2 : DefAt K mg "_law_deal" s_law_deal f2 d2) (A3 : DefAt K mg "_law_pick" s_law_pick f3 d3) (A4 : DefAt K mg "_law_word" s_law_word f4 d4)
    (A5 : DefAt K mg "is_name" s_is_name f5 d5) (A6 : DefAt K mg "_law_is_name" s_law_is_name f6 d6) (A7 : DefAt K mg "_law_thing" s_law_thing f7 d7) (A8 : DefAt K mg "_law_right" s_law_right f8 d8) (A9 : DefAt K mg "law" s_law f9 d9) :
    FnG P w K mg base CX0 5 f9 d9 ["_law_cells"] (sp_law K) := by
  have F1 : Has P w K mg base CX0 1 "_law_number" ["_law_cells", "_law_k"] (sp_law_number K) := A1.has (ok_law_number T) fun _ _ _ _ _ _ us hl => match us, hl with | [_, _], _ => rfl
  have F2 : Has P w K mg base CX0 1 "_law_deal" ["_law_number_here"] sp_law_deal := A2.has (ok_law_deal T) fun _ _ _ _ _ _ us hl => match us, hl with | [_], _ => rfl
  have F3 : Has P w K mg base CX0 1 "_law_pick" ["_law_deal_here", "_law_many"] sp_law_pick := A3.has (ok_law_pick T) fun _ _ _ _ _ _ us hl => match us, hl with | [_, _], _ => rfl
  have F4 : Has P w K mg base CX0 2 "_law_word" ["_law_deal_here", "_law_taken"] (sp_law_word K) := A4.has (ok_law_word T F3) fun _ _ _ _ _ _ us hl => match us, hl with | [_, _], _ => rfl
  have F5 : Has P w K mg base CX0 1 "is_name" ["value"] (sp_name K) := A5.has (ok_is_name T) fun _ _ _ _ _ _ us hl => match us, hl with | [_], _ => rfl
  have F5k : HasK P w K mg base CX0 1 "is_name" ["value"] 0 ["value"] (fun us ws => us ++ ws) (sp_name K) :=
    A5.hasK (ok_is_name T) (fun _ _ _ _ _ _ us ws h1 h2 => match us, h1, ws, h2 with | [], _, [_], _ => rfl) fun a b => a.append b
  have F6 : Has P w K mg base CX0 1 "_law_is_name" ["_law_thing_here"] (sp_name K) := A6.has (ok_law_is_name T) fun _ _ _ _ _ _ us hl => match us, hl with | [_], _ => rfl
  have F7 : Has P w K mg base CX0 3 "_law_thing" ["_law_deal_here"] (sp_law_thing K) := A7.has (ok_law_thing T F3 F4) fun _ _ _ _ _ _ us hl => match us, hl with | [_], _ => rfl
  have F8 : Has P w K mg base CX0 4 "_law_right" ["_law_deal_here"] sp_law_right := A8.has (ok_law_right T F7 F5 F5k F6) fun _ _ _ _ _ _ us hl => match us, hl with | [_], _ => rfl
  exact ok_law T F1 F2 F8 A9.fn
theorem walk {q : Program} {loose : List Str} {XP : (Str → Option Value) → Heap → Prop} {YP : World → Heap → Prop} {d : DefRec} {K : Params → PySem.W.Frag} {l : PySem.W.OpenLaw} (hn : l.most = some 63) (hdf : d.params.defaults = [])
    (hY : ∀ (w : World) (h : Heap), YP w h → (K w.params).In h)
    (F : ∀ (w : World) (mg : Str → Option Value) (fa : Addr) (h : Heap), (K w.params).In h → h.Ns mainGlobals mg → mg d.name = some (.ref fa) →
      ∃ fd : FuncData, (∀ (s : Shared) (u : Value), BindsTo s fd ⟨[u], []⟩ [("_law_cells", u)]) ∧
        ∀ base : Heap, (K w.params).In base → base.Ns mainGlobals mg → FnG l.prog w (K w.params) mg base CX0 5 fa fd ["_law_cells"] (sp_law (K w.params))) :
    PySem.W.WalkO q loose XP YP l.row.toRowW d [] (fun f vs => PySem.call f vs) :=
  walkG (n := 63) (k := 5) (x := "_law_cells") (sp := sp_law) hn (by decide) hdf ⟨rfl, by decide, by decide⟩ hY F fun K H a ns hl hS => ⟨a, ns, rfl, hS, hl, fun _ => rfl⟩
theorem fin_mk {P : Program} {w : World} {K : PySem.W.Frag} {mg : Str → Option Value} {fa : Addr} {h : Heap} (X : K.In h) (G : h.Ns mainGlobals mg) (hfa : mg "law" = some (.ref fa)) (T : Txt K mg) {f1 f2 f3 f4 f5 f6 f7 f8 f9 : Addr} {d1 d2 d3 d4 d5 d6 d7 d8 d9 : FuncData}
    (A1 : DefAt K mg "_law_number" s_law_number f1 d1) (A2 : DefAt K mg "_law_deal" s_law_deal f2 d2) (A3 : DefAt K mg "_law_pick" s_law_pick f3 d3) (A4 : DefAt K mg "_law_word" s_law_word f4 d4)
    (A5 : DefAt K mg "is_name" s_is_name f5 d5) (A6 : DefAt K mg "_law_is_name" s_law_is_name f6 d6) (A7 : DefAt K mg "_law_thing" s_law_thing f7 d7) (A8 : DefAt K mg "_law_right" s_law_right f8 d8) (A9 : DefAt K mg "law" s_law f9 d9) :
    ∃ fd : FuncData, (∀ (s : Shared) (u : Value), BindsTo s fd ⟨[u], []⟩ [("_law_cells", u)]) ∧ ∀ base : Heap, K.In base → base.Ns mainGlobals mg → FnG P w K mg base CX0 5 fa fd ["_law_cells"] (sp_law K) := by
  have e := hfa.symm.trans A9.at_
  cases e
  refine ⟨d9, fun s u => ?_, fun base _ _ => all_mk T A1 A2 A3 A4 A5 A6 A7 A8 A9⟩
  obtain ⟨_, _, kV, doc, pm, an, cdv, ct, _, e, _, _⟩ := A9.fn.ex
  subst e
  exact .of_eq rfl
end K1
open PySem PySem.W PyProof.Rows in
set_option maxRecDepth 100000 in
set_option maxHeartbeats 0 in
theorem PySem.Challenge.cw_fivetrees_k01_names_holds : PySem.Challenge.rw_fivetrees_k01_names.Holds := by
  w_on; o_law; k_head; (case hw => w_witness2)
  k_fill
  refine K1.walk (l := PySem.Challenge.rw_fivetrees_k01_names) rfl rfl (fun w h Y => PySem.W.kIn_of Y) ?F
  case F =>
    intro w mg fa h KX G hmg
    refine' K1.fin_mk KX G hmg ⟨PySem.W.mg_none_of KX G ?b1, PySem.W.mg_none_of KX G ?b2, PySem.W.mg_none_of KX G ?b3, PySem.W.mg_none_of KX G ?b4, PySem.W.mg_none_of KX G ?b5, PySem.W.mg_none_of KX G ?b6, PySem.W.mg_none_of KX G ?b7, PySem.W.mg_none_of KX G ?b8, PySem.W.mg_none_of KX G ?b9, PySem.W.mg_none_of KX G ?b10, Ft.cst KX G ?c1 ?r1, Ft.cst KX G ?c2 ?r2, Ft.cst KX G ?c3 ?r3⟩
      (Ft.defAt KX G ?a1 ?l1 ?e1 ?k1) (Ft.defAt KX G ?a2 ?l2 ?e2 ?k2) (Ft.defAt KX G ?a3 ?l3 ?e3 ?k3) (Ft.defAt KX G ?a4 ?l4 ?e4 ?k4) (Ft.defAt KX G ?a5 ?l5 ?e5 ?k5) (Ft.defAt KX G ?a6 ?l6 ?e6 ?k6) (Ft.defAt KX G ?a7 ?l7 ?e7 ?k7) (Ft.defAt KX G ?a8 ?l8 ?e8 ?k8) (Ft.defAt KX G ?a9 ?l9 ?e9 ?k9)
    (case b1 => k_is)
    (case b2 => k_is)
    (case b3 => k_is)
    (case b4 => k_is)
    (case b5 => k_is)
    (case b6 => k_is)
    (case b7 => k_is)
    (case b8 => k_is)
    (case b9 => k_is)
    (case b10 => k_is)
    (case c1 => k_is)
    (case c2 => k_is)
    (case c3 => k_is)
    (case r1 => exact ⟨_, rfl⟩)
    (case r2 => exact ⟨_, rfl⟩)
    (case r3 => exact ⟨_, rfl⟩)
    (case a1 => k_is)
    (case l1 => k_is)
    (case e1 => k_is)
    (case k1 => k_is)
    (case a2 => k_is)
    (case l2 => k_is)
    (case e2 => k_is)
    (case k2 => k_is)
    (case a3 => k_is)
    (case l3 => k_is)
    (case e3 => k_is)
    (case k3 => k_is)
    (case a4 => k_is)
    (case l4 => k_is)
    (case e4 => k_is)
    (case k4 => k_is)
    (case a5 => k_is)
    (case l5 => k_is)
    (case e5 => k_is)
    (case k5 => k_is)
    (case a6 => k_is)
    (case l6 => k_is)
    (case e6 => k_is)
    (case k6 => k_is)
    (case a7 => k_is)
    (case l7 => k_is)
    (case e7 => k_is)
    (case k7 => k_is)
    (case a8 => k_is)
    (case l8 => k_is)
    (case e8 => k_is)
    (case k8 => k_is)
    (case a9 => k_is)
    (case l9 => k_is)
    (case e9 => k_is)
    (case k9 => k_is)
#print axioms PySem.Challenge.cw_fivetrees_k01_names_holds

