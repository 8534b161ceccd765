import PyProof.Rows.All
import Wide.All
import OpenK.AllK
import Wide.FinOn
import HandS.ForMost
import HandS.WordsExc
import HandS.IsInst
import HandS.Evl
import HandS.Walk
import KE.GoesEnum
import KE.KExcInit
import HandS.ExcInit
import HandS.ExcIs
import HandS.HotCalls
import HandS.ExcField
import KE.KTryMore
import HandS.Lambda
import HandS.EndTab
import HandS.TupAny
import HandS.RaiseMore
import PyProof.StrLawsRepr
import KE.KExcLine
import KE.RegKIsAll
import KE.RegKTryMore
import PySem.Challenge.RW_fivetrees_k05_kinds_without_trees
set_option Elab.async false
set_option maxRecDepth 100000
set_option maxHeartbeats 4000000
set_option linter.all false
/-! Own layer G: promises of defs that are only called where no built-in's guard lies on the stack (so that repr may be asked). -/
namespace Ft
open PySem PySem.Spec PyProof.Rows L2

/-- as a def's promise, for stacks without guards -/
structure FnG (P : Program) (w : World) (K : PySem.W.Frag) (mg : Str → Option Value) (base : Heap) (CX : CXT) (k : Nat) (f : Addr)
    (fd : FuncData) (ps : List Str) (sp : Sp) : Prop where
  gLen : ∀ vs H Q E, sp vs H Q E → vs.length = ps.length
  gRun : ∀ (A : Around), A.guards = some [] → Room k A → ∀ (outer : List Env) (s : Shared) (H : Hp), Env0 P w K mg base A outer s H →
    ∀ (args : Args) (us : List Value) (vs : List V) (Q : VK) (E : XK), BindsTo s fd args (ps.zip us) → Vals vs us → sp vs H Q E →
      codeAny (model P w) A (.call (.ref f) args) (CR CX outer P w H s Q E) s

section
variable {P : Program} {w : World} {K : PySem.W.Frag} {mg : Str → Option Value} {base : Heap} {CX : CXT} {j k : Nat} {f : Addr} {fd : FuncData} {ps : List Str} {sp sp' : Sp}
theorem ofOk (F : FnOk P w K mg base CX k f fd ps sp) : FnG P w K mg base CX k f fd ps sp :=
  ⟨F.len, fun A _ hr outer s H e0 args us vs Q E hb r h => F.run A outer s H args us vs Q E hr e0 hb r h⟩
theorem FnG.mono (F : FnG P w K mg base CX j f fd ps sp) (h : j ≤ k) : FnG P w K mg base CX k f fd ps sp :=
  ⟨F.gLen, fun A hg hr => F.gRun A hg (hr.mono h)⟩
theorem FnG.imp (F : FnG P w K mg base CX k f fd ps sp) (h : ∀ vs H Q E, sp' vs H Q E → sp vs H Q E) : FnG P w K mg base CX k f fd ps sp' :=
  ⟨fun vs H Q E q => F.gLen vs H Q E (h vs H Q E q), fun A hg hr outer s H e0 args us vs Q E hb r q => F.gRun A hg hr outer s H e0 args us vs Q E hb r (h _ _ _ _ q)⟩

/-- the rule for a def of the text, by its body -/
theorem fnG {name qual : Str} {params : Arguments} {body : List Stmt} {scope : Scope} {dV kV doc pm cdv ct oc : Value} {an od : Option Addr} {osl : Array (Option Value)} {N : List Str}
    (lk : K.lookup f = some ⟨oc, od, .func (PySem.W.fnOf name qual params body scope dV kV doc pm an cdv ct), osl⟩) (hcd : PySem.W.codeIn K cdv qual = true)
    (S : FnScope N ps scope) (len : ∀ vs H Q E, sp vs H Q E → vs.length = ps.length)
    (hb : ∀ (A : Around) (outer : List Env) (s : Shared) (H : Hp) (vs : List V) (Q : VK) (E : XK), A.guards = some [] →
      Room k (A.deeper (envOfC qual scope s.heap.objs.size f cdv)) → sp vs H Q E →
      ∃ t, PSs (cxOf CX P w K mg base N qual scope f cdv A outer s H E) body t ∧ t ⟨fun _ H' => Q .non H', Q, fun _ _ => False, fun _ _ => False⟩ (start N vs) H) :
    FnG P w K mg base CX (k + 1) f (PySem.W.fnOf name qual params body scope dV kV doc pm an cdv ct) ps sp := by
  constructor
  · exact len
  intro A hg hr outer s H e0 args us vs Q E bt vv hsp
  have inK : K.In s.heap := e0.mod.kin.keeps fun b o q => (e0.bs b o q).1
  have nolim : s.heap.NoLimit := e0.mod.nolimit.keeps fun b o q => (e0.bs b o q).1
  apply codeAny_call_function hr.depth (inK f _ lk) rfl S.co S.gen rfl (PySem.W.codeRec_of inK hcd)
  apply bt
  apply wpAny_newFunctionEnv_cells S.kind
  · rintro ⟨n, v⟩ hm
    cases S.par n (List.of_mem_zip hm).1 with
    | inl q => exact Or.inl q
    | inr q => exact Or.inr ⟨q, PySem.W.cellsFrom_some _ _ _ (Or.inl q)⟩
  · intro env henv s1 ic
    cases henv
    refine And.intro (nolim.keeps ic.toInCall.keep) (codeAny_func ?_)
    obtain ⟨t, d, rd⟩ := hb A outer s H vs Q E hg (hr.deeper _) hsp
    have J := inv_start (CX := CX) (E := E) S hr.hd e0 (len vs H Q E hsp) vv ic
    apply wpAny_mono (d.run [] s1 (start N vs) H _ J rd)
    · intro fl s2 hfl
      match fl, hfl with
      | .ret u, ⟨v, σ', H', J', rv, q⟩ => exact ⟨v, H', J'.os, J'.bare, J'.base, J'.hok, rv, q⟩
      | .next, ⟨σ', H', J', q⟩ => exact ⟨V.non, H', J'.os, J'.bare, J'.base, J'.hok, rfl, q⟩
      | .brk, ⟨_, _, _, q⟩ => exact q.elim
      | .cont, ⟨_, _, _, q⟩ => exact q.elim
    · intro e s2 q
      exact q
end

section
variable {P : Program} {w : World} {K : PySem.W.Frag} {mg : Str → Option Value} {base : Heap}
/-- no exception leaves -/
theorem okG {x qual : Str} {st : Stmt} {f : Addr} {fd : FuncData} {N ps : List Str} {k : Nat} {sp : Sp} (F : Fun K x qual st f fd) (S : FnScope N ps (defScope st))
    (len : ∀ vs H Q E, sp vs H Q E → vs.length = ps.length)
    (hb : ∀ (cdv : Value) (A : Around) (outer : List Env) (s : Shared) (H : Hp) (vs : List V) (Q : VK) (E : XK), A.guards = some [] →
      Room k (A.deeper (envOfC qual (defScope st) s.heap.objs.size f cdv)) → sp vs H Q E →
      ∃ t, PSs (cxOf CX0 P w K mg base N qual (defScope st) f cdv A outer s H E).nox (defBody st) t ∧ t ⟨fun _ H' => Q .non H', Q, fun _ _ => False, fun _ _ => False⟩ (start N vs) H) :
    FnG P w K mg base CX0 (k + 1) f fd ps sp := by
  obtain ⟨_, _, _, _, _, _, cdv, _, _, e, lk, hcd⟩ := F.ex
  subst e
  refine fnG lk hcd S len fun A outer s H vs Q E hg hr h => ?_
  obtain ⟨t, d, q⟩ := hb cdv A outer s H vs Q E hg hr h
  exact ⟨t, d.nox, q⟩
/-- exceptions may leave -/
theorem okGX {x qual : Str} {st : Stmt} {f : Addr} {fd : FuncData} {N ps : List Str} {k : Nat} {sp : Sp} (F : Fun K x qual st f fd) (S : FnScope N ps (defScope st))
    (len : ∀ vs H Q E, sp vs H Q E → vs.length = ps.length)
    (hb : ∀ (cdv : Value) (A : Around) (outer : List Env) (s : Shared) (H : Hp) (vs : List V) (Q : VK) (E : XK), A.guards = some [] →
      Room k (A.deeper (envOfC qual (defScope st) s.heap.objs.size f cdv)) → sp vs H Q E →
      ∃ t, PSs (cxOf (L2.CX P w) P w K mg base N qual (defScope st) f cdv A outer s H E) (defBody st) t ∧ t ⟨fun _ H' => Q .non H', Q, fun _ _ => False, fun _ _ => False⟩ (start N vs) H) :
    FnG P w K mg base (L2.CX P w) (k + 1) f fd ps sp := by
  obtain ⟨_, _, _, _, _, _, cdv, _, _, e, lk, hcd⟩ := F.ex
  subst e
  exact fnG lk hcd S len (hb cdv)
end

section
variable {X : Cx} {CX : CXT} {k : Nat} {f C : Addr} {fd : FuncData} {ps ks : List Str} {sp : Sp} {E : XK} {x m : Str} {p pos apos : Pos} {e o : Expr} {es : List Expr} {kws : List Keyword} {ta : TE} {t tk : TA}
theorem runG {pins : List (Addr × Obj)} {σ : L2.St} {H : Hp} {s : Shared} {Q : VK} {args : Args} {us : List Value} {vs : List V} (F : FnG X.prog X.w X.K X.mg X.base CX k f fd ps sp) (hg : X.A.guards = some []) (hr : Room k X.A)
    (hx : Passes CX X E) (I : Inv X pins σ H s) (bt : BindsTo s fd args (ps.zip us)) (r : Vals vs us) (h : sp vs H Q E) :
    codeAny (model X.prog X.w) X.A (.call (.ref f) args) (fun r s' => match r with
      | .ok (.ret u) => EP X pins σ Q u s'
      | .ok _ => False
      | .error e => X.xe e s') s := by
  apply codeAny_mono (F.gRun X.A hg hr X.stack s H I.env0 args us vs Q E bt r h)
  intro res s2 q
  match res, q with
  | .ok (.ret u), q => exact I.after q
  | .ok .next, q => exact q
  | .ok .brk, q => exact q
  | .ok .cont, q => exact q
  | .error e, q => exact hx pins σ H s e s2 I q
theorem callG {pins : List (Addr × Obj)} {σ : L2.St} {H : Hp} {s : Shared} {Q : VK} {us : List Value} {vs : List V} (F : FnG X.prog X.w X.K X.mg X.base CX k f fd ps sp) (hg : X.A.guards = some []) (hr : Room k X.A)
    (hb : Binds X.K fd ps []) (hx : Passes CX X E) (I : Inv X pins σ H s) (r : Vals vs us) (h : sp vs H Q E) : wpAny (model X.prog X.w) X.A (call (.ref f) us) (EP X pins σ Q) X.xe s := by
  have hl : us.length = ps.length := r.length.symm.trans (F.gLen vs H Q E h)
  have bt := hb s us I.kIn (by rw [List.append_nil]; exact hl)
  rw [List.append_nil] at bt
  apply wpAny_call
  apply codeAny_mono (runG (E := E) F hg hr hx I bt r h)
  intro res s2 q
  match res, q with
  | .ok (.ret u), q => exact q
  | .ok .next, q => exact False.elim q
  | .ok .brk, q => exact False.elim q
  | .ok .cont, q => exact False.elim q
  | .error e, q => exact q
end

/-- a def of the module: its promise, its place, how it binds -/
structure Has (P : Program) (w : World) (K : PySem.W.Frag) (mg : Str → Option Value) (base : Heap) (CX : CXT) (k : Nat) (x : Str) (ps : List Str) (sp : Sp) : Prop where
  ex : ∃ (f : Addr) (fd : FuncData), FnG P w K mg base CX k f fd ps sp ∧ mg x = some (.ref f) ∧ PySem.W.keepIn K (.ref f) = true ∧ Binds K fd ps []
section
variable {X : Cx} {CX : CXT} {k : Nat} {ps : List Str} {sp : Sp} {E : XK} {x : Str} {p pos : Pos} {e : Expr} {es : List Expr} {t : TA}
theorem pe_f (F : Has X.prog X.w X.K X.mg X.base CX k x ps sp) (hg : X.A.guards = some []) (hr : Room k X.A) (hx : Passes CX X E) (gl : Gl X x) (ha : PA X (e :: es) t)
    (hdb : (x == ("__debug__" : Str)) = false := by decide) (he : starEach (e :: es) X.env = (false, eval e X.env) :: starEach es X.env := by rfl) (hpl : (backTo pos (starEach es X.env)).any (·.1) = false := by rfl) :
    PE X (.Call (.Name x p) (e :: es) [] pos) (tCall sp [] E t) := by
  obtain ⟨f, fd, G, hm, hk, hb⟩ := F.ex
  constructor
  intro pins s σ H Q I h
  apply wpAny_Call_Name_kw
  apply ld_glob I gl hm _ hdb
  apply PySem.W.callWith_K (h₀ := X.base) I.ok.mod.kin hk _ he hpl
  apply thn (ha.run pos pins s σ H _ I h)
  rintro us s1 ⟨vs, H1, I1, r, q⟩
  rw [List.append_nil] at q
  exact ⟨I1.kIn, callG G hg hr hb hx I1 r q⟩
theorem pe_f0 (F : Has X.prog X.w X.K X.mg X.base CX k x ps sp) (hg : X.A.guards = some []) (hr : Room k X.A) (hx : Passes CX X E) (gl : Gl X x)
    (hdb : (x == ("__debug__" : Str)) = false := by decide) : PE X (.Call (.Name x p) [] [] pos) (tCall sp [] E tNil) := by
  obtain ⟨f, fd, G, hm, hk, hb⟩ := F.ex
  constructor
  intro pins s σ H Q I h
  apply wpAny_Call_Name_kw
  apply ld_glob I gl hm _ hdb
  exact PySem.W.callWith_K0 I.kIn hk (callG (us := []) G hg hr hb hx I .nil h)
end
/-- repr of data -/
theorem call_reprD {X : Cx} (hg : X.A.guards = some []) (hu : X.A.units + 64 < cLine) : CallR X (.builtin "repr") (fun xs H Q => ∃ a d, xs = [.ref a] ∧ Dp X.K H (.ref a) d ∧ d.showable = true ∧ d.hasDict = false ∧ d.depth ≤ 60 ∧ d.shown.length ≤ sizeLine ∧ Q (.str d.shown) H) := by
  rintro pins s σ H xs us Q I r ⟨a, d, rfl, hd, hs, hn, hdp, hz, q⟩
  obtain ⟨u, rfl, ru⟩ := vals1 r
  cases ru
  obtain ⟨as, rd⟩ := Dp.reads I d (.ref a) (.ref a) hd rfl
  refine repr_of_reads' rd hs (PyData.noDict_hsm hn) hg (by omega) (fun _ _ z => z) (fun h' u tk keep => ?_) hz
  exact ⟨.str d.shown, H, I.kept keep, ⟨u, rfl⟩, q⟩
end Ft

/-! The end of a law row over the layer G. -/
namespace Ft
open PySem PySem.Spec PyProof.Rows L2

theorem lawEnd {P : Program} {w : World} {K : PySem.W.Frag} {mg mb : Str → Option Value} {k : Nat} {fa a : Addr} {fd : FuncData} {x : Str} {sp : Sp} {s : Shared} {vs : List Value} {ns : List Int}
    (inK : K.In s.heap) (hG : s.heap.Ns mainGlobals mg) (hB : s.heap.Ns builtinsNs mb) (hBB : ∀ y : Str, y ≠ "__name__" → mb y = bootBuiltins y) (nolim : s.heap.NoLimit) (nogen : s.gens = #[])
    (ha : s.heap.get? a = some { cls := .type "list", data := .seq vs.toArray }) (hints : IntsAre vs ns) (hlen : ns.length ≤ sizeLine) (room : Room k callerA)
    (F : ∀ base : Heap, K.In base → base.Ns mainGlobals mg → FnG P w K mg base CX0 k fa fd [x] sp)
    (bt : ∀ (s : Shared) (u : Value), BindsTo s fd ⟨[u], []⟩ [(x, u)])
    (hsp : ∀ H : Hp, SqL K H a (ns.map V.int) → sp [.ref a] H (fun v _ => v = .bl true) E0) :
    codeAny (model P w) callerA (.call (.ref fa) ⟨[.ref a], []⟩) (fun r s' => r = .ok (.ret (.bool true)) ∧ OldK s.heap s'.heap ∧ s'.os = s.os ∧ AllBare s'.gens) s := by
  have rel := vals_ints hints
  -- the script is tracked unless it is one of the written objects
  let ob : Obj := { cls := .type "list", data := .seq vs.toArray }
  let H : Hp := fun b => if b = a ∧ K.lookup a = none then some (.frz ob (.lst (ns.map V.int))) else none
  have Hsome : ∀ {b : Addr} {u : HO}, H b = some u → b = a ∧ K.lookup a = none ∧ u = .frz ob (.lst (ns.map V.int)) := by
    intro b u q
    by_cases c : b = a ∧ K.lookup a = none
    · have q' : some (HO.frz ob (.lst (ns.map V.int))) = some u := (if_pos c).symm.trans q
      exact ⟨c.1, c.2, (Option.some.inj q').symm⟩
    · have q' : (none : Option HO) = some u := (if_neg c).symm.trans q
      cases q'
  have Hnone : ∀ {b : Addr} {o : Obj} {es : Array DictEntry} {ep : Nat}, s.heap.get? b = some o → o.data = .dict es ep → H b = none := by
    intro b o es ep e1 e2
    cases c : H b with
    | none => rfl
    | some u =>
      obtain ⟨rfl, -, -⟩ := Hsome c
      rw [ha] at e1
      cases e1
      exact absurd e2 (by intro z; cases z)
  let base := hidT s.heap H
  have onto : ∀ {b : Addr} {m : Str → Option Value}, s.heap.Ns b m → base.Ns b m := by
    rintro b m ⟨o, es, ep, e1, e2, r⟩
    exact ⟨o, es, ep, hidT_get e1 (Hnone e1 e2), e2, r⟩
  have inB : K.In base := by
    intro b o e
    apply hidT_get (inK b o e)
    cases c : H b with
    | none => rfl
    | some u =>
      obtain ⟨rfl, z, -⟩ := Hsome c
      exact absurd (z.symm.trans e) (by intro y; cases y)
  have sq : SqL K H a (ns.map V.int) := by
    cases c : K.lookup a with
    | none => exact .inl (.inr ⟨ob, if_pos ⟨rfl, c⟩⟩)
    | some o =>
      have e := inK a o c
      rw [ha] at e
      cases e
      refine .inr ⟨_, vs.toArray, _, c, rfl, rfl, rfl, ?_, ?_⟩
      · rw [List.size_toArray, ← rel.length, List.length_map]
        exact hlen
      · rw [List.toList_toArray]
        exact rel
  have hok : HOk P w H s.heap := by
    intro b u q
    obtain ⟨rfl, -, rfl⟩ := Hsome q
    exact ⟨ha, by rw [List.length_map]; exact hlen, vs, _, rel, ha⟩
  have nomem : ∀ b : Addr, b ∉ frs ([] : List Env) := fun b z => by
    cases z
  have e0 : Env0 P w K mg base callerA [] s H :=
    { frames := rfl, mod := ⟨inB, onto hG, ⟨mb, onto hB, hBB⟩, ?lim⟩, bs := fun b o e => of_hidT e, bsz := Nat.le_of_eq (hidT_size s.heap H), funs := trivial, frf := fun b z => absurd z (nomem b), hok := hok, bare := .of_eq nogen }
  case lim =>
    obtain ⟨mc, h1, h2⟩ := nolim
    exact ⟨mc, onto h1, h2⟩
  apply codeAny_mono ((F base inB (onto hG)).gRun callerA rfl room [] s H e0 ⟨[.ref a], []⟩ [.ref a] [.ref a] _ _ (bt s (.ref a)) (.cons rfl .nil) (hsp H sq))
  intro r s2 q
  match r, q with
  | .error e, q => exact False.elim q
  | .ok .next, q => exact False.elim q
  | .ok .brk, q => exact False.elim q
  | .ok .cont, q => exact False.elim q
  | .ok (.ret u), ⟨v, H2, hos, hbare, un, hok2, rv, hv⟩ =>
    cases (show v = .bl true from hv)
    cases (show u = Value.bool true from rv)
    refine ⟨rfl, OldK.of_keep fun b o e => ?_, hos, hbare⟩
    cases c : H b with
    | none => exact un.keep b o e c (nomem b) (by intro z; cases z)
    | some y =>
      obtain ⟨rfl, -, rfl⟩ := Hsome c
      rw [ha] at e
      cases e
      exact (hok2 _ _ (un.frzs _ _ _ c)).1

theorem walkG {l : PySem.W.OpenLaw} {n k : Nat} {q : Program} {loose : List Str} {XP : (Str → Option Value) → Heap → Prop} {YP : World → Heap → Prop} {d : DefRec} {K : Params → PySem.W.Frag} {sp : PySem.W.Frag → Sp} {x : Str}
    (hn : l.most = some n) (hn2 : n ≤ sizeLine) (hdf : d.params.defaults = []) (room : Room k callerA) (hY : ∀ (w : World) (h : Heap), YP w h → (K w.params).In h)
    (F : ∀ (w : World) (mg : Str → Option Value) (fa : Addr) (h : Heap), (K w.params).In h → h.Ns mainGlobals mg → mg d.name = some (.ref fa) →
      ∃ fd : FuncData, (∀ (s : Shared) (u : Value), BindsTo s fd ⟨[u], []⟩ [(x, u)]) ∧
        ∀ base : Heap, (K w.params).In base → base.Ns mainGlobals mg → FnG l.prog w (K w.params) mg base CX0 k fa fd [x] (sp (K w.params)))
    (hsp : ∀ (K : PySem.W.Frag) (H : Hp) (a : Addr) (ns : List Int), ns.length ≤ n → SqL K H a (ns.map V.int) → sp K [.ref a] H (fun v _ => v = .bl true) E0) :
    PySem.W.WalkO q loose XP YP l.row.toRowW d [] (fun f vs => PySem.call f vs) := by
  apply Att.attach_call hn hdf
  intro w s0 s1 mg mb fa o pm cd doc a vs ns G Y _ _ _ hmg hobj hints hlen hg
  obtain ⟨fd, b, F'⟩ := F w mg fa _ (hY w _ Y) G.T.g hmg
  exact lawEnd (hY w _ Y) G.T.g G.T.b G.T.builtins G.T.nolimit hg hobj hints (Nat.le_trans hlen hn2) room F' b fun H hS => hsp _ H a ns hlen hS
end Ft

namespace Ft
open PySem PySem.Spec PyProof.Rows L2
/-! ### built-in names -/
theorem bt_len : bootBuiltins "len" = some (.builtin "len") := by decide +kernel
theorem bt_abs : bootBuiltins "abs" = some (.builtin "abs") := by decide +kernel
theorem bt_max : bootBuiltins "max" = some (.builtin "max") := by decide +kernel
theorem bt_min : bootBuiltins "min" = some (.builtin "min") := by decide +kernel
theorem bt_all : bootBuiltins "all" = some (.builtin "all") := by decide +kernel
theorem bt_any : bootBuiltins "any" = some (.builtin "any") := by decide +kernel
theorem bt_sum : bootBuiltins "sum" = some (.builtin "sum") := by decide +kernel
theorem bt_repr : bootBuiltins "repr" = some (.builtin "repr") := by decide +kernel
theorem bt_isinstance : bootBuiltins "isinstance" = some (.builtin "isinstance") := by decide +kernel
theorem bt_divmod : bootBuiltins "divmod" = some (.builtin "divmod") := by decide +kernel
theorem bt_sorted : bootBuiltins "sorted" = some (.builtin "sorted") := by decide +kernel
theorem bt_int : bootBuiltins "int" = some (.type "int") := by decide +kernel
theorem bt_str : bootBuiltins "str" = some (.type "str") := by decide +kernel
theorem bt_bool : bootBuiltins "bool" = some (.type "bool") := by decide +kernel
theorem bt_list : bootBuiltins "list" = some (.type "list") := by decide +kernel
theorem bt_tuple : bootBuiltins "tuple" = some (.type "tuple") := by decide +kernel
theorem bt_set : bootBuiltins "set" = some (.type "set") := by decide +kernel

/-- a module's constant -/
def Cst (mg : Str → Option Value) (x : Str) (v : V) : Prop := ∃ u, mg x = some u ∧ RelV v u
theorem pe_const {X : Cx} {x : Str} {v : V} {pos : Pos} (h : Cst X.mg x v) (hg : Gl X x) (hd : (x == ("__debug__" : Str)) = false := by decide) : PE X (.Name x pos) (tC v) := by
  obtain ⟨u, hm, r⟩ := h
  exact pe_glob hg hm r hd

/-! ### calls by keywords -/
structure KwB (K : PySem.W.Frag) (fd : FuncData) (ps : List Str) (n : Nat) (ks : List Str) (g : {α : Type} → List α → List α → List α) : Prop where
  to : ∀ (s : Shared) (us ws : List Value), K.In s.heap → us.length = n → ws.length = ks.length → BindsTo s fd ⟨us, ks.zip ws⟩ (ps.zip (g us ws))
  rel : ∀ {vs zs : List V} {us ws : List Value}, Vals vs us → Vals zs ws → Vals (g vs zs) (g us ws)
structure HasK (P : Program) (w : World) (K : PySem.W.Frag) (mg : Str → Option Value) (base : Heap) (CX : CXT) (k : Nat) (x : Str) (ps : List Str) (n : Nat) (ks : List Str) (g : {α : Type} → List α → List α → List α) (sp : Sp) : Prop where
  ex : ∃ (f : Addr) (fd : FuncData), FnG P w K mg base CX k f fd ps sp ∧ mg x = some (.ref f) ∧ PySem.W.keepIn K (.ref f) = true ∧ KwB K fd ps n ks g
def tFk (sp : Sp) (n m : Nat) (g : List V → List V → List V) (E : XK) (t tk : TA) : TE := fun σ H Q => t σ H fun vs H1 => tk σ H1 fun zs H2 => vs.length = n ∧ zs.length = m ∧ sp (g vs zs) H2 Q E
section
variable {X : Cx} {CX : CXT} {k n : Nat} {ps ks : List Str} {sp : Sp} {E : XK} {x : Str} {p pos : Pos} {e : Expr} {es : List Expr} {kws : List Keyword} {t tk : TA} {g : {α : Type} → List α → List α → List α}
theorem runK {pins : List (Addr × Obj)} {σ : L2.St} {H : Hp} {s : Shared} {Q : VK} {f : Addr} {fd : FuncData} {us ws : List Value} {vs zs : List V} (F : FnG X.prog X.w X.K X.mg X.base CX k f fd ps sp) (B : KwB X.K fd ps n ks g) (hg : X.A.guards = some [])
    (hr : Room k X.A) (hx : Passes CX X E) (I : Inv X pins σ H s) (r : Vals vs us) (rz : Vals zs ws) (h1 : vs.length = n) (h2 : zs.length = ks.length) (h : sp (g vs zs) H Q E) :
    wpAny (model X.prog X.w) X.A (call (.ref f) us (ks.zip ws)) (EP X pins σ Q) X.xe s := by
  apply wpAny_call
  apply codeAny_mono (runG (E := E) F hg hr hx I (B.to s us ws I.kIn (r.length.symm.trans h1) (rz.length.symm.trans h2)) (B.rel r rz) h)
  intro res s2 q
  match res, q with
  | .ok (.ret u), q => exact q
  | .ok .next, q => exact False.elim q
  | .ok .brk, q => exact False.elim q
  | .ok .cont, q => exact False.elim q
  | .error e, q => exact q
theorem pe_fk0 (F : HasK X.prog X.w X.K X.mg X.base CX k x ps 0 ks g sp) (hg : X.A.guards = some []) (hr : Room k X.A) (hx : Passes CX X E) (gl : Gl X x) (hkw : PK X kws tk)
    (hall : (backToKw pos (keywordEach kws X.env)).all (·.1.isSome) = true := by rfl) (hks : (backToKw pos (keywordEach kws X.env)).filterMap (·.1) = ks := by rfl) (hdb : (x == ("__debug__" : Str)) = false := by decide)
    (hpl : ((backTo pos (starEach [] X.env)).any (·.1) || (backToKw pos (keywordEach kws X.env)).any (·.1.isNone)) = false := by rfl) :
    PE X (.Call (.Name x p) [] kws pos) (tFk sp 0 ks.length g E tNil tk) := by
  obtain ⟨f, fd, G, hm, hk, hb⟩ := F.ex
  constructor
  intro pins s σ H Q I h
  apply wpAny_Call_Name_kw
  apply ld_glob I gl hm _ hdb
  apply PySem.W.callWith_KW0 (h₀ := X.base) I.ok.mod.kin hk hall _ hpl
  apply thn (hkw.run pos pins s σ H _ I h)
  rintro ws s2 ⟨zs, H2, I2, rz, h1, h2, q⟩
  refine ⟨I2.kIn, ?_⟩
  rw [hks]
  exact runK (us := []) G hb hg hr hx I2 .nil rz h1 h2 q
theorem pe_fk (F : HasK X.prog X.w X.K X.mg X.base CX k x ps n ks g sp) (hg : X.A.guards = some []) (hr : Room k X.A) (hx : Passes CX X E) (gl : Gl X x) (ha : PA X (e :: es) t) (hkw : PK X kws tk)
    (hall : (backToKw pos (keywordEach kws X.env)).all (·.1.isSome) = true := by rfl) (hks : (backToKw pos (keywordEach kws X.env)).filterMap (·.1) = ks := by rfl) (hdb : (x == ("__debug__" : Str)) = false := by decide)
    (he : starEach (e :: es) X.env = (false, eval e X.env) :: starEach es X.env := by rfl)
    (hpl : ((backTo pos (starEach (e :: es) X.env)).any (·.1) || (backToKw pos (keywordEach kws X.env)).any (·.1.isNone)) = false := by rfl) :
    PE X (.Call (.Name x p) (e :: es) kws pos) (tFk sp n ks.length g E t tk) := by
  obtain ⟨f, fd, G, hm, hk, hb⟩ := F.ex
  constructor
  intro pins s σ H Q I h
  apply wpAny_Call_Name_kw
  apply ld_glob I gl hm _ hdb
  apply PySem.W.callWith_KW (h₀ := X.base) I.ok.mod.kin hk hall _ hpl he
  apply thn (ha.run pos pins s σ H _ I h)
  rintro us s1 ⟨vs, H1, I1, r, q1⟩
  apply thn (hkw.run pos pins s1 σ H1 _ I1 q1)
  rintro ws s2 ⟨zs, H2, I2, rz, h1, h2, q⟩
  refine ⟨I2.kIn, ?_⟩
  rw [hks]
  exact runK G hb hg hr hx I2 r rz h1 h2 q
end

/-! ### a def that stands in the module -/
structure DefAt (K : PySem.W.Frag) (mg : Str → Option Value) (x : Str) (st : Stmt) (f : Addr) (fd : FuncData) : Prop where
  fn : Fun K x x st f fd
  at_ : mg x = some (.ref f)
section
variable {P : Program} {w : World} {K : PySem.W.Frag} {mg : Str → Option Value} {base : Heap} {CX : CXT} {k : Nat} {x : Str} {st : Stmt} {ps : List Str} {sp : Sp} {f : Addr} {fd : FuncData}
theorem DefAt.has (A : DefAt K mg x st f fd) (G : Fun K x x st f fd → FnG P w K mg base CX k f fd ps sp)
    (hb : ∀ (kV doc pm : Value) (an : Option Addr) (cdv ct : Value) (us : List Value), us.length = ps.length → bindArgs (PySem.W.fnOf x x (defArgs st) (defBody st) (defScope st) .none kV doc pm an cdv ct) ⟨us, []⟩ = pure (ps.zip us)) :
    Has P w K mg base CX k x ps sp := ⟨⟨f, fd, G A.fn, A.at_, A.fn.kp, A.fn.binds hb⟩⟩
theorem DefAt.hasK {n : Nat} {ks : List Str} {g : {α : Type} → List α → List α → List α} (A : DefAt K mg x st f fd) (G : Fun K x x st f fd → FnG P w K mg base CX k f fd ps sp)
    (hb : ∀ (kV doc pm : Value) (an : Option Addr) (cdv ct : Value) (us ws : List Value), us.length = n → ws.length = ks.length → bindArgs (PySem.W.fnOf x x (defArgs st) (defBody st) (defScope st) .none kV doc pm an cdv ct) ⟨us, ks.zip ws⟩ = pure (ps.zip (g us ws)))
    (hrel : ∀ {vs zs : List V} {us ws : List Value}, Vals vs us → Vals zs ws → Vals (g vs zs) (g us ws)) : HasK P w K mg base CX k x ps n ks g sp := by
  refine ⟨⟨f, fd, G A.fn, A.at_, A.fn.kp, ⟨fun s us ws _ h1 h2 => ?_, hrel⟩⟩⟩
  obtain ⟨_, _, kV, doc, pm, an, cdv, ct, _, e, _, _⟩ := A.fn.ex
  subst e
  exact .of_eq (hb kV doc pm an cdv ct us ws h1 h2)
end
theorem defAt {K : PySem.W.Frag} {mg : Str → Option Value} {h : Heap} {x : Str} {st : Stmt} {f : Addr} {oc : Value} {od an : Option Addr} {osl : Array (Option Value)} {kV doc pm cdv ct : Value} (X : K.In h) (G : h.Ns mainGlobals mg)
    (a : PySem.W.nsIn K mainGlobals x = some (some (.ref f))) (l : K.lookup f = some ⟨oc, od, .func (PySem.W.fnOf x x (defArgs st) (defBody st) (defScope st) .none kV doc pm an cdv ct), osl⟩)
    (c : PySem.W.codeIn K cdv x = true) (k : PySem.W.keepIn K (.ref f) = true) : DefAt K mg x st f (PySem.W.fnOf x x (defArgs st) (defBody st) (defScope st) .none kV doc pm an cdv ct) :=
  ⟨fun_mk l c k, PySem.W.mg_of X G a⟩
theorem cst {K : PySem.W.Frag} {mg : Str → Option Value} {h : Heap} {x : Str} {v : V} {u : Value} (X : K.In h) (G : h.Ns mainGlobals mg) (a : PySem.W.nsIn K mainGlobals x = some (some u)) (r : RelV v u) : Cst mg x v :=
  ⟨u, PySem.W.mg_of X G a, r⟩
/-- what stood stands, but for the list at d -/
def Mv (d : Addr) (H H' : Hp) : Prop := ∀ b o, b ≠ d → H b = some o → H' b = some o
theorem Mv.refl (d : Addr) (H : Hp) : Mv d H H := fun _ _ _ h => h
theorem Mv.trans {d : Addr} {H H1 H2 : Hp} (a : Mv d H H1) (b : Mv d H1 H2) : Mv d H H2 := fun x o n h => b x o n (a x o n h)
theorem Mv.same {d : Addr} {H H' : Hp} (a : Same H H') : Mv d H H' := fun x o _ h => a x o h
theorem Mv.upd {d : Addr} {H H' : Hp} {o : HO} (a : Mv d H H') : Mv d H (upd H' d o) := fun x u n h => by
  rw [upd_ne n]
  exact a x u n h
theorem Mv.new {d p : Addr} {H H' : Hp} {o : HO} (a : Mv d H H') (hp : H' p = none) : Mv d H (L2.upd H' p o) := fun x u n h => by
  rw [upd_ne (ne_of_none (a x u n h) hp)]
  exact a x u n h
theorem Mv.free {d D : Addr} {H H' : Hp} (m : Mv d H H') (n : D ≠ d) (h : H' D = none) : H D = none := by
  cases c : H D with
  | none => rfl
  | some o => exact absurd ((m D o n c).symm.trans h) (by intro z; cases z)
/-- what H does not know may change -/
theorem Mv.fresh {d D : Addr} {H H' : Hp} {o : HO} (m : Mv d H H') (h : H D = none) : Mv d H (L2.upd H' D o) := fun x u n hx => by
  rw [upd_ne (ne_of_none hx h)]
  exact m x u n hx
theorem same_fresh {D : Addr} {H H' : Hp} {o : HO} (m : Same H H') (h : H D = none) : Same H (L2.upd H' D o) := fun x u hx => by
  rw [upd_ne (ne_of_none hx h)]
  exact m x u hx
theorem same_new {H : Hp} {p : Addr} {o : HO} (hp : H p = none) : Same H (upd H p o) := fun x u h => by
  rw [upd_ne (ne_of_none h hp)]
  exact h
theorem same_tup {K : PySem.W.Frag} {H H' : Hp} {a : Addr} {xs : List V} (e : Same H H') (h : SqT K H a xs) : SqT K H' a xs := by
  rcases h with (h | ⟨o, h⟩) | h
  · exact .inl (.inl (e _ _ h))
  · exact .inl (.inr ⟨o, e _ _ h⟩)
  · exact .inr h
end Ft

/-! Drawing, names, texts. -/
namespace Ft
open PySem L2
/-- the list that is drawn from -/
def Deal (H : Hp) (d : Addr) : Prop := ∃ a b c : Int, H d = some (.lst [.int a, .int b, .int c]) ∧ 0 ≤ a ∧ 0 ≤ b ∧ b < 2147483423 ∧ 0 ≤ c
abbrev tl (x : Str) : List Nat := x.cps.toList
def smallL : List Nat := (List.range 26).map (· + 97)
def nameL : List Nat := smallL ++ (List.range 10).map (· + 48)
/-- the signs of a name -/
def isNameL (l : List Nat) : Bool := decide (1 ≤ l.length) && decide (l.length ≤ 8) && decide (l.headD 0 ∈ smallL) && l.all fun c => decide (c ∈ nameL)
def isName (x : Str) : Prop := isNameL (tl x) = true
theorem tl_small : tl ("abcdefghijklmnopqrstuvwxyz" : Str) = smallL := by decide +kernel
theorem tl_naming : tl ("abcdefghijklmnopqrstuvwxyz0123456789" : Str) = nameL := by decide +kernel
theorem tl_w : tl ("w" : Str) = [119] := by decide +kernel
theorem len_tl (x : Str) : x.length = (tl x).length := by
  show x.cps.size = x.cps.toList.length
  simp
theorem tl_app (x y : Str) : tl (x ++ y) = tl x ++ tl y := TL.tl_append x y
theorem tl_one (c : Nat) : tl ⟨#[c]⟩ = [c] := rfl
theorem tl_ext {x y : Str} (h : tl x = tl y) : x = y := TL.ext_tl h
theorem isNameL_iff (l : List Nat) : isNameL l = true ↔ 1 ≤ l.length ∧ l.length ≤ 8 ∧ l.headD 0 ∈ smallL ∧ ∀ c ∈ l, c ∈ nameL := by
  unfold isNameL
  simp only [Bool.and_eq_true, decide_eq_true_eq, List.all_eq_true, and_assoc]
theorem isName_len {x : Str} (h : isName x) : 1 ≤ x.length ∧ x.length ≤ 8 := by
  have := (isNameL_iff _).mp h
  rw [len_tl]
  exact ⟨this.1, this.2.1⟩
theorem join_flat : ∀ ls : List (List Nat), TL.joinL [] ls = ls.flatten
  | [] => rfl
  | [p] => by simp [TL.joinL]
  | p :: q :: r => by
    rw [TL.joinL, join_flat (q :: r)]
    simp
theorem tl_empty : tl ("" : Str) = [] := by decide +kernel
theorem tl_join0 (ys : List Str) : tl (Txt.join ("" : Str) ys) = (ys.map tl).flatten := by
  rw [TL.join_eq]
  show TL.tl (Str.join _ _) = _
  rw [TL.tl_join]
  show TL.joinL (tl ("" : Str)) _ = _
  rw [tl_empty, join_flat]
theorem flat_ones : ∀ l : List Nat, ((l.map fun c => (⟨#[c]⟩ : Str)).map tl).flatten = l
  | [] => rfl
  | c :: l => by
    rw [List.map_cons, List.map_cons, List.flatten_cons, flat_ones l]
    rfl
theorem at_lt {xs : List V} {r : Int} (h0 : 0 ≤ r) (h1 : r < (xs.length : Int)) : ∃ v, v ∈ xs ∧ atI xs r = some v := by
  have hk : r.toNat < xs.length := by omega
  refine ⟨xs[r.toNat], List.getElem_mem hk, at_of (j := r.toNat) (by omega) (List.getElem?_eq_getElem hk)⟩
theorem at_ltN {l : List Nat} {r : Int} (h0 : 0 ≤ r) (h1 : r < (l.length : Int)) : ∃ c, c ∈ l ∧ atI l r = some c := by
  have hk : r.toNat < l.length := by omega
  refine ⟨l[r.toNat], List.getElem_mem hk, ?_⟩
  have := atI_nat (List.getElem?_eq_getElem hk)
  rwa [show ((r.toNat : Nat) : Int) = r by omega] at this
theorem Mv.seq {d a : Addr} {H H' : Hp} {xs : List V} {K : PySem.W.Frag} (m : Mv d H H') (n : a ≠ d) (h : SqL K H a xs) : SqL K H' a xs := by
  rcases h with (h | ⟨o, h⟩) | h
  · exact .inl (.inl (m _ _ n h))
  · exact .inl (.inr ⟨o, m _ _ n h⟩)
  · exact .inr h
theorem Mv.tup {d a : Addr} {H H' : Hp} {xs : List V} {K : PySem.W.Frag} (m : Mv d H H') (n : a ≠ d) (h : SqT K H a xs) : SqT K H' a xs := by
  rcases h with (h | ⟨o, h⟩) | h
  · exact .inl (.inl (m _ _ n h))
  · exact .inl (.inr ⟨o, m _ _ n h⟩)
  · exact .inr h
theorem Deal.new {H : Hp} {d p : Addr} {o : HO} (h : Deal H d) (hp : H p = none) : Deal (upd H p o) d := by
  obtain ⟨a, b, c, e, r⟩ := h
  exact ⟨a, b, c, by rw [upd_ne (ne_of_none e hp)]; exact e, r⟩
theorem Deal.put {H : Hp} {d p : Addr} {o : HO} (h : Deal H d) (n : p ≠ d) : Deal (upd H p o) d := by
  obtain ⟨a, b, c, e, r⟩ := h
  exact ⟨a, b, c, by rw [upd_ne n.symm]; exact e, r⟩
theorem Deal.same {H H' : Hp} {d : Addr} (h : Deal H d) (s : Same H H') : Deal H' d := by
  obtain ⟨a, b, c, e, r⟩ := h
  exact ⟨a, b, c, s _ _ e, r⟩
theorem Deal.ne {H : Hp} {d p : Addr} (h : Deal H d) (hp : H p = none) : p ≠ d := by
  obtain ⟨a, b, c, e, r⟩ := h
  exact (ne_of_none e hp).symm
/-- w0, w1, .. -/
def wk (k : Nat) : Str := ("w" : Str) ++ Str.ofString (toString ((k : Nat) : Int))
theorem tl_wk (k : Nat) : tl (wk k) = 119 :: TL.numL k := by
  unfold wk
  rw [tl_app, tl_w]
  show [119] ++ TL.tl (Str.ofString (toString ((k : Nat) : Int))) = _
  rw [TL.tl_num]
  rfl
theorem wk_inj {j k : Nat} (h : wk j = wk k) : j = k := by
  have e : tl (wk j) = tl (wk k) := by rw [h]
  rw [tl_wk, tl_wk] at e
  exact TL.numL_inj (List.cons.inj e).2
theorem wk_name {k : Nat} (h : k < 10 ^ 6) : isName (wk k) := by
  unfold isName
  rw [tl_wk, isNameL_iff]
  have hl := TL.numL_len (n := k) (k := 6) (by decide) h
  refine ⟨by simp, by simp; omega, (by show 119 ∈ smallL; decide), fun c hc => ?_⟩
  rcases List.mem_cons.mp hc with rfl | hc
  · decide
  · by_cases q : c < 48 ∨ 57 < c
    · exact absurd hc (TL.numL_free q)
    · have : c - 48 < 10 := by omega
      unfold nameL
      refine List.mem_append_right _ (List.mem_map.mpr ⟨c - 48, List.mem_range.mpr this, by omega⟩)
theorem nodup_le {α : Type} [DecidableEq α] : ∀ {l m : List α}, l.Nodup → (∀ x ∈ l, x ∈ m) → l.length ≤ m.length
  | [], _, _, _ => Nat.zero_le _
  | a :: l, m, hn, hs => by
    have hm := hs a List.mem_cons_self
    have h1 : ∀ x ∈ l, x ∈ m.erase a := fun x hx => by
      have hne : x ≠ a := fun e => (List.nodup_cons.mp hn).1 (e ▸ hx)
      exact (List.mem_erase_of_ne hne).mpr (hs x (List.mem_cons_of_mem _ hx))
    have h2 := nodup_le (List.nodup_cons.mp hn).2 h1
    have h3 := List.length_erase_of_mem hm
    have h4 : 0 < m.length := List.length_pos_of_mem hm
    rw [List.length_cons]
    omega
theorem wk_nodup (n : Nat) : ((List.range n).map wk).Nodup := by
  unfold List.Nodup
  rw [List.pairwise_map]
  exact List.Pairwise.imp (fun h e => h (wk_inj e)) List.nodup_range
theorem wk_free {ts : List Str} (h : ∀ j, j < ts.length → wk j ∈ ts) : wk ts.length ∉ ts := fun hm => by
  have := nodup_le (wk_nodup (ts.length + 1)) (m := ts) (fun x hx => by
    obtain ⟨j, hj, rfl⟩ := List.mem_map.mp hx
    have hj' := List.mem_range.mp hj
    by_cases e : j = ts.length
    · rw [e]; exact hm
    · exact h j (by omega))
  rw [List.length_map, List.length_range] at this
  omega
theorem inV_strs (x : Str) (ts : List Str) : inV (.str x) (ts.map V.str) = decide (x ∈ ts) := by
  unfold inV
  rw [List.any_map]
  induction ts with
  | nil => rfl
  | cons t ts ih =>
    rw [List.any_cons, ih]
    show ((t == x) || _) = _
    by_cases e : t = x
    · subst e; simp
    · have : (t == x) = false := by simp [e]
      rw [this, Bool.false_or]
      by_cases q : x ∈ ts
      · simp [q]
      · simp [q, Ne.symm e]
theorem flat_strs (ts : List Str) : (ts.map V.str).all flatV = true := by
  rw [List.all_eq_true]
  intro v hv
  obtain ⟨t, _, rfl⟩ := List.mem_map.mp hv
  rfl
theorem str_small_len : ("abcdefghijklmnopqrstuvwxyz" : Str).length = 26 := by decide +kernel
theorem str_naming_len : ("abcdefghijklmnopqrstuvwxyz0123456789" : Str).length = 36 := by decide +kernel
end Ft

/-! enumerate(tuple) in a for -/
namespace Ft
open PySem PySem.Spec PyProof.Rows L2
set_option maxHeartbeats 1000000 in
theorem meets_enum1 {v : Value} {o : Obj} {H : Heap → Prop} (B : Begins v o H) :
    Meets (Builtin.«enumerate.__new__» ⟨[.type "enumerate", v], []⟩) (fun _ R s => H s.heap ∧
      R (.ok (.ret (.ref (s.heap.push o).objs.size))) { s with heap := (s.heap.push o).push { cls := .type "enumerate", data := .fields #[.none, .bool false, .ref s.heap.objs.size, rawInt 0, .none, .none] } }) := by
  apply Meets.of_wp
  rintro prog w A R ⟨hp, g, d, tk, os⟩ ⟨h1, h⟩
  have hsub := sub_enumerate
  have q1 : ∀ {A' : Around} {E : Value → Shared → Prop} {Q : Value → Shared → Prop}, Q (.ref hp.objs.size) ⟨hp.push o, g, d, tk, os⟩ → wpAny (model prog w) A' (pyIter v) Q E ⟨hp, g, d, tk, os⟩ := by
    intro A' E Q q
    exact B.iter prog w A' E ⟨hp, g, d, tk, os⟩ Q h1 q
  wp_walk using q1
  apply wpAny_stack_any
  intro st
  apply wpAny_pure
  split
  · rename_i c _ _ _ _ _
    cases (c == Value.type "enumerate")
    · wp_walk using q1
      exact ⟨_, rfl, h⟩
    · wp_walk using q1
      exact ⟨_, rfl, h⟩
  · wp_walk using q1
    exact ⟨_, rfl, h⟩

theorem call_enum1 {prog : Program} {w : World} {A : Around} {E : Value → Shared → Prop} {s : Shared} {v : Value} {o : Obj} {H : Heap → Prop} {Q : Value → Shared → Prop} (B : Begins v o H) (h1 : H s.heap)
    (h : ∀ h', IsEnum h' (s.heap.objs.size + 1) s.heap.objs.size 0 .none → h'.get? s.heap.objs.size = some o → h'.objs.size = s.heap.objs.size + 2 →
      (∀ b o, s.heap.get? b = some o → h'.get? b = some o) → Q (.ref (s.heap.objs.size + 1)) { s with heap := h' }) :
    wpAny (model prog w) A (call (.type "enumerate") [v]) Q E s := by
  apply callType_new F.called_enumerate (by decide) (F.typeCall_enumerate_1 _) (F.newCall_enumerate_1 _) (fun obj => F.args_object_init_2 obj _) F.entry_enumerate_new (meets_enum1 B)
  refine ⟨h1, ?_⟩
  have sz : (s.heap.push o).objs.size = s.heap.objs.size + 1 := Heap.size_push ..
  have at1 : IsEnum ((s.heap.push o).push { cls := .type "enumerate", data := .fields #[.none, .bool false, .ref s.heap.objs.size, rawInt 0, .none, .none] }) (s.heap.objs.size + 1) s.heap.objs.size 0 .none := by
    have g := Heap.get?_push_size (s.heap.push o) (o := { cls := .type "enumerate", data := .fields #[.none, .bool false, .ref s.heap.objs.size, rawInt 0, .none, .none] }) rfl
    rw [sz] at g
    exact g
  show _ ∧ _
  rw [sz]
  constructor
  · exact ⟨_, at1, rfl⟩
  · apply h _ at1 (Heap.get?_push_of_some _ (Heap.get?_push_size _ B.free)) (by rw [Heap.size_push, sz])
    intro b u e
    exact Heap.get?_push_of_some _ (Heap.get?_push_of_some _ e)

/-- the tuple at a, each item in a new pair with its number -/
def IteT (K : PySem.W.Frag) (a : Addr) : It where
  go i H := ∃ (xs : List V) (x : V), SqT K H a xs ∧ xs[i]? = some x
  yld i H v H' := ∃ T x, v = .ref T ∧ H T = none ∧ H' = upd H T (.tup [.int (i : Nat), x]) ∧ ∀ xs, SqT K H a xs → xs[i]? = some x
  stop i H := ∃ xs : List V, SqT K H a xs ∧ xs.length = i
theorem turn_enumT {P : Program} {w : World} {K : PySem.W.Frag} {elts : List Expr} {kk : Nat} {tpos : Pos} (a e it : Addr) :
    Turn P w K (.Tuple elts kk tpos) (IteT K a) [e, it] e (fun i h => (∃ old, IsEnum h e it ((i : Nat) : Int) old) ∧ h.IsTupleIter it a i ∧ e ≠ it ∧ a ≠ it ∧ a ≠ e) := by
  constructor
  · exact List.mem_cons_self
  · rintro i h ⟨⟨old, he⟩, ⟨o, ho, hc, hd⟩, _⟩ b hb
    rcases List.mem_cons.mp hb with rfl | hb
    · exact ⟨_, he, fun v q => nomatch q⟩
    · cases List.mem_singleton.mp hb
      exact ⟨o, ho, fun v q => by rw [hd] at q; cases q⟩
  · rintro i h h' ⟨⟨old, he⟩, hi, hne, r⟩ k
    refine ⟨⟨old, k e List.mem_cons_self _ he⟩, hi.at fun o q => k it (by simp) o q, hne, r⟩
  · intro X hP hw hK hc i pins s σ H E I hf st hg
    subst hP hw hK
    obtain ⟨⟨old, he⟩, hit, hne, hai, hae⟩ := st
    obtain ⟨xs, x, hq, hx⟩ := hg
    obtain ⟨its, rv, p, hz⟩ := I.tuple hq
    obtain ⟨u, hu, ru⟩ := rv.get hx
    have hel : e < s.heap.objs.size := Heap.lt_size he
    have hil : it < s.heap.objs.size := by
      obtain ⟨_, q, _⟩ := hit
      exact Heap.lt_size q
    have hlt : i < its.toArray.size := by
      have := (List.getElem?_eq_some_iff.mp hu).1
      simpa using this
    have ht : s.heap.IsTuple a its.toArray := p
    have Dr := Draws.tuple (prog := X.prog) (w := X.w) (A := X.A.in1) (I.ok.hd hc) it a hai its.toArray
    apply wpAny_pyNext_enum_itemD Dr he ⟨hit, ht⟩ hlt hne (by simp [hne, Ne.symm hae])
    intro y h' tk hy ho hst hT hsz hk
    have ey : y = u := by
      have h2 : its.toArray[i]? = some u := by simpa using hu
      rw [h2] at hy
      exact (Option.some.inj hy).symm
    subst ey
    refine ⟨_, rfl, ?_⟩
    apply wpAny_letOwnedTupleGo_enum (s := { s with heap := h', toks := tk + 1 }) ho
    intro h'' he' sb
    have hT2 : h''.get? s.heap.objs.size = some { cls := .type "tuple", data := .seq #[.int i tk, y] } := (sb.2 _ (Nat.ne_of_gt hel)).trans hT
    have new : ObjOk X.prog X.w (upd H s.heap.objs.size (.tup [.int (i : Nat), x])) h'' s.heap.objs.size (.tup [.int (i : Nat), x]) :=
      ⟨by show 2 ≤ sizeLine; decide, [.int i tk, y], .cons ⟨_, rfl⟩ (.cons ru .nil), ⟨_, hT2, rfl, _, rfl⟩⟩
    have I1 : Inv X pins σ (upd H s.heap.objs.size (.tup [.int (i : Nat), x])) { s with heap := h'', toks := tk + 1 } := by
      refine I.turnedNew (ch := [e, it]) ?_ hf (Nat.le_refl _) new
      intro b ob hb q
      have n1 : b ≠ e := fun z => hb (by simp [z])
      have n2 : b ≠ it := fun z => hb (by simp [z])
      exact (sb.2 b n1).trans (hk b ob n1 n2 q)
    refine ⟨.ref s.heap.objs.size, _, I1, rfl, ⟨_, x, rfl, I.hok.fresh (Nat.le_refl _), rfl, fun ys hy2 => ?_⟩, ⟨⟨y, ?_⟩, ?_, hne, hai, hae⟩, fun b hb => ?_⟩
    · rw [I.tuple_inj hy2 hq]
      exact hx
    · rw [show ((i + 1 : Nat) : Int) = (i : Int) + 1 by omega]
      exact he'
    · exact hst.1.at fun o q => (sb.2 it (Ne.symm hne)).trans q
    · have hb' : b < s.heap.objs.size := by
        rcases List.mem_cons.mp hb with rfl | hb
        · exact hel
        · cases List.mem_singleton.mp hb
          exact hil
      rw [upd_ne (Nat.ne_of_lt hb')]
      exact (hf b hb).1
  · intro X hP hw hK hc i pins s σ H E I hf st hg
    subst hP hw hK
    obtain ⟨⟨old, he⟩, hit, hne, hai, hae⟩ := st
    obtain ⟨xs, hq, hx⟩ := hg
    obtain ⟨its, rv, p, hz⟩ := I.tuple hq
    obtain ⟨f0, f1, f2, f3, f4, f5⟩ := hf it (by simp)
    have ht : s.heap.IsTuple a its.toArray := p
    have hn : its.toArray.size = i := by
      have := rv.length
      rw [List.size_toArray]
      omega
    subst hn
    have Dr := Draws.tuple (prog := X.prog) (w := X.w) (A := X.A.in1) (I.ok.hd hc) it a hai its.toArray
    apply wpAny_pyNext_enum_endD Dr he ⟨hit, ht⟩
    intro h' eb
    exact ⟨rfl, I.turned (t' := s.toks) (fun b o hb q => eb b o hb q) f0 f1 f3 f4 f5⟩
  · rintro A i s Q E ⟨⟨_, he⟩, _⟩ h
    exact wpAny_pyIter_enum he h
def iEnumT (K : PySem.W.Frag) (ta : TA) : TI := fun σ H R => ta σ H fun vs H1 => ∃ a xs, vs = [.ref a] ∧ SqT K H1 a xs ∧ R (IteT K a) H1
theorem pi_enumT {X : Cx} {e : Expr} {ta : TA} {p pos tpos : Pos} {elts : List Expr} {kk : Nat} (gl : Gl X "enumerate") (hm : X.mg "enumerate" = none) (ha : PA X [e] ta) (hs : starEach [e] X.env = [(false, eval e X.env)] := by rfl) :
    PI X (.Tuple elts kk tpos) (.Call (.Name "enumerate" p) [e] [] pos) (iEnumT X.K ta) := by
  constructor
  intro pins s σ H R I h
  refine Call_ (ld_blt I gl hm boot_enumerate ?_)
  refine PyProof.Rows.callWith_type1 (thn (ha.run pos pins s σ H _ I h) ?_) hs rfl
  rintro us s1 ⟨vs, H1, I1, r1, a, xs, rfl, hq, q⟩
  obtain ⟨u, rfl, ru⟩ := vals1 r1
  cases ru
  obtain ⟨its, rv, p', hz⟩ := I1.tuple hq
  have ht : s1.heap.IsTuple a its.toArray := p'
  have hal : a < s1.heap.objs.size := by
    obtain ⟨o, ho, _⟩ := ht
    exact Heap.lt_size ho
  apply call_enum1 (begins_tuple a its.toArray) ht
  intro h' he hit hsz hk
  apply wpAny_pyIter_enum he
  have I2 : Inv X pins σ H1 { s1 with heap := h' } := I1.kept (t' := s1.toks) hk
  refine ⟨s1.heap.objs.size + 1, [s1.heap.objs.size + 1, s1.heap.objs.size], _, _, H1, rfl, I2, turn_enumT a (s1.heap.objs.size + 1) s1.heap.objs.size, ⟨⟨.none, he⟩, ⟨_, hit, rfl, rfl⟩, Nat.succ_ne_self _, Nat.ne_of_lt hal, Nat.ne_of_lt (Nat.lt_succ_of_lt hal)⟩, fun b hb => ?_, q⟩
  have hb2 : s1.heap.objs.size ≤ b := by
    rcases List.mem_cons.mp hb with rfl | hb
    · exact Nat.le_succ _
    · cases List.mem_singleton.mp hb
      exact Nat.le_refl _
  exact I1.fpOk hb2 (I1.hok.fresh hb2)
theorem walk_enumT {K : PySem.W.Frag} {a : Addr} {xs : List V} : Walk (IteT K a) xs.length (fun H => SqT K H a xs) (YPair (fun i => some (.int (i : Nat))) (fun i => xs[i]?)) := by
  constructor
  · intro i H hi q
    exact ⟨xs, xs[i], q, by simp [hi]⟩
  · intro H q
    exact ⟨xs, q, rfl⟩
  · rintro i H v H' _ q ⟨T, x, h1, h2, h3, h4⟩
    exact ⟨T, .int (i : Nat), x, h1, h2, h3, rfl, h4 xs q⟩
end Ft

/-! Own exception classes (over any built-in base) whose __init__ stores its parameters. -/
namespace Ft
open PySem PySem.Spec PyProof.Rows L2
open PySem.HandSPX (excO)
/-- what the written part says of an own exception class at C, its __init__ at fI; ns: the fields that it stores -/
structure XCls (K : PySem.W.Frag) (C fI : Addr) (ns : List Str) : Prop where
  base : ∃ B newId initId bmB, ExcBaseFacts B newId initId bmB ∧ StoreFacts B bmB "object.__setattr__" "object" ∧ PySem.W.excInitIn K C bmB newId = true ∧ PySem.W.excOver K C bmB = true
  hd : PySem.W.hasDictIn K C = true
  sa : PySem.W.findIn K (.ref C) "__setattr__" = some (some (.builtin "object.__setattr__"))
  ga : PySem.W.findIn K (.ref C) "__getattribute__" = some (some (.builtin "BaseException.__getattribute__"))
  gg : PySem.W.findIn K (.ref C) "__getattr__" = some none
  ex : PySem.W.subIn K (.ref C) (.type "BaseException") = some true
  ty : PySem.W.typeIn K (.ref C) = some (.type "type")
  kp : PySem.W.keepIn K (.ref C) = true
  ini : PySem.W.findIn K (.ref C) "__init__" = some (some (.ref fI))
  fn : PySem.W.typeIn K (.ref fI) = some (.type "function")
  no : ∀ n ∈ ns, PySem.W.findIn K (.ref C) n = some none
section
variable {prog : Program} {w : World} {A : Around} {E : Value → Shared → Prop} {K : PySem.W.Frag} {C fI x t : Addr} {ns : List Str} {name : Str} {v : Value} {Q : Unit → Shared → Prop}
theorem XCls.cd (T : XCls K C fI ns) : ∃ cd, PySem.W.clsIn K C = some cd ∧ cd.hasDict = true := by
  have h := T.hd
  unfold PySem.W.hasDictIn at h
  cases e : PySem.W.clsIn K C with
  | none => rw [e] at h; cases h
  | some cd => rw [e] at h; exact ⟨cd, rfl, h⟩
theorem XCls.taker (T : XCls K C fI ns) (hn : name ∈ ns) : PySem.W.takerIn K C name = some none := NoAttr.taker (T.no name hn)
/-- self.name = v, the first field -/
theorem set_first {s : Shared} (T : XCls K C fI ns) (hn : name ∈ ns) (X : K.In s.heap) (hx : s.heap.get? x = some (excO C t))
    (hq : ∀ h' tk dx, (∀ b o, b ≠ x → s.heap.get? b = some o → h'.get? b = some o) → s.heap.objs.size ≤ dx → dx ≠ x →
      h'.get? x = some { cls := .ref C, dict := some dx, data := .fields #[.ref t, .none, .none, .none, .bool false, .none] } → h'.Ns1 dx (fun y => if y = name then some v else none) → Q () { s with heap := h', toks := tk }) :
    wpAny (model prog w) A (setAttr (.ref x) name v) Q E s := by
  obtain ⟨B, newId, initId, bmB, FB, SF, q, ov⟩ := T.base
  obtain ⟨cd, hcd, hh⟩ := T.cd
  obtain ⟨hp, g, d, tk, os⟩ := s
  have I : PySem.W.InstAt hp x (excO C t) C none := ⟨hx, rfl, rfl, trivial⟩
  apply PySem.W.set_plain X I T.sa
  apply PySem.W.osa_openX (s := ⟨hp, g, d, tk + 1, os⟩) SF X I ov (T.taker hn)
  intro b
  have hxs : x ≠ hp.objs.size := Nat.ne_of_lt (Heap.lt_size hx)
  have hcls : PySem.W.Looks (model prog w) hp (classData C) cd := PySem.W.looks_clsIn X hcd
  show wpAny _ _ (Builtin.ObjectAttr.storeInOwnDict (.ref x) (.ref C) _ name v b) _ _ _
  obtain ⟨nm, bs, mro, nss, qn, hdc, sn, sb, ab, col, del⟩ := cd
  dsimp only at hh
  subst hh
  unfold Builtin.ObjectAttr.storeInOwnDict Builtin.ObjectAttr.ownDictForStores
  repeat (first | with_reducible refine PySem.HandSPX.store_in_new ?_ ?_ | with_reducible refine wpAny_loadPart_at hx ?_ | with_reducible refine hcls.at ?_ | wp_step)
  · exact ⟨_, #[], _, (Heap.get?_update_ne _ _ _ _ hxs.symm).trans (Heap.get?_push_at rfl rfl), rfl, fun e he => absurd he (by simp), fun _ => rfl⟩
  · intro h' tk' hn' hs
    have at1 : (hp.push { cls := .type "dict", data := .dict #[] }).get? x = some (excO C t) := Heap.get?_push_of_some _ hx
    apply hq h' tk' hp.objs.size _ (Nat.le_refl _) hxs.symm ((hs.2 x hxs).trans (Heap.get?_update_self _ at1 rfl)) hn'
    intro b o hb ho
    exact (hs.2 b (Nat.ne_of_lt (Heap.lt_size ho))).trans ((Heap.get?_update_ne _ _ _ _ hb).trans (Heap.get?_push_of_some _ ho))
end

/-! ### __init__(self, f): self.f = f -/
/-- the text of such an __init__: its def st, the field fld -/
structure Init1 (st : Stmt) (fld : Str) : Prop where
  body : ∃ q1 q2 q3 q4 : Pos, defBody st = [.Assign [.Attribute (.Name "self" q1) fld q2] (.Name fld q3) q4]
  kind : (defScope st).kind = .function
  co : (defScope st).isCoroutine = false
  gen : (defScope st).isGenerator = false
  l1 : (defScope st).names.lookup ("self" : Str) = some .local
  l2 : (defScope st).names.lookup fld = some .local
  dbg : (fld == ("__debug__" : Str)) = false
  ne : fld ≠ "self"
/-- what a made exception is -/
structure Made (h h' : Heap) (e C d : Addr) (fld : Str) (v : Value) : Prop where
  keep : ∀ b o, h.get? b = some o → h'.get? b = some o
  new : h.objs.size ≤ e
  obj : ∃ t, h'.get? e = some { cls := .ref C, dict := some d, data := .fields #[.ref t, .none, .none, .none, .bool false, .none] }
  dbig : h.objs.size ≤ d
  dne : d ≠ e
  ns : h'.Ns1 d (fun y => if y = fld then some v else none)
section
variable {prog : Program} {w : World} {A : Around} {E : Value → Shared → Prop} {K : PySem.W.Frag} {C fI x t : Addr} {ns : List Str} {fld qual : Str} {v : Value} {st : Stmt} {fd : FuncData} {R : Result → Shared → Prop}
theorem ld_loc {M : Model} {s : Shared} {name : Str} {scope : Scope} {L a : Addr} {cd : Value} {m : Str → Option Value} {y : Str} {pos : Pos} {u : Value} {Q : Value → Shared → Prop} (hk : scope.kind = .function) (hl : scope.names.lookup y = some .local)
    (hd : (y == ("__debug__" : Str)) = false) (hn : s.heap.Ns L m) (hv : m y = some u) (h : Q u s) : wpAny M A (eval (.Name y pos) (envOfC name scope L a cd)) Q E s :=
  wpAny_Name (wpAny_loadName_local hk hl hn hv h) hd
theorem init_one {s : Shared} {args : Args} (T : XCls K C fI ns) (hf : fld ∈ ns) (S : Init1 st fld) (F : Fun K "__init__" qual st fI fd) (X : K.In s.heap) (nolim : s.heap.NoLimit) (hx : s.heap.get? x = some (excO C t)) (room : A.depth < recursionLimit)
    (bt : BindsTo s fd args [("self", .ref x), (fld, v)])
    (hq : ∀ h' tk dx, (∀ b o, b ≠ x → s.heap.get? b = some o → h'.get? b = some o) → s.heap.objs.size ≤ dx → dx ≠ x →
      h'.get? x = some { cls := .ref C, dict := some dx, data := .fields #[.ref t, .none, .none, .none, .bool false, .none] } → h'.Ns1 dx (fun y => if y = fld then some v else none) → R (.ok (.ret .none)) { s with heap := h', toks := tk }) :
    codeAny (model prog w) A (.call (.ref fI) args) R s := by
  obtain ⟨oc, od, kV, doc, pm, an, cdv, ct, osl, e, lk, hcd⟩ := F.ex
  subst e
  obtain ⟨q1, q2, q3, q4, hb⟩ := S.body
  have kinds : (([("self", Value.ref x), (fld, v)] : List (Str × Value)).all fun y => (defScope st).names.lookup y.1 == some .local || (defScope st).names.lookup y.1 == some .cell) = true := by
    simp only [List.all_cons, List.all_nil, S.l1, S.l2]
    rfl
  refine Att.call_fn X nolim lk hcd room bt kinds (fun s1 ic => ?_) S.co S.gen S.kind
  obtain ⟨h1, tk1, rfl⟩ := ic.toInCall.same
  have keep := ic.toInCall.keep
  have nsL := ic.toInCall.ns
  have X1 : K.In h1 := X.keeps keep
  have b1 : bindL (envOfC qual (defScope st) s.heap.objs.size fI cdv).kindOf [("self", Value.ref x), (fld, v)] (fun _ => none) fld = some v :=
    bindL_get (P := ["self", fld]) (vs := [Value.ref x, v]) (i := 1) (by simp [List.nodup_cons, Ne.symm S.ne]) rfl rfl S.l2
  have b0 : bindL (envOfC qual (defScope st) s.heap.objs.size fI cdv).kindOf [("self", Value.ref x), (fld, v)] (fun _ => none) "self" = some (.ref x) :=
    bindL_get (P := ["self", fld]) (vs := [Value.ref x, v]) (i := 0) (by simp [List.nodup_cons, Ne.symm S.ne]) rfl rfl S.l1
  rw [hb]
  show wpAny _ _ (execs _ _) _ _ _
  refine wpAny_execs_cons (plainObj_wpAny_Assign_Attribute ?_)
  refine ld_loc S.kind S.l2 S.dbg nsL b1 (ld_loc S.kind S.l1 (by decide) nsL b0 ?_)
  apply set_first T hf X1 (keep _ _ hx)
  intro h3 tk3 dx k3 dn dne hx3 hn3
  have z : s.heap.objs.size < h1.objs.size := nsL.lt
  show wpAny _ _ (execs _ _) _ _ _
  apply wpAny_execs_nil
  exact hq h3 tk3 dx (fun b o hb e => k3 b o hb (keep b o e)) (Nat.le_of_lt (Nat.lt_of_lt_of_le z dn)) dne hx3 hn3
/-- C(v) -/
theorem made_one {s : Shared} (T : XCls K C fI ns) (hf : fld ∈ ns) (S : Init1 st fld) (F : Fun K "__init__" qual st fI fd) (X : K.In s.heap) (nolim : s.heap.NoLimit) (room : A.depth + 1 < recursionLimit)
    (bt : ∀ (s : Shared) (y : Addr), BindsTo s fd ⟨[.ref y, v], []⟩ [("self", .ref y), (fld, v)])
    (hq : ∀ h' tk e d, Made s.heap h' e C d fld v → R (.ok (.ret (.ref e))) { s with heap := h', toks := tk }) : codeAny (model prog w) A (.call (.ref C) ⟨[v], []⟩) R s := by
  obtain ⟨B, newId, initId, bmB, FB, SF, q, ov⟩ := T.base
  obtain ⟨nm, N, qn, bs, bm, hdct, sn, sub, ab, col, dd, k0, k1, k2, k3, k5, hC, hT⟩ := PySem.W.excInit_of X q
  obtain ⟨hp, g, dr, tk, os⟩ := s
  have k : ∀ b o, hp.get? b = some o → ((hp.push (PySem.W.kdv_tup [v])).push (excO C hp.objs.size)).get? b = some o := fun b o e => Heap.get?_push_of_some _ (Heap.get?_push_of_some _ e)
  have at1 : ((hp.push (PySem.W.kdv_tup [v])).push (excO C hp.objs.size)).get? (hp.objs.size + 1) = some (excO C hp.objs.size) := by heap_get
  refine PySem.HandSPX.call_own FB hT hC (PySem.W.looks_findIn X T.ini) (fun self => PySem.W.bind_fn X self T.fn) (by show 1 ≤ sizeLine; decide) ?_
  apply init_one (s := ⟨(hp.push (PySem.W.kdv_tup [v])).push (excO C hp.objs.size), g, dr, tk, os⟩) T hf S F (X.keeps k) (nolim.keeps k) at1 room (bt _ _)
  intro h' tk' dx k' dn dne hx hns
  have sz : hp.objs.size + 1 + 1 ≤ dx := by
    have z := dn
    rw [Heap.size_push, Heap.size_push] at z
    exact z
  refine ⟨rfl, hq h' tk' (hp.objs.size + 1) dx ⟨fun b o e => ?_, Nat.le_succ _, ⟨_, hx⟩, Nat.le_trans (Nat.le_trans (Nat.le_succ _) (Nat.le_succ _)) sz, dne, hns⟩⟩
  exact k' b o (Nat.ne_of_lt (Nat.lt_succ_of_lt (Heap.lt_size e))) (k b o e)
end
end Ft

/-! Own exceptions raised, caught, handed to a def, asked for their class and field. -/
namespace Ft
open PySem PySem.Spec PyProof.Rows L2
open PySem.HandSPX (excO)
/-- isinstance asks the class of an own exception (with its dict) rightly -/
structure XIs (K : PySem.W.Frag) (D : Addr) : Prop where
  ha : PySem.W.findIn K (.ref D) "__class__" = some (some (.builtin "object.__class__"))
  hn : PySem.W.specialIn K (.builtin "object.__class__") "__get__" = some (some (.builtin "getset_descriptor.__get__"))
  ht : PySem.W.takesIn K (.builtin "object.__class__") = some true
  hm : PySem.W.mroIn K D (.type "object") = some true
section
open PySem.W PySem.Calls
variable {prog : Program} {w : World} {A : Around} {E : Value → Shared → Prop} {s : Shared} {K : Frag} {x D fI : Addr} {ox od : Obj} {ns : List Str}
theorem class_of {Q : Option Value → Shared → Prop} (T : XCls K D fI ns) (N : XIs K D) (X : K.In s.heap) (I : InstAt s.heap x ox D (some od)) (h : Q (some (.ref D)) { s with toks := s.toks + 1 }) : wpAny (model prog w) A (getAttr? (.ref x) "__class__") Q E s := by
  obtain ⟨cd, hcd, _⟩ := T.cd
  have hf : findObj K D (some od) "__class__" = some (.bind (.builtin "getset_descriptor.__get__") (.builtin "object.__class__")) := findObj_data (by rw [hcd]; rfl) N.ha N.hn N.ht
  obtain ⟨hp, g, d, t, os⟩ := s
  have l0 := I.type (M := model prog w)
  have l1 := looks_findIn (M := model prog w) X T.ga
  have l2 := looks_findIn (M := model prog w) X T.gg
  have l3 := looks_find (M := model prog w) X I hf
  have sub : Looks (model prog w) hp (isInstance (.ref x) (.type "BaseException")) true := l0.andThen (looks_subIn X T.ex)
  have x2 : (Value.builtin "BaseException.__getattribute__" == Value.builtin "object.__getattribute__") = false := by decide +kernel
  have x1 : (onTheHeap (Value.ref D) && Value.builtin "BaseException.__getattribute__" == Value.builtin "object.__getattribute__") = false := by
    rw [x2]
    rfl
  unfold getAttr? getAttrBy? getAttrBy
  apply wpAny_bind
  apply wpAny_mkText
  apply wpAny_bind
  apply wpAny_attempt
  apply wpAny_holding
  apply wpAny_bind
  apply l0.at
  apply wpAny_bind
  apply l1.at
  show wpAny _ _ (if (onTheHeap (Value.ref D) && Value.builtin "BaseException.__getattribute__" == Value.builtin "object.__getattribute__") = true then _ else _) _ _ _
  rw [if_neg (by rw [x1]; decide)]
  unfold getAttrByItsOwn hookBefore
  apply wpAny_bind
  rw [if_pos (show onTheHeap (Value.ref D) = true from rfl)]
  apply l2.at
  apply wpAny_bind
  apply wpAny_attempt
  apply wpAny_holding
  unfold callGetattribute
  rw [if_neg (show ¬ (false && onTheHeap (Value.builtin "BaseException.__getattribute__")) = true by decide)]
  unfold boundAndCalled
  rw [PySem.F.excAttr_ValueError.ga.bind (.ref x)]
  apply wpAny_bind
  apply wpAny_pure
  show wpAny _ _ (call (.builtin "BaseException.__getattribute__") [.ref x, .str "__class__" t]) _ _ _
  apply wpAny_call
  apply codeAny_call_builtin PySem.F.excAttr_ValueError.ga.plain PySem.F.entry_bexc_ga
  apply @check_slot (model prog w) _ _ ⟨hp, g, d, t + 1, os⟩ "BaseException.__getattribute__" "BaseException" "__getattribute__" (.ref x) [.str "__class__" t] [] _ (by decide +kernel) (by decide +kernel) sub (PySem.F.args_bexc_ga (.ref x) (.str "__class__" t))
  unfold Builtin.«object.__getattribute__»
  apply wpAny_bind
  apply wpAny_of_eq (a := ((Value.ref x : Value), [Value.str "__class__" t])) (by first | rfl | (simp only [slotArgs]; rfl))
  apply wpAny_bind
  apply wpAny_pure
  apply wpAny_bind
  apply l0.at
  apply wpAny_bind
  apply l3.at
  show wpAny _ _ (holding [Value.builtin "object.__class__"] (call (.builtin "getset_descriptor.__get__") [.builtin "object.__class__", .ref x, .ref D]) >>= ret) _ _ _
  apply wpAny_bind
  apply wpAny_holding
  apply wpAny_call
  apply class_get (s := ⟨hp, g, d, t + 1, os⟩) (ox := ox) (od := some od) X I N.hm
  apply wpAny_pure
  show wpAny _ _ (handedOut (.ref D)) _ _ _
  rw [handedOut_of (v := .ref D) rfl]
  first
    | exact wpAny_pure (wpAny_pure h)
    | exact wpAny_pure h
    | exact wpAny_pure (wpAny_bind (wpAny_pure (wpAny_pure h)))
theorem kit_exc (T : XCls K D fI ns) (N : XIs K D) : KitX K (.ref x) (.ref D) (fun h => InstAt h x ox D (some od)) := by
  obtain ⟨cd, hcd, _⟩ := T.cd
  unfold clsIn at hcd
  constructor
  · intro M h X I
    exact I.type
  · intro M h X I
    split at hcd
    · rename_i c' d' cd' sl' ho
      intro A' Q' E' s' k q
      unfold isType loadHead
      apply wpAny_bind
      exact wpAny_loadPart (k _ _ (X _ _ ho)) (wpAny_pure q)
    · cases hcd
  · intro h tp dd its n sl X htp
    cases q : (Value.ref D == Value.ref tp) with
    | false => rfl
    | true =>
      cases Value.ref.inj (beq_iff_eq.mp q)
      split at hcd
      · rename_i c' d' cd' sl' ho
        cases (X _ _ ho).symm.trans htp
      · cases hcd
  · intro prog w A E Q s X I k
    exact class_of T N X I k
end
end Ft

namespace Ft
open PySem PySem.Spec PyProof.Rows L2
open PySem.HandSPX (excO)
/-! ### C(e) as an exception that is raised -/
theorem relO_one {fld : Str} {v : V} {u : Value} (r : RelV v u) (f : Str) : RelO (List.lookup f [(fld, v)]) (if f = fld then some u else none) := by
  by_cases c : f = fld
  · subst c
    rw [if_pos rfl, show List.lookup f [(f, v)] = some v by simp [List.lookup]]
    exact r
  · have z : (f == fld) = false := by simpa using c
    rw [if_neg c, show List.lookup f [(fld, v)] = none by simp [List.lookup, z]]
    trivial
/-- all that is known of a one-field exception class x of the text -/
structure ExAt (K : PySem.W.Frag) (mg : Str → Option Value) (x fld : Str) (C : Addr) : Prop where
  gC : mg x = some (.ref C)
  is : XIs K C
  ex : ∃ (fI : Addr) (st : Stmt) (qual : Str) (fd : FuncData), XCls K C fI [fld] ∧ Init1 st fld ∧ Fun K "__init__" qual st fI fd ∧ ∀ (v : Value) (s : Shared) (y : Addr), BindsTo s fd ⟨[.ref y, v], []⟩ [("self", .ref y), (fld, v)]
def tMk1 (C : Addr) (fld : Str) (ta : TA) : L2.St → Hp → XK → Prop := fun σ H Q => ta σ H fun vs H1 => ∃ v, vs = [v] ∧ ∀ d, H1 d = none → Q (.ref C) (some d) (upd H1 d (.xd [(fld, v)]))
section
variable {X : Cx} {C : Addr} {x fld : Str}
theorem pmk1 {a : Expr} {ta : TA} {p pos : Pos} {k : Nat} (T : ExAt X.K X.mg x fld C) (hr : Room k X.A) (ha : PA X [a] ta) (gl : Gl X x) (hdb : (x == ("__debug__" : Str)) = false := by decide)
    (he : starEach (a :: []) X.env = (false, eval a X.env) :: starEach [] X.env := by rfl) (hpl : (backTo pos (starEach [] X.env)).any (·.1) = false := by rfl) : PMk X (.Call (.Name x p) [a] [] pos) (tMk1 C fld ta) := by
  obtain ⟨fI, st, qual, fd, T1, S1, F1, bt⟩ := T.ex
  intro pins s σ H Q I h
  apply wpAny_Call_Name_kw
  apply ld_glob I gl T.gC _ hdb
  apply PySem.W.callWith_K (h₀ := X.base) I.ok.mod.kin T1.kp _ he hpl
  apply thn (ha.run pos pins s σ H _ I h)
  rintro us s1 ⟨vs, H1, I1, r1, v, rfl, q1⟩
  refine ⟨I1.kIn, ?_⟩
  obtain ⟨u, rfl, ru⟩ := vals1 r1
  show wpAny _ _ (call (.ref C) [u]) _ _ _
  have nolim := I1.nolimit
  obtain ⟨hp, g, dr, tk, os⟩ := s1
  apply wpAny_call
  apply made_one T1 List.mem_cons_self S1 F1 I1.kIn nolim (by have := hr.dp; omega) (bt u)
  intro h' tk' e d M
  show MkP X pins σ Q (.ref e) ⟨h', g, dr, tk', os⟩
  obtain ⟨t, hoe⟩ := M.obj
  obtain ⟨G', g1, g2⟩ := restrict h' fun b => decide (b ≠ e)
  have gk : ∀ b, b ≠ e → G'.get? b = h'.get? b := fun b hb => g1 b (decide_eq_true hb)
  have ge : G'.get? e = none := g2 e (by simp)
  have old : ∀ b o, hp.get? b = some o → G'.get? b = some o := by
    intro b o q
    rw [gk b (Nat.ne_of_lt (Nat.lt_of_lt_of_le (Heap.lt_size q) M.new))]
    exact M.keep b o q
  have ob : ObjOk X.prog X.w (upd H1 d (.xd [(fld, v)])) G' d (.xd [(fld, v)]) := ⟨_, M.ns.at (fun o q => (gk d M.dne).trans q), relO_one ru⟩
  have J : Inv X pins σ (upd H1 d (.xd [(fld, v)])) ⟨G', g, dr, tk', os⟩ := I1.laid (t' := tk') old M.dbig ob
  refine ⟨e, _, _, ⟨G', g, dr, tk', os⟩, _, .ref C, some d, rfl, J, ?_, ge, hoe, ⟨rfl, rfl⟩, rfl, rfl, ?_, rfl, I1.bare, raises_own T1.ex T1.ty, q1 d (I1.hok.fresh M.dbig)⟩
  · intro b o q
    by_cases hb : b = e
    · have q' : G'.get? b = some o := q
      rw [hb, ge] at q'
      cases q'
    · exact (gk b hb).symm.trans q
  · rw [upd_ne (Ne.symm M.dne)]
    exact I1.hok.fresh M.new
end
/-! ### defs called while an exception is handled -/
/-- p: the handled exception's object; cls, d its class and dict -/
structure FnHot (P : Program) (w : World) (K : PySem.W.Frag) (mg : Str → Option Value) (base : Heap) (k : Nat) (f : Addr) (fd : FuncData) (ps : List Str) (sp : Addr → Value → Option Addr → Sp) : Prop where
  hLen : ∀ a cls d vs H Q E, sp a cls d vs H Q E → vs.length = ps.length
  hRun : ∀ (A : Around), A.guards = some [] → L2H.RoomH k A → ∀ (outer : List Env) (s : Shared) (H : Hp) (p : Addr × Obj) (cls : Value) (d : Option Addr), L2H.PinOk outer H s p → Zc cls d p.2 → (∃ vs, p.2.data = .fields vs) → Env0 P w K mg base A outer s H →
    ∀ (args : Args) (us : List Value) (vs : List V) (Q : VK), BindsTo s fd args (ps.zip us) → Vals vs us → sp p.1 cls d vs H Q E0 → codeAny (model P w) A (.call (.ref f) args) (CR CX0 outer P w H s Q E0) s
theorem fnHot {P : Program} {w : World} {K : PySem.W.Frag} {mg : Str → Option Value} {base : Heap} {k : Nat} {x qual : Str} {st : Stmt} {f : Addr} {fd : FuncData} {N ps : List Str} {sp : Addr → Value → Option Addr → Sp} (F : Fun K x qual st f fd) (S : FnScope N ps (defScope st))
    (len : ∀ a cls d vs H Q E, sp a cls d vs H Q E → vs.length = ps.length)
    (hb : ∀ (cdv : Value) (A : Around) (outer : List Env) (s : Shared) (H : Hp) (vs : List V) (Q : VK) (p : Addr × Obj) (cls : Value) (d : Option Addr), A.guards = some [] → L2H.RoomH k (A.deeper (envOfC qual (defScope st) s.heap.objs.size f cdv)) →
      Zc cls d p.2 → (∃ vs, p.2.data = .fields vs) → sp p.1 cls d vs H Q E0 →
      ∃ t, PSs (L2H.cxH CX0 P w K mg base N qual (defScope st) f cdv A outer s H E0 p).nox (defBody st) t ∧ t ⟨fun _ H' => Q .non H', Q, fun _ _ => False, fun _ _ => False⟩ (start N vs) H) :
    FnHot P w K mg base (k + 1) f fd ps sp := by
  obtain ⟨oc, od, kV, doc, pm, an, cdv, ct, osl, e, lk, hcd⟩ := F.ex
  subst e
  constructor
  · exact len
  intro A hg hr outer s H p cls d pin hz hfld e0 args us vs Q bt vv hsp
  have inK : K.In s.heap := e0.mod.kin.keeps fun b o q => (e0.bs b o q).1
  have nolim : s.heap.NoLimit := e0.mod.nolimit.keeps fun b o q => (e0.bs b o q).1
  apply codeAny_call_function hr.depth (inK f _ lk) rfl S.co S.gen rfl (PySem.W.codeRec_of inK hcd)
  apply bt
  apply wpAny_newFunctionEnv_cells S.kind
  · rintro ⟨n, v⟩ hm
    cases S.par n (List.of_mem_zip hm).1 with
    | inl q => exact Or.inl q
    | inr q => exact Or.inr ⟨q, PySem.W.cellsFrom_some _ _ _ (Or.inl q)⟩
  · intro env henv s1 ic
    cases henv
    refine And.intro (nolim.keeps ic.toInCall.keep) (codeAny_func ?_)
    obtain ⟨t, d1, rd⟩ := hb cdv A outer s H vs Q p cls d hg (hr.deeper _) hz hfld hsp
    have J := L2H.inv_startH (CX := CX0) (E := E0) S pin e0 (len p.1 cls d vs H Q _ hsp) vv ic
    apply wpAny_mono (d1.nox.run [] s1 (start N vs) H _ J rd)
    · intro fl s2 hfl
      match fl, hfl with
      | .ret u, ⟨v, σ', H', J', rv, q⟩ => exact ⟨v, H', J'.os, J'.bare, J'.base, J'.hok, rv, q⟩
      | .next, ⟨σ', H', J', q⟩ => exact ⟨V.non, H', J'.os, J'.bare, J'.base, J'.hok, rfl, q⟩
      | .brk, ⟨_, _, _, q⟩ => exact q.elim
      | .cont, ⟨_, _, _, q⟩ => exact q.elim
    · intro e s2 q
      exact q
structure HasHot (P : Program) (w : World) (K : PySem.W.Frag) (mg : Str → Option Value) (base : Heap) (k : Nat) (x : Str) (ps : List Str) (sp : Addr → Value → Option Addr → Sp) : Prop where
  ex : ∃ (f : Addr) (fd : FuncData), FnHot P w K mg base k f fd ps sp ∧ mg x = some (.ref f) ∧ PySem.W.keepIn K (.ref f) = true ∧ Binds K fd ps []
theorem pe_hot {X : Cx} {k : Nat} {ps : List Str} {sp : Addr → Value → Option Addr → Sp} {x : Str} {p pos : Pos} {e : Expr} {es : List Expr} {t : TA} {q : Addr × Obj} {cls : Value} {d : Option Addr} (F : HasHot X.prog X.w X.K X.mg X.base k x ps sp) (hg : X.A.guards = some []) (hr : L2H.RoomH k X.A)
    (hq : q ∈ X.pn) (hz : Zc cls d q.2) (hfld : ∃ vs, q.2.data = .fields vs) (gl : Gl X x) (ha : PA X (e :: es) t)
    (hdb : (x == ("__debug__" : Str)) = false := by decide) (he : starEach (e :: es) X.env = (false, eval e X.env) :: starEach es X.env := by rfl) (hpl : (backTo pos (starEach es X.env)).any (·.1) = false := by rfl) :
    PE X (.Call (.Name x p) (e :: es) [] pos) (tCall (sp q.1 cls d) [] E0 t) := by
  obtain ⟨f, fd, G, hm, hk, hb⟩ := F.ex
  constructor
  intro pins s σ H Q I h
  apply wpAny_Call_Name_kw
  apply ld_glob I gl hm _ hdb
  apply PySem.W.callWith_K (h₀ := X.base) I.ok.mod.kin hk _ he hpl
  apply thn (ha.run pos pins s σ H _ I h)
  rintro us s1 ⟨vs, H1, I1, r, z⟩
  rw [List.append_nil] at z
  refine ⟨I1.kIn, ?_⟩
  have hl : us.length = ps.length := r.length.symm.trans (G.hLen _ _ _ _ _ _ _ z)
  have bt := hb s1 us I1.kIn (by rw [List.append_nil]; exact hl)
  rw [List.append_nil] at bt
  obtain ⟨p1, p2, p3, p4, p5⟩ := I1.pin q (List.mem_append_left _ hq)
  have pin : L2H.PinOk X.stack H1 s1 q := by
    refine ⟨p1, p2, fun hm => ?_, p5⟩
    rcases List.mem_cons.mp (I1.stkSub _ hm) with z | z
    · exact p3 z
    · exact p4 z
  show wpAny _ _ (call (.ref f) us) _ _ _
  apply wpAny_call
  apply codeAny_mono (G.hRun X.A hg hr X.stack s1 H1 q cls d pin hz hfld I1.env0 ⟨us, []⟩ us vs Q bt r z)
  intro res s2 w2
  match res, w2 with
  | .ok (.ret u), w2 => exact I1.after w2
  | .ok .next, w2 => exact False.elim w2
  | .ok .brk, w2 => exact False.elim w2
  | .ok .cont, w2 => exact False.elim w2
  | .error e, w2 => exact False.elim w2
section
variable {X : Cx} {C : Addr} {x fld : Str} {q : Addr × Obj} {cls : Value} {d : Option Addr}
theorem exc_at {pins : List (Addr × Obj)} {s : Shared} {σ : L2.St} {H : Hp} {dd : Addr} {fs : List (Str × V)} (hq : q ∈ X.pn) (hz : Zc (.ref C) (some dd) q.2) (hfld : ∃ vs, q.2.data = .fields vs) (I : Inv X pins σ H s) (hd : H dd = some (.xd fs)) :
    ∃ (od : Obj) (mA : Str → Option Value), PySem.W.InstAt s.heap q.1 q.2 C (some od) ∧ (∀ f, PySem.W.lookIn f od = some (mA f)) ∧ ∀ f, RelO (fs.lookup f) (mA f) := by
  obtain ⟨p1, _⟩ := I.pin q (List.mem_append_left _ hq)
  obtain ⟨vs, hd2⟩ := hfld
  obtain ⟨mA, hns, hr⟩ := (show ObjOk X.prog X.w H s.heap dd (.xd fs) from I.hok dd _ hd)
  obtain ⟨od, ho, hl⟩ := lookIn_ns hns
  refine ⟨od, mA, ⟨p1, hz.1, ?_, ?_⟩, hl, hr⟩
  · unfold PySem.W.notCls
    rw [hd2] <;> rfl
  · rw [hz.2]
    exact ho
/-- isinstance(e, c), e the handled exception -/
theorem call_isX {dd : Addr} (T : ExAt X.K X.mg x fld C) (hq : q ∈ X.pn) (hz : Zc (.ref C) (some dd) q.2) (hfld : ∃ vs, q.2.data = .fields vs) :
    CallR X (.builtin "isinstance") (fun xs H Q => ∃ (c : V) (cv : Value) (b : Bool) (fs : List (Str × V)), xs = [.ref q.1, c] ∧ ClsV c cv ∧ PySem.W.kitOne X.K (.ref C) cv = some b ∧ H dd = some (.xd fs) ∧ Q (.bl b) H) := by
  rintro pins s σ H xs us Q I r ⟨c, cv, b, fs, rfl, hc, hk, hd, w⟩
  obtain ⟨u1, u2, rfl, r1, r2⟩ := vals2 r
  cases r1
  cases hc.eq r2
  obtain ⟨fI, st, qual, fd, T1, S1, F1, bt⟩ := T.ex
  obtain ⟨od, mA, at1, _, _⟩ := exc_at hq hz hfld I hd
  exact PySem.W.kia_one (kit_exc T1 T.is) I.kIn at1 hk (fun z => nomatch z) fun tk => ⟨.bl b, H, I.tok tk, rfl, w⟩
/-- e.f, e the handled exception -/
def tXf1 (a dd : Addr) (f : Str) (te : TE) : TE := fun σ H Q => te σ H fun v H1 => v = .ref a ∧ ∃ (fs : List (Str × V)) (u : V), H1 dd = some (.xd fs) ∧ fs.lookup f = some u ∧ Q u H1
theorem pe_xf1 {dd : Addr} {e : Expr} {te : TE} {pos : Pos} (T : ExAt X.K X.mg x fld C) (hq : q ∈ X.pn) (hz : Zc (.ref C) (some dd) q.2) (hfld : ∃ vs, q.2.data = .fields vs) (he : PE X e te) (hb : attributeBase e fld X.env (eval e X.env) = eval e X.env := by rfl) :
    PE X (.Attribute e fld pos) (tXf1 q.1 dd fld te) := by
  obtain ⟨fI, st, qual, fd, T1, S1, F1, bt⟩ := T.ex
  constructor
  intro pins s σ H Q I h
  apply attr_of hb
  apply thn (he.run pins s σ H _ I h)
  rintro u s1 ⟨v, H1, I1, rv, rfl, fs, z, hd, hl, w⟩
  cases rv
  obtain ⟨od, mA, at1, lk, rel⟩ := exc_at hq hz hfld I1 hd
  obtain ⟨u, hu, ru⟩ := RelO.some_of (v := z) (o := mA fld) (by rw [← hl]; exact rel fld)
  exact HandSPX.exc_get I1.kIn at1 T1.ga T1.gg T1.ex (PySem.W.findObj_own T1.hd (T1.no fld List.mem_cons_self) rfl (by rw [lk, hu])) (handed_of ru) ⟨z, H1, I1.tok _, ru, w⟩
end
/-! ### try: .. except (A, B, C) as n: .., every exception being one of them -/
theorem flying_keep {B h h' : Heap} {l : List Env} {e : Addr} {Z : Obj → Prop} (k : ∀ b o, h.get? b = some o → h'.get? b = some o) (x : HandSPX.FlyingZ B l e Z h) : HandSPX.FlyingZ B l e Z h' := by
  obtain ⟨h1, h2, h3, oe, vs, T, oT, ts, q1, q2, q3, q4, q5, q6, q7, q8⟩ := x
  refine ⟨fun b o z => k _ _ (h1 b o z), h2, Heap.FunFrames.of_keeps (fun b o z _ => ⟨o, k _ _ z, rfl⟩) h3, oe, vs, T, oT, ts, k _ _ q1, q2, q3, q4, q5, q6, k _ _ q7, q8⟩
def wAll (K : PySem.W.Frag) (cs : List Value) (i : Nat) (ts : Addr → Value → Option Addr → TS) (D : Ends) : WX := fun cls d σ H =>
  PySem.W.exmAny K cls cs = some true ∧ ∀ a, H a = none → ts a cls d { nx := fun σ' H' => D.nx (σ'.set i none) H', rt := D.rt, bk := fun σ' H' => D.bk (σ'.set i none) H', ct := fun σ' H' => D.ct (σ'.set i none) H' } (σ.set i (some (.ref a))) H
section
variable {X : Cx} {x1 x2 x3 n : Str} {c1 c2 c3 : Value} {i : Nat} {body suite : List Stmt} {b₀ : Stmt} {np1 np2 np3 tp pos pos' : Pos} {kk : Nat} {tb : WX → TS} {ts : Addr → Value → Option Addr → TS}
theorem ld_name {Y : Cx} {pins : List (Addr × Obj)} {σ : L2.St} {H : Hp} {s : Shared} {x : Str} {c : Value} {p : Pos} {Q : Value → Shared → Prop} {E : Value → Shared → Prop} (I : Inv Y pins σ H s) (hc : Names Y x c) (q : Q c s) : wpAny (model Y.prog Y.w) Y.A (eval (.Name x p) Y.env) Q E s := by
  obtain ⟨hg, hdbg, hm | ⟨hm, hv, hnn⟩⟩ := hc
  · exact ld_glob I hg hm q hdbg
  · exact ld_blt I hg hm hv q hnn hdbg
theorem ps_try3 (hs : X.stack = X.env :: X.outer) (hf : X.env.frame = some X.env.locals) (hN : X.N.Nodup) (hi : X.N[i]? = some n) (hln : X.env.kindOf n = some .local) (hc1 : Names X x1 c1) (hc2 : Names X x2 c2) (hc3 : Names X x3 c3)
    (hb : ∀ (W : WX) (pn : List (Addr × Obj)) (xe : Value → Shared → Prop), Takes (X.tr pn xe) W → PassesOwn (model X.prog X.w) X.A X.env xe → PSs (X.tr pn xe) body (tb W))
    (hsu : ∀ (a : Addr) (oe : Obj) (cls : Value) (d : Option Addr) (pn : List (Addr × Obj)), Zc cls d oe → (∃ vs, oe.data = .fields vs) → PSs (X.suite a ((a, oe) :: pn)) (b₀ :: suite) (ts a cls d)) :
    PS X (.Try body [.ExceptHandler (some (.Tuple [.Name x1 np1, .Name x2 np2, .Name x3 np3] kk tp)) (some n) (b₀ :: suite) pos'] [] [] pos) (fun D σ H => tb (wAll X.K [c1, c2, c3] i ts D) D σ H) := by
  constructor
  intro pins s σ H D I h
  have ok := I.ok
  have hfr : X.A.frames = some (X.env :: X.outer) := by rw [ok.frames, hs]
  apply wpAny_Try_except
  apply wpAny_mono ((hb (wAll X.K [c1, c2, c3] i ts D) (X.pn ++ pins) _ (fun u s' xx => ?_) PassesOwn.looking).run [] s σ H D (I.toTry _) h)
  · intro f s1 hsp
    cases f with
    | next =>
      obtain ⟨σ6, H6, S6, q6⟩ := hsp
      apply wpAny_execs_nil
      exact ⟨_, _, S6.ofTry ok, q6⟩
    | brk =>
      obtain ⟨σ6, H6, S6, q6⟩ := hsp
      exact ⟨_, _, S6.ofTry ok, q6⟩
    | cont =>
      obtain ⟨σ6, H6, S6, q6⟩ := hsp
      exact ⟨_, _, S6.ofTry ok, q6⟩
    | ret u =>
      obtain ⟨v6, σ6, H6, S6, r6, q6⟩ := hsp
      exact ⟨_, _, _, S6.ofTry ok, r6, q6⟩
  · intro e s1 he
    exact he
  · obtain ⟨a, B, sI, pins', σ', H', cls, d, rfl, J', nb, up, sky, na, os, ag, hmatch, hyes⟩ := xx
    have J : Inv X pins σ' H' sI := J'.ofTry ok
    have sky' : Sky B (X.env :: X.outer) a (Zc cls d) X.env.locals s'.heap := by
      rw [← hs]
      exact sky
    show wpAny (model X.prog X.w) X.A (noteFrame (.ref a) X.env) _ _ _
    apply Sky.land Zc.steady hfr hf sky'
    intro h3 fl3 up3
    obtain ⟨oe3, vs3, he3, hz3, hd3⟩ := fl3.there
    have nfr : a ∉ frs (X.env :: X.outer) := by
      intro hm
      obtain ⟨_, o', e', hnf⟩ := fl3.2.2.1.mem hm
      rw [he3] at e'
      cases e'
      exact hnf _ hd3
    have nL : a ≠ X.env.locals := fun z => nfr (List.mem_filterMap.mpr ⟨X.env, List.mem_cons_self, by rw [hf, z]⟩)
    have nF : a ∉ X.fs := by
      intro hm
      obtain ⟨e, he, q⟩ := List.mem_filterMap.mp hm
      exact nfr (List.mem_filterMap.mpr ⟨e, List.mem_cons_of_mem _ he, q⟩)
    have J3 : Inv X pins σ' H' { s' with heap := h3 } := J.landed nb fl3.1 (up.trans up3) os ag
    have S3 := J3.suite he3 hd3 na nL nF
    apply wpAny_handleBy_cons (codeAny_handlers_test ?_) (by intro q; cases q)
    have LT : PySem.W.Looks (model X.prog X.w) h3 (typeOf (.ref a)) cls := fun A Q E s k q => wpAny_typeOf_ref (k _ _ he3) (by rw [hz3.1]; exact q)
    let tobj : Obj := { cls := .type "tuple", data := .seq [c1, c2, c3].toArray }
    have kp : ∀ q o, h3.get? q = some o → (h3.push tobj).get? q = some o := fun _ _ z => Heap.get?_push_of_some _ z
    have LM := PySem.W.exm_tup3 (M := model X.prog X.w) (J3.kIn.keeps kp) (LT.keeps kp) (Heap.get?_push_size h3 rfl) hmatch
    refine wpAny_Tuple (wpAny_items_cons (ld_name (Y := X.suite a ((a, oe3) :: (X.pn ++ pins))) S3 hc1 ?_))
    refine wpAny_items_cons (ld_name (Y := X.suite a ((a, oe3) :: (X.pn ++ pins))) S3 hc2 ?_)
    refine wpAny_items_cons (ld_name (Y := X.suite a ((a, oe3) :: (X.pn ++ pins))) S3 hc3 ?_)
    apply wpAny_items_nil
    refine ⟨by size_fits, ?_⟩
    apply LM.here
    apply codeAny_handlers_suite_as
    have fl3' := flying_keep kp fl3
    apply HandSPX.lands_againZ (s := { s' with heap := h3.push tobj }) fl3'
    intro h4 fl4 up4
    have J4 : Inv X pins σ' H' { s' with heap := h4 } := J.landed nb fl4.1 (((up.trans up3).trans (.of_keeps kp)).trans up4) os ag
    obtain ⟨oe4, vs4, he4, hz4, hd4⟩ := fl4.there
    have S4 := J4.suite he4 hd4 na nL nF
    apply store_ok (X := X.suite a ((a, oe4) :: (X.pn ++ pins))) (v := .ref a) S4 hN hi (.inl hln) rfl _ (.inr hln)
    intro s5 S5
    apply wpAny_mono ((hsu a oe4 cls d (X.pn ++ pins) hz4 ⟨_, hd4⟩).run [] s5 _ H' _ S5 (hyes a na))
    · intro f s6 hsp
      have fin : ∀ {σ6 : L2.St} {H6 : Hp} {Q : Shared → Prop}, Inv (X.suite a ((a, oe4) :: (X.pn ++ pins))) [] σ6 H6 s6 → (∀ s7, Inv X pins (σ6.set i none) H6 s7 → Q s7) →
          wpAny (model X.prog X.w) X.A (do bindName X.env n .none; unbindBehindTheSuite X.env n pos') (fun _ s7 => Q s7) X.xe s6 := fun S6 hq => gone_ok (S6.unsuite ok) hN hi hln hq
      cases f with
      | next =>
        obtain ⟨σ6, H6, S6, q6⟩ := hsp
        exact fin S6 fun s7 J7 => ⟨_, _, J7, q6⟩
      | brk =>
        obtain ⟨σ6, H6, S6, q6⟩ := hsp
        exact fin S6 fun s7 J7 => ⟨_, _, J7, q6⟩
      | cont =>
        obtain ⟨σ6, H6, S6, q6⟩ := hsp
        exact fin S6 fun s7 J7 => ⟨_, _, J7, q6⟩
      | ret u =>
        obtain ⟨v6, σ6, H6, S6, r6, q6⟩ := hsp
        exact fin S6 fun s7 J7 => ⟨_, _, _, J7, r6, q6⟩
    · intro _ _ z
      exact False.elim z
end
end Ft

/-! A lambda handed to a def that calls it in a try. -/
namespace Ft
open PySem PySem.Spec PyProof.Rows L2 LamX
theorem takes_len {X : Cx} {W : WX} (t : Takes X W) : Takes X (fun c d σ H => σ.length = X.N.length → W c d σ H) := by
  rintro u s' ⟨a, B, sI, pins, σ, H, cls, d, e, I, r1, r2, r3, r4, r5, r6, q⟩
  exact t u s' ⟨a, B, sI, pins, σ, H, cls, d, e, I, r1, r2, r3, r4, r5, r6, q I.len⟩
theorem room_hot {k : Nat} {A : Around} (r : Room k A) (h : Option Value) : L2H.RoomH k (A.mark h) := ⟨r.dp, r.un⟩
/-- what the def makes of the lambda's reading: told: ['given', ..], or what the sorting def says of the exception -/
def TTold3 (K : PySem.W.Frag) (cs : List Value) (sp : Addr → Value → Option Addr → Sp) (word : Str) : (XK → Hp → VK → Prop) → Hp → VK → Prop := fun tl H Q =>
  tl (fun cls d H' => PySem.W.exmAny K cls cs = some true ∧ ∀ a, H' a = none → sp a cls d [.ref a] H' Q E0) H fun v H1 => ∃ u, (some (some v) : Option (Option V)) = some (some u) ∧ [V.str word, u].length ≤ sizeLine ∧ ∀ p, H1 p = none → Q (.ref p) (upd H1 p (.lst [.str word, u]))
def toldBody (a t e srt x1 x2 x3 word : Str) (p1 p2 p3 p4 p5 p6 p7 p8 p9 p10 p11 p12 p13 p14 p15 p16 p17 p18 : Pos) (kk j : Nat) : List Stmt :=
  [.Try [.Assign [.Name t p1] (.Call (.Name a p2) [] [] p3) p4] [.ExceptHandler (some (.Tuple [.Name x1 p5, .Name x2 p6, .Name x3 p7] kk p8)) (some e) [.Return (some (.Call (.Name srt p9) [.Name e p10] [] p11)) p12] p13] [] [] p14,
    .Return (some (.List [.Constant (.str word) j p15, .Name t p16] p17)) p18]
theorem told3 {X : Cx} {x a t e srt q x1 x2 x3 word y : Str} {sg : Scope} {g : Addr} {cdg c1 c2 c3 : Value} {k : Nat} {sp : Addr → Value → Option Addr → Sp} {p1 p2 p3 p4 p5 p6 p7 p8 p9 p10 p11 p12 p13 p14 p15 p16 p17 p18 : Pos} {kk j : Nat}
    (hg : X.A.guards = some []) (hr : Room (k + 1) X.A) (S : HasHot X.prog X.w X.K X.mg X.base k srt [y] sp) (hnd : [a, t, e].Nodup) (hsk : sg.kind = .function)
    (l0 : sg.names.lookup a = some .local) (l1 : sg.names.lookup t = some .local) (l2 : sg.names.lookup e = some .local) (gs : sg.names.lookup srt = some .globalImplicit)
    (g1 : sg.names.lookup x1 = some .globalImplicit) (g2 : sg.names.lookup x2 = some .globalImplicit) (g3 : sg.names.lookup x3 = some .globalImplicit)
    (m1 : X.mg x1 = some c1) (m2 : X.mg x2 = some c2) (m3 : X.mg x3 = some c3) (d1 : (x1 == ("__debug__" : Str)) = false) (d2 : (x2 == ("__debug__" : Str)) = false) (d3 : (x3 == ("__debug__" : Str)) = false)
    (ds : (srt == ("__debug__" : Str)) = false) (dt : (t == ("__debug__" : Str)) = false) (de : (e == ("__debug__" : Str)) = false) (dt2 : (t == ("__classdict__" : Str)) = false) (de2 : (e == ("__classdict__" : Str)) = false) :
    GivesTo X [a, t, e] x sg g cdg (toldBody a t e srt x1 x2 x3 word p1 p2 p3 p4 p5 p6 p7 p8 p9 p10 p11 p12 p13 p14 p15 p16 p17 p18 kk j) a q (TTold3 X.K [c1, c2, c3] sp word) := by
  intro f c' s H Q tl act hc h
  let Z : Cx := (cxOf C8.CX0 X.prog X.w X.K X.mg X.base [a, t, e] x sg g cdg X.A X.stack s H C8.E0).nox
  have hgl : Z.A.guards = some [] := hg
  have hroom : Room k Z.A := hr.deeper _
  have try_ := ps_try3 (X := Z) (i := 2) (n := e) (x1 := x1) (x2 := x2) (x3 := x3) (c1 := c1) (c2 := c2) (c3 := c3) (np1 := p5) (np2 := p6) (np3 := p7) (tp := p8) (pos := p14) (pos' := p13) (kk := kk)
    (body := [.Assign [.Name t p1] (.Call (.Name a p2) [] [] p3) p4]) (b₀ := .Return (some (.Call (.Name srt p9) [.Name e p10] [] p11)) p12) (suite := [])
    (tb := fun W D σ H => ∃ Ech : XK, (∀ cls d σ' H', Ech cls d H' → σ'.length = [a, t, e].length → W cls d σ' H') ∧ σ[0]? = some (some (.ref f)) ∧ H c' = some (CodeO c' q) ∧ tl Ech H fun v H1 => D.nx (σ.set 1 (some v)) H1)
    (ts := fun ad cls d => tRet (tCall (sp ad cls d) [] E0 (tCons (tVar 2) tNil)))
    rfl rfl hnd rfl l2 ⟨g1, d1, .inl m1⟩ ⟨g2, d2, .inl m2⟩ ⟨g3, d3, .inl m3⟩ (fun W pn xe tk _ => ?_) (fun ad oe cls d pn hz hf => ?_)
  · refine ⟨_, pss_cons try_ (pss_one (ps_ret (pe_lst (pa_cons pe_str (pa_cons (pe_var (i := 1) rfl (.inl l1) dt dt2) pa_nil))))), ?_⟩
    refine ⟨(fun cls d H' => PySem.W.exmAny X.K cls [c1, c2, c3] = some true ∧ ∀ a, H' a = none → sp a cls d [.ref a] H' Q E0), fun cls d σ' H' hE hl => ⟨hE.1, fun ad had => ?_⟩, rfl, hc, h⟩
    have hs : (σ'.set 2 (some (V.ref ad)))[2]? = some (some (V.ref ad)) := by
      rw [List.getElem?_set_self]
      rw [hl]
      show 2 < 3
      decide
    exact ⟨_, hs, hE.2 ad had⟩
  · refine ⟨fun pins s' σ H' D I h' => ?_⟩
    obtain ⟨Ech, hW, h1, h2, h3⟩ := h'
    have hp := act _ pn xe Ech p2 p3 (takes_len tk) (fun cls d σ' H' hE hl => hW cls d σ' H' hE hl)
    have hq := pss_one (ps_set (i := 1) (pos := p4) (pos' := p1) hnd rfl (.inl l1) hp (by rfl) (.inr l1))
    exact hq.run pins s' σ H' D I ⟨h1, h2, h3⟩
  · have hot := pe_hot (X := Z.suite ad ((ad, oe) :: pn)) (x := srt) (p := p9) (pos := p11) (q := (ad, oe)) (cls := cls) (d := d) (e := .Name e p10) (es := []) S hgl (room_hot hroom _) List.mem_cons_self hz hf gs
      (pa_cons (pe_var (i := 2) rfl (.inl l2) de de2) pa_nil) ds
    exact pss_one (ps_ret hot)
end Ft

/-! Promises of the program's own defs (no need of the guards), which may let exceptions out; classes made; the end of a law with tables of code objects. -/
namespace Ft
open PySem PySem.Spec PyProof.Rows L2 LamX
structure HasO (P : Program) (w : World) (K : PySem.W.Frag) (mg : Str → Option Value) (base : Heap) (CX : CXT) (k : Nat) (x : Str) (ps : List Str) (sp : Sp) : Prop where
  ex : ∃ (f : Addr) (fd : FuncData), FnOk P w K mg base CX k f fd ps sp ∧ mg x = some (.ref f) ∧ PySem.W.keepIn K (.ref f) = true ∧ Binds K fd ps []
section
variable {P : Program} {w : World} {K : PySem.W.Frag} {mg : Str → Option Value} {base : Heap}
theorem okO {x qual : Str} {st : Stmt} {f : Addr} {fd : FuncData} {N ps : List Str} {k : Nat} {sp : Sp} (F : Fun K x qual st f fd) (S : FnScope N ps (defScope st)) (len : ∀ vs H Q E, sp vs H Q E → vs.length = ps.length)
    (hb : ∀ (cdv : Value) (A : Around) (outer : List Env) (s : Shared) (H : Hp) (vs : List V) (Q : VK) (E : XK), Room k (A.deeper (envOfC qual (defScope st) s.heap.objs.size f cdv)) → sp vs H Q E →
      ∃ t, PSs (cxOf CX0 P w K mg base N qual (defScope st) f cdv A outer s H E).nox (defBody st) t ∧ t ⟨fun _ H' => Q .non H', Q, fun _ _ => False, fun _ _ => False⟩ (start N vs) H) :
    FnOk P w K mg base CX0 (k + 1) f fd ps sp := by
  obtain ⟨_, _, _, _, _, _, cdv, _, _, e, lk, hcd⟩ := F.ex
  subst e
  refine fn_of lk hcd S len fun A outer s H vs Q E hr h => ?_
  obtain ⟨t, d, q⟩ := hb cdv A outer s H vs Q E hr h
  exact ⟨t, d.nox, q⟩
/-- a def that may raise; tk, px, pc: where its exceptions go -/
theorem okX {x qual : Str} {st : Stmt} {f : Addr} {fd : FuncData} {N ps : List Str} {k : Nat} {sp : Sp} (F : Fun K x qual st f fd) (S : FnScope N ps (defScope st)) (len : ∀ vs H Q E, sp vs H Q E → vs.length = ps.length)
    (hb : ∀ (cdv : Value) (A : Around) (outer : List Env) (s : Shared) (H : Hp) (vs : List V) (Q : VK) (E : XK), Room k (A.deeper (envOfC qual (defScope st) s.heap.objs.size f cdv)) →
      Takes (cxOf (L2.CX P w) P w K mg base N qual (defScope st) f cdv A outer s H E) (fun cls d _ H => E cls d H) →
      PassesOwn (model P w) (cxOf (L2.CX P w) P w K mg base N qual (defScope st) f cdv A outer s H E).A (cxOf (L2.CX P w) P w K mg base N qual (defScope st) f cdv A outer s H E).env (cxOf (L2.CX P w) P w K mg base N qual (defScope st) f cdv A outer s H E).xe →
      Passes (L2.CX P w) (cxOf (L2.CX P w) P w K mg base N qual (defScope st) f cdv A outer s H E) E → sp vs H Q E →
      ∃ t, PSs (cxOf (L2.CX P w) P w K mg base N qual (defScope st) f cdv A outer s H E) (defBody st) t ∧ t ⟨fun _ H' => Q .non H', Q, fun _ _ => False, fun _ _ => False⟩ (start N vs) H) :
    FnOk P w K mg base (L2.CX P w) (k + 1) f fd ps sp := by
  obtain ⟨_, _, _, _, _, _, cdv, _, _, e, lk, hcd⟩ := F.ex
  subst e
  refine fn_of lk hcd S len fun A outer s H vs Q E hr h => ?_
  have tk : Takes (cxOf (L2.CX P w) P w K mg base N qual (defScope st) f cdv A outer s H E) (fun cls d _ H => E cls d H) := takes_of rfl rfl rfl rfl
  exact hb cdv A outer s H vs Q E hr tk (passes_of rfl) (passes_call tk fun _ _ _ _ h => h) h
theorem DefAt.hasO {CX : CXT} {k : Nat} {x : Str} {st : Stmt} {ps : List Str} {sp : Sp} {f : Addr} {fd : FuncData} (A : DefAt K mg x st f fd) (G : Fun K x x st f fd → FnOk P w K mg base CX k f fd ps sp)
    (hb : ∀ (kV doc pm : Value) (an : Option Addr) (cdv ct : Value) (us : List Value), us.length = ps.length → bindArgs (PySem.W.fnOf x x (defArgs st) (defBody st) (defScope st) .none kV doc pm an cdv ct) ⟨us, []⟩ = pure (ps.zip us)) :
    HasO P w K mg base CX k x ps sp := ⟨⟨f, fd, G A.fn, A.at_, A.fn.kp, A.fn.binds hb⟩⟩
theorem HasO.has {CX : CXT} {k : Nat} {x : Str} {ps : List Str} {sp : Sp} (F : HasO P w K mg base CX k x ps sp) : Has P w K mg base CX k x ps sp := by
  obtain ⟨f, fd, h, r⟩ := F.ex
  exact ⟨⟨f, fd, ofOk h, r⟩⟩
end
section
variable {X : Cx} {CX : CXT} {k : Nat} {f C : Addr} {fd : FuncData} {ps : List Str} {sp : Sp} {E : XK} {x : Str} {p pos : Pos} {e : Expr} {es : List Expr} {t : TA}
theorem pe_o (F : HasO X.prog X.w X.K X.mg X.base CX k x ps sp) (hr : Room k X.A) (hx : Passes CX X E) (gl : Gl X x) (ha : PA X (e :: es) t) (hdb : (x == ("__debug__" : Str)) = false := by decide)
    (he : starEach (e :: es) X.env = (false, eval e X.env) :: starEach es X.env := by rfl) (hpl : (backTo pos (starEach es X.env)).any (·.1) = false := by rfl) : PE X (.Call (.Name x p) (e :: es) [] pos) (tCall sp [] E t) := by
  obtain ⟨f, fd, G, hm, hk, hb⟩ := F.ex
  exact pe_call G hr gl hm hk hb .nil hx ha hdb he hpl
/-- a class of the text that is made by its __init__ -/
structure ClsO (P : Program) (w : World) (K : PySem.W.Frag) (mg : Str → Option Value) (base : Heap) (CX : CXT) (k : Nat) (x : Str) (C : Addr) (ps : List Str) (sp : Sp) : Prop where
  ex : ∃ (f : Addr) (fd : FuncData), FnOk P w K mg base CX k f fd ps sp ∧ mg x = some (.ref C) ∧ Mk K C f ∧ Binds K fd ps []
theorem pe_new (F : ClsO X.prog X.w X.K X.mg X.base CX k x C ps sp) (hr : Room (k + 1) X.A) (hx : Passes CX X E) (gl : Gl X x) (ha : PA X (e :: es) t) (hdb : (x == ("__debug__" : Str)) = false := by decide)
    (he : starEach (e :: es) X.env = (false, eval e X.env) :: starEach es X.env := by rfl) (hpl : (backTo pos (starEach es X.env)).any (·.1) = false := by rfl) : PE X (.Call (.Name x p) (e :: es) [] pos) (tMake C sp [] E t) := by
  obtain ⟨f, fd, G, hm, M, hb⟩ := F.ex
  exact pe_make M G hr gl hm hb .nil hx ha hdb he hpl
end
/-! ### the end of a law row that makes lambdas -/
theorem lawEndT {P : Program} {w : World} {K : PySem.W.Frag} {mg mb : Str → Option Value} {k : Nat} {fa a : Addr} {cs : List (Addr × Addr)} {fd : FuncData} {x : Str} {sp : Sp} {s : Shared} {vs : List Value} {ns : List Int}
    (inK : K.In s.heap) (hG : s.heap.Ns mainGlobals mg) (hB : s.heap.Ns builtinsNs mb) (hBB : ∀ y : Str, y ≠ "__name__" → mb y = bootBuiltins y) (nolim : s.heap.NoLimit) (nogen : s.gens = #[])
    (tabO : ∀ p ∈ cs, s.heap.get? p.2 = some { cls := .none, data := .fields #[] }) (tabK : ∀ p ∈ cs, K.lookup p.2 = none) (tabC : ∀ p ∈ cs, PySem.W.CodeHd s.heap p.1 p.2)
    (hbm : ∃ (bm : Addr) (ob : Obj), mg "__builtins__" = some (.ref bm) ∧ bm ≠ builtinsNs ∧ s.heap.get? bm = some ob ∧ ob.cls = .type "module" ∧ ob.dict = some builtinsNs ∧ ob.data = .plain)
    (ha : s.heap.get? a = some { cls := .type "list", data := .seq vs.toArray }) (hints : IntsAre vs ns) (hlen : ns.length ≤ sizeLine) (room : Room k callerA)
    (F : ∀ base : Heap, K.In base → base.Ns mainGlobals mg → (∀ p ∈ cs, TabB base mg p.1 p.2) → FnG P w K mg base CX0 k fa fd [x] sp)
    (bt : ∀ (s : Shared) (u : Value), BindsTo s fd ⟨[u], []⟩ [(x, u)])
    (hsp : ∀ H : Hp, (∀ p ∈ cs, H p.2 = some (.tbl #[])) → SqL K H a (ns.map V.int) → sp [.ref a] H (fun v _ => v = .bl true) E0) :
    codeAny (model P w) callerA (.call (.ref fa) ⟨[.ref a], []⟩) (fun r s' => r = .ok (.ret (.bool true)) ∧ OldK s.heap s'.heap ∧ s'.os = s.os ∧ AllBare s'.gens) s := by
  have rel := vals_ints hints
  let ob : Obj := { cls := .type "list", data := .seq vs.toArray }
  let T : Addr → Prop := fun b => ∃ p ∈ cs, p.2 = b
  have objT : ∀ {b}, T b → s.heap.get? b = some { cls := .none, data := .fields #[] } := by
    rintro b ⟨p, hp, rfl⟩
    exact tabO p hp
  have aT : ¬ T a := fun z => by
    have q := objT z
    rw [ha] at q
    cases q
  let H : Hp := fun b => open Classical in if T b then some (.tbl #[]) else if b = a ∧ K.lookup a = none then some (.frz ob (.lst (ns.map V.int))) else none
  have HT : ∀ {b}, T b → H b = some (.tbl #[]) := fun z => if_pos z
  have Hel : ∀ {b}, ¬ T b → H b = if b = a ∧ K.lookup a = none then some (.frz ob (.lst (ns.map V.int))) else none := fun z => if_neg z
  have Hsome : ∀ {b : Addr} {u : HO}, H b = some u → (T b ∧ u = .tbl #[]) ∨ (b = a ∧ K.lookup a = none ∧ u = .frz ob (.lst (ns.map V.int))) := by
    intro b u q
    by_cases t : T b
    · rw [HT t] at q
      exact .inl ⟨t, (Option.some.inj q).symm⟩
    · rw [Hel t] at q
      by_cases c : b = a ∧ K.lookup a = none
      · rw [if_pos c] at q
        exact .inr ⟨c.1, c.2, (Option.some.inj q).symm⟩
      · rw [if_neg c] at q
        cases q
  have Hnone : ∀ {b : Addr} {o : Obj}, s.heap.get? b = some o → (∀ us n, o.data ≠ .seq us n) → o.data ≠ .fields #[] → H b = none := by
    intro b o e1 e2 e3
    cases c : H b with
    | none => rfl
    | some u =>
      rcases Hsome c with ⟨t, _⟩ | ⟨rfl, -, -⟩
      · rw [objT t] at e1
        cases e1
        exact absurd rfl e3
      · rw [ha] at e1
        cases e1
        exact absurd rfl (e2 _ _)
  let base := hidT s.heap H
  have onto : ∀ {b : Addr} {m : Str → Option Value}, s.heap.Ns b m → base.Ns b m := by
    rintro b m ⟨o, es, ep, e1, e2, r⟩
    refine ⟨o, es, ep, hidT_get e1 (Hnone e1 (fun us n z => ?_) (fun z => ?_)), e2, r⟩ <;> (rw [e2] at z; cases z)
  have inB : K.In base := by
    intro b o e
    apply hidT_get (inK b o e)
    cases c : H b with
    | none => rfl
    | some u =>
      rcases Hsome c with ⟨⟨p, hp, rfl⟩, _⟩ | ⟨rfl, z, -⟩
      · exact absurd ((tabK p hp).symm.trans e) (by intro y; cases y)
      · exact absurd (z.symm.trans e) (by intro y; cases y)
  have sq : SqL K H a (ns.map V.int) := by
    cases c : K.lookup a with
    | none => exact .inl (.inr ⟨ob, (Hel aT).trans (if_pos ⟨rfl, c⟩)⟩)
    | some o =>
      have e := inK a o c
      rw [ha] at e
      cases e
      refine .inr ⟨_, vs.toArray, _, c, rfl, rfl, rfl, ?_, ?_⟩
      · rw [List.size_toArray, ← rel.length, List.length_map]
        exact hlen
      · rw [List.toList_toArray]
        exact rel
  have hok : HOk P w H s.heap := by
    intro b u q
    rcases Hsome q with ⟨t, rfl⟩ | ⟨rfl, -, rfl⟩
    · exact objT t
    · exact ⟨ha, by rw [List.length_map]; exact hlen, vs, _, rel, ha⟩
  have nomem : ∀ b : Addr, b ∉ frs ([] : List Env) := fun b z => by
    cases z
  have tabs : ∀ p ∈ cs, TabB base mg p.1 p.2 := by
    intro p hp
    have ht := tabO p hp
    constructor
    · obtain ⟨o, us, file, tf, flags, tg, inF, text, tt, e1, r1, r2, r3, r⟩ := tabC p hp
      refine ⟨o, us, file, tf, flags, tg, inF, text, tt, hidT_get e1 (Hnone e1 (fun _ _ z => ?_) (fun z => ?_)), r1, r2, r3, r⟩
      · rw [r2] at z
        cases z
      · rw [r2] at z
        cases z
        exact absurd r3 (by simp)
    · obtain ⟨bm, o, b1, b2, b3, b4, b5, b6⟩ := hbm
      refine ⟨bm, o, b1, b2, fun q => ?_, fun q => ?_, hidT_get b3 (Hnone b3 (fun _ _ z => ?_) (fun z => ?_)), b4, b5, b6⟩
      · obtain ⟨o', es, ep, e, hd, _⟩ := hG
        rw [q, e] at b3
        cases b3
        rw [hd] at b6
        cases b6
      · rw [q, ht] at b3
        cases b3
        cases b6
      · rw [b6] at z
        cases z
      · rw [b6] at z
        cases z
    · intro z
      obtain ⟨o, es, ep, e, hd, _⟩ := hG
      rw [z, ht] at e
      cases e
      cases hd
  have e0 : Env0 P w K mg base callerA [] s H :=
    { frames := rfl, mod := ⟨inB, onto hG, ⟨mb, onto hB, hBB⟩, ?lim⟩, bs := fun b o e => of_hidT e, bsz := Nat.le_of_eq (hidT_size s.heap H), funs := trivial, frf := fun b z => absurd z (nomem b), hok := hok, bare := .of_eq nogen }
  case lim =>
    obtain ⟨mc, h1, h2⟩ := nolim
    exact ⟨mc, onto h1, h2⟩
  apply codeAny_mono ((F base inB (onto hG) tabs).gRun callerA rfl room [] s H e0 ⟨[.ref a], []⟩ [.ref a] [.ref a] _ _ (bt s (.ref a)) (.cons rfl .nil) (hsp H (fun p hp => HT ⟨p, hp, rfl⟩) sq))
  intro r s2 q
  match r, q with
  | .error e, q => exact False.elim q
  | .ok .next, q => exact False.elim q
  | .ok .brk, q => exact False.elim q
  | .ok .cont, q => exact False.elim q
  | .ok (.ret u), ⟨v, H2, hos, hbare, un, hok2, rv, hv⟩ =>
    cases (show v = .bl true from hv)
    cases (show u = Value.bool true from rv)
    have old : ∀ b o, ¬ T b → s.heap.get? b = some o → s2.heap.get? b = some o := by
      intro b o nt e
      cases c : H b with
      | none => exact un.keep b o e c (nomem b) (by intro z; cases z)
      | some y =>
        rcases Hsome c with ⟨t, _⟩ | ⟨rfl, -, rfl⟩
        · exact absurd t nt
        · rw [ha] at e
          cases e
          exact (hok2 _ _ (un.frzs _ _ _ c)).1
    have grown : ∀ {b}, T b → ∃ more : Array Value, s2.heap.get? b = some { cls := .none, data := .fields more } := by
      intro b t
      obtain ⟨more, z⟩ := un.tbls b #[] (HT t)
      exact ⟨_, hok2 b _ z⟩
    refine ⟨rfl, ⟨fun b o e => ?_, fun b o e => ?_⟩, hos, hbare⟩
    · by_cases t : T b
      · obtain ⟨more, hm⟩ := grown t
        obtain ⟨p, hp, rfl⟩ := t
        rw [tabO p hp] at e
        cases e
        exact .inr (.inl ⟨((tabC p hp).tab (tabO p hp)).isCodeTable, rfl, #[], more, rfl, by rw [Array.empty_append]; exact hm⟩)
      · exact .inl (old b o t e)
    · by_cases t : T b
      · obtain ⟨more, hm⟩ := grown t
        exact ⟨_, hm⟩
      · exact ⟨o, old b o t e⟩
/-- F: also the code objects with their tables, by the names of their defs -/
theorem walkT {l : PySem.W.OpenLaw} {n k : Nat} {q : Program} {loose : List Str} {XP : (Str → Option Value) → Heap → Prop} {YP : World → Heap → Prop} {d : DefRec} {K : Params → PySem.W.Frag} {sp : PySem.W.Frag → List (Addr × Addr) → Sp} {x : Str}
    (hn : l.most = some n) (hn2 : n ≤ sizeLine) (hdf : d.params.defaults = []) (room : Room k callerA) (hY : ∀ (w : World) (h : Heap), YP w h → (K w.params).In h)
    (F : ∀ (w : World) (mg : Str → Option Value) (fa : Addr) (h : Heap), (K w.params).In h → h.Ns mainGlobals mg → mg d.name = some (.ref fa) →
      ∃ (fd : FuncData) (cs : List (Addr × Addr)), (∀ c ∈ cs, ∃ (y : Str) (r : DefRec), (PyProof.Rows.recsOf q).find? (fun e => e.name == y) = some r ∧ PySem.W.tabIn (K w.params) y = some c ∧ (K w.params).lookup c.2 = none) ∧
        (∀ (s : Shared) (u : Value), BindsTo s fd ⟨[u], []⟩ [(x, u)]) ∧
        ∀ base : Heap, (K w.params).In base → base.Ns mainGlobals mg → (∀ p ∈ cs, TabB base mg p.1 p.2) → FnG l.prog w (K w.params) mg base CX0 k fa fd [x] (sp (K w.params) cs))
    (hsp : ∀ (K : PySem.W.Frag) (cs : List (Addr × Addr)) (H : Hp) (a : Addr) (ns : List Int), ns.length ≤ n → (∀ p ∈ cs, H p.2 = some (.tbl #[])) → SqL K H a (ns.map V.int) → sp K cs [.ref a] H (fun v _ => v = .bl true) E0) :
    PySem.W.WalkO q loose XP YP l.row.toRowW d [] (fun f vs => PySem.call f vs) := by
  apply Att.attach_call hn hdf
  intro w s0 s1 mg mb fa o pm cd doc a vs ns G Y _ _ _ hmg hobj hints hlen hg
  obtain ⟨fd, cs, tabs, b, F'⟩ := F w mg fa _ (hY w _ Y) G.T.g hmg
  have tab : ∀ p ∈ cs, PySem.W.CodeHd s1.heap p.1 p.2 ∧ s1.heap.get? p.2 = some { cls := .none, data := .fields #[] } := by
    rintro ⟨c, P⟩ hp
    obtain ⟨y, r, h1, h2, _⟩ := tabs _ hp
    exact PySem.W.tab_of G.T (hY w _ Y) h1 h2
  have non : ∀ p ∈ cs, (K w.params).lookup p.2 = none := fun p hp => by
    obtain ⟨y, r, _, _, h3⟩ := tabs _ hp
    exact h3
  exact lawEndT (hY w _ Y) G.T.g G.T.b G.T.builtins G.T.nolimit hg (fun p hp => (tab p hp).2) non (fun p hp => (tab p hp).1) G.T.bmain hobj hints (Nat.le_trans hlen hn2) room F' b fun H h1 hS => hsp _ _ H a ns hlen h1 hS
end Ft

/-! Data made by the program: numbers, texts, None, tuples and lists that are tracked; no list is the one at z. -/
namespace Ft
open PySem PySem.Spec PyProof.Rows L2
mutual
inductive Dt (z : Addr) (H : Hp) : V → PyData → Prop
  | non : Dt z H .non .none
  | bl (b : Bool) : Dt z H (.bl b) (.bool b)
  | int (i : Int) : Dt z H (.int i) (.int i)
  | str (x : Str) : Dt z H (.str x) (.str x)
  | lst {a : Addr} {xs : List V} {ds : List PyData} : a ≠ z → H a = some (.lst xs) → DtAll z H xs ds → Dt z H (.ref a) (.list ds)
  | tup {a : Addr} {xs : List V} {ds : List PyData} : H a = some (.tup xs) → DtAll z H xs ds → Dt z H (.ref a) (.tuple ds)
inductive DtAll (z : Addr) (H : Hp) : List V → List PyData → Prop
  | nil : DtAll z H [] []
  | cons {v : V} {vs : List V} {d : PyData} {ds : List PyData} : Dt z H v d → DtAll z H vs ds → DtAll z H (v :: vs) (d :: ds)
end
section
variable {z : Addr} {H H' : Hp} {K : PySem.W.Frag}
theorem DtAll.len {xs : List V} {ds : List PyData} (h : DtAll z H xs ds) : xs.length = ds.length := by
  induction ds generalizing xs with
  | nil => cases h; rfl
  | cons d ds ih => cases h with | cons h1 h2 => rw [List.length_cons, List.length_cons, ih h2]
theorem DtAll.get {xs : List V} {ds : List PyData} {i : Nat} {x : V} (h : DtAll z H xs ds) (e : xs[i]? = some x) : ∃ d, ds[i]? = some d ∧ Dt z H x d := by
  induction ds generalizing xs i with
  | nil => cases h; simp at e
  | cons d ds ih =>
    cases h with
    | cons h1 h2 =>
      cases i with
      | zero => cases Option.some.inj e; exact ⟨d, rfl, h1⟩
      | succ i => exact ih h2 e
theorem DtAll.at {xs : List V} {ds : List PyData} {i : Nat} {d : PyData} (h : DtAll z H xs ds) (e : ds[i]? = some d) : ∃ x, xs[i]? = some x ∧ Dt z H x d := by
  obtain ⟨x, hx⟩ : ∃ x, xs[i]? = some x := by
    have hl := (List.getElem?_eq_some_iff.mp e).1
    rw [← h.len] at hl
    exact ⟨_, List.getElem?_eq_getElem hl⟩
  obtain ⟨d', e', h'⟩ := h.get hx
  rw [e] at e'
  cases e'
  exact ⟨x, hx, h'⟩
theorem DtAll.app {xs ys : List V} {ds es : List PyData} (h : DtAll z H xs ds) (k : DtAll z H ys es) : DtAll z H (xs ++ ys) (ds ++ es) := by
  induction ds generalizing xs with
  | nil => cases h; exact k
  | cons d ds ih =>
    cases h with
    | cons h1 h2 => exact .cons h1 (ih h2)
theorem DtAll.strs (ts : List Str) : DtAll z H (ts.map V.str) (ts.map PyData.str) := by
  induction ts with
  | nil => exact .nil
  | cons t ts ih => exact .cons (.str t) ih
theorem DtAll.ofStrs {ts : List Str} {xs : List V} (h : DtAll z H xs (ts.map PyData.str)) : xs = ts.map V.str := by
  induction ts generalizing xs with
  | nil => cases h; rfl
  | cons t ts ih =>
    cases h with
    | cons h1 h2 =>
      cases h1
      rw [ih h2]
      rfl
mutual
/-- data by data: what the heaps agree upon -/
theorem Dt.move (hl : ∀ a xs, a ≠ z → H a = some (.lst xs) → H' a = some (.lst xs)) (ht : ∀ a xs, H a = some (.tup xs) → H' a = some (.tup xs)) : ∀ {v : V} {d : PyData}, Dt z H v d → Dt z H' v d
  | _, _, .non => .non
  | _, _, .bl b => .bl b
  | _, _, .int i => .int i
  | _, _, .str x => .str x
  | _, _, .lst n e h => .lst n (hl _ _ n e) (DtAll.move hl ht h)
  | _, _, .tup e h => .tup (ht _ _ e) (DtAll.move hl ht h)
theorem DtAll.move (hl : ∀ a xs, a ≠ z → H a = some (.lst xs) → H' a = some (.lst xs)) (ht : ∀ a xs, H a = some (.tup xs) → H' a = some (.tup xs)) : ∀ {vs : List V} {ds : List PyData}, DtAll z H vs ds → DtAll z H' vs ds
  | _, _, .nil => .nil
  | _, _, .cons h1 h2 => .cons (Dt.move hl ht h1) (DtAll.move hl ht h2)
end
theorem Dt.same {v : V} {d : PyData} (h : Dt z H v d) (s : Same H H') : Dt z H' v d := h.move (fun a xs _ e => s _ _ e) (fun a xs e => s _ _ e)
theorem DtAll.same {v : List V} {d : List PyData} (h : DtAll z H v d) (s : Same H H') : DtAll z H' v d := h.move (fun a xs _ e => s _ _ e) (fun a xs e => s _ _ e)
theorem Dt.mv {v : V} {d : PyData} (h : Dt z H v d) (hz : ∀ xs, H z ≠ some (.tup xs)) (s : Mv z H H') : Dt z H' v d :=
  h.move (fun a xs n e => s _ _ n e) (fun a xs e => s _ _ (fun q => hz xs (q ▸ e)) e)
theorem DtAll.mv {v : List V} {d : List PyData} (h : DtAll z H v d) (hz : ∀ xs, H z ≠ some (.tup xs)) (s : Mv z H H') : DtAll z H' v d :=
  h.move (fun a xs n e => s _ _ n e) (fun a xs e => s _ _ (fun q => hz xs (q ▸ e)) e)
theorem Dt.extN {v : V} {d : PyData} (h : Dt z H v d) (s : LamX.ExtN H H') : Dt z H' v d :=
  h.move (fun a xs n e => s _ _ e (fun ps q => nomatch q)) (fun a xs e => s _ _ e (fun ps q => nomatch q))
theorem Deal.notup {d : Addr} (h : Deal H d) : ∀ xs, H d ≠ some (.tup xs) := fun xs q => by
  obtain ⟨a, b, c, e, _⟩ := h
  rw [e] at q
  cases q
mutual
theorem Dt.dp : ∀ {v : V} {d : PyData}, Dt z H v d → Dp K H v d
  | _, _, .non => .non
  | _, _, .bl b => .bl b
  | _, _, .int i => .int i
  | _, _, .str x => .str x
  | _, _, .lst n e h => .lst (SqL.of e) (DtAll.dp h)
  | _, _, .tup e h => .tup (.inl (.inl e)) (DtAll.dp h)
theorem DtAll.dp : ∀ {vs : List V} {ds : List PyData}, DtAll z H vs ds → DpAll K H vs ds
  | _, _, .nil => .nil
  | _, _, .cons h1 h2 => .cons (Dt.dp h1) (DtAll.dp h2)
end
def tyD : PyData → String
  | .none => "NoneType" | .bool _ => "bool" | .int _ => "int" | .str _ => "str" | .list _ => "list" | .tuple _ => "tuple" | .dict _ => "dict"
theorem Dt.ty {v : V} {d : PyData} (h : Dt z H v d) : TyOf K H v (.type (tyD d)) := by
  cases h with
  | non => exact .non
  | bl b => exact .bl b
  | int i => exact .int i
  | str x => exact .str x
  | lst n e h => exact .lst e
  | tup e h => exact .tup e
def isStrD : PyData → Bool
  | .str _ => true
  | _ => false
def isTupD : PyData → Bool
  | .tuple _ => true
  | _ => false
theorem isStrD_no {d : PyData} (h : ¬ ∃ x, d = .str x) : isStrD d = false := by
  cases d <;> first | rfl | exact absurd ⟨_, rfl⟩ h
theorem isTupD_no {d : PyData} (h : ¬ ∃ x, d = .tuple x) : isTupD d = false := by
  cases d <;> first | rfl | exact absurd ⟨_, rfl⟩ h
theorem kit_str (d : PyData) : PySem.W.kitOne K (.type (tyD d)) (.type "str") = some (isStrD d) := by
  have e : ∀ t : String, t ∈ ["NoneType", "bool", "int", "list", "tuple", "dict"] → kitB t "str" = some false := by decide +kernel
  cases d with
  | str x => exact kit_ty (a := "str") (show kitB "str" "str" = some true by decide +kernel)
  | none => exact kit_ty (e "NoneType" (by decide))
  | bool b => exact kit_ty (e "bool" (by decide))
  | int i => exact kit_ty (e "int" (by decide))
  | list l => exact kit_ty (e "list" (by decide))
  | tuple l => exact kit_ty (e "tuple" (by decide))
  | dict l => exact kit_ty (e "dict" (by decide))
theorem kit_tup (d : PyData) : PySem.W.kitOne K (.type (tyD d)) (.type "tuple") = some (isTupD d) := by
  have e : ∀ t : String, t ∈ ["NoneType", "bool", "int", "list", "str", "dict"] → kitB t "tuple" = some false := by decide +kernel
  cases d with
  | tuple x => exact kit_ty (a := "tuple") (show kitB "tuple" "tuple" = some true by decide +kernel)
  | none => exact kit_ty (e "NoneType" (by decide))
  | bool b => exact kit_ty (e "bool" (by decide))
  | int i => exact kit_ty (e "int" (by decide))
  | list l => exact kit_ty (e "list" (by decide))
  | str l => exact kit_ty (e "str" (by decide))
  | dict l => exact kit_ty (e "dict" (by decide))
theorem SqT.of {a : Addr} {xs : List V} (h : H a = some (.tup xs)) : SqT K H a xs := .inl (.inl h)
end
/-! ### rules inside comprehensions: the written part is named from outside -/
section
variable {X : Cx} {K : PySem.W.Frag}
theorem opk_in_seq (e : X.K = K) : OpR X (compareOp .In) (rIn K false) := e ▸ op_in_seq
theorem opk_notIn_seq (e : X.K = K) : OpR X (compareOp .NotIn) (rIn K true) := e ▸ op_notIn_seq
theorem ixk_list (e : X.K = K) : IxR X (rIxL K) := e ▸ ix_list
theorem ixk_tup (e : X.K = K) : IxR X (rIxT K) := e ▸ ix_tup
theorem ixk_seq (e : X.K = K) : IxR X (rIx K) := e ▸ ix_seq
theorem callk_len_seq (e : X.K = K) : CallR X (.builtin "len") (fun xs H Q => ∃ p ys, xs = [.ref p] ∧ (SqL K H p ys ∨ SqT K H p ys) ∧ Q (.int ys.length) H) := e ▸ call_len_seq
theorem callk_tuple_of (e : X.K = K) : CallR X (.type "tuple") (fun xs H Q => ∃ p ys, xs = [.ref p] ∧ ((SqL K H p ys ∧ ∀ l, H l = none → Q (.ref l) (upd H l (.tup ys))) ∨ (SqT K H p ys ∧ Q (.ref p) H))) := e ▸ call_tuple_of
theorem crk_all (e : X.K = K) (hc : X.calm = true) : CallR X (.builtin "all") (rAll K) := e ▸ cr_all hc
theorem crk_any (e : X.K = K) (hc : X.calm = true) : CallR X (.builtin "any") (rAny K) := e ▸ cr_any hc
theorem crk_sum (e : X.K = K) (hc : X.calm = true) : CallR X (.builtin "sum") (rSum K) := e ▸ cr_sum hc
theorem callk_isi (e : X.K = K) : CallR X (.builtin "isinstance") (rIsi K) := e ▸ call_isi
theorem opk_eqD (e : X.K = K) (hu : X.A.units + 64 < cLine) : OpR X (compareOp .Eq) (rEqD K) := e ▸ op_eqD hu
theorem opk_neD (e : X.K = K) (hu : X.A.units + 64 < cLine) : OpR X (compareOp .NotEq) (rNeD K) := e ▸ op_neD hu
theorem slk_list (e : X.K = K) : SlR X (rSlL K) := e ▸ sl_list
theorem pek_fld {ex : Expr} {ta : TE} {f : Str} {pos : Pos} (e : X.K = K) (he : PE X ex ta) (hb : attributeBase ex f X.env (eval ex X.env) = eval ex X.env) : PE X (.Attribute ex f pos) (tFld K ta f) := e ▸ pe_fld he hb
end
/-! ### a comprehension that gives the items ys, i turns done -/
def Acc (H : Hp) (D : Addr) (ys : List V) (i : Nat) (H1 : Hp) : Prop := Same H H1 ∧ H1 D = some (.lst (ys.take i))
theorem Acc.zero {H : Hp} {D : Addr} {ys : List V} (nD : H D = none) : Acc H D ys 0 (upd H D (.lst [])) := ⟨same_new nD, upd_same⟩
theorem Acc.step {H H1 H2 : Hp} {D : Addr} {ys : List V} {i : Nat} {y : V} (h : Acc H D ys i H1) (s2 : Same H1 H2) (nD : H D = none) (hl : ys.length ≤ 1000) (hy : ys[i]? = some y) :
    ∃ acc, H2 D = some (.lst acc) ∧ acc.length < sizeLine ∧ Acc H D ys (i + 1) (upd H2 D (.lst (acc ++ [y]))) := by
  obtain ⟨s1, h1⟩ := h
  refine ⟨_, s2 _ _ h1, ?_, same_fresh (s1.trans s2) nD, ?_⟩
  · rw [List.length_take]
    exact Nat.lt_of_le_of_lt (Nat.le_trans (Nat.min_le_right _ _) hl) (by decide)
  · rw [upd_same, List.take_succ, hy]
    rfl
theorem Acc.done {H H1 : Hp} {D : Addr} {ys : List V} {n : Nat} (h : Acc H D ys n H1) (hn : n = ys.length) : Same H H1 ∧ H1 D = some (.lst ys) := by
  refine ⟨h.1, ?_⟩
  rw [h.2, hn, List.take_length]
end Ft

/-! repr of flat things; a def whose code object is known (it makes lambdas); what such a def keeps. -/
namespace Ft
open PySem PySem.Spec PyProof.Rows L2 LamX
section
variable {X : Cx}
theorem call_repr_str : CallR X (.builtin "repr") (fun xs H Q => ∃ x : Str, xs = [.str x] ∧ (reprText x).length ≤ sizeLine ∧ Q (.str (reprText x)) H) := by
  rintro pins s σ H xs us Q I r ⟨x, rfl, hz, q⟩
  obtain ⟨u, rfl, t, rfl⟩ := vals1 r
  exact PySem.P.repr_of_str ⟨.str _, H, I.tok _, ⟨_, rfl⟩, q⟩ hz
theorem call_repr_none : CallR X (.builtin "repr") (fun xs H Q => xs = [.non] ∧ Q (.str "None") H) := by
  rintro pins s σ H xs us Q I r ⟨rfl, q⟩
  obtain ⟨u, rfl, ru⟩ := vals1 r
  cases ru
  exact PySem.P.repr_of_none ⟨.str _, H, I.tok _, ⟨_, rfl⟩, q⟩
theorem call_repr_bool : CallR X (.builtin "repr") (fun xs H Q => ∃ b : Bool, xs = [.bl b] ∧ Q (.str (if b then "True" else "False")) H) := by
  rintro pins s σ H xs us Q I r ⟨b, rfl, q⟩
  obtain ⟨u, rfl, ru⟩ := vals1 r
  cases ru
  exact PySem.P.repr_of_bool ⟨.str _, H, I.tok _, ⟨_, rfl⟩, q⟩
end
theorem opk_catA {X : Cx} {K : PySem.W.Frag} (e : X.K = K) : OpR X (binaryOp .Add) (rCatA K) := e ▸ op_catA
theorem slk_tupA {X : Cx} {K : PySem.W.Frag} (e : X.K = K) : SlR X (rSlA K) := e ▸ sl_tupA
theorem repr_name {x : Str} (h : isName x) : (reprText x).length ≤ sizeLine := by
  have hl := (isNameL_iff _).mp h
  have h8 : x.length ≤ 8 := by rw [len_tl]; exact hl.2.1
  refine Nat.le_trans (PySem.StrLaws.reprText_len x fun c hc => ?_) (Nat.le_trans (show 10 * x.length + 2 ≤ 82 by omega) (by decide))
  have hc' := hl.2.2.2 c hc
  have : ∀ c ∈ nameL, c < 16 ^ 8 := by decide +kernel
  exact this c hc'
/-- a def that stands in the written part, its code object at c -/
structure FunC (K : PySem.W.Frag) (x qual : Str) (st : Stmt) (f : Addr) (fd : FuncData) (c : Addr) : Prop where
  ex : ∃ (oc : Value) (od : Option Addr) (kV doc pm : Value) (an : Option Addr) (ct : Value) (osl : Array (Option Value)),
    fd = PySem.W.fnOf x qual (defArgs st) (defBody st) (defScope st) .none kV doc pm an (.ref c) ct ∧ K.lookup f = some ⟨oc, od, .func fd, osl⟩ ∧ PySem.W.codeIn K (.ref c) qual = true
  kp : PySem.W.keepIn K (.ref f) = true
theorem FunC.fn {K : PySem.W.Frag} {x qual : Str} {st : Stmt} {f : Addr} {fd : FuncData} {c : Addr} (F : FunC K x qual st f fd c) : Fun K x qual st f fd := by
  obtain ⟨oc, od, kV, doc, pm, an, ct, osl, h⟩ := F.ex
  exact ⟨⟨oc, od, kV, doc, pm, an, .ref c, ct, osl, h⟩, F.kp⟩
structure DefC (K : PySem.W.Frag) (mg : Str → Option Value) (x : Str) (st : Stmt) (f : Addr) (fd : FuncData) (c : Addr) : Prop where
  fn : FunC K x x st f fd c
  at_ : mg x = some (.ref f)
theorem DefC.def {K : PySem.W.Frag} {mg : Str → Option Value} {x : Str} {st : Stmt} {f : Addr} {fd : FuncData} {c : Addr} (D : DefC K mg x st f fd c) : DefAt K mg x st f fd := ⟨D.fn.fn, D.at_⟩
theorem defC {K : PySem.W.Frag} {mg : Str → Option Value} {h : Heap} {x : Str} {st : Stmt} {f c : Addr} {oc : Value} {od an : Option Addr} {osl : Array (Option Value)} {kV doc pm ct : Value} (X : K.In h) (G : h.Ns mainGlobals mg)
    (a : PySem.W.nsIn K mainGlobals x = some (some (.ref f))) (l : K.lookup f = some ⟨oc, od, .func (PySem.W.fnOf x x (defArgs st) (defBody st) (defScope st) .none kV doc pm an (.ref c) ct), osl⟩)
    (cc : PySem.W.codeIn K (.ref c) x = true) (k : PySem.W.keepIn K (.ref f) = true) : DefC K mg x st f (PySem.W.fnOf x x (defArgs st) (defBody st) (defScope st) .none kV doc pm an (.ref c) ct) c :=
  ⟨⟨⟨oc, od, kV, doc, pm, an, ct, osl, rfl, l, cc⟩, k⟩, PySem.W.mg_of X G a⟩
section
variable {P : Program} {w : World} {K : PySem.W.Frag} {mg : Str → Option Value} {base : Heap}
theorem okGC {x qual : Str} {st : Stmt} {f c : Addr} {fd : FuncData} {N ps : List Str} {k : Nat} {sp : Sp} (F : FunC K x qual st f fd c) (S : FnScope N ps (defScope st)) (len : ∀ vs H Q E, sp vs H Q E → vs.length = ps.length)
    (hb : ∀ (A : Around) (outer : List Env) (s : Shared) (H : Hp) (vs : List V) (Q : VK) (E : XK), A.guards = some [] → Room k (A.deeper (envOfC qual (defScope st) s.heap.objs.size f (.ref c))) → sp vs H Q E →
      ∃ t, PSs (cxOf CX0 P w K mg base N qual (defScope st) f (.ref c) A outer s H E).nox (defBody st) t ∧ t ⟨fun _ H' => Q .non H', Q, fun _ _ => False, fun _ _ => False⟩ (start N vs) H) :
    FnG P w K mg base CX0 (k + 1) f fd ps sp := by
  obtain ⟨_, _, _, _, _, _, _, _, e, lk, hcd⟩ := F.ex
  subst e
  refine fnG lk hcd S len fun A outer s H vs Q E hg hr h => ?_
  obtain ⟨t, d, q⟩ := hb A outer s H vs Q E hg hr h
  exact ⟨t, d.nox, q⟩
theorem lamPass {X : Cx} {A : Around} {outer : List Env} {s : Shared} {H : Hp} {E : XK} {scope : Scope} {f c' : Addr} : Passes (L2.CX X.prog X.w) (lamCx X A outer s H E scope f c') E :=
  passes_call (X := lamCx X A outer s H E scope f c') (takes_of (X := lamCx X A outer s H E scope f c') (E := E) rfl rfl rfl rfl) fun _ _ _ _ h => h
end
/-! ### heaps behind lambdas: all is kept but the drawn-from list and the tables -/
def Nv (d : Addr) (H H' : Hp) : Prop := ∀ b o, b ≠ d → H b = some o → (∀ ps, o ≠ .tbl ps) → H' b = some o
theorem Nv.refl (d : Addr) (H : Hp) : Nv d H H := fun _ _ _ h _ => h
theorem Nv.trans {d : Addr} {H H1 H2 : Hp} (a : Nv d H H1) (b : Nv d H1 H2) : Nv d H H2 := fun x o n h t => b x o n (a x o n h t) t
theorem Mv.nv {d : Addr} {H H' : Hp} (a : Mv d H H') : Nv d H H' := fun x o n h _ => a x o n h
theorem nv_same {d : Addr} {H H' : Hp} (a : Same H H') : Nv d H H' := fun x o _ h _ => a x o h
theorem nv_ext {d : Addr} {H H' : Hp} (a : ExtN H H') : Nv d H H' := fun x o _ h t => a x o h t
theorem extN_same {H H1 H2 : Hp} (a : ExtN H H1) (b : Same H1 H2) : ExtN H H2 := fun x o h t => b x o (a x o h t)
theorem same_extN {H H1 H2 : Hp} (a : Same H H1) (b : ExtN H1 H2) : ExtN H H2 := fun x o h t => b x o (a x o h) t
theorem Nv.fresh {d D : Addr} {H H' : Hp} {o : HO} (m : Nv d H H') (h : H D = none) : Nv d H (L2.upd H' D o) := fun x u n hx t => by
  rw [upd_ne (ne_of_none hx h)]
  exact m x u n hx t
theorem Nv.seq {d a : Addr} {H H' : Hp} {xs : List V} {K : PySem.W.Frag} (m : Nv d H H') (n : a ≠ d) (h : SqL K H a xs) : SqL K H' a xs := by
  rcases h with (h | ⟨o, h⟩) | h
  · exact .inl (.inl (m _ _ n h (fun _ q => nomatch q)))
  · exact .inl (.inr ⟨o, m _ _ n h (fun _ q => nomatch q)⟩)
  · exact .inr h
theorem tabs_mv {d : Addr} {T : List (Addr × Str)} {H H' : Hp} (t : Tabs T H) (m : Mv d H H') (hd : Deal H d) : Tabs T H' := by
  obtain ⟨a, b, c, e, _⟩ := hd
  have ne1 : ∀ {x : Addr} {o : HO}, H x = some o → (∀ l, o ≠ .lst l) → x ≠ d := fun h1 h2 q => by
    rw [q, e] at h1
    exact h2 _ (Option.some.inj h1).symm
  intro p hp
  obtain ⟨ps, h1, h2, h3⟩ := t p hp
  refine ⟨ps, m _ _ (ne1 h1 (fun l q => nomatch q)) h1, h2, fun pos cv hc => ?_⟩
  obtain ⟨c0, e1, e2⟩ := h3 pos cv hc
  exact ⟨c0, e1, m _ _ (ne1 e2 (fun l q => by unfold CodeO at q; cases q)) e2⟩
theorem deal_ext {d : Addr} {H H' : Hp} (h : Deal H d) (s : ExtN H H') : Deal H' d := by
  obtain ⟨a, b, c, e, r⟩ := h
  exact ⟨a, b, c, s _ _ e (fun _ q => nomatch q), r⟩
theorem tabs_fresh {T : List (Addr × Str)} {H H' : Hp} {D : Addr} {o : HO} (t : Tabs T H) (e : ∀ b o, H b = some o → H' b = some o) : Tabs T H' := t.ext e
theorem tabs_new {T : List (Addr × Str)} {H : Hp} {D : Addr} {o : HO} (t : Tabs T H) (n : H D = none) : Tabs T (L2.upd H D o) := t.ext fun b u h => same_new n b u h
end Ft

/-! Data that may be compared. -/
namespace Ft
open PySem PySem.Spec PyProof.Rows L2 PySem.Builtin PySem.Builtin.Str
def Okd (n : Nat) (d : PyData) : Prop := d.canLay0 = true ∧ d.depth ≤ n
theorem Okd.all {n : Nat} : ∀ {ds : List PyData}, (∀ d ∈ ds, Okd n d) → PyData.canLayAll0 ds = true ∧ PyData.depthAll ds ≤ n
  | [], _ => ⟨rfl, Nat.zero_le _⟩
  | d :: ds, h => by
    have h1 := h d List.mem_cons_self
    have h2 := Okd.all (ds := ds) fun e he => h e (List.mem_cons_of_mem _ he)
    refine ⟨?_, ?_⟩
    · rw [PyData.canLayAll0, h1.1, h2.1]
      rfl
    · rw [PyData.depthAll]
      exact Nat.max_le.mpr ⟨h1.2, h2.2⟩
theorem Okd.list {n : Nat} {ds : List PyData} (h : ∀ d ∈ ds, Okd n d) : Okd (n + 1) (.list ds) := by
  have := Okd.all h
  refine ⟨by rw [PyData.canLay0]; exact this.1, by rw [PyData.depth]; omega⟩
theorem Okd.tuple {n : Nat} {ds : List PyData} (h : ∀ d ∈ ds, Okd n d) : Okd (n + 1) (.tuple ds) := by
  have := Okd.all h
  refine ⟨by rw [PyData.canLay0]; exact this.1, by rw [PyData.depth]; omega⟩
theorem Okd.str {n : Nat} {x : Str} (h : PyData.strOk x = true) : Okd n (.str x) := ⟨by rw [PyData.canLay0]; exact h, by rw [PyData.depth]; exact Nat.zero_le _⟩
theorem Okd.int {n : Nat} {i : Int} : Okd n (.int i) := ⟨rfl, by rw [PyData.depth]; exact Nat.zero_le _⟩
theorem Okd.non {n : Nat} : Okd n .none := ⟨rfl, by rw [PyData.depth]; exact Nat.zero_le _⟩
theorem Okd.bool {n : Nat} {b : Bool} : Okd n (.bool b) := ⟨rfl, by rw [PyData.depth]; exact Nat.zero_le _⟩
theorem Okd.mono {m n : Nat} {d : PyData} (h : Okd m d) (l : m ≤ n) : Okd n d := ⟨h.1, Nat.le_trans h.2 l⟩
theorem Okd.shaped {n : Nat} {d : PyData} (h : Okd n d) (l : n ≤ 64 := by decide) : SeqAt.shaped d = true := by
  unfold SeqAt.shaped
  rw [h.1, decide_eq_true (Nat.le_trans h.2 l)]
  rfl
theorem Okd.refl {n : Nat} {d : PyData} (h : Okd n d) : PyData.eqv d d = true := PySem.SeqAt.eqv_refl d h.1
theorem strOk_of {x : Str} (h : ∀ c ∈ tl x, c < 0x110000) : PyData.strOk x = true := by
  unfold PyData.strOk
  rw [Array.all_eq_true_iff_forall_mem]
  intro c hc
  exact decide_eq_true (h c (by unfold tl; simpa using hc))
theorem ok_name {x : Str} (h : isName x) : PyData.strOk x = true := by
  have hl := (isNameL_iff _).mp h
  have : ∀ c ∈ nameL, c < 0x110000 := by decide +kernel
  exact strOk_of fun c hc => this c (hl.2.2.2 c hc)
theorem ok_num (k : Nat) : PyData.strOk (Str.ofString (toString ((k : Nat) : Int))) = true := by
  refine strOk_of fun c hc => ?_
  have hc' : c ∈ TL.tl (Str.ofString (toString ((k : Nat) : Int))) := hc
  rw [TL.tl_num] at hc'
  by_cases q : c < 48 ∨ 57 < c
  · exact absurd hc' (TL.numL_free q)
  · omega
theorem foldl_all (q : Nat) : ∀ (l : List Nat) (acc : Array Nat), (∀ c ∈ l, ∀ e ∈ reprChar q c, e < 0x110000) → (∀ e ∈ acc, e < 0x110000) → ∀ e ∈ l.foldl (fun out c => out ++ (reprChar q c).toArray) acc, e < 0x110000
  | [], _, _, ha => ha
  | c :: l, acc, h, ha => by
    rw [List.foldl_cons]
    refine foldl_all q l _ (fun c' hc' => h c' (List.mem_cons_of_mem _ hc')) fun e he => ?_
    rcases Array.mem_append.mp he with z | z
    · exact ha e z
    · exact h c List.mem_cons_self e (by simpa using z)
theorem ok_repr {x : Str} (h : ∀ c ∈ tl x, ∀ q ∈ [34, 39], ∀ e ∈ reprChar q c, e < 0x110000) : PyData.strOk (reprText x) = true := by
  have hq : reprQuote x ∈ [34, 39] := by
    unfold reprQuote
    split <;> simp
  have hq2 : reprQuote x < 0x110000 := by
    simp only [List.mem_cons, List.not_mem_nil, or_false] at hq
    rcases hq with e | e <;> rw [e] <;> decide
  refine strOk_of fun c hc => ?_
  unfold tl reprText at hc
  simp only [Array.toList_push, List.mem_append, List.mem_singleton] at hc
  rcases hc with z | z
  · have z' : c ∈ x.cps.foldl (fun out c => out ++ (reprChar (reprQuote x) c).toArray) #[reprQuote x] := Array.mem_toList_iff.mp z
    rw [← Array.foldl_toList] at z'
    exact foldl_all _ x.cps.toList _ (fun c' hc' => h c' hc' _ hq) (fun e he => by simp at he; rw [he]; exact hq2) c z'
  · rw [z]
    exact hq2
theorem ok_repr_name {x : Str} (h : isName x) : PyData.strOk (reprText x) = true := by
  have hl := (isNameL_iff _).mp h
  have : ∀ c ∈ nameL, ∀ q ∈ [34, 39], ∀ e ∈ reprChar q c, e < 0x110000 := by decide +kernel
  exact ok_repr fun c hc => this c (hl.2.2.2 c hc)
/-! ### slices -/
theorem cut_take {xs : List V} (m : Nat) : cutV xs none (some (m : Int)) = xs.take m := by
  unfold cutV
  rw [HT.sIx_none, HT.sIx_nat, List.drop_zero, Nat.sub_zero]
  by_cases h : m ≤ xs.length
  · rw [Nat.min_eq_left h]
  · rw [Nat.min_eq_right (by omega), List.take_length, List.take_of_length_le (by omega)]
theorem cut_drop {xs : List V} (m : Nat) : cutV xs (some (m : Int)) none = xs.drop m := by
  unfold cutV
  rw [HT.sIx_none, HT.sIx_nat]
  by_cases h : m ≤ xs.length
  · rw [Nat.min_eq_left h, List.take_of_length_le (by rw [List.length_drop]; exact Nat.le_refl _)]
  · rw [Nat.min_eq_right (by omega), Nat.sub_self, List.take_zero, List.drop_of_length_le (by omega)]
theorem sIx_last (n d : Nat) (h : 1 ≤ n) : HT.sIx n d (some (-1)) = n - 1 := by
  show (if (-1 : Int) < 0 then ((-1 : Int) + (n : Int)).toNat else min (-1 : Int).toNat n) = n - 1
  rw [if_pos (by decide)]
  omega
theorem cut_init {xs : List V} (h : 1 ≤ xs.length) : cutV xs none (some (-1)) = xs.take (xs.length - 1) := by
  unfold cutV
  rw [HT.sIx_none, sIx_last _ _ h, List.drop_zero, Nat.sub_zero]
theorem at_last {α : Type} {xs : List α} (h : 1 ≤ xs.length) : ∃ v, xs[xs.length - 1]? = some v ∧ atI xs (-1) = some v := by
  have hl : xs.length - 1 < xs.length := by omega
  refine ⟨xs[xs.length - 1], List.getElem?_eq_getElem hl, ?_⟩
  have e : ixN xs.length (-1) = some (xs.length - 1) := by
    unfold ixN
    rw [if_neg (by decide), if_pos (by omega)]
    congr 1
    omega
  unfold atI
  rw [e]
  exact List.getElem?_eq_getElem hl
end Ft

/-! _law_told(lambda: ..) -/
namespace Ft
open PySem PySem.Spec PyProof.Rows L2 LamX
abbrev toldN : List Str := ["_law_act", "_law_told_here", "_law_e"]
/-- all that is known of _law_told and of _law_sort, which it calls; cs: the classes that it takes -/
structure ToldAt (P : Program) (w : World) (K : PySem.W.Frag) (mg : Str → Option Value) (base : Heap) (k : Nat) (cs : List Value) (sp : Addr → Value → Option Addr → Sp) : Prop where
  hot : HasHot P w K mg base k "_law_sort" ["_law_e"] sp
  cls : ∃ c1 c2 c3, cs = [c1, c2, c3] ∧ mg "TreeError" = some c1 ∧ mg "StateError" = some c2 ∧ mg "LimitError" = some c3
  def_ : ∃ (g : Addr) (fd : FuncData) (st : Stmt), DefAt K mg "_law_told" st g fd ∧ FnScope toldN ["_law_act"] (defScope st) ∧ (defScope st).names.lookup ("_law_told_here" : Str) = some .local ∧ (defScope st).names.lookup ("_law_e" : Str) = some .local ∧ (defScope st).names.lookup ("_law_act" : Str) = some .local ∧
    (defScope st).names.lookup ("_law_sort" : Str) = some .globalImplicit ∧ (defScope st).names.lookup ("TreeError" : Str) = some .globalImplicit ∧ (defScope st).names.lookup ("StateError" : Str) = some .globalImplicit ∧ (defScope st).names.lookup ("LimitError" : Str) = some .globalImplicit ∧
    (∃ p1 p2 p3 p4 p5 p6 p7 p8 p9 p10 p11 p12 p13 p14 p15 p16 p17 p18 kk j, defBody st = toldBody "_law_act" "_law_told_here" "_law_e" "_law_sort" "TreeError" "StateError" "LimitError" "given" p1 p2 p3 p4 p5 p6 p7 p8 p9 p10 p11 p12 p13 p14 p15 p16 p17 p18 kk j) ∧
    ∀ (kV doc pm : Value) (an : Option Addr) (cdv ct : Value) (us : List Value), us.length = 1 → bindArgs (PySem.W.fnOf "_law_told" "_law_told" (defArgs st) (defBody st) (defScope st) .none kV doc pm an cdv ct) ⟨us, []⟩ = pure ((["_law_act"] : List Str).zip us)
theorem pe_told {X : Cx} {k j : Nat} {cs : List Value} {sp : Addr → Value → Option Addr → Sp} {T : List (Addr × Str)} {c Pt : Addr} {params : Arguments} {body : Expr} {scope : Scope} {t : XK → TE} {p lpos pos : Pos}
    (W : ToldAt X.prog X.w X.K X.mg X.base k cs sp) (hg : X.A.guards = some []) (TB : TabB X.base X.mg c Pt) (hcode : X.env.code = .ref c) (hmT : (Pt, X.env.qual ++ "<lambda>") ∈ T) (hu : ∀ p ∈ T, p.1 = Pt → p.2 = X.env.qual ++ "<lambda>")
    (hr : Room (j + 2) X.A) (hk : k ≤ j) (gl : Gl X "_law_told") (L : LamS X.env.scope scope) (hdef : defaultsOf params X.env = ([], []))
    (hbind : ∀ (q : Str) (cl : List (Str × Addr)) (pm cv ctv : Value), bindArgs (PySem.W.kla_fn "<lambda>" q params body scope cl pm cv ctv) ⟨[], []⟩ = pure [])
    (hbody : ∀ (A : Around) (outer : List Env) (s : Shared) (H : Hp) (E : XK) (f c' : Addr), Room j (A.deeper (lamEnv X scope s.heap.objs.size f c')) → PE (lamCx X A outer s H E scope f c') body (t E)) :
    PE X (.Call (.Name "_law_told" p) [.Lambda params body scope lpos] [] pos) (tLam T (TTold3 X.K cs sp "given") t) := by
  obtain ⟨g, fd, st, D, S, l1, l2, l0, gs, g1, g2, g3, ⟨p1, p2, p3, p4, p5, p6, p7, p8, p9, p10, p11, p12, p13, p14, p15, p16, p17, p18, kk, jj, hb⟩, bt⟩ := W.def_
  obtain ⟨c1, c2, c3, rfl, m1, m2, m3⟩ := W.cls
  obtain ⟨oc, od, kV, doc, pm, an, cdv, ct, osl, e, lk, hcd⟩ := D.fn.ex
  subst e
  have hbi : L2.Binds X.K (PySem.W.fnOf "_law_told" "_law_told" (defArgs st) (defBody st) (defScope st) .none kV doc pm an cdv ct) ["_law_act"] [] := Binds.all fun us hl => bt kV doc pm an cdv ct us hl
  refine pe_lamcall (T := T) (c := c) (P := Pt) (a := "_law_act") (Ng := toldN) gl D.at_ D.fn.kp lk hcd hbi S rfl (.inl l0) ?_ TB hcode hmT hu hr L hdef hbind hbody
  have h3 : Room (k + 1) X.A := hr.mono (by omega)
  rw [hb]
  exact told3 (word := "given") hg h3 W.hot (by decide) S.kind l0 l1 l2 gs g1 g2 g3 m1 m2 m3 (by decide) (by decide) (by decide) (by decide) (by decide) (by decide) (by decide) (by decide)
theorem exAt_mk {K : PySem.W.Frag} {mg : Str → Option Value} {h : Heap} {x fld qual : Str} {C fI : Addr} {st : Stmt} {B newId initId : String} {bmB : List Value} {oc : Value} {od an : Option Addr} {osl : Array (Option Value)} {kV doc pm cdv ct : Value} (X : K.In h) (G : h.Ns mainGlobals mg)
    (FB : ExcBaseFacts B newId initId bmB) (SF : StoreFacts B bmB "object.__setattr__" "object") (S : Init1 st fld)
    (bt : ∀ (kV doc pm : Value) (an : Option Addr) (cdv ct u v : Value), bindArgs (PySem.W.fnOf "__init__" qual (defArgs st) (defBody st) (defScope st) .none kV doc pm an cdv ct) ⟨[u, v], []⟩ = pure [(("self" : Str), u), (fld, v)])
    (g : PySem.W.nsIn K mainGlobals x = some (some (.ref C))) (ini : PySem.W.findIn K (.ref C) "__init__" = some (some (.ref fI)))
    (l : K.lookup fI = some ⟨oc, od, .func (PySem.W.fnOf "__init__" qual (defArgs st) (defBody st) (defScope st) .none kV doc pm an cdv ct), osl⟩) (c : PySem.W.codeIn K cdv qual = true) (kf : PySem.W.keepIn K (.ref fI) = true)
    (i1 : PySem.W.findIn K (.ref C) "__class__" = some (some (.builtin "object.__class__"))) (i2 : PySem.W.specialIn K (.builtin "object.__class__") "__get__" = some (some (.builtin "getset_descriptor.__get__")))
    (i3 : PySem.W.takesIn K (.builtin "object.__class__") = some true) (i4 : PySem.W.mroIn K C (.type "object") = some true) (e1 : PySem.W.excInitIn K C bmB newId = true) (e2 : PySem.W.excOver K C bmB = true) (hd : PySem.W.hasDictIn K C = true)
    (sa : PySem.W.findIn K (.ref C) "__setattr__" = some (some (.builtin "object.__setattr__"))) (ga : PySem.W.findIn K (.ref C) "__getattribute__" = some (some (.builtin "BaseException.__getattribute__"))) (gg : PySem.W.findIn K (.ref C) "__getattr__" = some none)
    (ex : PySem.W.subIn K (.ref C) (.type "BaseException") = some true) (ty : PySem.W.typeIn K (.ref C) = some (.type "type")) (kp : PySem.W.keepIn K (.ref C) = true) (fn : PySem.W.typeIn K (.ref fI) = some (.type "function")) (no : PySem.W.findIn K (.ref C) fld = some none) : ExAt K mg x fld C :=
  ⟨PySem.W.mg_of X G g, ⟨i1, i2, i3, i4⟩, fI, st, qual, _, ⟨⟨B, newId, initId, bmB, FB, SF, e1, e2⟩, hd, sa, ga, gg, ex, ty, kp, ini, fn, fun n hn => by cases List.mem_singleton.mp hn; exact no⟩, S, fun_mk l c kf, fun v s y => .of_eq (bt _ _ _ _ _ _ _ _)⟩
theorem tabIn_mk {K : PySem.W.Frag} {x name qual : Str} {params : Arguments} {body : List Stmt} {scope : Scope} {f c Pt : Addr} {oc dV kV doc pm ct tc : Value} {od an td : Option Addr} {osl tsl : Array (Option Value)} {vs : Array Value} (a : PySem.W.nsIn K mainGlobals x = some (some (.ref f)))
    (l : K.lookup f = some ⟨oc, od, .func (PySem.W.fnOf name qual params body scope dV kV doc pm an (.ref c) ct), osl⟩) (m : K.lookup c = some ⟨tc, td, .fields vs, tsl⟩) (v : (vs[11]? : Option Value) = some (.ref Pt)) : PySem.W.tabIn K x = some (c, Pt) := by
  unfold PySem.W.tabIn
  rw [a]
  dsimp only
  rw [l]
  dsimp only [PySem.W.fnOf]
  rw [m]
  dsimp only
  rw [v]
end Ft

namespace K5
open PySem L2 Ft
def top (i : Nat) : Stmt := PySem.Challenge.pw_fivetrees_k05_kinds_without_trees.main.body.getD i (.Pass ⟨0, 0, 0, 0⟩)
def inClass (c : Stmt) (i : Nat) : Stmt := match c with
  | .ClassDef (body := b) .. => b.getD i (.Pass ⟨0, 0, 0, 0⟩)
  | _ => .Pass ⟨0, 0, 0, 0⟩
abbrev s_is_name : Stmt := top 17
abbrev N_is_name : List Str := ["value", "sign"]
theorem sc_is_name : FnScope N_is_name ["value"] (defScope s_is_name) := ⟨rfl, rfl, rfl, by decide +kernel, rfl, by decide +kernel, by decide +kernel⟩
abbrev s_is_one_of : Stmt := top 18
abbrev N_is_one_of : List Str := ["value", "names"]
theorem sc_is_one_of : FnScope N_is_one_of ["value", "names"] (defScope s_is_one_of) := ⟨rfl, rfl, rfl, by decide +kernel, rfl, by decide +kernel, by decide +kernel⟩
abbrev s_is_constructor : Stmt := top 19
abbrev N_is_constructor : List Str := ["kinds", "value", "fields", "field"]
theorem sc_is_constructor : FnScope N_is_constructor ["kinds", "value"] (defScope s_is_constructor) := ⟨rfl, rfl, rfl, by decide +kernel, rfl, by decide +kernel, by decide +kernel⟩
abbrev s_check_kinds : Stmt := top 20
abbrev N_check_kinds : List Str := ["value", "earlier", "index", "kind"]
theorem sc_check_kinds : FnScope N_check_kinds ["value"] (defScope s_check_kinds) := ⟨rfl, rfl, rfl, by decide +kernel, rfl, by decide +kernel, by decide +kernel⟩
abbrev s_check_constructors : Stmt := top 21
abbrev N_check_constructors : List Str := ["kinds", "value", "earlier", "index", "constructor"]
theorem sc_check_constructors : FnScope N_check_constructors ["kinds", "value"] (defScope s_check_constructors) := ⟨rfl, rfl, rfl, by decide +kernel, rfl, by decide +kernel, by decide +kernel⟩
abbrev s_check_filled : Stmt := top 22
abbrev N_check_filled : List Str := ["kinds", "constructors", "filled", "grows", "name", "kind", "fields", "field"]
theorem sc_check_filled : FnScope N_check_filled ["kinds", "constructors"] (defScope s_check_filled) := ⟨rfl, rfl, rfl, by decide +kernel, rfl, by decide +kernel, by decide +kernel⟩
abbrev s_Schema___init__ : Stmt := inClass (top 26) 0
abbrev N_Schema___init__ : List Str := ["self", "kinds", "constructors", "constructor"]
theorem sc_Schema___init__ : FnScope N_Schema___init__ ["self", "kinds", "constructors"] (defScope s_Schema___init__) := ⟨rfl, rfl, rfl, by decide +kernel, rfl, by decide +kernel, by decide +kernel⟩
abbrev s_law_number : Stmt := top 28
abbrev N_law_number : List Str := ["_law_cells", "_law_k", "_law_mixed", "_law_one", "_law_more"]
theorem sc_law_number : FnScope N_law_number ["_law_cells", "_law_k"] (defScope s_law_number) := ⟨rfl, rfl, rfl, by decide +kernel, rfl, by decide +kernel, by decide +kernel⟩
abbrev s_law_deal : Stmt := top 29
abbrev N_law_deal : List Str := ["_law_number_here"]
theorem sc_law_deal : FnScope N_law_deal ["_law_number_here"] (defScope s_law_deal) := ⟨rfl, rfl, rfl, by decide +kernel, rfl, by decide +kernel, by decide +kernel⟩
abbrev s_law_pick : Stmt := top 30
abbrev N_law_pick : List Str := ["_law_deal_here", "_law_many", "_law_digit", "_law_seed", "_law_turn"]
theorem sc_law_pick : FnScope N_law_pick ["_law_deal_here", "_law_many"] (defScope s_law_pick) := ⟨rfl, rfl, rfl, by decide +kernel, rfl, by decide +kernel, by decide +kernel⟩
abbrev s_law_word : Stmt := top 31
abbrev N_law_word : List Str := ["_law_deal_here", "_law_taken", "_law_letters", "_law_way", "_law_word_here", "_law_tail", "_law_k"]
theorem sc_law_word : FnScope N_law_word ["_law_deal_here", "_law_taken"] (defScope s_law_word) := ⟨rfl, rfl, rfl, by decide +kernel, rfl, by decide +kernel, by decide +kernel⟩
abbrev s_law_words : Stmt := top 32
abbrev N_law_words : List Str := ["_law_deal_here", "_law_many", "_law_found", "_law_k"]
theorem sc_law_words : FnScope N_law_words ["_law_deal_here", "_law_many"] (defScope s_law_words) := ⟨rfl, rfl, rfl, by decide +kernel, rfl, by decide +kernel, by decide +kernel⟩
abbrev s_law_fresh : Stmt := top 33
abbrev N_law_fresh : List Str := ["_law_taken", "_law_k", "_law_word_here"]
theorem sc_law_fresh : FnScope N_law_fresh ["_law_taken"] (defScope s_law_fresh) := ⟨rfl, rfl, rfl, by decide +kernel, rfl, by decide +kernel, by decide +kernel⟩
abbrev s_law_told : Stmt := top 34
abbrev N_law_told : List Str := ["_law_act", "_law_told_here", "_law_e"]
theorem sc_law_told : FnScope N_law_told ["_law_act"] (defScope s_law_told) := ⟨rfl, rfl, rfl, by decide +kernel, rfl, by decide +kernel, by decide +kernel⟩
abbrev s_law_sort : Stmt := top 35
abbrev N_law_sort : List Str := ["_law_e"]
theorem sc_law_sort : FnScope N_law_sort ["_law_e"] (defScope s_law_sort) := ⟨rfl, rfl, rfl, by decide +kernel, rfl, by decide +kernel, by decide +kernel⟩
abbrev s_law_empty : Stmt := top 36
abbrev N_law_empty : List Str := ["_law_kinds", "_law_rows", "_law_full", "_law_turn", "_law_row", "_law_left", "_law_field", "_law_kind"]
theorem sc_law_empty : FnScope N_law_empty ["_law_kinds", "_law_rows"] (defScope s_law_empty) := ⟨rfl, rfl, rfl, by decide +kernel, rfl, by decide +kernel, by decide +kernel⟩
abbrev s_law_drawn : Stmt := top 37
abbrev N_law_drawn : List Str := ["_law_deal_here", "_law_words_here", "_law_many", "_law_count", "_law_kinds", "_law_rows", "_law_k", "_law_fields", "_law_turn"]
theorem sc_law_drawn : FnScope N_law_drawn ["_law_deal_here"] (defScope s_law_drawn) := ⟨rfl, rfl, rfl, by decide +kernel, rfl, by decide +kernel, by decide +kernel⟩
abbrev s_law_right : Stmt := top 38
abbrev N_law_right : List Str := ["_law_deal_here", "_law_turn", "_law_kinds", "_law_rows", "_law_empty_here", "_law_told_here", "_law_bad"]
theorem sc_law_right : FnScope N_law_right ["_law_deal_here"] (defScope s_law_right) := ⟨rfl, rfl, rfl, by decide +kernel, rfl, by decide +kernel, by decide +kernel⟩
abbrev s_law : Stmt := top 39
abbrev N_law : List Str := ["_law_cells", "_law_k"]
theorem sc_law : FnScope N_law ["_law_cells"] (defScope s_law) := ⟨rfl, rfl, rfl, by decide +kernel, rfl, by decide +kernel, by decide +kernel⟩
structure Txt (K : PySem.W.Frag) (mg : Str → Option Value) : Prop where
  b_len : mg "len" = none
  b_abs : mg "abs" = none
  b_max : mg "max" = none
  b_min : mg "min" = none
  b_all : mg "all" = none
  b_repr : mg "repr" = none
  b_isinstance : mg "isinstance" = none
  b_int : mg "int" = none
  b_str : mg "str" = none
  b_range : mg "range" = none
  b_enumerate : mg "enumerate" = none
  b_tuple : mg "tuple" = none
  m_SMALL : Cst mg "SMALL" (.str "abcdefghijklmnopqrstuvwxyz")
  m_NAMING : Cst mg "NAMING" (.str "abcdefghijklmnopqrstuvwxyz0123456789")
  m_LONGEST : Cst mg "LONGEST" (.int 8)
  m_MOST_KINDS : Cst mg "MOST_KINDS" (.int 4)
  m_MOST_CONSTRUCTORS : Cst mg "MOST_CONSTRUCTORS" (.int 6)
  m_MOST_FIELDS : Cst mg "MOST_FIELDS" (.int 3)
end K5

namespace K5
open PySem L2 Ft
section
variable {P : Program} {w : World} {K : PySem.W.Frag} {mg : Str → Option Value} {base : Heap}
def sp_law_number (K : PySem.W.Frag) : Sp := fun vs H Q _ => ∃ (a : Addr) (k : Int) (ns : List Int), vs = [.ref a, .int k] ∧ SqL K H a (ns.map V.int) ∧ 0 ≤ k ∧ k ≤ 1000 ∧ ∀ r H', Same H H' → Q (.int r) H'
theorem ok_law_number (T : Txt K mg) {f : Addr} {fd : FuncData} (F : Fun K "_law_number" "_law_number" s_law_number f fd) : FnG P w K mg base CX0 1 f fd ["_law_cells", "_law_k"] (sp_law_number K) := by
  refine okG F sc_law_number (fun vs H Q E h => ?_) (fun cdv A outer s H vs Q E hg hr h => ?_)
  · obtain ⟨a, k, ns, rfl, _⟩ := h
    rfl
  · obtain ⟨a, k, ns, rfl, hS, k0, k1, q⟩ := h
    refine ⟨_, (pss_cons (ps_if (pt_cmpR op_lt (pv 1) (pe_callB call_len_seq rfl T.b_len bt_len (pa_cons (pv 0) pa_nil)) (nomark _)) (pss_one (ps_ret (pe_callTy call_int1 rfl T.b_int bt_int (pa_cons (pe_ix ix_list (pv 0) (pv 1) (fun _ _ => rfl)) pa_nil)))) pss_nil)
    (pss_cons (ps_set (i := 2) sc_law_number.nd rfl (Or.inl rfl) (pe_op op_mul pe_int (pe_op op_add (pv 1) pe_int)))
    (pss_cons (ps_for PassesOwn.never rfl (pi_list (pe_slice sl_list (pv 0) po_none (po_some pe_int))) (pg_name (i := 3) sc_law_number.nd rfl (Or.inl rfl)) (pss_cons (ps_set (i := 4) sc_law_number.nd rfl (Or.inl rfl) (pe_op op_mod (pe_callTy call_int1 rfl T.b_int bt_int (pa_cons (pv 3) pa_nil)) pe_int))
    (pss_one (ps_set (i := 2) sc_law_number.nd rfl (Or.inl rfl) (pe_op op_mod (pe_callTy call_int1 rfl T.b_int bt_int (pa_cons (pe_op op_add (pe_op op_add (pe_op op_mul (pv 2) pe_int) (pv 4)) (pv 1)) pa_nil)) pe_int)))))
    (pss_one (ps_ret (pv 2)))))), ?_⟩
    refine ⟨_, rfl, _, rfl, a, _, rfl, .inl hS, _, _, rfl, rfl, _, rfl, ?_⟩
    refine ite2 (fun c => ?_) (fun _ => ?_)
    · have c' : k < ((ns.map V.int).length : Int) := of_decide_eq_true c
      rw [List.length_map] at c'
      have hk : (ns.map V.int)[k.toNat]? = some (V.int (ns[k.toNat]'(by omega))) := by
        rw [List.getElem?_map, List.getElem?_eq_getElem (by omega)]
        rfl
      refine ⟨_, rfl, _, rfl, a, _, k, _, rfl, rfl, hS, at_of (show k = ((k.toNat : Nat) : Int) by omega) hk, .inl ⟨_, rfl, ?_⟩⟩
      exact q _ _ (Same.refl H)
    · refine ⟨_, rfl, _, _, rfl, rfl, _, _, rfl, rfl, .inl ⟨by decide, by decide⟩, ?_⟩
      refine ⟨_, rfl, _, rfl, a, _, rfl, hS, fun p np => ?_⟩
      refine ⟨p, rfl, ⟨_, SqL.of upd_same⟩, for_list (K := K) (a := p) (xs := cutV (ns.map V.int) none (some 6)) (fun i σ H' => ∃ (m : Int) (u v : Option V), σ = [some (.ref a), some (.int k), some (.int m), u, v] ∧ Same H H' ∧ SqL K H' p (cutV (ns.map V.int) none (some 6)))
        ⟨_, _, _, rfl, same_new np, SqL.of upd_same⟩ (fun i σ H' _ ⟨_, _, _, _, _, z⟩ => z) ?_ ?_⟩
      · rintro i x σ H' hi ⟨m, u, v, rfl, hs, hl⟩
        have hx : ∃ n, x = V.int n := by
          have hm : x ∈ cutV (ns.map V.int) none (some 6) := List.mem_of_getElem? hi
          unfold cutV at hm
          have hm2 := List.mem_of_mem_drop (List.mem_of_mem_take hm)
          obtain ⟨n, -, e⟩ := List.mem_map.mp hm2
          exact ⟨n, e.symm⟩
        obtain ⟨n, rfl⟩ := hx
        refine ⟨_, rfl, .inl ⟨_, rfl, _, _, rfl, rfl, (by show (0 : Int) < 999983; decide), ?_⟩⟩
        refine ⟨_, rfl, _, _, rfl, rfl, .inr ⟨by decide, by decide⟩, _, rfl, _, _, rfl, rfl, _, rfl, _, _, rfl, rfl, .inl ⟨_, rfl, _, _, rfl, rfl, (by show (0 : Int) < 2147483423; decide), ?_⟩⟩
        exact ⟨_, _, _, rfl, hs, hl⟩
      · rintro σ H' ⟨m, u, v, rfl, hs, hl⟩
        exact ⟨_, rfl, q _ _ hs⟩
def sp_law_deal : Sp := fun vs H Q _ => ∃ n : Int, vs = [.int n] ∧ ∀ p H', H p = none → Same H H' → Deal H' p → Q (.ref p) H'
theorem ok_law_deal (T : Txt K mg) {f : Addr} {fd : FuncData} (F : Fun K "_law_deal" "_law_deal" s_law_deal f fd) : FnG P w K mg base CX0 1 f fd ["_law_number_here"] sp_law_deal := by
  refine okG F sc_law_deal (fun vs H Q E h => ?_) (fun cdv A outer s H vs Q E hg hr h => ?_)
  · obtain ⟨n, rfl, _⟩ := h
    rfl
  · obtain ⟨n, rfl, q⟩ := h
    refine ⟨_, (pss_one (ps_ret (pe_lst (pa_cons (pe_ifExp (PW.pt (pw_or (pt_cmpR op_lt (pv 0) pe_int (nomark _)) (pw_or1 (pt_cmpR op_ge (pv 0) (pe_op op_pow pe_int pe_int) (nomark _))))) (pe_callB call_abs rfl T.b_abs bt_abs (pa_cons (pv 0) pa_nil)) pe_int) (pa_cons (pe_op op_mod (pe_callTy call_int1 rfl T.b_int bt_int (pa_cons (pv 0) pa_nil)) pe_int) (pa_cons pe_int pa_nil)))))), ?_⟩
    have fin : ∀ x : Int, 0 ≤ x → (∃ v, (start N_law_deal [V.int n])[0]? = some (some v) ∧ ((∃ i, [v] = [V.int i] ∧ ∃ i' j, V.int i = .int i' ∧ V.int 2147483423 = .int j ∧ 0 < j ∧ ([V.int x, V.int (i' % j), V.int 0].length ≤ sizeLine ∧ ∀ p, H p = none → Q (.ref p) (upd H p (.lst [V.int x, V.int (i' % j), V.int 0])))) ∨ (∃ k, [v] = [V.bl k] ∧ ∃ i' j, V.int (if k then 1 else 0) = .int i' ∧ V.int 2147483423 = .int j ∧ 0 < j ∧ ([V.int x, V.int (i' % j), V.int 0].length ≤ sizeLine ∧ ∀ p, H p = none → Q (.ref p) (upd H p (.lst [V.int x, V.int (i' % j), V.int 0])))))) := by
      intro x hx
      refine ⟨_, rfl, .inl ⟨_, rfl, _, _, rfl, rfl, (by decide), (by show 3 ≤ sizeLine; decide), fun p np => q p _ np (same_new np) ⟨_, _, _, upd_same, hx, Int.emod_nonneg _ (by decide), Int.emod_lt_of_pos _ (by decide), Int.le_refl _⟩⟩⟩
    refine ⟨_, rfl, _, _, rfl, rfl, _, rfl, ?_⟩
    refine ite2 (fun c => ?_) (fun c => ?_)
    · refine iteT ?_
      refine ⟨_, rfl, _, rfl, ?_⟩
      exact fin _ (by split <;> omega)
    · refine ⟨_, rfl, _, _, rfl, rfl, ⟨by decide, by decide, by decide⟩, _, _, rfl, rfl, _, rfl, ?_⟩
      refine ite2 (fun c => ?_) (fun c => ?_)
      · refine ⟨_, rfl, _, rfl, ?_⟩
        exact fin _ (by split <;> omega)
      · exact fin _ (Int.le_refl _)
def sp_law_pick : Sp := fun vs H Q _ => ∃ (d : Addr) (m : Int), vs = [.ref d, .int m] ∧ Deal H d ∧ 0 < m ∧ m < 1000000 ∧ ∀ r H', 0 ≤ r → r < m → Mv d H H' → Deal H' d → Q (.int r) H'
theorem ok_law_pick (T : Txt K mg) {f : Addr} {fd : FuncData} (F : Fun K "_law_pick" "_law_pick" s_law_pick f fd) : FnG P w K mg base CX0 1 f fd ["_law_deal_here", "_law_many"] sp_law_pick := by
  refine okG F sc_law_pick (fun vs H Q E h => ?_) (fun cdv A outer s H vs Q E hg hr h => ?_)
  · obtain ⟨d, m, rfl, _⟩ := h
    rfl
  · obtain ⟨d, m, rfl, ⟨a, b, c, hd, a0, b0, b1, c0⟩, m0, m1, q⟩ := h
    refine ⟨_, (pss_cons (ps_asg (pe_op op_add (pe_ix ix_list (pv 0) pe_int (fun _ _ => rfl)) pe_int) (pg_sub (pv 0) pe_int set_list))
    (pss_cons (ps_if (pt_cmpR op_gt (pe_ix ix_list (pv 0) pe_int (fun _ _ => rfl)) pe_int (nomark _)) (pss_cons (ps_set (i := 2) sc_law_pick.nd rfl (Or.inl rfl) (pe_op op_mod (pe_callTy call_int1 rfl T.b_int bt_int (pa_cons (pe_ix ix_list (pv 0) pe_int (fun _ _ => rfl)) pa_nil)) (pv 1)))
    (pss_cons (ps_asg (pe_op op_fdiv (pe_ix ix_list (pv 0) pe_int (fun _ _ => rfl)) (pv 1)) (pg_sub (pv 0) pe_int set_list))
    (pss_one (ps_ret (pv 2))))) pss_nil)
    (pss_cons (ps_par (i := 3) (j := 4) (by rfl) sc_law_pick.nd rfl rfl (by decide) rfl rfl (pa_cons (pe_callTy call_int1 rfl T.b_int bt_int (pa_cons (pe_ix ix_list (pv 0) pe_int (fun _ _ => rfl)) pa_nil)) (pa_cons (pe_callTy call_int1 rfl T.b_int bt_int (pa_cons (pe_ix ix_list (pv 0) pe_int (fun _ _ => rfl)) pa_nil)) pa_nil)) (by rfl))
    (pss_cons (ps_set (i := 3) sc_law_pick.nd rfl (Or.inl rfl) (pe_op op_mod (pe_callTy call_int1 rfl T.b_int bt_int (pa_cons (pe_op op_add (pe_op op_add (pe_op op_mul (pv 3) (pe_op op_add (pe_op op_add (pv 3) pe_int) (pe_op op_mul pe_int (pv 4)))) (pe_op op_mul pe_int (pv 4))) pe_int) pa_nil)) pe_int))
    (pss_cons (ps_asg (pv 3) (pg_sub (pv 0) pe_int set_list))
    (pss_one (ps_ret (pe_op op_mod (pe_callTy call_int1 rfl T.b_int bt_int (pa_cons (pe_op op_fdiv (pv 3) pe_int) pa_nil)) (pv 1))))))))), ?_⟩
    refine ⟨_, rfl, d, _, _, _, rfl, rfl, SqL.of hd, rfl, _, _, rfl, rfl, _, rfl, d, _, _, _, rfl, rfl, hd, rfl, ?_⟩
    refine ⟨_, rfl, d, _, _, _, rfl, rfl, SqL.of upd_same, rfl, _, _, rfl, rfl, _, rfl, ?_⟩
    refine ite2 (fun _ => ?_) (fun _ => ?_)
    · refine ⟨_, rfl, d, _, _, _, rfl, rfl, SqL.of upd_same, rfl, .inl ⟨_, rfl, _, rfl, _, _, rfl, rfl, m0, ?_⟩⟩
      refine ⟨_, rfl, d, _, _, _, rfl, rfl, SqL.of upd_same, rfl, _, rfl, _, _, rfl, rfl, ⟨m0, by omega⟩, _, rfl, d, _, _, _, rfl, rfl, upd_same, rfl, ?_⟩
      refine ⟨_, rfl, q _ _ (Int.emod_nonneg _ (by omega)) (Int.emod_lt_of_pos _ m0) ((Mv.refl d H).upd.upd) ?_⟩
      exact ⟨_, _, _, upd_same, Int.ediv_nonneg a0 (by omega), b0, b1, by omega⟩
    · refine ⟨_, rfl, d, _, _, _, rfl, rfl, SqL.of upd_same, rfl, .inl ⟨_, rfl, _, rfl, d, _, _, _, rfl, rfl, SqL.of upd_same, rfl, .inl ⟨_, rfl, _, _, rfl, ?_⟩⟩⟩
      refine ⟨_, rfl, _, rfl, _, _, rfl, rfl, _, rfl, _, _, rfl, rfl, .inl ⟨by decide, by decide⟩, _, _, rfl, rfl, _, _, rfl, rfl, .inl ⟨by omega, by omega⟩, _, rfl, _, _, rfl, rfl, .inl ⟨by decide, by decide⟩, _, _, rfl, rfl, _, _, rfl, rfl, .inl ⟨_, rfl, _, _, rfl, rfl, (by show (0 : Int) < 2147483423; decide), ?_⟩⟩
      refine ⟨_, rfl, _, rfl, d, _, _, _, rfl, rfl, upd_same, rfl, ?_⟩
      refine ⟨_, rfl, _, _, rfl, rfl, ⟨by decide, by decide⟩, .inl ⟨_, rfl, _, rfl, _, _, rfl, rfl, m0, ?_⟩⟩
      refine q _ _ (Int.emod_nonneg _ (by omega)) (Int.emod_lt_of_pos _ m0) ((Mv.refl d H).upd.upd) ?_
      exact ⟨_, _, _, upd_same, a0, Int.emod_nonneg _ (by decide), Int.emod_lt_of_pos _ (by decide), by omega⟩
end
end K5

namespace K5
open PySem L2 Ft
section
variable {P : Program} {w : World} {K : PySem.W.Frag} {mg : Str → Option Value} {base : Heap}
def sp_law_word (K : PySem.W.Frag) : Sp := fun vs H Q _ => ∃ (d t : Addr) (ts : List Str), vs = [.ref d, .ref t] ∧ Deal H d ∧ SqL K H t (ts.map V.str) ∧ t ≠ d ∧ ts.length ≤ 1000 ∧
  ∀ x H', isName x → x ∉ ts → Mv d H H' → Deal H' d → Q (.str x) H'
def sevenW : List Str := ["kind", "make", "a", "b", "ab", "one", "x0"]
theorem sevenW_name : ∀ x ∈ sevenW, isName x := by
  unfold isName
  decide +kernel
theorem ok_law_word (T : Txt K mg) (F_law_pick : Has P w K mg base CX0 1 "_law_pick" ["_law_deal_here", "_law_many"] sp_law_pick) {f : Addr} {fd : FuncData} (F : Fun K "_law_word" "_law_word" s_law_word f fd) :
    FnG P w K mg base CX0 2 f fd ["_law_deal_here", "_law_taken"] (sp_law_word K) := by
  refine okG F sc_law_word (fun vs H Q E h => ?_) (fun cdv A outer s H vs Q E hg hr h => ?_)
  · obtain ⟨a, k, ns, rfl, _⟩ := h
    rfl
  · obtain ⟨d, t, ts, rfl, hd, ht, ntd, hl, q⟩ := h
    refine ⟨_, (pss_cons (ps_set (i := 2) sc_law_word.nd rfl (Or.inr rfl) pe_str)
    (pss_cons (ps_par (i := 3) (j := 4) (by rfl) sc_law_word.nd rfl rfl (by decide) rfl rfl (pa_cons (pe_f F_law_pick hg (hr.mono (by decide)) pass0 rfl (pa_cons (pv 0) (pa_cons pe_int pa_nil))) (pa_cons (pe_ix ix_list (pe_lst (pa_cons pe_str (pa_cons pe_str (pa_cons pe_str (pa_cons pe_str (pa_cons pe_str (pa_cons pe_str (pa_cons pe_str pa_nil)))))))) (pe_f F_law_pick hg (hr.mono (by decide)) pass0 rfl (pa_cons (pv 0) (pa_cons pe_int pa_nil))) (fun _ _ => rfl)) pa_nil)) (by rfl))
    (Evl.pss_cut (ps_if (pt_cmpR op_gt (pv 3) pe_int (nomark _)) (pss_cons (ps_setLc (i := 5) (own := [("_law_k", 6)]) rfl sc_law_word.nd rfl rfl (sw_true rfl rfl rfl (by decide +kernel)) (pi_range1 rfl T.b_range (pa_cons (pe_ix ix_list (pe_lst (pa_cons pe_int (pa_cons pe_int (pa_cons pe_int pa_nil)))) (pe_op op_sub (pv 3) pe_int) (fun _ _ => rfl)) pa_nil)) (blkOk_by (own := [("_law_k", 6)]) (N := N_law_word) (sc := defScope s_law_word) (by decide +kernel)) (fun _ _ _ _ _ => (pg_name (i := 6) sc_law_word.nd rfl (Or.inl rfl))) (fun _ _ _ _ _ => pts_nil) (fun _ _ _ _ _ => (pe_ix ix_str (pv 2) (pe_f F_law_pick hg (hr.mono (by decide)) pass0 rfl (pa_cons (pv 0) (pa_cons pe_int pa_nil))) (fun _ _ => rfl))))
    (pss_one (ps_set (i := 4) sc_law_word.nd rfl (Or.inl rfl) (pe_op op_add_str (pe_ix ix_str (pv 2) (pe_f F_law_pick hg (hr.mono (by decide)) pass0 rfl (pa_cons (pv 0) (pa_cons pe_int pa_nil))) (fun _ _ => rfl)) (pe_join pe_str (pv 5)))))) pss_nil)
    (pss_cons (ps_for PassesOwn.never rfl (pi_range1 rfl T.b_range (pa_cons (pe_op op_add (pe_callB call_len_seq rfl T.b_len bt_len (pa_cons (pv 1) pa_nil)) pe_int) pa_nil)) (pg_name (i := 6) sc_law_word.nd rfl (Or.inl rfl)) (pss_cons (ps_if (pt_cmpR op_notIn_seq (pv 4) (pv 1) rfl) (pss_one (ps_ret (pv 4))) pss_nil)
    (pss_one (ps_set (i := 4) sc_law_word.nd rfl (Or.inl rfl) (pe_op op_add_str pe_str (pe_callTy call_str_int rfl T.b_str bt_str (pa_cons (pv 6) pa_nil)))))))
    (pss_one (ps_ret (pv 4))))))), ?_⟩
    refine ⟨_, rfl, d, 4, rfl, hd, by decide, by decide, fun way H1 w0 w1 m1 d1 => ?_⟩
    refine ⟨by show 7 ≤ sizeLine; decide, fun p np => ⟨_, rfl, d, 7, rfl, d1.new np, by decide, by decide, fun r H2 r0 r1 m2 d2 => ?_⟩⟩
    have npd := d1.ne np
    have hp : H2 p = some (.lst (sevenW.map V.str)) := m2 _ _ npd upd_same
    obtain ⟨v, hv, av⟩ := at_lt (xs := sevenW.map V.str) r0 (by show r < 7; omega)
    obtain ⟨x, hx, rfl⟩ := List.mem_map.mp hv
    have mv2 : Mv d H H2 := (m1.new np).trans m2
    refine ⟨p, _, _, _, rfl, rfl, SqL.of hp, av, _, _, rfl, ?_⟩
    refine ⟨fun σ H' => ∃ (x : Str) (u6 u7 : Option V), σ = [some (.ref d), some (.ref t), some (.str "abcdefghijklmnopqrstuvwxyz0123456789"), some (.int way), some (.str x), u6, u7] ∧ isName x ∧ Mv d H H' ∧ Deal H' d, ?_, ?_⟩
    rotate_left
    · rintro σ H' ⟨x, u6, u7, rfl, hx, mv, hd'⟩
      have ht' : SqL K H' t (ts.map V.str) := mv.seq ntd ht
      refine ⟨_, rfl, t, _, rfl, .inl ht', _, _, rfl, rfl, _, rfl, by omega, by rw [List.length_map]; omega, ?_⟩
      refine for_range (lo := 0) (n := _) (fun i σ H2 => ∃ (y : Str) (u v : Option V), σ = [some (.ref d), some (.ref t), some (.str "abcdefghijklmnopqrstuvwxyz0123456789"), some (.int way), some (.str y), u, v] ∧ isName y ∧ H2 = H' ∧ (∀ k, i = k + 1 → y = wk k) ∧ ∀ k, k + 1 < i → wk k ∈ ts)
        ⟨x, _, _, rfl, hx, rfl, (fun k e => by omega), (fun k e => by omega)⟩ ?_ ?_
      · rintro i σ H2 hi ⟨y, u, v, rfl, hy, rfl, hk, ha⟩
        have hi' : i < ts.length + 1 := by
          rw [List.length_map] at hi
          omega
        refine ⟨_, rfl, _, rfl, t, _, rfl, .inl ht', rfl, flat_strs ts, _, rfl, ?_⟩
        refine ite2 (fun c => ?_) (fun c => ?_)
        · have c' : y ∉ ts := by
            have c2 : (!inV (.str y) (ts.map V.str)) = true := c
            rw [inV_strs] at c2
            simpa using c2
          exact ⟨_, rfl, q y _ hy c' mv hd'⟩
        · have c' : y ∈ ts := by
            have c2 : ¬ (!inV (.str y) (ts.map V.str)) = true := c
            rw [inV_strs] at c2
            simpa using c2
          refine ⟨_, rfl, _, rfl, ?_, _, _, rfl, rfl, ?_, ?_⟩
          · have : (0 + (i : Int)).natAbs = i := by omega
            rw [this]
            exact Nat.lt_of_le_of_lt (Nat.log2_le_self i) (by omega)
          · rw [show (0 : Int) + (i : Int) = ((i : Nat) : Int) by omega, len_tl, len_tl, tl_w]
            show 1 + (TL.tl (Str.ofString (toString ((i : Nat) : Int)))).length ≤ sizeLine
            rw [TL.tl_num]
            have := TL.numL_len (n := i) (k := 4) (by decide) (by omega)
            exact Nat.le_trans (by omega : 1 + (TL.numL i).length ≤ 5) (by decide)
          · refine ⟨wk i, u, some (.int (0 + (i : Int))), ?_, wk_name (by omega), rfl, ?_, ?_⟩
            · rw [show (0 : Int) + (i : Int) = ((i : Nat) : Int) by omega]
              rfl
            · intro k e
              rw [show k = i by omega]
            · intro k e
              by_cases e2 : i = k + 1
              · rw [← hk k e2]
                exact c'
              · exact ha k (by omega)
      · rintro σ H2 ⟨y, u, v, rfl, hy, rfl, hk, ha⟩
        rw [List.length_map] at hk ha
        have e : ((((ts.length : Nat) : Int) + 1).toNat) = ts.length + 1 := by omega
        rw [e] at hk ha
        have ey := hk ts.length rfl
        refine ⟨_, rfl, q y _ hy ?_ mv hd'⟩
        rw [ey]
        exact wk_free fun j hj => ha j (by omega)

    refine ⟨_, rfl, _, _, rfl, rfl, _, rfl, ?_⟩
    refine ite2 (fun c => ?_) (fun c => ?_)
    · have c' : 0 < way := of_decide_eq_true c
      refine ⟨by show 3 ≤ sizeLine; decide, fun p2 np2 => ⟨_, rfl, _, _, rfl, rfl, ?_⟩⟩
      obtain ⟨vn, hvn, avn⟩ := at_lt (xs := [V.int 1, V.int 2, V.int 7]) (r := way - 1) (by omega) (by show way - 1 < 3; omega)
      have hn : ∃ n : Nat, vn = V.int (n : Int) ∧ n ≤ 7 := by
        simp only [List.mem_cons, List.not_mem_nil, or_false] at hvn
        rcases hvn with rfl | rfl | rfl
        · exact ⟨1, rfl, by decide⟩
        · exact ⟨2, rfl, by decide⟩
        · exact ⟨7, rfl, by decide⟩
      obtain ⟨n, rfl, hn⟩ := hn
      refine ⟨p2, _, _, _, rfl, rfl, SqL.of upd_same, avn, _, rfl, by omega, by omega, fun D nD => ?_⟩
      have d3 : Deal (upd H2 p2 (.lst [V.int 1, V.int 2, V.int 7])) d := d2.new np2
      have nDd : D ≠ d := d3.ne nD
      have hDn : H D = none := (mv2.new np2).free nDd nD
      refine lc_range (lo := 0) (n := _) (fun i H3 => ∃ l : List Nat, l.length = i ∧ (∀ c ∈ l, c ∈ nameL) ∧ H3 D = some (.lst (l.map fun c => V.str ⟨#[c]⟩)) ∧ Mv d H H3 ∧ Deal H3 d)
        ⟨[], rfl, (fun _ h => nomatch h), upd_same, (mv2.new np2).new nD, d3.new nD⟩ ?_ ?_
      · rintro i H3 hi ⟨l, hll, hln, hD, m3, d4⟩
        refine ⟨rfl, ?_⟩
        refine ⟨_, rfl, _, rfl, d, 36, rfl, d4, by decide, by decide, fun r H4 r0 r1 m4 d5 => ?_⟩
        obtain ⟨cc, hc, ac⟩ := at_ltN (l := nameL) r0 (by show r < 36; omega)
        refine ⟨_, _, cc, rfl, rfl, by rw [str_naming_len]; decide, by rw [show ("abcdefghijklmnopqrstuvwxyz0123456789" : Str).cps.toList = nameL from tl_naming]; exact ac, _, m4 _ _ nDd hD, ?_, ?_⟩
        · rw [List.length_map, hll]
          exact Nat.lt_of_lt_of_le hi (Nat.le_trans (show ((n : Int)).toNat ≤ 7 by omega) (by decide))
        · refine ⟨l ++ [cc], by simp [hll], ?_, ?_, (m3.trans m4).fresh hDn, ?_⟩
          · intro c hc'
            rcases List.mem_append.mp hc' with z | z
            · exact hln c z
            · rw [List.mem_singleton.mp z]
              exact hc
          · rw [upd_same, List.map_append]
            rfl
          · exact d5.put nDd
      · rintro H3 ⟨l, hll, hln, hD, m3, d4⟩
        refine ⟨_, rfl, _, rfl, d, 26, rfl, d4, by decide, by decide, fun r H4 r0 r1 m4 d5 => ?_⟩
        obtain ⟨cc, hc, ac⟩ : ∃ c, c ∈ smallL ∧ atI nameL r = some c := by
          have hk : r.toNat < smallL.length := by
            show r.toNat < 26
            omega
          refine ⟨smallL[r.toNat], List.getElem_mem hk, ?_⟩
          have e := atI_nat (xs := nameL) (j := r.toNat) (v := smallL[r.toNat]) (by
            unfold nameL
            rw [List.getElem?_append_left hk, List.getElem?_eq_getElem hk])
          rwa [show ((r.toNat : Nat) : Int) = r by omega] at e
        refine ⟨_, _, cc, rfl, rfl, by rw [str_naming_len]; decide, by rw [show ("abcdefghijklmnopqrstuvwxyz0123456789" : Str).cps.toList = nameL from tl_naming]; exact ac, ⟨_, rfl⟩, _, rfl, _, D, l.map (fun c => ⟨#[c]⟩), rfl, rfl, .inl (SqL.of ?_), ?_, _, _, rfl, rfl, ?_, ?_⟩
        · rw [List.map_map]
          exact m4 _ _ nDd hD
        · have e1 : ((l.map fun c => (⟨#[c]⟩ : Str)).map (·.length)).sum = l.length := by
            rw [List.map_map]
            have : ((fun x : Str => x.length) ∘ fun c => (⟨#[c]⟩ : Str)) = fun _ => 1 := rfl
            rw [this]
            clear hD hll hln
            induction l with
            | nil => rfl
            | cons a l ih =>
              rw [List.map_cons, List.sum_cons, ih, List.length_cons]
              omega
          rw [e1, show ("" : Str).length = 0 by decide +kernel, hll]
          have : ((n : Int)).toNat ≤ 7 := by omega
          omega
        · rw [len_tl (Txt.join _ _), tl_join0, flat_ones, hll]
          show 1 + ((n : Int)).toNat ≤ sizeLine
          have : ((n : Int)).toNat ≤ 7 := by omega
          exact Nat.le_trans (show 1 + ((n : Int)).toNat ≤ 8 by omega) (by decide)
        · refine ⟨_, _, _, rfl, ?_, m3.trans m4, d5⟩
          unfold isName
          rw [isNameL_iff, tl_app, tl_join0, flat_ones, tl_one]
          have hn7 : ((n : Int)).toNat ≤ 7 := by omega
          refine ⟨by simp, by simp; omega, by simpa using hc, fun c hc' => ?_⟩
          rcases List.mem_cons.mp hc' with rfl | z
          · exact List.mem_append_left _ hc
          · exact hln c z
    · exact ⟨x, _, _, rfl, sevenW_name x hx, mv2, d2⟩
end
end K5

namespace K5
open PySem L2 Ft
def isNameD : PyData → Bool
  | .str x => isNameL (tl x)
  | _ => false
def oneD (ks : List Str) : PyData → Bool
  | .str x => decide (x ∈ ks)
  | _ => false
def conD (ks : List Str) : PyData → Bool
  | .tuple [a, b, .tuple fs] => isNameD a && oneD ks b && decide (fs.length ≤ 3) && fs.all (oneD ks)
  | _ => false
theorem nameD_no {d : PyData} (h : ¬ ∃ x, d = .str x) : isNameD d = false := by
  cases d <;> first | rfl | exact absurd ⟨_, rfl⟩ h
theorem oneD_no {ks : List Str} {d : PyData} (h : ¬ ∃ x, d = .str x) : oneD ks d = false := by
  cases d <;> first | rfl | exact absurd ⟨_, rfl⟩ h
/-- texts are short -/
def Sm0 (d : PyData) : Prop := ∀ x, d = .str x → x.length ≤ 1000
def Sm1 (d : PyData) : Prop := ∀ ds, d = .tuple ds → ∀ e ∈ ds, Sm0 e
def Sm2 (d : PyData) : Prop := ∀ ds, d = .tuple ds → ∀ e ∈ ds, Sm1 e
theorem head_at {x : Str} (h : 1 ≤ x.length) : atI x.cps.toList 0 = some ((tl x).headD 0) := by
  rw [len_tl] at h
  show atI (tl x) 0 = _
  cases e : tl x with
  | nil => rw [e] at h; simp at h
  | cons c l => exact atI_nat (j := 0) rfl
/-- a comprehension over the signs of a text that gives bools, i turns done -/
def Signs (H : Hp) (D : Addr) (x : Str) (p : Nat → Bool) (i : Nat) (H1 : Hp) : Prop := Same H H1 ∧ H1 D = some (.lst ((((tl x).take i).map p).map V.bl))
theorem Signs.zero {H : Hp} {D : Addr} {x : Str} {p : Nat → Bool} (nD : H D = none) : Signs H D x p 0 (upd H D (.lst [])) := ⟨same_new nD, upd_same⟩
theorem Signs.step {H H1 : Hp} {D : Addr} {x : Str} {p : Nat → Bool} {i c : Nat} {y : V} (h : Signs H D x p i H1) (nD : H D = none) (hl : x.length ≤ 1000) (hc : x.cps[i]? = some c) (hy : y = .bl (p c)) :
    ∃ acc, H1 D = some (.lst acc) ∧ acc.length < sizeLine ∧ Signs H D x p (i + 1) (upd H1 D (.lst (acc ++ [y]))) := by
  obtain ⟨s1, h1⟩ := h
  subst hy
  have hc' : (tl x)[i]? = some c := by
    rw [← hc]
    simp [tl]
  refine ⟨_, h1, ?_, same_fresh s1 nD, ?_⟩
  · rw [List.length_map, List.length_map]
    rw [len_tl] at hl
    have h2 : ((tl x).take i).length ≤ (tl x).length := by rw [List.length_take]; omega
    exact Nat.lt_of_le_of_lt (Nat.le_trans h2 hl) (by decide)
  · rw [upd_same]
    have : (tl x).take (i + 1) = (tl x).take i ++ [c] := by
      rw [List.take_succ, hc']
      rfl
    rw [this, List.map_append, List.map_append]
    rfl
theorem Signs.done {H H1 : Hp} {D : Addr} {x : Str} {p : Nat → Bool} (h : Signs H D x p x.cps.size H1) : Same H H1 ∧ H1 D = some (.lst (((tl x).map p).map V.bl)) := by
  refine ⟨h.1, ?_⟩
  rw [h.2, List.take_of_length_le (by simp [tl])]
theorem nameL_if {x : Str} {b : Bool} (h1 : 1 ≤ x.length) (h2 : x.length ≤ 8) (h3 : decide ((tl x).headD 0 ∈ smallL) = b) : isNameD (.str x) = (b && ((tl x).map fun c => decide (c ∈ nameL)).all id) := by
  show isNameL (tl x) = _
  unfold isNameL
  rw [len_tl] at h1 h2
  rw [decide_eq_true h1, decide_eq_true h2, h3, List.all_map]
  rfl
theorem nameL_not {x : Str} (h : ¬ (1 ≤ x.length ∧ x.length ≤ 8)) : isNameD (.str x) = false := by
  show isNameL (tl x) = false
  cases e : isNameL (tl x) with
  | false => rfl
  | true =>
    have := (isNameL_iff _).mp e
    rw [len_tl] at h
    exact absurd ⟨this.1, this.2.1⟩ h
section
variable {P : Program} {w : World} {K : PySem.W.Frag} {mg : Str → Option Value} {base : Heap}
def sp_is_name : Sp := fun vs H Q _ => ∃ z v d, vs = [v] ∧ Dt z H v d ∧ Sm0 d ∧ ∀ H', Same H H' → Q (.bl (isNameD d)) H'
theorem ok_is_name (T : Txt K mg) {f : Addr} {fd : FuncData} (F : Fun K "is_name" "is_name" s_is_name f fd) : FnOk P w K mg base CX0 1 f fd ["value"] sp_is_name := by
  refine okO F sc_is_name (fun vs H Q E h => ?_) (fun cdv A outer s H vs Q E hr h => ?_)
  · obtain ⟨z, v, d, rfl, _⟩ := h
    rfl
  · obtain ⟨z, v, d, rfl, hv, sm, q⟩ := h
    refine ⟨_, (pss_cons (ps_if (PW.pt (pw_or (pt_not (pt_val (pe_callB call_isi rfl T.b_isinstance bt_isinstance (pa_cons (pv 0) (pa_cons (pe_bltn (v := .ty "str") rfl T.b_str bt_str rfl) pa_nil))))) (pw_or (pt_not (pt_chain op_le op_le pe_int (pe_callB call_len_str rfl T.b_len bt_len (pa_cons (pv 0) pa_nil)) (pe_const T.m_LONGEST rfl))) (pw_or1 (pt_cmpR op_notIn_sign (pe_ix ix_str (pv 0) pe_int (fun _ _ => rfl)) (pe_const T.m_SMALL rfl) rfl))))) (pss_one (ps_ret pe_bl)) pss_nil)
    (pss_one (ps_ret (pe_callB (cr_all rfl) rfl T.b_all bt_all (pa_cons (pe_lc (own := [("sign", 1)]) rfl sc_is_name.nd (pi_str (pv 0)) (blkOk_by (own := [("sign", 1)]) (N := N_is_name) (sc := defScope s_is_name) (by decide +kernel)) (fun _ _ _ _ _ => (pg_name (i := 1) sc_is_name.nd rfl (Or.inl rfl))) (fun _ _ _ _ _ => pts_nil) (fun _ _ _ _ _ => (pe_cmpR op_in_sign (pv 1) (pe_const T.m_NAMING rfl) rfl))) pa_nil))))), ?_⟩
    refine ⟨_, rfl, _, _, _, _, _, rfl, .ty _, .base hv.ty, kit_str d, _, rfl, ?_⟩
    by_cases hd : ∃ x, d = .str x
    · obtain ⟨x, rfl⟩ := hd
      cases hv
      have hx := sm x rfl
      have hz : x.length ≤ sizeLine := Nat.le_trans hx (by decide)
      refine ⟨_, rfl, _, rfl, hz, _, _, rfl, rfl, _, rfl, ?_⟩
      by_cases h1 : 1 ≤ x.length
      · rw [decide_eq_true (show (1 : Int) ≤ (x.length : Int) by omega)]
        refine ⟨_, _, rfl, rfl, _, rfl, ?_⟩
        by_cases h8 : x.length ≤ 8
        · rw [decide_eq_true (show (x.length : Int) ≤ 8 by omega)]
          refine ⟨_, rfl, _, _, _, rfl, rfl, hz, head_at h1, _, _, rfl, rfl, _, rfl, ?_⟩
          rw [show ("abcdefghijklmnopqrstuvwxyz" : Str).cps.toList = smallL from tl_small]
          by_cases hh : (tl x).headD 0 ∈ smallL
          · rw [decide_eq_true hh]
            refine ⟨_, rfl, x, rfl, fun D nD => ?_⟩
            refine lc_it walk_str (Signs H D x fun c => decide (c ∈ nameL)) (.zero nD) (fun _ _ _ _ => trivial) ?_ ?_
            · rintro i v H1 H2 hi hs ⟨rfl, c, hc, rfl⟩
              refine ⟨rfl, ?_⟩
              refine ⟨_, rfl, c, _, rfl, rfl, hs.step nD hx hc ?_⟩
              rw [show ("abcdefghijklmnopqrstuvwxyz0123456789" : Str).cps.toList = nameL from tl_naming]
            · rintro H1 hs
              obtain ⟨s1, hD⟩ := hs.done
              refine ⟨D, _, rfl, SqL.of hD, ?_⟩
              have := q _ s1
              rw [nameL_if h1 h8 (decide_eq_true hh)] at this
              exact this
          · rw [decide_eq_false hh]
            have := q _ (Same.refl H)
            rw [nameL_if h1 h8 (decide_eq_false hh)] at this
            exact this
        · rw [decide_eq_false (show ¬ (x.length : Int) ≤ 8 by omega)]
          have := q _ (Same.refl H)
          rw [nameL_not (fun z => h8 z.2)] at this
          exact this
      · rw [decide_eq_false (show ¬ (1 : Int) ≤ (x.length : Int) by omega)]
        refine ⟨_, rfl, ?_⟩
        have := q _ (Same.refl H)
        rw [nameL_not (fun z => h1 z.1)] at this
        exact this
    · rw [isStrD_no hd]
      have := q _ (Same.refl H)
      rw [nameD_no hd] at this
      exact this
def sp_is_one_of (K : PySem.W.Frag) : Sp := fun vs H Q _ => ∃ z v d p ks, vs = [v, .ref p] ∧ Dt z H v d ∧ SqT K H p (ks.map V.str) ∧ Q (.bl (oneD ks d)) H
theorem ok_is_one_of (T : Txt K mg) {f : Addr} {fd : FuncData} (F : Fun K "is_one_of" "is_one_of" s_is_one_of f fd) : FnOk P w K mg base CX0 1 f fd ["value", "names"] (sp_is_one_of K) := by
  refine okO F sc_is_one_of (fun vs H Q E h => ?_) (fun cdv A outer s H vs Q E hr h => ?_)
  · obtain ⟨z, v, d, p, ks, rfl, _⟩ := h
    rfl
  · obtain ⟨z, v, d, p, ks, rfl, hv, hp, q⟩ := h
    refine ⟨_, (pss_one (ps_ret (pe_and (pe_callB call_isi rfl T.b_isinstance bt_isinstance (pa_cons (pv 0) (pa_cons (pe_bltn (v := .ty "str") rfl T.b_str bt_str rfl) pa_nil))) (pe_one (pe_cmpR op_in_seq (pv 0) (pv 1) rfl))))), ?_⟩
    refine ⟨_, rfl, _, _, _, _, _, rfl, .ty _, .base hv.ty, kit_str d, ?_⟩
    by_cases hd : ∃ x, d = .str x
    · obtain ⟨x, rfl⟩ := hd
      cases hv
      refine ⟨_, rfl, ?_⟩
      refine ⟨_, rfl, _, rfl, p, _, rfl, .inr hp, rfl, flat_strs ks, ?_⟩
      rw [inV_strs]
      exact q
    · rw [isStrD_no hd]
      rw [oneD_no hd] at q
      exact ⟨_, rfl, q⟩
end
end K5

namespace K5
open PySem L2 Ft
theorem conD_len {ks : List Str} {ds : List PyData} (h : ds.length ≠ 3) : conD ks (.tuple ds) = false := by
  match ds, h with
  | [], _ => rfl
  | [_], _ => rfl
  | [_, _], _ => rfl
  | [_, _, _], h => exact absurd rfl h
  | _ :: _ :: c :: _ :: _, _ => cases c <;> rfl
theorem conD_no {ks : List Str} {d : PyData} (h : ¬ ∃ x, d = .tuple x) : conD ks d = false := by
  cases d <;> first | rfl | exact absurd ⟨_, rfl⟩ h
theorem conD_0 {ks : List Str} {a b c : PyData} (h : isNameD a = false) : conD ks (.tuple [a, b, c]) = false := by
  cases c <;> first | rfl | (show (isNameD a && _ && _ && _) = false; rw [h]; rfl)
theorem conD_1 {ks : List Str} {a b c : PyData} (h : oneD ks b = false) : conD ks (.tuple [a, b, c]) = false := by
  cases c <;> first | rfl | (show (_ && oneD ks b && _ && _) = false; rw [h, Bool.and_false]; rfl)
theorem conD_2 {ks : List Str} {a b c : PyData} (h : ¬ ∃ x, c = .tuple x) : conD ks (.tuple [a, b, c]) = false := by
  cases c <;> first | rfl | exact absurd ⟨_, rfl⟩ h
section
variable {P : Program} {w : World} {K : PySem.W.Frag} {mg : Str → Option Value} {base : Heap}
def sp_is_constructor (K : PySem.W.Frag) : Sp := fun vs H Q _ => ∃ z p ks v d, vs = [.ref p, v] ∧ SqT K H p (ks.map V.str) ∧ Dt z H v d ∧ Sm1 d ∧ ∀ H', Same H H' → Q (.bl (conD ks d)) H'
theorem ok_is_constructor (T : Txt K mg) (F_is_name : HasO P w K mg base CX0 1 "is_name" ["value"] sp_is_name) (F_is_one_of : HasO P w K mg base CX0 1 "is_one_of" ["value", "names"] (sp_is_one_of K))
    {f : Addr} {fd : FuncData} (F : Fun K "is_constructor" "is_constructor" s_is_constructor f fd) : FnOk P w K mg base CX0 2 f fd ["kinds", "value"] (sp_is_constructor K) := by
  refine okO F sc_is_constructor (fun vs H Q E h => ?_) (fun cdv A outer s H vs Q E hr h => ?_)
  · obtain ⟨z, p, ks, v, d, rfl, _⟩ := h
    rfl
  · obtain ⟨z, p, ks, v, d, rfl, hp, hv, sm, q⟩ := h
    refine ⟨_, (pss_cons (ps_if (PW.pt (pw_or (pt_not (pt_val (pe_callB call_isi rfl T.b_isinstance bt_isinstance (pa_cons (pv 1) (pa_cons (pe_bltn (v := .ty "tuple") rfl T.b_tuple bt_tuple rfl) pa_nil))))) (pw_or (pt_cmpR op_ne (pe_callB call_len_seq rfl T.b_len bt_len (pa_cons (pv 1) pa_nil)) pe_int (nomark _)) (pw_or (pt_not (pt_val (pe_o F_is_name (hr.mono (by decide)) pass0 rfl (pa_cons (pe_ix ix_tup (pv 1) pe_int (fun _ _ => rfl)) pa_nil)))) (pw_or1 (pt_not (pt_val (pe_o F_is_one_of (hr.mono (by decide)) pass0 rfl (pa_cons (pe_ix ix_tup (pv 1) pe_int (fun _ _ => rfl)) (pa_cons (pv 0) pa_nil)))))))))) (pss_one (ps_ret pe_bl)) pss_nil)
    (pss_cons (ps_set (i := 2) sc_is_constructor.nd rfl (Or.inl rfl) (pe_ix ix_tup (pv 1) pe_int (fun _ _ => rfl)))
    (pss_cons (ps_if (PW.pt (pw_or (pt_not (pt_val (pe_callB call_isi rfl T.b_isinstance bt_isinstance (pa_cons (pv 2) (pa_cons (pe_bltn (v := .ty "tuple") rfl T.b_tuple bt_tuple rfl) pa_nil))))) (pw_or1 (pt_cmpR op_gt (pe_callB call_len_seq rfl T.b_len bt_len (pa_cons (pv 2) pa_nil)) (pe_const T.m_MOST_FIELDS rfl) (nomark _))))) (pss_one (ps_ret pe_bl)) pss_nil)
    (pss_one (ps_ret (pe_callB (cr_all rfl) rfl T.b_all bt_all (pa_cons (pe_lc (own := [("field", 3)]) rfl sc_is_constructor.nd (pi_tup (pv 2)) (blkOk_by (own := [("field", 3)]) (N := N_is_constructor) (sc := defScope s_is_constructor) (by decide +kernel)) (fun _ _ _ _ _ => (pg_name (i := 3) sc_is_constructor.nd rfl (Or.inl rfl))) (fun _ _ _ _ _ => pts_nil) (fun _ _ _ _ _ => (pe_o F_is_one_of (hr.mono (by decide)) pass0 rfl (pa_cons (pv 3) (pa_cons (pv 0) pa_nil))))) pa_nil))))))), ?_⟩
    refine ⟨_, rfl, _, _, _, _, _, rfl, .ty _, .base hv.ty, kit_tup d, _, rfl, ?_⟩
    by_cases hd : ∃ ds, d = .tuple ds
    rotate_left
    · rw [isTupD_no hd]
      have := q _ (Same.refl H)
      rw [conD_no hd] at this
      exact this
    obtain ⟨ds, rfl⟩ := hd
    cases hv with
    | @tup a xs _ e hall => ?_
    have sm' := sm ds rfl
    refine ⟨_, rfl, a, xs, rfl, .inr (.of e), rfl, _, rfl, ?_⟩
    by_cases h3 : ds.length = 3
    rotate_left
    · rw [decide_eq_false (show ¬ V.int (xs.length : Nat) = V.int 3 by rw [hall.len]; intro q; injection q with q; omega)]
      have := q _ (Same.refl H)
      rw [conD_len h3] at this
      exact this
    rw [decide_eq_true (show V.int (xs.length : Nat) = V.int 3 by rw [hall.len, h3]; rfl)]
    obtain ⟨d0, d1, d2, rfl⟩ : ∃ d0 d1 d2, ds = [d0, d1, d2] := by
      match ds, h3 with
      | [d0, d1, d2], _ => exact ⟨_, _, _, rfl⟩
    obtain ⟨x0, x1, x2, rfl, h0, h1, h2⟩ : ∃ x0 x1 x2, xs = [x0, x1, x2] ∧ Dt z H x0 d0 ∧ Dt z H x1 d1 ∧ Dt z H x2 d2 := by
      cases hall with
      | cons h0 hall =>
      cases hall with
      | cons h1 hall =>
      cases hall with
      | cons h2 hall =>
      cases hall
      exact ⟨_, _, _, rfl, h0, h1, h2⟩
    refine ⟨_, rfl, a, _, _, _, rfl, rfl, .of e, rfl, z, _, d0, rfl, h0, sm' d0 (by simp), fun H1 s1 => ⟨_, rfl, ?_⟩⟩
    cases b0 : isNameD d0 with
    | false =>
      have := q _ s1
      rw [conD_0 b0] at this
      exact this
    | true => ?_
    refine ⟨_, rfl, a, _, _, _, rfl, rfl, .of (s1 _ _ e), rfl, _, rfl, z, _, d1, p, ks, rfl, h1.same s1, same_tup s1 hp, _, rfl, ?_⟩
    cases b1 : oneD ks d1 with
    | false =>
      have := q _ s1
      rw [conD_1 b1] at this
      exact this
    | true => ?_
    refine ⟨_, rfl, a, _, _, _, rfl, rfl, .of (s1 _ _ e), rfl, ?_⟩
    refine ⟨_, rfl, _, _, _, _, _, rfl, .ty _, .base (h2.same s1).ty, kit_tup d2, _, rfl, ?_⟩
    by_cases hd2 : ∃ ds, d2 = .tuple ds
    rotate_left
    · rw [isTupD_no hd2]
      have := q _ s1
      rw [conD_2 hd2] at this
      exact this
    obtain ⟨fs, rfl⟩ := hd2
    cases h2 with
    | @tup b ys _ e2 hall2 => ?_
    refine ⟨_, rfl, b, ys, rfl, .inr (.of (s1 _ _ e2)), _, _, rfl, rfl, _, rfl, ?_⟩
    have con : conD ks (.tuple [d0, d1, .tuple fs]) = (isNameD d0 && oneD ks d1 && decide (fs.length ≤ 3) && fs.all (oneD ks)) := rfl
    by_cases hl : fs.length ≤ 3
    rotate_left
    · rw [decide_eq_true (show (3 : Int) < (ys.length : Nat) by rw [hall2.len]; omega)]
      have := q _ s1
      rw [con, decide_eq_false hl, Bool.and_false, Bool.false_and] at this
      exact this
    rw [decide_eq_false (show ¬ (3 : Int) < (ys.length : Nat) by rw [hall2.len]; omega)]
    refine ⟨_, rfl, b, rfl, ⟨_, .of (s1 _ _ e2)⟩, fun D nD => ?_⟩
    refine lc_it (walk_tup (xs := ys)) (Acc H1 D ((fs.map (oneD ks)).map V.bl)) (.zero nD) (fun i H2 _ hA => .of (hA.1 _ _ (s1 _ _ e2))) ?_ ?_
    · rintro i v H2 H3 hi hA ⟨rfl, hx⟩
      obtain ⟨dd, ed, hdd⟩ := hall2.get hx
      refine ⟨rfl, ?_⟩
      refine ⟨_, rfl, _, rfl, z, _, dd, p, ks, rfl, (hdd.same s1).same hA.1, same_tup hA.1 (same_tup s1 hp), ?_⟩
      refine hA.step (Same.refl _) nD (by rw [List.length_map, List.length_map]; omega) ?_
      rw [List.getElem?_map, List.getElem?_map, ed]
      rfl
    · rintro H2 hA
      obtain ⟨s2, hD⟩ := hA.done (by rw [List.length_map, List.length_map, hall2.len])
      refine ⟨D, _, rfl, SqL.of hD, ?_⟩
      have := q _ (s1.trans s2)
      rw [con, b0, b1, decide_eq_true hl] at this
      rw [List.all_map]
      exact this
end
end K5

namespace K5
open PySem L2 Ft
def OkK (ks : List Str) : Prop := ks.Nodup ∧ ∀ k ∈ ks, isName k
/-- the kinds are right; are no fit tuple at all; go wrong first at i -/
def KOk (d : PyData) (ks : List Str) : Prop := d = .tuple (ks.map .str) ∧ 1 ≤ ks.length ∧ ks.length ≤ 4 ∧ OkK ks
def KNo (d : PyData) : Prop := ∀ ds, d = .tuple ds → ¬ (1 ≤ ds.length ∧ ds.length ≤ 4)
def KBad (d : PyData) (i : Nat) : Prop := ∃ ds ks e, d = .tuple ds ∧ 1 ≤ ds.length ∧ ds.length ≤ 4 ∧ ds.take i = ks.map .str ∧ OkK ks ∧ ds[i]? = some e ∧ (isNameD e = false ∨ ∃ x, e = .str x ∧ x ∈ ks)
theorem OkK.snoc {ks : List Str} {x : Str} (h : OkK ks) (h1 : isName x) (h2 : x ∉ ks) : OkK (ks ++ [x]) := by
  refine ⟨?_, ?_⟩
  · rw [List.nodup_append]
    refine ⟨h.1, by simp, fun a ha b hb => ?_⟩
    rw [List.mem_singleton.mp hb]
    exact fun q => h2 (q ▸ ha)
  · intro k hk
    rcases List.mem_append.mp hk with z | z
    · exact h.2 k z
    · rw [List.mem_singleton.mp z]
      exact h1
theorem OkK.nil : OkK [] := ⟨List.nodup_nil, fun _ h => nomatch h⟩
theorem take_snoc {α : Type} {l : List α} {i : Nat} {a : α} (h : l[i]? = some a) : l.take (i + 1) = l.take i ++ [a] := by
  rw [List.take_succ, h]
  rfl
theorem nameD_str {e : PyData} (h : isNameD e = true) : ∃ x, e = .str x ∧ isName x := by
  cases e with
  | str x => exact ⟨x, rfl, h⟩
  | _ => cases h
section
variable {P : Program} {w : World} {K : PySem.W.Frag} {mg : Str → Option Value} {base : Heap}
/-- the exception of the class at C whose one field f is v -/
def Told (E : XK) (H : Hp) (C : Addr) (f : Str) (v : V) : Prop := ∀ dd H', Same H H' → H' dd = some (.xd [(f, v)]) → E (.ref C) (some dd) H'
def sp_check_kinds (C : Addr) : Sp := fun vs H Q E => ∃ z v d, vs = [v] ∧ Dt z H v d ∧ Sm1 d ∧ (∀ ks, KOk d ks → ∀ H', Same H H' → Q .non H') ∧ (KNo d → Told E H C "index" .non) ∧ ∀ i : Nat, KBad d i → Told E H C "index" (.int i)
theorem ok_check_kinds (T : Txt K mg) {CK : Addr} (X_InvalidKinds : ExAt K mg "InvalidKinds" "index" CK) (F_is_name : HasO P w K mg base CX0 1 "is_name" ["value"] sp_is_name)
    {f : Addr} {fd : FuncData} (F : Fun K "check_kinds" "check_kinds" s_check_kinds f fd) : FnOk P w K mg base (L2.CX P w) 2 f fd ["value"] (sp_check_kinds CK) := by
  refine okX F sc_check_kinds (fun vs H Q E h => ?_) (fun cdv A outer s H vs Q E hr tk px pc h => ?_)
  · obtain ⟨z, v, d, rfl, _⟩ := h
    rfl
  · obtain ⟨z, v, d, rfl, hv, sm, qOk, qNo, qBad⟩ := h
    refine ⟨_, (pss_cons (ps_if (PW.pt (pw_or (pt_not (pt_val (pe_callB call_isi rfl T.b_isinstance bt_isinstance (pa_cons (pv 0) (pa_cons (pe_bltn (v := .ty "tuple") rfl T.b_tuple bt_tuple rfl) pa_nil))))) (pw_or1 (pt_not (pt_chain op_le op_le pe_int (pe_callB call_len_seq rfl T.b_len bt_len (pa_cons (pv 0) pa_nil)) (pe_const T.m_MOST_KINDS rfl)))))) (pss_one (ps_raise rfl tk (pmk1 X_InvalidKinds hr (pa_cons pe_non pa_nil) rfl))) pss_nil)
    (pss_cons (ps_set (i := 1) sc_check_kinds.nd rfl (Or.inl rfl) (pe_lst pa_nil))
    (pss_one (ps_for px rfl (pi_enumT rfl T.b_enumerate (pa_cons (pv 0) pa_nil)) (pg_tup rfl (pgs_cons (pg_name (i := 2) sc_check_kinds.nd rfl (Or.inl rfl)) (pgs_cons (pg_name (i := 3) sc_check_kinds.nd rfl (Or.inl rfl)) pgs_nil))) (pss_cons (ps_if (PW.pt (pw_or (pt_not (pt_val (pe_o F_is_name (hr.mono (by decide)) pass0 rfl (pa_cons (pv 3) pa_nil)))) (pw_or1 (pt_cmpR op_in_seq (pv 3) (pv 1) rfl)))) (pss_one (ps_raise rfl tk (pmk1 X_InvalidKinds hr (pa_cons (pv 2) pa_nil) rfl))) pss_nil)
    (pss_one (ps_expr (pe_bm PySem.F.plainAttrs_list PySem.F.slot_list_append PySem.F.type_list_append mt_append (pv 1) (pa_cons (pv 3) pa_nil))))))))), ?_⟩
    refine ⟨_, rfl, _, _, _, _, _, rfl, .ty _, .base hv.ty, kit_tup d, _, rfl, ?_⟩
    by_cases hd : ∃ ds, d = .tuple ds
    rotate_left
    · rw [isTupD_no hd]
      exact ⟨_, rfl, fun dd nd => qNo (fun ds e => absurd ⟨ds, e⟩ hd) dd _ (same_new nd) upd_same⟩
    obtain ⟨ds, rfl⟩ := hd
    cases hv with
    | @tup a xs _ e hall => ?_
    have sm' := sm ds rfl
    refine ⟨_, rfl, a, xs, rfl, .inr (.of e), _, _, rfl, rfl, _, rfl, ?_⟩
    by_cases h1 : 1 ≤ ds.length
    rotate_left
    · rw [decide_eq_false (show ¬ (1 : Int) ≤ (xs.length : Nat) by rw [hall.len]; omega)]
      exact ⟨_, rfl, _, rfl, fun dd nd => qNo (fun ds' e => by cases e; omega) dd _ (same_new nd) upd_same⟩
    rw [decide_eq_true (show (1 : Int) ≤ (xs.length : Nat) by rw [hall.len]; omega)]
    refine ⟨_, _, rfl, rfl, _, rfl, ?_⟩
    by_cases h4 : ds.length ≤ 4
    rotate_left
    · rw [decide_eq_false (show ¬ ((xs.length : Nat) : Int) ≤ 4 by rw [hall.len]; omega)]
      exact ⟨_, rfl, fun dd nd => qNo (fun ds' e => by cases e; omega) dd _ (same_new nd) upd_same⟩
    rw [decide_eq_true (show ((xs.length : Nat) : Int) ≤ 4 by rw [hall.len]; omega)]
    refine ⟨by show 0 ≤ sizeLine; decide, fun p np => ?_⟩
    refine ⟨_, rfl, a, xs, rfl, .of (same_new np _ _ e), ?_⟩
    refine for_it (walk_enumT (xs := xs)) (fun i σ H1 => ∃ (ks : List Str) (u v : Option V), σ = [some (.ref a), some (.ref p), u, v] ∧ ds.take i = ks.map .str ∧ OkK ks ∧ Same H H1 ∧ H1 p = some (.lst (ks.map V.str)))
      ⟨[], _, _, rfl, rfl, .nil, same_new np, upd_same⟩ (fun i σ H1 _ h => by obtain ⟨ks, u, v, _, _, _, s1, _⟩ := h; exact .of (s1 _ _ e)) ?_ ?_
    · rintro i v σ H1 H2 hi ⟨ks, u, v, rfl, hk, ok, s1, hp⟩ ⟨t, y, x, rfl, nt, rfl, ey, hx⟩
      cases Option.some.inj ey
      obtain ⟨dd, ed, hdd⟩ := hall.get hx
      have s2 : Same H (upd H1 t (.tup [.int i, x])) := s1.trans (same_new nt)
      have hp2 : upd H1 t (.tup [.int i, x]) p = some (.lst (ks.map V.str)) := same_new nt _ _ hp
      refine ⟨t, _, rfl, .of upd_same, rfl, ?_⟩
      refine ⟨_, _, rfl, _, _, rfl, rfl, ?_⟩
      refine ⟨_, rfl, z, _, dd, rfl, hdd.same s2, sm' dd (List.mem_of_getElem? ed), fun H3 s3 => ⟨_, rfl, ?_⟩⟩
      cases bn : isNameD dd with
      | false => exact ⟨_, rfl, _, rfl, fun d' nd => qBad i ⟨ds, ks, dd, rfl, h1, h4, hk, ok, ed, .inl bn⟩ d' _ ((s2.trans s3).trans (same_new nd)) upd_same⟩
      | true => ?_
      obtain ⟨y, rfl, hy⟩ := nameD_str bn
      cases hdd
      refine ⟨_, rfl, _, rfl, p, _, rfl, .inl (SqL.of (s3 _ _ hp2)), rfl, flat_strs ks, _, rfl, ?_⟩
      by_cases hm : y ∈ ks
      · have e1 : inV (.str y) (ks.map V.str) = true := by rw [inV_strs]; exact decide_eq_true hm
        rw [show (if false = true then !inV (.str y) (ks.map V.str) else inV (.str y) (ks.map V.str)) = true from e1]
        exact ⟨_, rfl, _, rfl, fun d' nd => qBad i ⟨ds, ks, _, rfl, h1, h4, hk, ok, ed, .inr ⟨y, rfl, hm⟩⟩ d' _ ((s2.trans s3).trans (same_new nd)) upd_same⟩
      · have e1 : inV (.str y) (ks.map V.str) = false := by rw [inV_strs]; exact decide_eq_false hm
        rw [show (if false = true then !inV (.str y) (ks.map V.str) else inV (.str y) (ks.map V.str)) = false from e1]
        refine ⟨_, rfl, .inl ⟨rfl, _, SqL.of (s3 _ _ hp2)⟩, _, rfl, p, _, _, rfl, rfl, s3 _ _ hp2, ?_, ?_⟩
        · rw [List.length_map]
          have : ks.length = (ds.take i).length := by rw [hk, List.length_map]
          rw [List.length_take] at this
          exact Nat.lt_of_le_of_lt (show ks.length ≤ 4 by omega) (by decide)
        · refine ⟨ks ++ [y], _, _, rfl, ?_, ok.snoc hy hm, same_fresh (s2.trans s3) np, ?_⟩
          · rw [take_snoc ed, hk, List.map_append]
            rfl
          · rw [upd_same, List.map_append]
            rfl
    · rintro σ H1 ⟨ks, u, v, rfl, hk, ok, s1, hp⟩
      rw [hall.len, List.take_length] at hk
      have hl : ds.length = ks.length := by rw [hk, List.length_map]
      exact qOk ks ⟨by rw [hk], by omega, by omega, ok⟩ _ s1
/-! ### constructors -/
abbrev Row := Str × Str × List Str
def rowD (r : Row) : PyData := .tuple [.str r.1, .str r.2.1, .tuple (r.2.2.map .str)]
/-- a constructor over the kinds ks -/
def RowOk (ks : List Str) (r : Row) : Prop := isName r.1 ∧ r.2.1 ∈ ks ∧ r.2.2.length ≤ 3 ∧ ∀ f ∈ r.2.2, f ∈ ks
theorem oneD_str {ks : List Str} {e : PyData} (h : oneD ks e = true) : ∃ x, e = .str x ∧ x ∈ ks := by
  cases e with
  | str x => exact ⟨x, rfl, of_decide_eq_true h⟩
  | _ => cases h
theorem strs_of {ks : List Str} : ∀ {fs : List PyData}, fs.all (oneD ks) = true → ∃ xs : List Str, fs = xs.map .str ∧ ∀ x ∈ xs, x ∈ ks
  | [], _ => ⟨[], rfl, fun _ h => nomatch h⟩
  | e :: fs, h => by
    rw [List.all_cons, Bool.and_eq_true] at h
    obtain ⟨x, rfl, hx⟩ := oneD_str h.1
    obtain ⟨xs, rfl, hxs⟩ := strs_of h.2
    exact ⟨x :: xs, rfl, fun y hy => (List.mem_cons.mp hy).elim (fun q => q ▸ hx) (hxs y)⟩
theorem conD_row {ks : List Str} {e : PyData} (h : conD ks e = true) : ∃ r, e = rowD r ∧ RowOk ks r := by
  by_cases h1 : ∃ ds, e = .tuple ds
  rotate_left
  · rw [conD_no h1] at h; cases h
  obtain ⟨ds, rfl⟩ := h1
  by_cases h3 : ds.length = 3
  rotate_left
  · rw [conD_len h3] at h; cases h
  match ds, h3 with
  | [a, b, c], _ => ?_
  by_cases hc : ∃ fs, c = .tuple fs
  rotate_left
  · rw [conD_2 hc] at h; cases h
  obtain ⟨fs, rfl⟩ := hc
  have h' : (isNameD a && oneD ks b && decide (fs.length ≤ 3) && fs.all (oneD ks)) = true := h
  rw [Bool.and_eq_true, Bool.and_eq_true, Bool.and_eq_true] at h'
  obtain ⟨⟨⟨ha, hb⟩, hl⟩, hf⟩ := h'
  obtain ⟨n, rfl, hn⟩ := nameD_str ha
  obtain ⟨k, rfl, hk⟩ := oneD_str hb
  obtain ⟨xs, rfl, hx⟩ := strs_of hf
  refine ⟨(n, k, xs), rfl, hn, hk, ?_, hx⟩
  have := of_decide_eq_true hl
  rwa [List.length_map] at this
theorem conD_of {ks : List Str} {r : Row} (h : RowOk ks r) : conD ks (rowD r) = true := by
  show (isNameL (tl r.1) && decide (r.2.1 ∈ ks) && decide ((r.2.2.map PyData.str).length ≤ 3) && (r.2.2.map PyData.str).all (oneD ks)) = true
  rw [Bool.and_eq_true, Bool.and_eq_true, Bool.and_eq_true]
  refine ⟨⟨⟨h.1, decide_eq_true h.2.1⟩, decide_eq_true (by rw [List.length_map]; exact h.2.2.1)⟩, ?_⟩
  rw [List.all_map, List.all_eq_true]
  exact fun x hx => decide_eq_true (h.2.2.2 x hx)
def OkC (ks : List Str) (rs : List Row) : Prop := (rs.map (·.1)).Nodup ∧ ∀ r ∈ rs, RowOk ks r
def COk (ks : List Str) (d : PyData) (rs : List Row) : Prop := d = .tuple (rs.map rowD) ∧ 1 ≤ rs.length ∧ rs.length ≤ 6 ∧ OkC ks rs
def CNo (d : PyData) : Prop := ∀ ds, d = .tuple ds → ¬ (1 ≤ ds.length ∧ ds.length ≤ 6)
def CBad (ks : List Str) (d : PyData) (i : Nat) : Prop := ∃ ds rs e, d = .tuple ds ∧ 1 ≤ ds.length ∧ ds.length ≤ 6 ∧ ds.take i = rs.map rowD ∧ OkC ks rs ∧ ds[i]? = some e ∧ (conD ks e = false ∨ ∃ r, e = rowD r ∧ RowOk ks r ∧ r.1 ∈ rs.map (·.1))
theorem OkC.snoc {ks : List Str} {rs : List Row} {r : Row} (h : OkC ks rs) (h1 : RowOk ks r) (h2 : r.1 ∉ rs.map (·.1)) : OkC ks (rs ++ [r]) := by
  refine ⟨?_, ?_⟩
  · rw [List.map_append, List.nodup_append]
    refine ⟨h.1, by simp, fun a ha b hb q => h2 ?_⟩
    have e : b = r.1 := List.mem_singleton.mp hb
    rw [← e, ← q]
    exact ha
  · intro k hk
    rcases List.mem_append.mp hk with z | z
    · exact h.2 k z
    · rw [List.mem_singleton.mp z]
      exact h1
theorem OkC.nil {ks : List Str} : OkC ks [] := ⟨List.nodup_nil, fun _ h => nomatch h⟩
theorem Dt.row {z : Addr} {H : Hp} {v : V} {r : Row} (h : Dt z H v (rowD r)) : ∃ a b, v = .ref a ∧ H a = some (.tup [.str r.1, .str r.2.1, .ref b]) ∧ H b = some (.tup (r.2.2.map V.str)) := by
  cases h with
  | @tup a xs _ e hall =>
    cases hall with
    | cons h0 hall =>
    cases hall with
    | cons h1 hall =>
    cases hall with
    | cons h2 hall =>
    cases hall
    cases h0
    cases h1
    cases h2 with
    | @tup b ys _ e2 hall2 =>
      have := hall2.ofStrs
      subst this
      exact ⟨a, b, rfl, e, e2⟩
def sp_check_constructors (K : PySem.W.Frag) (C : Addr) : Sp := fun vs H Q E => ∃ z p ks v d, vs = [.ref p, v] ∧ SqT K H p (ks.map V.str) ∧ Dt z H v d ∧ Sm2 d ∧ (∀ rs, COk ks d rs → ∀ H', Same H H' → Q .non H') ∧ (CNo d → Told E H C "index" .non) ∧ ∀ i : Nat, CBad ks d i → Told E H C "index" (.int i)
theorem ok_check_constructors (T : Txt K mg) {CC : Addr} (X_InvalidConstructors : ExAt K mg "InvalidConstructors" "index" CC) (F_is_constructor : HasO P w K mg base CX0 2 "is_constructor" ["kinds", "value"] (sp_is_constructor K))
    {f : Addr} {fd : FuncData} (F : Fun K "check_constructors" "check_constructors" s_check_constructors f fd) : FnOk P w K mg base (L2.CX P w) 3 f fd ["kinds", "value"] (sp_check_constructors K CC) := by
  refine okX F sc_check_constructors (fun vs H Q E h => ?_) (fun cdv A outer s H vs Q E hr tk px pc h => ?_)
  · obtain ⟨z, p, ks, v, d, rfl, _⟩ := h
    rfl
  · obtain ⟨z, pk, ks, v, d, rfl, hpk, hv, sm, qOk, qNo, qBad⟩ := h
    refine ⟨_, (pss_cons (ps_if (PW.pt (pw_or (pt_not (pt_val (pe_callB call_isi rfl T.b_isinstance bt_isinstance (pa_cons (pv 1) (pa_cons (pe_bltn (v := .ty "tuple") rfl T.b_tuple bt_tuple rfl) pa_nil))))) (pw_or1 (pt_not (pt_chain op_le op_le pe_int (pe_callB call_len_seq rfl T.b_len bt_len (pa_cons (pv 1) pa_nil)) (pe_const T.m_MOST_CONSTRUCTORS rfl)))))) (pss_one (ps_raise rfl tk (pmk1 X_InvalidConstructors hr (pa_cons pe_non pa_nil) rfl))) pss_nil)
    (pss_cons (ps_set (i := 2) sc_check_constructors.nd rfl (Or.inl rfl) (pe_lst pa_nil))
    (pss_one (ps_for px rfl (pi_enumT rfl T.b_enumerate (pa_cons (pv 1) pa_nil)) (pg_tup rfl (pgs_cons (pg_name (i := 3) sc_check_constructors.nd rfl (Or.inl rfl)) (pgs_cons (pg_name (i := 4) sc_check_constructors.nd rfl (Or.inl rfl)) pgs_nil))) (pss_cons (ps_if (PW.pt (pw_or (pt_not (pt_val (pe_o F_is_constructor (hr.mono (by decide)) pass0 rfl (pa_cons (pv 0) (pa_cons (pv 4) pa_nil))))) (pw_or1 (pt_cmpR op_in_seq (pe_ix ix_tup (pv 4) pe_int (fun _ _ => rfl)) (pv 2) rfl)))) (pss_one (ps_raise rfl tk (pmk1 X_InvalidConstructors hr (pa_cons (pv 3) pa_nil) rfl))) pss_nil)
    (pss_one (ps_expr (pe_bm PySem.F.plainAttrs_list PySem.F.slot_list_append PySem.F.type_list_append mt_append (pv 2) (pa_cons (pe_ix ix_tup (pv 4) pe_int (fun _ _ => rfl)) pa_nil))))))))), ?_⟩
    refine ⟨_, rfl, _, _, _, _, _, rfl, .ty _, .base hv.ty, kit_tup d, _, rfl, ?_⟩
    by_cases hd : ∃ ds, d = .tuple ds
    rotate_left
    · rw [isTupD_no hd]
      exact ⟨_, rfl, fun dd nd => qNo (fun ds e => absurd ⟨ds, e⟩ hd) dd _ (same_new nd) upd_same⟩
    obtain ⟨ds, rfl⟩ := hd
    cases hv with
    | @tup a xs _ e hall => ?_
    have sm' := sm ds rfl
    refine ⟨_, rfl, a, xs, rfl, .inr (.of e), _, _, rfl, rfl, _, rfl, ?_⟩
    by_cases h1 : 1 ≤ ds.length
    rotate_left
    · rw [decide_eq_false (show ¬ (1 : Int) ≤ (xs.length : Nat) by rw [hall.len]; omega)]
      exact ⟨_, rfl, _, rfl, fun dd nd => qNo (fun ds' e => by cases e; omega) dd _ (same_new nd) upd_same⟩
    rw [decide_eq_true (show (1 : Int) ≤ (xs.length : Nat) by rw [hall.len]; omega)]
    refine ⟨_, _, rfl, rfl, _, rfl, ?_⟩
    by_cases h4 : ds.length ≤ 6
    rotate_left
    · rw [decide_eq_false (show ¬ ((xs.length : Nat) : Int) ≤ 6 by rw [hall.len]; omega)]
      exact ⟨_, rfl, fun dd nd => qNo (fun ds' e => by cases e; omega) dd _ (same_new nd) upd_same⟩
    rw [decide_eq_true (show ((xs.length : Nat) : Int) ≤ 6 by rw [hall.len]; omega)]
    refine ⟨by show 0 ≤ sizeLine; decide, fun p np => ?_⟩
    refine ⟨_, rfl, a, xs, rfl, .of (same_new np _ _ e), ?_⟩
    refine for_it (walk_enumT (xs := xs)) (fun i σ H1 => ∃ (rs : List Row) (u v : Option V), σ = [some (.ref pk), some (.ref a), some (.ref p), u, v] ∧ ds.take i = rs.map rowD ∧ OkC ks rs ∧ Same H H1 ∧ H1 p = some (.lst ((rs.map (·.1)).map V.str)))
      ⟨[], _, _, rfl, rfl, .nil, same_new np, upd_same⟩ (fun i σ H1 _ h => by obtain ⟨rs, u, v, _, _, _, s1, _⟩ := h; exact .of (s1 _ _ e)) ?_ ?_
    · rintro i v σ H1 H2 hi ⟨rs, u, v, rfl, hk, ok, s1, hp⟩ ⟨t, y, x, rfl, nt, rfl, ey, hx⟩
      cases Option.some.inj ey
      obtain ⟨dd, ed, hdd⟩ := hall.get hx
      have s2 : Same H (upd H1 t (.tup [.int i, x])) := s1.trans (same_new nt)
      have hp2 : upd H1 t (.tup [.int i, x]) p = some (.lst ((rs.map (·.1)).map V.str)) := same_new nt _ _ hp
      refine ⟨t, _, rfl, .of upd_same, rfl, ?_⟩
      refine ⟨_, _, rfl, _, _, rfl, rfl, ?_⟩
      refine ⟨_, rfl, _, rfl, z, pk, ks, _, dd, rfl, same_tup s2 hpk, hdd.same s2, sm' dd (List.mem_of_getElem? ed), fun H3 s3 => ⟨_, rfl, ?_⟩⟩
      cases bn : conD ks dd with
      | false => exact ⟨_, rfl, _, rfl, fun d' nd => qBad i ⟨ds, rs, dd, rfl, h1, h4, hk, ok, ed, .inl bn⟩ d' _ ((s2.trans s3).trans (same_new nd)) upd_same⟩
      | true => ?_
      obtain ⟨r, rfl, hr'⟩ := conD_row bn
      obtain ⟨ra, rb, rfl, e1, e2⟩ := Dt.row (hdd.same (s2.trans s3))
      refine ⟨_, rfl, ra, _, _, _, rfl, rfl, .of e1, rfl, _, rfl, p, _, rfl, .inl (SqL.of (s3 _ _ hp2)), rfl, flat_strs _, _, rfl, ?_⟩
      by_cases hm : r.1 ∈ rs.map (·.1)
      · have e3 : inV (.str r.1) ((rs.map (·.1)).map V.str) = true := by rw [inV_strs]; exact decide_eq_true hm
        rw [show (if false = true then !inV (.str r.1) ((rs.map (·.1)).map V.str) else inV (.str r.1) ((rs.map (·.1)).map V.str)) = true from e3]
        exact ⟨_, rfl, _, rfl, fun d' nd => qBad i ⟨ds, rs, _, rfl, h1, h4, hk, ok, ed, .inr ⟨r, rfl, hr', hm⟩⟩ d' _ ((s2.trans s3).trans (same_new nd)) upd_same⟩
      · have e3 : inV (.str r.1) ((rs.map (·.1)).map V.str) = false := by rw [inV_strs]; exact decide_eq_false hm
        rw [show (if false = true then !inV (.str r.1) ((rs.map (·.1)).map V.str) else inV (.str r.1) ((rs.map (·.1)).map V.str)) = false from e3]
        refine ⟨_, rfl, .inl ⟨rfl, _, SqL.of (s3 _ _ hp2)⟩, _, rfl, ra, _, _, _, rfl, rfl, .of e1, rfl, p, _, _, rfl, rfl, s3 _ _ hp2, ?_, ?_⟩
        · rw [List.length_map, List.length_map]
          have : rs.length = (ds.take i).length := by rw [hk, List.length_map]
          rw [List.length_take] at this
          exact Nat.lt_of_le_of_lt (show rs.length ≤ 6 by omega) (by decide)
        · refine ⟨rs ++ [r], _, _, rfl, ?_, ok.snoc hr' hm, same_fresh (s2.trans s3) np, ?_⟩
          · rw [take_snoc ed, hk, List.map_append]
            rfl
          · rw [upd_same, List.map_append, List.map_append]
            rfl
    · rintro σ H1 ⟨rs, u, v, rfl, hk, ok, s1, hp⟩
      rw [hall.len, List.take_length] at hk
      have hl : ds.length = rs.length := by rw [hk, List.length_map]
      exact qOk rs ⟨by rw [hk], by omega, by omega, ok⟩ _ s1
end
end K5

namespace K5
open PySem L2 Ft
/-- a kind that has trees -/
inductive Der (rs : List Row) : Str → Prop
  | mk (r : Row) : r ∈ rs → (∀ f ∈ r.2.2, Der rs f) → Der rs r.2.1
def Closed (rs : List Row) (L : List Str) : Prop := ∀ r ∈ rs, (∀ f ∈ r.2.2, f ∈ L) → r.2.1 ∈ L
theorem Der.mem {rs : List Row} {L : List Str} (hc : Closed rs L) {x : Str} (h : Der rs x) : x ∈ L := by
  induction h with
  | mk r hr _ ih => exact hc r hr ih
/-- what is full so far -/
structure Full (rs : List Row) (L : List Str) : Prop where
  nd : L.Nodup
  sound : ∀ x ∈ L, Der rs x
  sub : ∀ x ∈ L, x ∈ rs.map (·.2.1)
theorem Full.nil {rs : List Row} : Full rs [] := ⟨List.nodup_nil, (fun _ h => nomatch h), (fun _ h => nomatch h)⟩
theorem Full.len {rs : List Row} {L : List Str} (h : Full rs L) : L.length ≤ rs.length := by
  have := nodup_le h.nd h.sub
  rwa [List.length_map] at this
theorem Full.snoc {rs : List Row} {L : List Str} {r : Row} (h : Full rs L) (hr : r ∈ rs) (h1 : r.2.1 ∉ L) (h2 : ∀ f ∈ r.2.2, f ∈ L) : Full rs (L ++ [r.2.1]) := by
  refine ⟨?_, ?_, ?_⟩
  · rw [List.nodup_append]
    refine ⟨h.nd, by simp, fun a ha b hb q => h1 ?_⟩
    rw [← List.mem_singleton.mp hb, ← q]
    exact ha
  · intro x hx
    rcases List.mem_append.mp hx with z | z
    · exact h.sound x z
    · rw [List.mem_singleton.mp z]
      exact .mk r hr fun f hf => h.sound f (h2 f hf)
  · intro x hx
    rcases List.mem_append.mp hx with z | z
    · exact h.sub x z
    · rw [List.mem_singleton.mp z]
      exact List.mem_map_of_mem hr
theorem mem_take {α : Type} {l : List α} {i : Nat} {a : α} (h : a ∈ l.take i) : a ∈ l := List.mem_of_mem_take h
theorem inV_no (x : Str) (L : List Str) : (if true = true then !inV (.str x) (L.map V.str) else inV (.str x) (L.map V.str)) = !decide (x ∈ L) := by
  rw [if_pos rfl, inV_strs]
theorem inV_yes (x : Str) (L : List Str) : (if false = true then !inV (.str x) (L.map V.str) else inV (.str x) (L.map V.str)) = decide (x ∈ L) := by
  rw [if_neg (by decide), inV_strs]
theorem all_dec {fs L : List Str} : (fs.map fun f => decide (f ∈ L)).all id = decide (∀ f ∈ fs, f ∈ L) := by
  rw [List.all_map, Bool.eq_iff_iff, List.all_eq_true, decide_eq_true_eq]
  exact ⟨fun h f hf => of_decide_eq_true (h f hf), fun h f hf => decide_eq_true (h f hf)⟩
section
variable {P : Program} {w : World} {K : PySem.W.Frag} {mg : Str → Option Value} {base : Heap}
/-- one turn over the constructors: L0 at its start, L now, g: has it grown -/
def Turn1 (rs : List Row) (L0 : List Str) (i : Nat) (L : List Str) (g : Bool) : Prop :=
  Full rs L ∧ (g = true → L0.length < L.length) ∧ (g = false → L = L0 ∧ ∀ r ∈ rs.take i, (∀ f ∈ r.2.2, f ∈ L) → r.2.1 ∈ L)
def sp_check_filled (K : PySem.W.Frag) (C : Addr) : Sp := fun vs H Q E => ∃ z p ks a rs, vs = [.ref p, .ref a] ∧ SqT K H p (ks.map V.str) ∧ Dt z H (.ref a) (.tuple (rs.map rowD)) ∧ rs.length ≤ 6 ∧ (∀ r ∈ rs, r.2.2.length ≤ 3) ∧
  ((∀ k ∈ ks, Der rs k) → ∀ H', Same H H' → Q .non H') ∧ ∀ pre k post, ks = pre ++ k :: post → (∀ x ∈ pre, Der rs x) → ¬ Der rs k → Told E H C "kind" (.str k)
theorem ok_check_filled (T : Txt K mg) {CE : Addr} (X_EmptyKind : ExAt K mg "EmptyKind" "kind" CE)
    {f : Addr} {fd : FuncData} (F : Fun K "check_filled" "check_filled" s_check_filled f fd) : FnOk P w K mg base (L2.CX P w) 2 f fd ["kinds", "constructors"] (sp_check_filled K CE) := by
  refine okX F sc_check_filled (fun vs H Q E h => ?_) (fun cdv A outer s H vs Q E hr tk px pc h => ?_)
  · obtain ⟨z, p, ks, a, rs, rfl, _⟩ := h
    rfl
  · obtain ⟨z, p, ks, a, rs, rfl, hp, hv, l6, l3, qOk, qBad⟩ := h
    refine ⟨_, (pss_cons (ps_set (i := 2) sc_check_filled.nd rfl (Or.inr rfl) (pe_lst pa_nil))
    (pss_cons (ps_set (i := 3) sc_check_filled.nd rfl (Or.inl rfl) pe_bl)
    (pss_cons (ps_while px (pt_val (pv 3)) (pss_cons (ps_set (i := 3) sc_check_filled.nd rfl (Or.inl rfl) pe_bl)
    (pss_one (ps_for px rfl (pi_tup (pv 1)) (pg_tup rfl (pgs_cons (pg_name (i := 4) sc_check_filled.nd rfl (Or.inl rfl)) (pgs_cons (pg_name (i := 5) sc_check_filled.nd rfl (Or.inl rfl)) (pgs_cons (pg_name (i := 6) sc_check_filled.nd rfl (Or.inl rfl)) pgs_nil)))) (pss_one (ps_if (PW.pt (pw_and (pt_cmpR op_notIn_seq (pv 5) (pv 2) rfl) (pw_and1 (pt_val (pe_callB (cr_all rfl) rfl T.b_all bt_all (pa_cons (pe_lc (own := [("field", 7)]) rfl sc_check_filled.nd (pi_tup (pv 6)) (blkOk_by (own := [("field", 7)]) (N := N_check_filled) (sc := defScope s_check_filled) (by decide +kernel)) (fun _ _ _ _ _ => (pg_name (i := 7) sc_check_filled.nd rfl (Or.inl rfl))) (fun _ _ _ _ _ => pts_nil) (fun _ _ _ _ _ => (pe_cmpR (opk_in_seq (K := K) rfl) (pv 7) (pv 2) rfl))) pa_nil)))))) (pss_cons (ps_expr (pe_bm PySem.F.plainAttrs_list PySem.F.slot_list_append PySem.F.type_list_append mt_append (pv 2) (pa_cons (pv 5) pa_nil)))
    (pss_one (ps_set (i := 3) sc_check_filled.nd rfl (Or.inl rfl) pe_bl))) pss_nil))))))
    (pss_one (ps_for px rfl (pi_tup (pv 0)) (pg_name (i := 5) sc_check_filled.nd rfl (Or.inl rfl)) (pss_one (ps_if (pt_cmpR op_notIn_seq (pv 5) (pv 2) rfl) (pss_one (ps_raise rfl tk (pmk1 X_EmptyKind hr (pa_cons (pv 5) pa_nil) rfl))) pss_nil))))))), ?_⟩
    cases hv with
    | @tup _ xs _ e hall => ?_
    refine ⟨by show 0 ≤ sizeLine; decide, fun l nl => ?_⟩
    refine ⟨fun m σ H1 => ∃ (L : List Str) (g : Bool) (u4 u5 u6 u7 : Option V), σ = [some (.ref p), some (.ref a), some (.ref l), some (.bl g), u4, u5, u6, u7] ∧ m = 2 * (6 - L.length) + (if g then 1 else 0) ∧ Full rs L ∧ (g = false → Closed rs L) ∧ Same H H1 ∧ H1 l = some (.lst (L.map V.str)),
      ⟨_, [], true, _, _, _, _, rfl, rfl, .nil, (fun q => nomatch q), same_new nl, upd_same⟩, ?_⟩
    rintro m σ H1 ⟨L0, g, u4, u5, u6, u7, rfl, rfl, fu, cl, s1, hl⟩
    refine ⟨_, rfl, _, rfl, ?_⟩
    cases g with
    | false =>
      -- all is full that may be
      have mem : ∀ x, x ∈ L0 ↔ Der rs x := fun x => ⟨fu.sound x, Der.mem (cl rfl)⟩
      refine ⟨_, rfl, p, rfl, ⟨_, same_tup s1 hp⟩, ?_⟩
      refine for_it (walk_tup (xs := ks.map V.str)) (fun i σ H2 => ∃ u5 : Option V, σ = [some (.ref p), some (.ref a), some (.ref l), some (.bl false), u4, u5, u6, u7] ∧ (∀ x ∈ ks.take i, x ∈ L0) ∧ H2 = H1) ⟨_, rfl, (fun x h => by simp at h), rfl⟩
        (fun i σ H2 _ h => by obtain ⟨_, _, _, rfl⟩ := h; exact same_tup s1 hp) ?_ ?_
      · rintro i v σ H2 H3 hi ⟨u5, rfl, hm, rfl⟩ ⟨rfl, hx⟩
        rw [List.getElem?_map] at hx
        obtain ⟨k, hk, rfl⟩ := Option.map_eq_some_iff.mp hx
        refine ⟨_, rfl, _, rfl, l, _, rfl, .inl (SqL.of hl), rfl, flat_strs L0, _, rfl, ?_⟩
        rw [inV_no]
        by_cases hkL : k ∈ L0
        · rw [decide_eq_true hkL]
          refine ⟨_, rfl, fun x hx => ?_, rfl⟩
          rw [take_snoc hk] at hx
          rcases List.mem_append.mp hx with z | z
          · exact hm x z
          · rw [List.mem_singleton.mp z]
            exact hkL
        · rw [decide_eq_false hkL]
          refine ⟨_, rfl, _, rfl, fun d' nd => qBad (ks.take i) k (ks.drop (i + 1)) ?_ (fun x hx => (mem x).mp (hm x hx)) (fun q => hkL ((mem k).mpr q)) d' _ (s1.trans (same_new nd)) upd_same⟩
          have hlt := (List.getElem?_eq_some_iff.mp hk)
          rw [← hlt.2, ← List.drop_eq_getElem_cons hlt.1, List.take_append_drop]
      · rintro σ H2 ⟨u5, rfl, hm, rfl⟩
        rw [List.length_map, List.take_length] at hm
        exact qOk (fun k hk => (mem k).mp (hm k hk)) _ s1
    | true => ?_
    refine ⟨fun σ H2 => ∃ (L : List Str) (g : Bool) (u4 u5 u6 u7 : Option V), σ = [some (.ref p), some (.ref a), some (.ref l), some (.bl g), u4, u5, u6, u7] ∧ Turn1 rs L0 rs.length L g ∧ Same H H2 ∧ H2 l = some (.lst (L.map V.str)), ?_, ?_⟩
    · rintro σ H2 ⟨L, g, v4, v5, v6, v7, rfl, ⟨t1, t2, t3⟩, s2, hl2⟩
      refine ⟨_, ?_, L, g, v4, v5, v6, v7, rfl, rfl, t1, ?_, s2, hl2⟩
      · have := t1.len
        have := fu.len
        cases g with
        | true =>
          have := t2 rfl
          simp only [if_true]
          omega
        | false =>
          rw [(t3 rfl).1]
          simp
      · intro hg r hr hf
        have := (t3 hg).2 r (by rw [List.take_length]; exact hr) hf
        exact this
    · refine ⟨_, rfl, a, rfl, ⟨_, .of (s1 _ _ e)⟩, ?_⟩
      refine for_it (walk_tup (xs := xs)) (fun i σ H2 => ∃ (L : List Str) (g : Bool) (u4 u5 u6 u7 : Option V), σ = [some (.ref p), some (.ref a), some (.ref l), some (.bl g), u4, u5, u6, u7] ∧ Turn1 rs L0 i L g ∧ Same H H2 ∧ H2 l = some (.lst (L.map V.str)))
        ⟨L0, false, _, _, _, _, rfl, ⟨fu, (fun q => nomatch q), fun _ => ⟨rfl, fun r hr => by simp at hr⟩⟩, s1, hl⟩ (fun i σ H2 _ h => by obtain ⟨_, _, _, _, _, _, _, _, s2, _⟩ := h; exact .of (s2 _ _ e)) ?_ ?_
      · rintro i v σ H2 H3 hi ⟨L, g, v4, v5, v6, v7, rfl, ⟨t1, t2, t3⟩, s2, hl2⟩ ⟨rfl, hx⟩
        obtain ⟨dd, ed, hdd⟩ := hall.get hx
        rw [List.getElem?_map] at ed
        obtain ⟨r, hri, rfl⟩ := Option.map_eq_some_iff.mp ed
        have hrm : r ∈ rs := List.mem_of_getElem? hri
        obtain ⟨ra, rb, rfl, e1, e2⟩ := Dt.row (hdd.same s2)
        refine ⟨ra, _, rfl, .of e1, rfl, ?_⟩
        refine ⟨_, _, rfl, _, _, rfl, _, _, rfl, rfl, ?_⟩
        refine ⟨_, rfl, _, rfl, l, _, rfl, .inl (SqL.of hl2), rfl, flat_strs L, _, rfl, ?_⟩
        rw [inV_no]
        have keep : ((∀ f ∈ r.2.2, f ∈ L) → r.2.1 ∈ L) → Turn1 rs L0 (i + 1) L g := fun hh => by
          refine ⟨t1, t2, fun hg => ⟨(t3 hg).1, fun r' hr' => ?_⟩⟩
          rw [take_snoc hri] at hr'
          rcases List.mem_append.mp hr' with z | z
          · exact (t3 hg).2 r' z
          · rw [List.mem_singleton.mp z]
            exact hh
        by_cases hkL : r.2.1 ∈ L
        · rw [decide_eq_true hkL]
          exact ⟨L, g, _, _, _, _, rfl, keep (fun _ => hkL), s2, hl2⟩
        rw [decide_eq_false hkL]
        refine ⟨_, rfl, rb, rfl, ⟨_, .of e2⟩, fun D nD => ?_⟩
        refine lc_it (walk_tup (xs := r.2.2.map V.str)) (Acc H3 D ((r.2.2.map fun f => decide (f ∈ L)).map V.bl)) (.zero nD) (fun i H2 _ hA => .of (hA.1 _ _ e2)) ?_ ?_
        · rintro j v H4 H5 hj hA ⟨rfl, hy⟩
          rw [List.getElem?_map] at hy
          obtain ⟨y, hyj, rfl⟩ := Option.map_eq_some_iff.mp hy
          refine ⟨rfl, ?_⟩
          refine ⟨_, rfl, _, rfl, l, _, rfl, .inl (SqL.of (hA.1 _ _ hl2)), rfl, flat_strs L, ?_⟩
          rw [inV_yes]
          refine hA.step (Same.refl _) nD (by rw [List.length_map, List.length_map]; have := l3 r hrm; omega) ?_
          rw [List.getElem?_map, List.getElem?_map, hyj]
          rfl
        · rintro H4 hA
          obtain ⟨s4, hD⟩ := hA.done (by rw [List.length_map, List.length_map, List.length_map])
          refine ⟨D, _, rfl, SqL.of hD, _, rfl, ?_⟩
          rw [all_dec]
          have s5 := s2.trans s4
          by_cases hf : ∀ f ∈ r.2.2, f ∈ L
          · rw [decide_eq_true hf]
            have t1' := t1.snoc hrm hkL hf
            refine ⟨_, rfl, .inl ⟨rfl, _, SqL.of (s4 _ _ hl2)⟩, _, rfl, l, _, _, rfl, rfl, s4 _ _ hl2, ?_, ?_⟩
            · rw [List.length_map]
              have := t1.len
              exact Nat.lt_of_le_of_lt (show L.length ≤ 6 by omega) (by decide)
            · refine ⟨L ++ [r.2.1], true, _, _, _, _, rfl, ⟨t1', fun _ => ?_, fun q => nomatch q⟩, ?_, ?_⟩
              · rw [List.length_append]
                cases g with
                | true => have := t2 rfl; simp only [List.length_singleton]; omega
                | false => rw [(t3 rfl).1]; simp
              · exact same_fresh s5 nl
              · rw [upd_same, List.map_append]
                rfl
          · rw [decide_eq_false hf]
            exact ⟨L, g, _, _, _, _, rfl, keep (fun q => absurd q hf), s5, s4 _ _ hl2⟩
      · rintro σ H2 ⟨L, g, v4, v5, v6, v7, rfl, t, s2, hl2⟩
        rw [hall.len, List.length_map] at t
        exact ⟨L, g, v4, v5, v6, v7, rfl, t, s2, hl2⟩
/-! ### a schema made -/
structure SchC (K : PySem.W.Frag) (C : Addr) : Prop where
  cl : Cls K C
  n1 : NoAttr K C "kinds"
  n2 : NoAttr K C "constructors"
  n3 : NoAttr K C "root"
  n4 : NoAttr K C "names"
theorem putF_len (f : Str) (v : V) : ∀ fs : List (Str × V), (putF f v fs).length ≤ fs.length + 1
  | [] => Nat.le_refl _
  | (g, x) :: r => by
    unfold putF
    split
    · simp
    · have := putF_len f v r
      simp only [List.length_cons]
      omega
theorem putF1 {f : Str} {v : V} {fs : List (Str × V)} {n : Nat} (h : fs.length ≤ n) : (putF f v fs).length ≤ n + 1 := Nat.le_trans (putF_len f v fs) (by omega)
/-- the attributes of a schema -/
def schF (k c r n : V) : List (Str × V) := putF "names" n (putF "root" r (putF "constructors" c (putF "kinds" k [])))
/-- all but the object at x is kept -/
def But (x : Addr) (H H' : Hp) : Prop := ∀ b o, b ≠ x → H b = some o → H' b = some o
def SchQ (H : Hp) (x C dx : Addr) (v v2 : V) (ks : List Str) (rs : List Row) (H' : Hp) : Prop :=
  ∃ t k0, But x H H' ∧ H' x = some (.ins C dx (schF v v2 (.str k0) (.ref t))) ∧ ks.head? = some k0 ∧ H' t = some (.tup ((rs.map (·.1)).map V.str))
def ToldX (E : XK) (H : Hp) (x C : Addr) (f : Str) (v : V) : Prop := ∀ dd H', But x H H' → H' dd = some (.xd [(f, v)]) → E (.ref C) (some dd) H'
def sp_Schema_init (C CK CC CE : Addr) : Sp := fun vs H Q E => ∃ z x dx v d v2 d2, vs = [.ref x, v, v2] ∧ H x = some (.ins C dx []) ∧ Dt z H v d ∧ Sm1 d ∧ Dt z H v2 d2 ∧ Sm2 d2 ∧
  (KNo d → ToldX E H x CK "index" .non) ∧ (∀ i : Nat, KBad d i → ToldX E H x CK "index" (.int i)) ∧
  ∀ ks, KOk d ks → (CNo d2 → ToldX E H x CC "index" .non) ∧ (∀ i : Nat, CBad ks d2 i → ToldX E H x CC "index" (.int i)) ∧
    ∀ rs, COk ks d2 rs → (∀ pre k post, ks = pre ++ k :: post → (∀ x ∈ pre, Der rs x) → ¬ Der rs k → ToldX E H x CE "kind" (.str k)) ∧
      ((∀ k ∈ ks, Der rs k) → ∀ H', SchQ H x C dx v v2 ks rs H' → Q .non H')
theorem Told.x {E : XK} {H : Hp} {x C : Addr} {f : Str} {v : V} (h : ToldX E H x C f v) : Told E H C f v := fun dd H' s q => h dd H' (fun b o _ e => s b o e) q
theorem Told.x2 {E : XK} {H H1 : Hp} {x C : Addr} {f : Str} {v : V} (h : ToldX E H x C f v) (s1 : Same H H1) : Told E H1 C f v := fun dd H' s q => h dd H' (fun b o _ e => s b o (s1 b o e)) q
theorem KOk.or {d : PyData} (z : ∀ ks, ¬ KOk d ks) : True := trivial
theorem ok_Schema_init (T : Txt K mg) {C CK CC CE : Addr} (S : SchC K C) (F_check_kinds : HasO P w K mg base (L2.CX P w) 2 "check_kinds" ["value"] (sp_check_kinds CK))
    (F_check_constructors : HasO P w K mg base (L2.CX P w) 3 "check_constructors" ["kinds", "value"] (sp_check_constructors K CC)) (F_check_filled : HasO P w K mg base (L2.CX P w) 2 "check_filled" ["kinds", "constructors"] (sp_check_filled K CE))
    {f : Addr} {fd : FuncData} (F : Fun K "__init__" "Schema.__init__" s_Schema___init__ f fd) : FnOk P w K mg base (L2.CX P w) 4 f fd ["self", "kinds", "constructors"] (sp_Schema_init C CK CC CE) := by
  refine okX F sc_Schema___init__ (fun vs H Q E h => ?_) (fun cdv A outer s H vs Q E hr tk px pc h => ?_)
  · obtain ⟨z, x, dx, v, d, v2, d2, rfl, _⟩ := h
    rfl
  · obtain ⟨z, x, dx, v, d, v2, d2, rfl, hx, hv, sm, hv2, sm2, qN, qB, qK⟩ := h
    refine ⟨_, (pss_cons (ps_expr (pe_o F_check_kinds (hr.mono (by decide)) pc rfl (pa_cons (pv 1) pa_nil)))
    (pss_cons (ps_expr (pe_o F_check_constructors (hr.mono (by decide)) pc rfl (pa_cons (pv 1) (pa_cons (pv 2) pa_nil))))
    (pss_cons (ps_expr (pe_o F_check_filled (hr.mono (by decide)) pc rfl (pa_cons (pv 1) (pa_cons (pv 2) pa_nil))))
    (pss_cons (ps_fld (pv 0) (pv 1) rfl)
    (pss_cons (ps_fld (pv 0) (pv 2) rfl)
    (pss_cons (ps_fld (pv 0) (pe_ix ix_tup (pv 1) pe_int (fun _ _ => rfl)) rfl)
    (pss_one (ps_fld (pv 0) (pe_callTy call_tuple_of rfl T.b_tuple bt_tuple (pa_cons (pe_lc (own := [("constructor", 3)]) rfl sc_Schema___init__.nd (pi_tup (pv 2)) (blkOk_by (own := [("constructor", 3)]) (N := N_Schema___init__) (sc := defScope s_Schema___init__) (by decide +kernel)) (fun _ _ _ _ _ => (pg_name (i := 3) sc_Schema___init__.nd rfl (Or.inl rfl))) (fun _ _ _ _ _ => pts_nil) (fun _ _ _ _ _ => (pe_ix (ixk_tup (K := K) rfl) (pv 3) pe_int (fun _ _ => rfl)))) pa_nil)) rfl)))))))), ?_⟩
    refine ⟨_, rfl, z, v, d, rfl, hv, sm, fun ks hk H1 s1 => ?_, fun q => Told.x (qN q), fun i q => Told.x (qB i q)⟩
    obtain ⟨qN2, qB2, qC⟩ := qK ks hk
    obtain ⟨rfl, k1, k4, okk⟩ := hk
    cases hv with
    | @tup p xs _ e hall => ?_
    have := hall.ofStrs
    subst this
    refine ⟨_, rfl, _, rfl, z, p, ks, v2, d2, rfl, .of (s1 _ _ e), hv2.same s1, sm2, fun rs hc H2 s2 => ?_, fun q => Told.x2 (qN2 q) s1, fun i q => Told.x2 (qB2 i q) s1⟩
    obtain ⟨qE, qF⟩ := qC rs hc
    obtain ⟨rfl, c1, c6, okc⟩ := hc
    cases hv2 with
    | @tup a ys _ e2 hall2 => ?_
    have s12 := s1.trans s2
    have da : Dt z H (.ref a) (.tuple (rs.map rowD)) := .tup e2 hall2
    refine ⟨_, rfl, _, rfl, z, p, ks, a, rs, rfl, .of (s12 _ _ e), da.same s12, c6, (fun r hr => (okc.2 r hr).2.2.1), fun hall3 H3 s3 => ?_, fun pre k post h1 h2 h3 => Told.x2 (qE pre k post h1 h2 h3) s12⟩
    have s13 := s12.trans s3
    obtain ⟨k0, ks', rfl⟩ : ∃ k0 ks', ks = k0 :: ks' := by
      cases ks with
      | nil => simp at k1
      | cons k0 ks' => exact ⟨k0, ks', rfl⟩
    have npx : p ≠ x := fun q => by rw [q, hx] at e; cases e
    have nax : a ≠ x := fun q => by rw [q, hx] at e2; cases e2
    refine ⟨_, rfl, _, rfl, x, C, dx, _, rfl, s13 _ _ hx, S.cl, S.n1, by decide, ?_⟩
    refine ⟨_, rfl, _, rfl, x, C, dx, _, rfl, upd_same, S.cl, S.n2, Nat.lt_of_le_of_lt (putF1 (n := 0) (by simp)) (by decide), ?_⟩
    refine ⟨_, rfl, p, (k0 :: ks').map V.str, 0, .str k0, rfl, rfl, .of ?_, atI_nat (j := 0) rfl, _, rfl, x, C, dx, _, rfl, upd_same, S.cl, S.n3, Nat.lt_of_le_of_lt (putF1 (putF1 (n := 0) (by simp))) (by decide), ?_⟩
    · rw [upd_ne npx, upd_ne npx]
      exact s13 _ _ e
    generalize hG : (upd (upd (upd H3 x _) x _) x _ : Hp) = G
    have bG : But x H G := fun b o nb hb => by
      rw [← hG, upd_ne nb, upd_ne nb, upd_ne nb]
      exact s13 _ _ hb
    have hxG : G x = some (.ins C dx (putF "root" (.str k0) (putF "constructors" (.ref a) (putF "kinds" (.ref p) [])))) := by
      rw [← hG, upd_same]
    refine ⟨_, rfl, a, rfl, ⟨_, .of (bG _ _ nax e2)⟩, fun D nD => ?_⟩
    refine lc_it (walk_tup (xs := ys)) (Acc G D ((rs.map (·.1)).map V.str)) (.zero nD) (fun i H2 _ hA => .of (hA.1 _ _ (bG _ _ nax e2))) ?_ ?_
    · rintro j v H4 H5 hj hA ⟨rfl, hy⟩
      obtain ⟨dd, ed, hdd⟩ := hall2.get hy
      rw [List.getElem?_map] at ed
      obtain ⟨r, hri, rfl⟩ := Option.map_eq_some_iff.mp ed
      obtain ⟨ra, rb, rfl, e3, e4⟩ := Dt.row hdd
      have nrx : ra ≠ x := fun q => by rw [q, hx] at e3; cases e3
      refine ⟨rfl, ?_⟩
      refine ⟨_, rfl, ra, _, _, _, rfl, rfl, .of (hA.1 _ _ (bG _ _ nrx e3)), rfl, ?_⟩
      refine hA.step (Same.refl _) nD (by rw [List.length_map, List.length_map]; omega) ?_
      rw [List.getElem?_map, List.getElem?_map, hri]
      rfl
    · rintro H4 hA
      obtain ⟨s4, hD⟩ := hA.done (by rw [List.length_map, List.length_map, hall2.len, List.length_map])
      refine ⟨D, _, rfl, .inl ⟨SqL.of hD, fun t nt => ?_⟩⟩
      have hx4 := same_new (o := .tup ((rs.map (·.1)).map V.str)) nt _ _ (s4 _ _ hxG)
      have ntx : t ≠ x := fun q => by rw [q, s4 _ _ hxG] at nt; cases nt
      refine ⟨_, rfl, x, C, dx, _, rfl, hx4, S.cl, S.n4, Nat.lt_of_le_of_lt (putF1 (putF1 (putF1 (n := 0) (by simp)))) (by decide), ?_⟩
      refine qF hall3 _ ⟨t, k0, fun b o nb hb => ?_, upd_same, rfl, ?_⟩
      · rw [upd_ne nb]
        exact same_new nt _ _ (s4 _ _ (bG _ _ nb hb))
      · rw [upd_ne ntx]
        exact upd_same
end
end K5

namespace K5
open PySem L2 Ft
section
variable {P : Program} {w : World} {K : PySem.W.Frag} {mg : Str → Option Value} {base : Heap}
def sp_law_words : Sp := fun vs H Q _ => ∃ (d : Addr) (n : Nat), vs = [.ref d, .int n] ∧ Deal H d ∧ n ≤ 100 ∧
  ∀ (p : Addr) (ts : List Str) H', ts.length = n → OkK ts → H p = none → p ≠ d → H' p = some (.lst (ts.map V.str)) → Mv d H H' → Deal H' d → Q (.ref p) H'
theorem ok_law_words (T : Txt K mg) (F_law_word : Has P w K mg base CX0 2 "_law_word" ["_law_deal_here", "_law_taken"] (sp_law_word K)) {f : Addr} {fd : FuncData} (F : Fun K "_law_words" "_law_words" s_law_words f fd) :
    FnG P w K mg base CX0 3 f fd ["_law_deal_here", "_law_many"] sp_law_words := by
  refine okG F sc_law_words (fun vs H Q E h => ?_) (fun cdv A outer s H vs Q E hg hr h => ?_)
  · obtain ⟨d, n, rfl, _⟩ := h
    rfl
  · obtain ⟨d, n, rfl, hd, hn, q⟩ := h
    refine ⟨_, (pss_cons (ps_set (i := 2) sc_law_words.nd rfl (Or.inl rfl) (pe_lst pa_nil))
    (pss_cons (ps_for PassesOwn.never rfl (pi_range1 rfl T.b_range (pa_cons (pv 1) pa_nil)) (pg_name (i := 3) sc_law_words.nd rfl (Or.inl rfl)) (pss_one (ps_expr (pe_bm PySem.F.plainAttrs_list PySem.F.slot_list_append PySem.F.type_list_append mt_append (pv 2) (pa_cons (pe_f F_law_word hg (hr.mono (by decide)) pass0 rfl (pa_cons (pv 0) (pa_cons (pv 2) pa_nil))) pa_nil)))))
    (pss_one (ps_ret (pv 2))))), ?_⟩
    refine ⟨by show 0 ≤ sizeLine; decide, fun p np => ?_⟩
    have npd := hd.ne np
    refine ⟨_, rfl, _, rfl, by omega, by omega, for_range (lo := 0) (n := n) (fun i σ H1 => ∃ (ts : List Str) (u : Option V), σ = [some (.ref d), some (.int n), some (.ref p), u] ∧ ts.length = i ∧ OkK ts ∧ H1 p = some (.lst (ts.map V.str)) ∧ Mv d H H1 ∧ Deal H1 d)
      ⟨[], _, rfl, rfl, .nil, upd_same, Mv.same (same_new np), hd.new np⟩ ?_ ?_⟩
    · rintro i σ H1 hi ⟨ts, u, rfl, hl, ok, hp, m1, d1⟩
      refine ⟨_, rfl, .inl ⟨rfl, _, SqL.of hp⟩, _, rfl, _, rfl, d, p, ts, rfl, d1, SqL.of hp, npd, by omega, fun x H2 hx hm m2 d2 => ?_⟩
      have hp2 := m2 _ _ npd hp
      refine ⟨p, _, _, rfl, rfl, hp2, ?_, ?_⟩
      · rw [List.length_map]
        exact Nat.lt_of_le_of_lt (show ts.length ≤ 100 by omega) (by decide)
      · refine ⟨ts ++ [x], _, rfl, by rw [List.length_append, hl]; rfl, ok.snoc hx hm, ?_, ?_, ?_⟩
        · rw [upd_same, List.map_append]
          rfl
        · exact (m1.trans m2).fresh np
        · exact d2.put npd
    · rintro σ H1 ⟨ts, u, rfl, hl, ok, hp, m1, d1⟩
      exact ⟨_, rfl, q p ts H1 (by omega) ok np npd hp m1 d1⟩
end
end K5

namespace K5
open PySem L2 Ft
/-- q0, q1, .. -/
def qk (k : Nat) : Str := ("q" : Str) ++ Str.ofString (toString ((k : Nat) : Int))
theorem tl_q : tl ("q" : Str) = [113] := by decide +kernel
theorem tl_qk (k : Nat) : tl (qk k) = 113 :: TL.numL k := by
  unfold qk
  rw [tl_app, tl_q]
  show [113] ++ TL.tl (Str.ofString (toString ((k : Nat) : Int))) = _
  rw [TL.tl_num]
  rfl
theorem qk_inj {j k : Nat} (h : qk j = qk k) : j = k := by
  have e : tl (qk j) = tl (qk k) := by rw [h]
  rw [tl_qk, tl_qk] at e
  exact TL.numL_inj (List.cons.inj e).2
theorem qk_name {k : Nat} (h : k < 10 ^ 6) : isName (qk k) := by
  have h2 := wk_name h
  unfold isName at h2 ⊢
  rw [tl_wk, isNameL_iff] at h2
  rw [tl_qk, isNameL_iff]
  refine ⟨h2.1, h2.2.1, (by show 113 ∈ smallL; decide), fun c hc => ?_⟩
  rcases List.mem_cons.mp hc with rfl | hc
  · decide
  · exact h2.2.2.2 c (List.mem_cons_of_mem _ hc)
theorem qk_nodup (n : Nat) : ((List.range n).map qk).Nodup := by
  unfold List.Nodup
  rw [List.pairwise_map]
  exact List.Pairwise.imp (fun h e => h (qk_inj e)) List.nodup_range
/-- one of ten is free of nine -/
theorem qk_free {ts : List Str} (h : ts.length ≤ 9) : ∃ x l, ((List.range 10).map qk).filter (fun x => decide (x ∉ ts)) = x :: l ∧ x ∉ ts ∧ isName x := by
  cases e : ((List.range 10).map qk).filter (fun x => decide (x ∉ ts)) with
  | nil =>
    have := nodup_le (qk_nodup 10) (m := ts) fun x hx => by
      by_cases hm : x ∈ ts
      · exact hm
      · have : x ∈ ((List.range 10).map qk).filter (fun x => decide (x ∉ ts)) := List.mem_filter.mpr ⟨hx, decide_eq_true hm⟩
        rw [e] at this
        cases this
    rw [List.length_map, List.length_range] at this
    omega
  | cons x l =>
    have hx : x ∈ ((List.range 10).map qk).filter (fun x => decide (x ∉ ts)) := by rw [e]; exact List.mem_cons_self
    obtain ⟨h1, h2⟩ := List.mem_filter.mp hx
    obtain ⟨k, hk, rfl⟩ := List.mem_map.mp h1
    have := List.mem_range.mp hk
    exact ⟨_, l, rfl, of_decide_eq_true h2, qk_name (by omega)⟩
section
variable {P : Program} {w : World} {K : PySem.W.Frag} {mg : Str → Option Value} {base : Heap}
def sp_law_fresh (K : PySem.W.Frag) : Sp := fun vs H Q _ => ∃ (t : Addr) (ts : List Str), vs = [.ref t] ∧ SqT K H t (ts.map V.str) ∧ ts.length ≤ 9 ∧ ∀ x H', x ∉ ts → isName x → Same H H' → Q (.str x) H'
theorem ok_law_fresh (T : Txt K mg) {f : Addr} {fd : FuncData} (F : Fun K "_law_fresh" "_law_fresh" s_law_fresh f fd) : FnG P w K mg base CX0 1 f fd ["_law_taken"] (sp_law_fresh K) := by
  refine okG F sc_law_fresh (fun vs H Q E h => ?_) (fun cdv A outer s H vs Q E hg hr h => ?_)
  · obtain ⟨t, ts, rfl, _⟩ := h
    rfl
  · obtain ⟨t, ts, rfl, ht, hl, q⟩ := h
    refine ⟨_, (pss_one (ps_ret (pe_ix ix_list (pe_lc (own := [("_law_word_here", 2)]) rfl sc_law_fresh.nd (pi_list (pe_lc (own := [("_law_k", 1)]) rfl sc_law_fresh.nd (pi_range1 rfl T.b_range (pa_cons pe_int pa_nil)) (blkOk_by (own := [("_law_k", 1)]) (N := N_law_fresh) (sc := defScope s_law_fresh) (by decide +kernel)) (fun _ _ _ _ _ => (pg_name (i := 1) sc_law_fresh.nd rfl (Or.inl rfl))) (fun _ _ _ _ _ => pts_nil) (fun _ _ _ _ _ => (pe_op op_add_str pe_str (pe_callTy call_str_int rfl T.b_str bt_str (pa_cons (pv 1) pa_nil)))))) (blkOk_by (own := [("_law_word_here", 2)]) (N := N_law_fresh) (sc := defScope s_law_fresh) (by decide +kernel)) (fun _ _ _ _ _ => (pg_name (i := 2) sc_law_fresh.nd rfl (Or.inl rfl))) (fun _ _ _ _ _ => (pts_one (pt_cmpR (opk_notIn_seq (K := K) rfl) (pv 2) (pv 0) rfl))) (fun _ _ _ _ _ => (pv 2))) pe_int (fun _ _ => rfl)))), ?_⟩
    refine ⟨_, rfl, by decide, by decide, fun D nD => ?_⟩
    refine lc_range (lo := 0) (n := 10) (Acc H D (((List.range 10).map qk).map V.str)) (.zero nD) ?_ ?_
    · rintro i H1 hi hA
      refine ⟨rfl, ?_⟩
      refine ⟨_, rfl, _, rfl, ?_, _, _, rfl, rfl, ?_, ?_⟩
      · have : (0 + (i : Int)).natAbs = i := by omega
        rw [this]
        exact Nat.lt_of_le_of_lt (Nat.log2_le_self i) (by omega)
      · rw [show (0 : Int) + (i : Int) = ((i : Nat) : Int) by omega, len_tl, len_tl, tl_q]
        show 1 + (TL.tl (Str.ofString (toString ((i : Nat) : Int)))).length ≤ sizeLine
        rw [TL.tl_num]
        have := TL.numL_len (n := i) (k := 4) (by decide) (by omega)
        exact Nat.le_trans (by omega : 1 + (TL.numL i).length ≤ 5) (by decide)
      · refine hA.step (Same.refl _) nD (by rw [List.length_map, List.length_map, List.length_range]; decide) ?_
        rw [show (0 : Int) + (i : Int) = ((i : Nat) : Int) by omega, List.getElem?_map, List.getElem?_map, List.getElem?_range hi]
        rfl
    · rintro H1 hA
      obtain ⟨s1, hD⟩ := hA.done (by rw [List.length_map, List.length_map, List.length_range])
      refine ⟨D, rfl, ⟨_, SqL.of hD⟩, fun D2 nD2 => ?_⟩
      refine lc_it (walk_list (xs := ((List.range 10).map qk).map V.str)) (fun i H2 => Same H1 H2 ∧ H2 D2 = some (.lst (((((List.range 10).map qk).take i).filter (fun x => decide (x ∉ ts))).map V.str))) ⟨same_new nD2, upd_same⟩ (fun i H2 _ h => SqL.of (h.1 _ _ hD)) ?_ ?_
      · rintro i v H2 H3 hi ⟨s2, h2⟩ ⟨rfl, hx⟩
        rw [List.getElem?_map] at hx
        obtain ⟨x, hxi, rfl⟩ := Option.map_eq_some_iff.mp hx
        refine ⟨rfl, ?_⟩
        refine ⟨_, rfl, _, rfl, t, _, rfl, .inr (same_tup (s1.trans s2) ht), rfl, flat_strs ts, _, rfl, ?_⟩
        rw [inV_no]
        by_cases hm : x ∈ ts
        · rw [decide_eq_true hm]
          refine ⟨s2, ?_⟩
          rw [take_snoc hxi, List.filter_append]
          have : [x].filter (fun x => decide (x ∉ ts)) = [] := by simp [hm]
          rw [this, List.append_nil]
          exact h2
        · rw [decide_eq_false hm]
          refine ⟨_, rfl, _, h2, ?_, same_fresh s2 nD2, ?_⟩
          · rw [List.length_map]
            refine Nat.lt_of_le_of_lt (Nat.le_trans (List.length_filter_le _ _) (Nat.le_trans (List.length_take_le' _ _) ?_)) (show 10 < sizeLine by decide)
            rw [List.length_map, List.length_range]
            exact Nat.le_refl _
          · rw [upd_same, take_snoc hxi, List.filter_append]
            have : [x].filter (fun x => decide (x ∉ ts)) = [x] := by simp [hm]
            rw [this, List.map_append]
            rfl
      · rintro H2 ⟨s2, h2⟩
        rw [List.length_map, List.length_map, List.length_range, List.take_of_length_le (by rw [List.length_map, List.length_range]; exact Nat.le_refl _)] at h2
        obtain ⟨x, l, e, hx, nx⟩ := qk_free hl
        rw [e] at h2
        exact ⟨D2, _, _, _, rfl, rfl, SqL.of h2, atI_nat (j := 0) rfl, q x _ hx nx (s1.trans s2)⟩
end
end K5

namespace K5
open PySem L2 Ft
theorem eqv_nil (l : List Str) : PyData.eqv (.list (l.map .str)) (.list []) = decide (l = []) := by
  cases l with
  | nil => rfl
  | cons a l => rw [List.map_cons, PyData.eqv, PyData.eqvAll]; simp
theorem closed_all {rs : List Row} {ks L : List Str} (h : Full rs L) (hk : ∀ r ∈ rs, r.2.1 ∈ ks) (hl : ks.length ≤ L.length) : Closed rs L := by
  intro r hr _
  by_cases hm : r.2.1 ∈ L
  · exact hm
  · have hs : ∀ x ∈ r.2.1 :: L, x ∈ ks := fun x hx => by
      rcases List.mem_cons.mp hx with rfl | z
      · exact hk r hr
      · obtain ⟨r', hr', e⟩ := List.mem_map.mp (h.sub x z)
        rw [← e]
        exact hk r' hr'
    have := nodup_le (List.nodup_cons.mpr ⟨hm, h.nd⟩) hs
    rw [List.length_cons] at this
    omega
theorem round_on {rs : List Row} {L0 L : List Str} {g : Bool} {i : Nat} (h0 : Full rs L0) (h : i ≤ L0.length ∨ Closed rs L0) (t : Turn1 rs L0 rs.length L g) : i + 1 ≤ L.length ∨ Closed rs L := by
  obtain ⟨t1, t2, t3⟩ := t
  cases g with
  | true =>
    have h1 := t2 rfl
    rcases h with h | h
    · exact .inl (by omega)
    · have := nodup_le t1.nd (fun x hx => Der.mem h (t1.sound x hx))
      omega
  | false =>
    obtain ⟨e, hc⟩ := t3 rfl
    refine .inr fun r hr hf => hc r (by rw [List.take_length]; exact hr) hf
/-- the first kind without trees -/
theorem first_not {ks L : List Str} {k : Str} {l : List Str} (h : ks.filter (fun x => decide (x ∉ L)) = k :: l) : ∃ pre post, ks = pre ++ k :: post ∧ (∀ x ∈ pre, x ∈ L) ∧ k ∉ L := by
  induction ks with
  | nil => cases h
  | cons a ks ih =>
    by_cases hm : a ∈ L
    · rw [List.filter_cons_of_neg (by simp [hm])] at h
      obtain ⟨pre, post, e, h1, h2⟩ := ih h
      refine ⟨a :: pre, post, by rw [e]; rfl, fun x hx => ?_, h2⟩
      rcases List.mem_cons.mp hx with rfl | z
      · exact hm
      · exact h1 x z
    · rw [List.filter_cons_of_pos (by simp [hm])] at h
      cases h
      exact ⟨[], ks, rfl, (fun x hx => nomatch hx), hm⟩
section
variable {P : Program} {w : World} {K : PySem.W.Frag} {mg : Str → Option Value} {base : Heap}
def sp_law_empty (K : PySem.W.Frag) : Sp := fun vs H Q _ => ∃ z p ks a rs, vs = [.ref p, .ref a] ∧ SqT K H p (ks.map V.str) ∧ Dt z H (.ref a) (.tuple (rs.map rowD)) ∧ ks.length ≤ 100 ∧ rs.length ≤ 6 ∧ (∀ r ∈ rs, r.2.2.length ≤ 3) ∧ (∀ k ∈ ks, isName k) ∧ (∀ r ∈ rs, r.2.1 ∈ ks) ∧
  ((∀ k ∈ ks, Der rs k) → ∀ H', Same H H' → Q (.str "") H') ∧ ∀ pre k post, ks = pre ++ k :: post → (∀ x ∈ pre, Der rs x) → ¬ Der rs k → ∀ H', Same H H' → Q (.str k) H'
theorem ok_law_empty (T : Txt K mg) {f : Addr} {fd : FuncData} (F : Fun K "_law_empty" "_law_empty" s_law_empty f fd) : FnG P w K mg base CX0 1 f fd ["_law_kinds", "_law_rows"] (sp_law_empty K) := by
  refine okG F sc_law_empty (fun vs H Q E h => ?_) (fun cdv A outer s H vs Q E hg hr h => ?_)
  · obtain ⟨z, p, ks, a, rs, rfl, _⟩ := h
    rfl
  · obtain ⟨z, p, ks, a, rs, rfl, hp, hv, lk, l6, l3, nm, sub, qOk, qBad⟩ := h
    have hu64 := hr.units
    refine ⟨_, (pss_cons (ps_set (i := 2) sc_law_empty.nd rfl (Or.inr rfl) (pe_lst pa_nil))
    (pss_cons (ps_for PassesOwn.never rfl (pi_range1 rfl T.b_range (pa_cons (pe_callB call_len_seq rfl T.b_len bt_len (pa_cons (pv 0) pa_nil)) pa_nil)) (pg_name (i := 3) sc_law_empty.nd rfl (Or.inl rfl)) (pss_one (ps_for PassesOwn.never rfl (pi_tup (pv 1)) (pg_name (i := 4) sc_law_empty.nd rfl (Or.inl rfl)) (pss_one (ps_if (PW.pt (pw_and (pt_cmpR op_notIn_seq (pe_ix ix_tup (pv 4) pe_int (fun _ _ => rfl)) (pv 2) rfl) (pw_and1 (pt_val (pe_callB (cr_all rfl) rfl T.b_all bt_all (pa_cons (pe_lc (own := [("_law_field", 6)]) rfl sc_law_empty.nd (pi_tup (pe_ix ix_tup (pv 4) pe_int (fun _ _ => rfl))) (blkOk_by (own := [("_law_field", 6)]) (N := N_law_empty) (sc := defScope s_law_empty) (by decide +kernel)) (fun _ _ _ _ _ => (pg_name (i := 6) sc_law_empty.nd rfl (Or.inl rfl))) (fun _ _ _ _ _ => pts_nil) (fun _ _ _ _ _ => (pe_cmpR (opk_in_seq (K := K) rfl) (pv 6) (pv 2) rfl))) pa_nil)))))) (pss_one (ps_expr (pe_bm PySem.F.plainAttrs_list PySem.F.slot_list_append PySem.F.type_list_append mt_append (pv 2) (pa_cons (pe_ix ix_tup (pv 4) pe_int (fun _ _ => rfl)) pa_nil)))) pss_nil)))))
    (pss_cons (ps_setLc (i := 5) (own := [("_law_kind", 7)]) rfl sc_law_empty.nd rfl rfl (sw_true rfl rfl rfl (by decide +kernel)) (pi_tup (pv 0)) (blkOk_by (own := [("_law_kind", 7)]) (N := N_law_empty) (sc := defScope s_law_empty) (by decide +kernel)) (fun _ _ _ _ _ => (pg_name (i := 7) sc_law_empty.nd rfl (Or.inl rfl))) (fun _ _ _ _ _ => (pts_one (pt_cmpR (opk_notIn_seq (K := K) rfl) (pv 7) (pv 2) rfl))) (fun _ _ _ _ _ => (pv 7)))
    (pss_one (ps_ret (pe_ifExp (pt_cmpR (op_neD hu64) (pv 5) (pe_lst pa_nil) (nomark _)) (pe_ix ix_list (pv 5) pe_int (fun _ _ => rfl)) pe_str)))))), ?_⟩
    cases hv with
    | @tup _ xs _ e hall => ?_
    refine ⟨by show 0 ≤ sizeLine; decide, fun l nl => ?_⟩
    have hp0 : SqT K (upd H l (.lst [])) p (ks.map V.str) := same_tup (same_new nl) hp
    refine ⟨_, rfl, p, _, rfl, .inr hp0, _, rfl, by omega, by rw [List.length_map]; omega, ?_⟩
    refine for_range (lo := 0) (n := _) (fun i σ H1 => ∃ (L : List Str) (u3 u4 u5 u6 u7 : Option V), σ = [some (.ref p), some (.ref a), some (.ref l), u3, u4, u5, u6, u7] ∧ Full rs L ∧ (i ≤ L.length ∨ Closed rs L) ∧ Same H H1 ∧ H1 l = some (.lst (L.map V.str)))
      ⟨[], _, _, _, _, _, rfl, .nil, .inl (Nat.zero_le _), same_new nl, upd_same⟩ ?_ ?_
    · rintro i σ H1 hi ⟨L0, u3, u4, u5, u6, u7, rfl, fu, cl, s1, hl⟩
      refine ⟨_, rfl, a, rfl, ⟨_, .of (s1 _ _ e)⟩, ?_⟩
      refine for_it (walk_tup (xs := xs)) (fun j σ H2 => ∃ (L : List Str) (g : Bool) (u4 u5 u6 u7 : Option V), σ = [some (.ref p), some (.ref a), some (.ref l), some (.int (0 + (i : Int))), u4, u5, u6, u7] ∧ Turn1 rs L0 j L g ∧ Same H H2 ∧ H2 l = some (.lst (L.map V.str)))
        ⟨L0, false, _, _, _, _, rfl, ⟨fu, (fun q => nomatch q), fun _ => ⟨rfl, fun r hr => by simp at hr⟩⟩, s1, hl⟩ (fun i σ H2 _ h => by obtain ⟨_, _, _, _, _, _, _, _, s2, _⟩ := h; exact .of (s2 _ _ e)) ?_ ?_
      · rintro j v σ H2 H3 hj ⟨L, g, v4, v5, v6, v7, rfl, ⟨t1, t2, t3⟩, s2, hl2⟩ ⟨rfl, hx⟩
        obtain ⟨dd, ed, hdd⟩ := hall.get hx
        rw [List.getElem?_map] at ed
        obtain ⟨r, hri, rfl⟩ := Option.map_eq_some_iff.mp ed
        have hrm : r ∈ rs := List.mem_of_getElem? hri
        obtain ⟨ra, rb, rfl, e1, e2⟩ := Dt.row (hdd.same s2)
        refine ⟨_, rfl, ra, _, _, _, rfl, rfl, .of e1, rfl, _, rfl, l, _, rfl, .inl (SqL.of hl2), rfl, flat_strs L, _, rfl, ?_⟩
        rw [inV_no]
        have keep : ((∀ f ∈ r.2.2, f ∈ L) → r.2.1 ∈ L) → Turn1 rs L0 (j + 1) L g := fun hh => by
          refine ⟨t1, t2, fun hg => ⟨(t3 hg).1, fun r' hr' => ?_⟩⟩
          rw [take_snoc hri] at hr'
          rcases List.mem_append.mp hr' with z | z
          · exact (t3 hg).2 r' z
          · rw [List.mem_singleton.mp z]
            exact hh
        by_cases hkL : r.2.1 ∈ L
        · rw [decide_eq_true hkL]
          exact ⟨L, g, _, _, _, _, rfl, keep (fun _ => hkL), s2, hl2⟩
        rw [decide_eq_false hkL]
        refine ⟨_, rfl, ra, _, _, _, rfl, rfl, .of e1, rfl, rb, rfl, ⟨_, .of e2⟩, fun D nD => ?_⟩
        refine lc_it (walk_tup (xs := r.2.2.map V.str)) (Acc H3 D ((r.2.2.map fun f => decide (f ∈ L)).map V.bl)) (.zero nD) (fun i H2 _ hA => .of (hA.1 _ _ e2)) ?_ ?_
        · rintro j v H4 H5 hj hA ⟨rfl, hy⟩
          rw [List.getElem?_map] at hy
          obtain ⟨y, hyj, rfl⟩ := Option.map_eq_some_iff.mp hy
          refine ⟨rfl, ?_⟩
          refine ⟨_, rfl, _, rfl, l, _, rfl, .inl (SqL.of (hA.1 _ _ hl2)), rfl, flat_strs L, ?_⟩
          rw [inV_yes]
          refine hA.step (Same.refl _) nD (by rw [List.length_map, List.length_map]; have := l3 r hrm; omega) ?_
          rw [List.getElem?_map, List.getElem?_map, hyj]
          rfl
        · rintro H4 hA
          obtain ⟨s4, hD⟩ := hA.done (by rw [List.length_map, List.length_map, List.length_map])
          refine ⟨D, _, rfl, SqL.of hD, _, rfl, ?_⟩
          rw [all_dec]
          have s5 := s2.trans s4
          by_cases hf : ∀ f ∈ r.2.2, f ∈ L
          · rw [decide_eq_true hf]
            have t1' := t1.snoc hrm hkL hf
            refine ⟨_, rfl, .inl ⟨rfl, _, SqL.of (s4 _ _ hl2)⟩, _, rfl, ra, _, _, _, rfl, rfl, .of (s4 _ _ e1), rfl, l, _, _, rfl, rfl, s4 _ _ hl2, ?_, ?_⟩
            · rw [List.length_map]
              have := t1.len
              exact Nat.lt_of_le_of_lt (show L.length ≤ 6 by omega) (by decide)
            · refine ⟨L ++ [r.2.1], true, _, _, _, _, rfl, ⟨t1', fun _ => ?_, fun q => nomatch q⟩, ?_, ?_⟩
              · rw [List.length_append]
                cases g with
                | true => have := t2 rfl; simp only [List.length_singleton]; omega
                | false => rw [(t3 rfl).1]; simp
              · exact same_fresh s5 nl
              · rw [upd_same, List.map_append]
                rfl
          · rw [decide_eq_false hf]
            exact ⟨L, g, _, _, _, _, rfl, keep (fun q => absurd q hf), s5, s4 _ _ hl2⟩
      · rintro σ H2 ⟨L, g, v4, v5, v6, v7, rfl, t, s2, hl2⟩
        rw [hall.len, List.length_map] at t
        exact ⟨L, _, _, _, _, _, rfl, t.1, round_on fu cl t, s2, hl2⟩
    · rintro σ H1 ⟨L, u3, u4, u5, u6, u7, rfl, fu, cl, s1, hl⟩
      have cl' : Closed rs L := by
        rcases cl with c | c
        · refine closed_all fu sub ?_
          rw [List.length_map] at c
          omega
        · exact c
      have mem : ∀ x, x ∈ L ↔ Der rs x := fun x => ⟨fu.sound x, Der.mem cl'⟩
      refine ⟨_, rfl, p, rfl, ⟨_, same_tup s1 hp⟩, fun D nD => ?_⟩
      refine lc_it (walk_tup (xs := ks.map V.str)) (fun i H2 => Same H1 H2 ∧ H2 D = some (.lst (((ks.take i).filter (fun x => decide (x ∉ L))).map V.str))) ⟨same_new nD, upd_same⟩ (fun i H2 _ h => same_tup (s1.trans h.1) hp) ?_ ?_
      · rintro i v H2 H3 hi ⟨s2, h2⟩ ⟨rfl, hx⟩
        rw [List.getElem?_map] at hx
        obtain ⟨x, hxi, rfl⟩ := Option.map_eq_some_iff.mp hx
        refine ⟨rfl, ?_⟩
        refine ⟨_, rfl, _, rfl, l, _, rfl, .inl (SqL.of (s2 _ _ hl)), rfl, flat_strs L, _, rfl, ?_⟩
        rw [inV_no]
        by_cases hm : x ∈ L
        · rw [decide_eq_true hm]
          refine ⟨s2, ?_⟩
          rw [take_snoc hxi, List.filter_append]
          have : [x].filter (fun x => decide (x ∉ L)) = [] := by simp [hm]
          rw [this, List.append_nil]
          exact h2
        · rw [decide_eq_false hm]
          refine ⟨_, rfl, _, h2, ?_, same_fresh s2 nD, ?_⟩
          · rw [List.length_map]
            exact Nat.lt_of_le_of_lt (Nat.le_trans (List.length_filter_le _ _) (Nat.le_trans (List.length_take_le' _ _) lk)) (show 100 < sizeLine by decide)
          · rw [upd_same, take_snoc hxi, List.filter_append]
            have : [x].filter (fun x => decide (x ∉ L)) = [x] := by simp [hm]
            rw [this, List.map_append]
            rfl
      · rintro H2 ⟨s2, h2⟩
        rw [List.length_map, List.take_length] at h2
        have s12 := s1.trans s2
        refine ⟨_, rfl, by show 0 ≤ sizeLine; decide, fun p2 np2 => ?_⟩
        have h2' := same_new (o := .lst []) np2 _ _ h2
        have okl : ∀ d ∈ (ks.filter (fun x => decide (x ∉ L))).map PyData.str, Okd 0 d := fun d hd => by
          obtain ⟨x, hx, rfl⟩ := List.mem_map.mp hd
          exact .str (ok_name (nm x (List.mem_filter.mp hx).1))
        refine ⟨_, _, .lst (SqL.of h2') (DtAll.strs (z := 0) (H := upd H2 p2 (.lst [])) _).dp, .lst (SqL.of upd_same) .nil, (Okd.list okl).shaped, (Okd.list (n := 0) (ds := []) (fun d hd => nomatch hd)).shaped, _, rfl, ?_⟩
        rw [eqv_nil]
        cases hf : ks.filter (fun x => decide (x ∉ L)) with
        | nil =>
          refine qOk (fun k hk => ?_) _ (s12.trans (same_new np2))
          by_cases hm : k ∈ L
          · exact (mem k).mp hm
          · have : k ∈ ks.filter (fun x => decide (x ∉ L)) := List.mem_filter.mpr ⟨hk, decide_eq_true hm⟩
            rw [hf] at this
            cases this
        | cons k l' =>
          rw [hf] at h2'
          obtain ⟨pre, post, e0, hpre, hk⟩ := first_not hf
          exact ⟨_, rfl, D, _, _, _, rfl, rfl, SqL.of h2', atI_nat (j := 0) rfl, qBad pre k post e0 (fun x hx => (mem x).mp (hpre x hx)) (fun q => hk ((mem k).mpr q)) _ (s12.trans (same_new np2))⟩
end
end K5

namespace K5
open PySem L2 Ft
theorem five_at {r : Int} (h0 : 0 ≤ r) (h1 : r < 5) : ∃ n : Nat, atI [V.int 0, V.int 1, V.int 1, V.int 2, V.int 3] r = some (.int n) ∧ n ≤ 3 := by
  obtain ⟨v, hv, av⟩ := at_lt (xs := [V.int 0, V.int 1, V.int 1, V.int 2, V.int 3]) h0 h1
  simp only [List.mem_cons, List.not_mem_nil, or_false] at hv
  rcases hv with rfl | rfl | rfl | rfl | rfl
  · exact ⟨0, av, by decide⟩
  · exact ⟨1, av, by decide⟩
  · exact ⟨1, av, by decide⟩
  · exact ⟨2, av, by decide⟩
  · exact ⟨3, av, by decide⟩
theorem at_str {ks : List Str} {r : Int} (h0 : 0 ≤ r) (h1 : r < ks.length) : ∃ k, k ∈ ks ∧ atI (ks.map V.str) r = some (.str k) := by
  obtain ⟨v, hv, av⟩ := at_lt (xs := ks.map V.str) h0 (by rw [List.length_map]; exact h1)
  obtain ⟨k, hk, rfl⟩ := List.mem_map.mp hv
  exact ⟨k, hk, av⟩
theorem at_strN {ks : List Str} {r : Int} {j : Nat} {k : Str} (hr : r = j) (h : ks[j]? = some k) : atI (ks.map V.str) r = some (.str k) := by
  refine at_of hr ?_
  rw [List.getElem?_map, h]
  rfl
/-- rows are tuples of texts and such tuples: only the tuples matter -/
theorem rows_move {z : Addr} {H H' : Hp} (ht : ∀ a xs, H a = some (.tup xs) → H' a = some (.tup xs)) : ∀ {rs : List Row} {ws : List V}, DtAll z H ws (rs.map rowD) → DtAll z H' ws (rs.map rowD)
  | [], _, h => by cases h; exact .nil
  | r :: rs, _, h => by
    cases h with
    | cons h1 h2 =>
      obtain ⟨a, b, rfl, e1, e2⟩ := Dt.row h1
      exact .cons (.tup (ht _ _ e1) (.cons (.str _) (.cons (.str _) (.cons (.tup (ht _ _ e2) (DtAll.strs _)) .nil)))) (rows_move ht h2)
section
variable {P : Program} {w : World} {K : PySem.W.Frag} {mg : Str → Option Value} {base : Heap}
def sp_law_drawn : Sp := fun vs H Q _ => ∃ d : Addr, vs = [.ref d] ∧ Deal H d ∧ ∀ (p pk pr : Addr) (ks : List Str) (rs : List Row) H', H' p = some (.tup [.ref pk, .ref pr]) → H' pk = some (.tup (ks.map V.str)) →
  Dt d H' (.ref pr) (.tuple (rs.map rowD)) → 1 ≤ ks.length → ks.length ≤ 4 → OkK ks → 1 ≤ rs.length → rs.length ≤ 6 → OkC ks rs → Mv d H H' → Deal H' d → Q (.ref p) H'
theorem ok_law_drawn (T : Txt K mg) (F_law_pick : Has P w K mg base CX0 1 "_law_pick" ["_law_deal_here", "_law_many"] sp_law_pick) (F_law_words : Has P w K mg base CX0 3 "_law_words" ["_law_deal_here", "_law_many"] sp_law_words)
    {f : Addr} {fd : FuncData} (F : Fun K "_law_drawn" "_law_drawn" s_law_drawn f fd) : FnG P w K mg base CX0 4 f fd ["_law_deal_here"] sp_law_drawn := by
  refine okG F sc_law_drawn (fun vs H Q E h => ?_) (fun cdv A outer s H vs Q E hg hr h => ?_)
  · obtain ⟨d, rfl, _⟩ := h
    rfl
  · obtain ⟨d, rfl, hd, q⟩ := h
    refine ⟨_, (pss_cons (ps_set (i := 1) sc_law_drawn.nd rfl (Or.inl rfl) (pe_f F_law_words hg (hr.mono (by decide)) pass0 rfl (pa_cons (pv 0) (pa_cons pe_int pa_nil))))
    (pss_cons (ps_asg (pe_tup (pa_cons (pe_op op_add pe_int (pe_f F_law_pick hg (hr.mono (by decide)) pass0 rfl (pa_cons (pv 0) (pa_cons pe_int pa_nil)))) (pa_cons (pe_op op_add pe_int (pe_f F_law_pick hg (hr.mono (by decide)) pass0 rfl (pa_cons (pv 0) (pa_cons pe_int pa_nil)))) pa_nil))) (pg_tup rfl (pgs_cons (pg_name (i := 2) sc_law_drawn.nd rfl (Or.inr rfl)) (pgs_cons (pg_name (i := 3) sc_law_drawn.nd rfl (Or.inl rfl)) pgs_nil))))
    (pss_cons (ps_asg (pe_tup (pa_cons (pe_callTy call_tuple_of rfl T.b_tuple bt_tuple (pa_cons (pe_slice sl_list (pv 1) po_none (po_some (pv 2))) pa_nil)) (pa_cons (pe_lst pa_nil) pa_nil))) (pg_tup rfl (pgs_cons (pg_name (i := 4) sc_law_drawn.nd rfl (Or.inr rfl)) (pgs_cons (pg_name (i := 5) sc_law_drawn.nd rfl (Or.inl rfl)) pgs_nil))))
    (pss_cons (ps_for PassesOwn.never rfl (pi_range1 rfl T.b_range (pa_cons (pv 3) pa_nil)) (pg_name (i := 6) sc_law_drawn.nd rfl (Or.inl rfl)) (pss_cons (ps_set (i := 7) sc_law_drawn.nd rfl (Or.inl rfl) (pe_callTy call_tuple_of rfl T.b_tuple bt_tuple (pa_cons (pe_lc (own := [("_law_turn", 8)]) rfl sc_law_drawn.nd (pi_range1 rfl T.b_range (pa_cons (pe_ix ix_list (pe_lst (pa_cons pe_int (pa_cons pe_int (pa_cons pe_int (pa_cons pe_int (pa_cons pe_int pa_nil)))))) (pe_f F_law_pick hg (hr.mono (by decide)) pass0 rfl (pa_cons (pv 0) (pa_cons pe_int pa_nil))) (fun _ _ => rfl)) pa_nil)) (blkOk_by (own := [("_law_turn", 8)]) (N := N_law_drawn) (sc := defScope s_law_drawn) (by decide +kernel)) (fun _ _ _ _ _ => (pg_name (i := 8) sc_law_drawn.nd rfl (Or.inl rfl))) (fun _ _ _ _ _ => pts_nil) (fun _ _ _ _ _ => (pe_ix (ixk_tup (K := K) rfl) (pv 4) (pe_f F_law_pick hg (hr.mono (by decide)) pass0 rfl (pa_cons (pv 0) (pa_cons (pv 2) pa_nil))) (fun _ _ => rfl)))) pa_nil)))
    (pss_one (ps_expr (pe_bm PySem.F.plainAttrs_list PySem.F.slot_list_append PySem.F.type_list_append mt_append (pv 5) (pa_cons (pe_tup (pa_cons (pe_ix ix_list (pv 1) (pe_op op_add pe_int (pv 6)) (fun _ _ => rfl)) (pa_cons (pe_ix ix_tup (pv 4) (pe_f F_law_pick hg (hr.mono (by decide)) pass0 rfl (pa_cons (pv 0) (pa_cons (pv 2) pa_nil))) (fun _ _ => rfl)) (pa_cons (pv 7) pa_nil)))) pa_nil))))))
    (pss_one (ps_ret (pe_tup (pa_cons (pv 4) (pa_cons (pe_callTy call_tuple_of rfl T.b_tuple bt_tuple (pa_cons (pv 5) pa_nil)) pa_nil))))))))), ?_⟩
    refine ⟨_, rfl, d, 10, rfl, hd, by decide, fun pw ts H1 hts okt npw pwd hpw m1 d1 => ?_⟩
    refine ⟨_, rfl, d, 4, rfl, d1, by decide, by decide, fun r1 H2 r10 r14 m2 d2 => ⟨_, _, rfl, rfl, ?_⟩⟩
    refine ⟨_, rfl, d, 6, rfl, d2, by decide, by decide, fun r2 H3 r20 r26 m3 d3 => ⟨_, _, rfl, rfl, ?_⟩⟩
    refine ⟨by show 2 ≤ sizeLine; decide, fun p3 np3 => ?_⟩
    obtain ⟨n, hn⟩ : ∃ n : Nat, 1 + r1 = (n : Int) := ⟨(1 + r1).toNat, by omega⟩
    obtain ⟨c, hc⟩ : ∃ c : Nat, 1 + r2 = (c : Int) := ⟨(1 + r2).toNat, by omega⟩
    have n1 : 1 ≤ n ∧ n ≤ 4 := by omega
    have c1 : 1 ≤ c ∧ c ≤ 6 := by omega
    refine ⟨p3, [.int n, .int c], rfl, .of (by rw [← hn, ← hc]; exact upd_same), rfl, _, _, rfl, _, _, rfl, rfl, ?_⟩
    have hpw3 : H3 pw = some (.lst (ts.map V.str)) := (m2.trans m3) _ _ pwd hpw
    let ks := ts.take n
    have lks : ks.length = n := by rw [List.length_take]; omega
    have okk : OkK ks := ⟨List.Nodup.sublist (List.take_sublist _ _) okt.1, fun k hk => okt.2 k (List.mem_of_mem_take hk)⟩
    refine ⟨_, rfl, _, rfl, _, rfl, pw, _, rfl, SqL.of (same_new np3 _ _ hpw3), fun p5 np5 => ?_⟩
    refine ⟨p5, ks.map V.str, rfl, .inl ⟨SqL.of (by rw [upd_same, cut_take, ← List.map_take]), fun pk npk => ?_⟩⟩
    refine ⟨by show 0 ≤ sizeLine; decide, fun pr npr => ?_⟩
    refine ⟨by show 2 ≤ sizeLine; decide, fun p6 np6 => ?_⟩
    refine ⟨p6, _, rfl, .of upd_same, rfl, _, _, rfl, _, _, rfl, rfl, ?_⟩
    generalize hG6 : (upd (upd (upd (upd (upd H3 p3 _) p5 _) pk _) pr _) p6 _ : Hp) = H6
    have s36 : Same H3 H6 := by
      rw [← hG6]
      exact ((((same_new np3).trans (same_new np5)).trans (same_new npk)).trans (same_new npr)).trans (same_new np6)
    have hpk6 : H6 pk = some (.tup (ks.map V.str)) := by
      rw [← hG6]
      exact same_new np6 _ _ (same_new npr _ _ upd_same)
    have hpr6 : H6 pr = some (.lst []) := by
      rw [← hG6]
      exact same_new np6 _ _ upd_same
    have d6 : Deal H6 d := d3.same s36
    have hpw6 : H6 pw = some (.lst (ts.map V.str)) := s36 _ _ hpw3
    have m6 : Mv d H H6 := (m1.trans (m2.trans m3)).trans (Mv.same s36)
    have nprd : pr ≠ d := fun z => by
      obtain ⟨_, _, _, ed, _⟩ := d6
      rw [← z, hpr6] at ed
      cases ed
    have nprw : pr ≠ pw := fun z => by
      rw [z, hpw6] at hpr6
      have h2 := Option.some.inj hpr6
      injection h2 with h3
      cases ts with
      | nil => simp at hts
      | cons a l => cases h3
    have nprk : pk ≠ pr := fun z => by rw [z, hpr6] at hpk6; cases hpk6
    have npk' : pk ≠ d := fun z => by
      obtain ⟨_, _, _, ed, _⟩ := d6
      rw [← z, hpk6] at ed
      cases ed
    -- pr was not known at the start
    have nHpr : H pr = none := by
      refine Mv.free (m1.trans (m2.trans m3)) nprd ?_
      cases ce : H3 pr with
      | none => rfl
      | some o => exact absurd ((same_new npk _ _ (same_new np5 _ _ (same_new np3 _ _ ce))).symm.trans npr) (by intro z; cases z)
    refine ⟨_, rfl, _, rfl, by omega, by omega, ?_⟩
    refine for_range (lo := 0) (n := c) (fun i σ H7 => ∃ (rs : List Row) (ws : List V) (u6 u7 u8 : Option V), σ = [some (.ref d), some (.ref pw), some (.int n), some (.int c), some (.ref pk), some (.ref pr), u6, u7, u8] ∧ rs.length = i ∧ rs.map (·.1) = (ts.drop 4).take i ∧ (∀ r ∈ rs, RowOk ks r) ∧
        H7 pr = some (.lst ws) ∧ DtAll d H7 ws (rs.map rowD) ∧ H7 pw = some (.lst (ts.map V.str)) ∧ H7 pk = some (.tup (ks.map V.str)) ∧ Mv d H H7 ∧ Deal H7 d)
      ⟨[], [], _, _, _, rfl, rfl, rfl, (fun _ h => nomatch h), hpr6, .nil, hpw6, hpk6, m6, d6⟩ ?_ ?_
    · rintro i σ H7 hi ⟨rs, ws, u6, u7, u8, rfl, lrs, nrs, okr, hpr7, dall, hpw7, hpk7, m7, d7⟩
      refine ⟨by show 5 ≤ sizeLine; decide, fun p8 np8 => ?_⟩
      have np8d := d7.ne np8
      refine ⟨_, rfl, d, 5, rfl, d7.new np8, by decide, by decide, fun r H8 r0 r5 m8 d8 => ?_⟩
      have hp8 := m8 _ _ np8d (upd_same (H := H7))
      obtain ⟨fn, afn, lfn⟩ := five_at r0 r5
      refine ⟨p8, _, _, _, rfl, rfl, SqL.of hp8, afn, _, rfl, by omega, by omega, fun D nD => ?_⟩
      have m78 : Mv d H7 H8 := (Mv.same (same_new np8)).trans m8
      have nDd : D ≠ d := d8.ne nD
      have hD7 : H7 D = none := m78.free nDd nD
      have nDr : D ≠ pr := fun z => by rw [z, hpr7] at hD7; cases hD7
      refine lc_range (lo := 0) (n := _) (fun j H9 => ∃ fs : List Str, fs.length = j ∧ (∀ f ∈ fs, f ∈ ks) ∧ H9 D = some (.lst (fs.map V.str)) ∧ Mv d H7 H9 ∧ Deal H9 d) ⟨[], rfl, (fun _ h => nomatch h), upd_same, m78.new nD, d8.new nD⟩ ?_ ?_
      · rintro j H9 hj ⟨fs, lfs, sfs, hD, m9, d9⟩
        refine ⟨rfl, ?_⟩
        refine ⟨_, rfl, _, rfl, _, rfl, d, n, rfl, d9, by omega, by omega, fun r' H10 r'0 r'n m10 d10 => ?_⟩
        obtain ⟨k, hk, ak⟩ := at_str (ks := ks) r'0 (by rw [lks]; exact r'n)
        have hpk10 := (m9.trans m10) _ _ npk' hpk7
        refine ⟨pk, _, _, _, rfl, rfl, .of hpk10, ak, _, m10 _ _ nDd hD, ?_, ?_⟩
        · rw [List.length_map]
          exact Nat.lt_of_le_of_lt (show fs.length ≤ 3 by omega) (by decide)
        · refine ⟨fs ++ [k], by rw [List.length_append, lfs]; rfl, ?_, ?_, (m9.trans m10).fresh hD7, d10.put nDd⟩
          · intro f hf
            rcases List.mem_append.mp hf with z | z
            · exact sfs f z
            · rw [List.mem_singleton.mp z]
              exact hk
          · rw [upd_same, List.map_append]
            rfl
      · rintro H9 ⟨fs, lfs, sfs, hD, m9, d9⟩
        refine ⟨D, _, rfl, .inl ⟨SqL.of hD, fun pf npf => ?_⟩⟩
        have npfd := d9.ne npf
        have m9' : Mv d H7 (upd H9 pf (.tup (fs.map V.str))) := m9.new npf
        have hpr9 := m9' _ _ nprd hpr7
        have hpw9 := m9' _ _ pwd hpw7
        refine ⟨_, rfl, .inl ⟨rfl, _, SqL.of hpr9⟩, ?_⟩
        obtain ⟨wn, hwn⟩ : ∃ wn, ts[4 + i]? = some wn := ⟨_, List.getElem?_eq_getElem (by omega)⟩
        have hwt : wn ∈ ts := List.mem_of_getElem? hwn
        refine ⟨_, rfl, _, rfl, _, _, rfl, rfl, pw, _, _, _, rfl, rfl, SqL.of hpw9, at_strN (j := 4 + i) (by omega) hwn, ?_⟩
        refine ⟨_, rfl, _, rfl, _, rfl, d, n, rfl, d9.new npf, by omega, by omega, fun r' H10 r'0 r'n m10 d10 => ?_⟩
        obtain ⟨k, hk, ak⟩ := at_str (ks := ks) r'0 (by rw [lks]; exact r'n)
        have m10' := m9'.trans m10
        refine ⟨pk, _, _, _, rfl, rfl, .of (m10' _ _ npk' hpk7), ak, _, rfl, by show 3 ≤ sizeLine; decide, fun pt npt => ?_⟩
        have hpr10 := m10' _ _ nprd hpr7
        have hpf10 : H10 pf = some (.tup (fs.map V.str)) := m10 _ _ npfd upd_same
        have hpr11 := same_new (o := .tup [.str wn, .str k, .ref pf]) npt _ _ hpr10
        have nptr : pt ≠ pr := fun z => by rw [z, hpr10] at npt; cases npt
        refine ⟨pr, _, _, rfl, rfl, hpr11, ?_, ?_⟩
        · have := dall.len
          rw [List.length_map] at this
          exact Nat.lt_of_le_of_lt (show ws.length ≤ 6 by omega) (by decide)
        · let H11 := upd (upd H10 pt (.tup [.str wn, .str k, .ref pf])) pr (.lst (ws ++ [.ref pt]))
          have tups : ∀ a xs, H10 a = some (.tup xs) → H11 a = some (.tup xs) := fun a xs h => by
            have na : a ≠ pr := fun z => by rw [z, hpr10] at h; cases h
            show upd (upd H10 pt _) pr _ a = _
            rw [upd_ne na]
            exact same_new npt _ _ h
          have hpt : H11 pt = some (.tup [.str wn, .str k, .ref pf]) := by
            show upd (upd H10 pt _) pr _ pt = _
            rw [upd_ne nptr]
            exact upd_same
          refine ⟨rs ++ [(wn, k, fs)], ws ++ [.ref pt], _, _, _, rfl, by rw [List.length_append, lrs]; rfl, ?_, ?_, upd_same, ?_, ?_, tups _ _ (m10' _ _ npk' hpk7), ?_, (d10.new npt).put nprd⟩
          · rw [List.map_append, nrs]
            have : (ts.drop 4)[i]? = some wn := by rw [List.getElem?_drop]; exact hwn
            rw [take_snoc this]
            rfl
          · intro r hr
            rcases List.mem_append.mp hr with z | z
            · exact okr r z
            · rw [List.mem_singleton.mp z]
              exact ⟨okt.2 wn hwt, hk, by show fs.length ≤ 3; omega, sfs⟩
          · rw [List.map_append]
            refine DtAll.app ?_ (.cons (.tup hpt (.cons (.str _) (.cons (.str _) (.cons (.tup (tups _ _ hpf10) (DtAll.strs fs)) .nil)))) .nil)
            -- the older rows are tuples of texts
            exact rows_move tups (dall.mv d7.notup m10')
          · show upd (upd H10 pt _) pr _ pw = _
            rw [upd_ne nprw.symm]
            exact same_new npt _ _ (m10' _ _ pwd hpw7)
          · exact ((m7.trans m10').new npt).fresh nHpr
    · rintro σ H7 ⟨rs, ws, u6, u7, u8, rfl, lrs, nrs, okr, hpr7, dall, hpw7, hpk7, m7, d7⟩
      refine ⟨_, rfl, _, rfl, pr, ws, rfl, .inl ⟨SqL.of hpr7, fun pt npt => ?_⟩⟩
      refine ⟨by show 2 ≤ sizeLine; decide, fun p npp => ?_⟩
      have s8 : Same H7 (upd (upd H7 pt (.tup ws)) p (.tup [.ref pk, .ref pt])) := (same_new npt).trans (same_new npp)
      refine q p pk pt ks rs _ upd_same (s8 _ _ hpk7) (.tup (same_new npp _ _ upd_same) (dall.same s8)) (by omega) (by omega) okk (by omega) (by omega) ⟨?_, okr⟩ (m7.trans (Mv.same s8)) (d7.same s8)
      rw [nrs]
      exact List.Nodup.sublist (List.Sublist.trans (List.take_sublist _ _) (List.drop_sublist _ _)) okt.1
end
end K5

namespace K5
open PySem L2 Ft
/-- the classes that the sorting def asks for -/
structure Kits (K : PySem.W.Frag) (CE CC : Addr) : Prop where
  ee : PySem.W.kitOne K (.ref CE) (.ref CE) = some true
  ce : PySem.W.kitOne K (.ref CC) (.ref CE) = some false
  cc : PySem.W.kitOne K (.ref CC) (.ref CC) = some true
section
variable {P : Program} {w : World} {K : PySem.W.Frag} {mg : Str → Option Value} {base : Heap}
def sp_law_sort (CE CC : Addr) : Addr → Value → Option Addr → Sp := fun a cls d vs H Q _ => vs = [.ref a] ∧ ∃ dd, d = some dd ∧
  ((cls = .ref CE ∧ ∃ k, isName k ∧ H dd = some (.xd [("kind", .str k)]) ∧ ∀ p, H p = none → Q (.ref p) (upd H p (.lst [.str "EmptyKind", .str (reprText k)]))) ∨
   (cls = .ref CC ∧ ∃ i : Nat, i ≤ 1000 ∧ H dd = some (.xd [("index", .int i)]) ∧ ∀ p, H p = none → Q (.ref p) (upd H p (.lst [.str "InvalidConstructors", .str (toString (i : Int))]))))
theorem hot_law_sort (T : Txt K mg) {CE CC : Addr} (X_EmptyKind : ExAt K mg "EmptyKind" "kind" CE) (X_InvalidConstructors : ExAt K mg "InvalidConstructors" "index" CC) (kt : Kits K CE CC)
    {f : Addr} {fd : FuncData} (F : Fun K "_law_sort" "_law_sort" s_law_sort f fd) : FnHot P w K mg base 1 f fd ["_law_e"] (sp_law_sort CE CC) := by
  refine fnHot F sc_law_sort (fun a cls d vs H Q E h => ?_) (fun cdv A outer s H vs Q p cls d hg hr hz hf h => ?_)
  · obtain ⟨rfl, _⟩ := h
    rfl
  · obtain ⟨rfl, dd, rfl, h | h⟩ := h
    · obtain ⟨rfl, k, hk, hd, q⟩ := h
      refine ⟨_, pss_cons (ps_if (pt_val (pe_callB (call_isX X_EmptyKind List.mem_cons_self hz hf) rfl T.b_isinstance bt_isinstance (pa_cons (pv 0) (pa_cons (pe_glob (v := .ref CE) rfl X_EmptyKind.gC rfl) pa_nil))))
        (pss_one (ps_ret (pe_lst (pa_cons pe_str (pa_cons (pe_callB call_repr_str rfl T.b_repr bt_repr (pa_cons (pe_xf1 X_EmptyKind List.mem_cons_self hz hf (pv 0)) pa_nil)) pa_nil))))) pss_nil) pss_never, ?_⟩
      refine ⟨_, rfl, _, _, _, _, rfl, .own CE, kt.ee, hd, _, rfl, ?_⟩
      refine ⟨_, rfl, rfl, _, _, hd, rfl, _, rfl, repr_name hk, by show 2 ≤ sizeLine; decide, q⟩
    · obtain ⟨rfl, i, hi, hd, q⟩ := h
      refine ⟨_, pss_cons (ps_if (pt_val (pe_callB (call_isX X_InvalidConstructors List.mem_cons_self hz hf) rfl T.b_isinstance bt_isinstance (pa_cons (pv 0) (pa_cons (pe_glob (v := .ref CE) rfl X_EmptyKind.gC rfl) pa_nil)))) pss_never pss_nil)
        (pss_cons (ps_if (pt_val (pe_callB (call_isX X_InvalidConstructors List.mem_cons_self hz hf) rfl T.b_isinstance bt_isinstance (pa_cons (pv 0) (pa_cons (pe_glob (v := .ref CC) rfl X_InvalidConstructors.gC rfl) pa_nil))))
        (pss_one (ps_ret (pe_lst (pa_cons pe_str (pa_cons (pe_callB SkE.call_repr_int rfl T.b_repr bt_repr (pa_cons (pe_xf1 X_InvalidConstructors List.mem_cons_self hz hf (pv 0)) pa_nil)) pa_nil))))) pss_nil) pss_never), ?_⟩
      refine ⟨_, rfl, _, _, _, _, rfl, .own CE, kt.ce, hd, _, rfl, ?_⟩
      refine ⟨_, rfl, _, _, _, _, rfl, .own CC, kt.cc, hd, _, rfl, ?_⟩
      refine ⟨_, rfl, rfl, _, _, hd, rfl, _, rfl, ?_, by show 2 ≤ sizeLine; decide, q⟩
      show (i : Int).natAbs.log2 < 1920
      rw [Int.natAbs_natCast]
      exact Nat.lt_of_le_of_lt (Nat.log2_le_self i) (by omega)
end
end K5

/-! What is right is not wrong, and what goes wrong goes wrong first at one place. -/
namespace K5
open PySem L2 Ft
theorem map_inj {α β : Type} {f : α → β} (hf : ∀ a b, f a = f b → a = b) : ∀ {l m : List α}, l.map f = m.map f → l = m
  | [], [], _ => rfl
  | [], _ :: _, h => by cases h
  | _ :: _, [], h => by cases h
  | a :: l, b :: m, h => by
    rw [List.map_cons, List.map_cons] at h
    injection h with h1 h2
    rw [hf a b h1, map_inj hf h2]
theorem str_inj (a b : Str) (h : PyData.str a = PyData.str b) : a = b := by
  injection h
theorem rowD_inj (r r' : Row) (h : rowD r = rowD r') : r = r' := by
  obtain ⟨n, k, fs⟩ := r
  obtain ⟨n', k', fs'⟩ := r'
  unfold rowD at h
  injection h with h
  injection h with h1 h
  injection h with h2 h
  injection h with h3 h
  injection h1 with h1
  injection h2 with h2
  injection h3 with h3
  have e1 : n = n' := h1
  have e2 : k = k' := h2
  have e3 : fs = fs' := map_inj str_inj h3
  rw [e1, e2, e3]
theorem take_map {α : Type} {f : α → PyData} {ds : List PyData} {xs : List α} {i j : Nat} (h : ds.take j = xs.map f) (hij : i ≤ j) : ds.take i = (xs.take i).map f := by
  rw [List.map_take, ← h, List.take_take, Nat.min_eq_left hij]
theorem get_map {α : Type} {f : α → PyData} {ds : List PyData} {xs : List α} {i j : Nat} {e : PyData} (h : ds.take j = xs.map f) (hij : i < j) (he : ds[i]? = some e) : ∃ x, xs[i]? = some x ∧ e = f x := by
  have h1 : (ds.take j)[i]? = some e := by rw [List.getElem?_take, if_pos hij]; exact he
  rw [h, List.getElem?_map] at h1
  obtain ⟨x, hx, rfl⟩ := Option.map_eq_some_iff.mp h1
  exact ⟨x, hx, rfl⟩
theorem nodup_at {α : Type} : ∀ {l : List α} {i : Nat} {a : α}, l.Nodup → l[i]? = some a → a ∉ l.take i
  | [], i, a, _, h => by simp at h
  | b :: l, 0, a, _, _ => by simp
  | b :: l, i + 1, a, hn, h => by
    have hn' := List.nodup_cons.mp hn
    have h' : l[i]? = some a := h
    rw [List.take_succ_cons]
    intro hm
    rcases List.mem_cons.mp hm with rfl | z
    · exact hn'.1 (List.mem_of_getElem? h')
    · exact nodup_at hn'.2 h' z
theorem notBadK {ds : List PyData} {ks : List Str} {i j : Nat} (h : ds.take j = ks.map .str) (ok : OkK ks) (hij : i < j) : ¬ KBad (.tuple ds) i := by
  rintro ⟨ds', ks', e, hd, _, _, hk, ok', he, hbad⟩
  cases hd
  obtain ⟨x, hx, rfl⟩ := get_map h hij he
  have e2 : ks' = ks.take i := map_inj str_inj (hk.symm.trans (take_map h (Nat.le_of_lt hij)))
  rcases hbad with hb | ⟨y, ey, hy⟩
  · have : isNameD (.str x) = true := ok.2 x (List.mem_of_getElem? hx)
    rw [hb] at this
    cases this
  · cases ey
    rw [e2] at hy
    exact nodup_at ok.1 hx hy
theorem notBadC {ks : List Str} {ds : List PyData} {rs : List Row} {i j : Nat} (h : ds.take j = rs.map rowD) (ok : OkC ks rs) (hij : i < j) : ¬ CBad ks (.tuple ds) i := by
  rintro ⟨ds', rs', e, hd, _, _, hk, ok', he, hbad⟩
  cases hd
  obtain ⟨r, hr, rfl⟩ := get_map h hij he
  have e2 : rs' = rs.take i := map_inj rowD_inj (hk.symm.trans (take_map h (Nat.le_of_lt hij)))
  rcases hbad with hb | ⟨r', er, _, hy⟩
  · rw [conD_of (ok.2 r (List.mem_of_getElem? hr))] at hb
    cases hb
  · cases rowD_inj _ _ er
    rw [e2, List.map_take] at hy
    exact nodup_at ok.1 (by rw [List.getElem?_map, hr]; rfl) hy
theorem KBad.one {d : PyData} {i j : Nat} (h1 : KBad d i) (h2 : KBad d j) : i = j := by
  obtain ⟨ds, ks, e, rfl, a1, a2, a3, a4, a5, a6⟩ := h1
  obtain ⟨ds', ks', e', hd, b1, b2, b3, b4, b5, b6⟩ := h2
  cases hd
  rcases Nat.lt_trichotomy i j with z | z | z
  · exact absurd ⟨ds, ks, e, rfl, a1, a2, a3, a4, a5, a6⟩ (notBadK b3 b4 z)
  · exact z
  · exact absurd ⟨ds, ks', e', rfl, b1, b2, b3, b4, b5, b6⟩ (notBadK a3 a4 z)
theorem CBad.one {ks : List Str} {d : PyData} {i j : Nat} (h1 : CBad ks d i) (h2 : CBad ks d j) : i = j := by
  obtain ⟨ds, rs, e, rfl, a1, a2, a3, a4, a5, a6⟩ := h1
  obtain ⟨ds', rs', e', hd, b1, b2, b3, b4, b5, b6⟩ := h2
  cases hd
  rcases Nat.lt_trichotomy i j with z | z | z
  · exact absurd ⟨ds, rs, e, rfl, a1, a2, a3, a4, a5, a6⟩ (notBadC b3 b4 z)
  · exact z
  · exact absurd ⟨ds, rs', e', rfl, b1, b2, b3, b4, b5, b6⟩ (notBadC a3 a4 z)
theorem KBad.lt {d : PyData} {i : Nat} {ds : List PyData} (h : KBad d i) (hd : d = .tuple ds) : i < ds.length := by
  obtain ⟨ds', ks, e, hd', _, _, _, _, he, _⟩ := h
  rw [hd] at hd'
  cases hd'
  exact (List.getElem?_eq_some_iff.mp he).1
theorem CBad.lt {ks : List Str} {d : PyData} {i : Nat} {ds : List PyData} (h : CBad ks d i) (hd : d = .tuple ds) : i < ds.length := by
  obtain ⟨ds', rs, e, hd', _, _, _, _, he, _⟩ := h
  rw [hd] at hd'
  cases hd'
  exact (List.getElem?_eq_some_iff.mp he).1
theorem KOk.no {d : PyData} {ks : List Str} (h : KOk d ks) : ¬ KNo d := by
  intro hn
  obtain ⟨rfl, h1, h2, _⟩ := h
  exact hn _ rfl ⟨by rw [List.length_map]; exact h1, by rw [List.length_map]; exact h2⟩
theorem KOk.bad {d : PyData} {ks : List Str} {i : Nat} (h : KOk d ks) : ¬ KBad d i := by
  intro hb
  obtain ⟨rfl, h1, h2, ok⟩ := h
  exact notBadK (j := (ks.map PyData.str).length) (by rw [List.take_length]) ok (hb.lt rfl) hb
theorem COk.no {ks : List Str} {d : PyData} {rs : List Row} (h : COk ks d rs) : ¬ CNo d := by
  intro hn
  obtain ⟨rfl, h1, h2, _⟩ := h
  exact hn _ rfl ⟨by rw [List.length_map]; exact h1, by rw [List.length_map]; exact h2⟩
theorem COk.bad {ks : List Str} {d : PyData} {rs : List Row} {i : Nat} (h : COk ks d rs) : ¬ CBad ks d i := by
  intro hb
  obtain ⟨rfl, h1, h2, ok⟩ := h
  exact notBadC (j := (rs.map rowD).length) (by rw [List.take_length]) ok (hb.lt rfl) hb
theorem KOk.one {d : PyData} {ks ks' : List Str} (h : KOk d ks) (h' : KOk d ks') : ks' = ks := by
  obtain ⟨rfl, _⟩ := h
  obtain ⟨e, _⟩ := h'
  injection e with e
  exact (map_inj str_inj e).symm
theorem COk.one {ks : List Str} {d : PyData} {rs rs' : List Row} (h : COk ks d rs) (h' : COk ks d rs') : rs' = rs := by
  obtain ⟨rfl, _⟩ := h
  obtain ⟨e, _⟩ := h'
  injection e with e
  exact (map_inj rowD_inj e).symm
theorem CBad.no {ks : List Str} {d : PyData} {i : Nat} (h : CBad ks d i) : ¬ CNo d := by
  intro hn
  obtain ⟨ds, rs, e, rfl, a1, a2, _⟩ := h
  exact hn _ rfl ⟨a1, a2⟩
/-- a schema of right kinds and constructors -/
theorem init_good {C CK CC CE z x dx : Addr} {v v2 : V} {d d2 : PyData} {ks : List Str} {rs : List Row} {H : Hp} {Q : VK} {E : XK} (hx : H x = some (.ins C dx [])) (hv : Dt z H v d) (s1 : Sm1 d) (hv2 : Dt z H v2 d2) (s2 : Sm2 d2) (hk : KOk d ks) (hc : COk ks d2 rs)
    (qE : ∀ pre k post, ks = pre ++ k :: post → (∀ x ∈ pre, Der rs x) → ¬ Der rs k → ToldX E H x CE "kind" (.str k)) (qF : (∀ k ∈ ks, Der rs k) → ∀ H', SchQ H x C dx v v2 ks rs H' → Q .non H') :
    sp_Schema_init C CK CC CE [.ref x, v, v2] H Q E := by
  refine ⟨z, x, dx, v, d, v2, d2, rfl, hx, hv, s1, hv2, s2, fun q => absurd q hk.no, fun i q => absurd q hk.bad, fun ks' hk' => ?_⟩
  cases hk.one hk'
  refine ⟨fun q => absurd q hc.no, fun i q => absurd q hc.bad, fun rs' hc' => ?_⟩
  cases hc.one hc'
  exact ⟨qE, qF⟩
/-- a schema of right kinds whose constructors go wrong first at i -/
theorem init_bad {C CK CC CE z x dx : Addr} {v v2 : V} {d d2 : PyData} {ks : List Str} {i : Nat} {H : Hp} {Q : VK} {E : XK} (hx : H x = some (.ins C dx [])) (hv : Dt z H v d) (s1 : Sm1 d) (hv2 : Dt z H v2 d2) (s2 : Sm2 d2) (hk : KOk d ks) (hc : CBad ks d2 i)
    (q : ToldX E H x CC "index" (.int i)) : sp_Schema_init C CK CC CE [.ref x, v, v2] H Q E := by
  refine ⟨z, x, dx, v, d, v2, d2, rfl, hx, hv, s1, hv2, s2, fun q => absurd q hk.no, fun i q => absurd q hk.bad, fun ks' hk' => ?_⟩
  cases hk.one hk'
  refine ⟨fun z => absurd z hc.no, fun j hj => ?_, fun rs hr => absurd hc hr.bad⟩
  cases hc.one hj
  exact q
theorem sm1_strs {ks : List Str} (h : ∀ k ∈ ks, isName k) : Sm1 (.tuple (ks.map .str)) := by
  intro ds e d hd x hx
  injection e with e
  rw [← e] at hd
  obtain ⟨k, hk, rfl⟩ := List.mem_map.mp hd
  cases hx
  have := (isName_len (h _ hk)).2
  omega
theorem sm2_rows {rs : List Row} (h : ∀ r ∈ rs, isName r.1 ∧ isName r.2.1) : Sm2 (.tuple (rs.map rowD)) := by
  intro ds e d hd ds' e' d' hd' x hx
  injection e with e
  rw [← e] at hd
  obtain ⟨r, hr, rfl⟩ := List.mem_map.mp hd
  unfold rowD at e'
  injection e' with e'
  rw [← e', hx] at hd'
  simp only [List.mem_cons, List.not_mem_nil, or_false] at hd'
  rcases hd' with z | z | z
  · injection z with z
    rw [z]
    have := (isName_len (h r hr).1).2
    omega
  · injection z with z
    rw [z]
    have := (isName_len (h r hr).2).2
    omega
  · cases z
/-- from the heap before the instance was laid -/
theorem But.same {x dx C : Addr} {H H' : Hp} (h : But x (upd (upd H dx (.own x)) x (.ins C dx [])) H') (nx : H x = none) (nd : H dx = none) : Same H H' := by
  intro b o hb
  have n1 : b ≠ x := fun q => by rw [q, nx] at hb; cases hb
  have n2 : b ≠ dx := fun q => by rw [q, nd] at hb; cases hb
  exact h b o n1 (by rw [upd_ne n1, upd_ne n2]; exact hb)
theorem same_ins {x dx C : Addr} {H : Hp} (nx : H x = none) (nd : H dx = none) (ne : dx ≠ x) : Same H (upd (upd H dx (.own x)) x (.ins C dx [])) := by
  intro b o hb
  have n1 : b ≠ x := fun q => by rw [q, nx] at hb; cases hb
  have n2 : b ≠ dx := fun q => by rw [q, nd] at hb; cases hb
  rw [upd_ne n1, upd_ne n2]
  exact hb
end K5

namespace K5
open PySem L2 Ft LamX
theorem has_imp {P : Program} {w : World} {K : PySem.W.Frag} {mg : Str → Option Value} {base : Heap} {CX : CXT} {k : Nat} {x : Str} {ps : List Str} {sp sp' : Sp} (F : Has P w K mg base CX k x ps sp) (h : ∀ vs H Q E, sp' vs H Q E → sp vs H Q E) : Has P w K mg base CX k x ps sp' := by
  obtain ⟨f, fd, G, r⟩ := F.ex
  exact ⟨⟨f, fd, G.imp h, r⟩⟩
theorem dt_take {z : Addr} {H : Hp} : ∀ {n : Nat} {xs : List V} {ds : List PyData}, DtAll z H xs ds → DtAll z H (xs.take n) (ds.take n)
  | 0, _, _, _ => by rw [List.take_zero, List.take_zero]; exact .nil
  | n + 1, _, _, .nil => .nil
  | n + 1, _, _, .cons h1 h2 => .cons h1 (dt_take h2)
theorem sch_kinds (k c r n : V) : (schF k c r n).lookup ("kinds" : Str) = some k := by
  unfold schF
  rw [lookup_putF, if_neg (by decide), lookup_putF, if_neg (by decide), lookup_putF, if_neg (by decide), lookup_putF, if_pos rfl]
theorem sch_cons (k c r n : V) : (schF k c r n).lookup ("constructors" : Str) = some c := by
  unfold schF
  rw [lookup_putF, if_neg (by decide), lookup_putF, if_neg (by decide), lookup_putF, if_pos rfl]
/-- what _law_empty says -/
def Empt (ks : List Str) (rs : List Row) (x : Str) : Prop := (x = "" ∧ ∀ k ∈ ks, Der rs k) ∨ (isName x ∧ ∃ pre post, ks = pre ++ x :: post ∧ (∀ y ∈ pre, Der rs y) ∧ ¬ Der rs x)
theorem first_one {D : Str → Prop} : ∀ {pre pre' : List Str} {k x : Str} {post post' : List Str}, pre ++ k :: post = pre' ++ x :: post' → (∀ y ∈ pre, D y) → (∀ y ∈ pre', D y) → ¬ D k → ¬ D x → x = k
  | [], [], _, _, _, _, e, _, _, _, _ => by injection e with e _; exact e.symm
  | [], _ :: _, _, _, _, _, e, _, h', hk, _ => by injection e with e _; exact absurd (h' _ (by rw [e]; exact List.mem_cons_self)) hk
  | _ :: _, [], _, _, _, _, e, h, _, _, hx => by injection e with e _; exact absurd (h _ (by rw [← e]; exact List.mem_cons_self)) hx
  | _ :: _, _ :: _, _, _, _, _, e, h, h', hk, hx => by
    injection e with _ e
    exact first_one e (fun y hy => h y (List.mem_cons_of_mem _ hy)) (fun y hy => h' y (List.mem_cons_of_mem _ hy)) hk hx
theorem name_ne {x : Str} (h : isName x) : x ≠ "" := fun e => by
  have := (isName_len h).1
  rw [e] at this
  exact absurd this (by decide +kernel)
theorem Empt.is {ks : List Str} {rs : List Row} {x k : Str} {pre post : List Str} (h : Empt ks rs x) (e : ks = pre ++ k :: post) (hp : ∀ y ∈ pre, Der rs y) (hk : ¬ Der rs k) : isName x ∧ x = k := by
  rcases h with ⟨_, h⟩ | ⟨hn, pre', post', e', hp', hx⟩
  · exact absurd (h k (by rw [e]; simp)) hk
  · exact ⟨hn, first_one (e.symm.trans e') hp hp' hk hx⟩
theorem Empt.no {ks : List Str} {rs : List Row} {x : Str} (h : Empt ks rs x) (hall : ∀ k ∈ ks, Der rs k) : x = "" := by
  rcases h with ⟨e, _⟩ | ⟨_, pre', post', e', _, hx⟩
  · exact e
  · exact absurd (hall x (by rw [e']; simp)) hx
def ToldR (C : Addr) (x : Str) (pk pr : Addr) (H : Hp) (pt : Addr) : Prop :=
  (x = "" ∧ ∃ a dx r n, H pt = some (.lst [.str "given", .ref a]) ∧ H a = some (.ins C dx (schF (.ref pk) (.ref pr) r n))) ∨ (isName x ∧ H pt = some (.lst [.str "EmptyKind", .str (reprText x)]))
theorem ToldR.same {C : Addr} {x : Str} {pk pr pt : Addr} {H H' : Hp} (h : ToldR C x pk pr H pt) (s : Same H H') : ToldR C x pk pr H' pt := by
  rcases h with ⟨e, a, dx, r, n, h1, h2⟩ | ⟨e, h1⟩
  · exact .inl ⟨e, a, dx, r, n, s _ _ h1, s _ _ h2⟩
  · exact .inr ⟨e, s _ _ h1⟩
/-- what a turn has at hand -/
structure Here (d pk pr : Addr) (ks : List Str) (rs : List Row) (Tb : List (Addr × Str)) (H0 H : Hp) : Prop where
  hpk : H pk = some (.tup (ks.map V.str))
  dr : Dt d H (.ref pr) (.tuple (rs.map rowD))
  nv : Nv d H0 H
  dl : Deal H d
  tb : Tabs Tb H
theorem Here.same {d pk pr : Addr} {ks : List Str} {rs : List Row} {Tb : List (Addr × Str)} {H0 H H' : Hp} (h : Here d pk pr ks rs Tb H0 H) (s : Same H H') : Here d pk pr ks rs Tb H0 H' :=
  ⟨s _ _ h.hpk, h.dr.same s, h.nv.trans (nv_same s), h.dl.same s, h.tb.ext s⟩
theorem Here.ext {d pk pr : Addr} {ks : List Str} {rs : List Row} {Tb : List (Addr × Str)} {H0 H H' : Hp} (h : Here d pk pr ks rs Tb H0 H) (s : ExtN H H') (t : Tabs Tb H') : Here d pk pr ks rs Tb H0 H' :=
  ⟨s _ _ h.hpk (fun _ q => nomatch q), h.dr.extN s, h.nv.trans (nv_ext s), deal_ext h.dl s, t⟩
theorem ok_row {r : Row} (h : isName r.1 ∧ isName r.2.1 ∧ ∀ f ∈ r.2.2, isName f) : Okd 2 (rowD r) := by
  refine Okd.tuple fun d hd => ?_
  simp only [List.mem_cons, List.not_mem_nil, or_false] at hd
  rcases hd with rfl | rfl | rfl
  · exact .str (ok_name h.1)
  · exact .str (ok_name h.2.1)
  · refine Okd.tuple fun e he => ?_
    obtain ⟨f, hf, rfl⟩ := List.mem_map.mp he
    exact .str (ok_name (h.2.2 f hf))
theorem two_ok {a b : Str} (ha : PyData.strOk a = true) (hb : PyData.strOk b = true) : Okd 1 (.list [.str a, .str b]) := by
  refine Okd.list fun d hd => ?_
  simp only [List.mem_cons, List.not_mem_nil, or_false] at hd
  rcases hd with rfl | rfl
  · exact .str ha
  · exact .str hb
abbrev lamQ : Str := (("_law_right" : Str) ++ (".<locals>." : Str)) ++ ("<lambda>" : Str)
section
variable {P : Program} {w : World} {K : PySem.W.Frag} {mg : Str → Option Value} {base : Heap}
def sp_empty2 (K : PySem.W.Frag) : Sp := fun vs H Q _ => ∃ z p ks a rs, vs = [.ref p, .ref a] ∧ SqT K H p (ks.map V.str) ∧ Dt z H (.ref a) (.tuple (rs.map rowD)) ∧ ks.length ≤ 100 ∧ rs.length ≤ 6 ∧ (∀ r ∈ rs, r.2.2.length ≤ 3) ∧ (∀ k ∈ ks, isName k) ∧ (∀ r ∈ rs, r.2.1 ∈ ks) ∧
  ∀ x H', Empt ks rs x → Same H H' → Q (.str x) H'
theorem empty2 (vs : List V) (H : Hp) (Q : VK) (E : XK) (h : sp_empty2 K vs H Q E) : sp_law_empty K vs H Q E := by
  obtain ⟨z, p, ks, a, rs, h1, h2, h3, h4, h5, h6, h7, h8, q⟩ := h
  exact ⟨z, p, ks, a, rs, h1, h2, h3, h4, h5, h6, h7, h8, fun hd H' s => q "" H' (.inl ⟨rfl, hd⟩) s, fun pre k post e hp hk H' s => q k H' (.inr ⟨h7 k (by rw [e]; simp), pre, post, e, hp, hk⟩) s⟩
def sp_law_right (Tb : List (Addr × Str)) : Sp := fun vs H Q _ => ∃ d : Addr, vs = [.ref d] ∧ Deal H d ∧ Tabs Tb H ∧ ∀ H', Nv d H H' → Tabs Tb H' → Q (.bl true) H'
theorem ok_law_right (T : Txt K mg) {c Pt C CK CC CE : Addr} {cs : List Value} (S : SchC K C) (TB : TabB base mg c Pt) (W_told : ToldAt P w K mg base 1 cs (sp_law_sort CE CC))
    (N_Schema : ClsO P w K mg base (L2.CX P w) 4 "Schema" C ["self", "kinds", "constructors"] (sp_Schema_init C CK CC CE)) (mE : PySem.W.exmAny K (.ref CE) cs = some true) (mC : PySem.W.exmAny K (.ref CC) cs = some true)
    (F_law_drawn : Has P w K mg base CX0 4 "_law_drawn" ["_law_deal_here"] sp_law_drawn) (F_law_empty : Has P w K mg base CX0 1 "_law_empty" ["_law_kinds", "_law_rows"] (sp_empty2 K)) (F_law_fresh : Has P w K mg base CX0 1 "_law_fresh" ["_law_taken"] (sp_law_fresh K))
    {f : Addr} {fd : FuncData} (F : FunC K "_law_right" "_law_right" s_law_right f fd c) : FnG P w K mg base CX0 8 f fd ["_law_deal_here"] (sp_law_right [(Pt, lamQ)]) := by
  refine okGC F sc_law_right (fun vs H Q E h => ?_) (fun A outer s H vs Q E hg hr h => ?_)
  · obtain ⟨d, rfl, _⟩ := h
    rfl
  · obtain ⟨d, rfl, hd, htb, q⟩ := h
    have hu64 := hr.units
    let Tb : List (Addr × Str) := [(Pt, lamQ)]
    have hmT : (Pt, lamQ) ∈ Tb := List.mem_cons_self
    have hu : ∀ p ∈ Tb, p.1 = Pt → p.2 = lamQ := fun p hp _ => by
      cases List.mem_singleton.mp hp
      rfl
    refine ⟨_, (pss_cons (ps_for PassesOwn.never rfl (pi_range1 rfl T.b_range (pa_cons pe_int pa_nil)) (pg_name (i := 1) sc_law_right.nd rfl (Or.inl rfl)) (pss_cons (ps_asg (pe_f F_law_drawn hg (hr.mono (by decide)) pass0 rfl (pa_cons (pv 0) pa_nil)) (pg_tup rfl (pgs_cons (pg_name (i := 2) sc_law_right.nd rfl (Or.inr rfl)) (pgs_cons (pg_name (i := 3) sc_law_right.nd rfl (Or.inr rfl)) pgs_nil))))
    (pss_cons (ps_set (i := 4) sc_law_right.nd rfl (Or.inl rfl) (pe_f F_law_empty hg (hr.mono (by decide)) pass0 rfl (pa_cons (pv 2) (pa_cons (pv 3) pa_nil))))
    (Evl.pss_cut (ps_set (i := 5) sc_law_right.nd rfl (Or.inl rfl) (pe_told (T := Tb) (j := 5) W_told hg TB rfl hmT hu (hr.mono (by decide)) (by decide) rfl (LamX.lamS_by (sc := defScope s_law_right) (by decide +kernel)) rfl (fun _ _ _ _ _ => rfl) (fun _ _ _ _ _ _ _ hr' => (Ft.pe_new N_Schema (hr'.mono (by decide)) lamPass rfl (pa_cons (pv 2) (pa_cons (pv 3) pa_nil))))))
    (Evl.pss_cut (ps_if (PW.pt (pw_and (pt_cmpR op_ne (pv 4) pe_str (nomark _)) (pw_and1 (pt_cmpR (op_neD hu64) (pv 5) (pe_lst (pa_cons pe_str (pa_cons (pe_callB call_repr_str rfl T.b_repr bt_repr (pa_cons (pv 4) pa_nil)) pa_nil))) (nomark _))))) (pss_one (ps_ret pe_bl)) pss_nil)
    (Evl.pss_cut (ps_if (PW.pt (pw_and (pt_cmpR op_eq (pv 4) pe_str (nomark _)) (pw_and1 (pt_cmpR op_ne (pe_ix ix_list (pv 5) pe_int (fun _ _ => rfl)) pe_str (nomark _))))) (pss_one (ps_ret pe_bl)) pss_nil)
    (Evl.pss_cut (ps_if (PW.pt (pw_and (pt_cmpR op_eq (pv 4) pe_str (nomark _)) (pw_and1 (pt_cmpR (op_neD hu64) (pe_lst (pa_cons (pe_fld (pe_ix ix_list (pv 5) pe_int (fun _ _ => rfl)) rfl) (pa_cons (pe_fld (pe_ix ix_list (pv 5) pe_int (fun _ _ => rfl)) rfl) pa_nil))) (pe_lst (pa_cons (pv 2) (pa_cons (pv 3) pa_nil))) (nomark _))))) (pss_one (ps_ret pe_bl)) pss_nil)
    (Evl.pss_cut (ps_set (i := 6) sc_law_right.nd rfl (Or.inr rfl) (pe_op op_catA (pe_slice sl_tupA (pv 3) po_none (po_some (pe_un un_neg pe_int))) (pe_tup (pa_cons (pe_tup (pa_cons (pe_ix ix_tup (pe_ix ix_tup (pv 3) (pe_un un_neg pe_int) (fun _ _ => rfl)) pe_int (fun _ _ => rfl)) (pa_cons (pe_f F_law_fresh hg (hr.mono (by decide)) pass0 rfl (pa_cons (pv 2) pa_nil)) (pa_cons (pe_tup pa_nil) pa_nil)))) pa_nil))))
    (pss_one (ps_if (pt_cmpR (op_neD hu64) (pe_told (T := Tb) (j := 5) W_told hg TB rfl hmT hu (hr.mono (by decide)) (by decide) rfl (LamX.lamS_by (sc := defScope s_law_right) (by decide +kernel)) rfl (fun _ _ _ _ _ => rfl) (fun _ _ _ _ _ _ _ hr' => (Ft.pe_new N_Schema (hr'.mono (by decide)) lamPass rfl (pa_cons (pv 2) (pa_cons (pv 6) pa_nil))))) (pe_lst (pa_cons pe_str (pa_cons (pe_callB SkE.call_repr_int rfl T.b_repr bt_repr (pa_cons (pe_op op_sub (pe_callB call_len_seq rfl T.b_len bt_len (pa_cons (pv 3) pa_nil)) pe_int) pa_nil)) pa_nil))) (nomark _)) (pss_one (ps_ret pe_bl)) pss_nil))))))))))
    (pss_one (ps_ret pe_bl))), ?_⟩
    refine ⟨_, rfl, by decide, by decide, for_range (lo := 0) (n := 6) (fun i σ H' => ∃ u1 u2 u3 u4 u5 u6 : Option V, σ = [some (.ref d), u1, u2, u3, u4, u5, u6] ∧ Nv d H H' ∧ Deal H' d ∧ Tabs Tb H') ⟨_, _, _, _, _, _, rfl, Nv.refl d H, hd, htb⟩ ?_ ?_⟩
    rotate_left
    · rintro σ H1 ⟨u1, u2, u3, u4, u5, u6, rfl, n1, d1, t1⟩
      exact q _ n1 t1
    rintro i σ H1 hi ⟨u1, u2, u3, u4, u5, u6, rfl, n1, d1, t1⟩
    refine ⟨_, rfl, d, rfl, d1, fun p pk pr ks rs H2 hp hpk hpr k1 k4 okk c1 c6 okc m2 d2 => ?_⟩
    refine ⟨p, _, rfl, .of hp, rfl, _, _, rfl, _, _, rfl, rfl, ?_⟩
    have here2 : Here d pk pr ks rs Tb H H2 := ⟨hpk, hpr, n1.trans m2.nv, d2, tabs_mv t1 m2 d1⟩
    have nmr : ∀ r ∈ rs, isName r.1 ∧ isName r.2.1 ∧ ∀ f ∈ r.2.2, isName f := fun r hr => by
      have z := okc.2 r hr
      exact ⟨z.1, okk.2 _ z.2.1, fun f hf => okk.2 f (z.2.2.2 f hf)⟩
    have hKOk : KOk (.tuple (ks.map .str)) ks := ⟨rfl, k1, k4, okk⟩
    have hCOk : COk ks (.tuple (rs.map rowD)) rs := ⟨rfl, c1, c6, okc⟩
    have sm1 := sm1_strs okk.2
    refine ⟨_, rfl, _, rfl, d, pk, ks, pr, rs, rfl, .of hpk, hpr, by omega, c6, (fun r hr => (okc.2 r hr).2.2.1), okk.2, (fun r hr => (okc.2 r hr).2.1), fun x H3 hx s3 => ?_⟩
    have here3 := here2.same s3
    refine ⟨fun σ H' => ∃ (pt : Addr) (u6 : Option V), σ = [some (.ref d), some (.int (0 + (i : Int))), some (.ref pk), some (.ref pr), some (.str x), some (.ref pt), u6] ∧ ToldR C x pk pr H' pt ∧ Here d pk pr ks rs Tb H H', ?_, ?_⟩
    · refine ⟨here3.tb, fun H4 e4 t4 => ?_⟩
      have here4 := here3.ext e4 t4
      refine ⟨_, rfl, _, rfl, fun xa dx nx nd ne => ?_⟩
      have sI := same_ins (C := C) nx nd ne
      have dk4 : Dt d H4 (.ref pk) (.tuple (ks.map .str)) := .tup here4.hpk (DtAll.strs ks)
      refine init_good (z := d) (ks := ks) (rs := rs) upd_same (dk4.same sI) sm1 (here4.dr.same sI) (sm2_rows fun r hr => ⟨(nmr r hr).1, (nmr r hr).2.1⟩) hKOk hCOk ?_ ?_
      · intro pre k post e hpre hk dd H5 b5 hdd
        have s5 : Same H4 H5 := b5.same nx nd
        obtain ⟨nk, rfl⟩ := hx.is e hpre hk
        refine ⟨mE, fun a na => ⟨rfl, dd, rfl, .inl ⟨rfl, _, nk, hdd, fun p np => ?_⟩⟩⟩
        exact ⟨p, _, rfl, .inr ⟨nk, upd_same⟩, here4.same (s5.trans (same_new np))⟩
      · intro hder H5 sq
        obtain ⟨tt, k0, b5, hx5, _, _⟩ := sq
        have s5 : Same H4 H5 := b5.same nx nd
        refine ⟨rfl, _, rfl, by show 2 ≤ sizeLine; decide, fun p np => ?_⟩
        exact ⟨p, _, rfl, .inl ⟨hx.no hder, xa, dx, _, _, upd_same, same_new np _ _ hx5⟩, here4.same (s5.trans (same_new np))⟩
    -- the three tests
    rintro σ H4 ⟨pt, w6, rfl, told, here⟩
    refine ⟨fun σ H' => ∃ (pt : Addr) (u6 : Option V), σ = [some (.ref d), some (.int (0 + (i : Int))), some (.ref pk), some (.ref pr), some (.str x), some (.ref pt), u6] ∧ ToldR C x pk pr H' pt ∧ Here d pk pr ks rs Tb H H', ?_, ?_⟩
    · refine ⟨_, rfl, rfl, _, rfl, ?_⟩
      by_cases e0 : x = ""
      · rw [decide_eq_true (show V.str x = V.str "" by rw [e0])]
        exact ⟨pt, _, rfl, told, here⟩
      · rw [decide_eq_false (show ¬ V.str x = V.str "" from fun q => e0 (by injection q))]
        rcases told with ⟨z, _⟩ | ⟨nx, h1⟩
        · exact absurd z e0
        · refine ⟨_, rfl, _, rfl, x, rfl, repr_name nx, by show 2 ≤ sizeLine; decide, fun p np => ?_⟩
          have ok2 : Okd 1 (.list [.str "EmptyKind", .str (reprText x)]) := two_ok (by decide +kernel) (ok_repr_name nx)
          refine ⟨_, _, .lst (SqL.of (same_new np _ _ h1)) (.cons (.str _) (.cons (.str _) .nil)), .lst (SqL.of upd_same) (.cons (.str _) (.cons (.str _) .nil)), ok2.shaped, ok2.shaped, _, rfl, ?_⟩
          rw [ok2.refl]
          exact ⟨pt, _, rfl, .inr ⟨nx, same_new np _ _ h1⟩, here.same (same_new np)⟩
    rintro σ H4 ⟨pt, w6, rfl, told, here⟩
    refine ⟨fun σ H' => ∃ (pt : Addr) (u6 : Option V), σ = [some (.ref d), some (.int (0 + (i : Int))), some (.ref pk), some (.ref pr), some (.str x), some (.ref pt), u6] ∧ ToldR C x pk pr H' pt ∧ Here d pk pr ks rs Tb H H', ?_, ?_⟩
    · refine ⟨_, rfl, rfl, _, rfl, ?_⟩
      by_cases e0 : x = ""
      · rw [decide_eq_true (show V.str x = V.str "" by rw [e0])]
        have told' := told
        rcases told with ⟨_, a, dx, r, n, h1, h2⟩ | ⟨nx, h1⟩
        · refine ⟨_, rfl, pt, _, _, _, rfl, rfl, SqL.of h1, rfl, rfl, _, rfl, ?_⟩
          rw [decide_eq_true rfl]
          exact ⟨pt, _, rfl, told', here⟩
        · exact absurd e0 (name_ne nx)
      · rw [decide_eq_false (show ¬ V.str x = V.str "" from fun q => e0 (by injection q))]
        exact ⟨pt, _, rfl, told, here⟩
    rintro σ H4 ⟨pt, w6, rfl, told, here⟩
    refine ⟨fun σ H' => ∃ u4 u5 u6 : Option V, σ = [some (.ref d), some (.int (0 + (i : Int))), some (.ref pk), some (.ref pr), u4, u5, u6] ∧ Here d pk pr ks rs Tb H H', ?_, ?_⟩
    · refine ⟨_, rfl, rfl, _, rfl, ?_⟩
      by_cases e0 : x = ""
      · rw [decide_eq_true (show V.str x = V.str "" by rw [e0])]
        rcases told with ⟨_, a, dx, r, n, h1, h2⟩ | ⟨nx, h1⟩
        · refine ⟨_, rfl, pt, _, _, _, rfl, rfl, SqL.of h1, rfl, a, C, dx, _, _, rfl, h2, S.cl, S.n1, sch_kinds _ _ _ _, ?_⟩
          refine ⟨_, rfl, pt, _, _, _, rfl, rfl, SqL.of h1, rfl, a, C, dx, _, _, rfl, h2, S.cl, S.n2, sch_cons _ _ _ _, ?_⟩
          refine ⟨by show 2 ≤ sizeLine; decide, fun p1 np1 => ⟨_, rfl, _, rfl, by show 2 ≤ sizeLine; decide, fun p2 np2 => ?_⟩⟩
          have s12 : Same H4 (upd (upd H4 p1 (.lst [.ref pk, .ref pr])) p2 (.lst [.ref pk, .ref pr])) := (same_new np1).trans (same_new np2)
          have h12 := here.same s12
          have okd : Okd 4 (.list [.tuple (ks.map .str), .tuple (rs.map rowD)]) := by
            refine Okd.list fun e he => ?_
            simp only [List.mem_cons, List.not_mem_nil, or_false] at he
            rcases he with rfl | rfl
            · refine (Okd.tuple (n := 0) fun e he => ?_).mono (by decide)
              obtain ⟨k, hk, rfl⟩ := List.mem_map.mp he
              exact .str (ok_name (okk.2 k hk))
            · refine Okd.tuple fun e he => ?_
              obtain ⟨r, hr, rfl⟩ := List.mem_map.mp he
              exact ok_row (nmr r hr)
          have dall : DpAll K (upd (upd H4 p1 (.lst [.ref pk, .ref pr])) p2 (.lst [.ref pk, .ref pr])) [.ref pk, .ref pr] [.tuple (ks.map .str), .tuple (rs.map rowD)] :=
            .cons (.tup (.of h12.hpk) (DtAll.strs (z := d) (H := upd (upd H4 p1 (.lst [.ref pk, .ref pr])) p2 (.lst [.ref pk, .ref pr])) ks).dp) (.cons h12.dr.dp .nil)
          refine ⟨_, _, .lst (SqL.of (same_new np2 _ _ upd_same)) dall, .lst (SqL.of upd_same) dall, okd.shaped, okd.shaped, _, rfl, ?_⟩
          rw [okd.refl]
          exact ⟨_, _, _, rfl, h12⟩
        · exact absurd e0 (name_ne nx)
      · rw [decide_eq_false (show ¬ V.str x = V.str "" from fun q => e0 (by injection q))]
        exact ⟨_, _, _, rfl, here⟩
    -- the last constructor's kind is unknown
    rintro σ H4 ⟨w4, w5, w6, rfl, here⟩
    refine ⟨fun σ H' => ∃ (pb : Addr) (u4 u5 : Option V) (nm fr : Str), σ = [some (.ref d), some (.int (0 + (i : Int))), some (.ref pk), some (.ref pr), u4, u5, some (.ref pb)] ∧ isName nm ∧ isName fr ∧ fr ∉ ks ∧ Dt d H' (.ref pb) (.tuple ((rs.take (rs.length - 1) ++ [(nm, fr, [])]).map rowD)) ∧ Here d pk pr ks rs Tb H H', ?_, ?_⟩
    · cases hdr : here.dr with
      | @tup _ ws _ e hall => ?_
      have lw : ws.length = rs.length := by rw [hall.len, List.length_map]
      refine ⟨_, rfl, _, rfl, _, rfl, pr, ws, rfl, .of e, fun hw => ?_, fun hw p1 np1 => ?_⟩
      · have := hw.2
        rw [show HT.sIx ws.length ws.length (some (-1)) = ws.length - 1 from sIx_last _ _ (by omega)] at this
        omega
      have e1 := same_new (o := .tup (cutV ws none (some (-1)))) np1 _ _ e
      obtain ⟨v, hv1, hv2⟩ := at_last (xs := ws) (by omega)
      obtain ⟨dd, ed, hdd⟩ := hall.get hv1
      rw [List.getElem?_map] at ed
      obtain ⟨r, hri, rfl⟩ := Option.map_eq_some_iff.mp ed
      have hrm : r ∈ rs := List.mem_of_getElem? hri
      obtain ⟨ra, rb, rfl, f1, f2⟩ := Dt.row hdd
      refine ⟨_, rfl, _, rfl, pr, ws, _, _, rfl, rfl, .of e1, hv2, ra, _, _, _, rfl, rfl, .of (same_new np1 _ _ f1), rfl, ?_⟩
      have h1 := here.same (same_new (o := .tup (cutV ws none (some (-1)))) np1)
      refine ⟨_, rfl, pk, ks, rfl, .of h1.hpk, by omega, fun y H5 hy ny s5 => ?_⟩
      refine ⟨by show 0 ≤ sizeLine; decide, fun p2 np2 => ⟨by show 3 ≤ sizeLine; decide, fun p3 np3 => ⟨by show 1 ≤ sizeLine; decide, fun p4 np4 => ?_⟩⟩⟩
      generalize hG : (upd (upd (upd H5 p2 _) p3 _) p4 _ : Hp) = G
      have sG : Same H5 G := by
        rw [← hG]
        exact ((same_new np2).trans (same_new np3)).trans (same_new np4)
      have g2 : G p2 = some (.tup []) := by
        rw [← hG]
        exact same_new np4 _ _ (same_new np3 _ _ upd_same)
      have g3 : G p3 = some (.tup [.str r.1, .str y, .ref p2]) := by
        rw [← hG]
        exact same_new np4 _ _ upd_same
      have g4 : G p4 = some (.tup [.ref p3]) := by
        rw [← hG]
        exact upd_same
      have s1G : Same H4 G := ((same_new (o := .tup (cutV ws none (some (-1)))) np1).trans s5).trans sG
      have g1 : G p1 = some (.tup (ws.take (rs.length - 1))) := by
        have z := sG _ _ (s5 _ _ (upd_same (H := H4) (a := p1) (o := .tup (cutV ws none (some (-1))))))
        rw [cut_init (by omega), lw] at z
        exact z
      have hG' := here.same s1G
      have dnew : Dt d G (.ref p3) (rowD (r.1, y, [])) := .tup g3 (.cons (.str _) (.cons (.str _) (.cons (.tup g2 .nil) .nil)))
      have dold : DtAll d G (ws.take (rs.length - 1)) ((rs.take (rs.length - 1)).map rowD) := by
        rw [List.map_take]
        exact dt_take (hall.same s1G)
      have dboth : DtAll d G (ws.take (rs.length - 1) ++ [.ref p3]) ((rs.take (rs.length - 1) ++ [(r.1, y, [])]).map rowD) := by
        rw [List.map_append]
        exact dold.app (.cons dnew .nil)
      refine ⟨p1, p4, _, _, rfl, rfl, .of g1, .of g4, ?_, fun hx0 => ?_, (fun _ q => nomatch q), fun _ _ p5 np5 => ?_⟩
      · have : (ws.take (rs.length - 1)).length ≤ 6 := Nat.le_trans (List.length_take_le' _ _) (by omega)
        exact Nat.le_trans (show (ws.take (rs.length - 1)).length + 1 ≤ 7 by omega) (by decide)
      · rw [hx0] at dboth
        exact ⟨p4, _, _, r.1, y, rfl, (nmr r hrm).1, ny, hy, .tup g4 dboth, hG'⟩
      · exact ⟨p5, _, _, r.1, y, rfl, (nmr r hrm).1, ny, hy, .tup upd_same (dboth.same (same_new np5)), hG'.same (same_new np5)⟩
    rintro σ H4 ⟨pb, w4, w5, nm, fr, rfl, hnm, hfr, hfk, db, here⟩
    refine ⟨here.tb, fun H5 e5 t5 => ?_⟩
    have here5 := here.ext e5 t5
    refine ⟨_, rfl, _, rfl, fun xa dx nx nd ne => ?_⟩
    have sI := same_ins (C := C) nx nd ne
    have dk5 : Dt d H5 (.ref pk) (.tuple (ks.map .str)) := .tup here5.hpk (DtAll.strs ks)
    have bad : CBad ks (.tuple ((rs.take (rs.length - 1) ++ [(nm, fr, [])]).map rowD)) (rs.length - 1) := by
      have lt : ((rs.take (rs.length - 1)).map rowD).length = rs.length - 1 := by rw [List.length_map, List.length_take]; omega
      refine ⟨_, rs.take (rs.length - 1), rowD (nm, fr, []), rfl, by simp, ?_, ?_, ⟨?_, fun r hr => okc.2 r (List.mem_of_mem_take hr)⟩, ?_, .inl (conD_1 ?_)⟩
      · rw [List.length_map, List.length_append, List.length_take]
        simp only [List.length_singleton]
        omega
      · rw [List.map_append, List.take_append_of_le_length (by rw [lt]; exact Nat.le_refl _), List.take_of_length_le (by rw [lt]; exact Nat.le_refl _)]
      · rw [List.map_take]
        exact List.Nodup.sublist (List.take_sublist _ _) okc.1
      · rw [List.map_append, List.getElem?_append_right (by rw [lt]; exact Nat.le_refl _), lt, Nat.sub_self]
        rfl
      · exact decide_eq_false hfk
    refine init_bad (z := d) (ks := ks) (i := rs.length - 1) upd_same (dk5.same sI) sm1 ((db.extN e5).same sI) (sm2_rows fun r hr => ?_) hKOk bad ?_
    · rcases List.mem_append.mp hr with z | z
      · have := nmr r (List.mem_of_mem_take z)
        exact ⟨this.1, this.2.1⟩
      · rw [List.mem_singleton.mp z]
        exact ⟨hnm, hfr⟩
    intro dd H6 b6 hdd
    have s6 : Same H5 H6 := b6.same nx nd
    refine ⟨mC, fun a na => ⟨rfl, dd, rfl, .inr ⟨rfl, rs.length - 1, by omega, hdd, fun p np => ?_⟩⟩⟩
    have here7 := here5.same (s6.trans (same_new (o := .lst [.str "InvalidConstructors", .str (toString ((rs.length - 1 : Nat) : Int))]) np))
    cases hdr : here7.dr with
    | @tup _ ws _ e hall => ?_
    have lw : ws.length = rs.length := by rw [hall.len, List.length_map]
    have en : ((ws.length : Nat) : Int) - 1 = ((rs.length - 1 : Nat) : Int) := by omega
    refine ⟨_, rfl, pr, ws, rfl, .inr (.of e), _, _, rfl, rfl, _, rfl, ?_, by show 2 ≤ sizeLine; decide, fun p2 np2 => ?_⟩
    · rw [en, Int.natAbs_natCast]
      exact Nat.lt_of_le_of_lt (Nat.log2_le_self _) (by omega)
    have ok2 : Okd 1 (.list [.str "InvalidConstructors", .str (Str.ofString (toString ((rs.length - 1 : Nat) : Int)))]) := two_ok (by decide +kernel) (ok_num _)
    refine ⟨.list [.str "InvalidConstructors", .str (Str.ofString (toString ((rs.length - 1 : Nat) : Int)))], .list [.str "InvalidConstructors", .str (Str.ofString (toString ((rs.length - 1 : Nat) : Int)))], .lst (SqL.of (same_new np2 _ _ upd_same)) (.cons (.str _) (.cons (.str _) .nil)), .lst (SqL.of (by rw [upd_same, ← en])) (.cons (.str _) (.cons (.str _) .nil)), ok2.shaped, ok2.shaped, _, rfl, ?_⟩
    rw [ok2.refl]
    have here8 := here7.same (same_new (o := .lst [.str "InvalidConstructors", .str (toString (((ws.length : Nat) : Int) - 1))]) np2)
    exact ⟨_, _, _, _, _, _, rfl, here8.nv, here8.dl, here8.tb⟩
end
end K5

namespace K5
open PySem L2 Ft LamX
section
variable {P : Program} {w : World} {K : PySem.W.Frag} {mg : Str → Option Value} {base : Heap}
def sp_law (K : PySem.W.Frag) (Tb : List (Addr × Str)) : Sp := fun vs H Q _ => ∃ (a : Addr) (ns : List Int), vs = [.ref a] ∧ SqL K H a (ns.map V.int) ∧ ns.length ≤ 63 ∧ Tabs Tb H ∧ ∀ H', Q (.bl true) H'
theorem ok_law (T : Txt K mg) {Tb : List (Addr × Str)} (F_law_number : Has P w K mg base CX0 1 "_law_number" ["_law_cells", "_law_k"] (sp_law_number K)) (F_law_deal : Has P w K mg base CX0 1 "_law_deal" ["_law_number_here"] sp_law_deal)
    (F_law_right : Has P w K mg base CX0 8 "_law_right" ["_law_deal_here"] (sp_law_right Tb)) {f : Addr} {fd : FuncData} (F : Fun K "law" "law" s_law f fd) : FnG P w K mg base CX0 9 f fd ["_law_cells"] (sp_law K Tb) := by
  refine okG F sc_law (fun vs H Q E h => ?_) (fun cdv A outer s H vs Q E hg hr h => ?_)
  · obtain ⟨d, _, rfl, _⟩ := h
    rfl
  · obtain ⟨a, ns, rfl, hS, hlen, htb, q⟩ := h
    refine ⟨_, (pss_one (ps_ret (pe_callB (cr_all rfl) rfl T.b_all bt_all (pa_cons (pe_lc (own := [("_law_k", 1)]) rfl sc_law.nd (pi_range1 rfl T.b_range (pa_cons (pe_callB (call_max2 rfl) rfl T.b_max bt_max (pa_cons pe_int (pa_cons (pe_callB (call_min2 rfl) rfl T.b_min bt_min (pa_cons (pe_callB call_len_seq rfl T.b_len bt_len (pa_cons (pv 0) pa_nil)) (pa_cons pe_int pa_nil))) pa_nil))) pa_nil)) (blkOk_by (own := [("_law_k", 1)]) (N := N_law) (sc := defScope s_law) (by decide +kernel)) (fun _ _ _ _ _ => (pg_name (i := 1) sc_law.nd rfl (Or.inl rfl))) (fun _ _ _ _ _ => pts_nil) (fun _ _ _ _ _ => (pe_f F_law_right hg (hr.mono (by decide)) pass0 rfl (pa_cons (pe_f F_law_deal hg (hr.mono (by decide)) pass0 rfl (pa_cons (pe_f F_law_number hg (hr.mono (by decide)) pass0 rfl (pa_cons (pv 0) (pa_cons (pv 1) pa_nil))) pa_nil)) pa_nil)))) pa_nil)))), ?_⟩
    refine ⟨_, rfl, a, _, rfl, .inl hS, _, _, rfl, _, _, rfl, ?_⟩
    rw [List.length_map]
    obtain ⟨n, hn, hn5⟩ : ∃ n : Nat, (if (if (5 : Int) < (ns.length : Int) then (5 : Int) else (ns.length : Int)) > 2 then (if (5 : Int) < (ns.length : Int) then (5 : Int) else (ns.length : Int)) else 2) = (n : Int) ∧ n ≤ 5 := by
      by_cases h1 : (5 : Int) < (ns.length : Int)
      · rw [if_pos h1, if_pos (by decide)]
        exact ⟨5, rfl, by decide⟩
      · rw [if_neg h1]
        by_cases h2 : (ns.length : Int) > 2
        · rw [if_pos h2]
          exact ⟨ns.length, rfl, by omega⟩
        · rw [if_neg h2]
          exact ⟨2, rfl, by decide⟩
    rw [hn]
    refine ⟨_, rfl, by omega, by omega, fun D nD => ?_⟩
    have sD : ExtN H (upd H D (.lst [])) := ExtN.of (same_new nD)
    refine lc_range (lo := 0) (n := _) (fun i H1 => H1 D = some (.lst ((List.replicate i true).map V.bl)) ∧ ExtN H H1 ∧ Tabs Tb H1) ⟨upd_same, sD, tabs_new htb nD⟩ ?_ ?_
    · rintro i H1 hi ⟨hD, s1, t1⟩
      have hi5 : i < 5 := by
        have : ((n : Int)).toNat = n := by omega
        omega
      have hS1 : SqL K H1 a (ns.map V.int) := by
        rcases hS with (h | ⟨o, h⟩) | h
        · exact .inl (.inl (s1 _ _ h (fun _ q => nomatch q)))
        · exact .inl (.inr ⟨o, s1 _ _ h (fun _ q => nomatch q)⟩)
        · exact .inr h
      refine ⟨rfl, ?_⟩
      refine ⟨_, rfl, _, rfl, a, _, ns, rfl, hS1, by omega, by omega, fun r H2 s2 => ⟨r, rfl, fun p H3 np s3 d3 => ⟨p, rfl, d3, (t1.ext s2).ext s3, fun H4 m4 t4 => ?_⟩⟩⟩
      have hp1 : p ≠ D := (ne_of_none (s2 _ _ hD) np).symm
      have keep : ExtN H H4 := fun b o hb nt => by
        have h1 := s2 _ _ (s1 _ _ hb nt)
        exact m4 _ _ (ne_of_none h1 np) (s3 _ _ h1) nt
      have hD4 := m4 _ _ hp1.symm (s3 _ _ (s2 _ _ hD)) (fun _ q => nomatch q)
      refine ⟨_, hD4, ?_, ?_, ?_, ?_⟩
      · rw [List.length_map, List.length_replicate]
        exact Nat.lt_of_lt_of_le hi5 (by decide)
      · rw [upd_same, List.replicate_succ', List.map_append]
        rfl
      · intro b o hb nt
        rw [upd_ne (ne_of_none hb nD)]
        exact keep b o hb nt
      · -- a list is no table
        intro pp hpp
        obtain ⟨ps, h1, h2, h3⟩ := t4 pp hpp
        have ne1 : ∀ {y : Addr} {o : HO}, H4 y = some o → (∀ l, o ≠ .lst l) → y ≠ D := fun h1 h2 q => by
          rw [q, hD4] at h1
          exact h2 _ (Option.some.inj h1).symm
        refine ⟨ps, by rw [upd_ne (ne1 h1 (fun l q => nomatch q))]; exact h1, h2, fun pos cv hc => ?_⟩
        obtain ⟨c0, e1, e2⟩ := h3 pos cv hc
        exact ⟨c0, e1, by rw [upd_ne (ne1 e2 (fun l q => by unfold CodeO at q; cases q))]; exact e2⟩
    · rintro H1 ⟨hD, s1, _⟩
      refine ⟨D, _, rfl, SqL.of hD, ?_⟩
      have : ∀ m : Nat, (List.replicate m true).all id = true := fun m => by
        rw [List.all_eq_true]
        intro b hb
        rw [(List.mem_replicate.mp hb).2]
        rfl
      rw [this]
      exact q _
end
end K5

namespace K5
open PySem L2 Ft LamX
theorem ini_InvalidKinds : Init1 (inClass (top 7) 0) "index" := ⟨⟨_, _, _, _, rfl⟩, rfl, rfl, rfl, by decide +kernel, by decide +kernel, by decide, by decide⟩
theorem ini_InvalidConstructors : Init1 (inClass (top 8) 0) "index" := ⟨⟨_, _, _, _, rfl⟩, rfl, rfl, rfl, by decide +kernel, by decide +kernel, by decide, by decide⟩
theorem ini_EmptyKind : Init1 (inClass (top 9) 0) "kind" := ⟨⟨_, _, _, _, rfl⟩, rfl, rfl, rfl, by decide +kernel, by decide +kernel, by decide, by decide⟩
theorem all_mk {P : Program} {w : World} {K : PySem.W.Frag} {mg : Str → Option Value} {base : Heap} (T : Txt K mg) {CK CC CE C fS c Pt : Addr} {c1 c2 c3 : Value} {dS : FuncData}
    (XK : ExAt K mg "InvalidKinds" "index" CK) (XC : ExAt K mg "InvalidConstructors" "index" CC) (XE : ExAt K mg "EmptyKind" "kind" CE) (S : SchC K C) (gS : mg "Schema" = some (.ref C)) (M : Mk K C fS) (FS : Fun K "__init__" "Schema.__init__" s_Schema___init__ fS dS)
    (kt : Kits K CE CC) (mT : mg "TreeError" = some c1) (mS : mg "StateError" = some c2) (mL : mg "LimitError" = some c3) (mE : PySem.W.exmAny K (.ref CE) [c1, c2, c3] = some true) (mC : PySem.W.exmAny K (.ref CC) [c1, c2, c3] = some true)
    {f1 f2 f3 f4 f5 f6 f7 f8 f9 f10 f11 f12 f13 f14 f15 f16 f17 f18 : Addr} {d1 d2 d3 d4 d5 d6 d7 d8 d9 d10 d11 d12 d13 d14 d15 d16 d17 d18 : FuncData}
    (A1 : DefAt K mg "is_name" s_is_name f1 d1) (A2 : DefAt K mg "is_one_of" s_is_one_of f2 d2) (A3 : DefAt K mg "is_constructor" s_is_constructor f3 d3) (A4 : DefAt K mg "check_kinds" s_check_kinds f4 d4) (A5 : DefAt K mg "check_constructors" s_check_constructors f5 d5)
    (A6 : DefAt K mg "check_filled" s_check_filled f6 d6) (A7 : DefAt K mg "_law_number" s_law_number f7 d7) (A8 : DefAt K mg "_law_deal" s_law_deal f8 d8) (A9 : DefAt K mg "_law_pick" s_law_pick f9 d9) (A10 : DefAt K mg "_law_word" s_law_word f10 d10)
    (A11 : DefAt K mg "_law_words" s_law_words f11 d11) (A12 : DefAt K mg "_law_fresh" s_law_fresh f12 d12) (A13 : DefAt K mg "_law_told" s_law_told f13 d13) (A14 : DefAt K mg "_law_sort" s_law_sort f14 d14) (A15 : DefAt K mg "_law_empty" s_law_empty f15 d15)
    (A16 : DefAt K mg "_law_drawn" s_law_drawn f16 d16) (A17 : DefAt K mg "law" s_law f17 d17) (A18 : DefC K mg "_law_right" s_law_right f18 d18 c) (TB : TabB base mg c Pt) : FnG P w K mg base CX0 9 f17 d17 ["_law_cells"] (sp_law K [(Pt, lamQ)]) := by
  have F1 : HasO P w K mg base CX0 1 "is_name" ["value"] sp_is_name := A1.hasO (ok_is_name T) fun _ _ _ _ _ _ us hl => match us, hl with | [_], _ => rfl
  have F2 : HasO P w K mg base CX0 1 "is_one_of" ["value", "names"] (sp_is_one_of K) := A2.hasO (ok_is_one_of T) fun _ _ _ _ _ _ us hl => match us, hl with | [_, _], _ => rfl
  have F3 : HasO P w K mg base CX0 2 "is_constructor" ["kinds", "value"] (sp_is_constructor K) := A3.hasO (ok_is_constructor T F1 F2) fun _ _ _ _ _ _ us hl => match us, hl with | [_, _], _ => rfl
  have F4 : HasO P w K mg base (L2.CX P w) 2 "check_kinds" ["value"] (sp_check_kinds CK) := A4.hasO (ok_check_kinds T XK F1) fun _ _ _ _ _ _ us hl => match us, hl with | [_], _ => rfl
  have F5 : HasO P w K mg base (L2.CX P w) 3 "check_constructors" ["kinds", "value"] (sp_check_constructors K CC) := A5.hasO (ok_check_constructors T XC F3) fun _ _ _ _ _ _ us hl => match us, hl with | [_, _], _ => rfl
  have F6 : HasO P w K mg base (L2.CX P w) 2 "check_filled" ["kinds", "constructors"] (sp_check_filled K CE) := A6.hasO (ok_check_filled T XE) fun _ _ _ _ _ _ us hl => match us, hl with | [_, _], _ => rfl
  have NS : ClsO P w K mg base (L2.CX P w) 4 "Schema" C ["self", "kinds", "constructors"] (sp_Schema_init C CK CC CE) :=
    ⟨⟨fS, dS, ok_Schema_init T S F4 F5 F6 FS, gS, M, FS.binds fun _ _ _ _ _ _ us hl => match us, hl with | [_, _, _], _ => rfl⟩⟩
  have F7 : Has P w K mg base CX0 1 "_law_number" ["_law_cells", "_law_k"] (sp_law_number K) := A7.has (ok_law_number T) fun _ _ _ _ _ _ us hl => match us, hl with | [_, _], _ => rfl
  have F8 : Has P w K mg base CX0 1 "_law_deal" ["_law_number_here"] sp_law_deal := A8.has (ok_law_deal T) fun _ _ _ _ _ _ us hl => match us, hl with | [_], _ => rfl
  have F9 : Has P w K mg base CX0 1 "_law_pick" ["_law_deal_here", "_law_many"] sp_law_pick := A9.has (ok_law_pick T) fun _ _ _ _ _ _ us hl => match us, hl with | [_, _], _ => rfl
  have F10 : Has P w K mg base CX0 2 "_law_word" ["_law_deal_here", "_law_taken"] (sp_law_word K) := A10.has (ok_law_word T F9) fun _ _ _ _ _ _ us hl => match us, hl with | [_, _], _ => rfl
  have F11 : Has P w K mg base CX0 3 "_law_words" ["_law_deal_here", "_law_many"] sp_law_words := A11.has (ok_law_words T F10) fun _ _ _ _ _ _ us hl => match us, hl with | [_, _], _ => rfl
  have F12 : Has P w K mg base CX0 1 "_law_fresh" ["_law_taken"] (sp_law_fresh K) := A12.has (ok_law_fresh T) fun _ _ _ _ _ _ us hl => match us, hl with | [_], _ => rfl
  have F14 : HasHot P w K mg base 1 "_law_sort" ["_law_e"] (sp_law_sort CE CC) := ⟨⟨f14, d14, hot_law_sort T XE XC kt A14.fn, A14.at_, A14.fn.kp, A14.fn.binds fun _ _ _ _ _ _ us hl => match us, hl with | [_], _ => rfl⟩⟩
  have F15 : Has P w K mg base CX0 1 "_law_empty" ["_law_kinds", "_law_rows"] (sp_law_empty K) := A15.has (ok_law_empty T) fun _ _ _ _ _ _ us hl => match us, hl with | [_, _], _ => rfl
  have F16 : Has P w K mg base CX0 4 "_law_drawn" ["_law_deal_here"] sp_law_drawn := A16.has (ok_law_drawn T F9 F11) fun _ _ _ _ _ _ us hl => match us, hl with | [_], _ => rfl
  have WT : ToldAt P w K mg base 1 [c1, c2, c3] (sp_law_sort CE CC) := ⟨F14, ⟨c1, c2, c3, rfl, mT, mS, mL⟩, f13, d13, s_law_told, A13, sc_law_told, by decide +kernel, by decide +kernel, by decide +kernel, by decide +kernel, by decide +kernel, by decide +kernel, by decide +kernel,
    ⟨_, _, _, _, _, _, _, _, _, _, _, _, _, _, _, _, _, _, _, _, rfl⟩, fun _ _ _ _ _ _ us hl => match us, hl with | [_], _ => rfl⟩
  have F18 : Has P w K mg base CX0 8 "_law_right" ["_law_deal_here"] (sp_law_right [(Pt, lamQ)]) := A18.def.has (fun _ => ok_law_right T S TB WT NS mE mC F16 (has_imp F15 empty2) F12 A18.fn) fun _ _ _ _ _ _ us hl => match us, hl with | [_], _ => rfl
  exact ok_law T F7 F8 F18 A17.fn
def spT (K : PySem.W.Frag) (cs : List (Addr × Addr)) : Sp := sp_law K (cs.map fun p => (p.2, lamQ))
theorem walk {q : Program} {loose : List Str} {XP : (Str → Option Value) → Heap → Prop} {YP : World → Heap → Prop} {d : DefRec} {K : Params → PySem.W.Frag} {l : PySem.W.OpenLaw} (hn : l.most = some 63) (hdf : d.params.defaults = [])
    (hY : ∀ (w : World) (h : Heap), YP w h → (K w.params).In h)
    (F : ∀ (w : World) (mg : Str → Option Value) (fa : Addr) (h : Heap), (K w.params).In h → h.Ns mainGlobals mg → mg d.name = some (.ref fa) →
      ∃ (fd : FuncData) (cs : List (Addr × Addr)), (∀ c ∈ cs, ∃ (y : Str) (r : PySem.DefRec), (PyProof.Rows.recsOf q).find? (fun e => e.name == y) = some r ∧ PySem.W.tabIn (K w.params) y = some c ∧ (K w.params).lookup c.2 = none) ∧
        (∀ (s : Shared) (u : Value), BindsTo s fd ⟨[u], []⟩ [("_law_cells", u)]) ∧
        ∀ base : Heap, (K w.params).In base → base.Ns mainGlobals mg → (∀ p ∈ cs, TabB base mg p.1 p.2) → FnG l.prog w (K w.params) mg base CX0 9 fa fd ["_law_cells"] (spT (K w.params) cs)) :
    PySem.W.WalkO q loose XP YP l.row.toRowW d [] (fun f vs => PySem.call f vs) :=
  walkT (n := 63) (k := 9) (x := "_law_cells") (sp := spT) hn (by decide) hdf ⟨rfl, by decide, by decide⟩ hY F fun K cs H a ns hl h1 hS => ⟨a, ns, rfl, hS, hl, fun p hp => by
    obtain ⟨p0, hp0, rfl⟩ := List.mem_map.mp hp
    exact TabS.nil (h1 p0 hp0), fun _ => rfl⟩
theorem fin_mk {q : Program} {P : Program} {w : World} {K : PySem.W.Frag} {mg : Str → Option Value} {fa : Addr} {h : Heap} (X : K.In h) (G : h.Ns mainGlobals mg) (hfa : mg "law" = some (.ref fa)) (T : Txt K mg) {CK CC CE C fS c Pt : Addr} {c1 c2 c3 : Value} {dS : FuncData}
    (XK : ExAt K mg "InvalidKinds" "index" CK) (XC : ExAt K mg "InvalidConstructors" "index" CC) (XE : ExAt K mg "EmptyKind" "kind" CE) (S : SchC K C) (gS : mg "Schema" = some (.ref C)) (M : Mk K C fS) (FS : Fun K "__init__" "Schema.__init__" s_Schema___init__ fS dS)
    (kt : Kits K CE CC) (mT : mg "TreeError" = some c1) (mS : mg "StateError" = some c2) (mL : mg "LimitError" = some c3) (mE : PySem.W.exmAny K (.ref CE) [c1, c2, c3] = some true) (mC : PySem.W.exmAny K (.ref CC) [c1, c2, c3] = some true)
    {f1 f2 f3 f4 f5 f6 f7 f8 f9 f10 f11 f12 f13 f14 f15 f16 f17 f18 : Addr} {d1 d2 d3 d4 d5 d6 d7 d8 d9 d10 d11 d12 d13 d14 d15 d16 d17 d18 : FuncData}
    (A1 : DefAt K mg "is_name" s_is_name f1 d1) (A2 : DefAt K mg "is_one_of" s_is_one_of f2 d2) (A3 : DefAt K mg "is_constructor" s_is_constructor f3 d3) (A4 : DefAt K mg "check_kinds" s_check_kinds f4 d4) (A5 : DefAt K mg "check_constructors" s_check_constructors f5 d5)
    (A6 : DefAt K mg "check_filled" s_check_filled f6 d6) (A7 : DefAt K mg "_law_number" s_law_number f7 d7) (A8 : DefAt K mg "_law_deal" s_law_deal f8 d8) (A9 : DefAt K mg "_law_pick" s_law_pick f9 d9) (A10 : DefAt K mg "_law_word" s_law_word f10 d10)
    (A11 : DefAt K mg "_law_words" s_law_words f11 d11) (A12 : DefAt K mg "_law_fresh" s_law_fresh f12 d12) (A13 : DefAt K mg "_law_told" s_law_told f13 d13) (A14 : DefAt K mg "_law_sort" s_law_sort f14 d14) (A15 : DefAt K mg "_law_empty" s_law_empty f15 d15)
    (A16 : DefAt K mg "_law_drawn" s_law_drawn f16 d16) (A17 : DefAt K mg "law" s_law f17 d17) (A18 : DefC K mg "_law_right" s_law_right f18 d18 c) (ht : PySem.W.tabIn K "_law_right" = some (c, Pt)) (hno : K.lookup Pt = none) (hrec : ((PyProof.Rows.recsOf q).find? (fun e => e.name == ("_law_right" : Str))).isSome = true) :
    ∃ (fd : FuncData) (cs : List (Addr × Addr)), (∀ c ∈ cs, ∃ (y : Str) (r : PySem.DefRec), (PyProof.Rows.recsOf q).find? (fun e => e.name == y) = some r ∧ PySem.W.tabIn K y = some c ∧ K.lookup c.2 = none) ∧
        (∀ (s : Shared) (u : Value), BindsTo s fd ⟨[u], []⟩ [("_law_cells", u)]) ∧
        ∀ base : Heap, K.In base → base.Ns mainGlobals mg → (∀ p ∈ cs, TabB base mg p.1 p.2) → FnG P w K mg base CX0 9 fa fd ["_law_cells"] (spT K cs) := by
  have e := hfa.symm.trans A17.at_
  cases e
  refine ⟨d17, [(c, Pt)], fun p hp => ?_, fun s u => ?_, fun base _ _ TB => all_mk T XK XC XE S gS M FS kt mT mS mL mE mC A1 A2 A3 A4 A5 A6 A7 A8 A9 A10 A11 A12 A13 A14 A15 A16 A17 A18 (TB _ List.mem_cons_self)⟩
  · cases List.mem_singleton.mp hp
    obtain ⟨r, hr⟩ := Option.isSome_iff_exists.mp hrec
    exact ⟨_, r, hr, ht, hno⟩
  · obtain ⟨_, _, kV, doc, pm, an, cdv, ct, _, e, _, _⟩ := A17.fn.ex
    subst e
    exact .of_eq rfl
end K5
open PySem PySem.W PyProof.Rows in
set_option maxRecDepth 100000 in
set_option maxHeartbeats 0 in
theorem PySem.Challenge.cw_fivetrees_k05_kinds_without_trees_holds : PySem.Challenge.rw_fivetrees_k05_kinds_without_trees.Holds := by
  w_on; o_law; k_head; (case hw => w_witness2)
  k_fill
  refine K5.walk (l := PySem.Challenge.rw_fivetrees_k05_kinds_without_trees) rfl rfl (fun w h Y => PySem.W.km_in_of Y) ?F
  case F =>
    intro w mg fa h KX G hmg0
    have hmg : mg (PySem.Str.ofString "law") = some (.ref fa) := hmg0
    clear hmg0
    refine' K5.fin_mk KX G hmg ⟨PySem.W.mg_none_of KX G ?b1, PySem.W.mg_none_of KX G ?b2, PySem.W.mg_none_of KX G ?b3, PySem.W.mg_none_of KX G ?b4, PySem.W.mg_none_of KX G ?b5, PySem.W.mg_none_of KX G ?b6, PySem.W.mg_none_of KX G ?b7, PySem.W.mg_none_of KX G ?b8, PySem.W.mg_none_of KX G ?b9, PySem.W.mg_none_of KX G ?b10, PySem.W.mg_none_of KX G ?b11, PySem.W.mg_none_of KX G ?b12, Ft.cst KX G ?c1 ?r1, Ft.cst KX G ?c2 ?r2, Ft.cst KX G ?c3 ?r3, Ft.cst KX G ?c4 ?r4, Ft.cst KX G ?c5 ?r5, Ft.cst KX G ?c6 ?r6⟩
      (Ft.exAt_mk KX G PySem.F.excBase_ValueError PySem.F.store_ValueError K5.ini_InvalidKinds (fun _ _ _ _ _ _ _ _ => rfl) ?xg ?xini ?xl ?xc ?xkf ?xi1 ?xi2 ?xi3 ?xi4 ?xe1 ?xe2 ?xhd ?xsa ?xga ?xgg ?xex ?xty ?xkp ?xfn ?xno)
      (Ft.exAt_mk KX G PySem.F.excBase_ValueError PySem.F.store_ValueError K5.ini_InvalidConstructors (fun _ _ _ _ _ _ _ _ => rfl) ?yg ?yini ?yl ?yc ?ykf ?yi1 ?yi2 ?yi3 ?yi4 ?ye1 ?ye2 ?yhd ?ysa ?yga ?ygg ?yex ?yty ?ykp ?yfn ?yno)
      (Ft.exAt_mk KX G PySem.F.excBase_LookupError PySem.F.store_LookupError K5.ini_EmptyKind (fun _ _ _ _ _ _ _ _ => rfl) ?zg ?zini ?zl ?zc ?zkf ?zi1 ?zi2 ?zi3 ?zi4 ?ze1 ?ze2 ?zhd ?zsa ?zga ?zgg ?zex ?zty ?zkp ?zfn ?zno)
      ⟨⟨?s1, ?s2, ?s3, ?s4⟩, ?s5, ?s6, ?s7, ?s8⟩ (PySem.W.mg_of KX G ?s9) ⟨?s10, ?s11, ?s12, ?s13⟩ (L2.fun_mk ?s14 ?s15 ?s16) ⟨?q1, ?q2, ?q3⟩ (PySem.W.mg_of KX G ?t1) (PySem.W.mg_of KX G ?t2) (PySem.W.mg_of KX G ?t3) ?q4 ?q5
      (Ft.defAt KX G ?a1 ?l1 ?e1 ?k1) (Ft.defAt KX G ?a2 ?l2 ?e2 ?k2) (Ft.defAt KX G ?a3 ?l3 ?e3 ?k3) (Ft.defAt KX G ?a4 ?l4 ?e4 ?k4) (Ft.defAt KX G ?a5 ?l5 ?e5 ?k5) (Ft.defAt KX G ?a6 ?l6 ?e6 ?k6) (Ft.defAt KX G ?a7 ?l7 ?e7 ?k7) (Ft.defAt KX G ?a8 ?l8 ?e8 ?k8) (Ft.defAt KX G ?a9 ?l9 ?e9 ?k9) (Ft.defAt KX G ?a10 ?l10 ?e10 ?k10) (Ft.defAt KX G ?a11 ?l11 ?e11 ?k11) (Ft.defAt KX G ?a12 ?l12 ?e12 ?k12) (Ft.defAt KX G ?a13 ?l13 ?e13 ?k13) (Ft.defAt KX G ?a14 ?l14 ?e14 ?k14) (Ft.defAt KX G ?a15 ?l15 ?e15 ?k15) (Ft.defAt KX G ?a16 ?l16 ?e16 ?k16) (Ft.defAt KX G ?a17 ?l17 ?e17 ?k17) (Ft.defC KX G ?a18 ?l18 ?e18 ?k18) (Ft.tabIn_mk ?u11 ?u12 ?u13 ?u14) ?u2 ?u3
    (case b1 => k_is)
    (case b2 => k_is)
    (case b3 => k_is)
    (case b4 => k_is)
    (case b5 => k_is)
    (case b6 => k_is)
    (case b7 => k_is)
    (case b8 => k_is)
    (case b9 => k_is)
    (case b10 => k_is)
    (case b11 => k_is)
    (case b12 => k_is)
    (case c1 => k_is)
    (case c2 => k_is)
    (case c3 => k_is)
    (case c4 => k_is)
    (case c5 => k_is)
    (case c6 => k_is)
    (case r1 => exact ⟨_, rfl⟩)
    (case r2 => exact ⟨_, rfl⟩)
    (case r3 => exact ⟨_, rfl⟩)
    (case r4 => exact ⟨_, rfl⟩)
    (case r5 => exact ⟨_, rfl⟩)
    (case r6 => exact ⟨_, rfl⟩)
    (case xg => k_is)
    (case xini => k_is)
    (case xl => k_is)
    (case xc => k_is)
    (case xkf => k_is)
    (case xi1 => k_is)
    (case xi2 => k_is)
    (case xi3 => k_is)
    (case xi4 => k_is)
    (case xe1 => kx_is)
    (case xe2 => kx_is)
    (case xhd => k_is)
    (case xsa => k_is)
    (case xga => k_is)
    (case xgg => k_is)
    (case xex => k_is)
    (case xty => k_is)
    (case xkp => k_is)
    (case xfn => k_is)
    (case xno => k_is)
    (case yg => k_is)
    (case yini => k_is)
    (case yl => k_is)
    (case yc => k_is)
    (case ykf => k_is)
    (case yi1 => k_is)
    (case yi2 => k_is)
    (case yi3 => k_is)
    (case yi4 => k_is)
    (case ye1 => kx_is)
    (case ye2 => kx_is)
    (case yhd => k_is)
    (case ysa => k_is)
    (case yga => k_is)
    (case ygg => k_is)
    (case yex => k_is)
    (case yty => k_is)
    (case ykp => k_is)
    (case yfn => k_is)
    (case yno => k_is)
    (case zg => k_is)
    (case zini => k_is)
    (case zl => k_is)
    (case zc => k_is)
    (case zkf => k_is)
    (case zi1 => k_is)
    (case zi2 => k_is)
    (case zi3 => k_is)
    (case zi4 => k_is)
    (case ze1 => kx_is)
    (case ze2 => kx_is)
    (case zhd => k_is)
    (case zsa => k_is)
    (case zga => k_is)
    (case zgg => k_is)
    (case zex => k_is)
    (case zty => k_is)
    (case zkp => k_is)
    (case zfn => k_is)
    (case zno => k_is)
    (case s9 => k_is)
    (case s11 => k_is)
    (case s1 => k_is)
    (case s2 => k_is)
    (case s3 => k_is)
    (case s4 => k_is)
    (case s5 => (show PySem.W.findIn _ _ _ = _); k_is)
    (case s6 => (show PySem.W.findIn _ _ _ = _); k_is)
    (case s7 => (show PySem.W.findIn _ _ _ = _); k_is)
    (case s8 => (show PySem.W.findIn _ _ _ = _); k_is)
    (case s10 => k_is)
    (case s12 => k_is)
    (case s13 => k_is)
    (case s14 => k_is)
    (case s15 => k_is)
    (case s16 => k_is)
    (case t1 => k_is)
    (case t2 => k_is)
    (case t3 => k_is)
    (case q1 => kit_is)
    (case q2 => kit_is)
    (case q3 => kit_is)
    (case q4 => kts_exm)
    (case q5 => kts_exm)
    (case a1 => k_is)
    (case l1 => k_is)
    (case e1 => k_is)
    (case k1 => k_is)
    (case a2 => k_is)
    (case l2 => k_is)
    (case e2 => k_is)
    (case k2 => k_is)
    (case a3 => k_is)
    (case l3 => k_is)
    (case e3 => k_is)
    (case k3 => k_is)
    (case a4 => k_is)
    (case l4 => k_is)
    (case e4 => k_is)
    (case k4 => k_is)
    (case a5 => k_is)
    (case l5 => k_is)
    (case e5 => k_is)
    (case k5 => k_is)
    (case a6 => k_is)
    (case l6 => k_is)
    (case e6 => k_is)
    (case k6 => k_is)
    (case a7 => k_is)
    (case l7 => k_is)
    (case e7 => k_is)
    (case k7 => k_is)
    (case a8 => k_is)
    (case l8 => k_is)
    (case e8 => k_is)
    (case k8 => k_is)
    (case a9 => k_is)
    (case l9 => k_is)
    (case e9 => k_is)
    (case k9 => k_is)
    (case a10 => k_is)
    (case l10 => k_is)
    (case e10 => k_is)
    (case k10 => k_is)
    (case a11 => k_is)
    (case l11 => k_is)
    (case e11 => k_is)
    (case k11 => k_is)
    (case a12 => k_is)
    (case l12 => k_is)
    (case e12 => k_is)
    (case k12 => k_is)
    (case a13 => k_is)
    (case l13 => k_is)
    (case e13 => k_is)
    (case k13 => k_is)
    (case a14 => k_is)
    (case l14 => k_is)
    (case e14 => k_is)
    (case k14 => k_is)
    (case a15 => k_is)
    (case l15 => k_is)
    (case e15 => k_is)
    (case k15 => k_is)
    (case a16 => k_is)
    (case l16 => k_is)
    (case e16 => k_is)
    (case k16 => k_is)
    (case a17 => k_is)
    (case l17 => k_is)
    (case e17 => k_is)
    (case k17 => k_is)
    (case a18 => k_is)
    (case l18 => k_is)
    (case e18 => k_is)
    (case k18 => k_is)
    (case u11 => k_is)
    (case u12 => k_is)
    (case u13 => k_is)
    (case u14 => exact rfl)
    (case u2 => with_unfolding_all exact rfl)
    (case u3 => decide +kernel)
#print axioms PySem.Challenge.cw_fivetrees_k05_kinds_without_trees_holds

