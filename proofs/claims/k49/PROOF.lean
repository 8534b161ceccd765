import PyProof.Rows.All
import Wide.All
import OpenK.AllK
import Wide.FinOn
import HandS.ForMost
import HandS.WordsExc
import HandS.IsInst
import HandS.Evl
import HandS.Walk
import KE.GoesEnum
import KE.KExcInit
import HandS.ExcInit
import HandS.ExcIs
import HandS.HotCalls
import HandS.ExcField
import KE.KTryMore
import HandS.Lambda
import HandS.EndTab
import HandS.TupAny
import HandS.RaiseMore
import PyProof.StrLawsRepr
import HandS.MakeKwOnly
import HandS.Deep
import HandS.SetTxt0
import HandS.Strs
import HandS.Star
import HandS.Flow
import KE.DataEq
import HandS.Conv
import HandS.Style
import HandS.FStr
import HandS.Dict
import HandS.Set
import PyProof.Rows.SortStr
import KE.KExcLine
import KE.RegKIsAll
import KE.RegKTryMore
import PySem.Challenge.RW_fivetrees_k49_texts_without
set_option Elab.async false
set_option maxRecDepth 100000
set_option maxHeartbeats 4000000
set_option linter.all false
/-! Own layer G: promises of defs that are only called where no built-in's guard lies on the stack (so that repr may be asked). -/
namespace Ft
open PySem PySem.Spec PyProof.Rows L2

/-- as a def's promise, for stacks without guards -/
structure FnG (P : Program) (w : World) (K : PySem.W.Frag) (mg : Str → Option Value) (base : Heap) (CX : CXT) (k : Nat) (f : Addr)
    (fd : FuncData) (ps : List Str) (sp : Sp) : Prop where
  gLen : ∀ vs H Q E, sp vs H Q E → vs.length = ps.length
  gRun : ∀ (A : Around), A.guards = some [] → Room k A → ∀ (outer : List Env) (s : Shared) (H : Hp), Env0 P w K mg base A outer s H →
    ∀ (args : Args) (us : List Value) (vs : List V) (Q : VK) (E : XK), BindsTo s fd args (ps.zip us) → Vals vs us → sp vs H Q E →
      codeAny (model P w) A (.call (.ref f) args) (CR CX outer P w H s Q E) s

section
variable {P : Program} {w : World} {K : PySem.W.Frag} {mg : Str → Option Value} {base : Heap} {CX : CXT} {j k : Nat} {f : Addr} {fd : FuncData} {ps : List Str} {sp sp' : Sp}
theorem ofOk (F : FnOk P w K mg base CX k f fd ps sp) : FnG P w K mg base CX k f fd ps sp :=
  ⟨F.len, fun A _ hr outer s H e0 args us vs Q E hb r h => F.run A outer s H args us vs Q E hr e0 hb r h⟩
theorem FnG.mono (F : FnG P w K mg base CX j f fd ps sp) (h : j ≤ k) : FnG P w K mg base CX k f fd ps sp :=
  ⟨F.gLen, fun A hg hr => F.gRun A hg (hr.mono h)⟩
theorem FnG.imp (F : FnG P w K mg base CX k f fd ps sp) (h : ∀ vs H Q E, sp' vs H Q E → sp vs H Q E) : FnG P w K mg base CX k f fd ps sp' :=
  ⟨fun vs H Q E q => F.gLen vs H Q E (h vs H Q E q), fun A hg hr outer s H e0 args us vs Q E hb r q => F.gRun A hg hr outer s H e0 args us vs Q E hb r (h _ _ _ _ q)⟩

/-- the rule for a def of the text, by its body -/
theorem fnG {name qual : Str} {params : Arguments} {body : List Stmt} {scope : Scope} {dV kV doc pm cdv ct oc : Value} {an od : Option Addr} {osl : Array (Option Value)} {N : List Str}
    (lk : K.lookup f = some ⟨oc, od, .func (PySem.W.fnOf name qual params body scope dV kV doc pm an cdv ct), osl⟩) (hcd : PySem.W.codeIn K cdv qual = true)
    (S : FnScope N ps scope) (len : ∀ vs H Q E, sp vs H Q E → vs.length = ps.length)
    (hb : ∀ (A : Around) (outer : List Env) (s : Shared) (H : Hp) (vs : List V) (Q : VK) (E : XK), A.guards = some [] →
      Room k (A.deeper (envOfC qual scope s.heap.objs.size f cdv)) → sp vs H Q E →
      ∃ t, PSs (cxOf CX P w K mg base N qual scope f cdv A outer s H E) body t ∧ t ⟨fun _ H' => Q .non H', Q, fun _ _ => False, fun _ _ => False⟩ (start N vs) H) :
    FnG P w K mg base CX (k + 1) f (PySem.W.fnOf name qual params body scope dV kV doc pm an cdv ct) ps sp := by
  constructor
  · exact len
  intro A hg hr outer s H e0 args us vs Q E bt vv hsp
  have inK : K.In s.heap := e0.mod.kin.keeps fun b o q => (e0.bs b o q).1
  have nolim : s.heap.NoLimit := e0.mod.nolimit.keeps fun b o q => (e0.bs b o q).1
  apply codeAny_call_function hr.depth (inK f _ lk) rfl S.co S.gen rfl (PySem.W.codeRec_of inK hcd)
  apply bt
  apply wpAny_newFunctionEnv_cells S.kind
  · rintro ⟨n, v⟩ hm
    cases S.par n (List.of_mem_zip hm).1 with
    | inl q => exact Or.inl q
    | inr q => exact Or.inr ⟨q, PySem.W.cellsFrom_some _ _ _ (Or.inl q)⟩
  · intro env henv s1 ic
    cases henv
    refine And.intro (nolim.keeps ic.toInCall.keep) (codeAny_func ?_)
    obtain ⟨t, d, rd⟩ := hb A outer s H vs Q E hg (hr.deeper _) hsp
    have J := inv_start (CX := CX) (E := E) S hr.hd e0 (len vs H Q E hsp) vv ic
    apply wpAny_mono (d.run [] s1 (start N vs) H _ J rd)
    · intro fl s2 hfl
      match fl, hfl with
      | .ret u, ⟨v, σ', H', J', rv, q⟩ => exact ⟨v, H', J'.os, J'.bare, J'.base, J'.hok, rv, q⟩
      | .next, ⟨σ', H', J', q⟩ => exact ⟨V.non, H', J'.os, J'.bare, J'.base, J'.hok, rfl, q⟩
      | .brk, ⟨_, _, _, q⟩ => exact q.elim
      | .cont, ⟨_, _, _, q⟩ => exact q.elim
    · intro e s2 q
      exact q
end

section
variable {P : Program} {w : World} {K : PySem.W.Frag} {mg : Str → Option Value} {base : Heap}
/-- no exception leaves -/
theorem okG {x qual : Str} {st : Stmt} {f : Addr} {fd : FuncData} {N ps : List Str} {k : Nat} {sp : Sp} (F : Fun K x qual st f fd) (S : FnScope N ps (defScope st))
    (len : ∀ vs H Q E, sp vs H Q E → vs.length = ps.length)
    (hb : ∀ (cdv : Value) (A : Around) (outer : List Env) (s : Shared) (H : Hp) (vs : List V) (Q : VK) (E : XK), A.guards = some [] →
      Room k (A.deeper (envOfC qual (defScope st) s.heap.objs.size f cdv)) → sp vs H Q E →
      ∃ t, PSs (cxOf CX0 P w K mg base N qual (defScope st) f cdv A outer s H E).nox (defBody st) t ∧ t ⟨fun _ H' => Q .non H', Q, fun _ _ => False, fun _ _ => False⟩ (start N vs) H) :
    FnG P w K mg base CX0 (k + 1) f fd ps sp := by
  obtain ⟨_, _, _, _, _, _, cdv, _, _, e, lk, hcd⟩ := F.ex
  subst e
  refine fnG lk hcd S len fun A outer s H vs Q E hg hr h => ?_
  obtain ⟨t, d, q⟩ := hb cdv A outer s H vs Q E hg hr h
  exact ⟨t, d.nox, q⟩
/-- exceptions may leave -/
theorem okGX {x qual : Str} {st : Stmt} {f : Addr} {fd : FuncData} {N ps : List Str} {k : Nat} {sp : Sp} (F : Fun K x qual st f fd) (S : FnScope N ps (defScope st))
    (len : ∀ vs H Q E, sp vs H Q E → vs.length = ps.length)
    (hb : ∀ (cdv : Value) (A : Around) (outer : List Env) (s : Shared) (H : Hp) (vs : List V) (Q : VK) (E : XK), A.guards = some [] →
      Room k (A.deeper (envOfC qual (defScope st) s.heap.objs.size f cdv)) → sp vs H Q E →
      ∃ t, PSs (cxOf (L2.CX P w) P w K mg base N qual (defScope st) f cdv A outer s H E) (defBody st) t ∧ t ⟨fun _ H' => Q .non H', Q, fun _ _ => False, fun _ _ => False⟩ (start N vs) H) :
    FnG P w K mg base (L2.CX P w) (k + 1) f fd ps sp := by
  obtain ⟨_, _, _, _, _, _, cdv, _, _, e, lk, hcd⟩ := F.ex
  subst e
  exact fnG lk hcd S len (hb cdv)
end

section
variable {X : Cx} {CX : CXT} {k : Nat} {f C : Addr} {fd : FuncData} {ps ks : List Str} {sp : Sp} {E : XK} {x m : Str} {p pos apos : Pos} {e o : Expr} {es : List Expr} {kws : List Keyword} {ta : TE} {t tk : TA}
theorem runG {pins : List (Addr × Obj)} {σ : L2.St} {H : Hp} {s : Shared} {Q : VK} {args : Args} {us : List Value} {vs : List V} (F : FnG X.prog X.w X.K X.mg X.base CX k f fd ps sp) (hg : X.A.guards = some []) (hr : Room k X.A)
    (hx : Passes CX X E) (I : Inv X pins σ H s) (bt : BindsTo s fd args (ps.zip us)) (r : Vals vs us) (h : sp vs H Q E) :
    codeAny (model X.prog X.w) X.A (.call (.ref f) args) (fun r s' => match r with
      | .ok (.ret u) => EP X pins σ Q u s'
      | .ok _ => False
      | .error e => X.xe e s') s := by
  apply codeAny_mono (F.gRun X.A hg hr X.stack s H I.env0 args us vs Q E bt r h)
  intro res s2 q
  match res, q with
  | .ok (.ret u), q => exact I.after q
  | .ok .next, q => exact q
  | .ok .brk, q => exact q
  | .ok .cont, q => exact q
  | .error e, q => exact hx pins σ H s e s2 I q
theorem callG {pins : List (Addr × Obj)} {σ : L2.St} {H : Hp} {s : Shared} {Q : VK} {us : List Value} {vs : List V} (F : FnG X.prog X.w X.K X.mg X.base CX k f fd ps sp) (hg : X.A.guards = some []) (hr : Room k X.A)
    (hb : Binds X.K fd ps []) (hx : Passes CX X E) (I : Inv X pins σ H s) (r : Vals vs us) (h : sp vs H Q E) : wpAny (model X.prog X.w) X.A (call (.ref f) us) (EP X pins σ Q) X.xe s := by
  have hl : us.length = ps.length := r.length.symm.trans (F.gLen vs H Q E h)
  have bt := hb s us I.kIn (by rw [List.append_nil]; exact hl)
  rw [List.append_nil] at bt
  apply wpAny_call
  apply codeAny_mono (runG (E := E) F hg hr hx I bt r h)
  intro res s2 q
  match res, q with
  | .ok (.ret u), q => exact q
  | .ok .next, q => exact False.elim q
  | .ok .brk, q => exact False.elim q
  | .ok .cont, q => exact False.elim q
  | .error e, q => exact q
end

/-- a def of the module: its promise, its place, how it binds -/
structure Has (P : Program) (w : World) (K : PySem.W.Frag) (mg : Str → Option Value) (base : Heap) (CX : CXT) (k : Nat) (x : Str) (ps : List Str) (sp : Sp) : Prop where
  ex : ∃ (f : Addr) (fd : FuncData), FnG P w K mg base CX k f fd ps sp ∧ mg x = some (.ref f) ∧ PySem.W.keepIn K (.ref f) = true ∧ Binds K fd ps []
section
variable {X : Cx} {CX : CXT} {k : Nat} {ps : List Str} {sp : Sp} {E : XK} {x : Str} {p pos : Pos} {e : Expr} {es : List Expr} {t : TA}
theorem pe_f (F : Has X.prog X.w X.K X.mg X.base CX k x ps sp) (hg : X.A.guards = some []) (hr : Room k X.A) (hx : Passes CX X E) (gl : Gl X x) (ha : PA X (e :: es) t)
    (hdb : (x == ("__debug__" : Str)) = false := by decide) (he : starEach (e :: es) X.env = (false, eval e X.env) :: starEach es X.env := by rfl) (hpl : (backTo pos (starEach es X.env)).any (·.1) = false := by rfl) :
    PE X (.Call (.Name x p) (e :: es) [] pos) (tCall sp [] E t) := by
  obtain ⟨f, fd, G, hm, hk, hb⟩ := F.ex
  constructor
  intro pins s σ H Q I h
  apply wpAny_Call_Name_kw
  apply ld_glob I gl hm _ hdb
  apply PySem.W.callWith_K (h₀ := X.base) I.ok.mod.kin hk _ he hpl
  apply thn (ha.run pos pins s σ H _ I h)
  rintro us s1 ⟨vs, H1, I1, r, q⟩
  rw [List.append_nil] at q
  exact ⟨I1.kIn, callG G hg hr hb hx I1 r q⟩
theorem pe_f0 (F : Has X.prog X.w X.K X.mg X.base CX k x ps sp) (hg : X.A.guards = some []) (hr : Room k X.A) (hx : Passes CX X E) (gl : Gl X x)
    (hdb : (x == ("__debug__" : Str)) = false := by decide) : PE X (.Call (.Name x p) [] [] pos) (tCall sp [] E tNil) := by
  obtain ⟨f, fd, G, hm, hk, hb⟩ := F.ex
  constructor
  intro pins s σ H Q I h
  apply wpAny_Call_Name_kw
  apply ld_glob I gl hm _ hdb
  exact PySem.W.callWith_K0 I.kIn hk (callG (us := []) G hg hr hb hx I .nil h)
end
/-- repr of data -/
theorem call_reprD {X : Cx} (hg : X.A.guards = some []) (hu : X.A.units + 64 < cLine) : CallR X (.builtin "repr") (fun xs H Q => ∃ a d, xs = [.ref a] ∧ Dp X.K H (.ref a) d ∧ d.showable = true ∧ d.hasDict = false ∧ d.depth ≤ 60 ∧ d.shown.length ≤ sizeLine ∧ Q (.str d.shown) H) := by
  rintro pins s σ H xs us Q I r ⟨a, d, rfl, hd, hs, hn, hdp, hz, q⟩
  obtain ⟨u, rfl, ru⟩ := vals1 r
  cases ru
  obtain ⟨as, rd⟩ := Dp.reads I d (.ref a) (.ref a) hd rfl
  refine repr_of_reads' rd hs (PyData.noDict_hsm hn) hg (by omega) (fun _ _ z => z) (fun h' u tk keep => ?_) hz
  exact ⟨.str d.shown, H, I.kept keep, ⟨u, rfl⟩, q⟩
end Ft

/-! The end of a law row over the layer G. -/
namespace Ft
open PySem PySem.Spec PyProof.Rows L2

theorem lawEnd {P : Program} {w : World} {K : PySem.W.Frag} {mg mb : Str → Option Value} {k : Nat} {fa a : Addr} {fd : FuncData} {x : Str} {sp : Sp} {s : Shared} {vs : List Value} {ns : List Int}
    (inK : K.In s.heap) (hG : s.heap.Ns mainGlobals mg) (hB : s.heap.Ns builtinsNs mb) (hBB : ∀ y : Str, y ≠ "__name__" → mb y = bootBuiltins y) (nolim : s.heap.NoLimit) (nogen : s.gens = #[])
    (ha : s.heap.get? a = some { cls := .type "list", data := .seq vs.toArray }) (hints : IntsAre vs ns) (hlen : ns.length ≤ sizeLine) (room : Room k callerA)
    (F : ∀ base : Heap, K.In base → base.Ns mainGlobals mg → FnG P w K mg base CX0 k fa fd [x] sp)
    (bt : ∀ (s : Shared) (u : Value), BindsTo s fd ⟨[u], []⟩ [(x, u)])
    (hsp : ∀ H : Hp, SqL K H a (ns.map V.int) → sp [.ref a] H (fun v _ => v = .bl true) E0) :
    codeAny (model P w) callerA (.call (.ref fa) ⟨[.ref a], []⟩) (fun r s' => r = .ok (.ret (.bool true)) ∧ OldK s.heap s'.heap ∧ s'.os = s.os ∧ AllBare s'.gens) s := by
  have rel := vals_ints hints
  -- the script is tracked unless it is one of the written objects
  let ob : Obj := { cls := .type "list", data := .seq vs.toArray }
  let H : Hp := fun b => if b = a ∧ K.lookup a = none then some (.frz ob (.lst (ns.map V.int))) else none
  have Hsome : ∀ {b : Addr} {u : HO}, H b = some u → b = a ∧ K.lookup a = none ∧ u = .frz ob (.lst (ns.map V.int)) := by
    intro b u q
    by_cases c : b = a ∧ K.lookup a = none
    · have q' : some (HO.frz ob (.lst (ns.map V.int))) = some u := (if_pos c).symm.trans q
      exact ⟨c.1, c.2, (Option.some.inj q').symm⟩
    · have q' : (none : Option HO) = some u := (if_neg c).symm.trans q
      cases q'
  have Hnone : ∀ {b : Addr} {o : Obj} {es : Array DictEntry} {ep : Nat}, s.heap.get? b = some o → o.data = .dict es ep → H b = none := by
    intro b o es ep e1 e2
    cases c : H b with
    | none => rfl
    | some u =>
      obtain ⟨rfl, -, -⟩ := Hsome c
      rw [ha] at e1
      cases e1
      exact absurd e2 (by intro z; cases z)
  let base := hidT s.heap H
  have onto : ∀ {b : Addr} {m : Str → Option Value}, s.heap.Ns b m → base.Ns b m := by
    rintro b m ⟨o, es, ep, e1, e2, r⟩
    exact ⟨o, es, ep, hidT_get e1 (Hnone e1 e2), e2, r⟩
  have inB : K.In base := by
    intro b o e
    apply hidT_get (inK b o e)
    cases c : H b with
    | none => rfl
    | some u =>
      obtain ⟨rfl, z, -⟩ := Hsome c
      exact absurd (z.symm.trans e) (by intro y; cases y)
  have sq : SqL K H a (ns.map V.int) := by
    cases c : K.lookup a with
    | none => exact .inl (.inr ⟨ob, if_pos ⟨rfl, c⟩⟩)
    | some o =>
      have e := inK a o c
      rw [ha] at e
      cases e
      refine .inr ⟨_, vs.toArray, _, c, rfl, rfl, rfl, ?_, ?_⟩
      · rw [List.size_toArray, ← rel.length, List.length_map]
        exact hlen
      · rw [List.toList_toArray]
        exact rel
  have hok : HOk P w H s.heap := by
    intro b u q
    obtain ⟨rfl, -, rfl⟩ := Hsome q
    exact ⟨ha, by rw [List.length_map]; exact hlen, vs, _, rel, ha⟩
  have nomem : ∀ b : Addr, b ∉ frs ([] : List Env) := fun b z => by
    cases z
  have e0 : Env0 P w K mg base callerA [] s H :=
    { frames := rfl, mod := ⟨inB, onto hG, ⟨mb, onto hB, hBB⟩, ?lim⟩, bs := fun b o e => of_hidT e, bsz := Nat.le_of_eq (hidT_size s.heap H), funs := trivial, frf := fun b z => absurd z (nomem b), hok := hok, bare := .of_eq nogen }
  case lim =>
    obtain ⟨mc, h1, h2⟩ := nolim
    exact ⟨mc, onto h1, h2⟩
  apply codeAny_mono ((F base inB (onto hG)).gRun callerA rfl room [] s H e0 ⟨[.ref a], []⟩ [.ref a] [.ref a] _ _ (bt s (.ref a)) (.cons rfl .nil) (hsp H sq))
  intro r s2 q
  match r, q with
  | .error e, q => exact False.elim q
  | .ok .next, q => exact False.elim q
  | .ok .brk, q => exact False.elim q
  | .ok .cont, q => exact False.elim q
  | .ok (.ret u), ⟨v, H2, hos, hbare, un, hok2, rv, hv⟩ =>
    cases (show v = .bl true from hv)
    cases (show u = Value.bool true from rv)
    refine ⟨rfl, OldK.of_keep fun b o e => ?_, hos, hbare⟩
    cases c : H b with
    | none => exact un.keep b o e c (nomem b) (by intro z; cases z)
    | some y =>
      obtain ⟨rfl, -, rfl⟩ := Hsome c
      rw [ha] at e
      cases e
      exact (hok2 _ _ (un.frzs _ _ _ c)).1

theorem walkG {l : PySem.W.OpenLaw} {n k : Nat} {q : Program} {loose : List Str} {XP : (Str → Option Value) → Heap → Prop} {YP : World → Heap → Prop} {d : DefRec} {K : Params → PySem.W.Frag} {sp : PySem.W.Frag → Sp} {x : Str}
    (hn : l.most = some n) (hn2 : n ≤ sizeLine) (hdf : d.params.defaults = []) (room : Room k callerA) (hY : ∀ (w : World) (h : Heap), YP w h → (K w.params).In h)
    (F : ∀ (w : World) (mg : Str → Option Value) (fa : Addr) (h : Heap), (K w.params).In h → h.Ns mainGlobals mg → mg d.name = some (.ref fa) →
      ∃ fd : FuncData, (∀ (s : Shared) (u : Value), BindsTo s fd ⟨[u], []⟩ [(x, u)]) ∧
        ∀ base : Heap, (K w.params).In base → base.Ns mainGlobals mg → FnG l.prog w (K w.params) mg base CX0 k fa fd [x] (sp (K w.params)))
    (hsp : ∀ (K : PySem.W.Frag) (H : Hp) (a : Addr) (ns : List Int), ns.length ≤ n → SqL K H a (ns.map V.int) → sp K [.ref a] H (fun v _ => v = .bl true) E0) :
    PySem.W.WalkO q loose XP YP l.row.toRowW d [] (fun f vs => PySem.call f vs) := by
  apply Att.attach_call hn hdf
  intro w s0 s1 mg mb fa o pm cd doc a vs ns G Y _ _ _ hmg hobj hints hlen hg
  obtain ⟨fd, b, F'⟩ := F w mg fa _ (hY w _ Y) G.T.g hmg
  exact lawEnd (hY w _ Y) G.T.g G.T.b G.T.builtins G.T.nolimit hg hobj hints (Nat.le_trans hlen hn2) room F' b fun H hS => hsp _ H a ns hlen hS
end Ft

namespace Ft
open PySem PySem.Spec PyProof.Rows L2
/-! ### built-in names -/
theorem bt_len : bootBuiltins "len" = some (.builtin "len") := by decide +kernel
theorem bt_abs : bootBuiltins "abs" = some (.builtin "abs") := by decide +kernel
theorem bt_max : bootBuiltins "max" = some (.builtin "max") := by decide +kernel
theorem bt_min : bootBuiltins "min" = some (.builtin "min") := by decide +kernel
theorem bt_all : bootBuiltins "all" = some (.builtin "all") := by decide +kernel
theorem bt_any : bootBuiltins "any" = some (.builtin "any") := by decide +kernel
theorem bt_sum : bootBuiltins "sum" = some (.builtin "sum") := by decide +kernel
theorem bt_repr : bootBuiltins "repr" = some (.builtin "repr") := by decide +kernel
theorem bt_isinstance : bootBuiltins "isinstance" = some (.builtin "isinstance") := by decide +kernel
theorem bt_divmod : bootBuiltins "divmod" = some (.builtin "divmod") := by decide +kernel
theorem bt_sorted : bootBuiltins "sorted" = some (.builtin "sorted") := by decide +kernel
theorem bt_int : bootBuiltins "int" = some (.type "int") := by decide +kernel
theorem bt_str : bootBuiltins "str" = some (.type "str") := by decide +kernel
theorem bt_bool : bootBuiltins "bool" = some (.type "bool") := by decide +kernel
theorem bt_list : bootBuiltins "list" = some (.type "list") := by decide +kernel
theorem bt_tuple : bootBuiltins "tuple" = some (.type "tuple") := by decide +kernel
theorem bt_set : bootBuiltins "set" = some (.type "set") := by decide +kernel

/-- a module's constant -/
def Cst (mg : Str → Option Value) (x : Str) (v : V) : Prop := ∃ u, mg x = some u ∧ RelV v u
theorem pe_const {X : Cx} {x : Str} {v : V} {pos : Pos} (h : Cst X.mg x v) (hg : Gl X x) (hd : (x == ("__debug__" : Str)) = false := by decide) : PE X (.Name x pos) (tC v) := by
  obtain ⟨u, hm, r⟩ := h
  exact pe_glob hg hm r hd

/-! ### calls by keywords -/
structure KwB (K : PySem.W.Frag) (fd : FuncData) (ps : List Str) (n : Nat) (ks : List Str) (g : {α : Type} → List α → List α → List α) : Prop where
  to : ∀ (s : Shared) (us ws : List Value), K.In s.heap → us.length = n → ws.length = ks.length → BindsTo s fd ⟨us, ks.zip ws⟩ (ps.zip (g us ws))
  rel : ∀ {vs zs : List V} {us ws : List Value}, Vals vs us → Vals zs ws → Vals (g vs zs) (g us ws)
structure HasK (P : Program) (w : World) (K : PySem.W.Frag) (mg : Str → Option Value) (base : Heap) (CX : CXT) (k : Nat) (x : Str) (ps : List Str) (n : Nat) (ks : List Str) (g : {α : Type} → List α → List α → List α) (sp : Sp) : Prop where
  ex : ∃ (f : Addr) (fd : FuncData), FnG P w K mg base CX k f fd ps sp ∧ mg x = some (.ref f) ∧ PySem.W.keepIn K (.ref f) = true ∧ KwB K fd ps n ks g
def tFk (sp : Sp) (n m : Nat) (g : List V → List V → List V) (E : XK) (t tk : TA) : TE := fun σ H Q => t σ H fun vs H1 => tk σ H1 fun zs H2 => vs.length = n ∧ zs.length = m ∧ sp (g vs zs) H2 Q E
section
variable {X : Cx} {CX : CXT} {k n : Nat} {ps ks : List Str} {sp : Sp} {E : XK} {x : Str} {p pos : Pos} {e : Expr} {es : List Expr} {kws : List Keyword} {t tk : TA} {g : {α : Type} → List α → List α → List α}
theorem runK {pins : List (Addr × Obj)} {σ : L2.St} {H : Hp} {s : Shared} {Q : VK} {f : Addr} {fd : FuncData} {us ws : List Value} {vs zs : List V} (F : FnG X.prog X.w X.K X.mg X.base CX k f fd ps sp) (B : KwB X.K fd ps n ks g) (hg : X.A.guards = some [])
    (hr : Room k X.A) (hx : Passes CX X E) (I : Inv X pins σ H s) (r : Vals vs us) (rz : Vals zs ws) (h1 : vs.length = n) (h2 : zs.length = ks.length) (h : sp (g vs zs) H Q E) :
    wpAny (model X.prog X.w) X.A (call (.ref f) us (ks.zip ws)) (EP X pins σ Q) X.xe s := by
  apply wpAny_call
  apply codeAny_mono (runG (E := E) F hg hr hx I (B.to s us ws I.kIn (r.length.symm.trans h1) (rz.length.symm.trans h2)) (B.rel r rz) h)
  intro res s2 q
  match res, q with
  | .ok (.ret u), q => exact q
  | .ok .next, q => exact False.elim q
  | .ok .brk, q => exact False.elim q
  | .ok .cont, q => exact False.elim q
  | .error e, q => exact q
theorem pe_fk0 (F : HasK X.prog X.w X.K X.mg X.base CX k x ps 0 ks g sp) (hg : X.A.guards = some []) (hr : Room k X.A) (hx : Passes CX X E) (gl : Gl X x) (hkw : PK X kws tk)
    (hall : (backToKw pos (keywordEach kws X.env)).all (·.1.isSome) = true := by rfl) (hks : (backToKw pos (keywordEach kws X.env)).filterMap (·.1) = ks := by rfl) (hdb : (x == ("__debug__" : Str)) = false := by decide)
    (hpl : ((backTo pos (starEach [] X.env)).any (·.1) || (backToKw pos (keywordEach kws X.env)).any (·.1.isNone)) = false := by rfl) :
    PE X (.Call (.Name x p) [] kws pos) (tFk sp 0 ks.length g E tNil tk) := by
  obtain ⟨f, fd, G, hm, hk, hb⟩ := F.ex
  constructor
  intro pins s σ H Q I h
  apply wpAny_Call_Name_kw
  apply ld_glob I gl hm _ hdb
  apply PySem.W.callWith_KW0 (h₀ := X.base) I.ok.mod.kin hk hall _ hpl
  apply thn (hkw.run pos pins s σ H _ I h)
  rintro ws s2 ⟨zs, H2, I2, rz, h1, h2, q⟩
  refine ⟨I2.kIn, ?_⟩
  rw [hks]
  exact runK (us := []) G hb hg hr hx I2 .nil rz h1 h2 q
theorem pe_fk (F : HasK X.prog X.w X.K X.mg X.base CX k x ps n ks g sp) (hg : X.A.guards = some []) (hr : Room k X.A) (hx : Passes CX X E) (gl : Gl X x) (ha : PA X (e :: es) t) (hkw : PK X kws tk)
    (hall : (backToKw pos (keywordEach kws X.env)).all (·.1.isSome) = true := by rfl) (hks : (backToKw pos (keywordEach kws X.env)).filterMap (·.1) = ks := by rfl) (hdb : (x == ("__debug__" : Str)) = false := by decide)
    (he : starEach (e :: es) X.env = (false, eval e X.env) :: starEach es X.env := by rfl)
    (hpl : ((backTo pos (starEach (e :: es) X.env)).any (·.1) || (backToKw pos (keywordEach kws X.env)).any (·.1.isNone)) = false := by rfl) :
    PE X (.Call (.Name x p) (e :: es) kws pos) (tFk sp n ks.length g E t tk) := by
  obtain ⟨f, fd, G, hm, hk, hb⟩ := F.ex
  constructor
  intro pins s σ H Q I h
  apply wpAny_Call_Name_kw
  apply ld_glob I gl hm _ hdb
  apply PySem.W.callWith_KW (h₀ := X.base) I.ok.mod.kin hk hall _ hpl he
  apply thn (ha.run pos pins s σ H _ I h)
  rintro us s1 ⟨vs, H1, I1, r, q1⟩
  apply thn (hkw.run pos pins s1 σ H1 _ I1 q1)
  rintro ws s2 ⟨zs, H2, I2, rz, h1, h2, q⟩
  refine ⟨I2.kIn, ?_⟩
  rw [hks]
  exact runK G hb hg hr hx I2 r rz h1 h2 q
end

/-! ### a def that stands in the module -/
structure DefAt (K : PySem.W.Frag) (mg : Str → Option Value) (x : Str) (st : Stmt) (f : Addr) (fd : FuncData) : Prop where
  fn : Fun K x x st f fd
  at_ : mg x = some (.ref f)
section
variable {P : Program} {w : World} {K : PySem.W.Frag} {mg : Str → Option Value} {base : Heap} {CX : CXT} {k : Nat} {x : Str} {st : Stmt} {ps : List Str} {sp : Sp} {f : Addr} {fd : FuncData}
theorem DefAt.has (A : DefAt K mg x st f fd) (G : Fun K x x st f fd → FnG P w K mg base CX k f fd ps sp)
    (hb : ∀ (kV doc pm : Value) (an : Option Addr) (cdv ct : Value) (us : List Value), us.length = ps.length → bindArgs (PySem.W.fnOf x x (defArgs st) (defBody st) (defScope st) .none kV doc pm an cdv ct) ⟨us, []⟩ = pure (ps.zip us)) :
    Has P w K mg base CX k x ps sp := ⟨⟨f, fd, G A.fn, A.at_, A.fn.kp, A.fn.binds hb⟩⟩
theorem DefAt.hasK {n : Nat} {ks : List Str} {g : {α : Type} → List α → List α → List α} (A : DefAt K mg x st f fd) (G : Fun K x x st f fd → FnG P w K mg base CX k f fd ps sp)
    (hb : ∀ (kV doc pm : Value) (an : Option Addr) (cdv ct : Value) (us ws : List Value), us.length = n → ws.length = ks.length → bindArgs (PySem.W.fnOf x x (defArgs st) (defBody st) (defScope st) .none kV doc pm an cdv ct) ⟨us, ks.zip ws⟩ = pure (ps.zip (g us ws)))
    (hrel : ∀ {vs zs : List V} {us ws : List Value}, Vals vs us → Vals zs ws → Vals (g vs zs) (g us ws)) : HasK P w K mg base CX k x ps n ks g sp := by
  refine ⟨⟨f, fd, G A.fn, A.at_, A.fn.kp, ⟨fun s us ws _ h1 h2 => ?_, hrel⟩⟩⟩
  obtain ⟨_, _, kV, doc, pm, an, cdv, ct, _, e, _, _⟩ := A.fn.ex
  subst e
  exact .of_eq (hb kV doc pm an cdv ct us ws h1 h2)
end
theorem defAt {K : PySem.W.Frag} {mg : Str → Option Value} {h : Heap} {x : Str} {st : Stmt} {f : Addr} {oc : Value} {od an : Option Addr} {osl : Array (Option Value)} {kV doc pm cdv ct : Value} (X : K.In h) (G : h.Ns mainGlobals mg)
    (a : PySem.W.nsIn K mainGlobals x = some (some (.ref f))) (l : K.lookup f = some ⟨oc, od, .func (PySem.W.fnOf x x (defArgs st) (defBody st) (defScope st) .none kV doc pm an cdv ct), osl⟩)
    (c : PySem.W.codeIn K cdv x = true) (k : PySem.W.keepIn K (.ref f) = true) : DefAt K mg x st f (PySem.W.fnOf x x (defArgs st) (defBody st) (defScope st) .none kV doc pm an cdv ct) :=
  ⟨fun_mk l c k, PySem.W.mg_of X G a⟩
theorem cst {K : PySem.W.Frag} {mg : Str → Option Value} {h : Heap} {x : Str} {v : V} {u : Value} (X : K.In h) (G : h.Ns mainGlobals mg) (a : PySem.W.nsIn K mainGlobals x = some (some u)) (r : RelV v u) : Cst mg x v :=
  ⟨u, PySem.W.mg_of X G a, r⟩
/-- what stood stands, but for the list at d -/
def Mv (d : Addr) (H H' : Hp) : Prop := ∀ b o, b ≠ d → H b = some o → H' b = some o
theorem Mv.refl (d : Addr) (H : Hp) : Mv d H H := fun _ _ _ h => h
theorem Mv.trans {d : Addr} {H H1 H2 : Hp} (a : Mv d H H1) (b : Mv d H1 H2) : Mv d H H2 := fun x o n h => b x o n (a x o n h)
theorem Mv.same {d : Addr} {H H' : Hp} (a : Same H H') : Mv d H H' := fun x o _ h => a x o h
theorem Mv.upd {d : Addr} {H H' : Hp} {o : HO} (a : Mv d H H') : Mv d H (upd H' d o) := fun x u n h => by
  rw [upd_ne n]
  exact a x u n h
theorem Mv.new {d p : Addr} {H H' : Hp} {o : HO} (a : Mv d H H') (hp : H' p = none) : Mv d H (L2.upd H' p o) := fun x u n h => by
  rw [upd_ne (ne_of_none (a x u n h) hp)]
  exact a x u n h
theorem Mv.free {d D : Addr} {H H' : Hp} (m : Mv d H H') (n : D ≠ d) (h : H' D = none) : H D = none := by
  cases c : H D with
  | none => rfl
  | some o => exact absurd ((m D o n c).symm.trans h) (by intro z; cases z)
/-- what H does not know may change -/
theorem Mv.fresh {d D : Addr} {H H' : Hp} {o : HO} (m : Mv d H H') (h : H D = none) : Mv d H (L2.upd H' D o) := fun x u n hx => by
  rw [upd_ne (ne_of_none hx h)]
  exact m x u n hx
theorem same_fresh {D : Addr} {H H' : Hp} {o : HO} (m : Same H H') (h : H D = none) : Same H (L2.upd H' D o) := fun x u hx => by
  rw [upd_ne (ne_of_none hx h)]
  exact m x u hx
theorem same_new {H : Hp} {p : Addr} {o : HO} (hp : H p = none) : Same H (upd H p o) := fun x u h => by
  rw [upd_ne (ne_of_none h hp)]
  exact h
theorem same_tup {K : PySem.W.Frag} {H H' : Hp} {a : Addr} {xs : List V} (e : Same H H') (h : SqT K H a xs) : SqT K H' a xs := by
  rcases h with (h | ⟨o, h⟩) | h
  · exact .inl (.inl (e _ _ h))
  · exact .inl (.inr ⟨o, e _ _ h⟩)
  · exact .inr h
end Ft

/-! Drawing, names, texts. -/
namespace Ft
open PySem L2
/-- the list that is drawn from -/
def Deal (H : Hp) (d : Addr) : Prop := ∃ a b c : Int, H d = some (.lst [.int a, .int b, .int c]) ∧ 0 ≤ a ∧ 0 ≤ b ∧ b < 2147483423 ∧ 0 ≤ c
abbrev tl (x : Str) : List Nat := x.cps.toList
def smallL : List Nat := (List.range 26).map (· + 97)
def nameL : List Nat := smallL ++ (List.range 10).map (· + 48)
/-- the signs of a name -/
def isNameL (l : List Nat) : Bool := decide (1 ≤ l.length) && decide (l.length ≤ 8) && decide (l.headD 0 ∈ smallL) && l.all fun c => decide (c ∈ nameL)
def isName (x : Str) : Prop := isNameL (tl x) = true
theorem tl_small : tl ("abcdefghijklmnopqrstuvwxyz" : Str) = smallL := by decide +kernel
theorem tl_naming : tl ("abcdefghijklmnopqrstuvwxyz0123456789" : Str) = nameL := by decide +kernel
theorem tl_w : tl ("w" : Str) = [119] := by decide +kernel
theorem len_tl (x : Str) : x.length = (tl x).length := by
  show x.cps.size = x.cps.toList.length
  simp
theorem tl_app (x y : Str) : tl (x ++ y) = tl x ++ tl y := TL.tl_append x y
theorem tl_one (c : Nat) : tl ⟨#[c]⟩ = [c] := rfl
theorem tl_ext {x y : Str} (h : tl x = tl y) : x = y := TL.ext_tl h
theorem isNameL_iff (l : List Nat) : isNameL l = true ↔ 1 ≤ l.length ∧ l.length ≤ 8 ∧ l.headD 0 ∈ smallL ∧ ∀ c ∈ l, c ∈ nameL := by
  unfold isNameL
  simp only [Bool.and_eq_true, decide_eq_true_eq, List.all_eq_true, and_assoc]
theorem isName_len {x : Str} (h : isName x) : 1 ≤ x.length ∧ x.length ≤ 8 := by
  have := (isNameL_iff _).mp h
  rw [len_tl]
  exact ⟨this.1, this.2.1⟩
theorem join_flat : ∀ ls : List (List Nat), TL.joinL [] ls = ls.flatten
  | [] => rfl
  | [p] => by simp [TL.joinL]
  | p :: q :: r => by
    rw [TL.joinL, join_flat (q :: r)]
    simp
theorem tl_empty : tl ("" : Str) = [] := by decide +kernel
theorem tl_join0 (ys : List Str) : tl (Txt.join ("" : Str) ys) = (ys.map tl).flatten := by
  rw [TL.join_eq]
  show TL.tl (Str.join _ _) = _
  rw [TL.tl_join]
  show TL.joinL (tl ("" : Str)) _ = _
  rw [tl_empty, join_flat]
theorem flat_ones : ∀ l : List Nat, ((l.map fun c => (⟨#[c]⟩ : Str)).map tl).flatten = l
  | [] => rfl
  | c :: l => by
    rw [List.map_cons, List.map_cons, List.flatten_cons, flat_ones l]
    rfl
theorem at_lt {xs : List V} {r : Int} (h0 : 0 ≤ r) (h1 : r < (xs.length : Int)) : ∃ v, v ∈ xs ∧ atI xs r = some v := by
  have hk : r.toNat < xs.length := by omega
  refine ⟨xs[r.toNat], List.getElem_mem hk, at_of (j := r.toNat) (by omega) (List.getElem?_eq_getElem hk)⟩
theorem at_ltN {l : List Nat} {r : Int} (h0 : 0 ≤ r) (h1 : r < (l.length : Int)) : ∃ c, c ∈ l ∧ atI l r = some c := by
  have hk : r.toNat < l.length := by omega
  refine ⟨l[r.toNat], List.getElem_mem hk, ?_⟩
  have := atI_nat (List.getElem?_eq_getElem hk)
  rwa [show ((r.toNat : Nat) : Int) = r by omega] at this
theorem Mv.seq {d a : Addr} {H H' : Hp} {xs : List V} {K : PySem.W.Frag} (m : Mv d H H') (n : a ≠ d) (h : SqL K H a xs) : SqL K H' a xs := by
  rcases h with (h | ⟨o, h⟩) | h
  · exact .inl (.inl (m _ _ n h))
  · exact .inl (.inr ⟨o, m _ _ n h⟩)
  · exact .inr h
theorem Mv.tup {d a : Addr} {H H' : Hp} {xs : List V} {K : PySem.W.Frag} (m : Mv d H H') (n : a ≠ d) (h : SqT K H a xs) : SqT K H' a xs := by
  rcases h with (h | ⟨o, h⟩) | h
  · exact .inl (.inl (m _ _ n h))
  · exact .inl (.inr ⟨o, m _ _ n h⟩)
  · exact .inr h
theorem Deal.new {H : Hp} {d p : Addr} {o : HO} (h : Deal H d) (hp : H p = none) : Deal (upd H p o) d := by
  obtain ⟨a, b, c, e, r⟩ := h
  exact ⟨a, b, c, by rw [upd_ne (ne_of_none e hp)]; exact e, r⟩
theorem Deal.put {H : Hp} {d p : Addr} {o : HO} (h : Deal H d) (n : p ≠ d) : Deal (upd H p o) d := by
  obtain ⟨a, b, c, e, r⟩ := h
  exact ⟨a, b, c, by rw [upd_ne n.symm]; exact e, r⟩
theorem Deal.same {H H' : Hp} {d : Addr} (h : Deal H d) (s : Same H H') : Deal H' d := by
  obtain ⟨a, b, c, e, r⟩ := h
  exact ⟨a, b, c, s _ _ e, r⟩
theorem Deal.ne {H : Hp} {d p : Addr} (h : Deal H d) (hp : H p = none) : p ≠ d := by
  obtain ⟨a, b, c, e, r⟩ := h
  exact (ne_of_none e hp).symm
/-- w0, w1, .. -/
def wk (k : Nat) : Str := ("w" : Str) ++ Str.ofString (toString ((k : Nat) : Int))
theorem tl_wk (k : Nat) : tl (wk k) = 119 :: TL.numL k := by
  unfold wk
  rw [tl_app, tl_w]
  show [119] ++ TL.tl (Str.ofString (toString ((k : Nat) : Int))) = _
  rw [TL.tl_num]
  rfl
theorem wk_inj {j k : Nat} (h : wk j = wk k) : j = k := by
  have e : tl (wk j) = tl (wk k) := by rw [h]
  rw [tl_wk, tl_wk] at e
  exact TL.numL_inj (List.cons.inj e).2
theorem wk_name {k : Nat} (h : k < 10 ^ 6) : isName (wk k) := by
  unfold isName
  rw [tl_wk, isNameL_iff]
  have hl := TL.numL_len (n := k) (k := 6) (by decide) h
  refine ⟨by simp, by simp; omega, (by show 119 ∈ smallL; decide), fun c hc => ?_⟩
  rcases List.mem_cons.mp hc with rfl | hc
  · decide
  · by_cases q : c < 48 ∨ 57 < c
    · exact absurd hc (TL.numL_free q)
    · have : c - 48 < 10 := by omega
      unfold nameL
      refine List.mem_append_right _ (List.mem_map.mpr ⟨c - 48, List.mem_range.mpr this, by omega⟩)
theorem nodup_le {α : Type} [DecidableEq α] : ∀ {l m : List α}, l.Nodup → (∀ x ∈ l, x ∈ m) → l.length ≤ m.length
  | [], _, _, _ => Nat.zero_le _
  | a :: l, m, hn, hs => by
    have hm := hs a List.mem_cons_self
    have h1 : ∀ x ∈ l, x ∈ m.erase a := fun x hx => by
      have hne : x ≠ a := fun e => (List.nodup_cons.mp hn).1 (e ▸ hx)
      exact (List.mem_erase_of_ne hne).mpr (hs x (List.mem_cons_of_mem _ hx))
    have h2 := nodup_le (List.nodup_cons.mp hn).2 h1
    have h3 := List.length_erase_of_mem hm
    have h4 : 0 < m.length := List.length_pos_of_mem hm
    rw [List.length_cons]
    omega
theorem wk_nodup (n : Nat) : ((List.range n).map wk).Nodup := by
  unfold List.Nodup
  rw [List.pairwise_map]
  exact List.Pairwise.imp (fun h e => h (wk_inj e)) List.nodup_range
theorem wk_free {ts : List Str} (h : ∀ j, j < ts.length → wk j ∈ ts) : wk ts.length ∉ ts := fun hm => by
  have := nodup_le (wk_nodup (ts.length + 1)) (m := ts) (fun x hx => by
    obtain ⟨j, hj, rfl⟩ := List.mem_map.mp hx
    have hj' := List.mem_range.mp hj
    by_cases e : j = ts.length
    · rw [e]; exact hm
    · exact h j (by omega))
  rw [List.length_map, List.length_range] at this
  omega
theorem inV_strs (x : Str) (ts : List Str) : inV (.str x) (ts.map V.str) = decide (x ∈ ts) := by
  unfold inV
  rw [List.any_map]
  induction ts with
  | nil => rfl
  | cons t ts ih =>
    rw [List.any_cons, ih]
    show ((t == x) || _) = _
    by_cases e : t = x
    · subst e; simp
    · have : (t == x) = false := by simp [e]
      rw [this, Bool.false_or]
      by_cases q : x ∈ ts
      · simp [q]
      · simp [q, Ne.symm e]
theorem flat_strs (ts : List Str) : (ts.map V.str).all flatV = true := by
  rw [List.all_eq_true]
  intro v hv
  obtain ⟨t, _, rfl⟩ := List.mem_map.mp hv
  rfl
theorem str_small_len : ("abcdefghijklmnopqrstuvwxyz" : Str).length = 26 := by decide +kernel
theorem str_naming_len : ("abcdefghijklmnopqrstuvwxyz0123456789" : Str).length = 36 := by decide +kernel
end Ft

/-! enumerate(tuple) in a for -/
namespace Ft
open PySem PySem.Spec PyProof.Rows L2
set_option maxHeartbeats 1000000 in
theorem meets_enum1 {v : Value} {o : Obj} {H : Heap → Prop} (B : Begins v o H) :
    Meets (Builtin.«enumerate.__new__» ⟨[.type "enumerate", v], []⟩) (fun _ R s => H s.heap ∧
      R (.ok (.ret (.ref (s.heap.push o).objs.size))) { s with heap := (s.heap.push o).push { cls := .type "enumerate", data := .fields #[.none, .bool false, .ref s.heap.objs.size, rawInt 0, .none, .none] } }) := by
  apply Meets.of_wp
  rintro prog w A R ⟨hp, g, d, tk, os⟩ ⟨h1, h⟩
  have hsub := sub_enumerate
  have q1 : ∀ {A' : Around} {E : Value → Shared → Prop} {Q : Value → Shared → Prop}, Q (.ref hp.objs.size) ⟨hp.push o, g, d, tk, os⟩ → wpAny (model prog w) A' (pyIter v) Q E ⟨hp, g, d, tk, os⟩ := by
    intro A' E Q q
    exact B.iter prog w A' E ⟨hp, g, d, tk, os⟩ Q h1 q
  wp_walk using q1
  apply wpAny_stack_any
  intro st
  apply wpAny_pure
  split
  · rename_i c _ _ _ _ _
    cases (c == Value.type "enumerate")
    · wp_walk using q1
      exact ⟨_, rfl, h⟩
    · wp_walk using q1
      exact ⟨_, rfl, h⟩
  · wp_walk using q1
    exact ⟨_, rfl, h⟩

theorem call_enum1 {prog : Program} {w : World} {A : Around} {E : Value → Shared → Prop} {s : Shared} {v : Value} {o : Obj} {H : Heap → Prop} {Q : Value → Shared → Prop} (B : Begins v o H) (h1 : H s.heap)
    (h : ∀ h', IsEnum h' (s.heap.objs.size + 1) s.heap.objs.size 0 .none → h'.get? s.heap.objs.size = some o → h'.objs.size = s.heap.objs.size + 2 →
      (∀ b o, s.heap.get? b = some o → h'.get? b = some o) → Q (.ref (s.heap.objs.size + 1)) { s with heap := h' }) :
    wpAny (model prog w) A (call (.type "enumerate") [v]) Q E s := by
  apply callType_new F.called_enumerate (by decide) (F.typeCall_enumerate_1 _) (F.newCall_enumerate_1 _) (fun obj => F.args_object_init_2 obj _) F.entry_enumerate_new (meets_enum1 B)
  refine ⟨h1, ?_⟩
  have sz : (s.heap.push o).objs.size = s.heap.objs.size + 1 := Heap.size_push ..
  have at1 : IsEnum ((s.heap.push o).push { cls := .type "enumerate", data := .fields #[.none, .bool false, .ref s.heap.objs.size, rawInt 0, .none, .none] }) (s.heap.objs.size + 1) s.heap.objs.size 0 .none := by
    have g := Heap.get?_push_size (s.heap.push o) (o := { cls := .type "enumerate", data := .fields #[.none, .bool false, .ref s.heap.objs.size, rawInt 0, .none, .none] }) rfl
    rw [sz] at g
    exact g
  show _ ∧ _
  rw [sz]
  constructor
  · exact ⟨_, at1, rfl⟩
  · apply h _ at1 (Heap.get?_push_of_some _ (Heap.get?_push_size _ B.free)) (by rw [Heap.size_push, sz])
    intro b u e
    exact Heap.get?_push_of_some _ (Heap.get?_push_of_some _ e)

/-- the tuple at a, each item in a new pair with its number -/
def IteT (K : PySem.W.Frag) (a : Addr) : It where
  go i H := ∃ (xs : List V) (x : V), SqT K H a xs ∧ xs[i]? = some x
  yld i H v H' := ∃ T x, v = .ref T ∧ H T = none ∧ H' = upd H T (.tup [.int (i : Nat), x]) ∧ ∀ xs, SqT K H a xs → xs[i]? = some x
  stop i H := ∃ xs : List V, SqT K H a xs ∧ xs.length = i
theorem turn_enumT {P : Program} {w : World} {K : PySem.W.Frag} {elts : List Expr} {kk : Nat} {tpos : Pos} (a e it : Addr) :
    Turn P w K (.Tuple elts kk tpos) (IteT K a) [e, it] e (fun i h => (∃ old, IsEnum h e it ((i : Nat) : Int) old) ∧ h.IsTupleIter it a i ∧ e ≠ it ∧ a ≠ it ∧ a ≠ e) := by
  constructor
  · exact List.mem_cons_self
  · rintro i h ⟨⟨old, he⟩, ⟨o, ho, hc, hd⟩, _⟩ b hb
    rcases List.mem_cons.mp hb with rfl | hb
    · exact ⟨_, he, fun v q => nomatch q⟩
    · cases List.mem_singleton.mp hb
      exact ⟨o, ho, fun v q => by rw [hd] at q; cases q⟩
  · rintro i h h' ⟨⟨old, he⟩, hi, hne, r⟩ k
    refine ⟨⟨old, k e List.mem_cons_self _ he⟩, hi.at fun o q => k it (by simp) o q, hne, r⟩
  · intro X hP hw hK hc i pins s σ H E I hf st hg
    subst hP hw hK
    obtain ⟨⟨old, he⟩, hit, hne, hai, hae⟩ := st
    obtain ⟨xs, x, hq, hx⟩ := hg
    obtain ⟨its, rv, p, hz⟩ := I.tuple hq
    obtain ⟨u, hu, ru⟩ := rv.get hx
    have hel : e < s.heap.objs.size := Heap.lt_size he
    have hil : it < s.heap.objs.size := by
      obtain ⟨_, q, _⟩ := hit
      exact Heap.lt_size q
    have hlt : i < its.toArray.size := by
      have := (List.getElem?_eq_some_iff.mp hu).1
      simpa using this
    have ht : s.heap.IsTuple a its.toArray := p
    have Dr := Draws.tuple (prog := X.prog) (w := X.w) (A := X.A.in1) (I.ok.hd hc) it a hai its.toArray
    apply wpAny_pyNext_enum_itemD Dr he ⟨hit, ht⟩ hlt hne (by simp [hne, Ne.symm hae])
    intro y h' tk hy ho hst hT hsz hk
    have ey : y = u := by
      have h2 : its.toArray[i]? = some u := by simpa using hu
      rw [h2] at hy
      exact (Option.some.inj hy).symm
    subst ey
    refine ⟨_, rfl, ?_⟩
    apply wpAny_letOwnedTupleGo_enum (s := { s with heap := h', toks := tk + 1 }) ho
    intro h'' he' sb
    have hT2 : h''.get? s.heap.objs.size = some { cls := .type "tuple", data := .seq #[.int i tk, y] } := (sb.2 _ (Nat.ne_of_gt hel)).trans hT
    have new : ObjOk X.prog X.w (upd H s.heap.objs.size (.tup [.int (i : Nat), x])) h'' s.heap.objs.size (.tup [.int (i : Nat), x]) :=
      ⟨by show 2 ≤ sizeLine; decide, [.int i tk, y], .cons ⟨_, rfl⟩ (.cons ru .nil), ⟨_, hT2, rfl, _, rfl⟩⟩
    have I1 : Inv X pins σ (upd H s.heap.objs.size (.tup [.int (i : Nat), x])) { s with heap := h'', toks := tk + 1 } := by
      refine I.turnedNew (ch := [e, it]) ?_ hf (Nat.le_refl _) new
      intro b ob hb q
      have n1 : b ≠ e := fun z => hb (by simp [z])
      have n2 : b ≠ it := fun z => hb (by simp [z])
      exact (sb.2 b n1).trans (hk b ob n1 n2 q)
    refine ⟨.ref s.heap.objs.size, _, I1, rfl, ⟨_, x, rfl, I.hok.fresh (Nat.le_refl _), rfl, fun ys hy2 => ?_⟩, ⟨⟨y, ?_⟩, ?_, hne, hai, hae⟩, fun b hb => ?_⟩
    · rw [I.tuple_inj hy2 hq]
      exact hx
    · rw [show ((i + 1 : Nat) : Int) = (i : Int) + 1 by omega]
      exact he'
    · exact hst.1.at fun o q => (sb.2 it (Ne.symm hne)).trans q
    · have hb' : b < s.heap.objs.size := by
        rcases List.mem_cons.mp hb with rfl | hb
        · exact hel
        · cases List.mem_singleton.mp hb
          exact hil
      rw [upd_ne (Nat.ne_of_lt hb')]
      exact (hf b hb).1
  · intro X hP hw hK hc i pins s σ H E I hf st hg
    subst hP hw hK
    obtain ⟨⟨old, he⟩, hit, hne, hai, hae⟩ := st
    obtain ⟨xs, hq, hx⟩ := hg
    obtain ⟨its, rv, p, hz⟩ := I.tuple hq
    obtain ⟨f0, f1, f2, f3, f4, f5⟩ := hf it (by simp)
    have ht : s.heap.IsTuple a its.toArray := p
    have hn : its.toArray.size = i := by
      have := rv.length
      rw [List.size_toArray]
      omega
    subst hn
    have Dr := Draws.tuple (prog := X.prog) (w := X.w) (A := X.A.in1) (I.ok.hd hc) it a hai its.toArray
    apply wpAny_pyNext_enum_endD Dr he ⟨hit, ht⟩
    intro h' eb
    exact ⟨rfl, I.turned (t' := s.toks) (fun b o hb q => eb b o hb q) f0 f1 f3 f4 f5⟩
  · rintro A i s Q E ⟨⟨_, he⟩, _⟩ h
    exact wpAny_pyIter_enum he h
def iEnumT (K : PySem.W.Frag) (ta : TA) : TI := fun σ H R => ta σ H fun vs H1 => ∃ a xs, vs = [.ref a] ∧ SqT K H1 a xs ∧ R (IteT K a) H1
theorem pi_enumT {X : Cx} {e : Expr} {ta : TA} {p pos tpos : Pos} {elts : List Expr} {kk : Nat} (gl : Gl X "enumerate") (hm : X.mg "enumerate" = none) (ha : PA X [e] ta) (hs : starEach [e] X.env = [(false, eval e X.env)] := by rfl) :
    PI X (.Tuple elts kk tpos) (.Call (.Name "enumerate" p) [e] [] pos) (iEnumT X.K ta) := by
  constructor
  intro pins s σ H R I h
  refine Call_ (ld_blt I gl hm boot_enumerate ?_)
  refine PyProof.Rows.callWith_type1 (thn (ha.run pos pins s σ H _ I h) ?_) hs rfl
  rintro us s1 ⟨vs, H1, I1, r1, a, xs, rfl, hq, q⟩
  obtain ⟨u, rfl, ru⟩ := vals1 r1
  cases ru
  obtain ⟨its, rv, p', hz⟩ := I1.tuple hq
  have ht : s1.heap.IsTuple a its.toArray := p'
  have hal : a < s1.heap.objs.size := by
    obtain ⟨o, ho, _⟩ := ht
    exact Heap.lt_size ho
  apply call_enum1 (begins_tuple a its.toArray) ht
  intro h' he hit hsz hk
  apply wpAny_pyIter_enum he
  have I2 : Inv X pins σ H1 { s1 with heap := h' } := I1.kept (t' := s1.toks) hk
  refine ⟨s1.heap.objs.size + 1, [s1.heap.objs.size + 1, s1.heap.objs.size], _, _, H1, rfl, I2, turn_enumT a (s1.heap.objs.size + 1) s1.heap.objs.size, ⟨⟨.none, he⟩, ⟨_, hit, rfl, rfl⟩, Nat.succ_ne_self _, Nat.ne_of_lt hal, Nat.ne_of_lt (Nat.lt_succ_of_lt hal)⟩, fun b hb => ?_, q⟩
  have hb2 : s1.heap.objs.size ≤ b := by
    rcases List.mem_cons.mp hb with rfl | hb
    · exact Nat.le_succ _
    · cases List.mem_singleton.mp hb
      exact Nat.le_refl _
  exact I1.fpOk hb2 (I1.hok.fresh hb2)
theorem walk_enumT {K : PySem.W.Frag} {a : Addr} {xs : List V} : Walk (IteT K a) xs.length (fun H => SqT K H a xs) (YPair (fun i => some (.int (i : Nat))) (fun i => xs[i]?)) := by
  constructor
  · intro i H hi q
    exact ⟨xs, xs[i], q, by simp [hi]⟩
  · intro H q
    exact ⟨xs, q, rfl⟩
  · rintro i H v H' _ q ⟨T, x, h1, h2, h3, h4⟩
    exact ⟨T, .int (i : Nat), x, h1, h2, h3, rfl, h4 xs q⟩
end Ft

/-! Own exception classes (over any built-in base) whose __init__ stores its parameters. -/
namespace Ft
open PySem PySem.Spec PyProof.Rows L2
open PySem.HandSPX (excO)
/-- what the written part says of an own exception class at C, its __init__ at fI; ns: the fields that it stores -/
structure XCls (K : PySem.W.Frag) (C fI : Addr) (ns : List Str) : Prop where
  base : ∃ B newId initId bmB, ExcBaseFacts B newId initId bmB ∧ StoreFacts B bmB "object.__setattr__" "object" ∧ PySem.W.excInitIn K C bmB newId = true ∧ PySem.W.excOver K C bmB = true
  hd : PySem.W.hasDictIn K C = true
  sa : PySem.W.findIn K (.ref C) "__setattr__" = some (some (.builtin "object.__setattr__"))
  ga : PySem.W.findIn K (.ref C) "__getattribute__" = some (some (.builtin "BaseException.__getattribute__"))
  gg : PySem.W.findIn K (.ref C) "__getattr__" = some none
  ex : PySem.W.subIn K (.ref C) (.type "BaseException") = some true
  ty : PySem.W.typeIn K (.ref C) = some (.type "type")
  kp : PySem.W.keepIn K (.ref C) = true
  ini : PySem.W.findIn K (.ref C) "__init__" = some (some (.ref fI))
  fn : PySem.W.typeIn K (.ref fI) = some (.type "function")
  no : ∀ n ∈ ns, PySem.W.findIn K (.ref C) n = some none
section
variable {prog : Program} {w : World} {A : Around} {E : Value → Shared → Prop} {K : PySem.W.Frag} {C fI x t : Addr} {ns : List Str} {name : Str} {v : Value} {Q : Unit → Shared → Prop}
theorem XCls.cd (T : XCls K C fI ns) : ∃ cd, PySem.W.clsIn K C = some cd ∧ cd.hasDict = true := by
  have h := T.hd
  unfold PySem.W.hasDictIn at h
  cases e : PySem.W.clsIn K C with
  | none => rw [e] at h; cases h
  | some cd => rw [e] at h; exact ⟨cd, rfl, h⟩
theorem XCls.taker (T : XCls K C fI ns) (hn : name ∈ ns) : PySem.W.takerIn K C name = some none := NoAttr.taker (T.no name hn)
/-- self.name = v, the first field -/
theorem set_first {s : Shared} (T : XCls K C fI ns) (hn : name ∈ ns) (X : K.In s.heap) (hx : s.heap.get? x = some (excO C t))
    (hq : ∀ h' tk dx, (∀ b o, b ≠ x → s.heap.get? b = some o → h'.get? b = some o) → s.heap.objs.size ≤ dx → dx ≠ x →
      h'.get? x = some { cls := .ref C, dict := some dx, data := .fields #[.ref t, .none, .none, .none, .bool false, .none] } → h'.Ns1 dx (fun y => if y = name then some v else none) → Q () { s with heap := h', toks := tk }) :
    wpAny (model prog w) A (setAttr (.ref x) name v) Q E s := by
  obtain ⟨B, newId, initId, bmB, FB, SF, q, ov⟩ := T.base
  obtain ⟨cd, hcd, hh⟩ := T.cd
  obtain ⟨hp, g, d, tk, os⟩ := s
  have I : PySem.W.InstAt hp x (excO C t) C none := ⟨hx, rfl, rfl, trivial⟩
  apply PySem.W.set_plain X I T.sa
  apply PySem.W.osa_openX (s := ⟨hp, g, d, tk + 1, os⟩) SF X I ov (T.taker hn)
  intro b
  have hxs : x ≠ hp.objs.size := Nat.ne_of_lt (Heap.lt_size hx)
  have hcls : PySem.W.Looks (model prog w) hp (classData C) cd := PySem.W.looks_clsIn X hcd
  show wpAny _ _ (Builtin.ObjectAttr.storeInOwnDict (.ref x) (.ref C) _ name v b) _ _ _
  obtain ⟨nm, bs, mro, nss, qn, hdc, sn, sb, ab, col, del⟩ := cd
  dsimp only at hh
  subst hh
  unfold Builtin.ObjectAttr.storeInOwnDict Builtin.ObjectAttr.ownDictForStores
  repeat (first | with_reducible refine PySem.HandSPX.store_in_new ?_ ?_ | with_reducible refine wpAny_loadPart_at hx ?_ | with_reducible refine hcls.at ?_ | wp_step)
  · exact ⟨_, #[], _, (Heap.get?_update_ne _ _ _ _ hxs.symm).trans (Heap.get?_push_at rfl rfl), rfl, fun e he => absurd he (by simp), fun _ => rfl⟩
  · intro h' tk' hn' hs
    have at1 : (hp.push { cls := .type "dict", data := .dict #[] }).get? x = some (excO C t) := Heap.get?_push_of_some _ hx
    apply hq h' tk' hp.objs.size _ (Nat.le_refl _) hxs.symm ((hs.2 x hxs).trans (Heap.get?_update_self _ at1 rfl)) hn'
    intro b o hb ho
    exact (hs.2 b (Nat.ne_of_lt (Heap.lt_size ho))).trans ((Heap.get?_update_ne _ _ _ _ hb).trans (Heap.get?_push_of_some _ ho))
end

/-! ### __init__(self, f): self.f = f -/
/-- the text of such an __init__: its def st, the field fld -/
structure Init1 (st : Stmt) (fld : Str) : Prop where
  body : ∃ q1 q2 q3 q4 : Pos, defBody st = [.Assign [.Attribute (.Name "self" q1) fld q2] (.Name fld q3) q4]
  kind : (defScope st).kind = .function
  co : (defScope st).isCoroutine = false
  gen : (defScope st).isGenerator = false
  l1 : (defScope st).names.lookup ("self" : Str) = some .local
  l2 : (defScope st).names.lookup fld = some .local
  dbg : (fld == ("__debug__" : Str)) = false
  ne : fld ≠ "self"
/-- what a made exception is -/
structure Made (h h' : Heap) (e C d : Addr) (fld : Str) (v : Value) : Prop where
  keep : ∀ b o, h.get? b = some o → h'.get? b = some o
  new : h.objs.size ≤ e
  obj : ∃ t, h'.get? e = some { cls := .ref C, dict := some d, data := .fields #[.ref t, .none, .none, .none, .bool false, .none] }
  dbig : h.objs.size ≤ d
  dne : d ≠ e
  ns : h'.Ns1 d (fun y => if y = fld then some v else none)
section
variable {prog : Program} {w : World} {A : Around} {E : Value → Shared → Prop} {K : PySem.W.Frag} {C fI x t : Addr} {ns : List Str} {fld qual : Str} {v : Value} {st : Stmt} {fd : FuncData} {R : Result → Shared → Prop}
theorem ld_loc {M : Model} {s : Shared} {name : Str} {scope : Scope} {L a : Addr} {cd : Value} {m : Str → Option Value} {y : Str} {pos : Pos} {u : Value} {Q : Value → Shared → Prop} (hk : scope.kind = .function) (hl : scope.names.lookup y = some .local)
    (hd : (y == ("__debug__" : Str)) = false) (hn : s.heap.Ns L m) (hv : m y = some u) (h : Q u s) : wpAny M A (eval (.Name y pos) (envOfC name scope L a cd)) Q E s :=
  wpAny_Name (wpAny_loadName_local hk hl hn hv h) hd
theorem init_one {s : Shared} {args : Args} (T : XCls K C fI ns) (hf : fld ∈ ns) (S : Init1 st fld) (F : Fun K "__init__" qual st fI fd) (X : K.In s.heap) (nolim : s.heap.NoLimit) (hx : s.heap.get? x = some (excO C t)) (room : A.depth < recursionLimit)
    (bt : BindsTo s fd args [("self", .ref x), (fld, v)])
    (hq : ∀ h' tk dx, (∀ b o, b ≠ x → s.heap.get? b = some o → h'.get? b = some o) → s.heap.objs.size ≤ dx → dx ≠ x →
      h'.get? x = some { cls := .ref C, dict := some dx, data := .fields #[.ref t, .none, .none, .none, .bool false, .none] } → h'.Ns1 dx (fun y => if y = fld then some v else none) → R (.ok (.ret .none)) { s with heap := h', toks := tk }) :
    codeAny (model prog w) A (.call (.ref fI) args) R s := by
  obtain ⟨oc, od, kV, doc, pm, an, cdv, ct, osl, e, lk, hcd⟩ := F.ex
  subst e
  obtain ⟨q1, q2, q3, q4, hb⟩ := S.body
  have kinds : (([("self", Value.ref x), (fld, v)] : List (Str × Value)).all fun y => (defScope st).names.lookup y.1 == some .local || (defScope st).names.lookup y.1 == some .cell) = true := by
    simp only [List.all_cons, List.all_nil, S.l1, S.l2]
    rfl
  refine Att.call_fn X nolim lk hcd room bt kinds (fun s1 ic => ?_) S.co S.gen S.kind
  obtain ⟨h1, tk1, rfl⟩ := ic.toInCall.same
  have keep := ic.toInCall.keep
  have nsL := ic.toInCall.ns
  have X1 : K.In h1 := X.keeps keep
  have b1 : bindL (envOfC qual (defScope st) s.heap.objs.size fI cdv).kindOf [("self", Value.ref x), (fld, v)] (fun _ => none) fld = some v :=
    bindL_get (P := ["self", fld]) (vs := [Value.ref x, v]) (i := 1) (by simp [List.nodup_cons, Ne.symm S.ne]) rfl rfl S.l2
  have b0 : bindL (envOfC qual (defScope st) s.heap.objs.size fI cdv).kindOf [("self", Value.ref x), (fld, v)] (fun _ => none) "self" = some (.ref x) :=
    bindL_get (P := ["self", fld]) (vs := [Value.ref x, v]) (i := 0) (by simp [List.nodup_cons, Ne.symm S.ne]) rfl rfl S.l1
  rw [hb]
  show wpAny _ _ (execs _ _) _ _ _
  refine wpAny_execs_cons (plainObj_wpAny_Assign_Attribute ?_)
  refine ld_loc S.kind S.l2 S.dbg nsL b1 (ld_loc S.kind S.l1 (by decide) nsL b0 ?_)
  apply set_first T hf X1 (keep _ _ hx)
  intro h3 tk3 dx k3 dn dne hx3 hn3
  have z : s.heap.objs.size < h1.objs.size := nsL.lt
  show wpAny _ _ (execs _ _) _ _ _
  apply wpAny_execs_nil
  exact hq h3 tk3 dx (fun b o hb e => k3 b o hb (keep b o e)) (Nat.le_of_lt (Nat.lt_of_lt_of_le z dn)) dne hx3 hn3
/-- C(v) -/
theorem made_one {s : Shared} (T : XCls K C fI ns) (hf : fld ∈ ns) (S : Init1 st fld) (F : Fun K "__init__" qual st fI fd) (X : K.In s.heap) (nolim : s.heap.NoLimit) (room : A.depth + 1 < recursionLimit)
    (bt : ∀ (s : Shared) (y : Addr), BindsTo s fd ⟨[.ref y, v], []⟩ [("self", .ref y), (fld, v)])
    (hq : ∀ h' tk e d, Made s.heap h' e C d fld v → R (.ok (.ret (.ref e))) { s with heap := h', toks := tk }) : codeAny (model prog w) A (.call (.ref C) ⟨[v], []⟩) R s := by
  obtain ⟨B, newId, initId, bmB, FB, SF, q, ov⟩ := T.base
  obtain ⟨nm, N, qn, bs, bm, hdct, sn, sub, ab, col, dd, k0, k1, k2, k3, k5, hC, hT⟩ := PySem.W.excInit_of X q
  obtain ⟨hp, g, dr, tk, os⟩ := s
  have k : ∀ b o, hp.get? b = some o → ((hp.push (PySem.W.kdv_tup [v])).push (excO C hp.objs.size)).get? b = some o := fun b o e => Heap.get?_push_of_some _ (Heap.get?_push_of_some _ e)
  have at1 : ((hp.push (PySem.W.kdv_tup [v])).push (excO C hp.objs.size)).get? (hp.objs.size + 1) = some (excO C hp.objs.size) := by heap_get
  refine PySem.HandSPX.call_own FB hT hC (PySem.W.looks_findIn X T.ini) (fun self => PySem.W.bind_fn X self T.fn) (by show 1 ≤ sizeLine; decide) ?_
  apply init_one (s := ⟨(hp.push (PySem.W.kdv_tup [v])).push (excO C hp.objs.size), g, dr, tk, os⟩) T hf S F (X.keeps k) (nolim.keeps k) at1 room (bt _ _)
  intro h' tk' dx k' dn dne hx hns
  have sz : hp.objs.size + 1 + 1 ≤ dx := by
    have z := dn
    rw [Heap.size_push, Heap.size_push] at z
    exact z
  refine ⟨rfl, hq h' tk' (hp.objs.size + 1) dx ⟨fun b o e => ?_, Nat.le_succ _, ⟨_, hx⟩, Nat.le_trans (Nat.le_trans (Nat.le_succ _) (Nat.le_succ _)) sz, dne, hns⟩⟩
  exact k' b o (Nat.ne_of_lt (Nat.lt_succ_of_lt (Heap.lt_size e))) (k b o e)
end
end Ft

/-! Own exceptions raised, caught, handed to a def, asked for their class and field. -/
namespace Ft
open PySem PySem.Spec PyProof.Rows L2
open PySem.HandSPX (excO)
/-- isinstance asks the class of an own exception (with its dict) rightly -/
structure XIs (K : PySem.W.Frag) (D : Addr) : Prop where
  ha : PySem.W.findIn K (.ref D) "__class__" = some (some (.builtin "object.__class__"))
  hn : PySem.W.specialIn K (.builtin "object.__class__") "__get__" = some (some (.builtin "getset_descriptor.__get__"))
  ht : PySem.W.takesIn K (.builtin "object.__class__") = some true
  hm : PySem.W.mroIn K D (.type "object") = some true
section
open PySem.W PySem.Calls
variable {prog : Program} {w : World} {A : Around} {E : Value → Shared → Prop} {s : Shared} {K : Frag} {x D fI : Addr} {ox od : Obj} {ns : List Str}
theorem class_of {Q : Option Value → Shared → Prop} (T : XCls K D fI ns) (N : XIs K D) (X : K.In s.heap) (I : InstAt s.heap x ox D (some od)) (h : Q (some (.ref D)) { s with toks := s.toks + 1 }) : wpAny (model prog w) A (getAttr? (.ref x) "__class__") Q E s := by
  obtain ⟨cd, hcd, _⟩ := T.cd
  have hf : findObj K D (some od) "__class__" = some (.bind (.builtin "getset_descriptor.__get__") (.builtin "object.__class__")) := findObj_data (by rw [hcd]; rfl) N.ha N.hn N.ht
  obtain ⟨hp, g, d, t, os⟩ := s
  have l0 := I.type (M := model prog w)
  have l1 := looks_findIn (M := model prog w) X T.ga
  have l2 := looks_findIn (M := model prog w) X T.gg
  have l3 := looks_find (M := model prog w) X I hf
  have sub : Looks (model prog w) hp (isInstance (.ref x) (.type "BaseException")) true := l0.andThen (looks_subIn X T.ex)
  have x2 : (Value.builtin "BaseException.__getattribute__" == Value.builtin "object.__getattribute__") = false := by decide +kernel
  have x1 : (onTheHeap (Value.ref D) && Value.builtin "BaseException.__getattribute__" == Value.builtin "object.__getattribute__") = false := by
    rw [x2]
    rfl
  unfold getAttr? getAttrBy? getAttrBy
  apply wpAny_bind
  apply wpAny_mkText
  apply wpAny_bind
  apply wpAny_attempt
  apply wpAny_holding
  apply wpAny_bind
  apply l0.at
  apply wpAny_bind
  apply l1.at
  show wpAny _ _ (if (onTheHeap (Value.ref D) && Value.builtin "BaseException.__getattribute__" == Value.builtin "object.__getattribute__") = true then _ else _) _ _ _
  rw [if_neg (by rw [x1]; decide)]
  unfold getAttrByItsOwn hookBefore
  apply wpAny_bind
  rw [if_pos (show onTheHeap (Value.ref D) = true from rfl)]
  apply l2.at
  apply wpAny_bind
  apply wpAny_attempt
  apply wpAny_holding
  unfold callGetattribute
  rw [if_neg (show ¬ (false && onTheHeap (Value.builtin "BaseException.__getattribute__")) = true by decide)]
  unfold boundAndCalled
  rw [PySem.F.excAttr_ValueError.ga.bind (.ref x)]
  apply wpAny_bind
  apply wpAny_pure
  show wpAny _ _ (call (.builtin "BaseException.__getattribute__") [.ref x, .str "__class__" t]) _ _ _
  apply wpAny_call
  apply codeAny_call_builtin PySem.F.excAttr_ValueError.ga.plain PySem.F.entry_bexc_ga
  apply @check_slot (model prog w) _ _ ⟨hp, g, d, t + 1, os⟩ "BaseException.__getattribute__" "BaseException" "__getattribute__" (.ref x) [.str "__class__" t] [] _ (by decide +kernel) (by decide +kernel) sub (PySem.F.args_bexc_ga (.ref x) (.str "__class__" t))
  unfold Builtin.«object.__getattribute__»
  apply wpAny_bind
  apply wpAny_of_eq (a := ((Value.ref x : Value), [Value.str "__class__" t])) (by first | rfl | (simp only [slotArgs]; rfl))
  apply wpAny_bind
  apply wpAny_pure
  apply wpAny_bind
  apply l0.at
  apply wpAny_bind
  apply l3.at
  show wpAny _ _ (holding [Value.builtin "object.__class__"] (call (.builtin "getset_descriptor.__get__") [.builtin "object.__class__", .ref x, .ref D]) >>= ret) _ _ _
  apply wpAny_bind
  apply wpAny_holding
  apply wpAny_call
  apply class_get (s := ⟨hp, g, d, t + 1, os⟩) (ox := ox) (od := some od) X I N.hm
  apply wpAny_pure
  show wpAny _ _ (handedOut (.ref D)) _ _ _
  rw [handedOut_of (v := .ref D) rfl]
  first
    | exact wpAny_pure (wpAny_pure h)
    | exact wpAny_pure h
    | exact wpAny_pure (wpAny_bind (wpAny_pure (wpAny_pure h)))
theorem kit_exc (T : XCls K D fI ns) (N : XIs K D) : KitX K (.ref x) (.ref D) (fun h => InstAt h x ox D (some od)) := by
  obtain ⟨cd, hcd, _⟩ := T.cd
  unfold clsIn at hcd
  constructor
  · intro M h X I
    exact I.type
  · intro M h X I
    split at hcd
    · rename_i c' d' cd' sl' ho
      intro A' Q' E' s' k q
      unfold isType loadHead
      apply wpAny_bind
      exact wpAny_loadPart (k _ _ (X _ _ ho)) (wpAny_pure q)
    · cases hcd
  · intro h tp dd its n sl X htp
    cases q : (Value.ref D == Value.ref tp) with
    | false => rfl
    | true =>
      cases Value.ref.inj (beq_iff_eq.mp q)
      split at hcd
      · rename_i c' d' cd' sl' ho
        cases (X _ _ ho).symm.trans htp
      · cases hcd
  · intro prog w A E Q s X I k
    exact class_of T N X I k
end
end Ft

namespace Ft
open PySem PySem.Spec PyProof.Rows L2
open PySem.HandSPX (excO)
/-! ### C(e) as an exception that is raised -/
theorem relO_one {fld : Str} {v : V} {u : Value} (r : RelV v u) (f : Str) : RelO (List.lookup f [(fld, v)]) (if f = fld then some u else none) := by
  by_cases c : f = fld
  · subst c
    rw [if_pos rfl, show List.lookup f [(f, v)] = some v by simp [List.lookup]]
    exact r
  · have z : (f == fld) = false := by simpa using c
    rw [if_neg c, show List.lookup f [(fld, v)] = none by simp [List.lookup, z]]
    trivial
/-- all that is known of a one-field exception class x of the text -/
structure ExAt (K : PySem.W.Frag) (mg : Str → Option Value) (x fld : Str) (C : Addr) : Prop where
  gC : mg x = some (.ref C)
  is : XIs K C
  ex : ∃ (fI : Addr) (st : Stmt) (qual : Str) (fd : FuncData), XCls K C fI [fld] ∧ Init1 st fld ∧ Fun K "__init__" qual st fI fd ∧ ∀ (v : Value) (s : Shared) (y : Addr), BindsTo s fd ⟨[.ref y, v], []⟩ [("self", .ref y), (fld, v)]
def tMk1 (C : Addr) (fld : Str) (ta : TA) : L2.St → Hp → XK → Prop := fun σ H Q => ta σ H fun vs H1 => ∃ v, vs = [v] ∧ ∀ d, H1 d = none → Q (.ref C) (some d) (upd H1 d (.xd [(fld, v)]))
section
variable {X : Cx} {C : Addr} {x fld : Str}
theorem pmk1 {a : Expr} {ta : TA} {p pos : Pos} {k : Nat} (T : ExAt X.K X.mg x fld C) (hr : Room k X.A) (ha : PA X [a] ta) (gl : Gl X x) (hdb : (x == ("__debug__" : Str)) = false := by decide)
    (he : starEach (a :: []) X.env = (false, eval a X.env) :: starEach [] X.env := by rfl) (hpl : (backTo pos (starEach [] X.env)).any (·.1) = false := by rfl) : PMk X (.Call (.Name x p) [a] [] pos) (tMk1 C fld ta) := by
  obtain ⟨fI, st, qual, fd, T1, S1, F1, bt⟩ := T.ex
  intro pins s σ H Q I h
  apply wpAny_Call_Name_kw
  apply ld_glob I gl T.gC _ hdb
  apply PySem.W.callWith_K (h₀ := X.base) I.ok.mod.kin T1.kp _ he hpl
  apply thn (ha.run pos pins s σ H _ I h)
  rintro us s1 ⟨vs, H1, I1, r1, v, rfl, q1⟩
  refine ⟨I1.kIn, ?_⟩
  obtain ⟨u, rfl, ru⟩ := vals1 r1
  show wpAny _ _ (call (.ref C) [u]) _ _ _
  have nolim := I1.nolimit
  obtain ⟨hp, g, dr, tk, os⟩ := s1
  apply wpAny_call
  apply made_one T1 List.mem_cons_self S1 F1 I1.kIn nolim (by have := hr.dp; omega) (bt u)
  intro h' tk' e d M
  show MkP X pins σ Q (.ref e) ⟨h', g, dr, tk', os⟩
  obtain ⟨t, hoe⟩ := M.obj
  obtain ⟨G', g1, g2⟩ := restrict h' fun b => decide (b ≠ e)
  have gk : ∀ b, b ≠ e → G'.get? b = h'.get? b := fun b hb => g1 b (decide_eq_true hb)
  have ge : G'.get? e = none := g2 e (by simp)
  have old : ∀ b o, hp.get? b = some o → G'.get? b = some o := by
    intro b o q
    rw [gk b (Nat.ne_of_lt (Nat.lt_of_lt_of_le (Heap.lt_size q) M.new))]
    exact M.keep b o q
  have ob : ObjOk X.prog X.w (upd H1 d (.xd [(fld, v)])) G' d (.xd [(fld, v)]) := ⟨_, M.ns.at (fun o q => (gk d M.dne).trans q), relO_one ru⟩
  have J : Inv X pins σ (upd H1 d (.xd [(fld, v)])) ⟨G', g, dr, tk', os⟩ := I1.laid (t' := tk') old M.dbig ob
  refine ⟨e, _, _, ⟨G', g, dr, tk', os⟩, _, .ref C, some d, rfl, J, ?_, ge, hoe, ⟨rfl, rfl⟩, rfl, rfl, ?_, rfl, I1.bare, raises_own T1.ex T1.ty, q1 d (I1.hok.fresh M.dbig)⟩
  · intro b o q
    by_cases hb : b = e
    · have q' : G'.get? b = some o := q
      rw [hb, ge] at q'
      cases q'
    · exact (gk b hb).symm.trans q
  · rw [upd_ne (Ne.symm M.dne)]
    exact I1.hok.fresh M.new
end
/-! ### defs called while an exception is handled -/
/-- p: the handled exception's object; cls, d its class and dict -/
structure FnHot (P : Program) (w : World) (K : PySem.W.Frag) (mg : Str → Option Value) (base : Heap) (k : Nat) (f : Addr) (fd : FuncData) (ps : List Str) (sp : Addr → Value → Option Addr → Sp) : Prop where
  hLen : ∀ a cls d vs H Q E, sp a cls d vs H Q E → vs.length = ps.length
  hRun : ∀ (A : Around), A.guards = some [] → L2H.RoomH k A → ∀ (outer : List Env) (s : Shared) (H : Hp) (p : Addr × Obj) (cls : Value) (d : Option Addr), L2H.PinOk outer H s p → Zc cls d p.2 → (∃ vs, p.2.data = .fields vs) → Env0 P w K mg base A outer s H →
    ∀ (args : Args) (us : List Value) (vs : List V) (Q : VK), BindsTo s fd args (ps.zip us) → Vals vs us → sp p.1 cls d vs H Q E0 → codeAny (model P w) A (.call (.ref f) args) (CR CX0 outer P w H s Q E0) s
theorem fnHot {P : Program} {w : World} {K : PySem.W.Frag} {mg : Str → Option Value} {base : Heap} {k : Nat} {x qual : Str} {st : Stmt} {f : Addr} {fd : FuncData} {N ps : List Str} {sp : Addr → Value → Option Addr → Sp} (F : Fun K x qual st f fd) (S : FnScope N ps (defScope st))
    (len : ∀ a cls d vs H Q E, sp a cls d vs H Q E → vs.length = ps.length)
    (hb : ∀ (cdv : Value) (A : Around) (outer : List Env) (s : Shared) (H : Hp) (vs : List V) (Q : VK) (p : Addr × Obj) (cls : Value) (d : Option Addr), A.guards = some [] → L2H.RoomH k (A.deeper (envOfC qual (defScope st) s.heap.objs.size f cdv)) →
      Zc cls d p.2 → (∃ vs, p.2.data = .fields vs) → sp p.1 cls d vs H Q E0 →
      ∃ t, PSs (L2H.cxH CX0 P w K mg base N qual (defScope st) f cdv A outer s H E0 p).nox (defBody st) t ∧ t ⟨fun _ H' => Q .non H', Q, fun _ _ => False, fun _ _ => False⟩ (start N vs) H) :
    FnHot P w K mg base (k + 1) f fd ps sp := by
  obtain ⟨oc, od, kV, doc, pm, an, cdv, ct, osl, e, lk, hcd⟩ := F.ex
  subst e
  constructor
  · exact len
  intro A hg hr outer s H p cls d pin hz hfld e0 args us vs Q bt vv hsp
  have inK : K.In s.heap := e0.mod.kin.keeps fun b o q => (e0.bs b o q).1
  have nolim : s.heap.NoLimit := e0.mod.nolimit.keeps fun b o q => (e0.bs b o q).1
  apply codeAny_call_function hr.depth (inK f _ lk) rfl S.co S.gen rfl (PySem.W.codeRec_of inK hcd)
  apply bt
  apply wpAny_newFunctionEnv_cells S.kind
  · rintro ⟨n, v⟩ hm
    cases S.par n (List.of_mem_zip hm).1 with
    | inl q => exact Or.inl q
    | inr q => exact Or.inr ⟨q, PySem.W.cellsFrom_some _ _ _ (Or.inl q)⟩
  · intro env henv s1 ic
    cases henv
    refine And.intro (nolim.keeps ic.toInCall.keep) (codeAny_func ?_)
    obtain ⟨t, d1, rd⟩ := hb cdv A outer s H vs Q p cls d hg (hr.deeper _) hz hfld hsp
    have J := L2H.inv_startH (CX := CX0) (E := E0) S pin e0 (len p.1 cls d vs H Q _ hsp) vv ic
    apply wpAny_mono (d1.nox.run [] s1 (start N vs) H _ J rd)
    · intro fl s2 hfl
      match fl, hfl with
      | .ret u, ⟨v, σ', H', J', rv, q⟩ => exact ⟨v, H', J'.os, J'.bare, J'.base, J'.hok, rv, q⟩
      | .next, ⟨σ', H', J', q⟩ => exact ⟨V.non, H', J'.os, J'.bare, J'.base, J'.hok, rfl, q⟩
      | .brk, ⟨_, _, _, q⟩ => exact q.elim
      | .cont, ⟨_, _, _, q⟩ => exact q.elim
    · intro e s2 q
      exact q
structure HasHot (P : Program) (w : World) (K : PySem.W.Frag) (mg : Str → Option Value) (base : Heap) (k : Nat) (x : Str) (ps : List Str) (sp : Addr → Value → Option Addr → Sp) : Prop where
  ex : ∃ (f : Addr) (fd : FuncData), FnHot P w K mg base k f fd ps sp ∧ mg x = some (.ref f) ∧ PySem.W.keepIn K (.ref f) = true ∧ Binds K fd ps []
theorem pe_hot {X : Cx} {k : Nat} {ps : List Str} {sp : Addr → Value → Option Addr → Sp} {x : Str} {p pos : Pos} {e : Expr} {es : List Expr} {t : TA} {q : Addr × Obj} {cls : Value} {d : Option Addr} (F : HasHot X.prog X.w X.K X.mg X.base k x ps sp) (hg : X.A.guards = some []) (hr : L2H.RoomH k X.A)
    (hq : q ∈ X.pn) (hz : Zc cls d q.2) (hfld : ∃ vs, q.2.data = .fields vs) (gl : Gl X x) (ha : PA X (e :: es) t)
    (hdb : (x == ("__debug__" : Str)) = false := by decide) (he : starEach (e :: es) X.env = (false, eval e X.env) :: starEach es X.env := by rfl) (hpl : (backTo pos (starEach es X.env)).any (·.1) = false := by rfl) :
    PE X (.Call (.Name x p) (e :: es) [] pos) (tCall (sp q.1 cls d) [] E0 t) := by
  obtain ⟨f, fd, G, hm, hk, hb⟩ := F.ex
  constructor
  intro pins s σ H Q I h
  apply wpAny_Call_Name_kw
  apply ld_glob I gl hm _ hdb
  apply PySem.W.callWith_K (h₀ := X.base) I.ok.mod.kin hk _ he hpl
  apply thn (ha.run pos pins s σ H _ I h)
  rintro us s1 ⟨vs, H1, I1, r, z⟩
  rw [List.append_nil] at z
  refine ⟨I1.kIn, ?_⟩
  have hl : us.length = ps.length := r.length.symm.trans (G.hLen _ _ _ _ _ _ _ z)
  have bt := hb s1 us I1.kIn (by rw [List.append_nil]; exact hl)
  rw [List.append_nil] at bt
  obtain ⟨p1, p2, p3, p4, p5⟩ := I1.pin q (List.mem_append_left _ hq)
  have pin : L2H.PinOk X.stack H1 s1 q := by
    refine ⟨p1, p2, fun hm => ?_, p5⟩
    rcases List.mem_cons.mp (I1.stkSub _ hm) with z | z
    · exact p3 z
    · exact p4 z
  show wpAny _ _ (call (.ref f) us) _ _ _
  apply wpAny_call
  apply codeAny_mono (G.hRun X.A hg hr X.stack s1 H1 q cls d pin hz hfld I1.env0 ⟨us, []⟩ us vs Q bt r z)
  intro res s2 w2
  match res, w2 with
  | .ok (.ret u), w2 => exact I1.after w2
  | .ok .next, w2 => exact False.elim w2
  | .ok .brk, w2 => exact False.elim w2
  | .ok .cont, w2 => exact False.elim w2
  | .error e, w2 => exact False.elim w2
section
variable {X : Cx} {C : Addr} {x fld : Str} {q : Addr × Obj} {cls : Value} {d : Option Addr}
theorem exc_at {pins : List (Addr × Obj)} {s : Shared} {σ : L2.St} {H : Hp} {dd : Addr} {fs : List (Str × V)} (hq : q ∈ X.pn) (hz : Zc (.ref C) (some dd) q.2) (hfld : ∃ vs, q.2.data = .fields vs) (I : Inv X pins σ H s) (hd : H dd = some (.xd fs)) :
    ∃ (od : Obj) (mA : Str → Option Value), PySem.W.InstAt s.heap q.1 q.2 C (some od) ∧ (∀ f, PySem.W.lookIn f od = some (mA f)) ∧ ∀ f, RelO (fs.lookup f) (mA f) := by
  obtain ⟨p1, _⟩ := I.pin q (List.mem_append_left _ hq)
  obtain ⟨vs, hd2⟩ := hfld
  obtain ⟨mA, hns, hr⟩ := (show ObjOk X.prog X.w H s.heap dd (.xd fs) from I.hok dd _ hd)
  obtain ⟨od, ho, hl⟩ := lookIn_ns hns
  refine ⟨od, mA, ⟨p1, hz.1, ?_, ?_⟩, hl, hr⟩
  · unfold PySem.W.notCls
    rw [hd2] <;> rfl
  · rw [hz.2]
    exact ho
/-- isinstance(e, c), e the handled exception -/
theorem call_isX {dd : Addr} (T : ExAt X.K X.mg x fld C) (hq : q ∈ X.pn) (hz : Zc (.ref C) (some dd) q.2) (hfld : ∃ vs, q.2.data = .fields vs) :
    CallR X (.builtin "isinstance") (fun xs H Q => ∃ (c : V) (cv : Value) (b : Bool) (fs : List (Str × V)), xs = [.ref q.1, c] ∧ ClsV c cv ∧ PySem.W.kitOne X.K (.ref C) cv = some b ∧ H dd = some (.xd fs) ∧ Q (.bl b) H) := by
  rintro pins s σ H xs us Q I r ⟨c, cv, b, fs, rfl, hc, hk, hd, w⟩
  obtain ⟨u1, u2, rfl, r1, r2⟩ := vals2 r
  cases r1
  cases hc.eq r2
  obtain ⟨fI, st, qual, fd, T1, S1, F1, bt⟩ := T.ex
  obtain ⟨od, mA, at1, _, _⟩ := exc_at hq hz hfld I hd
  exact PySem.W.kia_one (kit_exc T1 T.is) I.kIn at1 hk (fun z => nomatch z) fun tk => ⟨.bl b, H, I.tok tk, rfl, w⟩
/-- e.f, e the handled exception -/
def tXf1 (a dd : Addr) (f : Str) (te : TE) : TE := fun σ H Q => te σ H fun v H1 => v = .ref a ∧ ∃ (fs : List (Str × V)) (u : V), H1 dd = some (.xd fs) ∧ fs.lookup f = some u ∧ Q u H1
theorem pe_xf1 {dd : Addr} {e : Expr} {te : TE} {pos : Pos} (T : ExAt X.K X.mg x fld C) (hq : q ∈ X.pn) (hz : Zc (.ref C) (some dd) q.2) (hfld : ∃ vs, q.2.data = .fields vs) (he : PE X e te) (hb : attributeBase e fld X.env (eval e X.env) = eval e X.env := by rfl) :
    PE X (.Attribute e fld pos) (tXf1 q.1 dd fld te) := by
  obtain ⟨fI, st, qual, fd, T1, S1, F1, bt⟩ := T.ex
  constructor
  intro pins s σ H Q I h
  apply attr_of hb
  apply thn (he.run pins s σ H _ I h)
  rintro u s1 ⟨v, H1, I1, rv, rfl, fs, z, hd, hl, w⟩
  cases rv
  obtain ⟨od, mA, at1, lk, rel⟩ := exc_at hq hz hfld I1 hd
  obtain ⟨u, hu, ru⟩ := RelO.some_of (v := z) (o := mA fld) (by rw [← hl]; exact rel fld)
  exact HandSPX.exc_get I1.kIn at1 T1.ga T1.gg T1.ex (PySem.W.findObj_own T1.hd (T1.no fld List.mem_cons_self) rfl (by rw [lk, hu])) (handed_of ru) ⟨z, H1, I1.tok _, ru, w⟩
end
/-! ### try: .. except (A, B, C) as n: .., every exception being one of them -/
theorem flying_keep {B h h' : Heap} {l : List Env} {e : Addr} {Z : Obj → Prop} (k : ∀ b o, h.get? b = some o → h'.get? b = some o) (x : HandSPX.FlyingZ B l e Z h) : HandSPX.FlyingZ B l e Z h' := by
  obtain ⟨h1, h2, h3, oe, vs, T, oT, ts, q1, q2, q3, q4, q5, q6, q7, q8⟩ := x
  refine ⟨fun b o z => k _ _ (h1 b o z), h2, Heap.FunFrames.of_keeps (fun b o z _ => ⟨o, k _ _ z, rfl⟩) h3, oe, vs, T, oT, ts, k _ _ q1, q2, q3, q4, q5, q6, k _ _ q7, q8⟩
def wAll (K : PySem.W.Frag) (cs : List Value) (i : Nat) (ts : Addr → Value → Option Addr → TS) (D : Ends) : WX := fun cls d σ H =>
  PySem.W.exmAny K cls cs = some true ∧ ∀ a, H a = none → ts a cls d { nx := fun σ' H' => D.nx (σ'.set i none) H', rt := D.rt, bk := fun σ' H' => D.bk (σ'.set i none) H', ct := fun σ' H' => D.ct (σ'.set i none) H' } (σ.set i (some (.ref a))) H
section
variable {X : Cx} {x1 x2 x3 n : Str} {c1 c2 c3 : Value} {i : Nat} {body suite : List Stmt} {b₀ : Stmt} {np1 np2 np3 tp pos pos' : Pos} {kk : Nat} {tb : WX → TS} {ts : Addr → Value → Option Addr → TS}
theorem ld_name {Y : Cx} {pins : List (Addr × Obj)} {σ : L2.St} {H : Hp} {s : Shared} {x : Str} {c : Value} {p : Pos} {Q : Value → Shared → Prop} {E : Value → Shared → Prop} (I : Inv Y pins σ H s) (hc : Names Y x c) (q : Q c s) : wpAny (model Y.prog Y.w) Y.A (eval (.Name x p) Y.env) Q E s := by
  obtain ⟨hg, hdbg, hm | ⟨hm, hv, hnn⟩⟩ := hc
  · exact ld_glob I hg hm q hdbg
  · exact ld_blt I hg hm hv q hnn hdbg
theorem ps_try3 (hs : X.stack = X.env :: X.outer) (hf : X.env.frame = some X.env.locals) (hN : X.N.Nodup) (hi : X.N[i]? = some n) (hln : X.env.kindOf n = some .local) (hc1 : Names X x1 c1) (hc2 : Names X x2 c2) (hc3 : Names X x3 c3)
    (hb : ∀ (W : WX) (pn : List (Addr × Obj)) (xe : Value → Shared → Prop), Takes (X.tr pn xe) W → PassesOwn (model X.prog X.w) X.A X.env xe → PSs (X.tr pn xe) body (tb W))
    (hsu : ∀ (a : Addr) (oe : Obj) (cls : Value) (d : Option Addr) (pn : List (Addr × Obj)), Zc cls d oe → (∃ vs, oe.data = .fields vs) → PSs (X.suite a ((a, oe) :: pn)) (b₀ :: suite) (ts a cls d)) :
    PS X (.Try body [.ExceptHandler (some (.Tuple [.Name x1 np1, .Name x2 np2, .Name x3 np3] kk tp)) (some n) (b₀ :: suite) pos'] [] [] pos) (fun D σ H => tb (wAll X.K [c1, c2, c3] i ts D) D σ H) := by
  constructor
  intro pins s σ H D I h
  have ok := I.ok
  have hfr : X.A.frames = some (X.env :: X.outer) := by rw [ok.frames, hs]
  apply wpAny_Try_except
  apply wpAny_mono ((hb (wAll X.K [c1, c2, c3] i ts D) (X.pn ++ pins) _ (fun u s' xx => ?_) PassesOwn.looking).run [] s σ H D (I.toTry _) h)
  · intro f s1 hsp
    cases f with
    | next =>
      obtain ⟨σ6, H6, S6, q6⟩ := hsp
      apply wpAny_execs_nil
      exact ⟨_, _, S6.ofTry ok, q6⟩
    | brk =>
      obtain ⟨σ6, H6, S6, q6⟩ := hsp
      exact ⟨_, _, S6.ofTry ok, q6⟩
    | cont =>
      obtain ⟨σ6, H6, S6, q6⟩ := hsp
      exact ⟨_, _, S6.ofTry ok, q6⟩
    | ret u =>
      obtain ⟨v6, σ6, H6, S6, r6, q6⟩ := hsp
      exact ⟨_, _, _, S6.ofTry ok, r6, q6⟩
  · intro e s1 he
    exact he
  · obtain ⟨a, B, sI, pins', σ', H', cls, d, rfl, J', nb, up, sky, na, os, ag, hmatch, hyes⟩ := xx
    have J : Inv X pins σ' H' sI := J'.ofTry ok
    have sky' : Sky B (X.env :: X.outer) a (Zc cls d) X.env.locals s'.heap := by
      rw [← hs]
      exact sky
    show wpAny (model X.prog X.w) X.A (noteFrame (.ref a) X.env) _ _ _
    apply Sky.land Zc.steady hfr hf sky'
    intro h3 fl3 up3
    obtain ⟨oe3, vs3, he3, hz3, hd3⟩ := fl3.there
    have nfr : a ∉ frs (X.env :: X.outer) := by
      intro hm
      obtain ⟨_, o', e', hnf⟩ := fl3.2.2.1.mem hm
      rw [he3] at e'
      cases e'
      exact hnf _ hd3
    have nL : a ≠ X.env.locals := fun z => nfr (List.mem_filterMap.mpr ⟨X.env, List.mem_cons_self, by rw [hf, z]⟩)
    have nF : a ∉ X.fs := by
      intro hm
      obtain ⟨e, he, q⟩ := List.mem_filterMap.mp hm
      exact nfr (List.mem_filterMap.mpr ⟨e, List.mem_cons_of_mem _ he, q⟩)
    have J3 : Inv X pins σ' H' { s' with heap := h3 } := J.landed nb fl3.1 (up.trans up3) os ag
    have S3 := J3.suite he3 hd3 na nL nF
    apply wpAny_handleBy_cons (codeAny_handlers_test ?_) (by intro q; cases q)
    have LT : PySem.W.Looks (model X.prog X.w) h3 (typeOf (.ref a)) cls := fun A Q E s k q => wpAny_typeOf_ref (k _ _ he3) (by rw [hz3.1]; exact q)
    let tobj : Obj := { cls := .type "tuple", data := .seq [c1, c2, c3].toArray }
    have kp : ∀ q o, h3.get? q = some o → (h3.push tobj).get? q = some o := fun _ _ z => Heap.get?_push_of_some _ z
    have LM := PySem.W.exm_tup3 (M := model X.prog X.w) (J3.kIn.keeps kp) (LT.keeps kp) (Heap.get?_push_size h3 rfl) hmatch
    refine wpAny_Tuple (wpAny_items_cons (ld_name (Y := X.suite a ((a, oe3) :: (X.pn ++ pins))) S3 hc1 ?_))
    refine wpAny_items_cons (ld_name (Y := X.suite a ((a, oe3) :: (X.pn ++ pins))) S3 hc2 ?_)
    refine wpAny_items_cons (ld_name (Y := X.suite a ((a, oe3) :: (X.pn ++ pins))) S3 hc3 ?_)
    apply wpAny_items_nil
    refine ⟨by size_fits, ?_⟩
    apply LM.here
    apply codeAny_handlers_suite_as
    have fl3' := flying_keep kp fl3
    apply HandSPX.lands_againZ (s := { s' with heap := h3.push tobj }) fl3'
    intro h4 fl4 up4
    have J4 : Inv X pins σ' H' { s' with heap := h4 } := J.landed nb fl4.1 (((up.trans up3).trans (.of_keeps kp)).trans up4) os ag
    obtain ⟨oe4, vs4, he4, hz4, hd4⟩ := fl4.there
    have S4 := J4.suite he4 hd4 na nL nF
    apply store_ok (X := X.suite a ((a, oe4) :: (X.pn ++ pins))) (v := .ref a) S4 hN hi (.inl hln) rfl _ (.inr hln)
    intro s5 S5
    apply wpAny_mono ((hsu a oe4 cls d (X.pn ++ pins) hz4 ⟨_, hd4⟩).run [] s5 _ H' _ S5 (hyes a na))
    · intro f s6 hsp
      have fin : ∀ {σ6 : L2.St} {H6 : Hp} {Q : Shared → Prop}, Inv (X.suite a ((a, oe4) :: (X.pn ++ pins))) [] σ6 H6 s6 → (∀ s7, Inv X pins (σ6.set i none) H6 s7 → Q s7) →
          wpAny (model X.prog X.w) X.A (do bindName X.env n .none; unbindBehindTheSuite X.env n pos') (fun _ s7 => Q s7) X.xe s6 := fun S6 hq => gone_ok (S6.unsuite ok) hN hi hln hq
      cases f with
      | next =>
        obtain ⟨σ6, H6, S6, q6⟩ := hsp
        exact fin S6 fun s7 J7 => ⟨_, _, J7, q6⟩
      | brk =>
        obtain ⟨σ6, H6, S6, q6⟩ := hsp
        exact fin S6 fun s7 J7 => ⟨_, _, J7, q6⟩
      | cont =>
        obtain ⟨σ6, H6, S6, q6⟩ := hsp
        exact fin S6 fun s7 J7 => ⟨_, _, J7, q6⟩
      | ret u =>
        obtain ⟨v6, σ6, H6, S6, r6, q6⟩ := hsp
        exact fin S6 fun s7 J7 => ⟨_, _, _, J7, r6, q6⟩
    · intro _ _ z
      exact False.elim z
end
end Ft

/-! A lambda handed to a def that calls it in a try. -/
namespace Ft
open PySem PySem.Spec PyProof.Rows L2 LamX
theorem takes_len {X : Cx} {W : WX} (t : Takes X W) : Takes X (fun c d σ H => σ.length = X.N.length → W c d σ H) := by
  rintro u s' ⟨a, B, sI, pins, σ, H, cls, d, e, I, r1, r2, r3, r4, r5, r6, q⟩
  exact t u s' ⟨a, B, sI, pins, σ, H, cls, d, e, I, r1, r2, r3, r4, r5, r6, q I.len⟩
theorem room_hot {k : Nat} {A : Around} (r : Room k A) (h : Option Value) : L2H.RoomH k (A.mark h) := ⟨r.dp, r.un⟩
/-- what the def makes of the lambda's reading: told: ['given', ..], or what the sorting def says of the exception -/
def TTold3 (K : PySem.W.Frag) (cs : List Value) (sp : Addr → Value → Option Addr → Sp) (word : Str) : (XK → Hp → VK → Prop) → Hp → VK → Prop := fun tl H Q =>
  tl (fun cls d H' => PySem.W.exmAny K cls cs = some true ∧ ∀ a, H' a = none → sp a cls d [.ref a] H' Q E0) H fun v H1 => ∃ u, (some (some v) : Option (Option V)) = some (some u) ∧ [V.str word, u].length ≤ sizeLine ∧ ∀ p, H1 p = none → Q (.ref p) (upd H1 p (.lst [.str word, u]))
def toldBody (a t e srt x1 x2 x3 word : Str) (p1 p2 p3 p4 p5 p6 p7 p8 p9 p10 p11 p12 p13 p14 p15 p16 p17 p18 : Pos) (kk j : Nat) : List Stmt :=
  [.Try [.Assign [.Name t p1] (.Call (.Name a p2) [] [] p3) p4] [.ExceptHandler (some (.Tuple [.Name x1 p5, .Name x2 p6, .Name x3 p7] kk p8)) (some e) [.Return (some (.Call (.Name srt p9) [.Name e p10] [] p11)) p12] p13] [] [] p14,
    .Return (some (.List [.Constant (.str word) j p15, .Name t p16] p17)) p18]
theorem told3 {X : Cx} {x a t e srt q x1 x2 x3 word y : Str} {sg : Scope} {g : Addr} {cdg c1 c2 c3 : Value} {k : Nat} {sp : Addr → Value → Option Addr → Sp} {p1 p2 p3 p4 p5 p6 p7 p8 p9 p10 p11 p12 p13 p14 p15 p16 p17 p18 : Pos} {kk j : Nat}
    (hg : X.A.guards = some []) (hr : Room (k + 1) X.A) (S : HasHot X.prog X.w X.K X.mg X.base k srt [y] sp) (hnd : [a, t, e].Nodup) (hsk : sg.kind = .function)
    (l0 : sg.names.lookup a = some .local) (l1 : sg.names.lookup t = some .local) (l2 : sg.names.lookup e = some .local) (gs : sg.names.lookup srt = some .globalImplicit)
    (g1 : sg.names.lookup x1 = some .globalImplicit) (g2 : sg.names.lookup x2 = some .globalImplicit) (g3 : sg.names.lookup x3 = some .globalImplicit)
    (m1 : X.mg x1 = some c1) (m2 : X.mg x2 = some c2) (m3 : X.mg x3 = some c3) (d1 : (x1 == ("__debug__" : Str)) = false) (d2 : (x2 == ("__debug__" : Str)) = false) (d3 : (x3 == ("__debug__" : Str)) = false)
    (ds : (srt == ("__debug__" : Str)) = false) (dt : (t == ("__debug__" : Str)) = false) (de : (e == ("__debug__" : Str)) = false) (dt2 : (t == ("__classdict__" : Str)) = false) (de2 : (e == ("__classdict__" : Str)) = false) :
    GivesTo X [a, t, e] x sg g cdg (toldBody a t e srt x1 x2 x3 word p1 p2 p3 p4 p5 p6 p7 p8 p9 p10 p11 p12 p13 p14 p15 p16 p17 p18 kk j) a q (TTold3 X.K [c1, c2, c3] sp word) := by
  intro f c' s H Q tl act hc h
  let Z : Cx := (cxOf C8.CX0 X.prog X.w X.K X.mg X.base [a, t, e] x sg g cdg X.A X.stack s H C8.E0).nox
  have hgl : Z.A.guards = some [] := hg
  have hroom : Room k Z.A := hr.deeper _
  have try_ := ps_try3 (X := Z) (i := 2) (n := e) (x1 := x1) (x2 := x2) (x3 := x3) (c1 := c1) (c2 := c2) (c3 := c3) (np1 := p5) (np2 := p6) (np3 := p7) (tp := p8) (pos := p14) (pos' := p13) (kk := kk)
    (body := [.Assign [.Name t p1] (.Call (.Name a p2) [] [] p3) p4]) (b₀ := .Return (some (.Call (.Name srt p9) [.Name e p10] [] p11)) p12) (suite := [])
    (tb := fun W D σ H => ∃ Ech : XK, (∀ cls d σ' H', Ech cls d H' → σ'.length = [a, t, e].length → W cls d σ' H') ∧ σ[0]? = some (some (.ref f)) ∧ H c' = some (CodeO c' q) ∧ tl Ech H fun v H1 => D.nx (σ.set 1 (some v)) H1)
    (ts := fun ad cls d => tRet (tCall (sp ad cls d) [] E0 (tCons (tVar 2) tNil)))
    rfl rfl hnd rfl l2 ⟨g1, d1, .inl m1⟩ ⟨g2, d2, .inl m2⟩ ⟨g3, d3, .inl m3⟩ (fun W pn xe tk _ => ?_) (fun ad oe cls d pn hz hf => ?_)
  · refine ⟨_, pss_cons try_ (pss_one (ps_ret (pe_lst (pa_cons pe_str (pa_cons (pe_var (i := 1) rfl (.inl l1) dt dt2) pa_nil))))), ?_⟩
    refine ⟨(fun cls d H' => PySem.W.exmAny X.K cls [c1, c2, c3] = some true ∧ ∀ a, H' a = none → sp a cls d [.ref a] H' Q E0), fun cls d σ' H' hE hl => ⟨hE.1, fun ad had => ?_⟩, rfl, hc, h⟩
    have hs : (σ'.set 2 (some (V.ref ad)))[2]? = some (some (V.ref ad)) := by
      rw [List.getElem?_set_self]
      rw [hl]
      show 2 < 3
      decide
    exact ⟨_, hs, hE.2 ad had⟩
  · refine ⟨fun pins s' σ H' D I h' => ?_⟩
    obtain ⟨Ech, hW, h1, h2, h3⟩ := h'
    have hp := act _ pn xe Ech p2 p3 (takes_len tk) (fun cls d σ' H' hE hl => hW cls d σ' H' hE hl)
    have hq := pss_one (ps_set (i := 1) (pos := p4) (pos' := p1) hnd rfl (.inl l1) hp (by rfl) (.inr l1))
    exact hq.run pins s' σ H' D I ⟨h1, h2, h3⟩
  · have hot := pe_hot (X := Z.suite ad ((ad, oe) :: pn)) (x := srt) (p := p9) (pos := p11) (q := (ad, oe)) (cls := cls) (d := d) (e := .Name e p10) (es := []) S hgl (room_hot hroom _) List.mem_cons_self hz hf gs
      (pa_cons (pe_var (i := 2) rfl (.inl l2) de de2) pa_nil) ds
    exact pss_one (ps_ret hot)
end Ft

/-! Promises of the program's own defs (no need of the guards), which may let exceptions out; classes made; the end of a law with tables of code objects. -/
namespace Ft
open PySem PySem.Spec PyProof.Rows L2 LamX
structure HasO (P : Program) (w : World) (K : PySem.W.Frag) (mg : Str → Option Value) (base : Heap) (CX : CXT) (k : Nat) (x : Str) (ps : List Str) (sp : Sp) : Prop where
  ex : ∃ (f : Addr) (fd : FuncData), FnOk P w K mg base CX k f fd ps sp ∧ mg x = some (.ref f) ∧ PySem.W.keepIn K (.ref f) = true ∧ Binds K fd ps []
section
variable {P : Program} {w : World} {K : PySem.W.Frag} {mg : Str → Option Value} {base : Heap}
theorem okO {x qual : Str} {st : Stmt} {f : Addr} {fd : FuncData} {N ps : List Str} {k : Nat} {sp : Sp} (F : Fun K x qual st f fd) (S : FnScope N ps (defScope st)) (len : ∀ vs H Q E, sp vs H Q E → vs.length = ps.length)
    (hb : ∀ (cdv : Value) (A : Around) (outer : List Env) (s : Shared) (H : Hp) (vs : List V) (Q : VK) (E : XK), Room k (A.deeper (envOfC qual (defScope st) s.heap.objs.size f cdv)) → sp vs H Q E →
      ∃ t, PSs (cxOf CX0 P w K mg base N qual (defScope st) f cdv A outer s H E).nox (defBody st) t ∧ t ⟨fun _ H' => Q .non H', Q, fun _ _ => False, fun _ _ => False⟩ (start N vs) H) :
    FnOk P w K mg base CX0 (k + 1) f fd ps sp := by
  obtain ⟨_, _, _, _, _, _, cdv, _, _, e, lk, hcd⟩ := F.ex
  subst e
  refine fn_of lk hcd S len fun A outer s H vs Q E hr h => ?_
  obtain ⟨t, d, q⟩ := hb cdv A outer s H vs Q E hr h
  exact ⟨t, d.nox, q⟩
/-- a def that may raise; tk, px, pc: where its exceptions go -/
theorem okX {x qual : Str} {st : Stmt} {f : Addr} {fd : FuncData} {N ps : List Str} {k : Nat} {sp : Sp} (F : Fun K x qual st f fd) (S : FnScope N ps (defScope st)) (len : ∀ vs H Q E, sp vs H Q E → vs.length = ps.length)
    (hb : ∀ (cdv : Value) (A : Around) (outer : List Env) (s : Shared) (H : Hp) (vs : List V) (Q : VK) (E : XK), Room k (A.deeper (envOfC qual (defScope st) s.heap.objs.size f cdv)) →
      Takes (cxOf (L2.CX P w) P w K mg base N qual (defScope st) f cdv A outer s H E) (fun cls d _ H => E cls d H) →
      PassesOwn (model P w) (cxOf (L2.CX P w) P w K mg base N qual (defScope st) f cdv A outer s H E).A (cxOf (L2.CX P w) P w K mg base N qual (defScope st) f cdv A outer s H E).env (cxOf (L2.CX P w) P w K mg base N qual (defScope st) f cdv A outer s H E).xe →
      Passes (L2.CX P w) (cxOf (L2.CX P w) P w K mg base N qual (defScope st) f cdv A outer s H E) E → sp vs H Q E →
      ∃ t, PSs (cxOf (L2.CX P w) P w K mg base N qual (defScope st) f cdv A outer s H E) (defBody st) t ∧ t ⟨fun _ H' => Q .non H', Q, fun _ _ => False, fun _ _ => False⟩ (start N vs) H) :
    FnOk P w K mg base (L2.CX P w) (k + 1) f fd ps sp := by
  obtain ⟨_, _, _, _, _, _, cdv, _, _, e, lk, hcd⟩ := F.ex
  subst e
  refine fn_of lk hcd S len fun A outer s H vs Q E hr h => ?_
  have tk : Takes (cxOf (L2.CX P w) P w K mg base N qual (defScope st) f cdv A outer s H E) (fun cls d _ H => E cls d H) := takes_of rfl rfl rfl rfl
  exact hb cdv A outer s H vs Q E hr tk (passes_of rfl) (passes_call tk fun _ _ _ _ h => h) h
theorem DefAt.hasO {CX : CXT} {k : Nat} {x : Str} {st : Stmt} {ps : List Str} {sp : Sp} {f : Addr} {fd : FuncData} (A : DefAt K mg x st f fd) (G : Fun K x x st f fd → FnOk P w K mg base CX k f fd ps sp)
    (hb : ∀ (kV doc pm : Value) (an : Option Addr) (cdv ct : Value) (us : List Value), us.length = ps.length → bindArgs (PySem.W.fnOf x x (defArgs st) (defBody st) (defScope st) .none kV doc pm an cdv ct) ⟨us, []⟩ = pure (ps.zip us)) :
    HasO P w K mg base CX k x ps sp := ⟨⟨f, fd, G A.fn, A.at_, A.fn.kp, A.fn.binds hb⟩⟩
theorem HasO.has {CX : CXT} {k : Nat} {x : Str} {ps : List Str} {sp : Sp} (F : HasO P w K mg base CX k x ps sp) : Has P w K mg base CX k x ps sp := by
  obtain ⟨f, fd, h, r⟩ := F.ex
  exact ⟨⟨f, fd, ofOk h, r⟩⟩
end
section
variable {X : Cx} {CX : CXT} {k : Nat} {f C : Addr} {fd : FuncData} {ps : List Str} {sp : Sp} {E : XK} {x : Str} {p pos : Pos} {e : Expr} {es : List Expr} {t : TA}
theorem pe_o (F : HasO X.prog X.w X.K X.mg X.base CX k x ps sp) (hr : Room k X.A) (hx : Passes CX X E) (gl : Gl X x) (ha : PA X (e :: es) t) (hdb : (x == ("__debug__" : Str)) = false := by decide)
    (he : starEach (e :: es) X.env = (false, eval e X.env) :: starEach es X.env := by rfl) (hpl : (backTo pos (starEach es X.env)).any (·.1) = false := by rfl) : PE X (.Call (.Name x p) (e :: es) [] pos) (tCall sp [] E t) := by
  obtain ⟨f, fd, G, hm, hk, hb⟩ := F.ex
  exact pe_call G hr gl hm hk hb .nil hx ha hdb he hpl
/-- a class of the text that is made by its __init__ -/
structure ClsO (P : Program) (w : World) (K : PySem.W.Frag) (mg : Str → Option Value) (base : Heap) (CX : CXT) (k : Nat) (x : Str) (C : Addr) (ps : List Str) (sp : Sp) : Prop where
  ex : ∃ (f : Addr) (fd : FuncData), FnOk P w K mg base CX k f fd ps sp ∧ mg x = some (.ref C) ∧ Mk K C f ∧ Binds K fd ps []
theorem pe_new (F : ClsO X.prog X.w X.K X.mg X.base CX k x C ps sp) (hr : Room (k + 1) X.A) (hx : Passes CX X E) (gl : Gl X x) (ha : PA X (e :: es) t) (hdb : (x == ("__debug__" : Str)) = false := by decide)
    (he : starEach (e :: es) X.env = (false, eval e X.env) :: starEach es X.env := by rfl) (hpl : (backTo pos (starEach es X.env)).any (·.1) = false := by rfl) : PE X (.Call (.Name x p) (e :: es) [] pos) (tMake C sp [] E t) := by
  obtain ⟨f, fd, G, hm, M, hb⟩ := F.ex
  exact pe_make M G hr gl hm hb .nil hx ha hdb he hpl
end
/-! ### the end of a law row that makes lambdas -/
theorem lawEndT {P : Program} {w : World} {K : PySem.W.Frag} {mg mb : Str → Option Value} {k : Nat} {fa a : Addr} {cs : List (Addr × Addr)} {fd : FuncData} {x : Str} {sp : Sp} {s : Shared} {vs : List Value} {ns : List Int}
    (inK : K.In s.heap) (hG : s.heap.Ns mainGlobals mg) (hB : s.heap.Ns builtinsNs mb) (hBB : ∀ y : Str, y ≠ "__name__" → mb y = bootBuiltins y) (nolim : s.heap.NoLimit) (nogen : s.gens = #[])
    (tabO : ∀ p ∈ cs, s.heap.get? p.2 = some { cls := .none, data := .fields #[] }) (tabK : ∀ p ∈ cs, K.lookup p.2 = none) (tabC : ∀ p ∈ cs, PySem.W.CodeHd s.heap p.1 p.2)
    (hbm : ∃ (bm : Addr) (ob : Obj), mg "__builtins__" = some (.ref bm) ∧ bm ≠ builtinsNs ∧ s.heap.get? bm = some ob ∧ ob.cls = .type "module" ∧ ob.dict = some builtinsNs ∧ ob.data = .plain)
    (ha : s.heap.get? a = some { cls := .type "list", data := .seq vs.toArray }) (hints : IntsAre vs ns) (hlen : ns.length ≤ sizeLine) (room : Room k callerA)
    (F : ∀ base : Heap, K.In base → base.Ns mainGlobals mg → (∀ p ∈ cs, TabB base mg p.1 p.2) → FnG P w K mg base CX0 k fa fd [x] sp)
    (bt : ∀ (s : Shared) (u : Value), BindsTo s fd ⟨[u], []⟩ [(x, u)])
    (hsp : ∀ H : Hp, (∀ p ∈ cs, H p.2 = some (.tbl #[])) → SqL K H a (ns.map V.int) → sp [.ref a] H (fun v _ => v = .bl true) E0) :
    codeAny (model P w) callerA (.call (.ref fa) ⟨[.ref a], []⟩) (fun r s' => r = .ok (.ret (.bool true)) ∧ OldK s.heap s'.heap ∧ s'.os = s.os ∧ AllBare s'.gens) s := by
  have rel := vals_ints hints
  let ob : Obj := { cls := .type "list", data := .seq vs.toArray }
  let T : Addr → Prop := fun b => ∃ p ∈ cs, p.2 = b
  have objT : ∀ {b}, T b → s.heap.get? b = some { cls := .none, data := .fields #[] } := by
    rintro b ⟨p, hp, rfl⟩
    exact tabO p hp
  have aT : ¬ T a := fun z => by
    have q := objT z
    rw [ha] at q
    cases q
  let H : Hp := fun b => open Classical in if T b then some (.tbl #[]) else if b = a ∧ K.lookup a = none then some (.frz ob (.lst (ns.map V.int))) else none
  have HT : ∀ {b}, T b → H b = some (.tbl #[]) := fun z => if_pos z
  have Hel : ∀ {b}, ¬ T b → H b = if b = a ∧ K.lookup a = none then some (.frz ob (.lst (ns.map V.int))) else none := fun z => if_neg z
  have Hsome : ∀ {b : Addr} {u : HO}, H b = some u → (T b ∧ u = .tbl #[]) ∨ (b = a ∧ K.lookup a = none ∧ u = .frz ob (.lst (ns.map V.int))) := by
    intro b u q
    by_cases t : T b
    · rw [HT t] at q
      exact .inl ⟨t, (Option.some.inj q).symm⟩
    · rw [Hel t] at q
      by_cases c : b = a ∧ K.lookup a = none
      · rw [if_pos c] at q
        exact .inr ⟨c.1, c.2, (Option.some.inj q).symm⟩
      · rw [if_neg c] at q
        cases q
  have Hnone : ∀ {b : Addr} {o : Obj}, s.heap.get? b = some o → (∀ us n, o.data ≠ .seq us n) → o.data ≠ .fields #[] → H b = none := by
    intro b o e1 e2 e3
    cases c : H b with
    | none => rfl
    | some u =>
      rcases Hsome c with ⟨t, _⟩ | ⟨rfl, -, -⟩
      · rw [objT t] at e1
        cases e1
        exact absurd rfl e3
      · rw [ha] at e1
        cases e1
        exact absurd rfl (e2 _ _)
  let base := hidT s.heap H
  have onto : ∀ {b : Addr} {m : Str → Option Value}, s.heap.Ns b m → base.Ns b m := by
    rintro b m ⟨o, es, ep, e1, e2, r⟩
    refine ⟨o, es, ep, hidT_get e1 (Hnone e1 (fun us n z => ?_) (fun z => ?_)), e2, r⟩ <;> (rw [e2] at z; cases z)
  have inB : K.In base := by
    intro b o e
    apply hidT_get (inK b o e)
    cases c : H b with
    | none => rfl
    | some u =>
      rcases Hsome c with ⟨⟨p, hp, rfl⟩, _⟩ | ⟨rfl, z, -⟩
      · exact absurd ((tabK p hp).symm.trans e) (by intro y; cases y)
      · exact absurd (z.symm.trans e) (by intro y; cases y)
  have sq : SqL K H a (ns.map V.int) := by
    cases c : K.lookup a with
    | none => exact .inl (.inr ⟨ob, (Hel aT).trans (if_pos ⟨rfl, c⟩)⟩)
    | some o =>
      have e := inK a o c
      rw [ha] at e
      cases e
      refine .inr ⟨_, vs.toArray, _, c, rfl, rfl, rfl, ?_, ?_⟩
      · rw [List.size_toArray, ← rel.length, List.length_map]
        exact hlen
      · rw [List.toList_toArray]
        exact rel
  have hok : HOk P w H s.heap := by
    intro b u q
    rcases Hsome q with ⟨t, rfl⟩ | ⟨rfl, -, rfl⟩
    · exact objT t
    · exact ⟨ha, by rw [List.length_map]; exact hlen, vs, _, rel, ha⟩
  have nomem : ∀ b : Addr, b ∉ frs ([] : List Env) := fun b z => by
    cases z
  have tabs : ∀ p ∈ cs, TabB base mg p.1 p.2 := by
    intro p hp
    have ht := tabO p hp
    constructor
    · obtain ⟨o, us, file, tf, flags, tg, inF, text, tt, e1, r1, r2, r3, r⟩ := tabC p hp
      refine ⟨o, us, file, tf, flags, tg, inF, text, tt, hidT_get e1 (Hnone e1 (fun _ _ z => ?_) (fun z => ?_)), r1, r2, r3, r⟩
      · rw [r2] at z
        cases z
      · rw [r2] at z
        cases z
        exact absurd r3 (by simp)
    · obtain ⟨bm, o, b1, b2, b3, b4, b5, b6⟩ := hbm
      refine ⟨bm, o, b1, b2, fun q => ?_, fun q => ?_, hidT_get b3 (Hnone b3 (fun _ _ z => ?_) (fun z => ?_)), b4, b5, b6⟩
      · obtain ⟨o', es, ep, e, hd, _⟩ := hG
        rw [q, e] at b3
        cases b3
        rw [hd] at b6
        cases b6
      · rw [q, ht] at b3
        cases b3
        cases b6
      · rw [b6] at z
        cases z
      · rw [b6] at z
        cases z
    · intro z
      obtain ⟨o, es, ep, e, hd, _⟩ := hG
      rw [z, ht] at e
      cases e
      cases hd
  have e0 : Env0 P w K mg base callerA [] s H :=
    { frames := rfl, mod := ⟨inB, onto hG, ⟨mb, onto hB, hBB⟩, ?lim⟩, bs := fun b o e => of_hidT e, bsz := Nat.le_of_eq (hidT_size s.heap H), funs := trivial, frf := fun b z => absurd z (nomem b), hok := hok, bare := .of_eq nogen }
  case lim =>
    obtain ⟨mc, h1, h2⟩ := nolim
    exact ⟨mc, onto h1, h2⟩
  apply codeAny_mono ((F base inB (onto hG) tabs).gRun callerA rfl room [] s H e0 ⟨[.ref a], []⟩ [.ref a] [.ref a] _ _ (bt s (.ref a)) (.cons rfl .nil) (hsp H (fun p hp => HT ⟨p, hp, rfl⟩) sq))
  intro r s2 q
  match r, q with
  | .error e, q => exact False.elim q
  | .ok .next, q => exact False.elim q
  | .ok .brk, q => exact False.elim q
  | .ok .cont, q => exact False.elim q
  | .ok (.ret u), ⟨v, H2, hos, hbare, un, hok2, rv, hv⟩ =>
    cases (show v = .bl true from hv)
    cases (show u = Value.bool true from rv)
    have old : ∀ b o, ¬ T b → s.heap.get? b = some o → s2.heap.get? b = some o := by
      intro b o nt e
      cases c : H b with
      | none => exact un.keep b o e c (nomem b) (by intro z; cases z)
      | some y =>
        rcases Hsome c with ⟨t, _⟩ | ⟨rfl, -, rfl⟩
        · exact absurd t nt
        · rw [ha] at e
          cases e
          exact (hok2 _ _ (un.frzs _ _ _ c)).1
    have grown : ∀ {b}, T b → ∃ more : Array Value, s2.heap.get? b = some { cls := .none, data := .fields more } := by
      intro b t
      obtain ⟨more, z⟩ := un.tbls b #[] (HT t)
      exact ⟨_, hok2 b _ z⟩
    refine ⟨rfl, ⟨fun b o e => ?_, fun b o e => ?_⟩, hos, hbare⟩
    · by_cases t : T b
      · obtain ⟨more, hm⟩ := grown t
        obtain ⟨p, hp, rfl⟩ := t
        rw [tabO p hp] at e
        cases e
        exact .inr (.inl ⟨((tabC p hp).tab (tabO p hp)).isCodeTable, rfl, #[], more, rfl, by rw [Array.empty_append]; exact hm⟩)
      · exact .inl (old b o t e)
    · by_cases t : T b
      · obtain ⟨more, hm⟩ := grown t
        exact ⟨_, hm⟩
      · exact ⟨o, old b o t e⟩
/-- F: also the code objects with their tables, by the names of their defs -/
theorem walkT {l : PySem.W.OpenLaw} {n k : Nat} {q : Program} {loose : List Str} {XP : (Str → Option Value) → Heap → Prop} {YP : World → Heap → Prop} {d : DefRec} {K : Params → PySem.W.Frag} {sp : PySem.W.Frag → List (Addr × Addr) → Sp} {x : Str}
    (hn : l.most = some n) (hn2 : n ≤ sizeLine) (hdf : d.params.defaults = []) (room : Room k callerA) (hY : ∀ (w : World) (h : Heap), YP w h → (K w.params).In h)
    (F : ∀ (w : World) (mg : Str → Option Value) (fa : Addr) (h : Heap), (K w.params).In h → h.Ns mainGlobals mg → mg d.name = some (.ref fa) →
      ∃ (fd : FuncData) (cs : List (Addr × Addr)), (∀ c ∈ cs, ∃ (y : Str) (r : DefRec), (PyProof.Rows.recsOf q).find? (fun e => e.name == y) = some r ∧ PySem.W.tabIn (K w.params) y = some c ∧ (K w.params).lookup c.2 = none) ∧
        (∀ (s : Shared) (u : Value), BindsTo s fd ⟨[u], []⟩ [(x, u)]) ∧
        ∀ base : Heap, (K w.params).In base → base.Ns mainGlobals mg → (∀ p ∈ cs, TabB base mg p.1 p.2) → FnG l.prog w (K w.params) mg base CX0 k fa fd [x] (sp (K w.params) cs))
    (hsp : ∀ (K : PySem.W.Frag) (cs : List (Addr × Addr)) (H : Hp) (a : Addr) (ns : List Int), ns.length ≤ n → (∀ p ∈ cs, H p.2 = some (.tbl #[])) → SqL K H a (ns.map V.int) → sp K cs [.ref a] H (fun v _ => v = .bl true) E0) :
    PySem.W.WalkO q loose XP YP l.row.toRowW d [] (fun f vs => PySem.call f vs) := by
  apply Att.attach_call hn hdf
  intro w s0 s1 mg mb fa o pm cd doc a vs ns G Y _ _ _ hmg hobj hints hlen hg
  obtain ⟨fd, cs, tabs, b, F'⟩ := F w mg fa _ (hY w _ Y) G.T.g hmg
  have tab : ∀ p ∈ cs, PySem.W.CodeHd s1.heap p.1 p.2 ∧ s1.heap.get? p.2 = some { cls := .none, data := .fields #[] } := by
    rintro ⟨c, P⟩ hp
    obtain ⟨y, r, h1, h2, _⟩ := tabs _ hp
    exact PySem.W.tab_of G.T (hY w _ Y) h1 h2
  have non : ∀ p ∈ cs, (K w.params).lookup p.2 = none := fun p hp => by
    obtain ⟨y, r, _, _, h3⟩ := tabs _ hp
    exact h3
  exact lawEndT (hY w _ Y) G.T.g G.T.b G.T.builtins G.T.nolimit hg (fun p hp => (tab p hp).2) non (fun p hp => (tab p hp).1) G.T.bmain hobj hints (Nat.le_trans hlen hn2) room F' b fun H h1 hS => hsp _ _ H a ns hlen h1 hS
end Ft

/-! Data made by the program: numbers, texts, None, tuples and lists that are tracked; no list is the one at z. -/
namespace Ft
open PySem PySem.Spec PyProof.Rows L2
mutual
inductive Dt (z : Addr) (H : Hp) : V → PyData → Prop
  | non : Dt z H .non .none
  | bl (b : Bool) : Dt z H (.bl b) (.bool b)
  | int (i : Int) : Dt z H (.int i) (.int i)
  | str (x : Str) : Dt z H (.str x) (.str x)
  | lst {a : Addr} {xs : List V} {ds : List PyData} : a ≠ z → H a = some (.lst xs) → DtAll z H xs ds → Dt z H (.ref a) (.list ds)
  | tup {a : Addr} {xs : List V} {ds : List PyData} : H a = some (.tup xs) → DtAll z H xs ds → Dt z H (.ref a) (.tuple ds)
inductive DtAll (z : Addr) (H : Hp) : List V → List PyData → Prop
  | nil : DtAll z H [] []
  | cons {v : V} {vs : List V} {d : PyData} {ds : List PyData} : Dt z H v d → DtAll z H vs ds → DtAll z H (v :: vs) (d :: ds)
end
section
variable {z : Addr} {H H' : Hp} {K : PySem.W.Frag}
theorem DtAll.len {xs : List V} {ds : List PyData} (h : DtAll z H xs ds) : xs.length = ds.length := by
  induction ds generalizing xs with
  | nil => cases h; rfl
  | cons d ds ih => cases h with | cons h1 h2 => rw [List.length_cons, List.length_cons, ih h2]
theorem DtAll.get {xs : List V} {ds : List PyData} {i : Nat} {x : V} (h : DtAll z H xs ds) (e : xs[i]? = some x) : ∃ d, ds[i]? = some d ∧ Dt z H x d := by
  induction ds generalizing xs i with
  | nil => cases h; simp at e
  | cons d ds ih =>
    cases h with
    | cons h1 h2 =>
      cases i with
      | zero => cases Option.some.inj e; exact ⟨d, rfl, h1⟩
      | succ i => exact ih h2 e
theorem DtAll.at {xs : List V} {ds : List PyData} {i : Nat} {d : PyData} (h : DtAll z H xs ds) (e : ds[i]? = some d) : ∃ x, xs[i]? = some x ∧ Dt z H x d := by
  obtain ⟨x, hx⟩ : ∃ x, xs[i]? = some x := by
    have hl := (List.getElem?_eq_some_iff.mp e).1
    rw [← h.len] at hl
    exact ⟨_, List.getElem?_eq_getElem hl⟩
  obtain ⟨d', e', h'⟩ := h.get hx
  rw [e] at e'
  cases e'
  exact ⟨x, hx, h'⟩
theorem DtAll.app {xs ys : List V} {ds es : List PyData} (h : DtAll z H xs ds) (k : DtAll z H ys es) : DtAll z H (xs ++ ys) (ds ++ es) := by
  induction ds generalizing xs with
  | nil => cases h; exact k
  | cons d ds ih =>
    cases h with
    | cons h1 h2 => exact .cons h1 (ih h2)
theorem DtAll.strs (ts : List Str) : DtAll z H (ts.map V.str) (ts.map PyData.str) := by
  induction ts with
  | nil => exact .nil
  | cons t ts ih => exact .cons (.str t) ih
theorem DtAll.ofStrs {ts : List Str} {xs : List V} (h : DtAll z H xs (ts.map PyData.str)) : xs = ts.map V.str := by
  induction ts generalizing xs with
  | nil => cases h; rfl
  | cons t ts ih =>
    cases h with
    | cons h1 h2 =>
      cases h1
      rw [ih h2]
      rfl
theorem dt_take : ∀ {n : Nat} {xs : List V} {ds : List PyData}, DtAll z H xs ds → DtAll z H (xs.take n) (ds.take n)
  | 0, _, _, _ => by rw [List.take_zero, List.take_zero]; exact .nil
  | n + 1, _, _, .nil => .nil
  | n + 1, _, _, .cons h1 h2 => .cons h1 (dt_take h2)
theorem dt_drop : ∀ {n : Nat} {xs : List V} {ds : List PyData}, DtAll z H xs ds → DtAll z H (xs.drop n) (ds.drop n)
  | 0, _, _, h => h
  | n + 1, _, _, .nil => .nil
  | n + 1, _, _, .cons h1 h2 => dt_drop (n := n) h2
mutual
/-- data by data: what the heaps agree upon -/
theorem Dt.move (hl : ∀ a xs, a ≠ z → H a = some (.lst xs) → H' a = some (.lst xs)) (ht : ∀ a xs, H a = some (.tup xs) → H' a = some (.tup xs)) : ∀ {v : V} {d : PyData}, Dt z H v d → Dt z H' v d
  | _, _, .non => .non
  | _, _, .bl b => .bl b
  | _, _, .int i => .int i
  | _, _, .str x => .str x
  | _, _, .lst n e h => .lst n (hl _ _ n e) (DtAll.move hl ht h)
  | _, _, .tup e h => .tup (ht _ _ e) (DtAll.move hl ht h)
theorem DtAll.move (hl : ∀ a xs, a ≠ z → H a = some (.lst xs) → H' a = some (.lst xs)) (ht : ∀ a xs, H a = some (.tup xs) → H' a = some (.tup xs)) : ∀ {vs : List V} {ds : List PyData}, DtAll z H vs ds → DtAll z H' vs ds
  | _, _, .nil => .nil
  | _, _, .cons h1 h2 => .cons (Dt.move hl ht h1) (DtAll.move hl ht h2)
end
theorem Dt.same {v : V} {d : PyData} (h : Dt z H v d) (s : Same H H') : Dt z H' v d := h.move (fun a xs _ e => s _ _ e) (fun a xs e => s _ _ e)
theorem DtAll.same {v : List V} {d : List PyData} (h : DtAll z H v d) (s : Same H H') : DtAll z H' v d := h.move (fun a xs _ e => s _ _ e) (fun a xs e => s _ _ e)
theorem Dt.mv {v : V} {d : PyData} (h : Dt z H v d) (hz : ∀ xs, H z ≠ some (.tup xs)) (s : Mv z H H') : Dt z H' v d :=
  h.move (fun a xs n e => s _ _ n e) (fun a xs e => s _ _ (fun q => hz xs (q ▸ e)) e)
theorem DtAll.mv {v : List V} {d : List PyData} (h : DtAll z H v d) (hz : ∀ xs, H z ≠ some (.tup xs)) (s : Mv z H H') : DtAll z H' v d :=
  h.move (fun a xs n e => s _ _ n e) (fun a xs e => s _ _ (fun q => hz xs (q ▸ e)) e)
theorem Dt.extN {v : V} {d : PyData} (h : Dt z H v d) (s : LamX.ExtN H H') : Dt z H' v d :=
  h.move (fun a xs n e => s _ _ e (fun ps q => nomatch q)) (fun a xs e => s _ _ e (fun ps q => nomatch q))
theorem Deal.notup {d : Addr} (h : Deal H d) : ∀ xs, H d ≠ some (.tup xs) := fun xs q => by
  obtain ⟨a, b, c, e, _⟩ := h
  rw [e] at q
  cases q
mutual
theorem Dt.dp : ∀ {v : V} {d : PyData}, Dt z H v d → Dp K H v d
  | _, _, .non => .non
  | _, _, .bl b => .bl b
  | _, _, .int i => .int i
  | _, _, .str x => .str x
  | _, _, .lst n e h => .lst (SqL.of e) (DtAll.dp h)
  | _, _, .tup e h => .tup (.inl (.inl e)) (DtAll.dp h)
theorem DtAll.dp : ∀ {vs : List V} {ds : List PyData}, DtAll z H vs ds → DpAll K H vs ds
  | _, _, .nil => .nil
  | _, _, .cons h1 h2 => .cons (Dt.dp h1) (DtAll.dp h2)
end
def tyD : PyData → String
  | .none => "NoneType" | .bool _ => "bool" | .int _ => "int" | .str _ => "str" | .list _ => "list" | .tuple _ => "tuple" | .dict _ => "dict"
theorem Dt.ty {v : V} {d : PyData} (h : Dt z H v d) : TyOf K H v (.type (tyD d)) := by
  cases h with
  | non => exact .non
  | bl b => exact .bl b
  | int i => exact .int i
  | str x => exact .str x
  | lst n e h => exact .lst e
  | tup e h => exact .tup e
def isStrD : PyData → Bool
  | .str _ => true
  | _ => false
def isTupD : PyData → Bool
  | .tuple _ => true
  | _ => false
theorem isStrD_no {d : PyData} (h : ¬ ∃ x, d = .str x) : isStrD d = false := by
  cases d <;> first | rfl | exact absurd ⟨_, rfl⟩ h
theorem isTupD_no {d : PyData} (h : ¬ ∃ x, d = .tuple x) : isTupD d = false := by
  cases d <;> first | rfl | exact absurd ⟨_, rfl⟩ h
theorem kit_str (d : PyData) : PySem.W.kitOne K (.type (tyD d)) (.type "str") = some (isStrD d) := by
  have e : ∀ t : String, t ∈ ["NoneType", "bool", "int", "list", "tuple", "dict"] → kitB t "str" = some false := by decide +kernel
  cases d with
  | str x => exact kit_ty (a := "str") (show kitB "str" "str" = some true by decide +kernel)
  | none => exact kit_ty (e "NoneType" (by decide))
  | bool b => exact kit_ty (e "bool" (by decide))
  | int i => exact kit_ty (e "int" (by decide))
  | list l => exact kit_ty (e "list" (by decide))
  | tuple l => exact kit_ty (e "tuple" (by decide))
  | dict l => exact kit_ty (e "dict" (by decide))
theorem kit_tup (d : PyData) : PySem.W.kitOne K (.type (tyD d)) (.type "tuple") = some (isTupD d) := by
  have e : ∀ t : String, t ∈ ["NoneType", "bool", "int", "list", "str", "dict"] → kitB t "tuple" = some false := by decide +kernel
  cases d with
  | tuple x => exact kit_ty (a := "tuple") (show kitB "tuple" "tuple" = some true by decide +kernel)
  | none => exact kit_ty (e "NoneType" (by decide))
  | bool b => exact kit_ty (e "bool" (by decide))
  | int i => exact kit_ty (e "int" (by decide))
  | list l => exact kit_ty (e "list" (by decide))
  | str l => exact kit_ty (e "str" (by decide))
  | dict l => exact kit_ty (e "dict" (by decide))
theorem SqT.of {a : Addr} {xs : List V} (h : H a = some (.tup xs)) : SqT K H a xs := .inl (.inl h)
end
/-! ### rules inside comprehensions: the written part is named from outside -/
section
variable {X : Cx} {K : PySem.W.Frag}
theorem opk_in_seq (e : X.K = K) : OpR X (compareOp .In) (rIn K false) := e ▸ op_in_seq
theorem opk_notIn_seq (e : X.K = K) : OpR X (compareOp .NotIn) (rIn K true) := e ▸ op_notIn_seq
theorem ixk_list (e : X.K = K) : IxR X (rIxL K) := e ▸ ix_list
theorem ixk_tup (e : X.K = K) : IxR X (rIxT K) := e ▸ ix_tup
theorem ixk_seq (e : X.K = K) : IxR X (rIx K) := e ▸ ix_seq
theorem callk_len_seq (e : X.K = K) : CallR X (.builtin "len") (fun xs H Q => ∃ p ys, xs = [.ref p] ∧ (SqL K H p ys ∨ SqT K H p ys) ∧ Q (.int ys.length) H) := e ▸ call_len_seq
theorem callk_tuple_of (e : X.K = K) : CallR X (.type "tuple") (fun xs H Q => ∃ p ys, xs = [.ref p] ∧ ((SqL K H p ys ∧ ∀ l, H l = none → Q (.ref l) (upd H l (.tup ys))) ∨ (SqT K H p ys ∧ Q (.ref p) H))) := e ▸ call_tuple_of
theorem crk_all (e : X.K = K) (hc : X.calm = true) : CallR X (.builtin "all") (rAll K) := e ▸ cr_all hc
theorem crk_any (e : X.K = K) (hc : X.calm = true) : CallR X (.builtin "any") (rAny K) := e ▸ cr_any hc
theorem crk_sum (e : X.K = K) (hc : X.calm = true) : CallR X (.builtin "sum") (rSum K) := e ▸ cr_sum hc
theorem callk_isi (e : X.K = K) : CallR X (.builtin "isinstance") (rIsi K) := e ▸ call_isi
theorem opk_eqD (e : X.K = K) (hu : X.A.units + 64 < cLine) : OpR X (compareOp .Eq) (rEqD K) := e ▸ op_eqD hu
theorem opk_neD (e : X.K = K) (hu : X.A.units + 64 < cLine) : OpR X (compareOp .NotEq) (rNeD K) := e ▸ op_neD hu
theorem slk_list (e : X.K = K) : SlR X (rSlL K) := e ▸ sl_list
theorem pek_fld {ex : Expr} {ta : TE} {f : Str} {pos : Pos} (e : X.K = K) (he : PE X ex ta) (hb : attributeBase ex f X.env (eval ex X.env) = eval ex X.env) : PE X (.Attribute ex f pos) (tFld K ta f) := e ▸ pe_fld he hb
end
/-! ### a comprehension that gives the items ys, i turns done -/
def Acc (H : Hp) (D : Addr) (ys : List V) (i : Nat) (H1 : Hp) : Prop := Same H H1 ∧ H1 D = some (.lst (ys.take i))
theorem Acc.zero {H : Hp} {D : Addr} {ys : List V} (nD : H D = none) : Acc H D ys 0 (upd H D (.lst [])) := ⟨same_new nD, upd_same⟩
theorem Acc.step {H H1 H2 : Hp} {D : Addr} {ys : List V} {i : Nat} {y : V} (h : Acc H D ys i H1) (s2 : Same H1 H2) (nD : H D = none) (hl : ys.length ≤ 1000) (hy : ys[i]? = some y) :
    ∃ acc, H2 D = some (.lst acc) ∧ acc.length < sizeLine ∧ Acc H D ys (i + 1) (upd H2 D (.lst (acc ++ [y]))) := by
  obtain ⟨s1, h1⟩ := h
  refine ⟨_, s2 _ _ h1, ?_, same_fresh (s1.trans s2) nD, ?_⟩
  · rw [List.length_take]
    exact Nat.lt_of_le_of_lt (Nat.le_trans (Nat.min_le_right _ _) hl) (by decide)
  · rw [upd_same, List.take_succ, hy]
    rfl
theorem Acc.done {H H1 : Hp} {D : Addr} {ys : List V} {n : Nat} (h : Acc H D ys n H1) (hn : n = ys.length) : Same H H1 ∧ H1 D = some (.lst ys) := by
  refine ⟨h.1, ?_⟩
  rw [h.2, hn, List.take_length]
end Ft

/-! repr of flat things; a def whose code object is known (it makes lambdas); what such a def keeps. -/
namespace Ft
open PySem PySem.Spec PyProof.Rows L2 LamX
section
variable {X : Cx}
theorem call_repr_str : CallR X (.builtin "repr") (fun xs H Q => ∃ x : Str, xs = [.str x] ∧ (reprText x).length ≤ sizeLine ∧ Q (.str (reprText x)) H) := by
  rintro pins s σ H xs us Q I r ⟨x, rfl, hz, q⟩
  obtain ⟨u, rfl, t, rfl⟩ := vals1 r
  exact PySem.P.repr_of_str ⟨.str _, H, I.tok _, ⟨_, rfl⟩, q⟩ hz
theorem call_repr_none : CallR X (.builtin "repr") (fun xs H Q => xs = [.non] ∧ Q (.str "None") H) := by
  rintro pins s σ H xs us Q I r ⟨rfl, q⟩
  obtain ⟨u, rfl, ru⟩ := vals1 r
  cases ru
  exact PySem.P.repr_of_none ⟨.str _, H, I.tok _, ⟨_, rfl⟩, q⟩
theorem call_repr_bool : CallR X (.builtin "repr") (fun xs H Q => ∃ b : Bool, xs = [.bl b] ∧ Q (.str (if b then "True" else "False")) H) := by
  rintro pins s σ H xs us Q I r ⟨b, rfl, q⟩
  obtain ⟨u, rfl, ru⟩ := vals1 r
  cases ru
  exact PySem.P.repr_of_bool ⟨.str _, H, I.tok _, ⟨_, rfl⟩, q⟩
end
theorem opk_catA {X : Cx} {K : PySem.W.Frag} (e : X.K = K) : OpR X (binaryOp .Add) (rCatA K) := e ▸ op_catA
theorem slk_tupA {X : Cx} {K : PySem.W.Frag} (e : X.K = K) : SlR X (rSlA K) := e ▸ sl_tupA
theorem repr_name {x : Str} (h : isName x) : (reprText x).length ≤ sizeLine := by
  have hl := (isNameL_iff _).mp h
  have h8 : x.length ≤ 8 := by rw [len_tl]; exact hl.2.1
  refine Nat.le_trans (PySem.StrLaws.reprText_len x fun c hc => ?_) (Nat.le_trans (show 10 * x.length + 2 ≤ 82 by omega) (by decide))
  have hc' := hl.2.2.2 c hc
  have : ∀ c ∈ nameL, c < 16 ^ 8 := by decide +kernel
  exact this c hc'
/-- a def that stands in the written part, its code object at c -/
structure FunC (K : PySem.W.Frag) (x qual : Str) (st : Stmt) (f : Addr) (fd : FuncData) (c : Addr) : Prop where
  ex : ∃ (oc : Value) (od : Option Addr) (kV doc pm : Value) (an : Option Addr) (ct : Value) (osl : Array (Option Value)),
    fd = PySem.W.fnOf x qual (defArgs st) (defBody st) (defScope st) .none kV doc pm an (.ref c) ct ∧ K.lookup f = some ⟨oc, od, .func fd, osl⟩ ∧ PySem.W.codeIn K (.ref c) qual = true
  kp : PySem.W.keepIn K (.ref f) = true
theorem FunC.fn {K : PySem.W.Frag} {x qual : Str} {st : Stmt} {f : Addr} {fd : FuncData} {c : Addr} (F : FunC K x qual st f fd c) : Fun K x qual st f fd := by
  obtain ⟨oc, od, kV, doc, pm, an, ct, osl, h⟩ := F.ex
  exact ⟨⟨oc, od, kV, doc, pm, an, .ref c, ct, osl, h⟩, F.kp⟩
structure DefC (K : PySem.W.Frag) (mg : Str → Option Value) (x : Str) (st : Stmt) (f : Addr) (fd : FuncData) (c : Addr) : Prop where
  fn : FunC K x x st f fd c
  at_ : mg x = some (.ref f)
theorem DefC.def {K : PySem.W.Frag} {mg : Str → Option Value} {x : Str} {st : Stmt} {f : Addr} {fd : FuncData} {c : Addr} (D : DefC K mg x st f fd c) : DefAt K mg x st f fd := ⟨D.fn.fn, D.at_⟩
theorem defC {K : PySem.W.Frag} {mg : Str → Option Value} {h : Heap} {x : Str} {st : Stmt} {f c : Addr} {oc : Value} {od an : Option Addr} {osl : Array (Option Value)} {kV doc pm ct : Value} (X : K.In h) (G : h.Ns mainGlobals mg)
    (a : PySem.W.nsIn K mainGlobals x = some (some (.ref f))) (l : K.lookup f = some ⟨oc, od, .func (PySem.W.fnOf x x (defArgs st) (defBody st) (defScope st) .none kV doc pm an (.ref c) ct), osl⟩)
    (cc : PySem.W.codeIn K (.ref c) x = true) (k : PySem.W.keepIn K (.ref f) = true) : DefC K mg x st f (PySem.W.fnOf x x (defArgs st) (defBody st) (defScope st) .none kV doc pm an (.ref c) ct) c :=
  ⟨⟨⟨oc, od, kV, doc, pm, an, ct, osl, rfl, l, cc⟩, k⟩, PySem.W.mg_of X G a⟩
section
variable {P : Program} {w : World} {K : PySem.W.Frag} {mg : Str → Option Value} {base : Heap}
theorem okGC {x qual : Str} {st : Stmt} {f c : Addr} {fd : FuncData} {N ps : List Str} {k : Nat} {sp : Sp} (F : FunC K x qual st f fd c) (S : FnScope N ps (defScope st)) (len : ∀ vs H Q E, sp vs H Q E → vs.length = ps.length)
    (hb : ∀ (A : Around) (outer : List Env) (s : Shared) (H : Hp) (vs : List V) (Q : VK) (E : XK), A.guards = some [] → Room k (A.deeper (envOfC qual (defScope st) s.heap.objs.size f (.ref c))) → sp vs H Q E →
      ∃ t, PSs (cxOf CX0 P w K mg base N qual (defScope st) f (.ref c) A outer s H E).nox (defBody st) t ∧ t ⟨fun _ H' => Q .non H', Q, fun _ _ => False, fun _ _ => False⟩ (start N vs) H) :
    FnG P w K mg base CX0 (k + 1) f fd ps sp := by
  obtain ⟨_, _, _, _, _, _, _, _, e, lk, hcd⟩ := F.ex
  subst e
  refine fnG lk hcd S len fun A outer s H vs Q E hg hr h => ?_
  obtain ⟨t, d, q⟩ := hb A outer s H vs Q E hg hr h
  exact ⟨t, d.nox, q⟩
theorem lamPass {X : Cx} {A : Around} {outer : List Env} {s : Shared} {H : Hp} {E : XK} {scope : Scope} {f c' : Addr} : Passes (L2.CX X.prog X.w) (lamCx X A outer s H E scope f c') E :=
  passes_call (X := lamCx X A outer s H E scope f c') (takes_of (X := lamCx X A outer s H E scope f c') (E := E) rfl rfl rfl rfl) fun _ _ _ _ h => h
end
/-! ### heaps behind lambdas: all is kept but the drawn-from list and the tables -/
def Nv (d : Addr) (H H' : Hp) : Prop := ∀ b o, b ≠ d → H b = some o → (∀ ps, o ≠ .tbl ps) → H' b = some o
theorem Nv.refl (d : Addr) (H : Hp) : Nv d H H := fun _ _ _ h _ => h
theorem Nv.trans {d : Addr} {H H1 H2 : Hp} (a : Nv d H H1) (b : Nv d H1 H2) : Nv d H H2 := fun x o n h t => b x o n (a x o n h t) t
theorem Mv.nv {d : Addr} {H H' : Hp} (a : Mv d H H') : Nv d H H' := fun x o n h _ => a x o n h
theorem nv_same {d : Addr} {H H' : Hp} (a : Same H H') : Nv d H H' := fun x o _ h _ => a x o h
theorem nv_ext {d : Addr} {H H' : Hp} (a : ExtN H H') : Nv d H H' := fun x o _ h t => a x o h t
theorem extN_same {H H1 H2 : Hp} (a : ExtN H H1) (b : Same H1 H2) : ExtN H H2 := fun x o h t => b x o (a x o h t)
theorem same_extN {H H1 H2 : Hp} (a : Same H H1) (b : ExtN H1 H2) : ExtN H H2 := fun x o h t => b x o (a x o h) t
theorem Nv.fresh {d D : Addr} {H H' : Hp} {o : HO} (m : Nv d H H') (h : H D = none) : Nv d H (L2.upd H' D o) := fun x u n hx t => by
  rw [upd_ne (ne_of_none hx h)]
  exact m x u n hx t
theorem Nv.seq {d a : Addr} {H H' : Hp} {xs : List V} {K : PySem.W.Frag} (m : Nv d H H') (n : a ≠ d) (h : SqL K H a xs) : SqL K H' a xs := by
  rcases h with (h | ⟨o, h⟩) | h
  · exact .inl (.inl (m _ _ n h (fun _ q => nomatch q)))
  · exact .inl (.inr ⟨o, m _ _ n h (fun _ q => nomatch q)⟩)
  · exact .inr h
theorem tabs_mv {d : Addr} {T : List (Addr × Str)} {H H' : Hp} (t : Tabs T H) (m : Mv d H H') (hd : Deal H d) : Tabs T H' := by
  obtain ⟨a, b, c, e, _⟩ := hd
  have ne1 : ∀ {x : Addr} {o : HO}, H x = some o → (∀ l, o ≠ .lst l) → x ≠ d := fun h1 h2 q => by
    rw [q, e] at h1
    exact h2 _ (Option.some.inj h1).symm
  intro p hp
  obtain ⟨ps, h1, h2, h3⟩ := t p hp
  refine ⟨ps, m _ _ (ne1 h1 (fun l q => nomatch q)) h1, h2, fun pos cv hc => ?_⟩
  obtain ⟨c0, e1, e2⟩ := h3 pos cv hc
  exact ⟨c0, e1, m _ _ (ne1 e2 (fun l q => by unfold CodeO at q; cases q)) e2⟩
theorem deal_ext {d : Addr} {H H' : Hp} (h : Deal H d) (s : ExtN H H') : Deal H' d := by
  obtain ⟨a, b, c, e, r⟩ := h
  exact ⟨a, b, c, s _ _ e (fun _ q => nomatch q), r⟩
theorem tabs_fresh {T : List (Addr × Str)} {H H' : Hp} {D : Addr} {o : HO} (t : Tabs T H) (e : ∀ b o, H b = some o → H' b = some o) : Tabs T H' := t.ext e
theorem tabs_new {T : List (Addr × Str)} {H : Hp} {D : Addr} {o : HO} (t : Tabs T H) (n : H D = none) : Tabs T (L2.upd H D o) := t.ext fun b u h => same_new n b u h
end Ft

/-! Data that may be compared. -/
namespace Ft
open PySem PySem.Spec PyProof.Rows L2 PySem.Builtin PySem.Builtin.Str
def Okd (n : Nat) (d : PyData) : Prop := d.canLay0 = true ∧ d.depth ≤ n
theorem Okd.all {n : Nat} : ∀ {ds : List PyData}, (∀ d ∈ ds, Okd n d) → PyData.canLayAll0 ds = true ∧ PyData.depthAll ds ≤ n
  | [], _ => ⟨rfl, Nat.zero_le _⟩
  | d :: ds, h => by
    have h1 := h d List.mem_cons_self
    have h2 := Okd.all (ds := ds) fun e he => h e (List.mem_cons_of_mem _ he)
    refine ⟨?_, ?_⟩
    · rw [PyData.canLayAll0, h1.1, h2.1]
      rfl
    · rw [PyData.depthAll]
      exact Nat.max_le.mpr ⟨h1.2, h2.2⟩
theorem Okd.list {n : Nat} {ds : List PyData} (h : ∀ d ∈ ds, Okd n d) : Okd (n + 1) (.list ds) := by
  have := Okd.all h
  refine ⟨by rw [PyData.canLay0]; exact this.1, by rw [PyData.depth]; omega⟩
theorem Okd.tuple {n : Nat} {ds : List PyData} (h : ∀ d ∈ ds, Okd n d) : Okd (n + 1) (.tuple ds) := by
  have := Okd.all h
  refine ⟨by rw [PyData.canLay0]; exact this.1, by rw [PyData.depth]; omega⟩
theorem Okd.str {n : Nat} {x : Str} (h : PyData.strOk x = true) : Okd n (.str x) := ⟨by rw [PyData.canLay0]; exact h, by rw [PyData.depth]; exact Nat.zero_le _⟩
theorem Okd.int {n : Nat} {i : Int} : Okd n (.int i) := ⟨rfl, by rw [PyData.depth]; exact Nat.zero_le _⟩
theorem Okd.non {n : Nat} : Okd n .none := ⟨rfl, by rw [PyData.depth]; exact Nat.zero_le _⟩
theorem Okd.bool {n : Nat} {b : Bool} : Okd n (.bool b) := ⟨rfl, by rw [PyData.depth]; exact Nat.zero_le _⟩
theorem Okd.mono {m n : Nat} {d : PyData} (h : Okd m d) (l : m ≤ n) : Okd n d := ⟨h.1, Nat.le_trans h.2 l⟩
theorem Okd.shaped {n : Nat} {d : PyData} (h : Okd n d) (l : n ≤ 64 := by decide) : SeqAt.shaped d = true := by
  unfold SeqAt.shaped
  rw [h.1, decide_eq_true (Nat.le_trans h.2 l)]
  rfl
theorem Okd.refl {n : Nat} {d : PyData} (h : Okd n d) : PyData.eqv d d = true := PySem.SeqAt.eqv_refl d h.1
theorem strOk_of {x : Str} (h : ∀ c ∈ tl x, c < 0x110000) : PyData.strOk x = true := by
  unfold PyData.strOk
  rw [Array.all_eq_true_iff_forall_mem]
  intro c hc
  exact decide_eq_true (h c (by unfold tl; simpa using hc))
theorem ok_name {x : Str} (h : isName x) : PyData.strOk x = true := by
  have hl := (isNameL_iff _).mp h
  have : ∀ c ∈ nameL, c < 0x110000 := by decide +kernel
  exact strOk_of fun c hc => this c (hl.2.2.2 c hc)
theorem ok_num (k : Nat) : PyData.strOk (Str.ofString (toString ((k : Nat) : Int))) = true := by
  refine strOk_of fun c hc => ?_
  have hc' : c ∈ TL.tl (Str.ofString (toString ((k : Nat) : Int))) := hc
  rw [TL.tl_num] at hc'
  by_cases q : c < 48 ∨ 57 < c
  · exact absurd hc' (TL.numL_free q)
  · omega
theorem foldl_all (q : Nat) : ∀ (l : List Nat) (acc : Array Nat), (∀ c ∈ l, ∀ e ∈ reprChar q c, e < 0x110000) → (∀ e ∈ acc, e < 0x110000) → ∀ e ∈ l.foldl (fun out c => out ++ (reprChar q c).toArray) acc, e < 0x110000
  | [], _, _, ha => ha
  | c :: l, acc, h, ha => by
    rw [List.foldl_cons]
    refine foldl_all q l _ (fun c' hc' => h c' (List.mem_cons_of_mem _ hc')) fun e he => ?_
    rcases Array.mem_append.mp he with z | z
    · exact ha e z
    · exact h c List.mem_cons_self e (by simpa using z)
theorem ok_repr {x : Str} (h : ∀ c ∈ tl x, ∀ q ∈ [34, 39], ∀ e ∈ reprChar q c, e < 0x110000) : PyData.strOk (reprText x) = true := by
  have hq : reprQuote x ∈ [34, 39] := by
    unfold reprQuote
    split <;> simp
  have hq2 : reprQuote x < 0x110000 := by
    simp only [List.mem_cons, List.not_mem_nil, or_false] at hq
    rcases hq with e | e <;> rw [e] <;> decide
  refine strOk_of fun c hc => ?_
  unfold tl reprText at hc
  simp only [Array.toList_push, List.mem_append, List.mem_singleton] at hc
  rcases hc with z | z
  · have z' : c ∈ x.cps.foldl (fun out c => out ++ (reprChar (reprQuote x) c).toArray) #[reprQuote x] := Array.mem_toList_iff.mp z
    rw [← Array.foldl_toList] at z'
    exact foldl_all _ x.cps.toList _ (fun c' hc' => h c' hc' _ hq) (fun e he => by simp at he; rw [he]; exact hq2) c z'
  · rw [z]
    exact hq2
theorem ok_repr_name {x : Str} (h : isName x) : PyData.strOk (reprText x) = true := by
  have hl := (isNameL_iff _).mp h
  have : ∀ c ∈ nameL, ∀ q ∈ [34, 39], ∀ e ∈ reprChar q c, e < 0x110000 := by decide +kernel
  exact ok_repr fun c hc => this c (hl.2.2.2 c hc)
/-! ### slices -/
theorem cut_take {xs : List V} (m : Nat) : cutV xs none (some (m : Int)) = xs.take m := by
  unfold cutV
  rw [HT.sIx_none, HT.sIx_nat, List.drop_zero, Nat.sub_zero]
  by_cases h : m ≤ xs.length
  · rw [Nat.min_eq_left h]
  · rw [Nat.min_eq_right (by omega), List.take_length, List.take_of_length_le (by omega)]
theorem cut_drop {xs : List V} (m : Nat) : cutV xs (some (m : Int)) none = xs.drop m := by
  unfold cutV
  rw [HT.sIx_none, HT.sIx_nat]
  by_cases h : m ≤ xs.length
  · rw [Nat.min_eq_left h, List.take_of_length_le (by rw [List.length_drop]; exact Nat.le_refl _)]
  · rw [Nat.min_eq_right (by omega), Nat.sub_self, List.take_zero, List.drop_of_length_le (by omega)]
theorem sIx_last (n d : Nat) (h : 1 ≤ n) : HT.sIx n d (some (-1)) = n - 1 := by
  show (if (-1 : Int) < 0 then ((-1 : Int) + (n : Int)).toNat else min (-1 : Int).toNat n) = n - 1
  rw [if_pos (by decide)]
  omega
theorem cut_init {xs : List V} (h : 1 ≤ xs.length) : cutV xs none (some (-1)) = xs.take (xs.length - 1) := by
  unfold cutV
  rw [HT.sIx_none, sIx_last _ _ h, List.drop_zero, Nat.sub_zero]
theorem at_last {α : Type} {xs : List α} (h : 1 ≤ xs.length) : ∃ v, xs[xs.length - 1]? = some v ∧ atI xs (-1) = some v := by
  have hl : xs.length - 1 < xs.length := by omega
  refine ⟨xs[xs.length - 1], List.getElem?_eq_getElem hl, ?_⟩
  have e : ixN xs.length (-1) = some (xs.length - 1) := by
    unfold ixN
    rw [if_neg (by decide), if_pos (by omega)]
    congr 1
    omega
  unfold atI
  rw [e]
  exact List.getElem?_eq_getElem hl
end Ft

/-! _law_told(lambda: ..) -/
namespace Ft
open PySem PySem.Spec PyProof.Rows L2 LamX
abbrev toldN : List Str := ["_law_act", "_law_told_here", "_law_e"]
/-- all that is known of _law_told and of _law_sort, which it calls; cs: the classes that it takes -/
structure ToldAt (P : Program) (w : World) (K : PySem.W.Frag) (mg : Str → Option Value) (base : Heap) (k : Nat) (cs : List Value) (sp : Addr → Value → Option Addr → Sp) : Prop where
  hot : HasHot P w K mg base k "_law_sort" ["_law_e"] sp
  cls : ∃ c1 c2 c3, cs = [c1, c2, c3] ∧ mg "TreeError" = some c1 ∧ mg "StateError" = some c2 ∧ mg "LimitError" = some c3
  def_ : ∃ (g : Addr) (fd : FuncData) (st : Stmt), DefAt K mg "_law_told" st g fd ∧ FnScope toldN ["_law_act"] (defScope st) ∧ (defScope st).names.lookup ("_law_told_here" : Str) = some .local ∧ (defScope st).names.lookup ("_law_e" : Str) = some .local ∧ (defScope st).names.lookup ("_law_act" : Str) = some .local ∧
    (defScope st).names.lookup ("_law_sort" : Str) = some .globalImplicit ∧ (defScope st).names.lookup ("TreeError" : Str) = some .globalImplicit ∧ (defScope st).names.lookup ("StateError" : Str) = some .globalImplicit ∧ (defScope st).names.lookup ("LimitError" : Str) = some .globalImplicit ∧
    (∃ p1 p2 p3 p4 p5 p6 p7 p8 p9 p10 p11 p12 p13 p14 p15 p16 p17 p18 kk j, defBody st = toldBody "_law_act" "_law_told_here" "_law_e" "_law_sort" "TreeError" "StateError" "LimitError" "given" p1 p2 p3 p4 p5 p6 p7 p8 p9 p10 p11 p12 p13 p14 p15 p16 p17 p18 kk j) ∧
    ∀ (kV doc pm : Value) (an : Option Addr) (cdv ct : Value) (us : List Value), us.length = 1 → bindArgs (PySem.W.fnOf "_law_told" "_law_told" (defArgs st) (defBody st) (defScope st) .none kV doc pm an cdv ct) ⟨us, []⟩ = pure ((["_law_act"] : List Str).zip us)
theorem pe_told {X : Cx} {k j : Nat} {cs : List Value} {sp : Addr → Value → Option Addr → Sp} {T : List (Addr × Str)} {c Pt : Addr} {params : Arguments} {body : Expr} {scope : Scope} {t : XK → TE} {p lpos pos : Pos}
    (W : ToldAt X.prog X.w X.K X.mg X.base k cs sp) (hg : X.A.guards = some []) (TB : TabB X.base X.mg c Pt) (hcode : X.env.code = .ref c) (hmT : (Pt, X.env.qual ++ "<lambda>") ∈ T) (hu : ∀ p ∈ T, p.1 = Pt → p.2 = X.env.qual ++ "<lambda>")
    (hr : Room (j + 2) X.A) (hk : k ≤ j) (gl : Gl X "_law_told") (L : LamS X.env.scope scope) (hdef : defaultsOf params X.env = ([], []))
    (hbind : ∀ (q : Str) (cl : List (Str × Addr)) (pm cv ctv : Value), bindArgs (PySem.W.kla_fn "<lambda>" q params body scope cl pm cv ctv) ⟨[], []⟩ = pure [])
    (hbody : ∀ (A : Around) (outer : List Env) (s : Shared) (H : Hp) (E : XK) (f c' : Addr), Room j (A.deeper (lamEnv X scope s.heap.objs.size f c')) → PE (lamCx X A outer s H E scope f c') body (t E)) :
    PE X (.Call (.Name "_law_told" p) [.Lambda params body scope lpos] [] pos) (tLam T (TTold3 X.K cs sp "given") t) := by
  obtain ⟨g, fd, st, D, S, l1, l2, l0, gs, g1, g2, g3, ⟨p1, p2, p3, p4, p5, p6, p7, p8, p9, p10, p11, p12, p13, p14, p15, p16, p17, p18, kk, jj, hb⟩, bt⟩ := W.def_
  obtain ⟨c1, c2, c3, rfl, m1, m2, m3⟩ := W.cls
  obtain ⟨oc, od, kV, doc, pm, an, cdv, ct, osl, e, lk, hcd⟩ := D.fn.ex
  subst e
  have hbi : L2.Binds X.K (PySem.W.fnOf "_law_told" "_law_told" (defArgs st) (defBody st) (defScope st) .none kV doc pm an cdv ct) ["_law_act"] [] := Binds.all fun us hl => bt kV doc pm an cdv ct us hl
  refine pe_lamcall (T := T) (c := c) (P := Pt) (a := "_law_act") (Ng := toldN) gl D.at_ D.fn.kp lk hcd hbi S rfl (.inl l0) ?_ TB hcode hmT hu hr L hdef hbind hbody
  have h3 : Room (k + 1) X.A := hr.mono (by omega)
  rw [hb]
  exact told3 (word := "given") hg h3 W.hot (by decide) S.kind l0 l1 l2 gs g1 g2 g3 m1 m2 m3 (by decide) (by decide) (by decide) (by decide) (by decide) (by decide) (by decide) (by decide)
theorem exAt_mk {K : PySem.W.Frag} {mg : Str → Option Value} {h : Heap} {x fld qual : Str} {C fI : Addr} {st : Stmt} {B newId initId : String} {bmB : List Value} {oc : Value} {od an : Option Addr} {osl : Array (Option Value)} {kV doc pm cdv ct : Value} (X : K.In h) (G : h.Ns mainGlobals mg)
    (FB : ExcBaseFacts B newId initId bmB) (SF : StoreFacts B bmB "object.__setattr__" "object") (S : Init1 st fld)
    (bt : ∀ (kV doc pm : Value) (an : Option Addr) (cdv ct u v : Value), bindArgs (PySem.W.fnOf "__init__" qual (defArgs st) (defBody st) (defScope st) .none kV doc pm an cdv ct) ⟨[u, v], []⟩ = pure [(("self" : Str), u), (fld, v)])
    (g : PySem.W.nsIn K mainGlobals x = some (some (.ref C))) (ini : PySem.W.findIn K (.ref C) "__init__" = some (some (.ref fI)))
    (l : K.lookup fI = some ⟨oc, od, .func (PySem.W.fnOf "__init__" qual (defArgs st) (defBody st) (defScope st) .none kV doc pm an cdv ct), osl⟩) (c : PySem.W.codeIn K cdv qual = true) (kf : PySem.W.keepIn K (.ref fI) = true)
    (i1 : PySem.W.findIn K (.ref C) "__class__" = some (some (.builtin "object.__class__"))) (i2 : PySem.W.specialIn K (.builtin "object.__class__") "__get__" = some (some (.builtin "getset_descriptor.__get__")))
    (i3 : PySem.W.takesIn K (.builtin "object.__class__") = some true) (i4 : PySem.W.mroIn K C (.type "object") = some true) (e1 : PySem.W.excInitIn K C bmB newId = true) (e2 : PySem.W.excOver K C bmB = true) (hd : PySem.W.hasDictIn K C = true)
    (sa : PySem.W.findIn K (.ref C) "__setattr__" = some (some (.builtin "object.__setattr__"))) (ga : PySem.W.findIn K (.ref C) "__getattribute__" = some (some (.builtin "BaseException.__getattribute__"))) (gg : PySem.W.findIn K (.ref C) "__getattr__" = some none)
    (ex : PySem.W.subIn K (.ref C) (.type "BaseException") = some true) (ty : PySem.W.typeIn K (.ref C) = some (.type "type")) (kp : PySem.W.keepIn K (.ref C) = true) (fn : PySem.W.typeIn K (.ref fI) = some (.type "function")) (no : PySem.W.findIn K (.ref C) fld = some none) : ExAt K mg x fld C :=
  ⟨PySem.W.mg_of X G g, ⟨i1, i2, i3, i4⟩, fI, st, qual, _, ⟨⟨B, newId, initId, bmB, FB, SF, e1, e2⟩, hd, sa, ga, gg, ex, ty, kp, ini, fn, fun n hn => by cases List.mem_singleton.mp hn; exact no⟩, S, fun_mk l c kf, fun v s y => .of_eq (bt _ _ _ _ _ _ _ _)⟩
theorem tabIn_mk {K : PySem.W.Frag} {x name qual : Str} {params : Arguments} {body : List Stmt} {scope : Scope} {f c Pt : Addr} {oc dV kV doc pm ct tc : Value} {od an td : Option Addr} {osl tsl : Array (Option Value)} {vs : Array Value} (a : PySem.W.nsIn K mainGlobals x = some (some (.ref f)))
    (l : K.lookup f = some ⟨oc, od, .func (PySem.W.fnOf name qual params body scope dV kV doc pm an (.ref c) ct), osl⟩) (m : K.lookup c = some ⟨tc, td, .fields vs, tsl⟩) (v : (vs[11]? : Option Value) = some (.ref Pt)) : PySem.W.tabIn K x = some (c, Pt) := by
  unfold PySem.W.tabIn
  rw [a]
  dsimp only
  rw [l]
  dsimp only [PySem.W.fnOf]
  rw [m]
  dsimp only
  rw [v]
end Ft

/-! Methods of own classes, also by keywords; classes made by keywords; repr of any data. -/
namespace Ft
open PySem PySem.Spec PyProof.Rows L2
/-- a method of the class at C -/
structure HasM (P : Program) (w : World) (K : PySem.W.Frag) (mg : Str → Option Value) (base : Heap) (CX : CXT) (k : Nat) (C : Addr) (m : Str) (ps : List Str) (sp : Sp) : Prop where
  cl : Cls K C
  ex : ∃ (f : Addr) (fd : FuncData), FnOk P w K mg base CX k f fd ps sp ∧ Meth K C m f ∧ Binds K fd ps []
/-- the same by keywords alone: ks -/
structure HasMK (P : Program) (w : World) (K : PySem.W.Frag) (mg : Str → Option Value) (base : Heap) (CX : CXT) (k : Nat) (C : Addr) (m : Str) (ps : List Str) (ks : List Str) (g : {α : Type} → List α → List α → List α) (sp : Sp) : Prop where
  cl : Cls K C
  ex : ∃ (f : Addr) (fd : FuncData), FnOk P w K mg base CX k f fd ps sp ∧ Meth K C m f ∧ KwB K fd ps 1 ks g
def tMk (C : Addr) (m : Str) (sp : Sp) (n : Nat) (g : List V → List V → List V) (E : XK) (ta : TE) (tk : TA) : TE := fun σ H Q => ta σ H fun x H1 => ∃ a dx fs, x = .ref a ∧ H1 a = some (.ins C dx fs) ∧ fs.lookup m = none ∧
  tk σ H1 fun zs H2 => zs.length = n ∧ sp (g [x] zs) H2 Q E
section
variable {X : Cx} {CX : CXT} {k : Nat} {C : Addr} {ps ks : List Str} {sp : Sp} {E : XK} {x m : Str} {p pos apos : Pos} {e o : Expr} {es : List Expr} {kws : List Keyword} {ta : TE} {t tk : TA} {g : {α : Type} → List α → List α → List α}
theorem pe_m {pl : Sem Bool} (F : HasM X.prog X.w X.K X.mg X.base CX k C m ps sp) (he : PE X o ta) (hr : Room k X.A) (hx : Passes CX X E) (ha : PA X (e :: es) t)
    (hst : starEach (e :: es) X.env = (false, eval e X.env) :: starEach es X.env := by rfl) (hpl : (backTo pos (starEach es X.env)).any (·.1) = false := by rfl)
    (ht : eval (.Call (.Attribute o m apos) (e :: es) [] pos) X.env = (do
      let ov ← eval o X.env
      standAt apos.atName
      let (f, first) ← holding [ov] (getMethod ov m pl)
      callWith pos f first (backTo pos (starEach (e :: es) X.env)) (backToKw pos (keywordEach [] X.env))) := by rfl) :
    PE X (.Call (.Attribute o m apos) (e :: es) [] pos) (tMeth C m sp [] E ta t) := by
  obtain ⟨f, fd, G, hm, hb⟩ := F.ex
  exact pe_meth he F.cl hm G hr hb .nil hx ha hst hpl ht
theorem pe_m0 {pl : Sem Bool} (F : HasM X.prog X.w X.K X.mg X.base CX k C m ps sp) (he : PE X o ta) (hr : Room k X.A) (hx : Passes CX X E)
    (ht : eval (.Call (.Attribute o m apos) [] [] pos) X.env = (do
      let ov ← eval o X.env
      standAt apos.atName
      let (f, first) ← holding [ov] (getMethod ov m pl)
      callWith pos f first (backTo pos (starEach [] X.env)) (backToKw pos (keywordEach [] X.env))) := by rfl) :
    PE X (.Call (.Attribute o m apos) [] [] pos) (tMeth C m sp [] E ta tNil) := by
  obtain ⟨f, fd, G, hm, hb⟩ := F.ex
  exact pe_meth0 he F.cl hm G hr hb .nil hx ht
theorem pe_mk {pl : Sem Bool} (F : HasMK X.prog X.w X.K X.mg X.base CX k C m ps ks g sp) (he : PE X o ta) (hr : Room k X.A) (hx : Passes CX X E) (hkw : PK X kws tk)
    (hall : (backToKw pos (keywordEach kws X.env)).all (·.1.isSome) = true := by rfl) (hks : (backToKw pos (keywordEach kws X.env)).filterMap (·.1) = ks := by rfl)
    (hpl : ((backTo pos (starEach [] X.env)).any (·.1) || (backToKw pos (keywordEach kws X.env)).any (·.1.isNone)) = false := by rfl)
    (ht : eval (.Call (.Attribute o m apos) [] kws pos) X.env = (do
      let ov ← eval o X.env
      standAt apos.atName
      let (f, first) ← holding [ov] (getMethod ov m pl)
      callWith pos f first (backTo pos (starEach [] X.env)) (backToKw pos (keywordEach kws X.env))) := by rfl) :
    PE X (.Call (.Attribute o m apos) [] kws pos) (tMk C m sp ks.length g E ta tk) := by
  obtain ⟨f, fd, G, hm, hb⟩ := F.ex
  constructor
  intro pins s σ H Q I h
  refine PySem.W.methodCall_KW (pl := pl) (thn (he.run pins s σ H _ I h) fun u s1 ⟨v, H1, I1, rx, a, dx, fs, ex, ea, l, q⟩ => ?_) ht
  subst ex
  obtain rfl : u = Value.ref a := rx
  refine getmeth_ok I1 ea F.cl hm l ?_
  refine PySem.W.callWith_KW0 (first := [.ref a]) (h₀ := X.base) I.ok.mod.kin hm.kp hall ?_ hpl
  refine thn (hkw.run pos pins s1 σ H1 _ I1 q) fun ws s2 ⟨zs, H2, I2, rz, l2, q2⟩ => ⟨I2.kIn, ?_⟩
  rw [hks]
  have rv : Vals (g [V.ref a] zs) (g [Value.ref a] ws) := hb.rel (.cons rfl .nil) rz
  refine wpAny_call (codeAny_mono (G.run X.A X.stack s2 H2 ⟨[.ref a], ks.zip ws⟩ (g [.ref a] ws) (g [.ref a] zs) Q E hr I2.env0 (hb.to s2 [.ref a] ws I2.kIn rfl (rz.length.symm.trans l2)) rv q2) fun r s' hq => ?_)
  cases r with
  | error e => exact hx pins σ H2 s2 e s' I2 hq
  | ok fl =>
    cases fl with
    | ret u => exact I2.after hq
    | next => exact False.elim hq
    | brk => exact False.elim hq
    | cont => exact False.elim hq
/-- a class made by keywords alone -/
structure ClsK (P : Program) (w : World) (K : PySem.W.Frag) (mg : Str → Option Value) (base : Heap) (CX : CXT) (k : Nat) (x : Str) (C : Addr) (ps : List Str) (ks : List Str) (g : {α : Type} → List α → List α → List α) (sp : Sp) : Prop where
  ex : ∃ (f : Addr) (fd : FuncData), FnOk P w K mg base CX k f fd ps sp ∧ mg x = some (.ref C) ∧ Mk K C f ∧ KBn K fd ps 1 ks (fun a b => g a b) (fun a b => g a b)
theorem pe_newK (F : ClsK X.prog X.w X.K X.mg X.base CX k x C ps ks g sp) (hr : Room (k + 1) X.A) (hx : Passes CX X E) (gl : Gl X x) (hkw : PK X kws tk)
    (hall : (backToKw pos (keywordEach kws X.env)).all (·.1.isSome) = true := by rfl) (hks : (backToKw pos (keywordEach kws X.env)).filterMap (·.1) = ks := by rfl) (hdb : (x == ("__debug__" : Str)) = false := by decide)
    (hpl : ((backTo pos (starEach [] X.env)).any (·.1) || (backToKw pos (keywordEach kws X.env)).any (·.1.isNone)) = false := by rfl) :
    PE X (.Call (.Name x p) [] kws pos) (tMakeK C 0 ks.length sp (fun a b => g a b) E tNil tk) := by
  obtain ⟨f, fd, G, hm, M, hb⟩ := F.ex
  exact pe_makeK0 M G hr gl hm hb hx hkw hall hks hdb hpl
end
/-- repr of any data -/
theorem call_reprV {X : Cx} (hg : X.A.guards = some []) (hu : X.A.units + 64 < cLine) : CallR X (.builtin "repr") (fun xs H Q => ∃ v d, xs = [v] ∧ Dp X.K H v d ∧ d.showable = true ∧ d.hasDict = false ∧ d.depth ≤ 60 ∧ d.shown.length ≤ sizeLine ∧ Q (.str d.shown) H) := by
  rintro pins s σ H xs us Q I r ⟨v, d, rfl, hd, hs, hn, hdp, hz, q⟩
  cases hd with
  | non => exact call_repr_none pins s σ H _ us Q I r ⟨rfl, q⟩
  | bl b =>
    refine call_repr_bool pins s σ H _ us Q I r ⟨b, rfl, ?_⟩
    cases b <;> exact q
  | int i => exact SkE.call_repr_int pins s σ H _ us Q I r ⟨i, rfl, of_decide_eq_true hs, q⟩
  | str x => exact call_repr_str pins s σ H _ us Q I r ⟨x, rfl, hz, q⟩
  | lst h1 h2 => exact call_reprD hg hu pins s σ H _ us Q I r ⟨_, _, rfl, .lst h1 h2, hs, hn, hdp, hz, q⟩
  | tup h1 h2 => exact call_reprD hg hu pins s σ H _ us Q I r ⟨_, _, rfl, .tup h1 h2, hs, hn, hdp, hz, q⟩
end Ft

/-! Tuples of data put together, cut, made to lists: one reading each. -/
namespace Ft
open PySem PySem.Spec PyProof.Rows L2
def cutD (ds : List PyData) (lo hi : Option Int) : List PyData := (ds.drop (HT.sIx ds.length 0 lo)).take (HT.sIx ds.length ds.length hi - HT.sIx ds.length 0 lo)
section
variable {X : Cx}
def rCatDt : R2 := fun x y H Q => ∃ z ds es, Dt z H x (.tuple ds) ∧ Dt z H y (.tuple es) ∧ ds.length + es.length ≤ 1000 ∧ ∀ p H', Same H H' → Dt z H' (.ref p) (.tuple (ds ++ es)) → Q (.ref p) H'
theorem op_catDt : OpR X (binaryOp .Add) rCatDt := by
  rintro pins s σ H x y v u Q I rx ry ⟨z, ds, es, hx, hy, hl, q⟩
  cases hx with
  | @tup a xs _ e1 h1 =>
  cases hy with
  | @tup b ys _ e2 h2 =>
    have l1 := h1.len
    have l2 := h2.len
    refine op_catA pins s σ H _ _ v u Q I rx ry ⟨a, b, xs, ys, rfl, rfl, .of e1, .of e2, Nat.le_trans (show xs.length + ys.length ≤ 1000 by omega) (by decide), fun e => ?_, fun _ e => ?_, fun _ _ p np => ?_⟩
    · subst e
      cases h1
      exact q b H (Same.refl H) (.tup e2 h2)
    · subst e
      cases h2
      exact q a H (Same.refl H) (.tup e1 (by rw [List.append_nil]; exact h1))
    · exact q p _ (same_new np) (.tup upd_same ((h1.app h2).same (same_new np)))
def rSlDt : V → Option Int → Option Int → Hp → VK → Prop := fun x lo hi H Q => ∃ z ds, Dt z H x (.tuple ds) ∧ ∀ p H', Same H H' → Dt z H' (.ref p) (.tuple (cutD ds lo hi)) → Q (.ref p) H'
theorem sl_tupDt : SlR X rSlDt := by
  rintro pins s σ H x v vl vu lo hi sl Q I rx hs pl pu ⟨z, ds, hx, q⟩
  cases hx with
  | @tup a xs _ e1 h1 =>
    have l1 := h1.len
    refine sl_tupA pins s σ H _ v vl vu lo hi sl Q I rx hs pl pu ⟨a, xs, rfl, .of e1, fun hw => ?_, fun _ p np => ?_⟩
    · refine q a H (Same.refl H) (.tup e1 ?_)
      unfold cutD
      rw [← l1, hw.1, hw.2, List.drop_zero, Nat.sub_zero, l1, List.take_length]
      exact h1
    · refine q p _ (same_new np) (.tup upd_same ?_)
      unfold cutD cutV
      rw [l1]
      exact (dt_take (dt_drop h1)).same (same_new np)
theorem call_list_dt : CallR X (.type "list") (fun xs H Q => ∃ z ds v o, xs = [v] ∧ H z = some o ∧ Dt z H v (.tuple ds) ∧ ∀ l H', Same H H' → Dt z H' (.ref l) (.list ds) → Q (.ref l) H') := by
  rintro pins s σ H xs us Q I r ⟨z, ds, v, o, rfl, hz, hx, q⟩
  cases hx with
  | @tup a ys _ e1 h1 =>
    refine call_list_of pins s σ H _ us Q I r ⟨a, ys, rfl, .inr (.of e1), fun l nl => ?_⟩
    exact q l _ (same_new nl) (.lst (fun e => by rw [e, hz] at nl; cases nl) upd_same (h1.same (same_new nl)))
end
end Ft

/-! len(set(x)), x a text of different ASCII signs -/
namespace Ft
open PySem PySem.Spec PyProof.Rows L2 PySem.Froz
section
variable {P : Program} {prog : Program} {w : World} {A : Around} {E : Value → Shared → Prop} {s : Shared}
theorem run_tx : ∀ (cs : List Nat) (tk : Tok) (D : SD) (l : List Str), TxOk P w D l → ∃ l' : List Str, TxOk P w (runD w cs tk D) l' ∧ l'.length = l.length + cs.length
  | [], _, D, l, F => ⟨l, F, rfl⟩
  | c :: r, tk, D, l, F => by
    obtain ⟨l', F', e⟩ := run_tx r (tk + 2) _ _ (add_ok (k := sing c) tk F)
    exact ⟨l', F', by rw [e]; simp only [List.length_cons]; omega⟩
set_option maxHeartbeats 3200000 in
theorem call_set_txt {x : Str} {u : Tok} {Q : Value → Shared → Prop} (hh : A.handled = none) (ha : x.cps.all (· < 128) = true) (hnd : x.cps.toList.Nodup) (hb : x.length < scanBound)
    (h : ∀ (h' : Heap) (tk : Nat) (D : SD), h'.get? s.heap.objs.size = some (sObj "set" D) → D.1.size = x.length → D.2.2.fits D.1.size = true →
      (∀ b o, b < s.heap.objs.size → s.heap.get? b = some o → h'.get? b = some o) → Q (.ref s.heap.objs.size) { s with heap := h', toks := tk }) :
    wpAny (model prog w) A (call (.type "set") [.str x u]) Q E s := by
  obtain ⟨c, tl, hmro⟩ := PySem.F.called_set.mro
  have hmade := PySem.F.called_set.made
  have hsub := PySem.F.called_set.sub
  refine wpAny_call (codeAny_of_tree ?_)
  show wpAny _ _ (callAny (.type "set") _) _ _ _
  refine wpAny_pure ⟨Code.quiet_builtin _ (by decide +kernel), codeAny_builtin PySem.F.entry_type_call ?_⟩
  rw [Around.under_plain (weight_type_call_type "set" [.str x u] []) rfl]
  have h1 := PySem.F.called_set.notType
  have h2 := PySem.F.called_set.canCreate
  have hct := PySem.F.typeCall_set_1 (.str x u)
  repeat (any_goals (first | assumption | wp_step))
  refine codeAny_mono (code_set_new_1 (.str x u) (E := E) (Q₁ := fun obj s₁ => ∃ led : Bool, obj = .ref s.heap.objs.size ∧ s₁ = { s with heap := s.heap.push { cls := .type "set", dict := none, data := .set #[] 0 (.fresh 0 0 led) } }) fun led => ⟨led, rfl, rfl⟩) fun r s₁ hr => ?_
  cases r with
  | error e => exact hr
  | ok fl =>
    cases fl with
    | ret obj =>
      obtain ⟨led, rfl, rfl⟩ := hr
      have hS : (s.heap.push { cls := .type "set", dict := none, data := .set #[] 0 (.fresh 0 0 led) }).get? s.heap.objs.size = some { cls := .type "set", dict := none, data := .set #[] 0 (.fresh 0 0 led) } := Heap.get?_push_size _ rfl
      have hT : Shared.TypeIs { s with heap := s.heap.push { cls := .type "set", dict := none, data := .set #[] 0 (.fresh 0 0 led) } } (.ref s.heap.objs.size) "set" := ⟨_, hS, rfl⟩
      have hli := PySem.F.called_set.init.lookup
      have hbi := PySem.F.called_set.init.bind (.ref s.heap.objs.size)
      repeat (any_goals (first | assumption | wp_step))
      refine codeAny_mono (codeAny_call_builtin (R := wants (fun r s₂ => r = .none ∧ ∃ h' tk, ∃ D : SD, s₂ = { s with heap := h', toks := tk } ∧
          h'.get? s.heap.objs.size = some (sObj "set" D) ∧ D.1.size = x.length ∧ D.2.2.fits D.1.size = true ∧
          (∀ b o, b < s.heap.objs.size → s.heap.get? b = some o → h'.get? b = some o)) E) PySem.F.called_set.init.plain PySem.F.entry_set_init (check_set_init_1 hT ?_)) fun r₂ s₂ hr₂ => ?_
      · have hsls := PySem.F.sub_str_set
        have hslf := PySem.F.sub_str_frozenset
        have hnd' : (Value.type "str" == Value.type "dict") = false := by decide
        unfold Builtin.«set.__init__» noKeywords Builtin.Frozenset.updateFrom
        generalize hPI : pyIter = PI
        wp_walk
        subst hPI
        refine wpAny_pyIter_ascii ha ?_
        refine wpAny_bind (wpAny_runValue ?_)
        have hne : s.heap.objs.size ≠ (s.heap.push { cls := .type "set", dict := none, data := .set #[] 0 (.fresh 0 0 led) }).objs.size := by
          rw [Heap.size_push]; exact Nat.ne_of_lt (Nat.lt_succ_self _)
        have hh3 : A.in1.in1.handled = none := by simp [hh]
        obtain ⟨l', F', hl'⟩ := run_tx (P := prog) (w := w) x.cps.toList s.toks (#[], 0, .fresh 0 0 led) [] (TxOk.nil (by cases led <;> decide +kernel))
        refine code_update (P := prog) (T := "set") (D := (#[], 0, .fresh 0 0 led)) (x := x) (u := u) (l := []) hne hh3 x.cps.toList 0 _ rfl (Heap.get?_push_of_some _ (Heap.get?_push_size _ rfl)) (Heap.get?_push_size _ rfl) (TxOk.nil (by cases led <;> decide +kernel)) (fun _ _ z => nomatch z) hnd (by simpa [Str.length] using hb) ?_
        show wpAny _ _ _ _ _ _
        refine wpAny_pure ?_
        show wpAny _ _ (ret Value.none) _ _ _
        have ga : ∀ Y : Obj, Y.isFreed = false → (two ((s.heap.push { cls := .type "set", dict := none, data := .set #[] 0 (.fresh 0 0 led) }).push { cls := .type "str_ascii_iterator", data := .fields #[.str x u, .int 0 0] }) s.heap.objs.size (sObj "set" (runD w x.cps.toList s.toks (#[], 0, .fresh 0 0 led))) (s.heap.push { cls := .type "set", dict := none, data := .set #[] 0 (.fresh 0 0 led) }).objs.size Y).get? s.heap.objs.size = some (sObj "set" (runD w x.cps.toList s.toks (#[], 0, .fresh 0 0 led))) := fun Y _ =>
          PySem.Heap.get?_update_of_ne _ (Ne.symm hne) (get_upd _ (Heap.get?_push_of_some _ (Heap.get?_push_size _ rfl)) rfl)
        refine wpAny_pure ⟨rfl, _, _, runD w x.cps.toList s.toks (#[], 0, .fresh 0 0 led), rfl, Heap.get?_push_of_some _ (Heap.get?_push_of_some _ (ga _ rfl)), by rw [F'.sz, hl']; simp [Str.length], F'.fit, fun b o hbl e => ?_⟩
        have hb1 : s.heap.objs.size ≠ b := Nat.ne_of_gt hbl
        have hb2 : (s.heap.push { cls := .type "set", dict := none, data := .set #[] 0 (.fresh 0 0 led) }).objs.size ≠ b := by
          rw [Heap.size_push]; exact Nat.ne_of_gt (Nat.lt_succ_of_lt hbl)
        exact Heap.get?_push_of_some _ (Heap.get?_push_of_some _ (PySem.Heap.get?_update_of_ne _ hb2 (PySem.Heap.get?_update_of_ne _ hb1 (Heap.get?_push_of_some _ (Heap.get?_push_of_some _ e)))))
      · cases r₂ with
        | error e => exact hr₂
        | ok fl₂ =>
          cases fl₂ with
          | ret r =>
            obtain ⟨rfl, h', tk, D, rfl, q1, q2, q3, hk'⟩ := hr₂
            repeat (any_goals (first | assumption | wp_step))
            exact h _ _ D q1 q2 q3 hk'
          | _ => exact hr₂.elim
    | _ => exact hr.elim
end
section
variable {X : Cx} {a : Expr} {ta : TE}
/-- len(set(x)), x a text of different ASCII signs -/
def tLenTx (ta : TE) : TE := fun σ H Q => ta σ H fun x H1 => ∃ y : Str, x = .str y ∧ y.cps.all (· < 128) = true ∧ y.cps.toList.Nodup ∧ y.length < scanBound ∧ Q (.int y.length) H1
theorem pe_lenTx {p p2 q pos : Pos} (hc : X.calm = true) (hg : Gl X "len") (hm : X.mg "len" = none) (hg2 : Gl X "set") (hm2 : X.mg "set" = none) (ha : PE X a ta)
    (na : starEach [a] X.env = (false, eval a X.env) :: starEach [] X.env := by rfl) : PE X (.Call (.Name "len" p) [.Call (.Name "set" p2) [a] [] q] [] pos) (tLenTx ta) := by
  refine ⟨fun pins s σ H Q I h => ?_⟩
  refine Call_ (ld_blt I hg hm boot_len ?_)
  refine PyProof.Rows.callWith_builtin1 (PyProof.Rows.args_cons ?_ rfl) rfl rfl
  refine Call_ (ld_blt I hg2 hm2 boot_set ?_)
  refine PyProof.Rows.callWith_type1 (PyProof.Rows.args_cons (thn (ha.run pins s σ H _ I h) fun v s1 ⟨x, H1, I1, r1, q1⟩ => PyProof.Rows.args_nil ?_) na) na rfl
  obtain ⟨y, rfl, h1, h2, h3, q1⟩ := q1
  obtain ⟨t, rfl⟩ := r1
  refine call_set_txt (I1.ok.hd hc) h1 h2 h3 fun h' tk D ho hs hf hk => ?_
  refine PyProof.Rows.args_nil ?_
  have I2 : Inv X pins σ H1 { s1 with heap := h', toks := tk } := I1.kept fun b o e => hk b o (Heap.lt_size e) e
  have hsb : scanBound < 2 ^ 62 := by decide +kernel
  refine call_len_set ho ⟨rfl, rfl, rfl⟩ rfl hf (by rw [hs]; omega) ⟨.int y.length, H1, I2.tok _, ⟨_, by rw [hs]⟩, q1⟩
end
end Ft
namespace PyProof.Rows
open PySem
section
variable {prog : Program} {w : World} {A : Around} {E : Value → Shared → Prop} {s : Shared}
theorem collect_tup {l : Addr} {vs : List Value} {Q : List Value → Shared → Prop} (hl : IsTup s.heap l vs.toArray)
    (h : Q vs { s with heap := (s.heap.push (seqObj "list" #[] 0)).update s.heap.objs.size (Obj.mapSeq (· ++ vs.toArray)) }) (hsz : vs.length ≤ sizeLine := by size_fits) :
    wpAny (model prog w) A (collect (.ref l)) Q E s := by
  obtain ⟨o, ho, hc, n, hd⟩ := id hl
  unfold collect
  refine wpAny_bind (wpAny_runValue (codeAny_builtin entry_proto_collect' ?_))
  show wpAny _ _ (do again (.builtin "list.__iadd__" ⟨[← newList [], .ref l], []⟩)) _ _ s
  refine wpAny_bind (wpAny_newList (wpAny_pure ⟨Code.quiet_builtin _ (by decide +kernel), codeAny_builtin entry_list_iadd' ?_⟩))
  show wpAny _ _ (Builtin.List.listExtendWith (.ref s.heap.objs.size) (.ref l) (.ref s.heap.objs.size)) _ _ { s with heap := s.heap.push (seqObj "list" #[] 0) }
  unfold Builtin.List.listExtendWith
  have ho' : (s.heap.push (seqObj "list" #[] 0)).get? l = some o := Heap.get?_push_of_some _ ho
  refine wpAny_bind (wpAny_typeOf (T := "tuple") ⟨o, ho', hc⟩ ?_)
  have ht : (Value.type "tuple" == Value.type "tuple") = true := by rfl
  rw [if_pos (by rw [ht]; simp)]
  refine wpAny_bind (listItems_at ho' hd ?_)
  refine wpAny_bind (listItems_at (xs := #[]) (n := 0) (Heap.get?_push_size _ rfl) rfl ?_)
  rw [if_neg (by simp)]
  refine wpAny_bind (listUpdate_at (xs := #[]) (n := 0) (Heap.get?_push_size _ rfl) rfl ?_ (Nat.zero_le _) (by show (#[] ++ vs.toArray).size ≤ sizeLine + 1; simp only [Array.size_append, List.size_toArray, List.length_nil]; omega))
  refine wpAny_pure ?_
  show wpAny (model prog w) A (do
      let o ← load s.heap.objs.size
      match o.data with
      | .seq xs _ => pure xs.toList
      | _ => unsupported "internal:collect") Q E { s with heap := (s.heap.push (seqObj "list" #[] 0)).update s.heap.objs.size (Obj.mapSeq (· ++ vs.toArray)) }
  refine wpAny_bind (wpAny_load (get?_update_seq (Heap.get?_push_size _ rfl) _) ?_)
  show wpAny _ _ (pure ((#[] : Array Value) ++ vs.toArray).toList) Q E _
  rw [show ((#[] : Array Value) ++ vs.toArray).toList = vs by simp]
  exact wpAny_pure h
theorem sorted_intsT {l : Addr} {vs : List Value} {ns : List Int} {Q : Value → Shared → Prop} (hl : IsTup s.heap l vs.toArray) (hI : IntsAre vs ns) (h64 : vs.length < 64)
    (h : ∀ (out : Array Value) (ns' : List Int), IntsAre out.toList ns' → ns'.Perm ns → ns'.Pairwise (· ≤ ·) → Q (.ref (s.heap.objs.size + 1)) { s with heap := sortedAll s.heap vs out }) :
    wpAny (model prog w) A (call (.builtin "sorted") [.ref l]) Q E s := by
  refine Calls.call_function_entry kind_sorted plain_sorted entry_sorted (args_sorted1 _) ?_
  unfold Builtin.«sorted»
  refine wpAny_bind (m := checkCount "sorted" 1 1 _) (wpAny_pure ?_)
  refine wpAny_bind (collect_tup hl ?_ (by rw [sizeLine_eq]; omega))
  refine wpAny_bind (wpAny_newList ?_ (by rw [sizeLine_eq]; omega))
  have hsz : ((s.heap.push (seqObj "list" #[] 0)).update s.heap.objs.size (Obj.mapSeq (· ++ vs.toArray))).objs.size = s.heap.objs.size + 1 := by
    rw [Heap.size_update, size_push']
  have hoL : (((s.heap.push (seqObj "list" #[] 0)).update s.heap.objs.size (Obj.mapSeq (· ++ vs.toArray))).push (seqObj "list" vs.toArray 0)).get? (s.heap.objs.size + 1) = some (seqObj "list" vs.toArray 0) := by
    rw [← hsz]; exact Heap.get?_push_size _ rfl
  show wpAny _ _ _ _ _ { s with heap := ((s.heap.push (seqObj "list" #[] 0)).update s.heap.objs.size (Obj.mapSeq (· ++ vs.toArray))).push (seqObj "list" vs.toArray 0) }
  rw [hsz]
  refine wpAny_bind (wpAny_holding (wpAny_call_entry slot_list_sort ⟨_, hoL, rfl⟩ entry_list_sort (list_sort_tree hoL hI h64 fun out ns' a1 a2 a3 => ⟨_, rfl, ?_⟩) (args_list_sort _)))
  exact wpAny_pure ⟨_, rfl, h out ns' a1 a2 a3⟩
end
end PyProof.Rows
namespace Ft
open PySem PySem.Spec PyProof.Rows L2
section
variable {X : Cx}
/-- sorted(t), t a tuple of at most 63 ints -/
def rSortedTu (K : PySem.W.Frag) : List V → Hp → VK → Prop := fun vs H Q => ∃ (a : Addr) (ns : List Int), vs = [V.ref a] ∧ SqT K H a (ns.map V.int) ∧ ns.length < 64 ∧
  ∀ (ns' : List Int) (p : Addr), ns'.Perm ns → ns'.Pairwise (· ≤ ·) → H p = none → Q (.ref p) (upd H p (.lst (ns'.map V.int)))
theorem cr_sortedTu : CallR X (.builtin "sorted") (rSortedTu X.K) := by
  intro pins s σ H vs us Q I r h
  obtain ⟨a, ns, rfl, hs, h64, q⟩ := h
  obtain ⟨its, rv, hl, _⟩ := I.tuple hs
  rw [Vals.ref1 r]
  have hi := rv.ints
  refine sorted_intsT hl hi (by rw [hi.length]; exact h64) fun out ns' h1 h2 h3 => ?_
  obtain ⟨ep, he'⟩ := PyProof.Rows.sortedAll_at s.heap its out
  have hlen : (ns'.map V.int).length ≤ sizeLine := by rw [List.length_map, h2.length_eq, sizeLine_eq]; omega
  exact ⟨.ref _, upd H (s.heap.objs.size + 1) (.lst (ns'.map V.int)), I.laid (t' := s.toks) (fun _ _ => PyProof.Rows.sortedAll_old) (Nat.le_succ _) ⟨hlen, out.toList, ep, vals_of_ints h1, he'⟩, rfl, q ns' _ h2 h3 (I.hok.fresh (Nat.le_succ _))⟩
end
end Ft

/-! Denotations: Python code as plain functions over pure data and a small store of cells. -/
namespace Dn
open PySem PySem.Spec PyProof.Rows L2 Ft LamX
/-- pure data -/
inductive D where
  | non | bl (b : Bool) | int (i : Int) | str (x : Str) | tup (ds : List D) | lst (ds : List D) | obj (c : Str) (fs : List (Str × D)) | emp
/-- a value: data, a cell of the store, the script -/
inductive Wi where
  | d (x : D) | c (n : Nat)
inductive W where
  | d (x : D) | c (n : Nat) | scr (ns : List Int) | t (l : List Wi)
inductive Cell where
  | lst (ds : List D) | ins (c : Str) (fs : List (Str × D))
/-- a result, or an exception with its class and fields -/
inductive O (α : Type) where
  | ok (a : α) | exc (c : Str) (fs : List (Str × D))
abbrev Sto := List Cell
abbrev Slo := List (Option W)
abbrev R (α : Type) := Option (O α × Sto)
abbrev Ex := Slo → Sto → R W
abbrev Ax := Slo → Sto → R (List W)
abbrev Tx := Slo → Sto → R Bool
/-- the written part, the module's names, the tables of the code objects -/
structure Gx where
  K : PySem.W.Frag
  mg : Str → Option Value
  T : List (Addr × Str)

/-- the cells' addresses; the addresses that nothing else may mean -/
structure M where
  c : List Addr
  g : List Addr
def M.add (m : M) (p : Addr) : M := ⟨m.c ++ [p], m.g⟩
abbrev M.all (m : M) : List Addr := m.c ++ m.g
/-- the greatest length of texts, lists and tuples -/
def lim : Nat := 100000
theorem lim_le {n : Nat} (h : n ≤ lim) : n ≤ sizeLine := by
  rw [sizeLine_eq]; unfold lim at h; omega
theorem lim_lt {n : Nat} (h : n ≤ lim) : n < sizeLine := by
  rw [sizeLine_eq]; unfold lim at h; omega
mutual
inductive Rp (G : Gx) (m : M) (H : Hp) : V → D → Prop
  | non : Rp G m H .non .non
  | bl (b : Bool) : Rp G m H (.bl b) (.bl b)
  | int (i : Int) : Rp G m H (.int i) (.int i)
  | str (x : Str) (hl : x.length ≤ lim) : Rp G m H (.str x) (.str x)
  | tup {a : Addr} {xs : List V} {ds : List D} : ds.length ≤ lim → H a = some (.tup xs) → RpA G m H xs ds → Rp G m H (.ref a) (.tup ds)
  | lst {a : Addr} {xs : List V} {ds : List D} : ds.length ≤ lim → H a = some (.lst xs) → a ∉ m.all → RpA G m H xs ds → Rp G m H (.ref a) (.lst ds)
  | obj {a C dx : Addr} {c : Str} {fs : List (Str × V)} {gs : List (Str × D)} : G.mg c = some (.ref C) → H a = some (.ins C dx fs) → a ∉ m.all → RpF G m H fs gs → Rp G m H (.ref a) (.obj c gs)
  | emp {a : Addr} : H a = some (.dK []) → a ∉ m.all → Rp G m H (.ref a) .emp
inductive RpA (G : Gx) (m : M) (H : Hp) : List V → List D → Prop
  | nil : RpA G m H [] []
  | cons {v : V} {vs : List V} {d : D} {ds : List D} : Rp G m H v d → RpA G m H vs ds → RpA G m H (v :: vs) (d :: ds)
inductive RpF (G : Gx) (m : M) (H : Hp) : List (Str × V) → List (Str × D) → Prop
  | nil : RpF G m H [] []
  | cons {n : Str} {v : V} {d : D} {fs : List (Str × V)} {gs : List (Str × D)} : Rp G m H v d → RpF G m H fs gs → RpF G m H ((n, v) :: fs) ((n, d) :: gs)
end
/-- the script -/
def ScrA (K : PySem.W.Frag) (m : M) (H : Hp) (a : Addr) (xs : List V) : Prop :=
  (H a = some (.lst xs) ∧ a ∉ m.all) ∨ (∃ o, H a = some (.frz o (.lst xs))) ∨ ∃ (o : Obj) (its : Array Value) (n : Nat), K.lookup a = some o ∧ o.cls = .type "list" ∧ o.dict = none ∧ o.data = .seq its n ∧ its.size ≤ sizeLine ∧ Vals xs its.toList
def RpI (G : Gx) (m : M) (H : Hp) (v : V) : Wi → Prop
  | .d x => Rp G m H v x
  | .c n => ∃ a, m.c[n]? = some a ∧ v = .ref a
inductive RpIs (G : Gx) (m : M) (H : Hp) : List V → List Wi → Prop
  | nil : RpIs G m H [] []
  | cons {v : V} {vs : List V} {w : Wi} {ws : List Wi} : RpI G m H v w → RpIs G m H vs ws → RpIs G m H (v :: vs) (w :: ws)
def RpW (G : Gx) (m : M) (H : Hp) (v : V) : W → Prop
  | .d x => Rp G m H v x
  | .c n => ∃ a, m.c[n]? = some a ∧ v = .ref a
  | .scr ns => ∃ a, v = .ref a ∧ ns.length ≤ lim ∧ ScrA G.K m H a (ns.map V.int)
  | .t l => ∃ a xs, v = .ref a ∧ l.length ≤ lim ∧ H a = some (.tup xs) ∧ RpIs G m H xs l
inductive RpWs (G : Gx) (m : M) (H : Hp) : List V → List W → Prop
  | nil : RpWs G m H [] []
  | cons {v : V} {vs : List V} {w : W} {ws : List W} : RpW G m H v w → RpWs G m H vs ws → RpWs G m H (v :: vs) (w :: ws)
/-- nothing but a table stands there -/
def Fr (H : Hp) (a : Addr) : Prop := ∀ o, H a = some o → ∃ ps, o = HO.tbl ps
theorem Fr.none {H : Hp} {a : Addr} (h : H a = none) : Fr H a := fun o e => by rw [h] at e; cases e
theorem Fr.no {H : Hp} {a : Addr} {o : HO} (f : Fr H a) (h : H a = some o) (t : ∀ ps, o ≠ .tbl ps) : False := by
  obtain ⟨ps, e⟩ := f o h
  exact t ps e
/-- what code may do: new objects, the cells; all else stays -/
structure Ext (m : M) (H : Hp) (m' : M) (H' : Hp) : Prop where
  new : ∃ l, m'.c = m.c ++ l ∧ ∀ a ∈ l, Fr H a
  gh : (∀ a ∈ m.g, a ∈ m'.g) ∧ ∀ a ∈ m'.g, a ∈ m.g ∨ Fr H a
  keep : ∀ a o, a ∉ m.c → (∀ ps, o ≠ .tbl ps) → H a = some o → H' a = some o
  dom : ∀ a, Fr H' a → Fr H a
section
variable {G : Gx} {m m' m'' : M} {H H' H'' : Hp}
theorem nall {a : Addr} (h : a ∉ m.all) : a ∉ m.c := fun z => h (List.mem_append_left _ z)
theorem Ext.refl : Ext m H m H := ⟨⟨[], (List.append_nil _).symm, fun _ h => nomatch h⟩, ⟨fun _ h => h, fun _ h => .inl h⟩, fun _ _ _ _ h => h, fun _ h => h⟩
theorem Ext.nm (e : Ext m H m' H') {a : Addr} {o : HO} (n : a ∉ m.all) (h : H a = some o) (t : ∀ ps, o ≠ .tbl ps) : a ∉ m'.all := by
  obtain ⟨l, el, hl⟩ := e.new
  intro z
  rcases List.mem_append.mp z with z | z
  · rw [el] at z
    rcases List.mem_append.mp z with z | z
    · exact nall n z
    · exact (hl a z).no h t
  · rcases e.gh.2 a z with z | z
    · exact n (List.mem_append_right _ z)
    · exact z.no h t
theorem Ext.nmc (e : Ext m H m' H') {a : Addr} {o : HO} (n : a ∉ m.c) (h : H a = some o) (t : ∀ ps, o ≠ .tbl ps) : a ∉ m'.c := by
  obtain ⟨l, el, hl⟩ := e.new
  intro z
  rw [el] at z
  rcases List.mem_append.mp z with z | z
  · exact n z
  · exact (hl a z).no h t
theorem Ext.trans (e : Ext m H m' H') (f : Ext m' H' m'' H'') : Ext m H m'' H'' := by
  obtain ⟨l, el, hl⟩ := e.new
  obtain ⟨k, ek, hk⟩ := f.new
  refine ⟨⟨l ++ k, by rw [ek, el, List.append_assoc], fun a ha => ?_⟩, ⟨fun a h => f.gh.1 a (e.gh.1 a h), fun a h => (f.gh.2 a h).elim (e.gh.2 a) fun z => .inr (e.dom a z)⟩, fun a o n t h => f.keep a o (e.nmc n h t) t (e.keep a o n t h), fun a h => e.dom a (f.dom a h)⟩
  rcases List.mem_append.mp ha with z | z
  · exact hl a z
  · exact e.dom a (hk a z)
theorem Ext.of_same (s : Same H H') : Ext m H m H' := ⟨⟨[], (List.append_nil _).symm, fun _ h => nomatch h⟩, ⟨fun _ h => h, fun _ h => .inl h⟩, fun _ _ _ _ h => s _ _ h, fun a h o e => h o (s a o e)⟩
theorem nt_lst {xs : List V} : ∀ ps, HO.lst xs ≠ .tbl ps := by intro _ z; cases z
theorem nt_dk {xs : List (Key × V)} : ∀ ps, HO.dK xs ≠ .tbl ps := by intro _ z; cases z
theorem nt_ins {C dx : Addr} {fs : List (Str × V)} : ∀ ps, HO.ins C dx fs ≠ .tbl ps := by intro _ z; cases z
section
variable (h : ∀ a o, a ∉ m.all → (∀ ps, o ≠ .tbl ps) → H a = some o → H' a = some o) (hm : ∀ a o, a ∉ m.all → (∀ ps, o ≠ .tbl ps) → H a = some o → a ∉ m'.all) (ht : ∀ a xs, H a = some (.tup xs) → H' a = some (.tup xs))
include h hm ht
/-- rep goes over where objects stay -/
theorem Rp.move {v : V} {d : D} (r : Rp G m H v d) : Rp G m' H' v d :=
  Rp.rec (motive_1 := fun v d _ => Rp G m' H' v d) (motive_2 := fun v d _ => RpA G m' H' v d) (motive_3 := fun v d _ => RpF G m' H' v d)
    .non (fun b => .bl b) (fun i => .int i) (fun x l => .str x l) (fun l e _ r => .tup l (ht _ _ e) r) (fun l e n _ r => .lst l (h _ _ n nt_lst e) (hm _ _ n (by first | exact nt_lst | exact nt_ins) e) r)
    (fun g e n _ r => .obj g (h _ _ n nt_ins e) (hm _ _ n (by first | exact nt_lst | exact nt_ins) e) r) (fun e n => .emp (h _ _ n nt_dk e) (hm _ _ n nt_dk e)) .nil (fun _ _ r t => .cons r t) .nil (fun _ _ r t => .cons r t) r
theorem RpA.move {v : List V} {d : List D} (r : RpA G m H v d) : RpA G m' H' v d :=
  RpA.rec (motive_1 := fun v d _ => Rp G m' H' v d) (motive_2 := fun v d _ => RpA G m' H' v d) (motive_3 := fun v d _ => RpF G m' H' v d)
    .non (fun b => .bl b) (fun i => .int i) (fun x l => .str x l) (fun l e _ r => .tup l (ht _ _ e) r) (fun l e n _ r => .lst l (h _ _ n nt_lst e) (hm _ _ n (by first | exact nt_lst | exact nt_ins) e) r)
    (fun g e n _ r => .obj g (h _ _ n nt_ins e) (hm _ _ n (by first | exact nt_lst | exact nt_ins) e) r) (fun e n => .emp (h _ _ n nt_dk e) (hm _ _ n nt_dk e)) .nil (fun _ _ r t => .cons r t) .nil (fun _ _ r t => .cons r t) r
theorem RpF.move {v : List (Str × V)} {d : List (Str × D)} (r : RpF G m H v d) : RpF G m' H' v d :=
  RpF.rec (motive_1 := fun v d _ => Rp G m' H' v d) (motive_2 := fun v d _ => RpA G m' H' v d) (motive_3 := fun v d _ => RpF G m' H' v d)
    .non (fun b => .bl b) (fun i => .int i) (fun x l => .str x l) (fun l e _ r => .tup l (ht _ _ e) r) (fun l e n _ r => .lst l (h _ _ n nt_lst e) (hm _ _ n (by first | exact nt_lst | exact nt_ins) e) r)
    (fun g e n _ r => .obj g (h _ _ n nt_ins e) (hm _ _ n (by first | exact nt_lst | exact nt_ins) e) r) (fun e n => .emp (h _ _ n nt_dk e) (hm _ _ n nt_dk e)) .nil (fun _ _ r t => .cons r t) .nil (fun _ _ r t => .cons r t) r
end
def CellAt (G : Gx) (m : M) (H : Hp) (a : Addr) : Cell → Prop
  | .lst ds => ds.length ≤ lim ∧ ∃ xs, H a = some (.lst xs) ∧ RpA G m H xs ds
  | .ins c gs => ∃ C dx fs, G.mg c = some (.ref C) ∧ H a = some (.ins C dx fs) ∧ RpF G m H fs gs
theorem CellAt.got {a : Addr} {c : Cell} (h : CellAt G m H a c) : ∃ o, H a = some o ∧ (∀ xs, o ≠ .tup xs) ∧ (∀ xs, o ≠ .tbl xs) ∧ (∀ x y, o ≠ .frz x y) ∧ ∀ φ, o ≠ .ext φ := by
  cases c with
  | lst ds => obtain ⟨_, xs, e, _⟩ := h; exact ⟨_, e, (by intro _ z; cases z), (by intro _ z; cases z), (by intro _ _ z; cases z), (by intro _ z; cases z)⟩
  | ins c gs => obtain ⟨_, _, xs, _, e, _⟩ := h; exact ⟨_, e, (by intro _ z; cases z), (by intro _ z; cases z), (by intro _ _ z; cases z), (by intro _ z; cases z)⟩
theorem nodup_ixA {l : List Addr} (hN : l.Nodup) {i j : Nat} {x : Addr} (a : l[i]? = some x) (b : l[j]? = some x) : i = j := by
  obtain ⟨h1, e1⟩ := List.getElem?_eq_some_iff.mp a
  obtain ⟨h2, e2⟩ := List.getElem?_eq_some_iff.mp b
  exact (List.getElem_inj hN).mp (e1.trans e2.symm)
/-- the store's cells stand in the heap at m -/
structure CO (G : Gx) (m : M) (H : Hp) (st : Sto) : Prop where
  len : m.c.length = st.length
  nd : m.c.Nodup
  at_ : ∀ (i : Nat) (a : Addr) (c : Cell), m.c[i]? = some a → st[i]? = some c → CellAt G m H a c
  tabs : Tabs G.T H
  gh : ∀ a ∈ m.g, ¬ Fr H a
theorem CO.got {st : Sto} (c : CO G m H st) {a : Addr} (h : a ∈ m.c) : ∃ o, H a = some o ∧ (∀ xs, o ≠ .tup xs) ∧ (∀ xs, o ≠ .tbl xs) ∧ (∀ x y, o ≠ .frz x y) ∧ ∀ φ, o ≠ .ext φ := by
  obtain ⟨i, hi, e⟩ := List.getElem_of_mem h
  have hi' : i < st.length := by rw [← c.len]; exact hi
  exact (c.at_ i a st[i] (by rw [List.getElem?_eq_getElem hi, e]) (List.getElem?_eq_getElem hi')).got
theorem CO.new_nm {st : Sto} (c : CO G m H st) {p : Addr} (h : Fr H p) : p ∉ m.c := fun z => by
  obtain ⟨o, e, _, t, _⟩ := c.got z
  exact h.no e t
theorem CO.new_na {st : Sto} (c : CO G m H st) {p : Addr} (h : Fr H p) : p ∉ m.all := fun z => by
  rcases List.mem_append.mp z with z | z
  · exact c.new_nm h z
  · exact c.gh p z h
theorem CO.tup_nm {st : Sto} (c : CO G m H st) {p : Addr} {xs : List V} (h : H p = some (.tup xs)) : p ∉ m.c := fun z => by
  obtain ⟨o, e, n, _⟩ := c.got z
  rw [h] at e
  cases e
  exact n _ rfl
/-- rep by code -/
theorem Rp.ext {st : Sto} (c : CO G m H st) (e : Ext m H m' H') {v : V} {d : D} (r : Rp G m H v d) : Rp G m' H' v d :=
  r.move (fun a o n => e.keep a o (nall n)) (fun _ _ n t h => e.nm n h t) fun a xs h => e.keep a _ (c.tup_nm h) (by intro _ z; cases z) h
theorem RpA.ext {st : Sto} (c : CO G m H st) (e : Ext m H m' H') {v : List V} {d : List D} (r : RpA G m H v d) : RpA G m' H' v d :=
  r.move (fun a o n => e.keep a o (nall n)) (fun _ _ n t h => e.nm n h t) fun a xs h => e.keep a _ (c.tup_nm h) (by intro _ z; cases z) h
theorem RpF.ext {st : Sto} (c : CO G m H st) (e : Ext m H m' H') {v : List (Str × V)} {d : List (Str × D)} (r : RpF G m H v d) : RpF G m' H' v d :=
  r.move (fun a o n => e.keep a o (nall n)) (fun _ _ n t h => e.nm n h t) fun a xs h => e.keep a _ (c.tup_nm h) (by intro _ z; cases z) h
theorem Rp.same (s : Same H H') {v : V} {d : D} (r : Rp G m H v d) : Rp G m H' v d := r.move (fun _ _ _ _ h => s _ _ h) (fun _ _ n _ _ => n) fun _ _ h => s _ _ h
theorem RpA.same (s : Same H H') {v : List V} {d : List D} (r : RpA G m H v d) : RpA G m H' v d := r.move (fun _ _ _ _ h => s _ _ h) (fun _ _ n _ _ => n) fun _ _ h => s _ _ h
theorem RpF.same (s : Same H H') {v : List (Str × V)} {d : List (Str × D)} (r : RpF G m H v d) : RpF G m H' v d := r.move (fun _ _ _ _ h => s _ _ h) (fun _ _ n _ _ => n) fun _ _ h => s _ _ h
theorem ScrA.sq {K : PySem.W.Frag} {a : Addr} {xs : List V} (h : ScrA K m H a xs) : SqL K H a xs := by
  rcases h with ⟨h, _⟩ | h | h
  · exact .inl (.inl h)
  · exact .inl (.inr h)
  · exact .inr h
theorem ScrA.ext {K : PySem.W.Frag} {st : Sto} {a : Addr} {xs : List V} (c : CO G m H st) (e : Ext m H m' H') (h : ScrA K m H a xs) : ScrA K m' H' a xs := by
  rcases h with ⟨h, n⟩ | ⟨o, h⟩ | h
  · exact .inl ⟨e.keep _ _ (nall n) (by intro _ z; cases z) h, e.nm n h nt_lst⟩
  · refine .inr (.inl ⟨o, e.keep _ _ (fun z => ?_) (by intro _ z; cases z) h⟩)
    obtain ⟨o', e', _, _, n, _⟩ := c.got z
    rw [h] at e'
    cases e'
    exact n _ _ rfl
  · exact .inr (.inr h)
theorem RpIs.mono {vs : List V} {ws : List Wi} (hd : ∀ v x, Rp G m H v x → Rp G m' H' v x) (hc : ∀ (n : Nat) (a : Addr), m.c[n]? = some a → m'.c[n]? = some a) (r : RpIs G m H vs ws) : RpIs G m' H' vs ws := by
  induction r with
  | nil => exact .nil
  | @cons v vs w ws r1 _ ih =>
    refine .cons ?_ ih
    cases w with
    | d x => exact hd v x r1
    | c n =>
      obtain ⟨a, h, e⟩ := r1
      exact ⟨a, hc n a h, e⟩
theorem RpI.ext {st : Sto} (c : CO G m H st) (e : Ext m H m' H') {v : V} {w : Wi} (r : RpI G m H v w) : RpI G m' H' v w := by
  cases w with
  | d x => exact Rp.ext c e r
  | c n =>
    obtain ⟨a, h, rfl⟩ := r
    obtain ⟨l, el, _⟩ := e.new
    exact ⟨a, by rw [el, List.getElem?_append_left (List.getElem?_eq_some_iff.mp h).1]; exact h, rfl⟩
theorem RpIs.ext {st : Sto} (c : CO G m H st) (e : Ext m H m' H') {vs : List V} {ws : List Wi} (r : RpIs G m H vs ws) : RpIs G m' H' vs ws := by
  induction r with
  | nil => exact .nil
  | cons r _ ih => exact .cons (RpI.ext c e r) ih
theorem RpW.ext {st : Sto} (c : CO G m H st) (e : Ext m H m' H') {v : V} {w : W} (r : RpW G m H v w) : RpW G m' H' v w := by
  cases w with
  | d x => exact Rp.ext c e r
  | c n =>
    obtain ⟨a, h, rfl⟩ := r
    obtain ⟨l, el, _⟩ := e.new
    exact ⟨a, by rw [el, List.getElem?_append_left (List.getElem?_eq_some_iff.mp h).1]; exact h, rfl⟩
  | scr ns =>
    obtain ⟨a, rfl, l, h⟩ := r
    exact ⟨a, rfl, l, h.ext c e⟩
  | t l =>
    obtain ⟨a, xs, rfl, hl, h, r⟩ := r
    exact ⟨a, xs, rfl, hl, e.keep _ _ (c.tup_nm h) (by intro _ z; cases z) h, r.ext c e⟩
theorem RpWs.ext {st : Sto} (c : CO G m H st) (e : Ext m H m' H') {vs : List V} {ws : List W} (r : RpWs G m H vs ws) : RpWs G m' H' vs ws := by
  induction r with
  | nil => exact .nil
  | cons r _ ih => exact .cons (RpW.ext c e r) ih
/-- the slots -/
structure SL (G : Gx) (m : M) (H : Hp) (σ : L2.St) (sl : Slo) : Prop where
  len : σ.length = sl.length
  at_ : ∀ (i : Nat) (w : W), sl[i]? = some (some w) → ∃ v, σ[i]? = some (some v) ∧ RpW G m H v w
theorem SL.ext {st : Sto} {σ : L2.St} {sl : Slo} (c : CO G m H st) (e : Ext m H m' H') (r : SL G m H σ sl) : SL G m' H' σ sl :=
  ⟨r.len, fun i w h => let ⟨v, h1, h2⟩ := r.at_ i w h; ⟨v, h1, RpW.ext c e h2⟩⟩
theorem SL.set {σ : L2.St} {sl : Slo} {i : Nat} {v : V} {w : W} (r : SL G m H σ sl) (h : RpW G m H v w) : SL G m H (σ.set i (some v)) (sl.set i (some w)) := by
  refine ⟨by rw [List.length_set, List.length_set]; exact r.len, fun j w' e => ?_⟩
  by_cases c : i = j
  · subst c
    have hl : i < sl.length := by
      have := (List.getElem?_eq_some_iff.mp e).1
      rwa [List.length_set] at this
    rw [List.getElem?_set_self hl] at e
    cases e
    exact ⟨v, List.getElem?_set_self (by rw [r.len]; exact hl), h⟩
  · rw [List.getElem?_set_ne c] at e
    obtain ⟨v', h1, h2⟩ := r.at_ j w' e
    exact ⟨v', by rw [List.getElem?_set_ne c]; exact h1, h2⟩
/-! the store through changes -/
theorem CellAt.ext {st : Sto} {a : Addr} {c : Cell} (co : CO G m H st) (e : Ext m H m' H') (ha : H' a = H a) (h : CellAt G m H a c) : CellAt G m' H' a c := by
  cases c with
  | lst ds => obtain ⟨l, xs, h1, h2⟩ := h; exact ⟨l, xs, ha.trans h1, h2.ext co e⟩
  | ins c gs => obtain ⟨C, dx, fs, h1, h2, h3⟩ := h; exact ⟨C, dx, fs, h1, ha.trans h2, h3.ext co e⟩
theorem CO.same {st : Sto} (c : CO G m H st) (s : Same H H') : CO G m H' st := by
  refine ⟨c.len, c.nd, fun i a cl h1 h2 => ?_, c.tabs.ext fun b o h => s b o h, fun a ha h => c.gh a ha ((Ext.of_same (m := m) s).dom a h)⟩
  have q := c.at_ i a cl h1 h2
  obtain ⟨o, ho, _⟩ := q.got
  exact q.ext c (Ext.of_same s) ((s a o ho).trans ho.symm)
theorem ext_cell {st : Sto} {p : Addr} {o : HO} (c : CO G m H st) (hp : H p = none) : Ext m H (m.add p) (upd H p o) :=
  ⟨⟨[p], rfl, fun a h => by rw [List.mem_singleton.mp h]; exact .none hp⟩, ⟨fun _ h => h, fun _ h => .inl h⟩, fun a u _ _ h => (same_new hp) a u h, fun a h o' e => h o' ((same_new hp) a o' e)⟩
theorem CO.cell {st : Sto} {p : Addr} {o : HO} {cl : Cell} (c : CO G m H st) (hp : H p = none) (h : CellAt G (m.add p) (upd H p o) p cl) : CO G (m.add p) (upd H p o) (st ++ [cl]) := by
  have e := ext_cell (o := o) c hp
  refine ⟨by show (m.c ++ [p]).length = _; rw [List.length_append, List.length_append, c.len]; rfl, ?_, fun i a cl' h1 h2 => ?_, c.tabs.ext fun b u q => same_new hp b u q, fun a ha h => c.gh a ha (e.dom a h)⟩
  · exact List.nodup_append.mpr ⟨c.nd, List.nodup_cons.mpr ⟨List.not_mem_nil, List.nodup_nil⟩, fun a ha b hb => by
      rw [List.mem_singleton.mp hb]
      rintro rfl
      exact c.new_nm (.none hp) ha⟩
  · have h1 : (m.c ++ [p])[i]? = some a := h1
    rcases Nat.lt_trichotomy i m.c.length with hi | hi | hi
    · rw [List.getElem?_append_left hi] at h1
      rw [List.getElem?_append_left (by rw [← c.len]; exact hi)] at h2
      have q := c.at_ i a cl' h1 h2
      obtain ⟨u, hu, _⟩ := q.got
      exact q.ext c e (by rw [upd_ne (ne_of_none hu hp)])
    · subst hi
      rw [List.getElem?_append_right (Nat.le_refl _), Nat.sub_self] at h1
      rw [c.len, List.getElem?_append_right (Nat.le_refl _), Nat.sub_self] at h2
      cases h1
      cases h2
      exact h
    · rw [List.getElem?_append_right (Nat.le_of_lt hi), List.getElem?_eq_none (by simp only [List.length_singleton]; omega)] at h1
      cases h1
theorem ext_write {st : Sto} {i : Nat} {a : Addr} {o : HO} (c : CO G m H st) (ho : ∀ ps, o ≠ .tbl ps) (hi : m.c[i]? = some a) : Ext m H m (upd H a o) :=
  ⟨⟨[], (List.append_nil _).symm, fun _ h => nomatch h⟩, ⟨fun _ h => h, fun _ h => .inl h⟩, fun b u n _ h => by
    have z : b ≠ a := fun z => n (z ▸ List.mem_of_getElem? hi)
    rw [upd_ne z]; exact h, fun b h o' e => by
    by_cases z : b = a
    · rw [z] at h; exact (h.no upd_same ho).elim
    · exact h o' (by rw [upd_ne z]; exact e)⟩
theorem CO.write {st : Sto} {i : Nat} {a : Addr} {o : HO} {cl : Cell} (c : CO G m H st) (hi : m.c[i]? = some a) (h : CellAt G m (upd H a o) a cl) : CO G m (upd H a o) (st.set i cl) := by
  have ho : ∀ ps, o ≠ .tbl ps := by
    obtain ⟨u, hu, _, t, _⟩ := h.got
    rw [upd_same] at hu
    cases hu
    exact t
  have e := ext_write (o := o) c ho hi
  refine ⟨by rw [List.length_set]; exact c.len, c.nd, fun j b cl' h1 h2 => ?_, fun p hp => ?_, fun b hb h => c.gh b hb (e.dom b h)⟩
  · by_cases z : i = j
    · subst z
      rw [hi] at h1
      cases h1
      have hl : i < st.length := by rw [← c.len]; exact (List.getElem?_eq_some_iff.mp hi).1
      rw [List.getElem?_set_self hl] at h2
      cases h2
      exact h
    · rw [List.getElem?_set_ne z] at h2
      have q := c.at_ j b cl' h1 h2
      refine q.ext c e (upd_ne fun y => z ?_)
      subst y
      exact nodup_ixA c.nd hi h1
  · obtain ⟨ps, q, r1, r2⟩ := c.tabs p hp
    obtain ⟨u, hu, _, nt, _, nx⟩ := c.got (List.mem_of_getElem? hi)
    have n : p.1 ≠ a := fun z => by
      rw [z, hu] at q
      cases q
      exact nt _ rfl
    refine ⟨ps, by rw [upd_ne n]; exact q, r1, fun pos cv h => ?_⟩
    obtain ⟨c', e1, e2⟩ := r2 pos cv h
    refine ⟨c', e1, ?_⟩
    rw [upd_ne fun z => ?_]
    · exact e2
    · rw [z, hu] at e2
      cases e2
      exact nx _ rfl
/-- a rep among fewer cells -/
theorem mv_of {m m' : M} (h : ∀ a, a ∈ m'.all → a ∈ m.all) : ∀ a (o : HO), a ∉ m.all → (∀ ps, o ≠ .tbl ps) → H a = some o → a ∉ m'.all := fun a _ n _ _ z => n (h a z)
theorem Rp.fewer (h : ∀ a, a ∈ m'.all → a ∈ m.all) {v : V} {d : D} (r : Rp G m H v d) : Rp G m' H v d := r.move (fun _ _ _ _ h => h) (mv_of h) fun _ _ h => h
theorem RpA.fewer (h : ∀ a, a ∈ m'.all → a ∈ m.all) {v : List V} {d : List D} (r : RpA G m H v d) : RpA G m' H v d := r.move (fun _ _ _ _ h => h) (mv_of h) fun _ _ h => h
theorem RpF.fewer (h : ∀ a, a ∈ m'.all → a ∈ m.all) {v : List (Str × V)} {d : List (Str × D)} (r : RpF G m H v d) : RpF G m' H v d := r.move (fun _ _ _ _ h => h) (mv_of h) fun _ _ h => h
theorem CellAt.fewer (h : ∀ a, a ∈ m'.all → a ∈ m.all) {a : Addr} {c : Cell} (r : CellAt G m H a c) : CellAt G m' H a c := by
  cases c with
  | lst ds => obtain ⟨l, xs, h1, h2⟩ := r; exact ⟨l, xs, h1, h2.fewer h⟩
  | ins c gs => obtain ⟨C, dx, fs, h1, h2, h3⟩ := r; exact ⟨C, dx, fs, h1, h2, h3.fewer h⟩
def M.tk (m : M) (n : Nat) : M := ⟨m.c.take n, m.g⟩
theorem tk_all {n : Nat} : ∀ a, a ∈ (m.tk n).all → a ∈ m.all := fun a z => by
  rcases List.mem_append.mp z with z | z
  · exact List.mem_append_left _ (List.mem_of_mem_take z)
  · exact List.mem_append_right _ z
/-- cells from the n-th on are forgotten -/
theorem CO.take {st : Sto} (c : CO G m H st) (n : Nat) : CO G (m.tk n) H (st.take n) := by
  refine ⟨by show (m.c.take n).length = _; rw [List.length_take, List.length_take, c.len], c.nd.sublist (List.take_sublist _ _), fun i a cl h1 h2 => ?_, c.tabs, c.gh⟩
  have h1 : (m.c.take n)[i]? = some a := h1
  rw [List.getElem?_take] at h1 h2
  split at h1
  · rename_i hi
    rw [if_pos hi] at h2
    exact (c.at_ i a cl h1 h2).fewer tk_all
  · cases h1
/-- behind a call: the cells that were there, the callee's own forgotten -/
theorem Ext.cut {st : Sto} (e : Ext m H m' H') (c : CO G m' H' st) : Ext m H m H' ∧ CO G m H' (st.take m.c.length) ∧ ∀ a, a ∈ m.all → a ∈ m'.all := by
  obtain ⟨l, el, hl⟩ := e.new
  have sub : ∀ a, a ∈ m.all → a ∈ m'.all := fun a z => by
    rcases List.mem_append.mp z with z | z
    · exact List.mem_append_left _ (by rw [el]; exact List.mem_append_left _ z)
    · exact List.mem_append_right _ (e.gh.1 a z)
  refine ⟨⟨⟨[], (List.append_nil _).symm, fun _ h => nomatch h⟩, ⟨fun _ h => h, fun _ h => .inl h⟩, e.keep, e.dom⟩, ?_, sub⟩
  have q := c.take m.c.length
  have ek : m'.c.take m.c.length = m.c := by rw [el, List.take_left']; rfl
  refine ⟨by rw [← q.len]; exact (congrArg List.length ek).symm, by rw [← ek]; exact q.nd, fun i a cl h1 h2 => ?_, q.tabs, fun a ha => q.gh a (e.gh.1 a ha)⟩
  refine (q.at_ i a cl ?_ h2).fewer fun b hb => ?_
  · show (m'.c.take m.c.length)[i]? = some a
    rw [ek]
    exact h1
  · show b ∈ m'.c.take m.c.length ++ m'.g
    rw [ek]
    rcases List.mem_append.mp hb with z | z
    · exact List.mem_append_left _ z
    · exact List.mem_append_right _ (e.gh.1 b z)
end
end Dn

namespace Dn
open PySem PySem.Spec PyProof.Rows L2 Ft LamX
def bnd {α β : Type} (r : R α) (k : α → Sto → R β) : R β :=
  match r with
  | none => none
  | some (.exc c fs, st) => some (.exc c fs, st)
  | some (.ok a, st) => k a st
@[simp] theorem bnd_none {α β : Type} (k : α → Sto → R β) : bnd none k = none := rfl
@[simp] theorem bnd_ok {α β : Type} (a : α) (st : Sto) (k : α → Sto → R β) : bnd (some (.ok a, st)) k = k a st := rfl
@[simp] theorem bnd_exc {α β : Type} (c : Str) (fs : List (Str × D)) (st : Sto) (k : α → Sto → R β) : bnd (some (.exc c fs, st)) k = some (.exc c fs, st) := rfl
/-- an exception lies there -/
def XAt (G : Gx) (E : XK) (m : M) (H : Hp) (c : Str) (fs : List (Str × D)) (st : Sto) : Prop :=
  ∀ C d gs H' m', Ext m H m' H' → CO G m' H' st → G.mg c = some (.ref C) → H' d = some (.xd gs) → RpF G m' H' gs fs → E (.ref C) (some d) H'
/-- what is wanted behind a run -/
def aft (G : Gx) (E : XK) {α ν : Type} (rel : M → Hp → ν → α → Prop) (m : M) (H : Hp) (r : R α) (Q : ν → Hp → Prop) : Prop :=
  match r with
  | none => False
  | some (.ok w, st) => ∀ v H' m', Ext m H m' H' → CO G m' H' st → rel m' H' v w → Q v H'
  | some (.exc c fs, st) => XAt G E m H c fs st
abbrev relB : M → Hp → Bool → Bool → Prop := fun _ _ v w => v = w
section
variable {G : Gx} {E : XK} {α β ν μ : Type} {rel : M → Hp → ν → α → Prop} {rel' : M → Hp → μ → β → Prop} {m m1 : M} {H H1 : Hp}
theorem XAt.ext {c : Str} {fs : List (Str × D)} {st : Sto} (e : Ext m H m1 H1) (h : XAt G E m H c fs st) : XAt G E m1 H1 c fs st := fun C d gs H' m' e' => h C d gs H' m' (e.trans e')
theorem aft.ext {r : R α} {Q : ν → Hp → Prop} (e : Ext m H m1 H1) (h : aft G E rel m H r Q) : aft G E rel m1 H1 r Q := by
  match r, h with
  | some (.ok w, st), h => exact fun v H' m' e' => h v H' m' (e.trans e')
  | some (.exc c fs, st), h => exact XAt.ext e h
theorem aft_bnd {r : R α} {k : α → Sto → R β} {Q : μ → Hp → Prop} {Q' : ν → Hp → Prop} (h : aft G E rel' m H (bnd r k) Q)
    (hk : ∀ w st1 v H1 m1, Ext m H m1 H1 → CO G m1 H1 st1 → rel m1 H1 v w → aft G E rel' m1 H1 (k w st1) Q → Q' v H1) : aft G E rel m H r Q' := by
  match r, h with
  | some (.ok w, st), h => exact fun v H' m' e' c' r' => hk w st v H' m' e' c' r' (aft.ext e' h)
  | some (.exc c fs, st), h => exact h
theorem aft_ok {w : α} {st : Sto} {Q : ν → Hp → Prop} {v : ν} (h : aft G E rel m H (some (.ok w, st)) Q) (c : CO G m H st) (r : rel m H v w) : Q v H := h v H m .refl c r
theorem aft_imp {r : R α} {Q Q' : ν → Hp → Prop} (h : aft G E rel m H r Q) (hq : ∀ v H, Q v H → Q' v H) : aft G E rel m H r Q' := by
  match r, h with
  | some (.ok w, st), h => exact fun v H' m' e' c' r' => hq _ _ (h v H' m' e' c' r')
  | some (.exc c fs, st), h => exact h
end
def rE (G : Gx) (E : WX) (f : Ex) : TE := fun σ H Q => ∃ m sl st, SL G m H σ sl ∧ CO G m H st ∧ aft G (WE E σ) (RpW G) m H (f sl st) Q
def rA (G : Gx) (E : WX) (f : Ax) : TA := fun σ H Q => ∃ m sl st, SL G m H σ sl ∧ CO G m H st ∧ aft G (WE E σ) (RpWs G) m H (f sl st) Q
def rT (G : Gx) (E : WX) (f : Tx) : TT := fun σ H Q => ∃ m sl st, SL G m H σ sl ∧ CO G m H st ∧ aft G (WE E σ) relB m H (f sl st) Q
abbrev DE (G : Gx) (X : Cx) (E : WX) (e : Expr) (f : Ex) : Prop := PE X e (rE G E f)
abbrev DA (G : Gx) (X : Cx) (E : WX) (es : List Expr) (f : Ax) : Prop := PA X es (rA G E f)
abbrev DT (G : Gx) (X : Cx) (E : WX) (e : Expr) (f : Tx) : Prop := PT X e (rT G E f)
abbrev DW (G : Gx) (X : Cx) (E : WX) (e : Expr) (f : Tx) : Prop := PW X e (rT G E f)
theorem PE.imp {X : Cx} {e : Expr} {t t' : TE} (h : PE X e t) (hi : ∀ σ H Q, t' σ H Q → t σ H Q) : PE X e t' := ⟨fun pins s σ H Q I q => h.run pins s σ H Q I (hi σ H Q q)⟩
theorem PT.imp {X : Cx} {e : Expr} {t t' : TT} (h : PT X e t) (hi : ∀ σ H Q, t' σ H Q → t σ H Q) : PT X e t' := ⟨fun pins s σ H Q I q => h.run pins s σ H Q I (hi σ H Q q)⟩
theorem PW.imp {X : Cx} {e : Expr} {t t' : TT} (h : PW X e t) (hi : ∀ σ H Q, t' σ H Q → t σ H Q) : PW X e t' := ⟨fun wh pins s σ H Q I q => h.run wh pins s σ H Q I (hi σ H Q q)⟩
theorem PA.imp {X : Cx} {es : List Expr} {t t' : TA} (h : PA X es t) (hi : ∀ σ H Q, t' σ H Q → t σ H Q) : PA X es t' := ⟨fun pos pins s σ H Q I q => h.run pos pins s σ H Q I (hi σ H Q q)⟩
theorem PS.imp {X : Cx} {e : Stmt} {t t' : TS} (h : PS X e t) (hi : ∀ D σ H, t' D σ H → t D σ H) : PS X e t' := ⟨fun pins s σ H D I q => h.run pins s σ H D I (hi D σ H q)⟩
theorem PSs.imp {X : Cx} {e : List Stmt} {t t' : TS} (h : PSs X e t) (hi : ∀ D σ H, t' D σ H → t D σ H) : PSs X e t' := ⟨fun pins s σ H D I q => h.run pins s σ H D I (hi D σ H q)⟩
/-! ### what a value is worth to an operator that keeps no reference: a cell by its content -/
def view (st : Sto) : W → Option D
  | .d x => some x
  | .c n => match st[n]? with
    | some (.lst ds) => some (.lst ds)
    | some (.ins c fs) => some (.obj c fs)
    | none => none
  | _ => none
/-- .. the script too -/
def viewL (st : Sto) : W → Option D
  | .scr ns => some (.lst (ns.map D.int))
  | w => view st w
def views (st : Sto) : List W → Option (List D)
  | [] => some []
  | w :: ws => match viewL st w, views st ws with
    | some d, some ds => some (d :: ds)
    | _, _ => none
/-- data, for use by value -/
def RpX (G : Gx) (m : M) (H : Hp) (v : V) (d : D) : Prop :=
  Rp G m H v d ∨ (∃ a xs ds, v = .ref a ∧ d = .lst ds ∧ ds.length ≤ lim ∧ H a = some (.lst xs) ∧ RpA G m H xs ds) ∨ (∃ a C dx c fs gs, v = .ref a ∧ d = .obj c gs ∧ G.mg c = some (.ref C) ∧ H a = some (.ins C dx fs) ∧ RpF G m H fs gs)
/-- .. the script too -/
def RpY (G : Gx) (m : M) (H : Hp) (v : V) (d : D) : Prop := RpX G m H v d ∨ ∃ (a : Addr) (ns : List Int), v = .ref a ∧ d = .lst (ns.map D.int) ∧ ns.length ≤ lim ∧ SqL G.K H a (ns.map V.int)
inductive RpXs (G : Gx) (m : M) (H : Hp) : List V → List D → Prop
  | nil : RpXs G m H [] []
  | cons {v : V} {vs : List V} {d : D} {ds : List D} : RpY G m H v d → RpXs G m H vs ds → RpXs G m H (v :: vs) (d :: ds)
section
variable {G : Gx} {m : M} {H : Hp} {st : Sto}
theorem RpA.ints (ns : List Int) : RpA G m H (ns.map V.int) (ns.map D.int) := by
  induction ns with
  | nil => exact .nil
  | cons n ns ih => exact .cons (.int n) ih
theorem view_ok (c : CO G m H st) {v : V} {w : W} {d : D} (r : RpW G m H v w) (h : view st w = some d) : RpX G m H v d := by
  cases w with
  | d x => cases h; exact .inl r
  | c n =>
    obtain ⟨a, ha, rfl⟩ := r
    cases hs : st[n]? with
    | none => simp only [view, hs] at h; cases h
    | some cl =>
      simp only [view, hs] at h
      have q := c.at_ n a cl ha hs
      cases cl with
      | lst ds =>
        cases h
        obtain ⟨l, xs, h1, h2⟩ := q
        exact .inr (.inl ⟨a, xs, ds, rfl, rfl, l, h1, h2⟩)
      | ins cc fs =>
        cases h
        obtain ⟨C, dx, gs, h1, h2, h3⟩ := q
        exact .inr (.inr ⟨a, C, dx, cc, gs, fs, rfl, rfl, h1, h2, h3⟩)
  | scr ns => cases h
  | t l => cases h
theorem viewL_ok (c : CO G m H st) {v : V} {w : W} {d : D} (r : RpW G m H v w) (h : viewL st w = some d) : RpY G m H v d := by
  cases w with
  | d x => exact .inl (view_ok c r h)
  | c n => exact .inl (view_ok c r h)
  | scr ns =>
    obtain ⟨a, rfl, l, h1⟩ := r
    cases h
    exact .inr ⟨a, ns, rfl, rfl, l, h1.sq⟩
  | t l => cases h
theorem views_ok (c : CO G m H st) {vs : List V} {ws : List W} {ds : List D} (r : RpWs G m H vs ws) (h : views st ws = some ds) : RpXs G m H vs ds := by
  induction r generalizing ds with
  | nil => cases h; exact .nil
  | @cons v vs w ws r _ ih =>
    unfold views at h
    cases h1 : viewL st w with
    | none => rw [h1] at h; cases h
    | some d =>
      cases h2 : views st ws with
      | none => rw [h1, h2] at h; cases h
      | some ds' =>
        rw [h1, h2] at h
        cases h
        exact .cons (viewL_ok c r h1) (ih h2)
end
/-- a pure result -/
def pr (st : Sto) : Option D → R W
  | none => none
  | some d => some (.ok (.d d), st)
@[simp] theorem pr_some (st : Sto) (d : D) : pr st (some d) = some (.ok (.d d), st) := rfl
/-- Q is wanted of every value that means d -/
def Gives (G : Gx) (m : M) (H : Hp) (d : D) (Q : VK) : Prop := ∀ v H', Same H H' → Rp G m H' v d → Q v H'
theorem aft_pr {G : Gx} {E : XK} {m : M} {H : Hp} {st : Sto} {o : Option D} {Q : VK} (c : CO G m H st) (h : aft G E (RpW G) m H (pr st o) Q) : ∃ d, o = some d ∧ Gives G m H d Q := by
  cases o with
  | none => exact h.elim
  | some d => exact ⟨d, rfl, fun v H' s r => h v H' m (Ext.of_same s) (c.same s) r⟩
/-! ### operators by pure functions -/
def OpP (G : Gx) (X : Cx) (f : Value → Value → Sem Value) (g : D → D → Option D) : Prop :=
  OpR X f (fun x y H Q => ∃ m st d1 d2 d, CO G m H st ∧ RpX G m H x d1 ∧ RpX G m H y d2 ∧ g d1 d2 = some d ∧ Gives G m H d Q)
def UnP (G : Gx) (X : Cx) (f : Value → Sem Value) (g : D → Option D) : Prop :=
  UnR X f (fun x H Q => ∃ m st d1 d, CO G m H st ∧ RpX G m H x d1 ∧ g d1 = some d ∧ Gives G m H d Q)
def CallP (G : Gx) (X : Cx) (f : Value) (g : List D → Option D) : Prop :=
  CallR X f (fun xs H Q => ∃ m st ds d, CO G m H st ∧ RpXs G m H xs ds ∧ g ds = some d ∧ Gives G m H d Q)
def IxP (G : Gx) (X : Cx) (g : D → D → Option D) : Prop :=
  IxR X (fun x y H Q => ∃ m st d1 d2 d, CO G m H st ∧ RpY G m H x d1 ∧ RpX G m H y d2 ∧ g d1 d2 = some d ∧ Gives G m H d Q)
def SlP (G : Gx) (X : Cx) (g : D → Option Int → Option Int → Option D) : Prop :=
  SlR X (fun x lo hi H Q => ∃ m st d1 d, CO G m H st ∧ RpY G m H x d1 ∧ g d1 lo hi = some d ∧ Gives G m H d Q)
/-! ### expressions -/
def eVar (i : Nat) : Ex := fun sl st => match sl[i]? with
  | some (some w) => some (.ok w, st)
  | _ => none
def eC (d : D) : Ex := fun _ st => some (.ok (.d d), st)
def lift2 (g : D → D → Option D) (w1 w2 : W) (st : Sto) : R W := match view st w1, view st w2 with
  | some d1, some d2 => pr st (g d1 d2)
  | _, _ => none
def eOp (g : D → D → Option D) (fa fb : Ex) : Ex := fun sl st => bnd (fa sl st) fun w1 st1 => bnd (fb sl st1) fun w2 st2 => lift2 g w1 w2 st2
def eIx (g : D → D → Option D) (fa fb : Ex) : Ex := fun sl st => bnd (fa sl st) fun w1 st1 => bnd (fb sl st1) fun w2 st2 => match viewL st2 w1, view st2 w2 with
  | some d1, some d2 => pr st2 (g d1 d2)
  | _, _ => none
def lift1 (g : D → Option D) (w : W) (st : Sto) : R W := match view st w with
  | some d => pr st (g d)
  | none => none
def eUn (g : D → Option D) (fa : Ex) : Ex := fun sl st => bnd (fa sl st) fun w1 st1 => lift1 g w1 st1
def aNil : Ax := fun _ st => some (.ok [], st)
def aCons (fa : Ex) (fr : Ax) : Ax := fun sl st => bnd (fa sl st) fun w st1 => bnd (fr sl st1) fun ws st2 => some (.ok (w :: ws), st2)
def liftN (g : List D → Option D) (ws : List W) (st : Sto) : R W := match views st ws with
  | some ds => pr st (g ds)
  | none => none
def eCall (g : List D → Option D) (fa : Ax) : Ex := fun sl st => bnd (fa sl st) fun ws st1 => liftN g ws st1
section
variable {G : Gx} {X : Cx} {E : WX} {E' : XK} {a b e : Expr} {es : List Expr} {fa fb : Ex} {fr : Ax} {pos p : Pos}
theorem de_var {i : Nat} {x : Str} (hN : X.N[i]? = some x) (hv : Vis X.env.scope x) (hd : (x == ("__debug__" : Str)) = false := by decide) (hcd : (x == ("__classdict__" : Str)) = false := by decide) : DE G X E (.Name x pos) (eVar i) := by
  refine PE.imp (pe_var hN hv hd hcd) ?_
  rintro σ H Q ⟨m, sl, st, hs, hc, h⟩
  unfold eVar at h
  split at h
  · rename_i w hw
    obtain ⟨v, h1, h2⟩ := hs.at_ i w hw
    exact ⟨v, h1, aft_ok h hc h2⟩
  · exact h.elim
theorem rE_c {v : V} {d : D} (r : ∀ m H, Rp G m H v d) {σ : L2.St} {H : Hp} {Q : VK} (h : rE G E (eC d) σ H Q) : tC v σ H Q := by
  obtain ⟨m, sl, st, hs, hc, h⟩ := h
  exact aft_ok h hc (show RpW G m H v (.d d) from r m H)
theorem de_int {i j pos} : DE G X E (.Constant (.int i) j pos) (eC (.int i)) := PE.imp pe_int fun _ _ _ h => rE_c (fun _ _ => .int i) h
theorem de_bl {b j pos} : DE G X E (.Constant (.bool b) j pos) (eC (.bl b)) := PE.imp pe_bl fun _ _ _ h => rE_c (fun _ _ => .bl b) h
theorem de_non {j pos} : DE G X E (.Constant .none j pos) (eC .non) := PE.imp pe_non fun _ _ _ h => rE_c (fun _ _ => .non) h
theorem de_str {x j pos} (hl : x.length ≤ lim := by decide +kernel) : DE G X E (.Constant (.str x) j pos) (eC (.str x)) := PE.imp pe_str fun _ _ _ h => rE_c (fun _ _ => .str x hl) h
theorem de_cint {x : Str} {i : Int} (h : Cst X.mg x (.int i)) (hg : Gl X x) (hd : (x == ("__debug__" : Str)) = false := by decide) : DE G X E (.Name x pos) (eC (.int i)) := PE.imp (pe_const h hg hd) fun _ _ _ h => rE_c (fun _ _ => .int i) h
theorem de_cstr {x y : Str} (h : Cst X.mg x (.str y)) (hg : Gl X x) (hd : (x == ("__debug__" : Str)) = false := by decide) (hl : y.length ≤ lim := by decide +kernel) : DE G X E (.Name x pos) (eC (.str y)) := PE.imp (pe_const h hg hd) fun _ _ _ h => rE_c (fun _ _ => .str y hl) h
theorem lift2_ok {g : D → D → Option D} {m : M} {H : Hp} {st : Sto} {w1 w2 : W} {v1 v2 : V} {Q : VK} (c : CO G m H st) (r1 : RpW G m H v1 w1) (r2 : RpW G m H v2 w2) (h : aft G E' (RpW G) m H (lift2 g w1 w2 st) Q) :
    ∃ m st d1 d2 d, CO G m H st ∧ RpX G m H v1 d1 ∧ RpX G m H v2 d2 ∧ g d1 d2 = some d ∧ Gives G m H d Q := by
  unfold lift2 at h
  split at h
  · rename_i d1 d2 e1 e2
    obtain ⟨d, e3, q⟩ := aft_pr c h
    exact ⟨m, st, d1, d2, d, c, view_ok c r1 e1, view_ok c r2 e2, e3, q⟩
  · exact h.elim
theorem eOp_ok {g : D → D → Option D} {r : R2} (hr : ∀ x y H Q, (∃ m st d1 d2 d, CO G m H st ∧ RpX G m H x d1 ∧ RpX G m H y d2 ∧ g d1 d2 = some d ∧ Gives G m H d Q) → r x y H Q) {σ : L2.St} {H : Hp} {Q : VK} (h : rE G E (eOp g fa fb) σ H Q) : tOp r (rE G E fa) (rE G E fb) σ H Q := by
  obtain ⟨m, sl, st, hs, hc, h⟩ := h
  refine ⟨m, sl, st, hs, hc, aft_bnd h fun w1 st1 x H1 m1 e1 c1 r1 h1 => ⟨m1, sl, st1, hs.ext hc e1, c1, aft_bnd h1 fun w2 st2 y H2 m2 e2 c2 r2 h2 => hr _ _ _ _ (lift2_ok c2 (RpW.ext c1 e2 r1) r2 h2)⟩⟩
theorem de_op {op : Operator} {g : D → D → Option D} (ho : OpP G X (binaryOp op) g) (ha : DE G X E a fa) (hb : DE G X E b fb) : DE G X E (.BinOp a op b pos) (eOp g fa fb) :=
  PE.imp (pe_op ho ha hb) fun σ H Q h => eOp_ok (fun _ _ _ _ q => q) h
theorem de_cmp {op : CmpOp} {g : D → D → Option D} (ho : OpP G X (compareOp op) g) (ha : DE G X E a fa) (hb : DE G X E b fb) (hm : behindInMarks op b = false) : DE G X E (.Compare a [op] [b] pos) (eOp g fa fb) :=
  PE.imp (pe_cmpR ho ha hb hm) fun σ H Q h => eOp_ok (fun _ _ _ _ q => q) h
theorem de_un {op : UnaryOp} {g : D → Option D} (ho : UnP G X (unaryOp op) g) (ha : DE G X E a fa) : DE G X E (.UnaryOp op a pos) (eUn g fa) := by
  refine PE.imp (pe_un ho ha) ?_
  rintro σ H Q ⟨m, sl, st, hs, hc, h⟩
  refine ⟨m, sl, st, hs, hc, aft_bnd h fun w1 st1 x H1 m1 e1 c1 r1 h1 => ?_⟩
  unfold lift1 at h1
  split at h1
  · rename_i d1 e2
    obtain ⟨d, e3, q⟩ := aft_pr c1 h1
    exact ⟨m1, st1, d1, d, c1, view_ok c1 r1 e2, e3, q⟩
  · exact h1.elim
theorem de_ix {g : D → D → Option D} (ho : IxP G X g) (ha : DE G X E a fa) (hb : DE G X E b fb) (hs : PlainIx b) : DE G X E (.Subscript a b pos) (eIx g fa fb) := by
  refine PE.imp (pe_ix ho ha hb hs) ?_
  rintro σ H Q ⟨m, sl, st, hs, hc, h⟩
  refine ⟨m, sl, st, hs, hc, aft_bnd h fun w1 st1 x H1 m1 e1 c1 r1 h1 => ⟨m1, sl, st1, hs.ext hc e1, c1, aft_bnd h1 fun w2 st2 y H2 m2 e2 c2 r2 h2 => ?_⟩⟩
  split at h2
  · rename_i d1 d2 z1 z2
    obtain ⟨d, e3, q⟩ := aft_pr c2 h2
    exact ⟨m2, st2, d1, d2, d, c2, viewL_ok c2 (RpW.ext c1 e2 r1) z1, view_ok c2 r2 z2, e3, q⟩
  · exact h2.elim
theorem da_nil : DA G X E [] aNil := by
  refine PA.imp pa_nil ?_
  rintro σ H Q ⟨m, sl, st, hs, hc, h⟩
  exact aft_ok h hc .nil
theorem da_cons (ha : DE G X E e fa) (hr : DA G X E es fr) (hs : starEach (e :: es) X.env = (false, eval e X.env) :: starEach es X.env := by rfl) : DA G X E (e :: es) (aCons fa fr) := by
  refine PA.imp (pa_cons ha hr hs) ?_
  rintro σ H Q ⟨m, sl, st, hs, hc, h⟩
  refine ⟨m, sl, st, hs, hc, aft_bnd h fun w1 st1 x H1 m1 e1 c1 r1 h1 => ⟨m1, sl, st1, hs.ext hc e1, c1, aft_bnd h1 fun ws st2 xs H2 m2 e2 c2 r2 h2 => aft_ok h2 c2 (.cons (RpW.ext c1 e2 r1) r2)⟩⟩
theorem liftN_ok {g : List D → Option D} {m : M} {H : Hp} {st : Sto} {ws : List W} {vs : List V} {Q : VK} (c : CO G m H st) (r : RpWs G m H vs ws) (h : aft G E' (RpW G) m H (liftN g ws st) Q) :
    ∃ m st ds d, CO G m H st ∧ RpXs G m H vs ds ∧ g ds = some d ∧ Gives G m H d Q := by
  unfold liftN at h
  split at h
  · rename_i ds e1
    obtain ⟨d, e3, q⟩ := aft_pr c h
    exact ⟨m, st, ds, d, c, views_ok c r e1, e3, q⟩
  · exact h.elim
end
end Dn

namespace Dn
open PySem PySem.Spec PyProof.Rows L2 Ft LamX
section
variable {G : Gx} {X : Cx} {E : WX} {E' : XK} {a b c e : Expr} {es rest : List Expr} {fa fb fc : Ex} {fr : Ax} {pos p : Pos}
theorem rpd {m : M} {H : Hp} {v : V} {d : D} (r : Rp G m H v d) : RpW G m H v (.d d) := r
/-! ### built-ins called -/
theorem de_callB {x : Str} {id : String} {g : List D → Option D} (hc : CallP G X (.builtin id) g) (hg : Gl X x) (hm : X.mg x = none) (hv : bootBuiltins x = some (.builtin id)) (ha : DA G X E (e :: es) fr) (hn : x ≠ "__name__" := by decide) (hdb : (x == ("__debug__" : Str)) = false := by decide)
    (he : starEach (e :: es) X.env = (false, eval e X.env) :: starEach es X.env := by rfl) (hpl : (backTo pos (starEach es X.env)).any (·.1) = false := by rfl) : DE G X E (.Call (.Name x p) (e :: es) [] pos) (eCall g fr) := by
  refine PE.imp (pe_callB hc hg hm hv ha hn hdb he hpl) ?_
  rintro σ H Q ⟨m, sl, st, hs, hc, h⟩
  exact ⟨m, sl, st, hs, hc, aft_bnd h fun ws st1 x H1 m1 e1 c1 r1 h1 => liftN_ok c1 r1 h1⟩
theorem de_callTy {x : Str} {T : String} {g : List D → Option D} (hc : CallP G X (.type T) g) (hg : Gl X x) (hm : X.mg x = none) (hv : bootBuiltins x = some (.type T)) (ha : DA G X E (e :: es) fr) (hn : x ≠ "__name__" := by decide) (hdb : (x == ("__debug__" : Str)) = false := by decide)
    (he : starEach (e :: es) X.env = (false, eval e X.env) :: starEach es X.env := by rfl) (hpl : (backTo pos (starEach es X.env)).any (·.1) = false := by rfl) : DE G X E (.Call (.Name x p) (e :: es) [] pos) (eCall g fr) := by
  refine PE.imp (pe_callTy hc hg hm hv ha hn hdb he hpl) ?_
  rintro σ H Q ⟨m, sl, st, hs, hc, h⟩
  exact ⟨m, sl, st, hs, hc, aft_bnd h fun ws st1 x H1 m1 e1 c1 r1 h1 => liftN_ok c1 r1 h1⟩
/-! ### displays -/
def pures : List W → Option (List D)
  | [] => some []
  | .d x :: ws => (pures ws).map (x :: ·)
  | _ :: _ => none
theorem pures_ok {m : M} {H : Hp} {vs : List V} {ws : List W} {ds : List D} (r : RpWs G m H vs ws) (h : pures ws = some ds) : RpA G m H vs ds := by
  induction r generalizing ds with
  | nil => cases h; exact .nil
  | @cons v vs w ws r _ ih =>
    cases w with
    | d x =>
      simp only [pures, Option.map_eq_some_iff] at h
      obtain ⟨l, h1, rfl⟩ := h
      exact .cons r (ih h1)
    | c n => cases h
    | scr n => cases h
    | t n => cases h
theorem pures_len {ws : List W} {ds : List D} (h : pures ws = some ds) : ds.length = ws.length := by
  induction ws generalizing ds with
  | nil => cases h; rfl
  | cons w ws ih =>
    cases w with
    | d x =>
      simp only [pures, Option.map_eq_some_iff] at h
      obtain ⟨l, h1, rfl⟩ := h
      simp only [List.length_cons, ih h1]
    | c n => cases h
    | scr n => cases h
    | t n => cases h
theorem RpA.len {m : M} {H : Hp} : ∀ {vs : List V} {ds : List D}, RpA G m H vs ds → vs.length = ds.length := by
  intro vs ds h
  induction ds generalizing vs with
  | nil => cases h; rfl
  | cons d ds ih => cases h with | cons h1 h2 => rw [List.length_cons, List.length_cons, ih h2]
theorem RpWs.len {m : M} {H : Hp} {vs : List V} {ws : List W} (h : RpWs G m H vs ws) : vs.length = ws.length := by
  induction h with
  | nil => rfl
  | cons _ _ ih => simp only [List.length_cons, ih]
def mk (k : List D → D) (ws : List W) (st : Sto) : R W := match pures ws with
  | some ds => if ds.length ≤ lim then some (.ok (.d (k ds)), st) else none
  | none => none
def eTup (fa : Ax) : Ex := fun sl st => bnd (fa sl st) fun ws st1 => mk .tup ws st1
def eLst (fa : Ax) : Ex := fun sl st => bnd (fa sl st) fun ws st1 => mk .lst ws st1
/-- a list that will change -/
def eCell (fa : Ax) : Ex := fun sl st => bnd (fa sl st) fun ws st1 => match pures ws with
  | some ds => if ds.length ≤ lim then some (.ok (.c st1.length), st1 ++ [.lst ds]) else none
  | none => none
theorem rp_tup {m : M} {H : Hp} {p : Addr} {xs : List V} {ds : List D} (hp : H p = none) (hl : ds.length ≤ lim) (r : RpA G m H xs ds) : Rp G m (upd H p (.tup xs)) (.ref p) (.tup ds) := .tup hl upd_same (r.same (same_new hp))
theorem rp_lst {m : M} {H : Hp} {st : Sto} {p : Addr} {xs : List V} {ds : List D} (c : CO G m H st) (hp : H p = none) (hl : ds.length ≤ lim) (r : RpA G m H xs ds) : Rp G m (upd H p (.lst xs)) (.ref p) (.lst ds) := .lst hl upd_same (c.new_na (.none hp)) (r.same (same_new hp))
theorem de_tup {x1} (h : DA G X E es fr) : DE G X E (.Tuple es x1 pos) (eTup fr) := by
  refine PE.imp (pe_tup h) ?_
  rintro σ H Q ⟨m, sl, st, hs, hc, h⟩
  refine ⟨m, sl, st, hs, hc, aft_bnd h fun ws st1 xs H1 m1 e1 c1 r1 h1 => ?_⟩
  unfold mk at h1
  split at h1
  · rename_i ds hd
    split at h1
    · rename_i hl
      have ra := pures_ok r1 hd
      exact ⟨by rw [ra.len]; exact lim_le hl, fun p hp => h1 _ _ m1 (Ext.of_same (same_new hp)) (c1.same (same_new hp)) (rp_tup hp hl ra)⟩
    · exact h1.elim
  · exact h1.elim
theorem de_lst (h : DA G X E es fr) : DE G X E (.List es pos) (eLst fr) := by
  refine PE.imp (pe_lst h) ?_
  rintro σ H Q ⟨m, sl, st, hs, hc, h⟩
  refine ⟨m, sl, st, hs, hc, aft_bnd h fun ws st1 xs H1 m1 e1 c1 r1 h1 => ?_⟩
  unfold mk at h1
  split at h1
  · rename_i ds hd
    split at h1
    · rename_i hl
      have ra := pures_ok r1 hd
      exact ⟨by rw [ra.len]; exact lim_le hl, fun p hp => h1 _ _ m1 (Ext.of_same (same_new hp)) (c1.same (same_new hp)) (rp_lst c1 hp hl ra)⟩
    · exact h1.elim
  · exact h1.elim
theorem new_cell {m : M} {H : Hp} {st : Sto} {p : Addr} {xs : List V} {ds : List D} (c : CO G m H st) (hp : H p = none) (hl : ds.length ≤ lim) (r : RpA G m H xs ds) :
    Ext m H (m.add p) (upd H p (.lst xs)) ∧ CO G (m.add p) (upd H p (.lst xs)) (st ++ [.lst ds]) ∧ RpW G (m.add p) (upd H p (.lst xs)) (.ref p) (.c st.length) := by
  have e := ext_cell (o := .lst xs) c hp
  refine ⟨e, c.cell hp ⟨hl, xs, upd_same, r.ext c e⟩, p, ?_, rfl⟩
  show (m.c ++ [p])[_]? = _
  rw [← c.len, List.getElem?_append_right (Nat.le_refl _), Nat.sub_self]
  rfl
theorem de_cell (h : DA G X E es fr) : DE G X E (.List es pos) (eCell fr) := by
  refine PE.imp (pe_lst h) ?_
  rintro σ H Q ⟨m, sl, st, hs, hc, h⟩
  refine ⟨m, sl, st, hs, hc, aft_bnd h fun ws st1 xs H1 m1 e1 c1 r1 h1 => ?_⟩
  split at h1
  · rename_i ds hd
    split at h1
    · rename_i hl
      have ra := pures_ok r1 hd
      refine ⟨by rw [ra.len]; exact lim_le hl, fun p hp => ?_⟩
      obtain ⟨q1, q2, q3⟩ := new_cell c1 hp hl ra
      exact h1 _ _ _ q1 q2 q3
    · exact h1.elim
  · exact h1.elim
/-! ### tests -/
def truD : D → Option Bool
  | .non => some false
  | .bl b => some b
  | .int i => some (i != 0)
  | .str x => some (x.length != 0)
  | .tup ds => some (!ds.isEmpty)
  | .lst ds => some (!ds.isEmpty)
  | .obj _ _ => none
  | .emp => none
theorem isEmpty_rp {m : M} {H : Hp} {vs : List V} {ds : List D} (h : RpA G m H vs ds) : vs.isEmpty = ds.isEmpty := by
  cases h <;> rfl
theorem truD_ok {m : M} {H : Hp} {v : V} {d : D} {k : Bool} (r : RpX G m H v d) (h : truD d = some k) (hK : X.K = G.K) : TruV X.K v H k := by
  rcases r with r | ⟨a, xs, ds, rfl, rfl, _, h1, h2⟩ | ⟨a, C, dx, c, fs, gs, rfl, rfl, _⟩
  · cases r with
    | non => cases h; rfl
    | bl b => cases h; rfl
    | int i => cases h; rfl
    | str x hl =>
      cases h
      refine ⟨lim_le hl, ?_⟩
      by_cases z : x.length = 0
      · rw [z]; rfl
      · have z' : (x.length : Int) ≠ 0 := by omega
        simp only [bne, beq_eq_false_iff_ne.mpr z, beq_eq_false_iff_ne.mpr z']
    | tup _ e q => cases h; exact .inr (.inl ⟨_, .inl (.inl e), by rw [isEmpty_rp q]⟩)
    | lst _ e n q => cases h; exact .inl ⟨_, .inl (.inl e), by rw [isEmpty_rp q]⟩
    | obj _ _ _ _ => cases h
    | emp _ _ => cases h
  · cases h
    exact .inl ⟨xs, .inl (.inl h1), by rw [isEmpty_rp h2]⟩
  · cases h
def tru (w : W) (st : Sto) : Option Bool := (view st w).bind truD
theorem tru_okD {m : M} {H : Hp} {st : Sto} {v : V} {w : W} {k : Bool} (c : CO G m H st) (r : RpW G m H v w) (h : tru w st = some k) (hK : X.K = G.K) : TruV X.K v H k := by
  unfold tru at h
  obtain ⟨d, h1, h2⟩ := Option.bind_eq_some_iff.mp h
  exact truD_ok (view_ok c r h1) h2 hK
/-- a test by the value's truth -/
def tOf (f : Ex) : Tx := fun sl st => bnd (f sl st) fun w st1 => match tru w st1 with
  | some k => some (.ok k, st1)
  | none => none
theorem dt_truth (ha : DE G X E a fa) (he : ∀ whole, isTrue a X.env whole = (do let v ← whole; standAt a.pos; holding [v] (truthy v)) := by intro _; rfl) (hK : X.K = G.K := by rfl) : DT G X E a (tOf fa) := by
  refine PT.imp (pt_truth ha he) ?_
  rintro σ H Q ⟨m, sl, st, hs, hc, h⟩
  refine ⟨m, sl, st, hs, hc, aft_bnd h fun w st1 x H1 m1 e1 c1 r1 h1 => ?_⟩
  split at h1
  · rename_i k hk
    exact ⟨k, tru_okD c1 r1 hk hK, aft_ok h1 c1 rfl⟩
  · exact h1.elim
/-- a comparison as a test -/
def tCmp (g : D → D → Option D) (fa fb : Ex) : Tx := fun sl st => bnd (eOp g fa fb sl st) fun w st1 => match w with
  | .d (.bl k) => some (.ok k, st1)
  | _ => none
theorem rp_bl {m : M} {H : Hp} {v : V} {k : Bool} (r : Rp G m H v (.bl k)) : v = .bl k := by cases r; rfl
theorem dt_cmp {op : CmpOp} {g : D → D → Option D} (ho : OpP G X (compareOp op) g) (ha : DE G X E a fa) (hb : DE G X E b fb) (hm : behindInMarks op b = false) : DT G X E (.Compare a [op] [b] pos) (tCmp g fa fb) := by
  refine PT.imp (pt_cmpR ho ha hb hm) ?_
  rintro σ H Q ⟨m, sl, st, hs, hc, h⟩
  refine eOp_ok (E := E) (fun _ _ _ _ q => q) ⟨m, sl, st, hs, hc, aft_bnd h fun w st1 x H1 m1 e1 c1 r1 h1 => ?_⟩
  split at h1
  · rename_i k
    exact ⟨k, rp_bl r1, aft_ok h1 c1 rfl⟩
  · exact h1.elim
def tNotX (f : Tx) : Tx := fun sl st => bnd (f sl st) fun k st1 => some (.ok (!k), st1)
def tAndX (f g : Tx) : Tx := fun sl st => bnd (f sl st) fun k st1 => if k = true then g sl st1 else some (.ok false, st1)
def tOrX (f g : Tx) : Tx := fun sl st => bnd (f sl st) fun k st1 => if k = true then some (.ok true, st1) else g sl st1
variable {f g : Tx}
theorem dt_not (h : DT G X E a f) : DT G X E (.UnaryOp .Not a pos) (tNotX f) := by
  refine PT.imp (pt_not h) ?_
  rintro σ H Q ⟨m, sl, st, hs, hc, h⟩
  exact ⟨m, sl, st, hs, hc, aft_bnd h fun w st1 x H1 m1 e1 c1 r1 h1 => by cases r1; exact aft_ok h1 c1 rfl⟩
theorem dw_and1 (ha : DT G X E a f) : DW G X E (.BoolOp .And [a] pos) f := pw_and1 ha
theorem dw_or1 (ha : DT G X E a f) : DW G X E (.BoolOp .Or [a] pos) f := pw_or1 ha
theorem dw_and (ha : DT G X E a f) (hb : DW G X E (.BoolOp .And (b :: rest) pos) g) : DW G X E (.BoolOp .And (a :: b :: rest) pos) (tAndX f g) := by
  refine PW.imp (pw_and ha hb) ?_
  rintro σ H Q ⟨m, sl, st, hs, hc, h⟩
  refine ⟨m, sl, st, hs, hc, aft_bnd h fun w st1 x H1 m1 e1 c1 r1 h1 => ?_⟩
  cases r1
  cases w with
  | true => exact ⟨m1, sl, st1, hs.ext hc e1, c1, h1⟩
  | false => exact aft_ok (v := false) h1 c1 rfl
theorem dw_or (ha : DT G X E a f) (hb : DW G X E (.BoolOp .Or (b :: rest) pos) g) : DW G X E (.BoolOp .Or (a :: b :: rest) pos) (tOrX f g) := by
  refine PW.imp (pw_or ha hb) ?_
  rintro σ H Q ⟨m, sl, st, hs, hc, h⟩
  refine ⟨m, sl, st, hs, hc, aft_bnd h fun w st1 x H1 m1 e1 c1 r1 h1 => ?_⟩
  cases r1
  cases w with
  | true => exact aft_ok (v := true) h1 c1 rfl
  | false => exact ⟨m1, sl, st1, hs.ext hc e1, c1, h1⟩
theorem DW.dt (h : DW G X E a f) : DT G X E a f := h.pt
/-- a < b < c -/
def eChain (g g' : D → D → Option D) (fa fb fc : Ex) : Ex := fun sl st => bnd (fa sl st) fun w1 st1 => bnd (fb sl st1) fun w2 st2 => bnd (lift2 g w1 w2 st2) fun k st3 => match k with
  | .d (.bl b) => if b = true then bnd (fc sl st3) fun w3 st4 => lift2 g' w2 w3 st4 else some (.ok (.d (.bl false)), st3)
  | _ => none
theorem chain_ok {g g' : D → D → Option D} {σ : L2.St} {H : Hp} {Q : VK} (h : rE G E (eChain g g' fa fb fc) σ H Q) :
    tChain (fun x y H Q => ∃ m st d1 d2 d, CO G m H st ∧ RpX G m H x d1 ∧ RpX G m H y d2 ∧ g d1 d2 = some d ∧ Gives G m H d Q) (fun x y H Q => ∃ m st d1 d2 d, CO G m H st ∧ RpX G m H x d1 ∧ RpX G m H y d2 ∧ g' d1 d2 = some d ∧ Gives G m H d Q) (rE G E fa) (rE G E fb) (rE G E fc) σ H Q := by
  obtain ⟨m, sl, st, hs, hc, h⟩ := h
  refine ⟨m, sl, st, hs, hc, aft_bnd h fun w1 st1 x H1 m1 e1 c1 r1 h1 => ⟨m1, sl, st1, hs.ext hc e1, c1, aft_bnd h1 fun w2 st2 y H2 m2 e2 c2 r2 h2 => ?_⟩⟩
  refine lift2_ok (E' := WE E σ) c2 (RpW.ext c1 e2 r1) r2 (aft_bnd h2 fun k st3 z H3 m3 e3 c3 r3 h3 => ?_)
  have hs3 := (((hs.ext hc e1).ext c1 e2).ext c2 e3)
  split at h3
  · rename_i b
    cases b with
    | true => exact ⟨true, rp_bl r3, ⟨m3, sl, st3, hs3, c3, aft_bnd h3 fun w3 st4 u H4 m4 e4 c4 r4 h4 => lift2_ok c4 (RpW.ext c3 e4 (RpW.ext c2 e3 r2)) r4 h4⟩⟩
    | false => exact ⟨false, rp_bl r3, by rw [if_neg (by decide)]; exact aft_ok (v := .bl false) h3 c3 (rpd (.bl false))⟩
  · exact h3.elim
theorem de_chain {op op' : CmpOp} {g g' : D → D → Option D} (ho : OpP G X (compareOp op) g) (ho' : OpP G X (compareOp op') g') (ha : DE G X E a fa) (hb : DE G X E b fb) (hc : DE G X E c fc)
    (hm : lastMarks [op, op'] [b, c] = false := by with_unfolding_all rfl) : DE G X E (.Compare a [op, op'] [b, c] pos) (eChain g g' fa fb fc) := PE.imp (pe_chain ho ho' ha hb hc hm) fun σ H Q h => chain_ok h
def tBl (f : Ex) : Tx := fun sl st => bnd (f sl st) fun w st1 => match w with
  | .d (.bl k) => some (.ok k, st1)
  | _ => none
theorem dt_chain {op op' : CmpOp} {g g' : D → D → Option D} (ho : OpP G X (compareOp op) g) (ho' : OpP G X (compareOp op') g') (ha : DE G X E a fa) (hb : DE G X E b fb) (hc : DE G X E c fc)
    (hm : lastMarks [op, op'] [b, c] = false := by with_unfolding_all rfl) : DT G X E (.Compare a [op, op'] [b, c] pos) (tBl (eChain g g' fa fb fc)) := by
  refine PT.imp (pt_chain ho ho' ha hb hc hm) ?_
  rintro σ H Q ⟨m, sl, st, hs, hc, h⟩
  refine chain_ok (E := E) ⟨m, sl, st, hs, hc, aft_bnd h fun w st1 x H1 m1 e1 c1 r1 h1 => ?_⟩
  split at h1
  · rename_i k
    exact ⟨k, rp_bl r1, aft_ok h1 c1 rfl⟩
  · exact h1.elim
/-- an expression whose value is a bool -/
theorem dt_val (h : DE G X E e fa) (he : ∀ whole, isTrue e X.env whole = (do let v ← whole; standAt e.pos; holding [v] (truthy v)) := by intro _; rfl) : DT G X E e (tBl fa) := by
  refine PT.imp (pt_val h he) ?_
  rintro σ H Q ⟨m, sl, st, hs, hc, h⟩
  refine ⟨m, sl, st, hs, hc, aft_bnd h fun w st1 x H1 m1 e1 c1 r1 h1 => ?_⟩
  split at h1
  · rename_i k
    exact ⟨k, rp_bl r1, aft_ok h1 c1 rfl⟩
  · exact h1.elim
/-! ### and, or, not, if as values -/
def eAnd (f g : Ex) : Ex := fun sl st => bnd (f sl st) fun w st1 => match tru w st1 with
  | some b => if b = true then g sl st1 else some (.ok w, st1)
  | none => none
def eOr (f g : Ex) : Ex := fun sl st => bnd (f sl st) fun w st1 => match tru w st1 with
  | some b => if b = true then some (.ok w, st1) else g sl st1
  | none => none
def eNot (f : Ex) : Ex := fun sl st => bnd (f sl st) fun w st1 => match tru w st1 with
  | some k => some (.ok (.d (.bl (!k))), st1)
  | none => none
def eIf (c : Tx) (f g : Ex) : Ex := fun sl st => bnd (c sl st) fun k st1 => if k = true then f sl st1 else g sl st1
theorem de_and (ha : DE G X E a fa) (hb : DE G X E (.BoolOp .And (b :: rest) pos) fb) (hK : X.K = G.K := by rfl) : DE G X E (.BoolOp .And (a :: b :: rest) pos) (eAnd fa fb) := by
  refine PE.imp (pe_andT ha hb) ?_
  rintro σ H Q ⟨m, sl, st, hs, hc, h⟩
  refine ⟨m, sl, st, hs, hc, aft_bnd h fun w st1 x H1 m1 e1 c1 r1 h1 => ?_⟩
  split at h1
  · rename_i b hk
    cases b with
    | true => exact ⟨true, tru_okD c1 r1 hk hK, ⟨m1, sl, st1, hs.ext hc e1, c1, h1⟩⟩
    | false => exact ⟨false, tru_okD c1 r1 hk hK, aft_ok h1 c1 r1⟩
  · exact h1.elim
theorem de_or (ha : DE G X E a fa) (hb : DE G X E (.BoolOp .Or (b :: rest) pos) fb) (hK : X.K = G.K := by rfl) : DE G X E (.BoolOp .Or (a :: b :: rest) pos) (eOr fa fb) := by
  refine PE.imp (pe_orT ha hb) ?_
  rintro σ H Q ⟨m, sl, st, hs, hc, h⟩
  refine ⟨m, sl, st, hs, hc, aft_bnd h fun w st1 x H1 m1 e1 c1 r1 h1 => ?_⟩
  split at h1
  · rename_i b hk
    cases b with
    | true => exact ⟨true, tru_okD c1 r1 hk hK, aft_ok h1 c1 r1⟩
    | false => exact ⟨false, tru_okD c1 r1 hk hK, ⟨m1, sl, st1, hs.ext hc e1, c1, h1⟩⟩
  · exact h1.elim
theorem de_not (ha : DE G X E a fa) (hK : X.K = G.K := by rfl) : DE G X E (.UnaryOp .Not a pos) (eNot fa) := by
  refine PE.imp (pe_notT ha) ?_
  rintro σ H Q ⟨m, sl, st, hs, hc, h⟩
  refine ⟨m, sl, st, hs, hc, aft_bnd h fun w st1 x H1 m1 e1 c1 r1 h1 => ?_⟩
  split at h1
  · rename_i k hk
    exact ⟨k, tru_okD c1 r1 hk hK, aft_ok (v := .bl (!k)) h1 c1 (rpd (.bl _))⟩
  · exact h1.elim
theorem de_if {t : Tx} (hc : DT G X E c t) (ha : DE G X E a fa) (hb : DE G X E b fb) : DE G X E (.IfExp c a b pos) (eIf t fa fb) := by
  refine PE.imp (pe_ifExp hc ha hb) ?_
  rintro σ H Q ⟨m, sl, st, hs, hc, h⟩
  refine ⟨m, sl, st, hs, hc, aft_bnd h fun w st1 x H1 m1 e1 c1 r1 h1 => ?_⟩
  cases r1
  cases w with
  | true => exact ⟨m1, sl, st1, hs.ext hc e1, c1, h1⟩
  | false => exact ⟨m1, sl, st1, hs.ext hc e1, c1, h1⟩
/-! ### slices -/
def prt (w : W) : Option Int := match w with
  | .d (.int i) => some i
  | _ => none
abbrev Px := Slo → Sto → R (Option Int)
def pNone : Px := fun _ st => some (.ok none, st)
def pSome (f : Ex) : Px := fun sl st => bnd (f sl st) fun w st1 => match w with
  | .d (.int i) => some (.ok (some i), st1)
  | _ => none
abbrev relO : M → Hp → Option Int → Option Int → Prop := fun _ _ v w => v = w
def rP (G : Gx) (E : WX) (f : Px) : TO := fun σ H Q => ∃ m sl st, SL G m H σ sl ∧ CO G m H st ∧ aft G (WE E σ) relO m H (f sl st) Q
theorem PO.imp {X : Cx} {e : Option Expr} {t t' : TO} (h : PO X e t) (hi : ∀ σ H Q, t' σ H Q → t σ H Q) : PO X e t' := ⟨fun pins s σ H Q I q => h.run pins s σ H Q I (hi σ H Q q)⟩
theorem dp_none : PO X none (rP G E pNone) := by
  refine PO.imp po_none ?_
  rintro σ H Q ⟨m, sl, st, hs, hc, h⟩
  exact aft_ok h hc rfl
theorem dp_some (h : DE G X E e fa) : PO X (some e) (rP G E (pSome fa)) := by
  refine PO.imp (po_some h) ?_
  rintro σ H Q ⟨m, sl, st, hs, hc, h⟩
  refine ⟨m, sl, st, hs, hc, aft_bnd h fun w st1 x H1 m1 e1 c1 r1 h1 => ?_⟩
  split at h1
  · rename_i i
    cases r1
    exact ⟨i, rfl, aft_ok h1 c1 rfl⟩
  · exact h1.elim
def eSl (g : D → Option Int → Option Int → Option D) (fa : Ex) (fl fh : Px) : Ex := fun sl st => bnd (fa sl st) fun w st1 => bnd (fl sl st1) fun l st2 => bnd (fh sl st2) fun u st3 => match viewL st3 w with
  | some d => pr st3 (g d l u)
  | none => none
theorem de_slice {g : D → Option Int → Option Int → Option D} {lo hi : Option Expr} {fl fh : Px} {p2 : Pos} (hr : SlP G X g) (he : DE G X E e fa) (hl : PO X lo (rP G E fl)) (hu : PO X hi (rP G E fh)) : DE G X E (.Subscript e (.Slice lo hi none p2) pos) (eSl g fa fl fh) := by
  refine PE.imp (pe_slice hr he hl hu) ?_
  rintro σ H Q ⟨m, sl, st, hs, hc, h⟩
  refine ⟨m, sl, st, hs, hc, aft_bnd h fun w st1 x H1 m1 e1 c1 r1 h1 => ⟨m1, sl, st1, hs.ext hc e1, c1, aft_bnd h1 fun l st2 l' H2 m2 e2 c2 r2 h2 => ?_⟩⟩
  cases r2
  have hs2 := (hs.ext hc e1).ext c1 e2
  refine ⟨m2, sl, st2, hs2, c2, aft_bnd h2 fun u st3 u' H3 m3 e3 c3 r3 h3 => ?_⟩
  cases r3
  split at h3
  · rename_i d hd
    obtain ⟨d', e4, q⟩ := aft_pr c3 h3
    exact ⟨m3, st3, d, d', c3, viewL_ok c3 (RpW.ext c2 e3 (RpW.ext c1 e2 r1)) hd, e4, q⟩
  · exact h3.elim
end
end Dn

namespace Dn
open PySem PySem.Spec PyProof.Rows L2 Ft LamX
inductive Fl where
  | nx | rt (w : W) | bk | ct | ex (c : Str) (fs : List (Str × D))
abbrev RS := Option (Fl × Slo × Sto)
abbrev Sm := Slo → Sto → RS
def aftS (G : Gx) (E : WX) (Z : Ends) (m : M) (H : Hp) (r : RS) : Prop :=
  match r with
  | none => False
  | some (.nx, sl, st) => ∀ σ H' m', Ext m H m' H' → SL G m' H' σ sl → CO G m' H' st → Z.nx σ H'
  | some (.bk, sl, st) => ∀ σ H' m', Ext m H m' H' → SL G m' H' σ sl → CO G m' H' st → Z.bk σ H'
  | some (.ct, sl, st) => ∀ σ H' m', Ext m H m' H' → SL G m' H' σ sl → CO G m' H' st → Z.ct σ H'
  | some (.rt w, _, st) => ∀ v H' m', Ext m H m' H' → CO G m' H' st → RpW G m' H' v w → Z.rt v H'
  | some (.ex c fs, sl, st) => ∀ σ H' m' C d gs, Ext m H m' H' → SL G m' H' σ sl → CO G m' H' st → G.mg c = some (.ref C) → H' d = some (.xd gs) → RpF G m' H' gs fs → E (.ref C) (some d) σ H'
def rS (G : Gx) (E : WX) (f : Sm) : TS := fun Z σ H => ∃ m sl st, SL G m H σ sl ∧ CO G m H st ∧ aftS G E Z m H (f sl st)
abbrev DS (G : Gx) (X : Cx) (E : WX) (s : Stmt) (f : Sm) : Prop := PS X s (rS G E f)
abbrev DSs (G : Gx) (X : Cx) (E : WX) (s : List Stmt) (f : Sm) : Prop := PSs X s (rS G E f)
/-- an expression's run inside a statement -/
def stm {α : Type} (r : R α) (sl : Slo) (k : α → Sto → RS) : RS :=
  match r with
  | none => none
  | some (.exc c fs, st) => some (.ex c fs, sl, st)
  | some (.ok a, st) => k a st
@[simp] theorem stm_none {α : Type} (sl : Slo) (k : α → Sto → RS) : stm none sl k = none := rfl
@[simp] theorem stm_ok {α : Type} (a : α) (st : Sto) (sl : Slo) (k : α → Sto → RS) : stm (some (.ok a, st)) sl k = k a st := rfl
@[simp] theorem stm_exc {α : Type} (c : Str) (fs : List (Str × D)) (st : Sto) (sl : Slo) (k : α → Sto → RS) : stm (some (.exc c fs, st)) sl k = some (.ex c fs, sl, st) := rfl
section
variable {G : Gx} {X : Cx} {E : WX} {Z : Ends} {m m1 : M} {H H1 : Hp} {α ν : Type} {rel : M → Hp → ν → α → Prop}
theorem aftS.ext {r : RS} (e : Ext m H m1 H1) (h : aftS G E Z m H r) : aftS G E Z m1 H1 r := by
  match r, h with
  | some (.nx, sl, st), h => exact fun σ H' m' e' => h σ H' m' (e.trans e')
  | some (.bk, sl, st), h => exact fun σ H' m' e' => h σ H' m' (e.trans e')
  | some (.ct, sl, st), h => exact fun σ H' m' e' => h σ H' m' (e.trans e')
  | some (.rt w, sl, st), h => exact fun v H' m' e' => h v H' m' (e.trans e')
  | some (.ex c fs, sl, st), h => exact fun σ H' m' C d gs e' => h σ H' m' C d gs (e.trans e')
theorem aftS_stm {r : R α} {σ : L2.St} {sl : Slo} {st0 : Sto} {k : α → Sto → RS} {Q' : ν → Hp → Prop} (hs : SL G m H σ sl) (hc : CO G m H st0) (h : aftS G E Z m H (stm r sl k))
    (hk : ∀ w st1 v H1 m1, Ext m H m1 H1 → CO G m1 H1 st1 → rel m1 H1 v w → aftS G E Z m1 H1 (k w st1) → Q' v H1) : aft G (WE E σ) rel m H r Q' := by
  match r, h with
  | some (.ok w, st), h => exact fun v H' m' e' c' r' => hk w st v H' m' e' c' r' (aftS.ext e' h)
  | some (.exc c fs, st), h => exact fun C d gs H' m' e' c' g d' f' => h σ H' m' C d gs e' (hs.ext hc e') c' g d' f'
theorem aftS_nx {sl : Slo} {st : Sto} {σ : L2.St} (h : aftS G E Z m H (some (.nx, sl, st))) (s : SL G m H σ sl) (c : CO G m H st) : Z.nx σ H := h σ H m .refl s c
theorem aftS_rt {w : W} {sl : Slo} {st : Sto} {v : V} (h : aftS G E Z m H (some (.rt w, sl, st))) (c : CO G m H st) (r : RpW G m H v w) : Z.rt v H := h v H m .refl c r
/-- the ends exchanged -/
def fall (r : RS) (g : Slo → Sto → RS) : RS := match r with
  | some (.nx, sl, st) => g sl st
  | r => r
theorem aftS_fall {r : RS} {g : Sm} {N : L2.St → Hp → Prop} (h : aftS G E Z m H (fall r g)) (hn : ∀ sl st σ H' m', Ext m H m' H' → SL G m' H' σ sl → CO G m' H' st → aftS G E Z m' H' (g sl st) → N σ H') : aftS G E { Z with nx := N } m H r := by
  match r, h with
  | some (.nx, sl, st), h => exact fun σ H' m' e s c => hn sl st σ H' m' e s c (aftS.ext e h)
  | some (.bk, sl, st), h => exact h
  | some (.ct, sl, st), h => exact h
  | some (.rt w, sl, st), h => exact h
  | some (.ex c fs, sl, st), h => exact h
def sSkip : Sm := fun sl st => some (.nx, sl, st)
def sSeq (f g : Sm) : Sm := fun sl st => fall (f sl st) g
def sBreak : Sm := fun sl st => some (.bk, sl, st)
def sCont : Sm := fun sl st => some (.ct, sl, st)
def sExpr (f : Ex) : Sm := fun sl st => stm (f sl st) sl fun _ st1 => some (.nx, sl, st1)
def sRet (f : Ex) : Sm := fun sl st => stm (f sl st) sl fun w st1 => some (.rt w, sl, st1)
def sRetN : Sm := fun sl st => some (.rt (.d .non), sl, st)
def sIf (c : Tx) (f g : Sm) : Sm := fun sl st => stm (c sl st) sl fun k st1 => if k = true then f sl st1 else g sl st1
def sSet (i : Nat) (f : Ex) : Sm := fun sl st => stm (f sl st) sl fun w st1 => some (.nx, sl.set i (some w), st1)
def sPar (i j : Nat) (f : Ax) : Sm := fun sl st => stm (f sl st) sl fun ws st1 => match ws with
  | [a, b] => some (.nx, (sl.set i (some a)).set j (some b), st1)
  | _ => none
def sNever : Sm := fun _ _ => none
variable {st : Stmt} {rest : List Stmt} {f g : Sm} {fe : Ex} {fr : Ax} {e : Expr} {pos : Pos}
theorem dss_nil : DSs G X E [] sSkip := by
  refine PSs.imp pss_nil ?_
  rintro D σ H ⟨m, sl, st, hs, hc, h⟩
  exact aftS_nx h hs hc
theorem dss_cons (h1 : DS G X E st f) (h2 : DSs G X E rest g) : DSs G X E (st :: rest) (sSeq f g) := by
  refine PSs.imp (pss_cons h1 h2) ?_
  rintro D σ H ⟨m, sl, st, hs, hc, h⟩
  exact ⟨m, sl, st, hs, hc, aftS_fall h fun sl' st' σ' H' m' e s c q => ⟨m', sl', st', s, c, q⟩⟩
theorem dss_one (h1 : DS G X E st f) : DSs G X E [st] f := pss_one h1
theorem ds_pass : DS G X E (.Pass pos) sSkip := by
  refine PS.imp ps_pass ?_
  rintro D σ H ⟨m, sl, st, hs, hc, h⟩
  exact aftS_nx h hs hc
theorem ds_break : DS G X E (.Break pos) sBreak := by
  refine PS.imp ps_break ?_
  rintro D σ H ⟨m, sl, st, hs, hc, h⟩
  exact h σ H m .refl hs hc
theorem ds_continue : DS G X E (.Continue pos) sCont := by
  refine PS.imp ps_continue ?_
  rintro D σ H ⟨m, sl, st, hs, hc, h⟩
  exact h σ H m .refl hs hc
theorem ds_doc {x j pos pos'} : DS G X E (.Expr (.Constant (.str x) j pos) pos') sSkip := by
  refine PS.imp ps_doc ?_
  rintro D σ H ⟨m, sl, st, hs, hc, h⟩
  exact aftS_nx h hs hc
theorem ds_never : DS G X E st sNever := ⟨fun _ _ _ _ _ _ ⟨_, _, _, _, _, h⟩ => h.elim⟩
theorem dss_never {sts : List Stmt} : DSs G X E sts sNever := ⟨fun _ _ _ _ _ _ ⟨_, _, _, _, _, h⟩ => h.elim⟩
theorem ds_expr (he : DE G X E e fe) (hs : swapsWith e none pos.line X.env = pure false := by rfl) : DS G X E (.Expr e pos) (sExpr fe) := by
  refine PS.imp (ps_expr he hs) ?_
  rintro D σ H ⟨m, sl, st, hs, hc, h⟩
  exact ⟨m, sl, st, hs, hc, aftS_stm hs hc h fun w st1 v H1 m1 e1 c1 r1 h1 => aftS_nx h1 (hs.ext hc e1) c1⟩
theorem ds_ret (he : DE G X E e fe) : DS G X E (.Return (some e) pos) (sRet fe) := by
  refine PS.imp (ps_ret he) ?_
  rintro D σ H ⟨m, sl, st, hs, hc, h⟩
  exact ⟨m, sl, st, hs, hc, aftS_stm hs hc h fun w st1 v H1 m1 e1 c1 r1 h1 => aftS_rt h1 c1 r1⟩
theorem ds_retN : DS G X E (.Return none pos) sRetN := by
  refine PS.imp ps_retN ?_
  rintro D σ H ⟨m, sl, st, hs, hc, h⟩
  exact aftS_rt (v := .non) h hc (rpd .non)
theorem ds_if {c : Expr} {a b : List Stmt} {tc : Tx} (hc : DT G X E c tc) (ha : DSs G X E a f) (hb : DSs G X E b g) : DS G X E (.If c a b pos) (sIf tc f g) := by
  refine PS.imp (ps_if hc ha hb) ?_
  rintro D σ H ⟨m, sl, st, hs, hc, h⟩
  refine ⟨m, sl, st, hs, hc, aftS_stm hs hc h fun w st1 v H1 m1 e1 c1 r1 h1 => ?_⟩
  cases r1
  cases w with
  | true => exact ⟨m1, sl, st1, hs.ext hc e1, c1, h1⟩
  | false => exact ⟨m1, sl, st1, hs.ext hc e1, c1, h1⟩
theorem asg_name {i : Nat} {D : Ends} {σ : L2.St} {H : Hp} (h : rS G E (sSet i fe) D σ H) : tAsg (rE G E fe) (gName i) D σ H := by
  obtain ⟨m, sl, st, hs, hc, h⟩ := h
  exact ⟨m, sl, st, hs, hc, aftS_stm hs hc h fun w st1 v H1 m1 e1 c1 r1 h1 => aftS_nx h1 ((hs.ext hc e1).set r1) c1⟩
theorem ds_set {i : Nat} {x : Str} {pos' : Pos} (hN : X.N.Nodup) (hi : X.N[i]? = some x) (hx : Loc X.env.scope x) (he : DE G X E e fe) (hs : swapsWith e (some (.Name x pos')) pos.line X.env = pure false := by rfl)
    (hf : X.fn x = true ∨ X.env.scope.names.lookup x = some .local := by first | exact .inl rfl | exact .inr rfl | assumption) : DS G X E (.Assign [.Name x pos'] e pos) (sSet i fe) :=
  PS.imp (ps_set hN hi hx he hs hf) fun D σ H h => asg_name h
theorem ds_par {i j : Nat} {x y : Str} {a b : Expr} {px py pt : Pos} {kt k2 pt2} (hc : X.calm = true) (hN : X.N.Nodup) (hi : X.N[i]? = some x) (hj : X.N[j]? = some y) (hij : i ≠ j)
    (hx : X.env.scope.names.lookup x = some .local) (hy : X.env.scope.names.lookup y = some .local) (ha : DA G X E [a, b] fr)
    (hw : swappedStores [.Tuple [.Name x px, .Name y py] kt pt] (.Tuple [a, b] k2 pt2) X.env = pure (some [x, y]))
    (hs : swapsWithSole [.Tuple [.Name x px, .Name y py] kt pt] (.Tuple [a, b] k2 pt2) pos.line X.env = pure false := by rfl) :
    DS G X E (.Assign [.Tuple [.Name x px, .Name y py] kt pt] (.Tuple [a, b] k2 pt2) pos) (sPar i j fr) := by
  refine PS.imp (ps_par hc hN hi hj hij hx hy ha hw hs) ?_
  rintro D σ H ⟨m, sl, st, hs, hc, h⟩
  refine ⟨m, sl, st, hs, hc, aftS_stm hs hc h fun ws st1 vs H1 m1 e1 c1 r1 h1 => ?_⟩
  split at h1
  · rename_i a b
    cases r1 with
    | @cons v1 vr _ _ q1 r2 =>
      cases r2 with
      | @cons v2 _ _ _ q2 r3 =>
        cases r3
        exact ⟨v1, v2, rfl, aftS_nx h1 (((hs.ext hc e1).set q1).set q2) c1⟩
  · exact h1.elim
/-! ### targets -/
abbrev Tg := W → Slo → Option Slo
/-- the slots agree but at vs -/
def Off (vs : List Nat) (σ σ' : L2.St) : Prop := σ'.length = σ.length ∧ ∀ j, j ∉ vs → σ'[j]? = σ[j]?
def rG (G : Gx) (vs : List Nat) (g : Tg) : TG := fun v σ H Q => ∃ m sl st w sl', SL G m H σ sl ∧ CO G m H st ∧ RpW G m H v w ∧ g w sl = some sl' ∧ ∀ σ', SL G m H σ' sl' → Off vs σ σ' → Q σ' H
abbrev DG (G : Gx) (X : Cx) (e : Expr) (vs : List Nat) (g : Tg) : Prop := PG X e (rG G vs g)
theorem PG.imp {X : Cx} {e : Expr} {t t' : TG} (h : PG X e t) (hi : ∀ v σ H Q, t' v σ H Q → t v σ H Q) : PG X e t' := ⟨fun pins s σ H v u Q I r q => h.run pins s σ H v u Q I r (hi v σ H Q q)⟩
theorem PGs.imp {X : Cx} {e : List Expr} {t t' : TGs} (h : PGs X e t) (hi : ∀ v σ H Q, t' v σ H Q → t v σ H Q) : PGs X e t' := ⟨fun pins s σ H v u Q I r q => h.run pins s σ H v u Q I r (hi v σ H Q q)⟩
def gN (i : Nat) : Tg := fun w sl => some (sl.set i (some w))
theorem dg_name {i : Nat} {x : Str} (hN : X.N.Nodup) (hi : X.N[i]? = some x) (hx : Loc X.env.scope x) (hf : X.fn x = true ∨ X.env.scope.names.lookup x = some .local := by first | exact .inl rfl | exact .inr rfl | assumption) : DG G X (.Name x pos) [i] (gN i) := by
  refine PG.imp (pg_name hN hi hx hf) ?_
  rintro v σ H Q ⟨m, sl, st, w, sl', hs, hc, r, e, h⟩
  cases e
  exact h _ (hs.set r) ⟨List.length_set, fun j hj => List.getElem?_set_ne fun z => hj (by rw [z]; exact List.mem_singleton.mpr rfl)⟩
abbrev Tgs := List D → Slo → Option Slo
def rGs (G : Gx) (vs : List Nat) (g : Tgs) : TGs := fun us σ H Q => ∃ m sl st ds sl', SL G m H σ sl ∧ CO G m H st ∧ RpA G m H us ds ∧ g ds sl = some sl' ∧ ∀ σ', SL G m H σ' sl' → Off vs σ σ' → Q σ' H
def gsNil : Tgs := fun ds sl => match ds with
  | [] => some sl
  | _ => none
def gsCons (g : Tg) (r : Tgs) : Tgs := fun ds sl => match ds with
  | d :: ds => (g (.d d) sl).bind fun sl1 => r ds sl1
  | [] => none
def gT (r : Tgs) : Tg := fun w sl => match w with
  | .d (.tup ds) => r ds sl
  | _ => none
theorem dgs_nil : PGs X [] (rGs G [] gsNil) := by
  refine PGs.imp pgs_nil ?_
  rintro vs σ H Q ⟨m, sl, st, ds, sl', hs, hc, r, e, h⟩
  cases r with
  | nil => cases e; exact ⟨rfl, h _ hs ⟨rfl, fun _ _ => rfl⟩⟩
  | cons _ _ => cases e
theorem dgs_cons {es : List Expr} {g1 : Tg} {gr : Tgs} {v1 v2 : List Nat} (h1 : DG G X e v1 g1) (h2 : PGs X es (rGs G v2 gr)) (hs : (assignEach (e :: es) X.env).map (·.2) = assign e X.env :: (assignEach es X.env).map (·.2) := by rfl) : PGs X (e :: es) (rGs G (v1 ++ v2) (gsCons g1 gr)) := by
  refine PGs.imp (pgs_cons h1 h2 hs) ?_
  rintro vs σ H Q ⟨m, sl, st, ds, sl', hs, hc, r, e, h⟩
  cases r with
  | nil => cases e
  | @cons v vs d ds r1 r2 =>
    obtain ⟨sl1, e1, e2⟩ := Option.bind_eq_some_iff.mp e
    refine ⟨v, vs, rfl, m, sl, st, .d d, sl1, hs, hc, r1, e1, fun σ1 hs1 o1 => ⟨m, sl1, st, ds, sl', hs1, hc, r2, e2, fun σ2 hs2 o2 => h σ2 hs2 ⟨o2.1.trans o1.1, fun j hj => ?_⟩⟩⟩
    rw [o2.2 j fun z => hj (List.mem_append_right _ z), o1.2 j fun z => hj (List.mem_append_left _ z)]
theorem gs_len {g : Tgs} {k : Nat} (hk : ∀ ds sl sl', g ds sl = some sl' → ds.length = k) {g1 : Tg} : ∀ ds sl sl', gsCons g1 g ds sl = some sl' → ds.length = k + 1 := by
  intro ds sl sl' h
  cases ds with
  | nil => cases h
  | cons d ds =>
    obtain ⟨sl1, e1, e2⟩ := Option.bind_eq_some_iff.mp h
    rw [List.length_cons, hk _ _ _ e2]
theorem gs_len0 : ∀ ds sl sl', gsNil ds sl = some sl' → ds.length = 0 := by
  intro ds sl sl' h
  cases ds with
  | nil => rfl
  | cons d ds => cases h
theorem dg_tup {es : List Expr} {k : Nat} {gr : Tgs} {n : Nat} {vs : List Nat} (hc : X.calm = true) (h : PGs X es (rGs G vs gr)) (hlen : ∀ ds sl sl', gr ds sl = some sl' → ds.length = n)
    (hn : (assignEach es X.env).length = n := by rfl) (hst : (assignEach es X.env).findIdx? (·.1) = none := by rfl) : DG G X (.Tuple es k pos) vs (gT gr) := by
  refine PG.imp (pg_tup hc h hn hst) ?_
  rintro v σ H Q ⟨m, sl, st, w, sl', hs, hc, r, e, h⟩
  unfold gT at e
  split at e
  · rename_i ds
    cases r with
    | @tup a xs _ _ e1 r1 => exact ⟨a, xs, rfl, .inl (.inl e1), r1.len.trans (hlen _ _ _ e), m, sl, st, ds, sl', hs, hc, r1, e, h⟩
  · cases e
/-- target = e -/
def sAsg (g : Tg) (f : Ex) : Sm := fun sl st => stm (f sl st) sl fun w st1 => match g w sl with
  | some sl1 => some (.nx, sl1, st1)
  | none => none
theorem ds_asg {tg e : Expr} {gt : Tg} {vs : List Nat} (he : DE G X E e fe) (hg : DG G X tg vs gt) (hs : swapsWithSole [tg] e pos.line X.env = pure false := by rfl) (hw : swappedStores [tg] e X.env = pure none := by rfl)
    (h1 : (assignEach [tg] X.env).map (·.2) = [assign tg X.env] := by rfl) : DS G X E (.Assign [tg] e pos) (sAsg gt fe) := by
  refine PS.imp (ps_asg he hg hs hw h1) ?_
  rintro D σ H ⟨m, sl, st, hs, hc, h⟩
  refine ⟨m, sl, st, hs, hc, aftS_stm hs hc h fun w st1 v H1 m1 e1 c1 r1 h1 => ?_⟩
  split at h1
  · rename_i sl1 e2
    exact ⟨m1, sl, st1, w, sl1, hs.ext hc e1, c1, r1, e2, fun σ' hs' _ => aftS_nx h1 hs' c1⟩
  · exact h1.elim
/-! ### while -/
def lop (r : RS) (g : Slo → Sto → RS) : RS := match r with
  | some (.nx, sl, st) => g sl st
  | some (.ct, sl, st) => g sl st
  | some (.bk, sl, st) => some (.nx, sl, st)
  | r => r
theorem aftS_lop {r : RS} {g : Sm} {N : L2.St → Hp → Prop} (h : aftS G E Z m H (lop r g)) (hn : ∀ sl st σ H' m', Ext m H m' H' → SL G m' H' σ sl → CO G m' H' st → aftS G E Z m' H' (g sl st) → N σ H') : aftS G E { Z with nx := N, ct := N, bk := Z.nx } m H r := by
  match r, h with
  | some (.nx, sl, st), h => exact fun σ H' m' e s c => hn sl st σ H' m' e s c (aftS.ext e h)
  | some (.ct, sl, st), h => exact fun σ H' m' e s c => hn sl st σ H' m' e s c (aftS.ext e h)
  | some (.bk, sl, st), h => exact h
  | some (.rt w, sl, st), h => exact h
  | some (.ex c fs, sl, st), h => exact h
def whF (c : Tx) (body : Sm) : Nat → Sm
  | 0 => fun _ _ => none
  | n + 1 => fun sl st => stm (c sl st) sl fun k st1 => if k = true then lop (body sl st1) (whF c body n) else some (.nx, sl, st1)
theorem whF_succ {c : Tx} {body : Sm} {n : Nat} {sl : Slo} {st : Sto} : whF c body (n + 1) sl st = stm (c sl st) sl fun k st1 => if k = true then lop (body sl st1) (whF c body n) else some (.nx, sl, st1) := rfl
theorem whF_mono {c : Tx} {body : Sm} {r : Fl × Slo × Sto} : ∀ {n : Nat} {sl : Slo} {st : Sto}, whF c body n sl st = some r → whF c body (n + 1) sl st = some r
  | 0, _, _, h => by cases h
  | n + 1, sl, st, h => by
    rw [whF_succ] at h ⊢
    match hc : c sl st with
    | none => rw [hc] at h; cases h
    | some (.exc c fs, st1) => rw [hc] at h; exact h
    | some (.ok k, st1) =>
      rw [hc] at h
      simp only [stm_ok] at h ⊢
      cases k with
      | false => exact h
      | true =>
        simp only [if_true] at h ⊢
        match hb : body sl st1 with
        | none => rw [hb] at h; cases h
        | some (.nx, sl2, st2) => rw [hb] at h; exact whF_mono (n := n) h
        | some (.ct, sl2, st2) => rw [hb] at h; exact whF_mono (n := n) h
        | some (.bk, sl2, st2) => rw [hb] at h; exact h
        | some (.rt w, sl2, st2) => rw [hb] at h; exact h
        | some (.ex c fs, sl2, st2) => rw [hb] at h; exact h
theorem whF_le {c : Tx} {body : Sm} {r : Fl × Slo × Sto} {n k : Nat} {sl : Slo} {st : Sto} (h : whF c body n sl st = some r) : whF c body (n + k) sl st = some r := by
  induction k with
  | zero => exact h
  | succ k ih => exact whF_mono ih
open Classical in
noncomputable def sWhile (c : Tx) (body : Sm) : Sm := fun sl st => if h : ∃ n r, whF c body n sl st = some r then whF c body h.choose sl st else none
theorem sWhile_of {c : Tx} {body : Sm} {r : Fl × Slo × Sto} {n : Nat} {sl : Slo} {st : Sto} (h : whF c body n sl st = some r) : sWhile c body sl st = some r := by
  have ex : ∃ n r, whF c body n sl st = some r := ⟨n, r, h⟩
  unfold sWhile
  rw [dif_pos ex]
  obtain ⟨r', h'⟩ := ex.choose_spec
  have e1 := whF_le (k := ex.choose) h
  have e2 := whF_le (k := n) h'
  rw [Nat.add_comm] at e2
  rw [e1] at e2
  rw [h', ← e2]
theorem sWhile_is {c : Tx} {body : Sm} {sl : Slo} {st : Sto} (h : aftS G E Z m H (sWhile c body sl st)) : ∃ n, aftS G E Z m H (whF c body n sl st) := by
  unfold sWhile at h
  split at h
  · exact ⟨_, h⟩
  · exact h.elim
theorem ds_while {c : Expr} {body : List Stmt} {tc : Tx} {tb : Sm} (hp : PassesOwn (model X.prog X.w) X.A X.env X.xe) (hc : DT G X E c tc) (hb : DSs G X E body tb) : DS G X E (.While c body [] pos) (sWhile tc tb) := by
  refine PS.imp (ps_while hp hc hb) ?_
  rintro D σ H ⟨m, sl, st, hs, hc, h⟩
  obtain ⟨n, h⟩ := sWhile_is h
  refine ⟨fun n σ H => ∃ m sl st, SL G m H σ sl ∧ CO G m H st ∧ aftS G E D m H (whF tc tb n sl st), ⟨n, m, sl, st, hs, hc, h⟩, ?_⟩
  rintro n σ H ⟨m, sl, st, hs, hc, h⟩
  cases n with
  | zero => exact h.elim
  | succ n =>
    refine ⟨m, sl, st, hs, hc, aftS_stm hs hc h fun w st1 v H1 m1 e1 c1 r1 h1 => ?_⟩
    cases r1
    cases w with
    | false => exact aftS_nx h1 (hs.ext hc e1) c1
    | true =>
      rw [if_pos rfl] at h1 ⊢
      exact ⟨fun σ H => ∃ m sl st, SL G m H σ sl ∧ CO G m H st ∧ aftS G E D m H (whF tc tb n sl st), fun σ' H' q => ⟨n, Nat.lt_succ_self n, q⟩, m1, sl, st1, hs.ext hc e1, c1, aftS_lop h1 fun sl' st' σ' H' m' e s c q => ⟨m', sl', st', s, c, q⟩⟩
/-! ### for -/
def chkOk : Option (Nat × List D) → Sto → Prop
  | none, _ => True
  | some (n, ds), st => st[n]? = some (.lst ds)
def Walks (G : Gx) (J : It) (m : M) (H : Hp) (items : List D) (chk : Option (Nat × List D)) : Prop :=
  ∀ m' H' st' i, Ext m H m' H' → CO G m' H' st' → chkOk chk st' → (items.length = i → J.stop i H') ∧ ∀ d, items[i]? = some d → J.go i H' ∧ ∀ x H'', J.yld i H' x H'' → Same H' H'' ∧ Rp G m' H'' x d
abbrev Ix := Slo → Sto → R (List D × Option (Nat × List D))
abbrev relI (G : Gx) : M → Hp → It → (List D × Option (Nat × List D)) → Prop := fun m H J w => Walks G J m H w.1 w.2 ∧ w.1.length ≤ lim
def rI (G : Gx) (E : WX) (f : Ix) : TI := fun σ H Q => ∃ m sl st, SL G m H σ sl ∧ CO G m H st ∧ aft G (WE E σ) (relI G) m H (f sl st) Q
abbrev DI (G : Gx) (X : Cx) (E : WX) (tg e : Expr) (f : Ix) : Prop := PI X tg e (rI G E f)
theorem PI.imp {X : Cx} {tg e : Expr} {t t' : TI} (h : PI X tg e t) (hi : ∀ σ H Q, t' σ H Q → t σ H Q) : PI X tg e t' := ⟨fun pins s σ H Q I q => h.run pins s σ H Q I (hi σ H Q q)⟩
open Classical in
noncomputable def forL (chk : Option (Nat × List D)) (g : Tg) (body : Sm) : List D → Sm
  | [] => fun sl st => if chkOk chk st then some (.nx, sl, st) else none
  | d :: ds => fun sl st => if chkOk chk st then (match g (.d d) sl with
    | some sl1 => lop (body sl1 st) (forL chk g body ds)
    | none => none) else none
noncomputable def sFor (it : Ix) (g : Tg) (body : Sm) : Sm := fun sl st => stm (it sl st) sl fun w st1 => forL w.2 g body w.1 sl st1
theorem ds_for {tg iter : Expr} {body : List Stmt} {wi : Ix} {gt : Tg} {tb : Sm} (hp : PassesOwn (model X.prog X.w) X.A X.env X.xe) (hc : X.calm = true) {vs : List Nat} (hi : DI G X E tg iter wi) (hg : DG G X tg vs gt) (hb : DSs G X E body tb)
    (hs : ∀ x, foldedSetIterable iter X.env x = pure x := by intro _; rfl) : DS G X E (.For tg iter body [] pos) (sFor wi gt tb) := by
  refine PS.imp (ps_for hp hc hi hg hb hs) ?_
  rintro D σ H ⟨m, sl, st, hs, hc, h⟩
  refine ⟨m, sl, st, hs, hc, aftS_stm hs hc h fun w st1 J H1 m1 e1 c1 wk h1 => ?_⟩
  obtain ⟨items, chk⟩ := w
  replace wk := wk.1
  refine ⟨fun i k σ H => k = items.length - i ∧ i ≤ items.length ∧ ∃ m sl st, Ext m1 H1 m H ∧ SL G m H σ sl ∧ CO G m H st ∧ aftS G E D m H (forL chk gt tb (items.drop i) sl st), ⟨items.length, by simp, Nat.zero_le _, m1, sl, st1, .refl, hs.ext hc e1, c1, h1⟩, ?_⟩
  rintro i k σ2 H2 ⟨rfl, hi, m2, sl2, st2, e2, s2, c2, h2⟩
  by_cases hlt : i < items.length
  · rw [List.drop_eq_getElem_cons hlt] at h2
    simp only [forL] at h2
    split at h2
    · rename_i hchk
      obtain ⟨go, yl⟩ := (wk m2 H2 st2 i e2 c2 hchk).2 items[i] (List.getElem?_eq_getElem hlt)
      refine .inr ⟨go, fun σ H => ∃ m sl st, Ext m1 H1 m H ∧ SL G m H σ sl ∧ CO G m H st ∧ aftS G E D m H (forL chk gt tb (items.drop (i + 1)) sl st), fun σ' H' q => ⟨items.length - (i + 1), by omega, rfl, hlt, q⟩, fun x H3 y => ?_⟩
      obtain ⟨sm, rp⟩ := yl x H3 y
      have e3 := Ext.of_same (m := m2) sm
      split at h2
      · rename_i sl3 hg3
        refine ⟨m2, sl2, st2, .d items[i], sl3, s2.ext c2 e3, c2.same sm, rp, hg3, fun σ' hs' _ => ?_⟩
        refine ⟨m2, sl3, st2, hs', c2.same sm, aftS_lop (aftS.ext e3 h2) fun sl' st' σ' H' m' e s c q => ⟨m', sl', st', (e2.trans e3).trans e, s, c, q⟩⟩
      · exact h2.elim
    · exact h2.elim
  · have e : i = items.length := by omega
    subst e
    rw [List.drop_length] at h2
    simp only [forL] at h2
    split at h2
    · rename_i hchk
      exact .inl ⟨(wk m2 H2 st2 _ e2 c2 hchk).1 rfl, aftS_nx h2 s2 c2⟩
    · exact h2.elim
end
end Dn

namespace Dn
open PySem PySem.Spec PyProof.Rows L2 Ft LamX
section
variable {G : Gx} {X : Cx} {E : WX} {m m' : M} {H H' : Hp} {e a b : Expr} {es : List Expr} {fe fa : Ex} {fr : Ax} {pos p tpos : Pos} {tg : Expr}
/-! ### walks -/
theorem RpA.get {vs : List V} {ds : List D} {i : Nat} {x : V} (h : RpA G m H vs ds) (e : vs[i]? = some x) : ∃ d, ds[i]? = some d ∧ Rp G m H x d := by
  induction ds generalizing vs i with
  | nil => cases h; simp at e
  | cons d ds ih =>
    cases h with
    | cons h1 h2 =>
      cases i with
      | zero => cases Option.some.inj e; exact ⟨d, rfl, h1⟩
      | succ i => exact ih h2 e
theorem RpA.at {vs : List V} {ds : List D} {i : Nat} {d : D} (h : RpA G m H vs ds) (e : ds[i]? = some d) : ∃ x, vs[i]? = some x ∧ Rp G m H x d := by
  have hl : i < vs.length := by rw [h.len]; exact (List.getElem?_eq_some_iff.mp e).1
  obtain ⟨d', e', h'⟩ := h.get (List.getElem?_eq_getElem hl)
  rw [e] at e'
  cases e'
  exact ⟨_, List.getElem?_eq_getElem hl, h'⟩
/-- the list by its items: data, a cell (which must stay), the script -/
def itL (w : W) (st : Sto) : R (List D × Option (Nat × List D)) := match w with
  | .d (.lst ds) => some (.ok (ds, none), st)
  | .scr ns => some (.ok (ns.map D.int, none), st)
  | .c n => match st[n]? with
    | some (.lst ds) => some (.ok (ds, some (n, ds)), st)
    | _ => none
  | _ => none
def itT (w : W) (st : Sto) : R (List D × Option (Nat × List D)) := match w with
  | .d (.tup ds) => some (.ok (ds, none), st)
  | _ => none
def signs (x : Str) : List D := x.cps.toList.map fun c => D.str ⟨#[c]⟩
def itS (w : W) (st : Sto) : R (List D × Option (Nat × List D)) := match w with
  | .d (.str x) => some (.ok (signs x, none), st)
  | _ => none
def iOf (k : W → Sto → R (List D × Option (Nat × List D))) (f : Ex) : Ix := fun sl st => bnd (f sl st) k
theorem walk_L {K : PySem.W.Frag} {ad : Addr} {ds : List D} {chk : Option (Nat × List D)} (h : ∀ m' H' st', Ext m H m' H' → CO G m' H' st' → chkOk chk st' → ∃ xs, SqL K H' ad xs ∧ RpA G m' H' xs ds) : Walks G (Itl K ad) m H ds chk := by
  intro m' H' st' i e c hk
  obtain ⟨xs, h1, h2⟩ := h m' H' st' e c hk
  refine ⟨fun hi => ⟨xs, h1, by rw [h2.len, hi]; exact Nat.le_refl _⟩, fun d hd => ?_⟩
  obtain ⟨x, hx, rx⟩ := h2.at hd
  refine ⟨⟨xs, x, h1, hx⟩, fun y H'' q => ?_⟩
  obtain ⟨rfl, q⟩ := q
  have z := q xs h1
  rw [hx] at z
  cases z
  exact ⟨fun _ _ h => h, rx⟩
theorem walk_T {K : PySem.W.Frag} {ad : Addr} {xs : List V} {ds : List D} {st : Sto} (c : CO G m H st) (h : H ad = some (.tup xs)) (r : RpA G m H xs ds) : Walks G (Itt K ad) m H ds none := by
  intro m' H' st' i e c' hk
  have h' : H' ad = some (.tup xs) := e.keep _ _ (c.tup_nm h) (by intro _ z; cases z) h
  have r' := r.ext c e
  refine ⟨fun hi => ⟨xs, .inl (.inl h'), by rw [r.len, hi]; exact Nat.le_refl _⟩, fun d hd => ?_⟩
  obtain ⟨x, hx, rx⟩ := r'.at hd
  refine ⟨⟨xs, x, .inl (.inl h'), hx⟩, fun y H'' q => ?_⟩
  obtain ⟨rfl, q⟩ := q
  have z := q xs (.inl (.inl h'))
  rw [hx] at z
  cases z
  exact ⟨fun _ _ h => h, rx⟩
theorem di_tup (he : DE G X E e fe) : DI G X E tg e (iOf itT fe) := by
  refine PI.imp (pi_tup he) ?_
  rintro σ H Q ⟨m, sl, st, hs, hc, h⟩
  refine ⟨m, sl, st, hs, hc, aft_bnd h fun w st1 v H1 m1 e1 c1 r1 h1 => ?_⟩
  unfold itT at h1
  split at h1
  · rename_i ds
    cases r1 with
    | @tup ad xs _ q0 q1 q2 => exact ⟨ad, rfl, ⟨xs, .inl (.inl q1)⟩, aft_ok (v := Itt X.K ad) h1 c1 ⟨walk_T c1 q1 q2, q0⟩⟩
  · exact h1.elim
theorem cell_at {st : Sto} {n : Nat} {ad : Addr} {ds : List D} (c : CO G m H st) (ha : m.c[n]? = some ad) (hs : st[n]? = some (.lst ds)) : ∃ xs, H ad = some (.lst xs) ∧ RpA G m H xs ds := (c.at_ n ad _ ha hs).2
theorem cell_len {st : Sto} {n : Nat} {ad : Addr} {ds : List D} (c : CO G m H st) (ha : m.c[n]? = some ad) (hs : st[n]? = some (.lst ds)) : ds.length ≤ lim := (c.at_ n ad _ ha hs).1
theorem ext_ix {n : Nat} {ad : Addr} (e : Ext m H m' H') (ha : m.c[n]? = some ad) : m'.c[n]? = some ad := by
  obtain ⟨l, el, _⟩ := e.new
  rw [el, List.getElem?_append_left (List.getElem?_eq_some_iff.mp ha).1]
  exact ha
theorem itL_ok {st : Sto} {v : V} {w : W} {E' : XK} {Q : It → Hp → Prop} (hK : X.K = G.K) (c : CO G m H st) (r : RpW G m H v w) (h : aft G E' (relI G) m H (itL w st) Q) : ∃ ad, v = .ref ad ∧ (∃ xs, SqL X.K H ad xs) ∧ Q (Itl X.K ad) H ∧ Walks G (Itl X.K ad) m H ((itL w st).elim [] fun z => match z.1 with | .ok q => q.1 | _ => []) ((itL w st).elim none fun z => match z.1 with | .ok q => q.2 | _ => none) := by
  rw [hK]
  unfold itL at h ⊢
  split at h
  · rename_i ds
    cases r with
    | @lst ad xs _ q0 q1 q2 q3 =>
      have wk : Walks G (Itl G.K ad) m H ds none := walk_L fun m' H' st' e c' _ => ⟨xs, .inl (.inl (e.keep _ _ (nall q2) nt_lst q1)), q3.ext c e⟩
      exact ⟨ad, rfl, ⟨xs, .inl (.inl q1)⟩, aft_ok (v := Itl G.K ad) h c ⟨wk, q0⟩, wk⟩
  · rename_i ns
    obtain ⟨ad, rfl, q0, q1⟩ := r
    have wk : Walks G (Itl G.K ad) m H (ns.map D.int) none := walk_L fun m' H' st' e c' _ => ⟨ns.map V.int, (q1.ext c e).sq, RpA.ints ns⟩
    exact ⟨ad, rfl, ⟨_, q1.sq⟩, aft_ok (v := Itl G.K ad) h c ⟨wk, by rw [List.length_map]; exact q0⟩, wk⟩
  · rename_i n
    obtain ⟨ad, q1, rfl⟩ := r
    split at h
    · rename_i ds hs
      have wk : Walks G (Itl G.K ad) m H ds (some (n, ds)) := walk_L fun m' H' st' e c' hk => by
        obtain ⟨xs, z1, z2⟩ := cell_at c' (ext_ix e q1) hk
        exact ⟨xs, .inl (.inl z1), z2⟩
      obtain ⟨xs, z1, z2⟩ := cell_at c q1 hs
      exact ⟨ad, rfl, ⟨xs, .inl (.inl z1)⟩, aft_ok (v := Itl G.K ad) h c ⟨wk, cell_len c q1 hs⟩, wk⟩
    · exact h.elim
  · exact h.elim
theorem di_list (he : DE G X E e fe) (hK : X.K = G.K := by rfl) : DI G X E tg e (iOf itL fe) := by
  refine PI.imp (pi_list he) ?_
  rintro σ H Q ⟨m, sl, st, hs, hc, h⟩
  refine ⟨m, sl, st, hs, hc, aft_bnd h fun w st1 v H1 m1 e1 c1 r1 h1 => ?_⟩
  obtain ⟨ad, h2, h3, h4, _⟩ := itL_ok hK c1 r1 h1
  exact ⟨ad, h2, h3, h4⟩
theorem di_str (he : DE G X E e fe) : DI G X E tg e (iOf itS fe) := by
  refine PI.imp (pi_str he) ?_
  rintro σ H Q ⟨m, sl, st, hs, hc, h⟩
  refine ⟨m, sl, st, hs, hc, aft_bnd h fun w st1 v H1 m1 e1 c1 r1 h1 => ?_⟩
  unfold itS at h1
  split at h1
  · rename_i x
    obtain _ | _ | _ | ⟨_, hxl⟩ := r1
    refine ⟨x, rfl, aft_ok (v := Its x) h1 c1 ⟨fun m' H' st' i e c hk => ⟨fun hi => ?_, fun d hd => ?_⟩, by unfold signs; rw [List.length_map, Array.length_toList]; exact hxl⟩⟩
    · have z : (signs x).length = i := hi
      unfold signs at z
      rw [List.length_map, Array.length_toList] at z
      exact Nat.le_of_eq z
    · unfold signs at hd
      rw [List.getElem?_map, Option.map_eq_some_iff] at hd
      obtain ⟨c0, h2, rfl⟩ := hd
      have h3 : x.cps[i]? = some c0 := by rw [← h2]; simp
      refine ⟨(Array.getElem?_eq_some_iff.mp h3).1, fun y H'' q => ?_⟩
      obtain ⟨rfl, c2, h4, rfl⟩ := q
      rw [h3] at h4
      cases h4
      exact ⟨fun _ _ h => h, .str _ (by show 1 ≤ lim; decide)⟩
  · exact h1.elim
/-- lo, lo + 1, .. : n numbers -/
def rng (lo : Int) (n : Nat) : List D := (List.range n).map fun (i : Nat) => D.int (lo + (i : Int))
def iRange1 (f : Ax) : Ix := fun sl st => bnd (f sl st) fun ws st1 => match ws with
  | [.d (.int j)] => if -(2 ^ 62) ≤ j ∧ j ≤ 100000 then some (.ok (rng 0 j.toNat, none), st1) else none
  | _ => none
def iRange2 (f : Ax) : Ix := fun sl st => bnd (f sl st) fun ws st1 => match ws with
  | [.d (.int i), .d (.int j)] => if -(2 ^ 62) ≤ i ∧ i < 2 ^ 62 ∧ -(2 ^ 62) ≤ j ∧ j < 2 ^ 62 ∧ j - i ≤ 100000 then some (.ok (rng i (j - i).toNat, none), st1) else none
  | _ => none
theorem rng_len (lo : Int) (n : Nat) : (rng lo n).length = n := by unfold rng; rw [List.length_map, List.length_range]
theorem walk_rng {lo : Int} {n : Nat} : Walks G (Itr lo n) m H (rng lo n) none := by
  intro m' H' st' i e c hk
  refine ⟨fun hi => ?_, fun d hd => ?_⟩
  · rw [rng_len] at hi
    exact Nat.le_of_eq hi
  · unfold rng at hd
    rw [List.getElem?_map, Option.map_eq_some_iff] at hd
    obtain ⟨j, h2, rfl⟩ := hd
    have hl : i < n := by
      have := (List.getElem?_eq_some_iff.mp h2).1
      rwa [List.length_range] at this
    rw [List.getElem?_range hl] at h2
    cases h2
    refine ⟨hl, fun y H'' q => ?_⟩
    obtain ⟨rfl, rfl⟩ := q
    exact ⟨fun _ _ h => h, .int _⟩
theorem di_range1 (hg : Gl X "range") (hm : X.mg "range" = none) (ha : DA G X E [a] fr) (hs : starEach [a] X.env = [(false, eval a X.env)] := by rfl) : DI G X E tg (.Call (.Name "range" p) [a] [] pos) (iRange1 fr) := by
  refine PI.imp (pi_range1 hg hm ha hs) ?_
  rintro σ H Q ⟨m, sl, st, hs, hc, h⟩
  refine ⟨m, sl, st, hs, hc, aft_bnd h fun w st1 v H1 m1 e1 c1 r1 h1 => ?_⟩
  split at h1
  · rename_i j
    split at h1
    · rename_i hj
      cases r1 with
      | cons q1 q2 =>
        cases q1
        cases q2
        exact ⟨j, rfl, hj.1, by omega, aft_ok (v := Itr 0 j.toNat) h1 c1 ⟨walk_rng, by rw [rng_len]; unfold lim; omega⟩⟩
    · exact h1.elim
  · exact h1.elim
theorem di_range2 (hg : Gl X "range") (hm : X.mg "range" = none) (ha : DA G X E [a, b] fr) (hs : starEach [a, b] X.env = [(false, eval a X.env), (false, eval b X.env)] := by rfl) (hs2 : starEach [b] X.env = [(false, eval b X.env)] := by rfl) : DI G X E tg (.Call (.Name "range" p) [a, b] [] pos) (iRange2 fr) := by
  refine PI.imp (pi_range2 hg hm ha hs hs2) ?_
  rintro σ H Q ⟨m, sl, st, hs, hc, h⟩
  refine ⟨m, sl, st, hs, hc, aft_bnd h fun w st1 v H1 m1 e1 c1 r1 h1 => ?_⟩
  split at h1
  · rename_i i j
    split at h1
    · rename_i hj
      cases r1 with
      | cons q1 q2 =>
        cases q1
        cases q2 with
        | cons q3 q4 =>
          cases q3
          cases q4
          exact ⟨i, j, rfl, ⟨hj.1, hj.2.1, hj.2.2.1, hj.2.2.2.1⟩, aft_ok (v := Itr i (j - i).toNat) h1 c1 ⟨walk_rng, by rw [rng_len]; unfold lim; omega⟩⟩
    · exact h1.elim
  · exact h1.elim
/-- enumerate of a tuple -/
def enum (ds : List D) : List D := ds.zipIdx.map fun p => D.tup [.int (p.2 : Nat), p.1]
def iEnumT (f : Ax) : Ix := fun sl st => bnd (f sl st) fun ws st1 => match ws with
  | [.d (.tup ds)] => some (.ok (enum ds, none), st1)
  | _ => none
theorem di_enumT {elts : List Expr} {kk : Nat} (gl : Gl X "enumerate") (hm : X.mg "enumerate" = none) (ha : DA G X E [e] fr) (hs : starEach [e] X.env = [(false, eval e X.env)] := by rfl) (hK : X.K = G.K := by rfl) :
    DI G X E (.Tuple elts kk tpos) (.Call (.Name "enumerate" p) [e] [] pos) (iEnumT fr) := by
  refine PI.imp (pi_enumT gl hm ha hs) ?_
  rintro σ H Q ⟨m, sl, st, hs, hc, h⟩
  refine ⟨m, sl, st, hs, hc, aft_bnd h fun w st1 v H1 m1 e1 c1 r1 h1 => ?_⟩
  split at h1
  · rename_i ds
    cases r1 with
    | cons q1 q2 =>
      cases q2
      cases q1 with
      | @tup ad xs _ z0 z1 z2 =>
        refine ⟨ad, xs, rfl, .inl (.inl z1), aft_ok (v := IteT X.K ad) h1 c1 ⟨fun m' H' st' i e c hk => ?_, by unfold enum; rw [List.length_map, List.length_zipIdx]; exact z0⟩⟩
        have z1' : H' ad = some (.tup xs) := e.keep _ _ (c1.tup_nm z1) (by intro _ z; cases z) z1
        have z2' := z2.ext c1 e
        refine ⟨fun hi => ⟨xs, .inl (.inl z1'), ?_⟩, fun d hd => ?_⟩
        · have hi : (enum ds).length = i := hi
          unfold enum at hi
          rw [List.length_map, List.length_zipIdx] at hi
          rw [z2.len, hi]
        · unfold enum at hd
          rw [List.getElem?_map, Option.map_eq_some_iff] at hd
          obtain ⟨⟨d0, j⟩, h2, rfl⟩ := hd
          rw [List.getElem?_zipIdx, Option.map_eq_some_iff] at h2
          obtain ⟨d1, h3, h4⟩ := h2
          cases h4
          obtain ⟨x, hx, rx⟩ := z2'.at h3
          refine ⟨⟨xs, x, .inl (.inl z1'), hx⟩, fun y H'' q => ?_⟩
          obtain ⟨T, x', rfl, hT, rfl, q⟩ := q
          have z := q xs (.inl (.inl z1'))
          rw [hx] at z
          cases z
          refine ⟨same_new hT, .tup (by show 2 ≤ lim; decide) upd_same (.cons ?_ (.cons (rx.same (same_new hT)) .nil))⟩
          dsimp only
          rw [Nat.zero_add]
          exact .int _
  · exact h1.elim
end
end Dn

namespace Dn
open PySem PySem.Spec PyProof.Rows L2 Ft LamX
/-! ### list comprehensions -/
def wipeW (sl : Slo) : List Nat → Slo
  | [] => sl
  | v :: vs => (wipeW sl vs).set v none
section
variable {G : Gx} {X : Cx} {E : WX} {m m' : M} {H H' : Hp}
theorem SL.wipe {σ : L2.St} {sl : Slo} (h : SL G m H σ sl) : ∀ vs, SL G m H (wipe σ vs) (wipeW sl vs)
  | [] => h
  | v :: vs => by
    have ih := SL.wipe h vs
    refine ⟨by rw [L2.wipe, wipeW, List.length_set, List.length_set]; exact ih.len, fun i w e => ?_⟩
    rw [wipeW] at e
    by_cases c : v = i
    · subst c
      have hl : v < (wipeW sl vs).length := by
        have := (List.getElem?_eq_some_iff.mp e).1
        rwa [List.length_set] at this
      rw [List.getElem?_set_self hl] at e
      cases e
    · rw [List.getElem?_set_ne c] at e
      obtain ⟨v', h1, h2⟩ := ih.at_ i w e
      exact ⟨v', by rw [L2.wipe, List.getElem?_set_ne c]; exact h1, h2⟩
theorem wipe_at {σ : L2.St} {i : Nat} : ∀ {vs : List Nat}, (wipe σ vs)[i]? = if i ∈ vs then σ[i]?.map fun _ => none else σ[i]?
  | [] => by simp [wipe]
  | v :: vs => by
    rw [wipe]
    by_cases c : v = i
    · subst c
      rw [if_pos List.mem_cons_self]
      by_cases hl : v < (wipe σ vs).length
      · rw [List.getElem?_set_self hl]
        rw [wipe_length] at hl
        rw [List.getElem?_eq_getElem hl]
        rfl
      · rw [List.getElem?_eq_none (by rw [List.length_set]; omega)]
        rw [wipe_length] at hl
        rw [List.getElem?_eq_none (by omega)]
        rfl
    · rw [List.getElem?_set_ne c, wipe_at]
      by_cases z : i ∈ vs
      · rw [if_pos z, if_pos (List.mem_cons_of_mem _ z)]
      · rw [if_neg z, if_neg fun y => (List.mem_cons.mp y).elim (fun e => c e.symm) z]
theorem wipe_off {σ σ' : L2.St} {vs ws : List Nat} (o : Off ws (wipe σ vs) σ') (h : ∀ i ∈ ws, i ∈ vs) : wipe σ' vs = wipe σ vs := by
  apply List.ext_getElem?
  intro i
  rw [wipe_at]
  by_cases z : i ∈ vs
  · rw [if_pos z, wipe_at, if_pos z]
    have l := o.1
    rw [wipe_length] at l
    by_cases hl : i < σ.length
    · rw [List.getElem?_eq_getElem (by omega), List.getElem?_eq_getElem hl]
      rfl
    · rw [List.getElem?_eq_none (by omega), List.getElem?_eq_none (by omega)]
  · rw [if_neg z]
    exact o.2 i fun y => z (h i y)
/-- no exception may leave the block -/
abbrev WF : WX := fun _ _ _ _ => False
def noX {α β : Type} (r : R α) (k : α → Sto → R β) : R β := match r with
  | some (.ok a, st) => k a st
  | _ => none
@[simp] theorem noX_ok {α β : Type} (a : α) (st : Sto) (k : α → Sto → R β) : noX (some (.ok a, st)) k = k a st := rfl
open Classical in
noncomputable def lcL (chk : Option (Nat × List D)) (g : Tg) (tt : Tx) (fe : Ex) (sl : Slo) : List D → List D → Sto → R (List D)
  | [], acc, st => if chkOk chk st then some (.ok acc, st) else none
  | d :: ds, acc, st => if chkOk chk st then (match g (.d d) sl with
    | some sl1 => noX (tt sl1 st) fun b st1 => if b = true then noX (fe sl1 st1) fun w st2 => (match w with
        | .d x => lcL chk g tt fe sl ds (acc ++ [x]) st2
        | _ => none) else lcL chk g tt fe sl ds acc st1
    | none => none) else none
noncomputable def lcRun (it : Ix) (g : Tg) (tt : Tx) (fe : Ex) (vs : List Nat) (sl : Slo) (st : Sto) : R (List D) :=
  bnd (it sl st) fun w st1 => lcL w.2 g tt fe (wipeW sl vs) w.1 [] st1
noncomputable def eLc (it : Ix) (g : Tg) (tt : Tx) (fe : Ex) (vs : List Nat) : Ex := fun sl st => bnd (lcRun it g tt fe vs sl st) fun acc st2 => some (.ok (.d (.lst acc)), st2)
/-- as a list that will change -/
noncomputable def eLcC (it : Ix) (g : Tg) (tt : Tx) (fe : Ex) (vs : List Nat) : Ex := fun sl st => bnd (lcRun it g tt fe vs sl st) fun acc st2 => some (.ok (.c st2.length), st2 ++ [.lst acc])
theorem lcL_exc {chk : Option (Nat × List D)} {g : Tg} {tt : Tx} {fe : Ex} {sl : Slo} {c : Str} {fs : List (Str × D)} {st' : Sto} : ∀ {ds acc : List D} {st : Sto}, lcL chk g tt fe sl ds acc st ≠ some (.exc c fs, st')
  | [], acc, st => by
    rw [lcL]
    split <;> intro z <;> cases z
  | d :: ds, acc, st => by
    rw [lcL]
    split
    · split
      · rename_i sl1 _
        cases h1 : tt sl1 st with
        | none => intro z; cases z
        | some r1 =>
          obtain ⟨o1, st1⟩ := r1
          cases o1 with
          | exc _ _ => intro z; cases z
          | ok b =>
            rw [noX_ok]
            split
            · cases h2 : fe sl1 st1 with
              | none => intro z; cases z
              | some r2 =>
                obtain ⟨o2, st2⟩ := r2
                cases o2 with
                | exc _ _ => intro z; cases z
                | ok w =>
                  rw [noX_ok]
                  split
                  · exact lcL_exc
                  · intro z; cases z
            · exact lcL_exc
      · intro z; cases z
    · intro z; cases z
/-- the ghost's list may change -/
theorem ghost_move {Da : Addr} {o : HO} (hD : Da ∈ m.g) {xs : List V} (hx : H Da = some (.lst xs)) :
    (∀ a o', a ∉ m.all → (∀ ps, o' ≠ .tbl ps) → H a = some o' → upd H Da o a = some o') ∧ (∀ a ys, H a = some (.tup ys) → upd H Da o a = some (.tup ys)) := by
  constructor
  · intro a o' n _ h
    rw [upd_ne fun z => n (List.mem_append_right _ (by rw [z]; exact hD))]
    exact h
  · intro a ys h
    rw [upd_ne fun z => by rw [z, hx] at h; cases h]
    exact h
theorem Rp.ghost {Da : Addr} {o : HO} (hD : Da ∈ m.g) {xs : List V} (hx : H Da = some (.lst xs)) {v : V} {d : D} (r : Rp G m H v d) : Rp G m (upd H Da o) v d :=
  r.move (ghost_move hD hx).1 (fun _ _ n _ _ => n) (ghost_move hD hx).2
theorem RpA.ghost {Da : Addr} {o : HO} (hD : Da ∈ m.g) {xs : List V} (hx : H Da = some (.lst xs)) {v : List V} {d : List D} (r : RpA G m H v d) : RpA G m (upd H Da o) v d :=
  r.move (ghost_move hD hx).1 (fun _ _ n _ _ => n) (ghost_move hD hx).2
theorem RpW.ghost {Da : Addr} {o : HO} {st : Sto} (c : CO G m H st) (hD : Da ∈ m.g) {xs : List V} (hx : H Da = some (.lst xs)) {v : V} {w : W} (r : RpW G m H v w) : RpW G m (upd H Da o) v w := by
  cases w with
  | d x => exact Rp.ghost hD hx r
  | c n => exact r
  | scr ns =>
    obtain ⟨a, rfl, l, h⟩ := r
    refine ⟨a, rfl, l, ?_⟩
    rcases h with ⟨h, n⟩ | ⟨o', h⟩ | h
    · exact .inl ⟨(ghost_move hD hx).1 a _ n nt_lst h, n⟩
    · refine .inr (.inl ⟨o', ?_⟩)
      rw [upd_ne fun z => by rw [z, hx] at h; cases h]
      exact h
    · exact .inr (.inr h)
  | t l =>
    obtain ⟨a, xs', rfl, hl, h, r⟩ := r
    refine ⟨a, xs', rfl, hl, (ghost_move hD hx).2 a xs' h, ?_⟩
    clear h hl
    induction r with
    | nil => exact .nil
    | @cons v vs w ws r1 _ ih =>
      refine .cons ?_ ih
      cases w with
      | d x => exact Rp.ghost hD hx r1
      | c n => exact r1
theorem CO.ghost {Da : Addr} {st : Sto} {ys : List V} (c : CO G m H st) (hD : Da ∈ m.g) (hc : Da ∉ m.c) {xs : List V} (hx : H Da = some (.lst xs)) : CO G m (upd H Da (.lst ys)) st := by
  refine ⟨c.len, c.nd, fun i a cl h1 h2 => ?_, fun p hp => ?_, fun a ha => ?_⟩
  · have q := c.at_ i a cl h1 h2
    have ne : a ≠ Da := fun z => hc (z ▸ List.mem_of_getElem? h1)
    cases cl with
    | lst ds => obtain ⟨l, xs, q1, q2⟩ := q; exact ⟨l, xs, by rw [upd_ne ne]; exact q1, q2.ghost hD hx⟩
    | ins cc gs => obtain ⟨C, dx, fs, q1, q2, q3⟩ := q; exact ⟨C, dx, fs, q1, by rw [upd_ne ne]; exact q2, q3.move (ghost_move hD hx).1 (fun _ _ n _ _ => n) (ghost_move hD hx).2⟩
  · obtain ⟨ps, q, r1, r2⟩ := c.tabs p hp
    refine ⟨ps, ?_, r1, fun pos cv h => ?_⟩
    · rw [upd_ne fun z => by rw [z, hx] at q; cases q]; exact q
    · obtain ⟨c', e1, e2⟩ := r2 pos cv h
      refine ⟨c', e1, ?_⟩
      rw [upd_ne fun z => by rw [z, hx] at e2; cases e2]; exact e2
  · by_cases z : a = Da
    · rw [z]; intro y; exact y.no upd_same nt_lst
    · intro y; exact c.gh a ha fun o e => y o (by rw [upd_ne z]; exact e)
theorem SL.ghost {Da : Addr} {o : HO} {st : Sto} {σ : L2.St} {sl : Slo} (c : CO G m H st) (s : SL G m H σ sl) (hD : Da ∈ m.g) {xs : List V} (hx : H Da = some (.lst xs)) : SL G m (upd H Da o) σ sl :=
  ⟨s.len, fun i w e => let ⟨v, h1, h2⟩ := s.at_ i w e; ⟨v, h1, RpW.ghost c hD hx h2⟩⟩
theorem RpA.snoc {vs : List V} {ds : List D} {v : V} {d : D} (h : RpA G m H vs ds) (r : Rp G m H v d) : RpA G m H (vs ++ [v]) (ds ++ [d]) := by
  induction ds generalizing vs with
  | nil => cases h; exact .cons r .nil
  | cons x ds ih => cases h with | cons h1 h2 => exact .cons h1 (ih h2)
/-- a list that is made, as a ghost still -/
def relG (G : Gx) (m : M) (H : Hp) : M → Hp → V → List D → Prop := fun m' H' v acc => ∃ a xs, v = V.ref a ∧ H' a = some (.lst xs) ∧ a ∈ m'.g ∧ a ∉ m'.c ∧ Fr H a ∧ acc.length ≤ lim ∧ RpA G m' H' xs acc
theorem lc_ok {it : Ix} {g : Tg} {tt : Tx} {fe : Ex} {vs ws : List Nat} (hv : ∀ i ∈ ws, i ∈ vs) {σ : L2.St} {H : Hp} {Q : VK} {m : M} {sl : Slo} {st : Sto} (hs : SL G m H σ sl) (hc : CO G m H st)
    (h : aft G (WE E σ) (relG G m H) m H (lcRun it g tt fe vs sl st) Q) :
    tLc (rI G E it) (rG G ws g) (rT G WF tt) (rE G WF fe) vs σ H Q := by
  refine ⟨m, sl, st, hs, hc, aft_bnd h fun w st1 J H1 m1 e1 c1 wk h1 Da nD => ?_⟩
  obtain ⟨items, chk⟩ := w
  obtain ⟨wk, hl⟩ := wk
  have hl : items.length ≤ lim := hl
  · -- the run ends well
    cases hr : lcL chk g tt fe (wipeW sl vs) items [] st1 with
    | none => rw [hr] at h1; exact h1.elim
    | some r =>
      obtain ⟨r, stF⟩ := r
      cases r with
      | exc c fs => exact absurd hr lcL_exc
      | ok accF =>
        rw [hr] at h1
        have nDa := c1.new_na (.none nD)
        have hs1 := hs.ext hc e1
        refine ⟨fun i k H2 => k = items.length - i ∧ i ≤ items.length ∧ ∃ (c2 : List Addr) (st2 : Sto) (acc : List D) (xs : List V), Ext m1 H1 ⟨c2, Da :: m1.g⟩ H2 ∧ Da ∉ c2 ∧ CO G ⟨c2, Da :: m1.g⟩ H2 st2 ∧ SL G ⟨c2, Da :: m1.g⟩ H2 (wipe σ vs) (wipeW sl vs) ∧
          H2 Da = some (.lst xs) ∧ RpA G ⟨c2, Da :: m1.g⟩ H2 xs acc ∧ acc.length ≤ i ∧ lcL chk g tt fe (wipeW sl vs) (items.drop i) acc st2 = some (.ok accF, stF), ⟨items.length, by simp, Nat.zero_le _, m1.c, st1, [], [], ?_⟩, ?_⟩
        · have sm := same_new (o := .lst []) nD
          have mv : ∀ a (o : HO), a ∉ m1.all → (∀ ps, o ≠ .tbl ps) → H1 a = some o → a ∉ (M.mk m1.c (Da :: m1.g)).all := fun a o n _ ho z => by
            rcases List.mem_append.mp z with z | z
            · exact n (List.mem_append_left _ z)
            · rcases List.mem_cons.mp z with z | z
              · rw [z, nD] at ho; cases ho
              · exact n (List.mem_append_right _ z)
          refine ⟨⟨⟨[], (List.append_nil _).symm, fun _ h => nomatch h⟩, ⟨fun a h => List.mem_cons_of_mem _ h, fun a h => (List.mem_cons.mp h).elim (fun z => .inr (z ▸ .none nD)) .inl⟩, fun a o n t h => sm a o h, (Ext.of_same (m := m1) sm).dom⟩, fun z => nDa (List.mem_append_left _ z), ⟨c1.len, c1.nd, fun i a cl h1 h2 => ?_, c1.tabs.ext fun b o h => sm b o h, fun a ha => ?_⟩, ?_, upd_same, .nil, Nat.le_refl _, hr⟩
          · have q := c1.at_ i a cl h1 h2
            cases cl with
            | lst ds => obtain ⟨l, xs, q1, q2⟩ := q; exact ⟨l, xs, sm _ _ q1, q2.move (fun _ _ _ _ h => sm _ _ h) mv fun _ _ h => sm _ _ h⟩
            | ins cc gs => obtain ⟨C, dx, fs, q1, q2, q3⟩ := q; exact ⟨C, dx, fs, q1, sm _ _ q2, q3.move (fun _ _ _ _ h => sm _ _ h) mv fun _ _ h => sm _ _ h⟩
          · rcases List.mem_cons.mp ha with z | z
            · rw [z]; intro y; exact y.no upd_same nt_lst
            · intro y
              exact c1.gh a z ((Ext.of_same (m := m1) sm).dom a y)
          · have hw := hs1.wipe vs
            refine ⟨hw.len, fun i w e => ?_⟩
            obtain ⟨v, q1, q2⟩ := hw.at_ i w e
            refine ⟨v, q1, ?_⟩
            cases w with
            | d x => exact Rp.move (fun _ _ _ _ h => sm _ _ h) mv (fun _ _ h => sm _ _ h) q2
            | c n => exact q2
            | scr ns =>
              obtain ⟨a, rfl, l, q⟩ := q2
              refine ⟨a, rfl, l, ?_⟩
              rcases q with ⟨q, n⟩ | ⟨o', q⟩ | q
              · exact .inl ⟨sm _ _ q, mv _ _ n nt_lst q⟩
              · exact .inr (.inl ⟨o', sm _ _ q⟩)
              · exact .inr (.inr q)
            | t l =>
              obtain ⟨a, xs, rfl, hl, q, r⟩ := q2
              exact ⟨a, xs, rfl, hl, sm _ _ q, r.mono (fun _ _ r => Rp.move (fun _ _ _ _ h => sm _ _ h) mv (fun _ _ h => sm _ _ h) r) fun _ _ h => h⟩
        · rintro i k H2 ⟨rfl, hi, c2, st2, acc, xs, x2, nc2, co2, s2, hx2, ra2, la2, run2⟩
          by_cases hlt : i < items.length
          · rw [List.drop_eq_getElem_cons hlt] at run2
            simp only [lcL] at run2
            split at run2
            · rename_i hchk
              obtain ⟨go, yl⟩ := (wk _ H2 st2 i x2 co2 hchk).2 items[i] (List.getElem?_eq_getElem hlt)
              refine .inr ⟨go, fun H3 => ∃ (c2 : List Addr) (st2 : Sto) (acc : List D) (xs : List V), Ext m1 H1 ⟨c2, Da :: m1.g⟩ H3 ∧ Da ∉ c2 ∧ CO G ⟨c2, Da :: m1.g⟩ H3 st2 ∧ SL G ⟨c2, Da :: m1.g⟩ H3 (wipe σ vs) (wipeW sl vs) ∧
                H3 Da = some (.lst xs) ∧ RpA G ⟨c2, Da :: m1.g⟩ H3 xs acc ∧ acc.length ≤ i + 1 ∧ lcL chk g tt fe (wipeW sl vs) (items.drop (i + 1)) acc st2 = some (.ok accF, stF), fun H' q => ⟨items.length - (i + 1), by omega, rfl, hlt, q⟩, fun x H3 y => ?_⟩
              obtain ⟨sm, rx⟩ := yl x H3 y
              split at run2
              · rename_i sl1 hg1
                have x3 := Ext.of_same (m := ⟨c2, Da :: m1.g⟩) sm
                refine ⟨⟨c2, Da :: m1.g⟩, wipeW sl vs, st2, .d items[i], sl1, s2.ext co2 x3, co2.same sm, rx, hg1, fun σ2 hs2 off => ⟨wipe_off off hv, ?_⟩⟩
                have co3 := co2.same sm
                have hx3 := sm _ _ hx2
                have ra3 := ra2.same sm
                cases h2 : tt sl1 st2 with
                | none => rw [h2] at run2; cases run2
                | some r2 =>
                  obtain ⟨o2, st3⟩ := r2
                  cases o2 with
                  | exc _ _ => rw [h2] at run2; cases run2
                  | ok b =>
                    rw [h2, noX_ok] at run2
                    refine ⟨⟨c2, Da :: m1.g⟩, sl1, st2, hs2, co3, ?_⟩
                    rw [h2]
                    rintro b' H4 m4 x4 co4 rfl
                    have nd4 : Da ∉ m4.c := x4.nmc nc2 hx3 nt_lst
                    have hx4 := x4.keep _ _ nc2 nt_lst hx3
                    have g4 : Da ∈ m4.g := x4.gh.1 _ List.mem_cons_self
                    have go4 : ∀ {H5 : Hp} {m5 : M}, Ext ⟨c2, Da :: m1.g⟩ H3 m5 H5 → Ext m1 H1 ⟨m5.c, Da :: m1.g⟩ H5 ∧ ∀ a, a ∈ (M.mk m5.c (Da :: m1.g)).all → a ∈ m5.all := fun {H5 m5} x5 => by
                      have xx := (x2.trans x3).trans x5
                      refine ⟨⟨xx.new, ⟨fun a h => List.mem_cons_of_mem _ h, fun a h => (List.mem_cons.mp h).elim (fun z => .inr (z ▸ .none nD)) .inl⟩, xx.keep, xx.dom⟩, fun a z => ?_⟩
                      rcases List.mem_append.mp z with z | z
                      · exact List.mem_append_left _ z
                      · exact List.mem_append_right _ (x5.gh.1 a z)
                    have back : ∀ {H5 : Hp} {m5 : M} {st5 : Sto}, Ext ⟨c2, Da :: m1.g⟩ H3 m5 H5 → CO G m5 H5 st5 → CO G ⟨m5.c, Da :: m1.g⟩ H5 st5 := fun {H5 m5 st5} x5 c5 =>
                      ⟨c5.len, c5.nd, fun i a cl h1 h2 => (c5.at_ i a cl h1 h2).fewer (go4 x5).2, c5.tabs, fun a ha => c5.gh a (x5.gh.1 a ha)⟩
                    have backS : ∀ {H5 : Hp} {m5 : M}, Ext ⟨c2, Da :: m1.g⟩ H3 m5 H5 → SL G ⟨m5.c, Da :: m1.g⟩ H5 (wipe σ vs) (wipeW sl vs) := fun {H5 m5} x5 => by
                      have q := (s2.ext co2 x3).ext co3 x5
                      refine ⟨q.len, fun i w e => ?_⟩
                      obtain ⟨v, q1, q2⟩ := q.at_ i w e
                      refine ⟨v, q1, ?_⟩
                      cases w with
                      | d x => exact Rp.fewer (go4 x5).2 q2
                      | c n => exact q2
                      | scr ns =>
                        obtain ⟨a, rfl, l, q⟩ := q2
                        refine ⟨a, rfl, l, ?_⟩
                        rcases q with ⟨q, n⟩ | q
                        · exact .inl ⟨q, fun z => n ((go4 x5).2 a z)⟩
                        · exact .inr q
                      | t l =>
                        obtain ⟨a, xs, rfl, hl, q, r⟩ := q2
                        exact ⟨a, xs, rfl, hl, q, r.mono (fun _ _ r => Rp.fewer (go4 x5).2 r) fun _ _ h => h⟩
                    cases b' with
                    | false =>
                      rw [if_neg (by decide)] at run2 ⊢
                      exact ⟨m4.c, st3, acc, xs, (go4 x4).1, nd4, back x4 co4, backS x4, hx4, (ra3.ext co3 x4).fewer (go4 x4).2, Nat.le_succ_of_le la2, run2⟩
                    | true =>
                      rw [if_pos rfl] at run2 ⊢
                      cases h5 : fe sl1 st3 with
                      | none => rw [h5] at run2; cases run2
                      | some r5 =>
                        obtain ⟨o5, st5⟩ := r5
                        cases o5 with
                        | exc _ _ => rw [h5] at run2; cases run2
                        | ok w =>
                          rw [h5, noX_ok] at run2
                          refine ⟨m4, sl1, st3, hs2.ext co3 x4, co4, ?_⟩
                          rw [h5]
                          intro y H5 m5 x5 co5 ry
                          have x45 := x4.trans x5
                          have nd5 : Da ∉ m5.c := x5.nmc nd4 hx4 nt_lst
                          have hx5 := x5.keep _ _ nd4 nt_lst hx4
                          have ra5 := (ra3.ext co3 x45).fewer (go4 x45).2
                          split at run2
                          · rename_i xd
                            refine ⟨xs, hx5, ?_, m5.c, st5, acc ++ [xd], xs ++ [y], ?_, nd5, (back x45 co5).ghost List.mem_cons_self nd5 hx5, (backS x45).ghost (back x45 co5) List.mem_cons_self hx5, upd_same, (ra5.snoc (Rp.fewer (go4 x45).2 ry)).ghost List.mem_cons_self hx5, ?_, run2⟩
                            · rw [ra5.len]
                              exact lim_lt (Nat.le_trans la2 (Nat.le_trans (Nat.le_of_lt hlt) hl))
                            · have q := (go4 x45).1
                              refine ⟨q.new, q.gh, fun a o n t h => ?_, fun a h => ?_⟩
                              · rw [upd_ne fun z => by rw [z, nD] at h; cases h]
                                exact q.keep a o n t h
                              · by_cases z : a = Da
                                · rw [z]; exact .none nD
                                · exact q.dom a fun o e => h o (by rw [upd_ne z]; exact e)
                            · rw [List.length_append, List.length_singleton]
                              omega
                          · cases run2
              · cases run2
            · cases run2
          · have e : i = items.length := by omega
            subst e
            rw [List.drop_length] at run2
            simp only [lcL] at run2
            split at run2
            · rename_i hchk
              cases run2
              refine .inl ⟨(wk _ H2 _ _ x2 co2 hchk).1 rfl, ?_⟩
              exact h1 (.ref Da) H2 ⟨c2, Da :: m1.g⟩ x2 co2 ⟨Da, xs, rfl, hx2, List.mem_cons_self, nc2, e1.dom _ (.none nD), Nat.le_trans la2 hl, ra2⟩
            · cases run2
def tYesX : Tx := fun _ st => some (.ok true, st)
theorem PTs.imp {X : Cx} {es : List Expr} {t t' : TT} (h : PTs X es t) (hi : ∀ σ H Q, t' σ H Q → t σ H Q) : PTs X es t' := ⟨fun pins s σ H Q I q => h.run pins s σ H Q I (hi σ H Q q)⟩
theorem dts_nil : PTs X [] (rT G E tYesX) := by
  refine PTs.imp pts_nil ?_
  rintro σ H Q ⟨m, sl, st, hs, hc, h⟩
  exact aft_ok (v := true) h hc rfl
theorem dts_one {c : Expr} {t : Tx} (h : DT G X E c t) : PTs X [c] (rT G E t) := pts_one h
variable {elt tg iter : Expr} {ifs : List Expr} {scope : Scope} {own : List (Str × Nat)} {pos : Pos} {wi : Ix} {g : Tg} {tt : Tx} {te : Ex} {ws : List Nat}
theorem co_sub {m1 m2 : M} {H1 : Hp} {st : Sto} (c : CO G m1 H1 st) (hc : m2.c = m1.c) (hg : ∀ a ∈ m2.g, a ∈ m1.g) : CO G m2 H1 st := by
  refine ⟨by rw [hc]; exact c.len, by rw [hc]; exact c.nd, fun i a cl h1 h2 => (c.at_ i a cl (by rw [← hc]; exact h1) h2).fewer fun b hb => ?_, c.tabs, fun a ha => c.gh a (hg a ha)⟩
  rcases List.mem_append.mp hb with z | z
  · exact List.mem_append_left _ (by rw [← hc]; exact z)
  · exact List.mem_append_right _ (hg b z)
theorem lc_pure {vs : List Nat} {σ : L2.St} {H : Hp} {Q : VK} (hv : ∀ i ∈ ws, i ∈ vs) (h : rE G E (eLc wi g tt te vs) σ H Q) : tLc (rI G E wi) (rG G ws g) (rT G WF tt) (rE G WF te) vs σ H Q := by
  obtain ⟨m, sl, st, hs, hc, h⟩ := h
  unfold eLc at h
  cases hr : lcRun wi g tt te vs sl st with
  | none => rw [hr] at h; exact h.elim
  | some r =>
    obtain ⟨o, stF⟩ := r
    refine lc_ok hv hs hc ?_
    rw [hr] at h ⊢
    cases o with
    | exc c fs => exact h
    | ok acc =>
      rintro v H1 m1 e1 c1 ⟨a, xs, rfl, h2, h3, h4, h5, h0, h6⟩
      have hg : ∀ b ∈ m.g, b ∈ m1.g := e1.gh.1
      have fw : ∀ b, b ∈ (M.mk m1.c m.g).all → b ∈ m1.all := fun b z => (List.mem_append.mp z).elim (List.mem_append_left _) fun z => List.mem_append_right _ (hg b z)
      refine h (.ref a) H1 ⟨m1.c, m.g⟩ ⟨e1.new, ⟨fun _ h => h, fun _ h => .inl h⟩, e1.keep, e1.dom⟩ (co_sub c1 rfl hg) (rpd (.lst h0 h2 (fun z => ?_) (h6.fewer fw)))
      rcases List.mem_append.mp z with z | z
      · exact h4 z
      · exact hc.gh a z h5
theorem lc_cell {vs : List Nat} {σ : L2.St} {H : Hp} {Q : VK} (hv : ∀ i ∈ ws, i ∈ vs) (h : rE G E (eLcC wi g tt te vs) σ H Q) : tLc (rI G E wi) (rG G ws g) (rT G WF tt) (rE G WF te) vs σ H Q := by
  obtain ⟨m, sl, st, hs, hc, h⟩ := h
  unfold eLcC at h
  cases hr : lcRun wi g tt te vs sl st with
  | none => rw [hr] at h; exact h.elim
  | some r =>
    obtain ⟨o, stF⟩ := r
    refine lc_ok hv hs hc ?_
    rw [hr] at h ⊢
    cases o with
    | exc c fs => exact h
    | ok acc =>
      rintro v H1 m1 e1 c1 ⟨a, xs, rfl, h2, h3, h4, h5, h0, h6⟩
      have hg : ∀ b ∈ m.g, b ∈ m1.g := e1.gh.1
      have fw : ∀ b, b ∈ (M.mk (m1.c ++ [a]) m.g).all → b ∈ m1.all := fun b z => by
        rcases List.mem_append.mp z with z | z
        · have z : b ∈ m1.c ++ [a] := z
          rcases List.mem_append.mp z with z | z
          · exact List.mem_append_left _ z
          · rw [List.mem_singleton.mp z]; exact List.mem_append_right _ h3
        · exact List.mem_append_right _ (hg b z)
      obtain ⟨l, el, hl⟩ := e1.new
      refine h (.ref a) H1 ⟨m1.c ++ [a], m.g⟩ ⟨⟨l ++ [a], by show m1.c ++ [a] = _; rw [el, List.append_assoc], fun b hb => ?_⟩, ⟨fun _ h => h, fun _ h => .inl h⟩, e1.keep, e1.dom⟩ ?_ ⟨a, ?_, rfl⟩
      · rcases List.mem_append.mp hb with z | z
        · exact hl b z
        · rw [List.mem_singleton.mp z]; exact h5
      · refine ⟨by show (m1.c ++ [a]).length = _; rw [List.length_append, List.length_append, c1.len]; rfl, ?_, fun i b cl q1 q2 => ?_, c1.tabs, fun b hb => c1.gh b (hg b hb)⟩
        · exact List.nodup_append.mpr ⟨c1.nd, List.nodup_cons.mpr ⟨List.not_mem_nil, List.nodup_nil⟩, fun x hx y hy => by
            rw [List.mem_singleton.mp hy]
            rintro rfl
            exact h4 hx⟩
        · have q1 : (m1.c ++ [a])[i]? = some b := q1
          rcases Nat.lt_trichotomy i m1.c.length with hi | hi | hi
          · rw [List.getElem?_append_left hi] at q1
            rw [List.getElem?_append_left (by rw [← c1.len]; exact hi)] at q2
            exact (c1.at_ i b cl q1 q2).fewer fw
          · subst hi
            rw [List.getElem?_append_right (Nat.le_refl _), Nat.sub_self] at q1
            rw [c1.len, List.getElem?_append_right (Nat.le_refl _), Nat.sub_self] at q2
            cases q1
            cases q2
            exact ⟨h0, xs, h2, h6.fewer fw⟩
          · rw [List.getElem?_append_right (Nat.le_of_lt hi), List.getElem?_eq_none (by simp only [List.length_singleton]; omega)] at q1
            cases q1
      · show (m1.c ++ [a])[_]? = _
        rw [← c1.len, List.getElem?_append_right (Nat.le_refl _), Nat.sub_self]
        rfl
theorem de_lc (hc : X.calm = true) (hN : X.N.Nodup) (hi : DI G X E tg iter wi) (ok : BlkOk X.N X.env.scope scope own)
    (hg : ∀ (s : Shared) (H : Hp) (C : Addr) (cl : List (Str × Addr)) (fp : List Addr), DG G (X.blk s H scope (compEnvC scope cl C X.env) fp) tg ws g) (ht : ∀ (s : Shared) (H : Hp) (C : Addr) (cl : List (Str × Addr)) (fp : List Addr), PTs (X.blk s H scope (compEnvC scope cl C X.env) fp) ifs (rT G WF tt))
    (he : ∀ (s : Shared) (H : Hp) (C : Addr) (cl : List (Str × Addr)) (fp : List Addr), DE G (X.blk s H scope (compEnvC scope cl C X.env) fp) WF elt te) (hv : ∀ i ∈ ws, i ∈ own.map (·.2) := by decide) (hs : ∀ x, foldedSetIterable iter X.env x = pure x := by intro _; rfl) :
    DE G X E (.ListComp elt [⟨tg, iter, ifs, 0⟩] scope pos) (eLc wi g tt te (own.map (·.2))) := PE.imp (pe_lc hc hN hi ok hg ht he hs) fun σ H Q h => lc_pure hv h
theorem ds_setLc {i : Nat} {y : Str} {py spos : Pos} (hc : X.calm = true) (hN : X.N.Nodup) (hy : X.N[i]? = some y) (hyl : X.env.scope.names.lookup y = some .local)
    (hsw : swapsWith (.ListComp elt [⟨tg, iter, ifs, 0⟩] scope pos) (some (.Name y py)) spos.line X.env = pure true) (hi : DI G X E tg iter wi) (ok : BlkOk X.N X.env.scope scope own)
    (hg : ∀ (s : Shared) (H : Hp) (C : Addr) (cl : List (Str × Addr)) (fp : List Addr), DG G (X.blk s H scope (compEnvC scope cl C X.env) fp) tg ws g) (ht : ∀ (s : Shared) (H : Hp) (C : Addr) (cl : List (Str × Addr)) (fp : List Addr), PTs (X.blk s H scope (compEnvC scope cl C X.env) fp) ifs (rT G WF tt))
    (he : ∀ (s : Shared) (H : Hp) (C : Addr) (cl : List (Str × Addr)) (fp : List Addr), DE G (X.blk s H scope (compEnvC scope cl C X.env) fp) WF elt te) (hv : ∀ i ∈ ws, i ∈ own.map (·.2) := by decide) (hs : ∀ x, foldedSetIterable iter X.env x = pure x := by intro _; rfl) :
    DS G X E (.Assign [.Name y py] (.ListComp elt [⟨tg, iter, ifs, 0⟩] scope pos) spos) (sSet i (eLc wi g tt te (own.map (·.2)))) := by
  refine PS.imp (ps_setLc hc hN hy hyl hsw hi ok hg ht he hs) fun D σ H h => ?_
  obtain ⟨m, sl, st, hs, hc, h⟩ := h
  exact lc_pure hv ⟨m, sl, st, hs, hc, aftS_stm hs hc h fun w st1 v H1 m1 e1 c1 r1 h1 => aftS_nx h1 ((hs.ext hc e1).set r1) c1⟩
theorem ds_setLcC {i : Nat} {y : Str} {py spos : Pos} (hc : X.calm = true) (hN : X.N.Nodup) (hy : X.N[i]? = some y) (hyl : X.env.scope.names.lookup y = some .local)
    (hsw : swapsWith (.ListComp elt [⟨tg, iter, ifs, 0⟩] scope pos) (some (.Name y py)) spos.line X.env = pure true) (hi : DI G X E tg iter wi) (ok : BlkOk X.N X.env.scope scope own)
    (hg : ∀ (s : Shared) (H : Hp) (C : Addr) (cl : List (Str × Addr)) (fp : List Addr), DG G (X.blk s H scope (compEnvC scope cl C X.env) fp) tg ws g) (ht : ∀ (s : Shared) (H : Hp) (C : Addr) (cl : List (Str × Addr)) (fp : List Addr), PTs (X.blk s H scope (compEnvC scope cl C X.env) fp) ifs (rT G WF tt))
    (he : ∀ (s : Shared) (H : Hp) (C : Addr) (cl : List (Str × Addr)) (fp : List Addr), DE G (X.blk s H scope (compEnvC scope cl C X.env) fp) WF elt te) (hv : ∀ i ∈ ws, i ∈ own.map (·.2) := by decide) (hs : ∀ x, foldedSetIterable iter X.env x = pure x := by intro _; rfl) :
    DS G X E (.Assign [.Name y py] (.ListComp elt [⟨tg, iter, ifs, 0⟩] scope pos) spos) (sSet i (eLcC wi g tt te (own.map (·.2)))) := by
  refine PS.imp (ps_setLc hc hN hy hyl hsw hi ok hg ht he hs) fun D σ H h => ?_
  obtain ⟨m, sl, st, hs, hc, h⟩ := h
  exact lc_cell hv ⟨m, sl, st, hs, hc, aftS_stm hs hc h fun w st1 v H1 m1 e1 c1 r1 h1 => aftS_nx h1 ((hs.ext hc e1).set r1) c1⟩
theorem de_lcC (hc : X.calm = true) (hN : X.N.Nodup) (hi : DI G X E tg iter wi) (ok : BlkOk X.N X.env.scope scope own)
    (hg : ∀ (s : Shared) (H : Hp) (C : Addr) (cl : List (Str × Addr)) (fp : List Addr), DG G (X.blk s H scope (compEnvC scope cl C X.env) fp) tg ws g) (ht : ∀ (s : Shared) (H : Hp) (C : Addr) (cl : List (Str × Addr)) (fp : List Addr), PTs (X.blk s H scope (compEnvC scope cl C X.env) fp) ifs (rT G WF tt))
    (he : ∀ (s : Shared) (H : Hp) (C : Addr) (cl : List (Str × Addr)) (fp : List Addr), DE G (X.blk s H scope (compEnvC scope cl C X.env) fp) WF elt te) (hv : ∀ i ∈ ws, i ∈ own.map (·.2) := by decide) (hs : ∀ x, foldedSetIterable iter X.env x = pure x := by intro _; rfl) :
    DE G X E (.ListComp elt [⟨tg, iter, ifs, 0⟩] scope pos) (eLcC wi g tt te (own.map (·.2))) := PE.imp (pe_lc hc hN hi ok hg ht he hs) fun σ H Q h => lc_cell hv h
end
end Dn

namespace Dn
open PySem PySem.Spec PyProof.Rows L2 Ft LamX
/-! ### defs -/
abbrev Spec := List W → Sto → R W
def spD (G : Gx) (n : Nat) (spec : Spec) : Sp := fun vs H Q E => ∃ m ws st, RpWs G m H vs ws ∧ CO G m H st ∧ ws.length = n ∧ aft G E (RpW G) m H (spec ws st) Q
def startW (n : Nat) (ws : List W) : Slo := ws.map some ++ List.replicate (n - ws.length) none
/-- what a def hands back: its own cells are forgotten; a list of its own comes as data (fr), or as the caller's cell -/
def frzI (n : Nat) (st : Sto) : Wi → Option D
  | .d x => some x
  | .c i => if i < n then none else match st[i]? with
    | some (.lst ds) => some (.lst ds)
    | _ => none
def frzL (n : Nat) (st : Sto) : List Wi → Option (List D)
  | [] => some []
  | w :: ws => match frzI n st w, frzL n st ws with
    | some d, some ds => some (d :: ds)
    | _, _ => none
def fin (fr : Bool) (n : Nat) (w : W) (st : Sto) : R W := match w with
  | .d x => some (.ok (.d x), st.take n)
  | .scr ns => some (.ok (.scr ns), st.take n)
  | .c i => if i < n then some (.ok (.c i), st.take n) else match st[i]? with
    | some (.lst ds) => if fr = true then some (.ok (.d (.lst ds)), st.take n) else some (.ok (.c n), st.take n ++ [.lst ds])
    | _ => none
  | .t l => match frzL n st l with
    | some ds => some (.ok (.d (.tup ds)), st.take n)
    | none => none
def runB (fr : Bool) (N : Nat) (f : Sm) (ws : List W) (st : Sto) : R W := match f (startW N ws) st with
  | some (.nx, _, st') => some (.ok (.d .non), st'.take st.length)
  | some (.rt w, _, st') => fin fr st.length w st'
  | some (.ex c fs, _, st') => some (.exc c fs, st'.take st.length)
  | _ => none
section
variable {G : Gx} {m m' : M} {H H' : Hp}
theorem SL.start {vs : List V} {ws : List W} {N : List Str} (h : RpWs G m H vs ws) : SL G m H (L2.start N vs) (startW N.length ws) := by
  refine ⟨?_, fun i w e => ?_⟩
  · unfold L2.start startW
    rw [List.length_append, List.length_append, List.length_map, List.length_map, List.length_replicate, List.length_replicate, h.len]
  · unfold startW at e
    by_cases hi : i < ws.length
    · rw [List.getElem?_append_left (by rw [List.length_map]; exact hi), List.getElem?_map, Option.map_eq_some_iff] at e
      obtain ⟨w', e1, e2⟩ := e
      cases e2
      have : ∀ {vs : List V} {ws : List W} {i : Nat}, RpWs G m H vs ws → ws[i]? = some w → ∃ v, vs[i]? = some v ∧ RpW G m H v w := by
        intro vs ws i h e
        induction h generalizing i with
        | nil => simp at e
        | cons r _ ih =>
          cases i with
          | zero => cases Option.some.inj e; exact ⟨_, rfl, r⟩
          | succ i => exact ih e
      obtain ⟨v, e3, r⟩ := this h e1
      refine ⟨v, ?_, r⟩
      unfold L2.start
      rw [List.getElem?_append_left (by rw [List.length_map, h.len]; exact hi), List.getElem?_map, e3]
      rfl
    · rw [List.getElem?_append_right (by rw [List.length_map]; omega)] at e
      have := List.mem_of_getElem? e
      rw [List.mem_replicate] at this
      exact absurd this.2 (by intro z; cases z)
theorem RpW.fewer (hc : m.c = m'.c.take m.c.length) (h : ∀ a, a ∈ m.all → a ∈ m'.all) {v : V} {w : W} (hw : ∀ n, w ≠ .c n) (ht : ∀ l, w ≠ .t l) (r : RpW G m' H v w) : RpW G m H v w := by
  cases w with
  | d x => exact Rp.fewer h r
  | c n => exact absurd rfl (hw n)
  | scr ns =>
    obtain ⟨a, rfl, l, q⟩ := r
    refine ⟨a, rfl, l, ?_⟩
    rcases q with ⟨q, n⟩ | q
    · exact .inl ⟨q, fun z => n (h a z)⟩
    · exact .inr q
  | t l => exact absurd rfl (ht l)
/-- the body's reading, from the promise's -/
theorem body_ok {E : XK} {fr : Bool} {N : List Str} {f : Sm} {spec : Spec} {n : Nat} (hb : ∀ ws st r, ws.length = n → spec ws st = some r → runB fr N.length f ws st = some r) {vs : List V} {Q : VK} (h : spD G n spec vs H Q E) :
    rS G (fun cls d _ H => E cls d H) f ⟨fun _ H' => Q .non H', Q, fun _ _ => False, fun _ _ => False⟩ (L2.start N vs) H := by
  obtain ⟨m, ws, st, rw_, hc, hl, h⟩ := h
  cases hr : spec ws st with
  | none => rw [hr] at h; exact h.elim
  | some r =>
    have hb := hb ws st r hl hr
    rw [hr] at h
    refine ⟨m, startW N.length ws, st, SL.start rw_, hc, ?_⟩
    unfold runB at hb
    split at hb
    · rename_i sl st' hf
      rw [hf]
      cases hb
      intro σ H1 m1 e1 s1 c1
      obtain ⟨x1, c2, sub⟩ := e1.cut c1
      rw [hc.len] at c2
      exact h .non H1 m x1 c2 (rpd .non)
    · rename_i w sl st' hf
      rw [hf]
      intro v H1 m1 e1 c1 r1
      obtain ⟨x1, c2, sub⟩ := e1.cut c1
      rw [hc.len] at c2
      cases w with
      | d x => cases hb; exact h v H1 m x1 c2 (rpd (Rp.fewer sub r1))
      | scr ns =>
        cases hb
        obtain ⟨a, rfl, l, q⟩ := r1
        refine h _ H1 m x1 c2 ⟨a, rfl, l, ?_⟩
        rcases q with ⟨q, n⟩ | q
        · exact .inl ⟨q, fun z => n (sub a z)⟩
        · exact .inr q
      | t l =>
        obtain ⟨a, xs, rfl, hll, ha, ri⟩ := r1
        simp only [fin] at hb
        split at hb
        · rename_i ds hs
          cases hb
          have key : ∀ {xs : List V} {l : List Wi} {ds : List D}, RpIs G m1 H1 xs l → frzL st.length st' l = some ds → RpA G m H1 xs ds ∧ ds.length = l.length := by
            intro xs l
            induction l generalizing xs with
            | nil => intro ds r e; cases r; cases e; exact ⟨.nil, rfl⟩
            | cons w l ih =>
              intro ds r e
              cases r with
              | @cons v vs _ _ r1 r2 =>
                unfold frzL at e
                split at e
                · rename_i d ds' e1' e2'
                  cases e
                  obtain ⟨q2, q3⟩ := ih r2 e2'
                  refine ⟨.cons ?_ q2, by simp only [List.length_cons, q3]⟩
                  cases w with
                  | d x => cases e1'; exact Rp.fewer sub r1
                  | c i =>
                    obtain ⟨b, hb, rfl⟩ := r1
                    simp only [frzI] at e1'
                    split at e1'
                    · cases e1'
                    · rename_i hi
                      split at e1'
                      · rename_i es hs2
                        cases e1'
                        obtain ⟨ys, q4, q5⟩ := cell_at c1 hb hs2
                        have q0 := cell_len c1 hb hs2
                        obtain ⟨l2, el, hl'⟩ := e1.new
                        have hni : b ∉ m.c := fun z => by
                          obtain ⟨j, hj, ej⟩ := List.getElem_of_mem z
                          have e2 : m1.c[j]? = some b := by rw [el, List.getElem?_append_left hj, List.getElem?_eq_getElem hj, ej]
                          have := nodup_ixA c1.nd hb e2
                          rw [hc.len] at hj
                          omega
                        have hfr : Fr H b := by
                          have hm : b ∈ m1.c := List.mem_of_getElem? hb
                          rw [el] at hm
                          rcases List.mem_append.mp hm with z | z
                          · exact absurd z hni
                          · exact hl' b z
                        have hna : b ∉ m.all := fun z => by
                          rcases List.mem_append.mp z with z | z
                          · exact hni z
                          · exact hc.gh b z hfr
                        exact .lst q0 q4 hna (q5.fewer sub)
                      · cases e1'
                · cases e
          obtain ⟨q1, q2⟩ := key ri hs
          exact h _ H1 m x1 c2 (rpd (.tup (by omega) ha q1))
        · cases hb
      | c i =>
        obtain ⟨a, ha, rfl⟩ := r1
        obtain ⟨l, el, hl'⟩ := e1.new
        simp only [fin] at hb
        split at hb
        · rename_i hi
          cases hb
          refine h _ H1 m x1 c2 ⟨a, ?_, rfl⟩
          rw [el, List.getElem?_append_left (by rw [hc.len]; exact hi)] at ha
          exact ha
        · rename_i hi
          split at hb
          · rename_i ds hs
            obtain ⟨xs, q1, q2⟩ := cell_at c1 ha hs
            have q0 := cell_len c1 ha hs
            have hni : a ∉ m.c := fun z => by
              obtain ⟨j, hj, ej⟩ := List.getElem_of_mem z
              have e2 : m1.c[j]? = some a := by rw [el, List.getElem?_append_left hj, List.getElem?_eq_getElem hj, ej]
              have := nodup_ixA c1.nd ha e2
              rw [hc.len] at hj
              omega
            have hfr : Fr H a := by
              have hm : a ∈ m1.c := List.mem_of_getElem? ha
              rw [el] at hm
              rcases List.mem_append.mp hm with z | z
              · exact absurd z hni
              · exact hl' a z
            have hna : a ∉ m.all := fun z => by
              rcases List.mem_append.mp z with z | z
              · exact hni z
              · exact hc.gh a z hfr
            split at hb
            · cases hb
              exact h _ H1 m x1 c2 (rpd (.lst q0 q1 hna (q2.fewer sub)))
            · cases hb
              have fw : ∀ b, b ∈ (m.add a).all → b ∈ m1.all := fun b z => by
                rcases List.mem_append.mp z with z | z
                · have z : b ∈ m.c ++ [a] := z
                  rcases List.mem_append.mp z with z | z
                  · exact sub b (List.mem_append_left _ z)
                  · rw [List.mem_singleton.mp z]; exact List.mem_append_left _ (List.mem_of_getElem? ha)
                · exact List.mem_append_right _ (e1.gh.1 b z)
              refine h (.ref a) H1 (m.add a) ⟨⟨[a], rfl, fun b hb => by rw [List.mem_singleton.mp hb]; exact hfr⟩, ⟨fun _ h => h, fun _ h => .inl h⟩, e1.keep, e1.dom⟩ ?_ ⟨a, ?_, rfl⟩
              · refine ⟨by show (m.c ++ [a]).length = _; rw [List.length_append, List.length_append, c2.len]; rfl, ?_, fun j b cl z1 z2 => ?_, c2.tabs, c2.gh⟩
                · exact List.nodup_append.mpr ⟨c2.nd, List.nodup_cons.mpr ⟨List.not_mem_nil, List.nodup_nil⟩, fun x hx y hy => by
                    rw [List.mem_singleton.mp hy]
                    rintro rfl
                    exact hni hx⟩
                · have z1 : (m.c ++ [a])[j]? = some b := z1
                  have lt' : (st'.take st.length).length = m.c.length := c2.len.symm
                  rcases Nat.lt_trichotomy j m.c.length with hj | hj | hj
                  · rw [List.getElem?_append_left hj] at z1
                    rw [List.getElem?_append_left (by omega)] at z2
                    have hjs : j < st.length := by rw [← hc.len]; exact hj
                    rw [List.getElem?_take, if_pos hjs] at z2
                    exact (c1.at_ j b cl (by rw [el, List.getElem?_append_left hj]; exact z1) z2).fewer fw
                  · subst hj
                    rw [List.getElem?_append_right (Nat.le_refl _), Nat.sub_self] at z1
                    rw [List.getElem?_append_right (by omega), lt', Nat.sub_self] at z2
                    cases z1
                    cases z2
                    exact ⟨q0, xs, q1, q2.fewer fw⟩
                  · rw [List.getElem?_append_right (Nat.le_of_lt hj), List.getElem?_eq_none (by simp only [List.length_singleton]; omega)] at z1
                    cases z1
              · show (m.c ++ [a])[_]? = _
                rw [← hc.len, List.getElem?_append_right (Nat.le_refl _), Nat.sub_self]
                rfl
          · cases hb
    · rename_i c fs sl st' hf
      rw [hf]
      cases hb
      intro σ H1 m1 C d gs e1 s1 c1 hg hd hf'
      obtain ⟨x1, c2, sub⟩ := e1.cut c1
      rw [hc.len] at c2
      exact h C d gs H1 m x1 c2 hg hd (hf'.fewer sub)
    · cases hb
end
section
variable {P : Program} {w : World} {K : PySem.W.Frag} {mg : Str → Option Value} {T : List (Addr × Str)} {base : Heap} {x qual : Str} {st : Stmt} {f : Addr} {fd : FuncData} {N ps : List Str} {k : Nat} {spec : Spec}
abbrev cxD (P : Program) (w : World) (K : PySem.W.Frag) (mg : Str → Option Value) (base : Heap) (N : List Str) (qual : Str) (sc : Scope) (f : Addr) (cdv : Value) (A : Around) (outer : List Env) (s : Shared) (H : Hp) (E : XK) : Cx := cxOf (L2.CX P w) P w K mg base N qual sc f cdv A outer s H E
/-- where the body's exceptions go -/
abbrev wx (E : XK) : WX := fun cls d _ H => E cls d H
/-- a def by its body's function -/
theorem okD (fr : Bool) (F : Fun K x qual st f fd) (S : FnScope N ps (defScope st))
    (hb : ∀ (cdv : Value) (A : Around) (outer : List Env) (s : Shared) (H : Hp) (E : XK), Room k (A.deeper (envOfC qual (defScope st) s.heap.objs.size f cdv)) →
      Takes (cxD P w K mg base N qual (defScope st) f cdv A outer s H E) (wx E) →
      PassesOwn (model P w) (cxD P w K mg base N qual (defScope st) f cdv A outer s H E).A (cxD P w K mg base N qual (defScope st) f cdv A outer s H E).env (cxD P w K mg base N qual (defScope st) f cdv A outer s H E).xe →
      ∃ b : Sm, DSs ⟨K, mg, T⟩ (cxD P w K mg base N qual (defScope st) f cdv A outer s H E) (wx E) (defBody st) b ∧ ∀ ws st r, ws.length = ps.length → spec ws st = some r → runB fr N.length b ws st = some r) :
    FnOk P w K mg base (L2.CX P w) (k + 1) f fd ps (spD ⟨K, mg, T⟩ ps.length spec) := by
  refine okX F S (fun vs H Q E h => ?_) fun cdv A outer s H vs Q E hr tk px pc h => ?_
  · obtain ⟨m, ws, st, r, _, hl, _⟩ := h
    rw [r.len, hl]
  · obtain ⟨b, d, e⟩ := hb cdv A outer s H E hr tk px
    exact ⟨_, d, body_ok e h⟩
/-- .. where no guard lies on the stack -/
theorem okDG (fr : Bool) (F : Fun K x qual st f fd) (S : FnScope N ps (defScope st))
    (hb : ∀ (cdv : Value) (A : Around) (outer : List Env) (s : Shared) (H : Hp) (E : XK), A.guards = some [] → Room k (A.deeper (envOfC qual (defScope st) s.heap.objs.size f cdv)) →
      Takes (cxD P w K mg base N qual (defScope st) f cdv A outer s H E) (wx E) →
      PassesOwn (model P w) (cxD P w K mg base N qual (defScope st) f cdv A outer s H E).A (cxD P w K mg base N qual (defScope st) f cdv A outer s H E).env (cxD P w K mg base N qual (defScope st) f cdv A outer s H E).xe →
      ∃ b : Sm, DSs ⟨K, mg, T⟩ (cxD P w K mg base N qual (defScope st) f cdv A outer s H E) (wx E) (defBody st) b ∧ ∀ ws st r, ws.length = ps.length → spec ws st = some r → runB fr N.length b ws st = some r) :
    FnG P w K mg base (L2.CX P w) (k + 1) f fd ps (spD ⟨K, mg, T⟩ ps.length spec) := by
  refine okGX F S (fun vs H Q E h => ?_) fun cdv A outer s H vs Q E hg hr h => ?_
  · obtain ⟨m, ws, st, r, _, hl, _⟩ := h
    rw [r.len, hl]
  · have tk : Takes (cxD P w K mg base N qual (defScope st) f cdv A outer s H E) (wx E) := takes_of rfl rfl rfl rfl
    obtain ⟨b, d, e⟩ := hb cdv A outer s H E hg hr tk (passes_of rfl)
    exact ⟨_, d, body_ok e h⟩
end
/-! ### calls -/
def eFn (spec : Spec) (fa : Ax) : Ex := fun sl st => bnd (fa sl st) fun ws st1 => spec ws st1
section
variable {G : Gx} {X : Cx} {E : WX} {k : Nat} {x : Str} {ps : List Str} {n : Nat} {spec : Spec} {p pos : Pos} {e : Expr} {es : List Expr} {fr : Ax}
theorem spD_ok {σ : L2.St} {H : Hp} {Q : VK} (hn : ∀ ws st r, spec ws st = some r → ws.length = n) (h : rE G E (eFn spec fr) σ H Q) : rA G E fr σ H fun vs H1 => spD G n spec vs H1 Q (WE E σ) := by
  obtain ⟨m, sl, st, hs, hc, h⟩ := h
  refine ⟨m, sl, st, hs, hc, aft_bnd h fun ws st1 vs H1 m1 e1 c1 r1 h1 => ⟨m1, ws, st1, r1, c1, ?_, h1⟩⟩
  cases hr : spec ws st1 with
  | none => rw [hr] at h1; exact h1.elim
  | some r => exact hn _ _ _ hr
/-- a program's def -/
theorem de_o (F : HasO X.prog X.w X.K X.mg X.base (L2.CX X.prog X.w) k x ps (spD G n spec)) (hr : Room k X.A) (tk : Takes X E) (gl : Gl X x) (hn : ∀ ws st r, spec ws st = some r → ws.length = n) (ha : DA G X E (e :: es) fr) (hdb : (x == ("__debug__" : Str)) = false := by decide)
    (he : starEach (e :: es) X.env = (false, eval e X.env) :: starEach es X.env := by rfl) (hpl : (backTo pos (starEach es X.env)).any (·.1) = false := by rfl) : DE G X E (.Call (.Name x p) (e :: es) [] pos) (eFn spec fr) := by
  obtain ⟨f, fd, g, hm, hk, hb⟩ := F.ex
  exact PE.imp (pe_callS (E := WE E) g hr gl hm hk hb (fun σ => passAt tk σ) ha hdb he hpl) fun σ H Q h => spD_ok hn h
/-- a def of the law (no guards on the stack) -/
theorem de_g (F : Has X.prog X.w X.K X.mg X.base (L2.CX X.prog X.w) k x ps (spD G n spec)) (hg : X.A.guards = some []) (hr : Room k X.A) (tk : Takes X E) (gl : Gl X x) (hn : ∀ ws st r, spec ws st = some r → ws.length = n) (ha : DA G X E (e :: es) fr) (hdb : (x == ("__debug__" : Str)) = false := by decide)
    (he : starEach (e :: es) X.env = (false, eval e X.env) :: starEach es X.env := by rfl) (hpl : (backTo pos (starEach es X.env)).any (·.1) = false := by rfl) : DE G X E (.Call (.Name x p) (e :: es) [] pos) (eFn spec fr) := by
  obtain ⟨f, fd, g, hm, hk, hb⟩ := F.ex
  refine PE.imp (t := fun σ H Q => rA G E fr σ H fun vs H1 => spD G n spec vs H1 Q (WE E σ)) ⟨fun pins s σ H Q I h => ?_⟩ fun σ H Q h => spD_ok hn h
  apply wpAny_Call_Name_kw
  apply ld_glob I gl hm _ hdb
  apply PySem.W.callWith_K (h₀ := X.base) I.ok.mod.kin hk _ he hpl
  apply thn (ha.run pos pins s σ H _ I h)
  rintro us s1 ⟨vs, H1, I1, r, q⟩
  refine ⟨I1.kIn, ?_⟩
  have hl : us.length = ps.length := r.length.symm.trans (g.gLen vs H1 Q _ q)
  have bt := hb s1 us I1.kIn (by rw [List.append_nil]; exact hl)
  rw [List.append_nil] at bt
  apply wpAny_call
  apply codeAny_mono (g.gRun X.A hg hr X.stack s1 H1 I1.env0 ⟨us, []⟩ us vs Q (WE E σ) bt r q)
  intro res s2 q
  match res, q with
  | .ok (.ret u), q => exact I1.after q
  | .ok .next, q => exact False.elim q
  | .ok .brk, q => exact False.elim q
  | .ok .cont, q => exact False.elim q
  | .error e, q => exact passAt tk σ pins H1 s1 e s2 I1 q
end
end Dn

namespace Dn
open PySem PySem.Spec PyProof.Rows L2 Ft LamX
/-! ### data of Python -/
mutual
def toP : D → PyData
  | .non => .none
  | .bl b => .bool b
  | .int i => .int i
  | .str x => .str x
  | .tup ds => .tuple (toPs ds)
  | .lst ds => .list (toPs ds)
  | .obj _ _ => .none
  | .emp => .none
def toPs : List D → List PyData
  | [] => []
  | d :: ds => toP d :: toPs ds
end
/-- data without objects, of a depth of at most n -/
def dok : Nat → D → Bool
  | _, .non => true
  | _, .bl _ => true
  | _, .int _ => true
  | _, .str _ => true
  | 0, .tup _ => false
  | 0, .lst _ => false
  | n + 1, .tup ds => ds.all (dok n)
  | n + 1, .lst ds => ds.all (dok n)
  | _, .obj _ _ => false
  | _, .emp => false
def eqD (d e : D) : Bool := PyData.eqv (toP d) (toP e)
section
variable {G : Gx} {m : M} {H : Hp}
theorem dok_ok : ∀ (n : Nat) {v : V} {d : D}, Rp G m H v d → dok n d = true → Dp G.K H v (toP d) ∧ (toP d).plain = true ∧ (toP d).depth ≤ n := by
  intro n
  induction n with
  | zero =>
    intro v d r h
    cases r with
    | non => exact ⟨.non, rfl, Nat.le_refl _⟩
    | bl b => exact ⟨.bl b, rfl, Nat.le_refl _⟩
    | int i => exact ⟨.int i, rfl, Nat.le_refl _⟩
    | str x _ => exact ⟨.str x, rfl, Nat.le_refl _⟩
    | tup _ _ _ => cases h
    | lst _ _ _ _ => cases h
    | obj _ _ _ _ => cases h
    | emp _ _ => cases h
  | succ n ih =>
    have all : ∀ {vs : List V} {ds : List D}, RpA G m H vs ds → ds.all (dok n) = true → DpAll G.K H vs (toPs ds) ∧ PyData.plainAll (toPs ds) = true ∧ PyData.depthAll (toPs ds) ≤ n := by
      intro vs ds r h
      induction ds generalizing vs with
      | nil => cases r; exact ⟨.nil, rfl, Nat.zero_le _⟩
      | cons d ds ih2 =>
        cases r with
        | cons r1 r2 =>
          rw [List.all_cons, Bool.and_eq_true] at h
          obtain ⟨a1, a2, a3⟩ := ih r1 h.1
          obtain ⟨b1, b2, b3⟩ := ih2 r2 h.2
          refine ⟨.cons a1 b1, ?_, ?_⟩
          · simp only [toPs, PyData.plainAll, a2, b2, Bool.and_self]
          · simp only [toPs, PyData.depthAll]
            omega
    intro v d r h
    cases r with
    | non => exact ⟨.non, rfl, Nat.zero_le _⟩
    | bl b => exact ⟨.bl b, rfl, Nat.zero_le _⟩
    | int i => exact ⟨.int i, rfl, Nat.zero_le _⟩
    | str x _ => exact ⟨.str x, rfl, Nat.zero_le _⟩
    | tup _ e q =>
      obtain ⟨a1, a2, a3⟩ := all q h
      refine ⟨.tup (.inl (.inl e)) a1, by simp only [toP, PyData.plain]; exact a2, ?_⟩
      simp only [toP, PyData.depth]
      omega
    | lst _ e _ q =>
      obtain ⟨a1, a2, a3⟩ := all q h
      refine ⟨.lst (.inl (.inl e)) a1, by simp only [toP, PyData.plain]; exact a2, ?_⟩
      simp only [toP, PyData.depth]
      omega
    | obj _ _ _ _ => cases h
    | emp _ _ => cases h
theorem dokAll_ok (n : Nat) : ∀ {vs : List V} {ds : List D}, RpA G m H vs ds → ds.all (dok n) = true → DpAll G.K H vs (toPs ds) ∧ PyData.plainAll (toPs ds) = true ∧ PyData.depthAll (toPs ds) ≤ n := by
  intro vs ds r h
  induction ds generalizing vs with
  | nil => cases r; exact ⟨.nil, rfl, Nat.zero_le _⟩
  | cons d ds ih2 =>
    cases r with
    | cons r1 r2 =>
      rw [List.all_cons, Bool.and_eq_true] at h
      obtain ⟨a1, a2, a3⟩ := dok_ok n r1 h.1
      obtain ⟨b1, b2, b3⟩ := ih2 r2 h.2
      refine ⟨.cons a1 b1, ?_, ?_⟩
      · simp only [toPs, PyData.plainAll, a2, b2, Bool.and_self]
      · simp only [toPs, PyData.depthAll]
        omega
theorem dokX_ok (n : Nat) {v : V} {d : D} (r : RpX G m H v d) (h : dok n d = true) : Dp G.K H v (toP d) ∧ (toP d).plain = true ∧ (toP d).depth ≤ n := by
  rcases r with r | ⟨a, xs, ds, rfl, rfl, _, h1, h2⟩ | ⟨a, C, dx, c, fs, gs, rfl, rfl, _⟩
  · exact dok_ok n r h
  · cases n with
    | zero => cases h
    | succ n =>
      obtain ⟨a1, a2, a3⟩ := dokAll_ok n h2 h
      refine ⟨.lst (.inl (.inl h1)) a1, by simp only [toP, PyData.plain]; exact a2, ?_⟩
      simp only [toP, PyData.depth]
      omega
  · cases n <;> cases h
end
theorem toPs_any {ds : List D} {p : PyData → Bool} : (toPs ds).any p = ds.any fun d => p (toP d) := by
  induction ds with
  | nil => rfl
  | cons d ds ih => simp only [toPs, List.any_cons, ih]
/-! ### operators -/
def gAdd : D → D → Option D
  | .int i, .int j => some (.int (i + j))
  | .str x, .str y => if x.length + y.length ≤ lim then some (.str (x ++ y)) else none
  | .tup ds, .tup es => if ds.length + es.length ≤ lim then some (.tup (ds ++ es)) else none
  | .lst ds, .lst es => if ds.length + es.length ≤ lim then some (.lst (ds ++ es)) else none
  | _, _ => none
def gSub : D → D → Option D
  | .int i, .int j => some (.int (i - j))
  | _, _ => none
def gMul : D → D → Option D
  | .int i, .int j => if (-(2 ^ 64) < i ∧ i < 2 ^ 64) ∨ (-(2 ^ 64) < j ∧ j < 2 ^ 64) then some (.int (i * j)) else none
  | _, _ => none
def gDiv : D → D → Option D
  | .int i, .int j => if 0 < j ∧ j < 1073741824 then some (.int (i / j)) else none
  | _, _ => none
def gMod : D → D → Option D
  | .int i, .int j => if 0 < j then some (.int (i % j)) else none
  | _, _ => none
def gPow : D → D → Option D
  | .int i, .int j => if 0 ≤ j ∧ j ≤ 1000000 ∧ i.natAbs < 2 ^ 64 then some (.int (i ^ j.toNat)) else none
  | _, _ => none
def gEq (d e : D) : Option D := if dok 60 d = true ∧ dok 60 e = true then some (.bl (eqD d e)) else none
def gNe (d e : D) : Option D := if dok 60 d = true ∧ dok 60 e = true then some (.bl (!eqD d e)) else none
def gLt : D → D → Option D
  | .int i, .int j => some (.bl (decide (i < j)))
  | .str x, .str y => some (.bl (decide (x.cps.toList < y.cps.toList)))
  | _, _ => none
def gLe : D → D → Option D
  | .int i, .int j => some (.bl (decide (i ≤ j)))
  | .str x, .str y => some (.bl (!decide (y.cps.toList < x.cps.toList)))
  | _, _ => none
def gGt : D → D → Option D
  | .int i, .int j => some (.bl (decide (j < i)))
  | _, _ => none
def gGe : D → D → Option D
  | .int i, .int j => some (.bl (decide (j ≤ i)))
  | _, _ => none
def inD (d : D) (ds : List D) : Bool := ds.any fun e => eqD e d
def inS (x y : Str) : Bool := !(Builtin.Str.occurrences y x 0 y.length 1).isEmpty
def gIn : D → D → Option D
  | d, .tup ds => if dok 60 d = true ∧ ds.all (dok 60) = true then some (.bl (inD d ds)) else none
  | d, .lst ds => if dok 60 d = true ∧ ds.all (dok 60) = true then some (.bl (inD d ds)) else none
  | .str x, .str y => some (.bl (inS x y))
  | _, _ => none
def gNotIn : D → D → Option D
  | d, .tup ds => if dok 60 d = true ∧ ds.all (dok 60) = true then some (.bl (!inD d ds)) else none
  | d, .lst ds => if dok 60 d = true ∧ ds.all (dok 60) = true then some (.bl (!inD d ds)) else none
  | .str x, .str y => some (.bl (!inS x y))
  | _, _ => none
def isN : D → Bool
  | .non => true
  | _ => false
def gIsN : D → D → Option D
  | d, .non => some (.bl (isN d))
  | _, _ => none
def gNotN : D → D → Option D
  | d, .non => some (.bl (!isN d))
  | _, _ => none
def gNeg : D → Option D
  | .int i => some (.int (-i))
  | _ => none
section
variable {G : Gx} {X : Cx} {m : M} {H : Hp}
theorem RpX.int {v : V} {i : Int} (r : RpX G m H v (.int i)) : v = .int i := by
  rcases r with r | ⟨_, _, _, _, z, _⟩ | ⟨_, _, _, _, _, _, _, z, _⟩
  · cases r; rfl
  · cases z
  · cases z
theorem RpX.str {v : V} {i : Str} (r : RpX G m H v (.str i)) : v = .str i := by
  rcases r with r | ⟨_, _, _, _, z, _⟩ | ⟨_, _, _, _, _, _, _, z, _⟩
  · cases r; rfl
  · cases z
  · cases z
theorem RpX.non {v : V} (r : RpX G m H v .non) : v = .non := by
  rcases r with r | ⟨_, _, _, _, z, _⟩ | ⟨_, _, _, _, _, _, _, z, _⟩
  · cases r; rfl
  · cases z
  · cases z
theorem RpX.bl {v : V} {b : Bool} (r : RpX G m H v (.bl b)) : v = .bl b := by
  rcases r with r | ⟨_, _, _, _, z, _⟩ | ⟨_, _, _, _, _, _, _, z, _⟩
  · cases r; rfl
  · cases z
  · cases z
theorem RpX.tup {v : V} {ds : List D} (r : RpX G m H v (.tup ds)) : ∃ a xs, v = .ref a ∧ H a = some (.tup xs) ∧ RpA G m H xs ds := by
  rcases r with r | ⟨_, _, _, _, z, _⟩ | ⟨_, _, _, _, _, _, _, z, _⟩
  · cases r with | tup _ e q => exact ⟨_, _, rfl, e, q⟩
  · cases z
  · cases z
theorem RpX.lst {v : V} {ds : List D} (r : RpX G m H v (.lst ds)) : ∃ a xs, v = .ref a ∧ H a = some (.lst xs) ∧ RpA G m H xs ds := by
  rcases r with r | ⟨a, xs, es, rfl, z, _, q, q2⟩ | ⟨_, _, _, _, _, _, _, z, _⟩
  · cases r with | lst _ e _ q => exact ⟨_, _, rfl, e, q⟩
  · cases z; exact ⟨a, xs, rfl, q, q2⟩
  · cases z
theorem RpX.slen {v : V} {x : Str} (r : RpX G m H v (.str x)) : x.length ≤ lim := by
  rcases r with r | ⟨_, _, _, _, z, _⟩ | ⟨_, _, _, _, _, _, _, z, _⟩
  · cases r with | str _ h => exact h
  · cases z
  · cases z
theorem RpX.tlen {v : V} {ds : List D} (r : RpX G m H v (.tup ds)) : ds.length ≤ lim := by
  rcases r with r | ⟨_, _, _, _, z, _⟩ | ⟨_, _, _, _, _, _, _, z, _⟩
  · cases r with | tup h _ _ => exact h
  · cases z
  · cases z
theorem RpX.llen {v : V} {ds : List D} (r : RpX G m H v (.lst ds)) : ds.length ≤ lim := by
  rcases r with r | ⟨_, _, _, _, z, h, _⟩ | ⟨_, _, _, _, _, _, _, z, _⟩
  · cases r with | lst h _ _ _ => exact h
  · cases z; exact h
  · cases z
theorem gv {d : D} {v : V} {Q : VK} (h : Gives G m H d Q) (r : Rp G m H v d) : Q v H := h v H (fun _ _ h => h) r
theorem RpA.app {vs us : List V} {ds es : List D} (h : RpA G m H vs ds) (k : RpA G m H us es) : RpA G m H (vs ++ us) (ds ++ es) := by
  induction ds generalizing vs with
  | nil => cases h; exact k
  | cons d ds ih => cases h with | cons h1 h2 => exact .cons h1 (ih h2)
theorem app_len (x y : Str) : (x ++ y).length = x.length + y.length := by
  show (x.cps ++ y.cps).size = x.cps.size + y.cps.size
  exact Array.size_append
theorem p_add (hK : X.K = G.K := by rfl) : OpP G X (binaryOp .Add) gAdd := by
  rintro pins s σ H x y v u Q I rx ry ⟨m, st, d1, d2, d, co, r1, r2, e, q⟩
  unfold gAdd at e
  split at e
  · cases e
    cases r1.int; cases r2.int
    exact op_add pins s σ H _ _ v u Q I rx ry ⟨_, _, rfl, rfl, gv q (.int _)⟩
  · split at e
    · rename_i hl
      cases e
      cases r1.str; cases r2.str
      exact op_add_str pins s σ H _ _ v u Q I rx ry ⟨_, _, rfl, rfl, lim_le hl, gv q (.str _ (by rw [app_len]; exact hl))⟩
    · cases e
  · split at e
    · rename_i hl
      cases e
      obtain ⟨a, xs, rfl, h1, q1⟩ := r1.tup
      obtain ⟨b, ys, rfl, h2, q2⟩ := r2.tup
      refine op_catA pins s σ H _ _ v u Q I rx ry ⟨a, b, xs, ys, rfl, rfl, .inl (.inl h1), .inl (.inl h2), by rw [q1.len, q2.len]; exact lim_le hl, fun z => ?_, fun _ z => ?_, fun _ _ p hp => q _ _ (same_new hp) (rp_tup hp (by rw [List.length_append]; exact hl) (q1.app q2))⟩
      · subst z
        cases q1
        exact gv q (.tup r2.tlen h2 q2)
      · subst z
        cases q2
        rw [List.append_nil] at q
        exact gv q (.tup r1.tlen h1 q1)
    · cases e
  · split at e
    · rename_i ds es hl
      cases e
      obtain ⟨a, xs, rfl, h1, q1⟩ := r1.lst
      obtain ⟨b, ys, rfl, h2, q2⟩ := r2.lst
      exact op_cat pins s σ H _ _ v u Q I rx ry ⟨a, b, xs, ys, rfl, rfl, h1, h2, by rw [q1.len, q2.len]; exact lim_le hl, fun p hp => q _ _ (same_new hp) (rp_lst co hp (by rw [List.length_append]; exact hl) (q1.app q2))⟩
    · cases e
  · cases e
theorem p_sub : OpP G X (binaryOp .Sub) gSub := by
  rintro pins s σ H x y v u Q I rx ry ⟨m, st, d1, d2, d, co, r1, r2, e, q⟩
  unfold gSub at e
  split at e
  · cases e
    cases r1.int; cases r2.int
    exact op_sub pins s σ H _ _ v u Q I rx ry ⟨_, _, rfl, rfl, gv q (.int _)⟩
  · cases e
theorem p_mul : OpP G X (binaryOp .Mult) gMul := by
  rintro pins s σ H x y v u Q I rx ry ⟨m, st, d1, d2, d, co, r1, r2, e, q⟩
  unfold gMul at e
  split at e
  · split at e
    · rename_i hl
      cases e
      cases r1.int; cases r2.int
      exact op_mul pins s σ H _ _ v u Q I rx ry ⟨_, _, rfl, rfl, hl, gv q (.int _)⟩
    · cases e
  · cases e
theorem p_div : OpP G X (binaryOp .FloorDiv) gDiv := by
  rintro pins s σ H x y v u Q I rx ry ⟨m, st, d1, d2, d, co, r1, r2, e, q⟩
  unfold gDiv at e
  split at e
  · split at e
    · rename_i hl
      cases e
      cases r1.int; cases r2.int
      exact op_fdiv pins s σ H _ _ v u Q I rx ry ⟨_, _, rfl, rfl, hl, gv q (.int _)⟩
    · cases e
  · cases e
theorem p_mod : OpP G X (binaryOp .Mod) gMod := by
  rintro pins s σ H x y v u Q I rx ry ⟨m, st, d1, d2, d, co, r1, r2, e, q⟩
  unfold gMod at e
  split at e
  · split at e
    · rename_i hl
      cases e
      cases r1.int; cases r2.int
      exact op_mod pins s σ H _ _ v u Q I rx ry ⟨_, _, rfl, rfl, hl, gv q (.int _)⟩
    · cases e
  · cases e
theorem p_pow : OpP G X (binaryOp .Pow) gPow := by
  rintro pins s σ H x y v u Q I rx ry ⟨m, st, d1, d2, d, co, r1, r2, e, q⟩
  unfold gPow at e
  split at e
  · split at e
    · rename_i hl
      cases e
      cases r1.int; cases r2.int
      exact op_pow pins s σ H _ _ v u Q I rx ry ⟨_, _, rfl, rfl, hl, gv q (.int _)⟩
    · cases e
  · cases e
theorem p_eq (hu : X.A.units + 64 < cLine) (hK : X.K = G.K := by rfl) : OpP G X (compareOp .Eq) gEq := by
  rintro pins s σ H x y v u Q I rx ry ⟨m, st, d1, d2, d, co, r1, r2, e, q⟩
  unfold gEq at e
  split at e
  · rename_i hd
    cases e
    obtain ⟨a1, a2, a3⟩ := dokX_ok 60 r1 hd.1
    obtain ⟨b1, b2, b3⟩ := dokX_ok 60 r2 hd.2
    rw [← hK] at a1 b1
    obtain ⟨as, q1⟩ := Dp.reads I _ x v a1 rx
    obtain ⟨bs, q2⟩ := Dp.reads I _ y u b1 ry
    exact SeqAt.eq_plain q1 q2 a2 b2 (by omega) ⟨.bl _, H, I, rfl, gv q (.bl _)⟩
  · cases e
theorem p_ne (hu : X.A.units + 64 < cLine) (hK : X.K = G.K := by rfl) : OpP G X (compareOp .NotEq) gNe := by
  rintro pins s σ H x y v u Q I rx ry ⟨m, st, d1, d2, d, co, r1, r2, e, q⟩
  unfold gNe at e
  split at e
  · rename_i hd
    cases e
    obtain ⟨a1, a2, a3⟩ := dokX_ok 60 r1 hd.1
    obtain ⟨b1, b2, b3⟩ := dokX_ok 60 r2 hd.2
    rw [← hK] at a1 b1
    obtain ⟨as, q1⟩ := Dp.reads I _ x v a1 rx
    obtain ⟨bs, q2⟩ := Dp.reads I _ y u b1 ry
    exact SeqAt.ne_plain q1 q2 a2 b2 (by omega) ⟨.bl _, H, I, rfl, gv q (.bl _)⟩
  · cases e
theorem p_lt : OpP G X (compareOp .Lt) gLt := by
  rintro pins s σ H x y v u Q I rx ry ⟨m, st, d1, d2, d, co, r1, r2, e, q⟩
  unfold gLt at e
  split at e
  · cases e
    cases r1.int; cases r2.int
    exact op_lt pins s σ H _ _ v u Q I rx ry ⟨_, _, rfl, rfl, gv q (.bl _)⟩
  · cases e
    cases r1.str; cases r2.str
    exact op_lt_str pins s σ H _ _ v u Q I rx ry ⟨_, _, rfl, rfl, gv q (.bl _)⟩
  · cases e
theorem p_le : OpP G X (compareOp .LtE) gLe := by
  rintro pins s σ H x y v u Q I rx ry ⟨m, st, d1, d2, d, co, r1, r2, e, q⟩
  unfold gLe at e
  split at e
  · cases e
    cases r1.int; cases r2.int
    exact op_le pins s σ H _ _ v u Q I rx ry ⟨_, _, rfl, rfl, gv q (.bl _)⟩
  · cases e
    cases r1.str; cases r2.str
    exact op_le_str pins s σ H _ _ v u Q I rx ry ⟨_, _, rfl, rfl, gv q (.bl _)⟩
  · cases e
theorem p_gt : OpP G X (compareOp .Gt) gGt := by
  rintro pins s σ H x y v u Q I rx ry ⟨m, st, d1, d2, d, co, r1, r2, e, q⟩
  unfold gGt at e
  split at e
  · cases e
    cases r1.int; cases r2.int
    exact op_gt pins s σ H _ _ v u Q I rx ry ⟨_, _, rfl, rfl, gv q (.bl _)⟩
  · cases e
theorem p_ge : OpP G X (compareOp .GtE) gGe := by
  rintro pins s σ H x y v u Q I rx ry ⟨m, st, d1, d2, d, co, r1, r2, e, q⟩
  unfold gGe at e
  split at e
  · cases e
    cases r1.int; cases r2.int
    exact op_ge pins s σ H _ _ v u Q I rx ry ⟨_, _, rfl, rfl, gv q (.bl _)⟩
  · cases e
theorem p_in (hu : X.A.units + 64 < cLine) (hK : X.K = G.K := by rfl) : OpP G X (compareOp .In) gIn := by
  rintro pins s σ H x y v u Q I rx ry ⟨m, st, d1, d2, d, co, r1, r2, e, q⟩
  unfold gIn at e
  split at e
  · split at e
    · rename_i hd
      cases e
      obtain ⟨a1, a2, a3⟩ := dokX_ok 60 r1 hd.1
      obtain ⟨b1, b2, b3⟩ := dokX_ok (n := 61) r2 (show dok 61 (.tup _) = true from hd.2)
      rw [← hK] at a1 b1
      obtain ⟨as, q1⟩ := Dp.reads I _ x v a1 rx
      obtain ⟨bs, q2⟩ := Dp.reads I _ y u b1 ry
      refine SeqAt.in_tuple_data q2 q1 b2 a2 (by omega) ⟨.bl _, H, I, rfl, ?_⟩
      rw [toPs_any]
      exact gv q (.bl _)
    · cases e
  · split at e
    · rename_i hd
      cases e
      obtain ⟨a1, a2, a3⟩ := dokX_ok 60 r1 hd.1
      obtain ⟨b1, b2, b3⟩ := dokX_ok (n := 61) r2 (show dok 61 (.lst _) = true from hd.2)
      rw [← hK] at a1 b1
      obtain ⟨as, q1⟩ := Dp.reads I _ x v a1 rx
      obtain ⟨bs, q2⟩ := Dp.reads I _ y u b1 ry
      refine SeqAt.in_list_data q2 q1 b2 a2 (by omega) ⟨.bl _, H, I, rfl, ?_⟩
      rw [toPs_any]
      exact gv q (.bl _)
    · cases e
  · cases e
    cases r1.str; cases r2.str
    exact op_in_str pins s σ H _ _ v u Q I rx ry ⟨_, _, rfl, rfl, gv q (.bl _)⟩
  · cases e
theorem p_notIn (hu : X.A.units + 64 < cLine) (hK : X.K = G.K := by rfl) : OpP G X (compareOp .NotIn) gNotIn := by
  rintro pins s σ H x y v u Q I rx ry ⟨m, st, d1, d2, d, co, r1, r2, e, q⟩
  unfold gNotIn at e
  split at e
  · split at e
    · rename_i hd
      cases e
      obtain ⟨a1, a2, a3⟩ := dokX_ok 60 r1 hd.1
      obtain ⟨b1, b2, b3⟩ := dokX_ok (n := 61) r2 (show dok 61 (.tup _) = true from hd.2)
      rw [← hK] at a1 b1
      obtain ⟨as, q1⟩ := Dp.reads I _ x v a1 rx
      obtain ⟨bs, q2⟩ := Dp.reads I _ y u b1 ry
      refine SeqAt.notIn_tuple_data q2 q1 b2 a2 (by omega) ⟨.bl _, H, I, rfl, ?_⟩
      rw [toPs_any]
      exact gv q (.bl _)
    · cases e
  · split at e
    · rename_i hd
      cases e
      obtain ⟨a1, a2, a3⟩ := dokX_ok 60 r1 hd.1
      obtain ⟨b1, b2, b3⟩ := dokX_ok (n := 61) r2 (show dok 61 (.lst _) = true from hd.2)
      rw [← hK] at a1 b1
      obtain ⟨as, q1⟩ := Dp.reads I _ x v a1 rx
      obtain ⟨bs, q2⟩ := Dp.reads I _ y u b1 ry
      refine SeqAt.notIn_list_data q2 q1 b2 a2 (by omega) ⟨.bl _, H, I, rfl, ?_⟩
      rw [toPs_any]
      exact gv q (.bl _)
    · cases e
  · cases e
    cases r1.str; cases r2.str
    exact op_notin_str pins s σ H _ _ v u Q I rx ry ⟨_, _, rfl, rfl, gv q (.bl _)⟩
  · cases e
theorem isN_ok {v : V} {d : D} (r : RpX G m H v d) : decide (v = .non) = isN d := by
  rcases r with r | ⟨a, xs, ds, rfl, rfl, _, h1, h2⟩ | ⟨a, C, dx, c, fs, gs, rfl, rfl, _⟩
  · cases r <;> rfl
  · rfl
  · rfl
theorem p_is : OpP G X (compareOp .Is) gIsN := by
  rintro pins s σ H x y v u Q I rx ry ⟨m, st, d1, d2, d, co, r1, r2, e, q⟩
  unfold gIsN at e
  split at e
  · cases e
    cases r2.non
    exact op_isN pins s σ H _ _ v u Q I rx ry ⟨rfl, by rw [isN_ok r1]; exact gv q (.bl _)⟩
  · cases e
theorem p_isNot : OpP G X (compareOp .IsNot) gNotN := by
  rintro pins s σ H x y v u Q I rx ry ⟨m, st, d1, d2, d, co, r1, r2, e, q⟩
  unfold gNotN at e
  split at e
  · cases e
    cases r2.non
    exact op_notN pins s σ H _ _ v u Q I rx ry ⟨rfl, by rw [isN_ok r1]; exact gv q (.bl _)⟩
  · cases e
theorem p_neg : UnP G X (unaryOp .USub) gNeg := by
  rintro pins s σ H x v Q I rx ⟨m, st, d1, d, co, r1, e, q⟩
  unfold gNeg at e
  split at e
  · cases e
    cases r1.int
    exact un_neg pins s σ H _ v Q I rx ⟨_, rfl, gv q (.int _)⟩
  · cases e
end
end Dn

namespace Dn
open PySem PySem.Spec PyProof.Rows L2 Ft LamX
/-! ### built-ins called -/
def gLen : List D → Option D
  | [.str x] => some (.int x.length)
  | [.tup ds] => some (.int ds.length)
  | [.lst ds] => some (.int ds.length)
  | _ => none
def gAbs : List D → Option D
  | [.int i] => some (.int (if i < 0 then -i else i))
  | _ => none
def gMax2 : List D → Option D
  | [.int i, .int j] => some (.int (if j > i then j else i))
  | _ => none
def gMin2 : List D → Option D
  | [.int i, .int j] => some (.int (if j < i then j else i))
  | _ => none
def gInt : List D → Option D
  | [.int i] => some (.int i)
  | [.bl k] => some (.int (if k then 1 else 0))
  | _ => none
def gStr : List D → Option D
  | [.int i] => if i.natAbs.log2 < 1920 ∧ (Str.ofString (toString i)).length ≤ lim then some (.str (Str.ofString (toString i))) else none
  | _ => none
def gTuple : List D → Option D
  | [.tup ds] => some (.tup ds)
  | [.lst ds] => some (.tup ds)
  | _ => none
def gList : List D → Option D
  | [.tup ds] => some (.lst ds)
  | [.lst ds] => some (.lst ds)
  | _ => none
def bools : List D → Option (List Bool)
  | [] => some []
  | .bl b :: ds => (bools ds).map (b :: ·)
  | _ => none
def gAll : List D → Option D
  | [.lst ds] => (bools ds).map fun bs => .bl (bs.all id)
  | _ => none
def gAny : List D → Option D
  | [.lst ds] => (bools ds).map fun bs => .bl (bs.any id)
  | _ => none
def gRepr : List D → Option D
  | [d] => if dok 60 d = true ∧ (toP d).showable = true ∧ (toP d).shown.length ≤ lim then some (.str (toP d).shown) else none
  | _ => none
section
variable {G : Gx} {X : Cx} {m : M} {H : Hp}
theorem xs1 {vs : List V} {d : D} (r : RpXs G m H vs [d]) : ∃ v, vs = [v] ∧ RpY G m H v d := by
  cases r with | cons a b => cases b; exact ⟨_, rfl, a⟩
theorem xs2 {vs : List V} {d e : D} (r : RpXs G m H vs [d, e]) : ∃ v u, vs = [v, u] ∧ RpY G m H v d ∧ RpY G m H u e := by
  cases r with | cons a b => cases b with | cons c z => cases z; exact ⟨_, _, rfl, a, c⟩
theorem RpY.x {v : V} {d : D} (r : RpY G m H v d) (h : ∀ ds, d ≠ .lst ds) : RpX G m H v d := by
  rcases r with r | ⟨_, ns, _, z, _, _⟩
  · exact r
  · exact absurd z (h _)
theorem RpY.lst {v : V} {ds : List D} (r : RpY G m H v (.lst ds)) : ∃ a xs, v = .ref a ∧ SqL G.K H a xs ∧ RpA G m H xs ds := by
  rcases r with r | ⟨a, ns, rfl, z, _, h⟩
  · obtain ⟨a, xs, h1, h2, h3⟩ := r.lst
    exact ⟨a, xs, h1, .inl (.inl h2), h3⟩
  · cases z
    exact ⟨a, _, rfl, h, RpA.ints ns⟩
theorem RpY.int {v : V} {i : Int} (r : RpY G m H v (.int i)) : v = .int i := (r.x (by intro _ z; cases z)).int
theorem RpY.str {v : V} {i : Str} (r : RpY G m H v (.str i)) : v = .str i := (r.x (by intro _ z; cases z)).str
theorem RpY.bl {v : V} {i : Bool} (r : RpY G m H v (.bl i)) : v = .bl i := (r.x (by intro _ z; cases z)).bl
theorem RpY.tup {v : V} {ds : List D} (r : RpY G m H v (.tup ds)) : ∃ a xs, v = .ref a ∧ H a = some (.tup xs) ∧ RpA G m H xs ds := (r.x (by intro _ z; cases z)).tup
theorem RpY.slen {v : V} {x : Str} (r : RpY G m H v (.str x)) : x.length ≤ lim := (r.x (by intro _ z; cases z)).slen
theorem RpY.tlen {v : V} {ds : List D} (r : RpY G m H v (.tup ds)) : ds.length ≤ lim := (r.x (by intro _ z; cases z)).tlen
theorem RpY.llen {v : V} {ds : List D} (r : RpY G m H v (.lst ds)) : ds.length ≤ lim := by
  rcases r with r | ⟨a, ns, rfl, z, l, h⟩
  · exact r.llen
  · cases z
    rw [List.length_map]
    exact l
theorem c_len (hK : X.K = G.K := by rfl) : CallP G X (.builtin "len") gLen := by
  rintro pins s σ H xs us Q I r ⟨m, st, ds, d, co, rs, e, q⟩
  unfold gLen at e
  split at e
  · cases e
    obtain ⟨v, rfl, r1⟩ := xs1 rs
    have hl := r1.slen
    cases r1.str
    exact call_len_str pins s σ H _ us Q I r ⟨_, rfl, lim_le hl, gv q (.int _)⟩
  · cases e
    obtain ⟨v, rfl, r1⟩ := xs1 rs
    obtain ⟨a, ys, rfl, h1, h2⟩ := r1.tup
    exact call_len_seq pins s σ H _ us Q I r ⟨a, ys, rfl, .inr (.inl (.inl h1)), by rw [h2.len]; exact gv q (.int _)⟩
  · cases e
    obtain ⟨v, rfl, r1⟩ := xs1 rs
    obtain ⟨a, ys, rfl, h1, h2⟩ := r1.lst
    exact call_len_seq pins s σ H _ us Q I r ⟨a, ys, rfl, .inl (by rw [hK]; exact h1), by rw [h2.len]; exact gv q (.int _)⟩
  · cases e
theorem c_abs : CallP G X (.builtin "abs") gAbs := by
  rintro pins s σ H xs us Q I r ⟨m, st, ds, d, co, rs, e, q⟩
  unfold gAbs at e
  split at e
  · cases e
    obtain ⟨v, rfl, r1⟩ := xs1 rs
    cases r1.int
    exact call_abs pins s σ H _ us Q I r ⟨_, rfl, gv q (.int _)⟩
  · cases e
theorem c_max2 (hc : X.calm = true) : CallP G X (.builtin "max") gMax2 := by
  rintro pins s σ H xs us Q I r ⟨m, st, ds, d, co, rs, e, q⟩
  unfold gMax2 at e
  split at e
  · cases e
    obtain ⟨v, u, rfl, r1, r2⟩ := xs2 rs
    cases r1.int; cases r2.int
    exact call_max2 hc pins s σ H _ us Q I r ⟨_, _, rfl, gv q (.int _)⟩
  · cases e
theorem c_min2 (hc : X.calm = true) : CallP G X (.builtin "min") gMin2 := by
  rintro pins s σ H xs us Q I r ⟨m, st, ds, d, co, rs, e, q⟩
  unfold gMin2 at e
  split at e
  · cases e
    obtain ⟨v, u, rfl, r1, r2⟩ := xs2 rs
    cases r1.int; cases r2.int
    exact call_min2 hc pins s σ H _ us Q I r ⟨_, _, rfl, gv q (.int _)⟩
  · cases e
theorem c_int : CallP G X (.type "int") gInt := by
  rintro pins s σ H xs us Q I r ⟨m, st, ds, d, co, rs, e, q⟩
  unfold gInt at e
  split at e
  · cases e
    obtain ⟨v, rfl, r1⟩ := xs1 rs
    cases r1.int
    exact call_int1 pins s σ H _ us Q I r (.inl ⟨_, rfl, gv q (.int _)⟩)
  · cases e
    obtain ⟨v, rfl, r1⟩ := xs1 rs
    cases r1.bl
    exact call_int1 pins s σ H _ us Q I r (.inr ⟨_, rfl, gv q (.int _)⟩)
  · cases e
theorem c_str : CallP G X (.type "str") gStr := by
  rintro pins s σ H xs us Q I r ⟨m, st, ds, d, co, rs, e, q⟩
  unfold gStr at e
  split at e
  · split at e
    · rename_i hl
      cases e
      obtain ⟨v, rfl, r1⟩ := xs1 rs
      cases r1.int
      exact call_str_int pins s σ H _ us Q I r ⟨_, rfl, hl.1, gv q (.str _ hl.2)⟩
    · cases e
  · cases e
theorem c_tuple (hK : X.K = G.K := by rfl) : CallP G X (.type "tuple") gTuple := by
  rintro pins s σ H xs us Q I r ⟨m, st, ds, d, co, rs, e, q⟩
  unfold gTuple at e
  split at e
  · cases e
    obtain ⟨v, rfl, r1⟩ := xs1 rs
    obtain ⟨a, ys, rfl, h1, h2⟩ := r1.tup
    exact call_tuple_of pins s σ H _ us Q I r ⟨a, ys, rfl, .inr ⟨.inl (.inl h1), gv q (.tup r1.tlen h1 h2)⟩⟩
  · cases e
    obtain ⟨v, rfl, r1⟩ := xs1 rs
    obtain ⟨a, ys, rfl, h1, h2⟩ := r1.lst
    exact call_tuple_of pins s σ H _ us Q I r ⟨a, ys, rfl, .inl ⟨by rw [hK]; exact h1, fun p hp => q _ _ (same_new hp) (rp_tup hp r1.llen h2)⟩⟩
  · cases e
theorem c_list (hK : X.K = G.K := by rfl) : CallP G X (.type "list") gList := by
  rintro pins s σ H xs us Q I r ⟨m, st, ds, d, co, rs, e, q⟩
  unfold gList at e
  split at e
  · cases e
    obtain ⟨v, rfl, r1⟩ := xs1 rs
    obtain ⟨a, ys, rfl, h1, h2⟩ := r1.tup
    exact call_list_of pins s σ H _ us Q I r ⟨a, ys, rfl, .inr (.inl (.inl h1)), fun p hp => q _ _ (same_new hp) (rp_lst co hp r1.tlen h2)⟩
  · cases e
    obtain ⟨v, rfl, r1⟩ := xs1 rs
    obtain ⟨a, ys, rfl, h1, h2⟩ := r1.lst
    exact call_list_of pins s σ H _ us Q I r ⟨a, ys, rfl, .inl (by rw [hK]; exact h1), fun p hp => q _ _ (same_new hp) (rp_lst co hp r1.llen h2)⟩
  · cases e
theorem bools_ok {vs : List V} {ds : List D} {bs : List Bool} (r : RpA G m H vs ds) (h : bools ds = some bs) : vs = bs.map V.bl := by
  induction ds generalizing vs bs with
  | nil => cases r; cases h; rfl
  | cons d ds ih =>
    cases r with
    | cons r1 r2 =>
      cases d with
      | bl b =>
        simp only [bools, Option.map_eq_some_iff] at h
        obtain ⟨l, h1, rfl⟩ := h
        cases r1
        rw [ih r2 h1]
        rfl
      | non => cases h
      | int _ => cases h
      | str _ => cases h
      | tup _ => cases h
      | lst _ => cases h
      | obj _ _ => cases h
      | emp => cases h
theorem c_all (hc : X.calm = true) (hK : X.K = G.K := by rfl) : CallP G X (.builtin "all") gAll := by
  rintro pins s σ H xs us Q I r ⟨m, st, ds, d, co, rs, e, q⟩
  unfold gAll at e
  split at e
  · rw [Option.map_eq_some_iff] at e
    obtain ⟨bs, e1, rfl⟩ := e
    obtain ⟨v, rfl, r1⟩ := xs1 rs
    obtain ⟨a, ys, rfl, h1, h2⟩ := r1.lst
    rw [bools_ok h2 e1, ← hK] at h1
    exact cr_all hc pins s σ H _ us Q I r ⟨a, bs, rfl, h1, gv q (.bl _)⟩
  · cases e
theorem c_any (hc : X.calm = true) (hK : X.K = G.K := by rfl) : CallP G X (.builtin "any") gAny := by
  rintro pins s σ H xs us Q I r ⟨m, st, ds, d, co, rs, e, q⟩
  unfold gAny at e
  split at e
  · rw [Option.map_eq_some_iff] at e
    obtain ⟨bs, e1, rfl⟩ := e
    obtain ⟨v, rfl, r1⟩ := xs1 rs
    obtain ⟨a, ys, rfl, h1, h2⟩ := r1.lst
    rw [bools_ok h2 e1, ← hK] at h1
    exact cr_any hc pins s σ H _ us Q I r ⟨a, bs, rfl, h1, gv q (.bl _)⟩
  · cases e
theorem dokY_ok (n : Nat) {v : V} {d : D} (r : RpY G m H v d) (h : dok n d = true) : Dp G.K H v (toP d) ∧ (toP d).plain = true ∧ (toP d).depth ≤ n := by
  rcases r with r | ⟨a, ns, rfl, rfl, _, h1⟩
  · exact dokX_ok n r h
  · cases n with
    | zero => cases h
    | succ n =>
      obtain ⟨a1, a2, a3⟩ := dokAll_ok n (RpA.ints (G := G) (m := m) (H := H) ns) h
      refine ⟨.lst h1 a1, by simp only [toP, PyData.plain]; exact a2, ?_⟩
      simp only [toP, PyData.depth]
      omega
mutual
theorem toP_nodict : ∀ d : D, (toP d).hasDict = false
  | .non => rfl
  | .bl _ => rfl
  | .int _ => rfl
  | .str _ => rfl
  | .tup ds => by simp only [toP, PyData.hasDict]; exact toPs_nodict ds
  | .lst ds => by simp only [toP, PyData.hasDict]; exact toPs_nodict ds
  | .obj _ _ => rfl
  | .emp => rfl
theorem toPs_nodict : ∀ ds : List D, PyData.hasDictAll (toPs ds) = false
  | [] => rfl
  | d :: ds => by simp only [toPs, PyData.hasDictAll, toP_nodict d, toPs_nodict ds, Bool.or_self]
end
theorem c_repr (hg : X.A.guards = some []) (hu : X.A.units + 64 < cLine) (hK : X.K = G.K := by rfl) : CallP G X (.builtin "repr") gRepr := by
  rintro pins s σ H xs us Q I r ⟨m, st, ds, d, co, rs, e, q⟩
  unfold gRepr at e
  split at e
  · split at e
    · rename_i hd
      cases e
      obtain ⟨v, rfl, r1⟩ := xs1 rs
      obtain ⟨a1, a2, a3⟩ := dokY_ok 60 r1 hd.1
      rw [← hK] at a1
      exact call_reprV hg hu pins s σ H _ us Q I r ⟨v, _, rfl, a1, hd.2.1, toP_nodict _, a3, lim_le hd.2.2, gv q (.str _ hd.2.2)⟩
    · cases e
  · cases e
/-! ### items and slices -/
def gIx : D → D → Option D
  | .lst ds, .int i => atI ds i
  | .tup ds, .int i => atI ds i
  | .str z, .int i => (atI z.cps.toList i).map fun c => .str ⟨#[c]⟩
  | _, _ => none
theorem at_ok {vs : List V} {ds : List D} {i : Int} {d : D} (r : RpA G m H vs ds) (h : atI ds i = some d) : ∃ v, atI vs i = some v ∧ Rp G m H v d := by
  unfold atI at h ⊢
  obtain ⟨j, h1, h2⟩ := Option.bind_eq_some_iff.mp h
  obtain ⟨v, h3, h4⟩ := r.at h2
  exact ⟨v, by rw [r.len, h1]; exact h3, h4⟩
theorem i_ix (hK : X.K = G.K := by rfl) : IxP G X gIx := by
  rintro value slice pins s σ H x y v u Q I rx ry ⟨m, st, d1, d2, d, co, r1, r2, e, q⟩ hs
  unfold gIx at e
  split at e
  · obtain ⟨a, xs, rfl, h1, h2⟩ := r1.lst
    cases r2.int
    obtain ⟨w, h3, h4⟩ := at_ok h2 e
    exact ix_list value slice pins s σ H _ _ v u Q I rx ry ⟨a, xs, _, w, rfl, rfl, by rw [hK]; exact h1, h3, gv q h4⟩ hs
  · obtain ⟨a, xs, rfl, h1, h2⟩ := r1.tup
    cases r2.int
    obtain ⟨w, h3, h4⟩ := at_ok h2 e
    exact ix_tup value slice pins s σ H _ _ v u Q I rx ry ⟨a, xs, _, w, rfl, rfl, .inl (.inl h1), h3, gv q h4⟩ hs
  · rw [Option.map_eq_some_iff] at e
    obtain ⟨c, e1, rfl⟩ := e
    have hl := r1.slen
    cases r1.str
    cases r2.int
    exact ix_str value slice pins s σ H _ _ v u Q I rx ry ⟨_, _, c, rfl, rfl, lim_le hl, e1, gv q (.str _ (by show 1 ≤ lim; decide))⟩ hs
  · cases e
def cutL {α : Type} (xs : List α) (lo hi : Option Int) : List α := (xs.drop (HT.sIx xs.length 0 lo)).take (HT.sIx xs.length xs.length hi - HT.sIx xs.length 0 lo)
def gSl : D → Option Int → Option Int → Option D
  | .lst ds, lo, hi => some (.lst (cutL ds lo hi))
  | .tup ds, lo, hi => some (.tup (cutL ds lo hi))
  | .str z, lo, hi => some (.str (cutS z lo hi))
  | _, _, _ => none
theorem RpA.take {vs : List V} {ds : List D} (r : RpA G m H vs ds) (n : Nat) : RpA G m H (vs.take n) (ds.take n) := by
  induction ds generalizing vs n with
  | nil => cases r; cases n <;> exact .nil
  | cons d ds ih =>
    cases r with
    | cons r1 r2 =>
      cases n with
      | zero => exact .nil
      | succ n => exact .cons r1 (ih r2 n)
theorem RpA.drop {vs : List V} {ds : List D} (r : RpA G m H vs ds) (n : Nat) : RpA G m H (vs.drop n) (ds.drop n) := by
  induction ds generalizing vs n with
  | nil => cases r; cases n <;> exact .nil
  | cons d ds ih =>
    cases r with
    | cons r1 r2 =>
      cases n with
      | zero => exact .cons r1 r2
      | succ n => exact ih r2 n
theorem RpA.cut {vs : List V} {ds : List D} (r : RpA G m H vs ds) (lo hi : Option Int) : RpA G m H (cutV vs lo hi) (cutL ds lo hi) := by
  unfold cutV cutL
  rw [r.len]
  exact (r.drop _).take _
theorem cut_all {α : Type} {xs : List α} {lo hi : Option Int} (h : HT.sIx xs.length 0 lo = 0 ∧ HT.sIx xs.length xs.length hi = xs.length) : cutL xs lo hi = xs := by
  unfold cutL
  rw [h.1, h.2, List.drop_zero, Nat.sub_zero, List.take_length]
theorem cutL_len {α : Type} (xs : List α) (lo hi : Option Int) : (cutL xs lo hi).length ≤ xs.length := by
  unfold cutL
  rw [List.length_take, List.length_drop]
  omega
theorem cutS_len (z : Str) (lo hi : Option Int) : (cutS z lo hi).length ≤ z.length := by
  unfold cutS
  show (List.toArray _).size ≤ _
  rw [List.size_toArray, List.length_take, List.length_drop, Array.length_toList]
  show _ ≤ z.cps.size
  omega
theorem s_sl (hK : X.K = G.K := by rfl) : SlP G X gSl := by
  rintro pins s σ H x v vl vu lo hi sl Q I rx hs pl pu ⟨m, st, d1, d, co, r1, e, q⟩
  unfold gSl at e
  split at e
  · cases e
    obtain ⟨a, xs, rfl, h1, h2⟩ := r1.lst
    exact sl_list pins s σ H _ v vl vu lo hi sl Q I rx hs pl pu ⟨a, xs, rfl, by rw [hK]; exact h1, fun p hp => q _ _ (same_new hp) (rp_lst co hp (Nat.le_trans (cutL_len _ _ _) r1.llen) (h2.cut lo hi))⟩
  · cases e
    obtain ⟨a, xs, rfl, h1, h2⟩ := r1.tup
    refine sl_tupA pins s σ H _ v vl vu lo hi sl Q I rx hs pl pu ⟨a, xs, rfl, .inl (.inl h1), fun z => ?_, fun _ p hp => q _ _ (same_new hp) (rp_tup hp (Nat.le_trans (cutL_len _ _ _) r1.tlen) (h2.cut lo hi))⟩
    rw [h2.len] at z
    rw [cut_all z] at q
    exact gv q (.tup r1.tlen h1 h2)
  · cases e
    have hl := r1.slen
    cases r1.str
    exact sl_str pins s σ H _ v vl vu lo hi sl Q I rx hs pl pu ⟨_, rfl, lim_le hl, gv q (.str _ (Nat.le_trans (cutS_len _ _ _) hl))⟩
  · cases e
/-! ### isinstance(e, T), T a built-in type -/
def isT (T : String) : D → Option Bool
  | .non => some (T == "NoneType")
  | .bl _ => some (T == "bool" || T == "int")
  | .int _ => some (T == "int")
  | .str _ => some (T == "str")
  | .tup _ => some (T == "tuple")
  | .lst _ => some (T == "list")
  | .obj _ _ => none
  | .emp => some (T == "dict")
def tyDn : D → String
  | .non => "NoneType" | .bl _ => "bool" | .int _ => "int" | .str _ => "str" | .tup _ => "tuple" | .lst _ => "list" | .obj _ _ => "" | .emp => "dict"
def gIs (T : String) (d : D) : Option D := (isT T d).map D.bl
theorem tyX_ok {K : PySem.W.Frag} {v : V} {d : D} (r : RpX G m H v d) (h : ∀ c fs, d ≠ .obj c fs) : TyX K H v (.type (tyDn d)) := by
  rcases r with r | ⟨a, xs, ds, rfl, rfl, _, h1, h2⟩ | ⟨a, C, dx, c, fs, gs, rfl, rfl, _⟩
  · cases r with
    | non => exact .base .non
    | bl b => exact .base (.bl b)
    | int i => exact .base (.int i)
    | str x _ => exact .base (.str x)
    | tup _ e _ => exact .base (.tup e)
    | lst _ e _ _ => exact .base (.lst e)
    | obj _ _ _ _ => exact absurd rfl (h _ _)
    | emp e _ => exact .base (.dK e)
  · exact .base (.lst h1)
  · exact absurd rfl (h _ _)
theorem kitT : ∀ T : String, T ∈ ["int", "str", "bool", "tuple", "list"] → ∀ t : String, t ∈ ["NoneType", "bool", "int", "str", "tuple", "list", "dict"] → kitB t T = some (T == t || (T == "int" && t == "bool")) := by decide +kernel
theorem isT_kit {T : String} (hT : T ∈ ["int", "str", "bool", "tuple", "list"]) {d : D} {b : Bool} (h : isT T d = some b) : kitB (tyDn d) T = some b := by
  cases d with
  | obj _ _ => cases h
  | emp => cases h; rw [show tyDn .emp = "dict" from rfl, kitT T hT _ (by decide)]; simp only [List.mem_cons, List.not_mem_nil, or_false] at hT; rcases hT with rfl | rfl | rfl | rfl | rfl <;> decide
  | non => cases h; rw [show tyDn .non = "NoneType" from rfl, kitT T hT _ (by decide)]; simp only [List.mem_cons, List.not_mem_nil, or_false] at hT; rcases hT with rfl | rfl | rfl | rfl | rfl <;> decide
  | bl _ => cases h; rw [show tyDn (.bl _) = "bool" from rfl, kitT T hT _ (by decide)]; simp only [List.mem_cons, List.not_mem_nil, or_false] at hT; rcases hT with rfl | rfl | rfl | rfl | rfl <;> decide
  | int _ => cases h; rw [show tyDn (.int _) = "int" from rfl, kitT T hT _ (by decide)]; simp only [List.mem_cons, List.not_mem_nil, or_false] at hT; rcases hT with rfl | rfl | rfl | rfl | rfl <;> decide
  | str _ => cases h; rw [show tyDn (.str _) = "str" from rfl, kitT T hT _ (by decide)]; simp only [List.mem_cons, List.not_mem_nil, or_false] at hT; rcases hT with rfl | rfl | rfl | rfl | rfl <;> decide
  | tup _ => cases h; rw [show tyDn (.tup _) = "tuple" from rfl, kitT T hT _ (by decide)]; simp only [List.mem_cons, List.not_mem_nil, or_false] at hT; rcases hT with rfl | rfl | rfl | rfl | rfl <;> decide
  | lst _ => cases h; rw [show tyDn (.lst _) = "list" from rfl, kitT T hT _ (by decide)]; simp only [List.mem_cons, List.not_mem_nil, or_false] at hT; rcases hT with rfl | rfl | rfl | rfl | rfl <;> decide
theorem de_isT {E : WX} {T : String} {x : Str} {e : Expr} {fe : Ex} {p p2 pos : Pos} (hT : T ∈ ["int", "str", "bool", "tuple", "list"]) (he : DE G X E e fe) (gi : Gl X "isinstance") (mi : X.mg "isinstance" = none) (gt : Gl X x) (mt : X.mg x = none) (bt : bootBuiltins x = some (.type T))
    (hn : x ≠ "__name__" := by decide) (hd : (x == ("__debug__" : Str)) = false := by decide)
    (h1 : starEach (e :: [.Name x p2]) X.env = (false, eval e X.env) :: starEach [.Name x p2] X.env := by rfl) (h2 : starEach [.Name x p2] X.env = (false, eval (.Name x p2) X.env) :: starEach [] X.env := by rfl) (hpl : (backTo pos (starEach [.Name x p2] X.env)).any (·.1) = false := by rfl) :
    DE G X E (.Call (.Name "isinstance" p) [e, .Name x p2] [] pos) (eUn (gIs T) fe) := by
  refine PE.imp (pe_callB call_isi gi mi bt_isinstance (pa_cons he (pa_cons (pe_bltn (v := .ty T) gt mt bt rfl hn hd) pa_nil h2) h1) (by decide) (by decide) h1 hpl) ?_
  rintro σ H Q ⟨m, sl, st, hs, hc, h⟩
  refine ⟨m, sl, st, hs, hc, aft_bnd h fun w st1 v H1 m1 e1 c1 r1 h1 => ?_⟩
  unfold lift1 at h1
  split at h1
  · rename_i d hd
    obtain ⟨d', e2, q⟩ := aft_pr c1 h1
    unfold gIs at e2
    rw [Option.map_eq_some_iff] at e2
    obtain ⟨b, e3, rfl⟩ := e2
    have rx := view_ok c1 r1 hd
    exact ⟨v, .ty T, .type (tyDn d), .type T, b, rfl, .ty T, tyX_ok rx (by intro c fs z; rw [z] at e3; cases e3), kit_ty (isT_kit hT e3), gv q (.bl b)⟩
  · exact h1.elim
end
end Dn

namespace Dn
open PySem PySem.Spec PyProof.Rows L2 Ft LamX
section
variable {G : Gx} {X : Cx} {E : WX} {m m' : M} {H H' : Hp} {e o i v : Expr} {es : List Expr} {fe fo fi fv : Ex} {fr : Ax} {pos p apos : Pos}
theorem takes_WF : Takes X WF := fun u s' ⟨_, _, _, _, _, _, _, _, _, _, _, _, _, _, _, _, w⟩ => w.elim
/-! ### cells -/
theorem list_tyV {K : PySem.W.Frag} {a : Addr} {xs : List V} (h : H a = some (.lst xs)) : tyV K "list" (.ref a) H := .inl ⟨rfl, xs, .inl (.inl h)⟩
/-- xs.append(e) -/
def eAppend (fo fe : Ex) : Ex := fun sl st => bnd (fo sl st) fun w st1 => bnd (fe sl st1) fun x st2 => match w, x with
  | .c n, .d x => (match st2[n]? with
    | some (.lst ds) => if ds.length < lim then some (.ok (.d .non), st2.set n (.lst (ds ++ [x]))) else none
    | _ => none)
  | _, _ => none
/-- a cell is what the receiver of a method of lists is -/
def isCell (f : Ex) : Ex := fun sl st => bnd (f sl st) fun w st1 => match w with
  | .c n => (match st1[n]? with
    | some (.lst _) => some (.ok (.c n), st1)
    | _ => none)
  | _ => none
theorem de_append (ho : DE G X E o fo) (he : DE G X E e fe) (hbase : attributeBase o "append" X.env (eval o X.env) = eval o X.env := by rfl)
    (hfew : ((backTo pos (starEach (e :: []) X.env)).all (fun x => !x.1) && (backToKw pos (keywordEach [] X.env)).all (fun x => x.1.isSome)
      && decide ((e :: ([] : List Expr)).length + ([] : List Keyword).length + (if ([] : List Keyword).isEmpty then 0 else 1) < 30)) = true := by rfl)
    (hline : (apos.endLine == pos.line) = true := by rfl) (hs : starEach (e :: []) X.env = (false, eval e X.env) :: starEach [] X.env := by rfl) (hplain : (backTo pos (starEach [] X.env)).any (·.1) = false := by rfl) :
    DE G X E (.Call (.Attribute o "append" apos) [e] [] pos) (eAppend (isCell fo) fe) := by
  refine PE.imp (pe_bm PySem.F.plainAttrs_list PySem.F.slot_list_append PySem.F.type_list_append mt_append ho (pa_cons he pa_nil hs) hbase hfew hline hs hplain) ?_
  rintro σ H Q ⟨m, sl, st, hs, hc, h⟩
  unfold eAppend isCell at h
  cases hf : fo sl st with
  | none => rw [hf] at h; exact h.elim
  | some r =>
    obtain ⟨r, st1⟩ := r
    refine ⟨m, sl, st, hs, hc, ?_⟩
    rw [hf] at h ⊢
    cases r with
    | exc c fs => exact h
    | ok w =>
      intro x H1 m1 e1 c1 r1
      cases w with
      | d x => exact h.elim
      | scr ns => exact h.elim
      | t l => exact h.elim
      | c n =>
        simp only [bnd_ok] at h
        cases hn : st1[n]? with
        | none => rw [hn] at h; exact h.elim
        | some cl =>
          rw [hn] at h
          cases cl with
          | ins _ _ => exact h.elim
          | lst ds0 =>
            simp only [bnd_ok] at h
            obtain ⟨a, ha, rfl⟩ := r1
            obtain ⟨xs0, q0, _⟩ := cell_at c1 ha hn
            refine ⟨list_tyV q0, m1, sl, st1, hs.ext hc e1, c1, ?_⟩
            have h' := aft.ext e1 h
            refine aft_bnd h' fun x st2 y H2 m2 e2 c2 r2 h2 => ?_
            have ha2 := ext_ix e2 ha
            split at h2
            · rename_i n' x' z
              cases z
              split at h2
              · rename_i ds hs2
                split at h2
                · rename_i hl
                  obtain ⟨xs, q1, q2⟩ := cell_at c2 ha2 hs2
                  refine ⟨a, xs, y, rfl, rfl, q1, by rw [q2.len]; exact lim_lt (Nat.le_of_lt hl), ?_⟩
                  have x3 := ext_write (o := .lst (xs ++ [y])) c2 nt_lst ha2
                  exact h2 .non _ m2 x3 (c2.write ha2 ⟨by rw [List.length_append, List.length_singleton]; exact hl, _, upd_same, (q2.ext c2 x3).snoc (Rp.ext c2 x3 r2)⟩) (rpd .non)
                · exact h2.elim
              · exact h2.elim
            · exact h2.elim
/-- xs[i] = v -/
def sSetIx (fo fi fv : Ex) : Sm := fun sl st => stm (fv sl st) sl fun wv st1 => stm (fo sl st1) sl fun wo st2 => stm (fi sl st2) sl fun wi st3 => match wo, wi, wv with
  | .c n, .d (.int k), .d x => (match st3[n]? with
    | some (.lst ds) => (match ixN ds.length k with
      | some j => some (.nx, sl, st3.set n (.lst (ds.set j x)))
      | none => none)
    | _ => none)
  | _, _, _ => none
theorem RpA.set {vs : List V} {ds : List D} {v : V} {d : D} (h : RpA G m H vs ds) (r : Rp G m H v d) (j : Nat) : RpA G m H (vs.set j v) (ds.set j d) := by
  induction ds generalizing vs j with
  | nil => cases h; exact .nil
  | cons x ds ih =>
    cases h with
    | cons h1 h2 =>
      cases j with
      | zero => exact .cons r h2
      | succ j => exact .cons h1 (ih h2 j)
theorem ds_setIx (ho : DE G X E o fo) (hi : DE G X E i fi) (hv : DE G X E v fv) (hs : swapsWithSole [.Subscript o i p] v pos.line X.env = pure false := by rfl) (hw : swappedStores [.Subscript o i p] v X.env = pure none := by rfl)
    (h1 : (assignEach [.Subscript o i p] X.env).map (·.2) = [assign (.Subscript o i p) X.env] := by rfl)
    (ha : ∀ u, assign (.Subscript o i p) X.env u = (do
      let ov ← holding [u] (eval o X.env)
      let iv ← holding [u, ov] (eval i X.env)
      standAt p
      holding [u, ov, iv] (setItem ov iv u)
      release [u, ov, iv] []) := by intro _; rfl) : DS G X E (.Assign [.Subscript o i p] v pos) (sSetIx fo fi fv) := by
  refine PS.imp (ps_asg hv (pg_sub ho hi set_list ha) hs hw h1) ?_
  rintro Z σ H ⟨m, sl, st, hs, hc, h⟩
  refine ⟨m, sl, st, hs, hc, aftS_stm hs hc h fun wv st1 y H1 m1 e1 c1 r1 h1 => ⟨m1, sl, st1, hs.ext hc e1, c1, aftS_stm (hs.ext hc e1) c1 h1 fun wo st2 x H2 m2 e2 c2 r2 h2 => ?_⟩⟩
  have hs2 := (hs.ext hc e1).ext c1 e2
  refine ⟨m2, sl, st2, hs2, c2, aftS_stm hs2 c2 h2 fun wi st3 z H3 m3 e3 c3 r3 h3 => ?_⟩
  split at h3
  · rename_i n k x
    split at h3
    · rename_i ds hd
      split at h3
      · rename_i j hj
        obtain ⟨a, ha, rfl⟩ := RpW.ext c2 e3 r2
        obtain ⟨xs, q1, q2⟩ := cell_at c3 ha hd
        have rz : z = .int k := by cases r3; rfl
        have ry := RpW.ext c2 e3 (RpW.ext c1 e2 r1)
        refine ⟨a, xs, k, j, rfl, rz, q1, by rw [q2.len]; exact hj, ?_⟩
        have x3 := ext_write (o := .lst (xs.set j y)) c3 nt_lst ha
        exact h3 σ _ m3 x3 ((hs2.ext c2 e3).ext c3 x3) (c3.write ha ⟨by rw [List.length_set]; exact cell_len c3 ha hd, _, upd_same, (q2.ext c3 x3).set (Rp.ext c3 x3 ry) j⟩)
      · exact h3.elim
    · exact h3.elim
  · exact h3.elim
/-! ### raise C(e), C an own class with one field -/
def sRaise (c fld : Str) (fa : Ax) : Sm := fun sl st => stm (fa sl st) sl fun ws st1 => match ws with
  | [.d x] => some (.ex c [(fld, x)], sl, st1)
  | _ => none
theorem ds_raise {c fld : Str} {C : Addr} {k : Nat} {pos' : Pos} (T : ExAt X.K X.mg c fld C) (hr : Room k X.A) (tk : Takes X E) (ha : DA G X E [e] fr) (hc : X.calm = true) (gl : Gl X c) (hM : X.mg = G.mg := by rfl) (hdb : (c == ("__debug__" : Str)) = false := by decide)
    (he : starEach (e :: []) X.env = (false, eval e X.env) :: starEach [] X.env := by rfl) (hpl : (backTo pos (starEach [] X.env)).any (·.1) = false := by rfl) : DS G X E (.Raise (some (.Call (.Name c p) [e] [] pos)) none pos') (sRaise c fld fr) := by
  refine PS.imp (ps_raise hc tk (pmk1 T hr ha gl hdb he hpl)) ?_
  rintro Z σ H ⟨m, sl, st, hs, hc, h⟩
  refine ⟨m, sl, st, hs, hc, aftS_stm hs hc h fun ws st1 vs H1 m1 e1 c1 r1 h1 => ?_⟩
  split at h1
  · rename_i x
    cases r1 with
    | @cons v _ _ _ q1 q2 =>
      cases q2
      refine ⟨v, rfl, fun d hd => ?_⟩
      have sm := same_new (o := .xd [(fld, v)]) hd
      exact h1 σ _ m1 C d _ (Ext.of_same sm) ((hs.ext hc e1).ext c1 (Ext.of_same sm)) (c1.same sm) (by rw [← hM]; exact T.gC) upd_same (.cons (Rp.same sm q1) .nil)
  · exact h1.elim
/-! ### fields -/
def FldAt (G : Gx) (c f : Str) : Prop := ∀ C, G.mg c = some (.ref C) → Cls G.K C ∧ NoAttr G.K C f
def gFld (cs : List Str) (f : Str) : D → Option D
  | .obj c fs => if c ∈ cs then fs.lookup f else none
  | _ => none
theorem RpF.look {fs : List (Str × V)} {gs : List (Str × D)} (r : RpF G m H fs gs) {f : Str} {d : D} (h : gs.lookup f = some d) : ∃ v, fs.lookup f = some v ∧ Rp G m H v d := by
  induction gs generalizing fs with
  | nil => cases h
  | cons g gs ih =>
    cases r with
    | @cons n v d' fs' _ r1 r2 =>
      rw [List.lookup_cons] at h ⊢
      cases hb : (f == n) with
      | true => rw [hb] at h; cases h; exact ⟨v, rfl, r1⟩
      | false => rw [hb] at h; exact ih r2 h
theorem RpF.lookN {fs : List (Str × V)} {gs : List (Str × D)} (r : RpF G m H fs gs) {f : Str} (h : gs.lookup f = none) : fs.lookup f = none := by
  induction gs generalizing fs with
  | nil => cases r; rfl
  | cons g gs ih =>
    cases r with
    | @cons n v d' fs' _ r1 r2 =>
      rw [List.lookup_cons] at h ⊢
      cases hb : (f == n) with
      | true => rw [hb] at h; cases h
      | false => rw [hb] at h; exact ih r2 h
theorem RpX.obj {v : V} {c : Str} {gs : List (Str × D)} (r : RpX G m H v (.obj c gs)) : ∃ a C dx fs, v = .ref a ∧ G.mg c = some (.ref C) ∧ H a = some (.ins C dx fs) ∧ RpF G m H fs gs := by
  rcases r with r | ⟨_, _, _, _, z, _⟩ | ⟨a, C, dx, c', fs, gs', rfl, z, h1, h2, h3⟩
  · cases r with | obj h1 h2 _ h3 => exact ⟨_, _, _, _, rfl, h1, h2, h3⟩
  · cases z
  · cases z; exact ⟨a, C, dx, fs, rfl, h1, h2, h3⟩
theorem de_fld {cs : List Str} {f : Str} (F : ∀ c ∈ cs, FldAt G c f) (he : DE G X E e fe) (hb : attributeBase e f X.env (eval e X.env) = eval e X.env) (hK : X.K = G.K := by rfl) : DE G X E (.Attribute e f pos) (eUn (gFld cs f) fe) := by
  refine PE.imp (pe_fld he hb) ?_
  rintro σ H Q ⟨m, sl, st, hs, hc, h⟩
  refine ⟨m, sl, st, hs, hc, aft_bnd h fun w st1 v H1 m1 e1 c1 r1 h1 => ?_⟩
  unfold lift1 at h1
  split at h1
  · rename_i d hd
    obtain ⟨d', e2, q⟩ := aft_pr c1 h1
    have rx := view_ok c1 r1 hd
    unfold gFld at e2
    split at e2
    · split at e2
      · rename_i c gs hcs
        obtain ⟨a, C, dx, fs, rfl, z1, z2, z3⟩ := rx.obj
        obtain ⟨v, z4, z5⟩ := z3.look e2
        obtain ⟨k1, k2⟩ := F c hcs C z1
        exact ⟨a, C, dx, fs, v, rfl, z2, by rw [hK]; exact k1, by rw [hK]; exact k2, z4, gv q z5⟩
      · cases e2
    · cases e2
  · exact h1.elim
def putD (f : Str) (v : D) : List (Str × D) → List (Str × D)
  | [] => [(f, v)]
  | (g, x) :: r => if g = f then (g, v) :: r else (g, x) :: putD f v r
theorem RpF.put {fs : List (Str × V)} {gs : List (Str × D)} (r : RpF G m H fs gs) {f : Str} {v : V} {d : D} (h : Rp G m H v d) : RpF G m H (putF f v fs) (putD f d gs) := by
  induction gs generalizing fs with
  | nil => cases r; exact .cons h .nil
  | cons g gs ih =>
    cases r with
    | @cons n v' d' fs' _ r1 r2 =>
      unfold putF putD
      split
      · exact .cons h r2
      · exact .cons r1 (ih r2)
theorem RpF.len {fs : List (Str × V)} {gs : List (Str × D)} (r : RpF G m H fs gs) : fs.length = gs.length := by
  induction gs generalizing fs with
  | nil => cases r; rfl
  | cons g gs ih => cases r with | cons r1 r2 => rw [List.length_cons, List.length_cons, ih r2]
/-- o.f = v, o an instance that is being made -/
def sFldSet (c f : Str) (fo fv : Ex) : Sm := fun sl st => stm (fv sl st) sl fun wv st1 => stm (fo sl st1) sl fun wo st2 => match wo, wv with
  | .c n, .d x => (match st2[n]? with
    | some (.ins c' gs) => if c' = c ∧ gs.length < 1000 then some (.nx, sl, st2.set n (.ins c (putD f x gs))) else none
    | _ => none)
  | _, _ => none
theorem ds_fld {c f : Str} {pos' : Pos} (F : FldAt G c f) (ho : DE G X E o fo) (hv : DE G X E v fv) (hs : swapsWith v (some (.Attribute o f pos')) pos.line X.env = pure false) (hK : X.K = G.K := by rfl) : DS G X E (.Assign [.Attribute o f pos'] v pos) (sFldSet c f fo fv) := by
  refine PS.imp (ps_fld ho hv hs) ?_
  rintro Z σ H ⟨m, sl, st, hs, hc, h⟩
  refine ⟨m, sl, st, hs, hc, aftS_stm hs hc h fun wv st1 y H1 m1 e1 c1 r1 h1 => ⟨m1, sl, st1, hs.ext hc e1, c1, aftS_stm (hs.ext hc e1) c1 h1 fun wo st2 x H2 m2 e2 c2 r2 h2 => ?_⟩⟩
  have hs2 := (hs.ext hc e1).ext c1 e2
  split at h2
  · rename_i n xd
    split at h2
    · rename_i c' gs hn
      split at h2
      · rename_i hz
        obtain ⟨rfl, hl⟩ := hz
        obtain ⟨a, ha, rfl⟩ := r2
        obtain ⟨C, dx, fs, q1, q2, q3⟩ := c2.at_ n a _ ha hn
        obtain ⟨k1, k2⟩ := F C q1
        refine ⟨a, C, dx, fs, rfl, q2, by rw [hK]; exact k1, by rw [hK]; exact k2, by rw [q3.len]; exact hl, ?_⟩
        have x3 := ext_write (o := .ins C dx (putF f y fs)) c2 nt_ins ha
        exact h2 σ _ m2 x3 (hs2.ext c2 x3) (c2.write ha ⟨C, dx, _, q1, upd_same, (q3.ext c2 x3).put (Rp.ext c2 x3 (RpW.ext c1 e2 r1))⟩)
      · exact h2.elim
    · exact h2.elim
  · exact h2.elim
end
end Dn

namespace Dn
open PySem PySem.Spec PyProof.Rows L2 Ft LamX
section
variable {G : Gx} {X : Cx} {E : WX} {k : Nat} {f C : Addr} {fd : FuncData} {x c mth : Str} {ps ks : List Str} {n : Nat} {spec : Spec} {p pos apos : Pos} {e o : Expr} {es : List Expr} {kws : List Keyword} {fo : Ex} {fr fk : Ax} {g : {α : Type} → List α → List α → List α}
/-! ### keywords -/
theorem PK.imp {t t' : TA} (h : PK X kws t) (hi : ∀ σ H Q, t' σ H Q → t σ H Q) : PK X kws t' := ⟨fun pos pins s σ H Q I q => h.run pos pins s σ H Q I (hi σ H Q q)⟩
abbrev DK (G : Gx) (X : Cx) (E : WX) (kws : List Keyword) (f : Ax) : Prop := PK X kws (rA G E f)
theorem dk_nil : DK G X E [] aNil := by
  refine PK.imp pk_nil ?_
  rintro σ H Q ⟨m, sl, st, hs, hc, h⟩
  exact aft_ok h hc .nil
theorem dk_cons {nm : Option Str} {kpos : Pos} {fa : Ex} (ha : DE G X E e fa) (hr : DK G X E kws fr) : DK G X E (⟨nm, e, kpos⟩ :: kws) (aCons fa fr) := by
  refine PK.imp (pk_cons ha hr) ?_
  rintro σ H Q ⟨m, sl, st, hs, hc, h⟩
  refine ⟨m, sl, st, hs, hc, aft_bnd h fun w1 st1 x H1 m1 e1 c1 r1 h1 => ⟨m1, sl, st1, hs.ext hc e1, c1, aft_bnd h1 fun ws st2 xs H2 m2 e2 c2 r2 h2 => aft_ok h2 c2 (.cons (RpW.ext c1 e2 r1) r2)⟩⟩
/-- the keywords' values come to their places -/
def RelG (g : {α : Type} → List α → List α → List α) : Prop := ∀ (G : Gx) (m : M) (H : Hp) (vs zs : List V) (ws us : List W), RpWs G m H vs ws → RpWs G m H zs us → RpWs G m H (g vs zs) (g ws us)
def eFnK (spec : Spec) (g : List W → List W → List W) (n l : Nat) (fa fk : Ax) : Ex := fun sl st => bnd (fa sl st) fun ws st1 => bnd (fk sl st1) fun zs st2 => if ws.length = n ∧ zs.length = l then spec (g ws zs) st2 else none
theorem spD_okK {l q : Nat} {σ : L2.St} {H : Hp} {Q : VK} (hg : RelG g) (hn : ∀ ws st r, spec ws st = some r → ws.length = n) (h : rE G E (eFnK spec g q l fr fk) σ H Q) :
    rA G E fr σ H fun vs H1 => rA G E fk σ H1 fun zs H2 => vs.length = q ∧ zs.length = l ∧ spD G n spec (g vs zs) H2 Q (WE E σ) := by
  obtain ⟨m, sl, st, hs, hc, h⟩ := h
  refine ⟨m, sl, st, hs, hc, aft_bnd h fun ws st1 vs H1 m1 e1 c1 r1 h1 => ⟨m1, sl, st1, hs.ext hc e1, c1, aft_bnd h1 fun us st2 zs H2 m2 e2 c2 r2 h2 => ?_⟩⟩
  split at h2
  · rename_i hl
    refine ⟨r1.len.trans hl.1, r2.len.trans hl.2, m2, g ws us, st2, hg _ _ _ _ _ _ _ (r1.ext c1 e2) r2, c2, ?_, h2⟩
    cases hr : spec (g ws us) st2 with
    | none => rw [hr] at h2; exact h2.elim
    | some r => exact hn _ _ _ hr
  · exact h2.elim
/-! ### a callee runs -/
theorem run_gS {pins : List (Addr × Obj)} {σ : L2.St} {H : Hp} {s : Shared} {Q : VK} {args : Args} {us : List Value} {vs : List V} {sp : Sp} (F : FnG X.prog X.w X.K X.mg X.base (L2.CX X.prog X.w) k f fd ps sp) (hg : X.A.guards = some []) (hr : Room k X.A) (tk : Takes X E)
    (I : Inv X pins σ H s) (bt : BindsTo s fd args (ps.zip us)) (r : Vals vs us) (h : sp vs H Q (WE E σ)) : wpAny (model X.prog X.w) X.A (call (.ref f) args.1 args.2) (EP X pins σ Q) X.xe s := by
  apply wpAny_call
  apply codeAny_mono (F.gRun X.A hg hr X.stack s H I.env0 args us vs Q (WE E σ) bt r h)
  intro res s2 q
  match res, q with
  | .ok (.ret u), q => exact I.after q
  | .ok .next, q => exact False.elim q
  | .ok .brk, q => exact False.elim q
  | .ok .cont, q => exact False.elim q
  | .error e, q => exact passAt tk σ pins H s e s2 I q
theorem run_oS {pins : List (Addr × Obj)} {σ : L2.St} {H : Hp} {s : Shared} {Q : VK} {args : Args} {us : List Value} {vs : List V} {sp : Sp} (F : FnOk X.prog X.w X.K X.mg X.base (L2.CX X.prog X.w) k f fd ps sp) (hr : Room k X.A) (tk : Takes X E)
    (I : Inv X pins σ H s) (bt : BindsTo s fd args (ps.zip us)) (r : Vals vs us) (h : sp vs H Q (WE E σ)) : wpAny (model X.prog X.w) X.A (call (.ref f) args.1 args.2) (EP X pins σ Q) X.xe s := by
  apply wpAny_call
  apply codeAny_mono (F.run X.A X.stack s H args us vs Q (WE E σ) hr I.env0 bt r h)
  intro res s2 q
  match res, q with
  | .ok (.ret u), q => exact I.after q
  | .ok .next, q => exact False.elim q
  | .ok .brk, q => exact False.elim q
  | .ok .cont, q => exact False.elim q
  | .error e, q => exact passAt tk σ pins H s e s2 I q
/-- f(e, .., k=v), f a def of the law -/
theorem de_gk (F : HasK X.prog X.w X.K X.mg X.base (L2.CX X.prog X.w) k x ps n ks g (spD G ps.length spec)) (hG : RelG g) (hg : X.A.guards = some []) (hr : Room k X.A) (tk : Takes X E) (gl : Gl X x) (hn : ∀ ws st r, spec ws st = some r → ws.length = ps.length) (ha : DA G X E (e :: es) fr) (hkw : DK G X E kws fk)
    (hall : (backToKw pos (keywordEach kws X.env)).all (·.1.isSome) = true := by rfl) (hks : (backToKw pos (keywordEach kws X.env)).filterMap (·.1) = ks := by rfl) (hdb : (x == ("__debug__" : Str)) = false := by decide)
    (he : starEach (e :: es) X.env = (false, eval e X.env) :: starEach es X.env := by rfl)
    (hpl : ((backTo pos (starEach (e :: es) X.env)).any (·.1) || (backToKw pos (keywordEach kws X.env)).any (·.1.isNone)) = false := by rfl) :
    DE G X E (.Call (.Name x p) (e :: es) kws pos) (eFnK spec g n ks.length fr fk) := by
  obtain ⟨f, fd, F, hm, hk, hb⟩ := F.ex
  refine PE.imp (t := fun σ H Q => rA G E fr σ H fun vs H1 => rA G E fk σ H1 fun zs H2 => vs.length = n ∧ zs.length = ks.length ∧ spD G ps.length spec (g vs zs) H2 Q (WE E σ)) ⟨fun pins s σ H Q I h => ?_⟩ fun σ H Q h => spD_okK hG hn h
  apply wpAny_Call_Name_kw
  apply ld_glob I gl hm _ hdb
  apply PySem.W.callWith_KW (h₀ := X.base) I.ok.mod.kin hk hall _ hpl he
  apply thn (ha.run pos pins s σ H _ I h)
  rintro us s1 ⟨vs, H1, I1, r, q1⟩
  apply thn (hkw.run pos pins s1 σ H1 _ I1 q1)
  rintro ws s2 ⟨zs, H2, I2, rz, h1, h2, q⟩
  refine ⟨I2.kIn, ?_⟩
  rw [hks]
  exact run_gS (args := ⟨us, ks.zip ws⟩) F hg hr tk I2 (hb.to s2 us ws I2.kIn (r.length.symm.trans h1) (rz.length.symm.trans h2)) (hb.rel r rz) q
theorem de_gk0 (F : HasK X.prog X.w X.K X.mg X.base (L2.CX X.prog X.w) k x ps 0 ks g (spD G ps.length spec)) (hG : RelG g) (hg : X.A.guards = some []) (hr : Room k X.A) (tk : Takes X E) (gl : Gl X x) (hn : ∀ ws st r, spec ws st = some r → ws.length = ps.length) (hkw : DK G X E kws fk)
    (hall : (backToKw pos (keywordEach kws X.env)).all (·.1.isSome) = true := by rfl) (hks : (backToKw pos (keywordEach kws X.env)).filterMap (·.1) = ks := by rfl) (hdb : (x == ("__debug__" : Str)) = false := by decide)
    (hpl : ((backTo pos (starEach [] X.env)).any (·.1) || (backToKw pos (keywordEach kws X.env)).any (·.1.isNone)) = false := by rfl) :
    DE G X E (.Call (.Name x p) [] kws pos) (eFnK spec g 0 ks.length aNil fk) := by
  obtain ⟨f, fd, F, hm, hk, hb⟩ := F.ex
  refine PE.imp (t := fun σ H Q => rA G E aNil σ H fun vs H1 => rA G E fk σ H1 fun zs H2 => vs.length = 0 ∧ zs.length = ks.length ∧ spD G ps.length spec (g vs zs) H2 Q (WE E σ)) ⟨fun pins s σ H Q I h => ?_⟩ fun σ H Q h => spD_okK hG hn h
  obtain ⟨m, sl, st, hs, hc, h⟩ := h
  have q1 := aft_ok (v := []) h hc .nil
  apply wpAny_Call_Name_kw
  apply ld_glob I gl hm _ hdb
  apply PySem.W.callWith_KW0 (h₀ := X.base) I.ok.mod.kin hk hall _ hpl
  apply thn (hkw.run pos pins s σ H _ I q1)
  rintro ws s2 ⟨zs, H2, I2, rz, h1, h2, q⟩
  refine ⟨I2.kIn, ?_⟩
  rw [hks]
  exact run_gS (args := ⟨[], ks.zip ws⟩) F hg hr tk I2 (hb.to s2 [] ws I2.kIn rfl (rz.length.symm.trans h2)) (hb.rel .nil rz) q
/-- f() -/
theorem de_o0 (F : HasO X.prog X.w X.K X.mg X.base (L2.CX X.prog X.w) k x [] (spD G 0 spec)) (hr : Room k X.A) (tk : Takes X E) (gl : Gl X x) (hn : ∀ ws st r, spec ws st = some r → ws.length = 0) (hdb : (x == ("__debug__" : Str)) = false := by decide) : DE G X E (.Call (.Name x p) [] [] pos) (eFn spec aNil) := by
  obtain ⟨f, fd, F, hm, hk, hb⟩ := F.ex
  refine PE.imp (t := fun σ H Q => rA G E aNil σ H fun vs H1 => spD G 0 spec vs H1 Q (WE E σ)) ⟨fun pins s σ H Q I h => ?_⟩ fun σ H Q h => spD_ok hn h
  obtain ⟨m, sl, st, hs, hc, h⟩ := h
  have q1 := aft_ok (v := []) h hc .nil
  apply wpAny_Call_Name_kw
  apply ld_glob I gl hm _ hdb
  refine PySem.W.callWith_K0 I.kIn hk ?_
  exact run_oS (args := ⟨[], []⟩) F hr tk I (hb s [] I.kIn rfl) (us := []) .nil q1
/-! ### methods -/
def eMeth (c mth : Str) (spec : Spec) (fo : Ex) (fa : Ax) : Ex := fun sl st => bnd (fo sl st) fun w st1 => match view st1 w with
  | some (.obj c' gs) => if c' = c ∧ gs.lookup mth = none then bnd (fa sl st1) fun ws st2 => spec (w :: ws) st2 else none
  | _ => none
theorem meth_ok {σ : L2.St} {H : Hp} {Q : VK} (hC : G.mg c = some (.ref C)) (hn : ∀ ws st r, spec ws st = some r → ws.length = n) (h : rE G E (eMeth c mth spec fo fr) σ H Q) :
    rE G E fo σ H fun x H1 => ∃ a dx fs, x = .ref a ∧ H1 a = some (.ins C dx fs) ∧ fs.lookup mth = none ∧ rA G E fr σ H1 fun vs H2 => spD G n spec (x :: vs) H2 Q (WE E σ) := by
  obtain ⟨m, sl, st, hs, hc, h⟩ := h
  refine ⟨m, sl, st, hs, hc, aft_bnd h fun w st1 v H1 m1 e1 c1 r1 h1 => ?_⟩
  split at h1
  · rename_i c' gs hd
    split at h1
    · rename_i hz
      obtain ⟨rfl, hl⟩ := hz
      obtain ⟨a, C', dx, fs, rfl, z1, z2, z3⟩ := (view_ok c1 r1 hd).obj
      rw [hC] at z1
      cases z1
      refine ⟨a, dx, fs, rfl, z2, z3.lookN hl, m1, sl, st1, hs.ext hc e1, c1, aft_bnd h1 fun ws st2 vs H2 m2 e2 c2 r2 h2 => ⟨m2, w :: ws, st2, .cons (RpW.ext c1 e2 r1) r2, c2, ?_, h2⟩⟩
      cases hr : spec (w :: ws) st2 with
      | none => rw [hr] at h2; exact h2.elim
      | some r => exact hn _ _ _ hr
    · exact h1.elim
  · exact h1.elim
theorem de_m {pl : Sem Bool} (hC : G.mg c = some (.ref C)) (F : HasM X.prog X.w X.K X.mg X.base (L2.CX X.prog X.w) k C mth ps (spD G n spec)) (ho : DE G X E o fo) (hr : Room k X.A) (tk : Takes X E) (hn : ∀ ws st r, spec ws st = some r → ws.length = n) (ha : DA G X E (e :: es) fr)
    (hst : starEach (e :: es) X.env = (false, eval e X.env) :: starEach es X.env := by rfl) (hpl : (backTo pos (starEach es X.env)).any (·.1) = false := by rfl)
    (ht : eval (.Call (.Attribute o mth apos) (e :: es) [] pos) X.env = (do
      let ov ← eval o X.env
      standAt apos.atName
      let (f, first) ← holding [ov] (getMethod ov mth pl)
      callWith pos f first (backTo pos (starEach (e :: es) X.env)) (backToKw pos (keywordEach [] X.env))) := by rfl) :
    DE G X E (.Call (.Attribute o mth apos) (e :: es) [] pos) (eMeth c mth spec fo fr) := by
  obtain ⟨f, fd, F', hm, hb⟩ := F.ex
  refine PE.imp (t := fun σ H Q => rE G E fo σ H fun x H1 => ∃ a dx fs, x = .ref a ∧ H1 a = some (.ins C dx fs) ∧ fs.lookup mth = none ∧ rA G E fr σ H1 fun vs H2 => spD G n spec (x :: vs) H2 Q (WE E σ)) ⟨fun pins s σ H Q I h => ?_⟩ fun σ H Q h => meth_ok hC hn h
  refine PySem.W.methodCall_KW (pl := pl) (thn (ho.run pins s σ H _ I h) fun u s1 ⟨x, H1, I1, rx, a, dx, fs, ex, ea, l, q⟩ => ?_) ht
  subst ex
  obtain rfl : u = Value.ref a := rx
  refine getmeth_ok I1 ea F.cl hm l ?_
  refine PySem.W.callWith_K (first := [.ref a]) (h₀ := X.base) I.ok.mod.kin hm.kp (thn (ha.run pos pins s1 σ H1 _ I1 q) fun us s2 ⟨vs, H2, I2, r, q2⟩ => ⟨I2.kIn, ?_⟩) hst hpl
  have hl : (Value.ref a :: us).length = ps.length := (Vals.length (xs := V.ref a :: vs) (us := Value.ref a :: us) (.cons rfl r)).symm.trans (F'.len _ _ _ _ q2)
  have bt := hb s2 (Value.ref a :: us) I2.kIn (by rw [List.append_nil]; exact hl)
  rw [List.append_nil] at bt
  exact run_oS (args := ⟨.ref a :: us, []⟩) F' hr tk I2 bt (vs := .ref a :: _) (.cons rfl r) q2
theorem de_m0 {pl : Sem Bool} (hC : G.mg c = some (.ref C)) (F : HasM X.prog X.w X.K X.mg X.base (L2.CX X.prog X.w) k C mth ps (spD G n spec)) (ho : DE G X E o fo) (hr : Room k X.A) (tk : Takes X E) (hn : ∀ ws st r, spec ws st = some r → ws.length = n)
    (ht : eval (.Call (.Attribute o mth apos) [] [] pos) X.env = (do
      let ov ← eval o X.env
      standAt apos.atName
      let (f, first) ← holding [ov] (getMethod ov mth pl)
      callWith pos f first (backTo pos (starEach [] X.env)) (backToKw pos (keywordEach [] X.env))) := by rfl) :
    DE G X E (.Call (.Attribute o mth apos) [] [] pos) (eMeth c mth spec fo aNil) := by
  obtain ⟨f, fd, F', hm, hb⟩ := F.ex
  refine PE.imp (t := fun σ H Q => rE G E fo σ H fun x H1 => ∃ a dx fs, x = .ref a ∧ H1 a = some (.ins C dx fs) ∧ fs.lookup mth = none ∧ rA G E aNil σ H1 fun vs H2 => spD G n spec (x :: vs) H2 Q (WE E σ)) ⟨fun pins s σ H Q I h => ?_⟩ fun σ H Q h => meth_ok hC hn h
  refine PySem.W.methodCall_KW (pl := pl) (thn (ho.run pins s σ H _ I h) fun u s1 ⟨x, H1, I1, rx, a, dx, fs, ex, ea, l, q⟩ => ?_) ht
  subst ex
  obtain rfl : u = Value.ref a := rx
  refine getmeth_ok I1 ea F.cl hm l ?_
  obtain ⟨m, sl, st, hs, hc, h⟩ := q
  have q2 := aft_ok (v := []) h hc .nil
  have hl : [Value.ref a].length = ps.length := (Vals.length (xs := [V.ref a]) (us := [Value.ref a]) (.cons rfl .nil)).symm.trans (F'.len _ _ _ _ q2)
  have bt := hb s1 [Value.ref a] I1.kIn (by rw [List.append_nil]; exact hl)
  rw [List.append_nil] at bt
  exact PySem.W.callWith_K0 (first := [.ref a]) I1.kIn hm.kp (run_oS (args := ⟨[.ref a], []⟩) F' hr tk I1 bt (vs := [.ref a]) (.cons rfl .nil) q2)
/-- o.m(k=v) -/
def eMethK (c mth : Str) (spec : Spec) (g : List W → List W → List W) (l : Nat) (fo : Ex) (fk : Ax) : Ex := fun sl st => bnd (fo sl st) fun w st1 => match view st1 w with
  | some (.obj c' gs) => if c' = c ∧ gs.lookup mth = none then bnd (fk sl st1) fun zs st2 => if zs.length = l then spec (g [w] zs) st2 else none else none
  | _ => none
theorem de_mK {pl : Sem Bool} (hC : G.mg c = some (.ref C)) (F : HasMK X.prog X.w X.K X.mg X.base (L2.CX X.prog X.w) k C mth ps ks g (spD G n spec)) (hG : RelG g) (ho : DE G X E o fo) (hr : Room k X.A) (tk : Takes X E) (hn : ∀ ws st r, spec ws st = some r → ws.length = n) (hkw : DK G X E kws fk)
    (hall : (backToKw pos (keywordEach kws X.env)).all (·.1.isSome) = true := by rfl) (hks : (backToKw pos (keywordEach kws X.env)).filterMap (·.1) = ks := by rfl)
    (hpl : ((backTo pos (starEach [] X.env)).any (·.1) || (backToKw pos (keywordEach kws X.env)).any (·.1.isNone)) = false := by rfl)
    (ht : eval (.Call (.Attribute o mth apos) [] kws pos) X.env = (do
      let ov ← eval o X.env
      standAt apos.atName
      let (f, first) ← holding [ov] (getMethod ov mth pl)
      callWith pos f first (backTo pos (starEach [] X.env)) (backToKw pos (keywordEach kws X.env))) := by rfl) :
    DE G X E (.Call (.Attribute o mth apos) [] kws pos) (eMethK c mth spec g ks.length fo fk) := by
  obtain ⟨f, fd, F', hm, hb⟩ := F.ex
  refine PE.imp (t := fun σ H Q => rE G E fo σ H fun x H1 => ∃ a dx fs, x = .ref a ∧ H1 a = some (.ins C dx fs) ∧ fs.lookup mth = none ∧ rA G E fk σ H1 fun zs H2 => zs.length = ks.length ∧ spD G n spec (g [x] zs) H2 Q (WE E σ)) ⟨fun pins s σ H Q I h => ?_⟩ fun σ H Q h => ?_
  · refine PySem.W.methodCall_KW (pl := pl) (thn (ho.run pins s σ H _ I h) fun u s1 ⟨x, H1, I1, rx, a, dx, fs, ex, ea, l, q⟩ => ?_) ht
    subst ex
    obtain rfl : u = Value.ref a := rx
    refine getmeth_ok I1 ea F.cl hm l ?_
    refine PySem.W.callWith_KW0 (first := [.ref a]) (h₀ := X.base) I.ok.mod.kin hm.kp hall ?_ hpl
    refine thn (hkw.run pos pins s1 σ H1 _ I1 q) fun ws s2 ⟨zs, H2, I2, rz, l2, q2⟩ => ⟨I2.kIn, ?_⟩
    rw [hks]
    exact run_oS (args := ⟨[.ref a], ks.zip ws⟩) F' hr tk I2 (hb.to s2 [.ref a] ws I2.kIn rfl (rz.length.symm.trans l2)) (hb.rel (vs := [.ref a]) (.cons rfl .nil) rz) q2
  · obtain ⟨m, sl, st, hs, hc, h⟩ := h
    refine ⟨m, sl, st, hs, hc, aft_bnd h fun w st1 v H1 m1 e1 c1 r1 h1 => ?_⟩
    split at h1
    · rename_i c' gs hd
      split at h1
      · rename_i hz
        obtain ⟨rfl, hl⟩ := hz
        obtain ⟨a, C', dx, fs, rfl, z1, z2, z3⟩ := (view_ok c1 r1 hd).obj
        rw [hC] at z1
        cases z1
        refine ⟨a, dx, fs, rfl, z2, z3.lookN hl, m1, sl, st1, hs.ext hc e1, c1, aft_bnd h1 fun ws st2 vs H2 m2 e2 c2 r2 h2 => ?_⟩
        split at h2
        · rename_i hl2
          refine ⟨r2.len.trans hl2, m2, g [w] ws, st2, hG _ _ _ _ _ _ _ (.cons (RpW.ext c1 e2 r1) .nil) r2, c2, ?_, h2⟩
          cases hr : spec (g [w] ws) st2 with
          | none => rw [hr] at h2; exact h2.elim
          | some r => exact hn _ _ _ hr
        · exact h2.elim
      · exact h1.elim
    · exact h1.elim
/-! ### C(..) -/
/-- what the new instance is when __init__ is done -/
def made (c : Str) (n : Nat) (r : R W) : R W := match r with
  | some (.ok (.d .non), st2) => (match st2[n]? with
    | some (.ins c' fs) => if c' = c then some (.ok (.d (.obj c fs)), st2.take n) else none
    | _ => none)
  | some (.exc e fs, st2) => some (.exc e fs, st2.take n)
  | _ => none
def eNew (c : Str) (spec : Spec) (fa : Ax) : Ex := fun sl st => bnd (fa sl st) fun ws st1 => made c st1.length (spec (.c st1.length :: ws) (st1 ++ [.ins c []]))
theorem made_ok {E' : XK} {m : M} {H : Hp} {st : Sto} {ws : List W} {vs : List V} {Q : VK} (hC : G.mg c = some (.ref C)) (hn : ∀ ws st r, spec ws st = some r → ws.length = n) (co : CO G m H st) (r : RpWs G m H vs ws) (ws' : List W) (vs' : List V)
    (hw : ∀ m' H' v w, RpWs G m' H' vs ws → RpW G m' H' v w → w = .c st.length → RpWs G m' H' (v :: vs') (w :: ws'))
    (h : aft G E' (RpW G) m H (made c st.length (spec (.c st.length :: ws') (st ++ [.ins c []]))) Q) (x dx : Addr) (hx : H x = none) (hdx : H dx = none) (ne : dx ≠ x) :
    spD G n spec (.ref x :: vs') (upd (upd H dx (.own x)) x (.ins C dx [])) (fun v H2 => v = .non ∧ Q (.ref x) H2) E' := by
  have sm := same_new (o := .own x) hdx
  have hx1 : upd H dx (.own x) x = none := by rw [upd_ne (Ne.symm ne)]; exact hx
  have co1 := co.same sm
  have e1 := (Ext.of_same (m := m) sm).trans (ext_cell (o := .ins C dx []) co1 hx1)
  have co2 : CO G (m.add x) (upd (upd H dx (.own x)) x (.ins C dx [])) (st ++ [.ins c []]) := co1.cell hx1 ⟨C, dx, [], hC, upd_same, .nil⟩
  have ix : (m.add x).c[st.length]? = some x := by
    show (m.c ++ [x])[_]? = _
    rw [← co.len, List.getElem?_append_right (Nat.le_refl _), Nat.sub_self]
    rfl
  refine ⟨m.add x, .c st.length :: ws', st ++ [.ins c []], hw _ _ _ _ (r.ext co e1) ⟨x, ix, rfl⟩ rfl, co2, ?_, ?_⟩
  · cases hr : spec (.c st.length :: ws') (st ++ [.ins c []]) with
    | none => rw [hr] at h; exact h.elim
    | some r => exact hn _ _ _ hr
  · cases hr : spec (.c st.length :: ws') (st ++ [.ins c []]) with
    | none => rw [hr] at h; exact h.elim
    | some rr =>
      rw [hr] at h
      obtain ⟨o, st2⟩ := rr
      cases o with
      | exc c' fs =>
        intro C' d gs H' m' e' c'' z1 z2 z3
        obtain ⟨x1, k2, sub⟩ := (e1.trans e').cut c''
        rw [co.len] at k2
        exact h C' d gs H' m x1 k2 z1 z2 (z3.fewer sub)
      | ok w =>
        intro v H' m' e' c'' rw'
        unfold made at h
        split at h
        · rename_i z
          cases z
          have rv : v = .non := by cases rw'; rfl
          refine ⟨rv, ?_⟩
          split at h
          · rename_i c' fs hcell
            split at h
            · rename_i hcc
              subst hcc
              obtain ⟨C2, dx2, gs, q1, q2, q3⟩ := c''.at_ _ x _ (ext_ix e' ix) hcell
              obtain ⟨x1, k2, sub⟩ := (e1.trans e').cut c''
              rw [co.len] at k2
              exact h (.ref x) H' m x1 k2 (rpd (.obj q1 q2 (co.new_na (.none hx)) (q3.fewer sub)))
            · exact h.elim
          · exact h.elim
        · rename_i z
          cases z
        · exact h.elim
theorem run_makeS {pins : List (Addr × Obj)} {σ : L2.St} {H : Hp} {s : Shared} {Q : VK} {us : List Value} {kw : List (Str × Value)} {usI : List Value} {vsI : List V} {sp : Sp} (M : Mk X.K C f) (F : FnOk X.prog X.w X.K X.mg X.base (L2.CX X.prog X.w) k f fd ps sp) (hr : Room (k + 1) X.A) (tk : Takes X E)
    (I : Inv X pins σ H s) (hbt : ∀ (s' : Shared) (x : Addr), X.K.In s'.heap → BindsTo s' fd ⟨.ref x :: us, kw⟩ (ps.zip (.ref x :: usI))) (r : Vals vsI usI)
    (h : ∀ x dx, H x = none → H dx = none → dx ≠ x → sp (.ref x :: vsI) (upd (upd H dx (.own x)) x (.ins C dx [])) (fun v H2 => v = .non ∧ Q (.ref x) H2) (WE E σ)) :
    wpAny (model X.prog X.w) X.A (call (.ref C) us kw) (EP X pins σ Q) X.xe s := by
  have hq := h (s.heap.objs.size + 1) s.heap.objs.size (I.hok.fresh (Nat.le_succ _)) (I.hok.fresh (Nat.le_refl _)) (Nat.ne_of_lt (Nat.lt_succ_self _))
  have I2 := Inv.made (C := C) I
  refine wpAny_call (make_map (f := f) I.kIn M.makes M.init (beq_iff_eq.mp M.fn) (codeAny_mono (F.run _ X.stack _ _ ⟨Value.ref (s.heap.objs.size + 1) :: us, kw⟩ (Value.ref (s.heap.objs.size + 1) :: usI) (V.ref (s.heap.objs.size + 1) :: vsI) _ (WE E σ) (hr.make C us kw)
    (I2.env0.make C us kw) (hbt _ _ I2.kIn) (.cons rfl r) hq) fun r s' hq' => ?_))
  cases r with
  | error e => exact passAt tk σ pins _ _ e s' I2 hq'
  | ok fl =>
    cases fl with
    | ret u =>
      obtain ⟨v, H', I3, rv, ev, q3⟩ := I2.after hq'
      subst ev
      exact ⟨rv, ⟨V.ref (s.heap.objs.size + 1), H', I3, rfl, q3⟩⟩
    | next => exact False.elim hq'
    | brk => exact False.elim hq'
    | cont => exact False.elim hq'
theorem de_new (F : ClsO X.prog X.w X.K X.mg X.base (L2.CX X.prog X.w) k c C ps (spD G ps.length spec)) (hr : Room (k + 1) X.A) (tk : Takes X E) (gl : Gl X c) (hn : ∀ ws st r, spec ws st = some r → ws.length = ps.length) (ha : DA G X E (e :: es) fr) (hM : X.mg = G.mg := by rfl) (hdb : (c == ("__debug__" : Str)) = false := by decide)
    (he : starEach (e :: es) X.env = (false, eval e X.env) :: starEach es X.env := by rfl) (hpl : (backTo pos (starEach es X.env)).any (·.1) = false := by rfl) : DE G X E (.Call (.Name c p) (e :: es) [] pos) (eNew c spec fr) := by
  obtain ⟨f, fd, F', hm, M, hb⟩ := F.ex
  refine PE.imp (t := fun σ H Q => rA G E fr σ H fun vs H1 => ∀ x dx, H1 x = none → H1 dx = none → dx ≠ x → spD G ps.length spec (.ref x :: vs) (upd (upd H1 dx (.own x)) x (.ins C dx [])) (fun v H2 => v = .non ∧ Q (.ref x) H2) (WE E σ)) ⟨fun pins s σ H Q I h => ?_⟩ fun σ H Q h => ?_
  · refine wpAny_Call_Name_kw (ld_glob I gl hm ?_ hdb)
    refine PySem.W.callWith_K (h₀ := X.base) I.ok.mod.kin M.kp (thn (ha.run pos pins s σ H _ I h) fun us s1 ⟨vs, H1, I1, r, q⟩ => ⟨I1.kIn, ?_⟩) he hpl
    refine run_makeS (usI := us) M F' hr tk I1 (fun s' x hk => ?_) r q
    have q0 := q (s1.heap.objs.size + 1) s1.heap.objs.size (I1.hok.fresh (Nat.le_succ _)) (I1.hok.fresh (Nat.le_refl _)) (Nat.ne_of_lt (Nat.lt_succ_self _))
    have hl : (Value.ref x :: us).length = ps.length := by
      have z := F'.len _ _ _ _ q0
      rw [List.length_cons] at z ⊢
      rw [← r.length]
      exact z
    have bt := hb s' (Value.ref x :: us) hk (by rw [List.append_nil]; exact hl)
    rw [List.append_nil] at bt
    exact bt
  · obtain ⟨m, sl, st, hs, hc, h⟩ := h
    exact ⟨m, sl, st, hs, hc, aft_bnd h fun ws st1 vs H1 m1 e1 c1 r1 h1 x dx hx hdx ne => made_ok (by rw [← hM]; exact hm) hn c1 r1 ws vs (fun _ _ _ _ a b _ => .cons b a) h1 x dx hx hdx ne⟩
/-- C(k=v, ..) -/
structure ClsKw (P : Program) (w : World) (K : PySem.W.Frag) (mg : Str → Option Value) (base : Heap) (k : Nat) (x : Str) (C : Addr) (ps : List Str) (q : Nat) (ks : List Str) (g : {α : Type} → List α → List α → List α) (sp : Sp) : Prop where
  ex : ∃ (f : Addr) (fd : FuncData), FnOk P w K mg base (L2.CX P w) k f fd ps sp ∧ mg x = some (.ref C) ∧ Mk K C f ∧ (∀ (s : Shared) (y : Addr) (us ws : List Value), K.In s.heap → us.length = q → ws.length = ks.length → BindsTo s fd ⟨.ref y :: us, ks.zip ws⟩ (ps.zip (.ref y :: g us ws))) ∧
    ∀ {vs zs : List V} {us ws : List Value}, Vals vs us → Vals zs ws → Vals (g vs zs) (g us ws)
def eNewK (c : Str) (spec : Spec) (g : List W → List W → List W) (q l : Nat) (fa fk : Ax) : Ex := fun sl st => bnd (fa sl st) fun ws st1 => bnd (fk sl st1) fun zs st2 => if ws.length = q ∧ zs.length = l then made c st2.length (spec (.c st2.length :: g ws zs) (st2 ++ [.ins c []])) else none
theorem de_newK0 (F : ClsKw X.prog X.w X.K X.mg X.base k c C ps 0 ks g (spD G ps.length spec)) (hG : RelG g) (hr : Room (k + 1) X.A) (tk : Takes X E) (gl : Gl X c) (hn : ∀ ws st r, spec ws st = some r → ws.length = ps.length) (hkw : DK G X E kws fk) (hM : X.mg = G.mg := by rfl)
    (hall : (backToKw pos (keywordEach kws X.env)).all (·.1.isSome) = true := by rfl) (hks : (backToKw pos (keywordEach kws X.env)).filterMap (·.1) = ks := by rfl) (hdb : (c == ("__debug__" : Str)) = false := by decide)
    (hpl : ((backTo pos (starEach [] X.env)).any (·.1) || (backToKw pos (keywordEach kws X.env)).any (·.1.isNone)) = false := by rfl) : DE G X E (.Call (.Name c p) [] kws pos) (eNewK c spec g 0 ks.length aNil fk) := by
  obtain ⟨f, fd, F', hm, M, hb, hrel⟩ := F.ex
  refine PE.imp (t := fun σ H Q => rA G E fk σ H fun zs H1 => zs.length = ks.length ∧ ∀ x dx, H1 x = none → H1 dx = none → dx ≠ x → spD G ps.length spec (.ref x :: g [] zs) (upd (upd H1 dx (.own x)) x (.ins C dx [])) (fun v H2 => v = .non ∧ Q (.ref x) H2) (WE E σ)) ⟨fun pins s σ H Q I h => ?_⟩ fun σ H Q h => ?_
  · refine wpAny_Call_Name_kw (ld_glob I gl hm ?_ hdb)
    refine PySem.W.callWith_KW0 (h₀ := X.base) I.ok.mod.kin M.kp hall ?_ hpl
    refine thn (hkw.run pos pins s σ H _ I h) fun ws s1 ⟨zs, H1, I1, r, lz, q⟩ => ⟨I1.kIn, ?_⟩
    rw [hks]
    exact run_makeS (usI := g [] ws) M F' hr tk I1 (fun s' x hk => hb s' x [] ws hk rfl (r.length.symm.trans lz)) (hrel .nil r) q
  · obtain ⟨m, sl, st, hs, hc, h⟩ := h
    have h : aft G (WE E σ) (RpW G) m H (bnd (fk sl st) fun zs st2 => if ([] : List W).length = 0 ∧ zs.length = ks.length then made c st2.length (spec (.c st2.length :: g [] zs) (st2 ++ [.ins c []])) else none) Q := h
    refine ⟨m, sl, st, hs, hc, aft_bnd h fun zs st1 vs H1 m1 e1 c1 r1 h1 => ?_⟩
    split at h1
    · rename_i hl
      exact ⟨r1.len.trans hl.2, fun x dx hx hdx ne => made_ok (by rw [← hM]; exact hm) hn c1 r1 (g [] zs) (g [] vs) (fun _ _ _ _ a b _ => .cons b (hG _ _ _ _ _ _ _ .nil a)) h1 x dx hx hdx ne⟩
    · exact h1.elim
end
end Dn

namespace Dn
open PySem PySem.Spec PyProof.Rows L2 Ft LamX
section
variable {G : Gx} {X : Cx} {E : WX} {m m' : M} {H H' : Hp} {e : Expr} {fe : Ex} {pos p : Pos} {tg : Expr}
theorem dv (i : Nat) {x : Str} (hN : X.N[i]? = some x := by rfl) (hv : Vis X.env.scope x := by first | exact Or.inl rfl | exact Or.inr (Or.inl rfl) | exact Or.inr (Or.inr rfl)) (hd : (x == ("__debug__" : Str)) = false := by decide)
    (hcd : (x == ("__classdict__" : Str)) = false := by decide) : DE G X E (.Name x pos) (eVar i) := de_var hN hv hd hcd
theorem de_one {op : BoolOp} {a : Expr} {fa : Ex} (h : DE G X E a fa) : DE G X E (.BoolOp op [a] pos) fa := pe_one h
/-! ### a walk over a list, a tuple or a text -/
def itAny (w : W) (st : Sto) : R (List D × Option (Nat × List D)) := match w with
  | .d (.tup ds) => some (.ok (ds, none), st)
  | .d (.str x) => some (.ok (signs x, none), st)
  | w => itL w st
theorem di_any (he : DE G X E e fe) (hK : X.K = G.K := by rfl) : DI G X E tg e (iOf itAny fe) := by
  refine ⟨fun pins s σ H R I ⟨m, sl, st, hs, hc, h⟩ => ?_⟩
  unfold iOf at h
  cases hf : fe sl st with
  | none => rw [hf] at h; exact h.elim
  | some r =>
    obtain ⟨o, st1⟩ := r
    rw [hf] at h
    have viaL : aft G (WE E σ) (relI G) m H (iOf itL fe sl st) R → _ := fun h => (di_list (tg := tg) he hK).run pins s σ H R I ⟨m, sl, st, hs, hc, h⟩
    cases o with
    | exc c fs => exact viaL (by unfold iOf; rw [hf]; exact h)
    | ok w =>
      cases w with
      | c n => exact viaL (by unfold iOf; rw [hf]; exact h)
      | scr ns => exact viaL (by unfold iOf; rw [hf]; exact h)
      | t l => exact h.elim
      | d x =>
        cases x with
        | tup ds => exact (di_tup (tg := tg) he).run pins s σ H R I ⟨m, sl, st, hs, hc, by unfold iOf; rw [hf]; exact h⟩
        | str x => exact (di_str (tg := tg) he).run pins s σ H R I ⟨m, sl, st, hs, hc, by unfold iOf; rw [hf]; exact h⟩
        | lst ds => exact viaL (by unfold iOf; rw [hf]; exact h)
        | non => exact h.elim
        | bl _ => exact h.elim
        | int _ => exact h.elim
        | obj _ _ => exact h.elim
        | emp => exact h.elim
/-! ### _law_told(lambda: ..) -/
def eTold (sort : Str → List (Str × D) → Option D) (fb : Ex) : Ex := fun sl st => match fb sl st with
  | some (.ok (.d x), st1) => some (.ok (.d (.lst [.str "given", x])), st1)
  | some (.exc c fs, st1) => (match sort c fs with
    | some r => some (.ok (.d r), st1)
    | none => none)
  | _ => none
def spHot (G : Gx) (sort : Str → List (Str × D) → Option D) : Addr → Value → Option Addr → Sp := fun a cls d vs H Q _ => vs = [.ref a] ∧ ∃ m st c fs gs C dd r, cls = .ref C ∧ d = some dd ∧ G.mg c = some (.ref C) ∧ H dd = some (.xd gs) ∧ RpF G m H gs fs ∧ CO G m H st ∧ sort c fs = some r ∧ Gives G m H r Q
theorem CO.extN {st : Sto} (c : CO G m H st) (e : ExtN H H') (t : Tabs G.T H') : Ext m H m H' ∧ CO G m H' st := by
  have x : Ext m H m H' := ⟨⟨[], (List.append_nil _).symm, fun _ h => nomatch h⟩, ⟨fun _ h => h, fun _ h => .inl h⟩, fun a o _ nt h => e a o h nt, fun a f o h => by
    cases o with
    | tbl ps => exact ⟨ps, rfl⟩
    | _ => exact (f.no (e a _ h (by intro _ z; cases z)) (by intro _ z; cases z)).elim⟩
  refine ⟨x, c.len, c.nd, fun i a cl h1 h2 => ?_, t, fun a ha f => c.gh a ha (x.dom a f)⟩
  have q := c.at_ i a cl h1 h2
  obtain ⟨o, ho, _, nt, _⟩ := q.got
  exact q.ext c x ((e a o ho nt).trans ho.symm)
theorem de_told {k j : Nat} {cs : List Value} {sort : Str → List (Str × D) → Option D} {c Pt : Addr} {params : Arguments} {body : Expr} {scope : Scope} {fb : Ex} {lpos : Pos}
    (W : ToldAt X.prog X.w X.K X.mg X.base k cs (spHot G sort)) (hexm : ∀ c C fs r, G.mg c = some (.ref C) → sort c fs = some r → PySem.W.exmAny X.K (.ref C) cs = some true)
    (hg : X.A.guards = some []) (TB : TabB X.base X.mg c Pt) (hcode : X.env.code = .ref c) (hmT : (Pt, X.env.qual ++ "<lambda>") ∈ G.T) (hu : ∀ p ∈ G.T, p.1 = Pt → p.2 = X.env.qual ++ "<lambda>")
    (hr : Room (j + 2) X.A) (hk : k ≤ j) (gl : Gl X "_law_told") (L : LamS X.env.scope scope) (hdef : defaultsOf params X.env = ([], []))
    (hbind : ∀ (q : Str) (cl : List (Str × Addr)) (pm cv ctv : Value), bindArgs (PySem.W.kla_fn "<lambda>" q params body scope cl pm cv ctv) ⟨[], []⟩ = pure [])
    (hbody : ∀ (A : Around) (outer : List Env) (s : Shared) (H : Hp) (E : XK) (f c' : Addr), Room j (A.deeper (lamEnv X scope s.heap.objs.size f c')) → Takes (lamCx X A outer s H E scope f c') (wx E) → DE G (lamCx X A outer s H E scope f c') (wx E) body fb) :
    DE G X E (.Call (.Name "_law_told" p) [.Lambda params body scope lpos] [] pos) (eTold sort fb) := by
  refine PE.imp (pe_told (T := G.T) (t := fun E => rE G (wx E) fb) W hg TB hcode hmT hu hr hk gl L hdef hbind fun A outer s H E f c' hr' => hbody A outer s H E f c' hr' (takes_of (X := lamCx X A outer s H E scope f c') (E := E) rfl rfl rfl rfl)) ?_
  rintro σ H Q ⟨m, sl, st, hs, hc, h⟩
  refine ⟨hc.tabs, fun H1 x1 t1 => ?_⟩
  obtain ⟨e1, c1⟩ := hc.extN x1 t1
  refine ⟨m, sl, st, hs.ext hc e1, c1, ?_⟩
  unfold eTold at h
  split at h
  · rename_i x st1 hf
    rw [hf]
    intro v H2 m2 e2 c2 r2
    refine ⟨v, rfl, by show 2 ≤ sizeLine; decide, fun q hq => ?_⟩
    exact h _ _ m2 ((e1.trans e2).trans (Ext.of_same (same_new hq))) (c2.same (same_new hq)) (rpd (rp_lst c2 hq (by show 2 ≤ lim; decide) (.cons (.str _ (by decide +kernel)) (.cons r2 .nil))))
  · rename_i c' fs st1 hf
    rw [hf]
    split at h
    · rename_i r hsort
      intro C d gs H2 m2 e2 c2 z1 z2 z3
      refine ⟨hexm c' C fs r z1 hsort, fun a ha => ⟨rfl, m2, st1, c', fs, gs, C, d, r, rfl, rfl, z1, z2, z3, c2, hsort, fun v H3 sm rv => ?_⟩⟩
      exact h v H3 m2 ((e1.trans e2).trans (Ext.of_same sm)) (c2.same sm) rv
    · exact h.elim
  · exact h.elim
end
/-! ### the end -/
/-- the law: from any script -/
def lawSp (K : PySem.W.Frag) (Tb : List (Addr × Str)) : Sp := fun vs H Q _ => ∃ (a : Addr) (ns : List Int), vs = [.ref a] ∧ SqL K H a (ns.map V.int) ∧ ns.length ≤ 63 ∧ Tabs Tb H ∧ ∀ H', Q (.bl true) H'
theorem lawG {P : Program} {w : World} {K : PySem.W.Frag} {mg : Str → Option Value} {T : List (Addr × Str)} {base : Heap} {k : Nat} {f : Addr} {fd : FuncData} {x : Str} {spec : Spec}
    (F : FnG P w K mg base (L2.CX P w) k f fd [x] (spD ⟨K, mg, T⟩ 1 spec)) (h : ∀ ns : List Int, ns.length ≤ 63 → ∃ st, spec [.scr ns] [] = some (.ok (.d (.bl true)), st)) : FnG P w K mg base CX0 k f fd [x] (lawSp K T) := by
  refine ⟨fun vs H Q E q => ?_, fun A hg hr outer s H e0 args us vs Q E bt r q => ?_⟩
  · obtain ⟨a, ns, rfl, _⟩ := q
    rfl
  · obtain ⟨a, ns, rfl, sq, hl, tb, q⟩ := q
    obtain ⟨st, hs⟩ := h ns hl
    have hsp : spD ⟨K, mg, T⟩ 1 spec [.ref a] H Q E0 := by
      refine ⟨⟨[], []⟩, [.scr ns], [], .cons ⟨a, rfl, Nat.le_trans hl (by decide), ?_⟩ .nil, ⟨rfl, List.nodup_nil, fun i a c h1 _ => ?_, tb, fun a ha => nomatch ha⟩, rfl, ?_⟩
      · rcases sq with (sq | sq) | sq
        · exact .inl ⟨sq, fun z => nomatch z⟩
        · exact .inr (.inl sq)
        · exact .inr (.inr sq)
      · have h1 : ([] : List Addr)[i]? = some a := h1
        rw [List.getElem?_nil] at h1
        cases h1
      · rw [hs]
        intro v H' m' _ _ rv
        have rv : Rp _ _ _ v (.bl true) := rv
        cases rv
        exact q H'
    apply codeAny_mono (F.gRun A hg hr outer s H e0 args us [.ref a] Q E0 bt r hsp)
    intro res s2 z
    match res, z with
    | .ok (.ret u), z => exact z
    | .ok .next, z => exact z
    | .ok .brk, z => exact z
    | .ok .cont, z => exact z
    | .error e, z =>
      obtain ⟨_, _, _, _, _, _, _, _, _, _, _, _, no⟩ := z
      exact no
end Dn

namespace Dn
open PySem PySem.Spec PyProof.Rows L2 Ft LamX
/-! ### the same with the classes' addresses hidden -/
abbrev HasF (P : Program) (w : World) (K : PySem.W.Frag) (mg : Str → Option Value) (base : Heap) (T : List (Addr × Str)) (k : Nat) (x : Str) (ps : List Str) (spec : Spec) : Prop := HasO P w K mg base (L2.CX P w) k x ps (spD ⟨K, mg, T⟩ ps.length spec)
abbrev HasL (P : Program) (w : World) (K : PySem.W.Frag) (mg : Str → Option Value) (base : Heap) (T : List (Addr × Str)) (k : Nat) (x : Str) (ps : List Str) (spec : Spec) : Prop := Has P w K mg base (L2.CX P w) k x ps (spD ⟨K, mg, T⟩ ps.length spec)
def HasMd (P : Program) (w : World) (K : PySem.W.Frag) (mg : Str → Option Value) (base : Heap) (T : List (Addr × Str)) (k : Nat) (c mth : Str) (ps : List Str) (spec : Spec) : Prop := ∃ C, mg c = some (.ref C) ∧ HasM P w K mg base (L2.CX P w) k C mth ps (spD ⟨K, mg, T⟩ ps.length spec)
def HasMKd (P : Program) (w : World) (K : PySem.W.Frag) (mg : Str → Option Value) (base : Heap) (T : List (Addr × Str)) (k : Nat) (c mth : Str) (ps ks : List Str) (g : {α : Type} → List α → List α → List α) (spec : Spec) : Prop := ∃ C, mg c = some (.ref C) ∧ HasMK P w K mg base (L2.CX P w) k C mth ps ks g (spD ⟨K, mg, T⟩ ps.length spec)
def HasCd (P : Program) (w : World) (K : PySem.W.Frag) (mg : Str → Option Value) (base : Heap) (T : List (Addr × Str)) (k : Nat) (c : Str) (ps : List Str) (spec : Spec) : Prop := ∃ C, ClsO P w K mg base (L2.CX P w) k c C ps (spD ⟨K, mg, T⟩ ps.length spec)
def HasCKd (P : Program) (w : World) (K : PySem.W.Frag) (mg : Str → Option Value) (base : Heap) (T : List (Addr × Str)) (k : Nat) (c : Str) (ps : List Str) (q : Nat) (ks : List Str) (g : {α : Type} → List α → List α → List α) (spec : Spec) : Prop := ∃ C, ClsKw P w K mg base k c C ps q ks g (spD ⟨K, mg, T⟩ ps.length spec)
abbrev HasX (K : PySem.W.Frag) (mg : Str → Option Value) (c fld : Str) : Prop := ∃ C, ExAt K mg c fld C
section
variable {X : Cx} {T : List (Addr × Str)} {E : WX} {k : Nat} {x c mth fld : Str} {ps ks : List Str} {spec : Spec} {p pos apos : Pos} {e o : Expr} {es : List Expr} {kws : List Keyword} {fo : Ex} {fr fk : Ax} {g : {α : Type} → List α → List α → List α}
theorem dx_m {pl : Sem Bool} (F : HasMd X.prog X.w X.K X.mg X.base T k c mth ps spec) (ho : DE ⟨X.K, X.mg, T⟩ X E o fo) (hr : Room k X.A) (tk : Takes X E) (hn : ∀ ws st r, spec ws st = some r → ws.length = ps.length) (ha : DA ⟨X.K, X.mg, T⟩ X E (e :: es) fr)
    (hst : starEach (e :: es) X.env = (false, eval e X.env) :: starEach es X.env := by rfl) (hpl : (backTo pos (starEach es X.env)).any (·.1) = false := by rfl)
    (ht : eval (.Call (.Attribute o mth apos) (e :: es) [] pos) X.env = (do
      let ov ← eval o X.env
      standAt apos.atName
      let (f, first) ← holding [ov] (getMethod ov mth pl)
      callWith pos f first (backTo pos (starEach (e :: es) X.env)) (backToKw pos (keywordEach [] X.env))) := by rfl) :
    DE ⟨X.K, X.mg, T⟩ X E (.Call (.Attribute o mth apos) (e :: es) [] pos) (eMeth c mth spec fo fr) := by
  obtain ⟨C, hC, F⟩ := F
  exact de_m (pl := pl) hC F ho hr tk hn ha hst hpl ht
theorem dx_m0 {pl : Sem Bool} (F : HasMd X.prog X.w X.K X.mg X.base T k c mth ps spec) (ho : DE ⟨X.K, X.mg, T⟩ X E o fo) (hr : Room k X.A) (tk : Takes X E) (hn : ∀ ws st r, spec ws st = some r → ws.length = ps.length)
    (ht : eval (.Call (.Attribute o mth apos) [] [] pos) X.env = (do
      let ov ← eval o X.env
      standAt apos.atName
      let (f, first) ← holding [ov] (getMethod ov mth pl)
      callWith pos f first (backTo pos (starEach [] X.env)) (backToKw pos (keywordEach [] X.env))) := by rfl) :
    DE ⟨X.K, X.mg, T⟩ X E (.Call (.Attribute o mth apos) [] [] pos) (eMeth c mth spec fo aNil) := by
  obtain ⟨C, hC, F⟩ := F
  exact de_m0 (pl := pl) hC F ho hr tk hn ht
theorem dx_mK {pl : Sem Bool} (F : HasMKd X.prog X.w X.K X.mg X.base T k c mth ps ks g spec) (hG : RelG g) (ho : DE ⟨X.K, X.mg, T⟩ X E o fo) (hr : Room k X.A) (tk : Takes X E) (hn : ∀ ws st r, spec ws st = some r → ws.length = ps.length) (hkw : DK ⟨X.K, X.mg, T⟩ X E kws fk)
    (hall : (backToKw pos (keywordEach kws X.env)).all (·.1.isSome) = true := by rfl) (hks : (backToKw pos (keywordEach kws X.env)).filterMap (·.1) = ks := by rfl)
    (hpl : ((backTo pos (starEach [] X.env)).any (·.1) || (backToKw pos (keywordEach kws X.env)).any (·.1.isNone)) = false := by rfl)
    (ht : eval (.Call (.Attribute o mth apos) [] kws pos) X.env = (do
      let ov ← eval o X.env
      standAt apos.atName
      let (f, first) ← holding [ov] (getMethod ov mth pl)
      callWith pos f first (backTo pos (starEach [] X.env)) (backToKw pos (keywordEach kws X.env))) := by rfl) :
    DE ⟨X.K, X.mg, T⟩ X E (.Call (.Attribute o mth apos) [] kws pos) (eMethK c mth spec g ks.length fo fk) := by
  obtain ⟨C, hC, F⟩ := F
  exact de_mK (pl := pl) hC F hG ho hr tk hn hkw hall hks hpl ht
theorem dx_new (F : HasCd X.prog X.w X.K X.mg X.base T k c ps spec) (hr : Room (k + 1) X.A) (tk : Takes X E) (gl : Gl X c) (hn : ∀ ws st r, spec ws st = some r → ws.length = ps.length) (ha : DA ⟨X.K, X.mg, T⟩ X E (e :: es) fr) (hdb : (c == ("__debug__" : Str)) = false := by decide)
    (he : starEach (e :: es) X.env = (false, eval e X.env) :: starEach es X.env := by rfl) (hpl : (backTo pos (starEach es X.env)).any (·.1) = false := by rfl) : DE ⟨X.K, X.mg, T⟩ X E (.Call (.Name c p) (e :: es) [] pos) (eNew c spec fr) := by
  obtain ⟨C, F⟩ := F
  exact de_new F hr tk gl hn ha rfl hdb he hpl
theorem dx_newK0 (F : HasCKd X.prog X.w X.K X.mg X.base T k c ps 0 ks g spec) (hG : RelG g) (hr : Room (k + 1) X.A) (tk : Takes X E) (gl : Gl X c) (hn : ∀ ws st r, spec ws st = some r → ws.length = ps.length) (hkw : DK ⟨X.K, X.mg, T⟩ X E kws fk)
    (hall : (backToKw pos (keywordEach kws X.env)).all (·.1.isSome) = true := by rfl) (hks : (backToKw pos (keywordEach kws X.env)).filterMap (·.1) = ks := by rfl) (hdb : (c == ("__debug__" : Str)) = false := by decide)
    (hpl : ((backTo pos (starEach [] X.env)).any (·.1) || (backToKw pos (keywordEach kws X.env)).any (·.1.isNone)) = false := by rfl) : DE ⟨X.K, X.mg, T⟩ X E (.Call (.Name c p) [] kws pos) (eNewK c spec g 0 ks.length aNil fk) := by
  obtain ⟨C, F⟩ := F
  exact de_newK0 F hG hr tk gl hn hkw rfl hall hks hdb hpl
theorem dx_raise {pos' : Pos} (Tx : HasX X.K X.mg c fld) (hr : Room k X.A) (tk : Takes X E) (ha : DA ⟨X.K, X.mg, T⟩ X E [e] fr) (hc : X.calm = true) (gl : Gl X c) (hdb : (c == ("__debug__" : Str)) = false := by decide)
    (he : starEach (e :: []) X.env = (false, eval e X.env) :: starEach [] X.env := by rfl) (hpl : (backTo pos (starEach [] X.env)).any (·.1) = false := by rfl) : DS ⟨X.K, X.mg, T⟩ X E (.Raise (some (.Call (.Name c p) [e] [] pos)) none pos') (sRaise c fld fr) := by
  obtain ⟨C, F⟩ := Tx
  exact ds_raise F hr tk ha hc gl rfl hdb he hpl
end
/-- a def of the law that makes lambdas: its code object is known -/
theorem okDGC {P : Program} {w : World} {K : PySem.W.Frag} {mg : Str → Option Value} {T : List (Addr × Str)} {base : Heap} {x qual : Str} {st : Stmt} {f c : Addr} {fd : FuncData} {N ps : List Str} {k : Nat} {spec : Spec} (fr : Bool) (F : FunC K x qual st f fd c) (S : FnScope N ps (defScope st))
    (hb : ∀ (A : Around) (outer : List Env) (s : Shared) (H : Hp) (E : XK), A.guards = some [] → Room k (A.deeper (PyProof.Rows.envOfC qual (defScope st) s.heap.objs.size f (.ref c))) →
      Takes (cxD P w K mg base N qual (defScope st) f (.ref c) A outer s H E) (wx E) →
      PassesOwn (model P w) (cxD P w K mg base N qual (defScope st) f (.ref c) A outer s H E).A (cxD P w K mg base N qual (defScope st) f (.ref c) A outer s H E).env (cxD P w K mg base N qual (defScope st) f (.ref c) A outer s H E).xe →
      ∃ b : Sm, DSs ⟨K, mg, T⟩ (cxD P w K mg base N qual (defScope st) f (.ref c) A outer s H E) (wx E) (defBody st) b ∧ ∀ ws st r, ws.length = ps.length → spec ws st = some r → runB fr N.length b ws st = some r) :
    FnG P w K mg base (L2.CX P w) (k + 1) f fd ps (spD ⟨K, mg, T⟩ ps.length spec) := by
  obtain ⟨_, _, _, _, _, _, _, _, e, lk, hcd⟩ := F.ex
  subst e
  refine fnG lk hcd S (fun vs H Q E h => ?_) fun A outer s H vs Q E hg hr h => ?_
  · obtain ⟨m, ws, st, r, _, hl, _⟩ := h
    rw [r.len, hl]
  · have tk : Takes (cxD P w K mg base N qual (defScope st) f (.ref c) A outer s H E) (wx E) := takes_of rfl rfl rfl rfl
    obtain ⟨b, d, e⟩ := hb A outer s H E hg hr tk (passes_of rfl)
    exact ⟨_, d, body_ok e h⟩
/-! ### sep.join(xs) -/
def txts : List D → Option (List Str)
  | [] => some []
  | .str x :: ds => (txts ds).map (x :: ·)
  | _ => none
theorem txts_ok {G : Gx} {m : M} {H : Hp} {vs : List V} {ds : List D} {ts : List Str} (r : RpA G m H vs ds) (h : txts ds = some ts) : vs = ts.map V.str := by
  induction ds generalizing vs ts with
  | nil => cases r; cases h; rfl
  | cons d ds ih =>
    cases r with
    | cons r1 r2 =>
      cases d with
      | str b =>
        simp only [txts, Option.map_eq_some_iff] at h
        obtain ⟨l, h1, rfl⟩ := h
        cases r1
        rw [ih r2 h1]
        rfl
      | non => cases h
      | int _ => cases h
      | bl _ => cases h
      | tup _ => cases h
      | lst _ => cases h
      | obj _ _ => cases h
      | emp => cases h
def seqD : D → Option (List D)
  | .lst ds => some ds
  | .tup ds => some ds
  | _ => none
def gJoin (a : Str) (e : D) : Option D := (seqD e).bind fun ds => (txts ds).bind fun ts => if (ts.map (·.length)).sum + ts.length * a.length ≤ lim ∧ (Txt.join a ts).length ≤ lim then some (.str (Txt.join a ts)) else none
/-- a method of a text, one argument -/
def eS1 (g : Str → D → Option D) (fo fe : Ex) : Ex := fun sl st => bnd (fo sl st) fun w st1 => match w with
  | .d (.str a) => bnd (fe sl st1) fun w2 st2 => (match viewL st2 w2 with
    | some d => pr st2 (g a d)
    | none => none)
  | _ => none
def MtP (G : Gx) (X : Cx) (id : String) (g : Str → D → Option D) : Prop :=
  MtR X id (fun x xs H Q => ∃ m st a y d r, CO G m H st ∧ x = .str a ∧ xs = [y] ∧ RpY G m H y d ∧ g a d = some r ∧ Gives G m H r Q)
theorem de_s1 {G : Gx} {X : Cx} {E : WX} {o e : Expr} {fo fe : Ex} {apos pos : Pos} {id : String} {name : Str} {g : Str → D → Option D} (slot : Slot "str" name id) (ty : typeOf (.builtin id) = pure (.type "method_descriptor")) (hm : MtP G X id g) (ho : DE G X E o fo) (he : DE G X E e fe)
    (hs : starEach [e] X.env = [(false, eval e X.env)] := by rfl) (hbase : attributeBase o name X.env (eval o X.env) = eval o X.env := by rfl) (hline : (apos.endLine == pos.line) = true := by rfl) : DE G X E (.Call (.Attribute o name apos) [e] [] pos) (eS1 g fo fe) := by
  refine PE.imp (L2.pe_m1 slot ty hm ho he hs hbase hline) ?_
  rintro σ H Q ⟨m, sl, st, hs, hc, h⟩
  refine ⟨m, sl, st, hs, hc, aft_bnd h fun w st1 v H1 m1 e1 c1 r1 h1 => ?_⟩
  split at h1
  · rename_i a
    cases r1
    refine ⟨⟨a, rfl⟩, m1, sl, st1, hs.ext hc e1, c1, aft_bnd h1 fun w2 st2 y H2 m2 e2 c2 r2 h2 => ?_⟩
    split at h2
    · rename_i d hd
      obtain ⟨r, e3, q⟩ := aft_pr c2 h2
      exact ⟨m2, st2, a, y, d, r, c2, rfl, rfl, viewL_ok c2 r2 hd, e3, q⟩
    · exact h2.elim
  · exact h1.elim
theorem m_join {G : Gx} {X : Cx} (hK : X.K = G.K := by rfl) : MtP G X "str.join" gJoin := by
  rintro pins s σ H x xs v us Q I rx rs ⟨m, st, a, y, d, r, co, rfl, rfl, ry, e, q⟩
  unfold gJoin at e
  obtain ⟨ds, e1, e2⟩ := Option.bind_eq_some_iff.mp e
  obtain ⟨ts, e3, e4⟩ := Option.bind_eq_some_iff.mp e2
  split at e4
  · rename_i hl
    cases e4
    have hz : (ts.map (·.length)).sum + ts.length * a.length ≤ 16777216 := by have := hl.1; unfold lim at this; omega
    cases d with
    | lst es =>
      cases e1
      obtain ⟨p, zs, rfl, h1, h2⟩ := ry.lst
      rw [txts_ok h2 e3, ← hK] at h1
      exact mt_join pins s σ H _ _ v us Q I rx rs ⟨a, p, ts, rfl, rfl, .inl h1, hz, gv q (.str _ hl.2)⟩
    | tup es =>
      cases e1
      obtain ⟨p, zs, rfl, h1, h2⟩ := ry.tup
      rw [txts_ok h2 e3] at h1
      exact mt_join pins s σ H _ _ v us Q I rx rs ⟨a, p, ts, rfl, rfl, .inr (.inl (.inl h1)), hz, gv q (.str _ hl.2)⟩
    | non => cases e1
    | bl _ => cases e1
    | int _ => cases e1
    | str _ => cases e1
    | obj _ _ => cases e1
    | emp => cases e1
  · cases e4
/-- arguments of a fixed number -/
def swapG {α : Type} (us ws : List α) : List α := match us, ws with
  | [], [a, b] => [b, a]
  | _, _ => []
def appG {α : Type} (us ws : List α) : List α := us ++ ws
theorem relG_swap : RelG @swapG := by
  intro G m H vs zs ws us r1 r2
  cases r1 with
  | nil =>
    cases r2 with
    | nil => exact .nil
    | cons a r3 =>
      cases r3 with
      | nil => exact .nil
      | cons b r4 =>
        cases r4 with
        | nil => exact .cons b (.cons a .nil)
        | cons _ _ => exact .nil
  | cons _ _ => cases r2 <;> exact .nil
theorem relG_app : RelG @appG := by
  intro G m H vs zs ws us r1 r2
  induction r1 with
  | nil => exact r2
  | cons a _ ih => exact .cons a ih
end Dn

namespace Dn
open PySem PySem.Spec PyProof.Rows L2 Ft LamX
/-! ### for the end of a law -/
section
variable {P : Program} {w : World} {K : PySem.W.Frag} {mg : Str → Option Value} {base : Heap} {T : List (Addr × Str)} {x qual c mth : Str} {st : Stmt} {f C : Addr} {fd : FuncData} {ps ks : List Str} {k n : Nat} {spec : Spec} {g : {α : Type} → List α → List α → List α}
theorem fldAt_mk {f : Str} (h : mg c = some (.ref C)) (cl : Cls K C) (no : NoAttr K C f) : FldAt ⟨K, mg, T⟩ c f := fun C' h' => by
  have e : some (Value.ref C) = some (.ref C') := h.symm.trans h'
  cases e
  exact ⟨cl, no⟩
theorem md_mk (h : mg c = some (.ref C)) (cl : Cls K C) (M : Meth K C mth f) (F : Fun K x qual st f fd) (O : FnOk P w K mg base (L2.CX P w) k f fd ps (spD ⟨K, mg, T⟩ ps.length spec))
    (hb : ∀ (kV doc pm : Value) (an : Option Addr) (cdv ct : Value) (us : List Value), us.length = ps.length → bindArgs (PySem.W.fnOf x qual (defArgs st) (defBody st) (defScope st) .none kV doc pm an cdv ct) ⟨us, []⟩ = pure (ps.zip us)) : HasMd P w K mg base T k c mth ps spec :=
  ⟨C, h, cl, f, fd, O, M, F.binds hb⟩
theorem mkd_mk (h : mg c = some (.ref C)) (cl : Cls K C) (M : Meth K C mth f) (F : Fun K x qual st f fd) (O : FnOk P w K mg base (L2.CX P w) k f fd ps (spD ⟨K, mg, T⟩ ps.length spec))
    (hb : ∀ (kV doc pm : Value) (an : Option Addr) (cdv ct : Value) (us ws : List Value), us.length = 1 → ws.length = ks.length → bindArgs (PySem.W.fnOf x qual (defArgs st) (defBody st) (defScope st) .none kV doc pm an cdv ct) ⟨us, ks.zip ws⟩ = pure (ps.zip (g us ws)))
    (hrel : ∀ {vs zs : List V} {us ws : List Value}, Vals vs us → Vals zs ws → Vals (g vs zs) (g us ws)) : HasMKd P w K mg base T k c mth ps ks g spec := by
  refine ⟨C, h, cl, f, fd, O, M, fun s us ws _ h1 h2 => ?_, hrel⟩
  obtain ⟨_, _, kV, doc, pm, an, cdv, ct, _, e, _, _⟩ := F.ex
  subst e
  exact .of_eq (hb kV doc pm an cdv ct us ws h1 h2)
theorem cd_mk (h : mg c = some (.ref C)) (M : Mk K C f) (F : Fun K x qual st f fd) (O : FnOk P w K mg base (L2.CX P w) k f fd ps (spD ⟨K, mg, T⟩ ps.length spec))
    (hb : ∀ (kV doc pm : Value) (an : Option Addr) (cdv ct : Value) (us : List Value), us.length = ps.length → bindArgs (PySem.W.fnOf x qual (defArgs st) (defBody st) (defScope st) .none kV doc pm an cdv ct) ⟨us, []⟩ = pure (ps.zip us)) : HasCd P w K mg base T k c ps spec :=
  ⟨C, f, fd, O, h, M, F.binds hb⟩
theorem ckd_mk {q : Nat} (h : mg c = some (.ref C)) (M : Mk K C f) (F : Fun K x qual st f fd) (O : FnOk P w K mg base (L2.CX P w) k f fd ps (spD ⟨K, mg, T⟩ ps.length spec))
    (hb : ∀ (kV doc pm : Value) (an : Option Addr) (cdv ct u : Value) (us ws : List Value), us.length = q → ws.length = ks.length → bindArgs (PySem.W.fnOf x qual (defArgs st) (defBody st) (defScope st) .none kV doc pm an cdv ct) ⟨u :: us, ks.zip ws⟩ = pure (ps.zip (u :: g us ws)))
    (hrel : ∀ {vs zs : List V} {us ws : List Value}, Vals vs us → Vals zs ws → Vals (g vs zs) (g us ws)) : HasCKd P w K mg base T k c ps q ks g spec := by
  refine ⟨C, f, fd, O, h, M, fun s y us ws _ h1 h2 => ?_, hrel⟩
  obtain ⟨_, _, kV, doc, pm, an, cdv, ct, _, e, _, _⟩ := F.ex
  subst e
  exact .of_eq (hb kV doc pm an cdv ct _ us ws h1 h2)
end
theorem rel_swap {vs zs : List V} {us ws : List Value} (r1 : Vals vs us) (r2 : Vals zs ws) : Vals (swapG vs zs) (swapG us ws) := by
  cases r1 with
  | nil =>
    cases r2 with
    | nil => exact .nil
    | cons a r3 =>
      cases r3 with
      | nil => exact .nil
      | cons b r4 =>
        cases r4 with
        | nil => exact .cons b (.cons a .nil)
        | cons _ _ => exact .nil
  | cons _ _ => cases r2 <;> exact .nil
theorem rel_app {vs zs : List V} {us ws : List Value} (r1 : Vals vs us) (r2 : Vals zs ws) : Vals (appG vs zs) (appG us ws) := r1.append r2
/-- what the sorting def of a law says of an exception -/
def sortTab (tab : List (Str × Str)) (c : Str) (fs : List (Str × D)) : Option D := match tab.lookup c, fs with
  | some fld, [(f, x)] => if f = fld then (gRepr [x]).map fun r => .lst [.str c, r] else none
  | _, _ => none
theorem sort_one {G : Gx} {tab : List (Str × Str)} {m : M} {H : Hp} {st : Sto} {c fld : Str} {gs : List (Str × V)} {fs : List (Str × D)} {r : D} {Q : VK} (co : CO G m H st) (hl : tab.lookup c = some fld) (hcl : c.length ≤ lim) (hf : RpF G m H gs fs) (h : sortTab tab c fs = some r) (q : Gives G m H r Q) :
    ∃ v d, gs = [(fld, v)] ∧ Dp G.K H v d ∧ d.showable = true ∧ d.hasDict = false ∧ d.depth ≤ 60 ∧ d.shown.length ≤ sizeLine ∧ ∀ p, H p = none → Q (.ref p) (upd H p (.lst [.str c, .str d.shown])) := by
  unfold sortTab at h
  rw [hl] at h
  split at h
  · rename_i fld' f x e
    cases e
    split at h
    · rename_i hff
      subst hff
      rw [Option.map_eq_some_iff] at h
      obtain ⟨y, h1, rfl⟩ := h
      simp only [gRepr] at h1
      · split at h1
        · rename_i hd
          cases h1
          cases hf with
          | @cons _ v _ _ _ rv rn =>
            cases rn
            obtain ⟨a1, a2, a3⟩ := dok_ok 60 rv hd.1
            exact ⟨v, toP x, rfl, a1, hd.2.1, toP_nodict x, a3, lim_le hd.2.2, fun p hp => q _ _ (same_new hp) (rp_lst co hp (by show 2 ≤ lim; decide) (.cons (.str _ hcl) (.cons (.str _ hd.2.2) .nil)))⟩
        · cases h1
    · cases h
  · cases h
theorem lookup_mem {α : Type} [BEq α] [LawfulBEq α] {β : Type} {l : List (α × β)} {a : α} {b : β} (h : l.lookup a = some b) : (a, b) ∈ l := by
  induction l with
  | nil => cases h
  | cons p l ih =>
    obtain ⟨x, y⟩ := p
    rw [List.lookup_cons] at h
    cases hb : (a == x) with
    | true => rw [hb] at h; cases h; rw [eq_of_beq hb]; exact List.mem_cons_self
    | false => rw [hb] at h; exact List.mem_cons_of_mem _ (ih h)
theorem sortTab_mem {tab : List (Str × Str)} {c : Str} {fs : List (Str × D)} {r : D} (h : sortTab tab c fs = some r) : ∃ fld, tab.lookup c = some fld := by
  unfold sortTab at h
  split at h
  · rename_i fld _ _ e
    exact ⟨fld, e⟩
  · cases h
end Dn

/-! What a run leads to: a calculus over the plain functions. -/
namespace Dn
open PySem L2
abbrev XP := Str → List (Str × D) → Sto → Prop
def wp {α : Type} (r : R α) (Q : α → Sto → Prop) (X : XP) : Prop := match r with
  | some (.ok a, st) => Q a st
  | some (.exc c fs, st) => X c fs st
  | none => False
structure En where
  rt : W → Sto → Prop
  ex : Str → List (Str × D) → Slo → Sto → Prop
  bk : Slo → Sto → Prop
  ct : Slo → Sto → Prop
def wps (r : RS) (N : Slo → Sto → Prop) (E : En) : Prop := match r with
  | none => False
  | some (.nx, sl, st) => N sl st
  | some (.rt w, _, st) => E.rt w st
  | some (.ex c fs, sl, st) => E.ex c fs sl st
  | some (.bk, sl, st) => E.bk sl st
  | some (.ct, sl, st) => E.ct sl st
def wpo {α : Type} (o : Option α) (k : α → Prop) : Prop := match o with
  | some a => k a
  | none => False
def wpd (w : W) (k : D → Prop) : Prop := match w with
  | .d x => k x
  | _ => False
def wpc (w : W) (k : Nat → Prop) : Prop := match w with
  | .c x => k x
  | _ => False
def wpi (d : D) (k : Int → Prop) : Prop := match d with
  | .int x => k x
  | _ => False
def wpb (d : D) (k : Bool → Prop) : Prop := match d with
  | .bl x => k x
  | _ => False
def wpt (d : D) (k : List D → Prop) : Prop := match d with
  | .tup x => k x
  | _ => False
def wpj (d : D) (k : Str → List (Str × D) → Prop) : Prop := match d with
  | .obj c x => k c x
  | _ => False
def wps1 (d : D) (k : Str → Prop) : Prop := match d with
  | .str x => k x
  | _ => False
def wpl (c : Cell) (k : List D → Prop) : Prop := match c with
  | .lst x => k x
  | _ => False
def wpn (c : Cell) (k : Str → List (Str × D) → Prop) : Prop := match c with
  | .ins c x => k c x
  | _ => False
section
variable {α β : Type} {Q Q' : α → Sto → Prop} {X X' : XP} {N N' : Slo → Sto → Prop} {En1 : En}
theorem wp_ok {a : α} {st : Sto} : wp (some (.ok a, st)) Q X = Q a st := rfl
theorem wp_exc {c : Str} {fs : List (Str × D)} {st : Sto} : wp (α := α) (some (.exc c fs, st)) Q X = X c fs st := rfl
theorem wp_none : wp (α := α) none Q X = False := rfl
theorem wpo_some {a : α} {k : α → Prop} : wpo (some a) k = k a := rfl
theorem wpo_none {k : α → Prop} : wpo none k = False := rfl
theorem wpo_ite {p : Prop} [Decidable p] {a : α} {k : α → Prop} : wpo (if p then some a else none) k = (p ∧ k a) := by
  by_cases h : p
  · rw [if_pos h]; simp only [h, true_and]; rfl
  · rw [if_neg h]; simp only [h, false_and]; rfl
theorem wpo_map {f : β → α} {o : Option β} {k : α → Prop} : wpo (o.map f) k = wpo o fun b => k (f b) := by cases o <;> rfl
theorem wpo_bind {f : β → Option α} {o : Option β} {k : α → Prop} : wpo (o.bind f) k = wpo o fun b => wpo (f b) k := by cases o <;> rfl
theorem wpd_d {x : D} {k : D → Prop} : wpd (.d x) k = k x := rfl
theorem wpd_c {x : Nat} {k : D → Prop} : wpd (.c x) k = False := rfl
theorem wpc_c {x : Nat} {k : Nat → Prop} : wpc (.c x) k = k x := rfl
theorem wpi_int {x : Int} {k : Int → Prop} : wpi (.int x) k = k x := rfl
theorem wpb_bl {x : Bool} {k : Bool → Prop} : wpb (.bl x) k = k x := rfl
theorem wpt_tup {x : List D} {k : List D → Prop} : wpt (.tup x) k = k x := rfl
theorem wpj_obj {c : Str} {x : List (Str × D)} {k : Str → List (Str × D) → Prop} : wpj (.obj c x) k = k c x := rfl
theorem wpl_lst {x : List D} {k : List D → Prop} : wpl (.lst x) k = k x := rfl
theorem wpn_ins {c : Str} {x : List (Str × D)} {k : Str → List (Str × D) → Prop} : wpn (.ins c x) k = k c x := rfl
theorem wp_imp {r : R α} (h : wp r Q X) (hq : ∀ a st, Q a st → Q' a st) (hx : ∀ c fs st, X c fs st → X' c fs st) : wp r Q' X' := by
  unfold wp at h ⊢
  split at h
  · exact hq _ _ h
  · exact hx _ _ _ h
  · cases h
theorem wp_eq {r : R α} {a : α} {st : Sto} (h : r = some (.ok a, st)) (q : Q a st) : wp r Q X := by rw [h]; exact q
theorem wp_of {r : R α} (h : wp r Q X) : (∃ a st, r = some (.ok a, st) ∧ Q a st) ∨ ∃ c fs st, r = some (.exc c fs, st) ∧ X c fs st := by
  unfold wp at h
  split at h
  · exact .inl ⟨_, _, rfl, h⟩
  · exact .inr ⟨_, _, _, rfl, h⟩
  · cases h
theorem wps_of {r : RS} (h : wps r N En1) : ∃ fl sl st, r = some (fl, sl, st) := by
  unfold wps at h
  split at h
  · cases h
  all_goals exact ⟨_, _, _, rfl⟩
theorem wp_bnd {r : R β} {k : β → Sto → R α} : wp (bnd r k) Q X = wp r (fun a st => wp (k a st) Q X) X := by
  unfold bnd wp; cases r with
  | none => rfl
  | some z => obtain ⟨o, st⟩ := z; cases o <;> rfl
theorem wp_noX {r : R β} {k : β → Sto → R α} : wp (noX r k) Q X = wp r (fun a st => wp (k a st) Q X) (fun _ _ _ => False) := by
  unfold noX wp; cases r with
  | none => rfl
  | some z => obtain ⟨o, st⟩ := z; cases o <;> rfl
theorem wps_stm {r : R β} {sl : Slo} {k : β → Sto → RS} : wps (stm r sl k) N En1 = wp r (fun a st => wps (k a st) N En1) (fun c fs st => En1.ex c fs sl st) := by
  unfold stm wp wps; cases r with
  | none => rfl
  | some z => obtain ⟨o, st⟩ := z; cases o <;> rfl
variable {sl : Slo} {st : Sto} {fa fb fc : Ex} {fr fk : Ax} {tt tu : Tx} {f g : Sm} {QW : W → Sto → Prop} {QA : List W → Sto → Prop} {QB : Bool → Sto → Prop}
end
def kOp2 (g : D → D → Option D) (w1 : W) (QW : W → Sto → Prop) (w2 : W) (st2 : Sto) : Prop := wpo (view st2 w1) fun a => wpo (view st2 w2) fun b => wpo (g a b) fun d => QW (.d d) st2
theorem kOp2_ap (g : D → D → Option D) (w1 : W) (QW : W → Sto → Prop) (w2 : W) (st2 : Sto) : kOp2 g w1 QW w2 st2 = (wpo (view st2 w1) fun a => wpo (view st2 w2) fun b => wpo (g a b) fun d => QW (.d d) st2) := rfl
def kIx2 (g : D → D → Option D) (w1 : W) (QW : W → Sto → Prop) (w2 : W) (st2 : Sto) : Prop := wpo (viewL st2 w1) fun a => wpo (view st2 w2) fun b => wpo (g a b) fun d => QW (.d d) st2
theorem kIx2_ap (g : D → D → Option D) (w1 : W) (QW : W → Sto → Prop) (w2 : W) (st2 : Sto) : kIx2 g w1 QW w2 st2 = (wpo (viewL st2 w1) fun a => wpo (view st2 w2) fun b => wpo (g a b) fun d => QW (.d d) st2) := rfl
def kCons2 (w : W) (QA : List W → Sto → Prop) (ws : List W) (st2 : Sto) : Prop := QA (w :: ws) st2
theorem kCons2_ap (w : W) (QA : List W → Sto → Prop) (ws : List W) (st2 : Sto) : kCons2 w QA ws st2 = (QA (w :: ws) st2) := rfl
def kCmp2 (g : D → D → Option D) (w1 : W) (QB : Bool → Sto → Prop) (w2 : W) (st2 : Sto) : Prop := wpo (view st2 w1) fun a => wpo (view st2 w2) fun b => wpo (g a b) fun d => wpb d fun k => QB k st2
theorem kCmp2_ap (g : D → D → Option D) (w1 : W) (QB : Bool → Sto → Prop) (w2 : W) (st2 : Sto) : kCmp2 g w1 QB w2 st2 = (wpo (view st2 w1) fun a => wpo (view st2 w2) fun b => wpo (g a b) fun d => wpb d fun k => QB k st2) := rfl
def kChain3 (g' : D → D → Option D) (w2 : W) (QW : W → Sto → Prop) (w3 : W) (st4 : Sto) : Prop := wpo (view st4 w2) fun b' => wpo (view st4 w3) fun c => wpo (g' b' c) fun d => QW (.d d) st4
theorem kChain3_ap (g' : D → D → Option D) (w2 : W) (QW : W → Sto → Prop) (w3 : W) (st4 : Sto) : kChain3 g' w2 QW w3 st4 = (wpo (view st4 w2) fun b' => wpo (view st4 w3) fun c => wpo (g' b' c) fun d => QW (.d d) st4) := rfl
def kChain2 (g g' : D → D → Option D) (fc : Ex) (sl : Slo) (w1 : W) (QW : W → Sto → Prop) (X : XP) (w2 : W) (st2 : Sto) : Prop := wpo (view st2 w1) fun a => wpo (view st2 w2) fun b => wpo (g a b) fun d => wpb d fun k => if k = true then wp (fc sl st2) (kChain3 g' w2 QW) X else QW (.d (.bl false)) st2
theorem kChain2_ap (g g' : D → D → Option D) (fc : Ex) (sl : Slo) (w1 : W) (QW : W → Sto → Prop) (X : XP) (w2 : W) (st2 : Sto) : kChain2 g g' fc sl w1 QW X w2 st2 = (wpo (view st2 w1) fun a => wpo (view st2 w2) fun b => wpo (g a b) fun d => wpb d fun k => if k = true then wp (fc sl st2) (kChain3 g' w2 QW) X else QW (.d (.bl false)) st2) := rfl
def kSl3 (g : D → Option Int → Option Int → Option D) (w : W) (l : Option Int) (QW : W → Sto → Prop) (u : Option Int) (st3 : Sto) : Prop := wpo (viewL st3 w) fun d => wpo (g d l u) fun r => QW (.d r) st3
theorem kSl3_ap (g : D → Option Int → Option Int → Option D) (w : W) (l : Option Int) (QW : W → Sto → Prop) (u : Option Int) (st3 : Sto) : kSl3 g w l QW u st3 = (wpo (viewL st3 w) fun d => wpo (g d l u) fun r => QW (.d r) st3) := rfl
def kSl2 (g : D → Option Int → Option Int → Option D) (fh : Px) (sl : Slo) (w : W) (QW : W → Sto → Prop) (X : XP) (l : Option Int) (st2 : Sto) : Prop := wp (fh sl st2) (kSl3 g w l QW) X
theorem kSl2_ap (g : D → Option Int → Option Int → Option D) (fh : Px) (sl : Slo) (w : W) (QW : W → Sto → Prop) (X : XP) (l : Option Int) (st2 : Sto) : kSl2 g fh sl w QW X l st2 = (wp (fh sl st2) (kSl3 g w l QW) X) := rfl
def kApp2 (w : W) (QW : W → Sto → Prop) (x : W) (st2 : Sto) : Prop := wpc w fun n => wpd x fun d => wpo st2[n]? fun c => wpl c fun ds => ds.length < lim ∧ QW (.d .non) (st2.set n (.lst (ds ++ [d])))
theorem kApp2_ap (w : W) (QW : W → Sto → Prop) (x : W) (st2 : Sto) : kApp2 w QW x st2 = (wpc w fun n => wpd x fun d => wpo st2[n]? fun c => wpl c fun ds => ds.length < lim ∧ QW (.d .non) (st2.set n (.lst (ds ++ [d])))) := rfl
def kMeth2 (spec : Spec) (w : W) (QW : W → Sto → Prop) (X : XP) (ws : List W) (st2 : Sto) : Prop := wp (spec (w :: ws) st2) QW X
theorem kMeth2_ap (spec : Spec) (w : W) (QW : W → Sto → Prop) (X : XP) (ws : List W) (st2 : Sto) : kMeth2 spec w QW X ws st2 = (wp (spec (w :: ws) st2) QW X) := rfl
def kMethK2 (spec : Spec) (gg : List W → List W → List W) (l : Nat) (w : W) (QW : W → Sto → Prop) (X : XP) (zs : List W) (st2 : Sto) : Prop := zs.length = l ∧ wp (spec (gg [w] zs) st2) QW X
theorem kMethK2_ap (spec : Spec) (gg : List W → List W → List W) (l : Nat) (w : W) (QW : W → Sto → Prop) (X : XP) (zs : List W) (st2 : Sto) : kMethK2 spec gg l w QW X zs st2 = (zs.length = l ∧ wp (spec (gg [w] zs) st2) QW X) := rfl
def kFnK2 (spec : Spec) (gg : List W → List W → List W) (n l : Nat) (ws : List W) (QW : W → Sto → Prop) (X : XP) (zs : List W) (st2 : Sto) : Prop := (ws.length = n ∧ zs.length = l) ∧ wp (spec (gg ws zs) st2) QW X
theorem kFnK2_ap (spec : Spec) (gg : List W → List W → List W) (n l : Nat) (ws : List W) (QW : W → Sto → Prop) (X : XP) (zs : List W) (st2 : Sto) : kFnK2 spec gg n l ws QW X zs st2 = ((ws.length = n ∧ zs.length = l) ∧ wp (spec (gg ws zs) st2) QW X) := rfl
def kNewK2 (c : Str) (spec : Spec) (gg : List W → List W → List W) (n l : Nat) (ws : List W) (QW : W → Sto → Prop) (X : XP) (zs : List W) (st2 : Sto) : Prop := (ws.length = n ∧ zs.length = l) ∧ wp (made c st2.length (spec (.c st2.length :: gg ws zs) (st2 ++ [.ins c []]))) QW X
theorem kNewK2_ap (c : Str) (spec : Spec) (gg : List W → List W → List W) (n l : Nat) (ws : List W) (QW : W → Sto → Prop) (X : XP) (zs : List W) (st2 : Sto) : kNewK2 c spec gg n l ws QW X zs st2 = ((ws.length = n ∧ zs.length = l) ∧ wp (made c st2.length (spec (.c st2.length :: gg ws zs) (st2 ++ [.ins c []]))) QW X) := rfl
def kS12 (g : Str → D → Option D) (a : Str) (QW : W → Sto → Prop) (w2 : W) (st2 : Sto) : Prop := wpo (viewL st2 w2) fun e => wpo (g a e) fun r => QW (.d r) st2
theorem kS12_ap (g : Str → D → Option D) (a : Str) (QW : W → Sto → Prop) (w2 : W) (st2 : Sto) : kS12 g a QW w2 st2 = (wpo (viewL st2 w2) fun e => wpo (g a e) fun r => QW (.d r) st2) := rfl
def kOp (g : D → D → Option D) (fb : Ex) (sl : Slo) (QW : W → Sto → Prop) (X : XP) (w1 : W) (st1 : Sto) : Prop := wp (fb sl st1) (kOp2 g w1 QW) X
theorem kOp_ap (g : D → D → Option D) (fb : Ex) (sl : Slo) (QW : W → Sto → Prop) (X : XP) (w1 : W) (st1 : Sto) : kOp g fb sl QW X w1 st1 = (wp (fb sl st1) (kOp2 g w1 QW) X) := rfl
def kIx (g : D → D → Option D) (fb : Ex) (sl : Slo) (QW : W → Sto → Prop) (X : XP) (w1 : W) (st1 : Sto) : Prop := wp (fb sl st1) (kIx2 g w1 QW) X
theorem kIx_ap (g : D → D → Option D) (fb : Ex) (sl : Slo) (QW : W → Sto → Prop) (X : XP) (w1 : W) (st1 : Sto) : kIx g fb sl QW X w1 st1 = (wp (fb sl st1) (kIx2 g w1 QW) X) := rfl
def kUn (g : D → Option D) (QW : W → Sto → Prop) (X : XP) (w1 : W) (st1 : Sto) : Prop := wpo (view st1 w1) fun a => wpo (g a) fun d => QW (.d d) st1
theorem kUn_ap (g : D → Option D) (QW : W → Sto → Prop) (X : XP) (w1 : W) (st1 : Sto) : kUn g QW X w1 st1 = (wpo (view st1 w1) fun a => wpo (g a) fun d => QW (.d d) st1) := rfl
def kCons (fr : Ax) (sl : Slo) (QA : List W → Sto → Prop) (X : XP) (w : W) (st1 : Sto) : Prop := wp (fr sl st1) (kCons2 w QA) X
theorem kCons_ap (fr : Ax) (sl : Slo) (QA : List W → Sto → Prop) (X : XP) (w : W) (st1 : Sto) : kCons fr sl QA X w st1 = (wp (fr sl st1) (kCons2 w QA) X) := rfl
def kCall (g : List D → Option D) (QW : W → Sto → Prop) (X : XP) (ws : List W) (st1 : Sto) : Prop := wpo (views st1 ws) fun ds => wpo (g ds) fun d => QW (.d d) st1
theorem kCall_ap (g : List D → Option D) (QW : W → Sto → Prop) (X : XP) (ws : List W) (st1 : Sto) : kCall g QW X ws st1 = (wpo (views st1 ws) fun ds => wpo (g ds) fun d => QW (.d d) st1) := rfl
def kTup (QW : W → Sto → Prop) (X : XP) (ws : List W) (st1 : Sto) : Prop := wpo (pures ws) fun ds => ds.length ≤ lim ∧ QW (.d (.tup ds)) st1
theorem kTup_ap (QW : W → Sto → Prop) (X : XP) (ws : List W) (st1 : Sto) : kTup QW X ws st1 = (wpo (pures ws) fun ds => ds.length ≤ lim ∧ QW (.d (.tup ds)) st1) := rfl
def kLst (QW : W → Sto → Prop) (X : XP) (ws : List W) (st1 : Sto) : Prop := wpo (pures ws) fun ds => ds.length ≤ lim ∧ QW (.d (.lst ds)) st1
theorem kLst_ap (QW : W → Sto → Prop) (X : XP) (ws : List W) (st1 : Sto) : kLst QW X ws st1 = (wpo (pures ws) fun ds => ds.length ≤ lim ∧ QW (.d (.lst ds)) st1) := rfl
def kCell (QW : W → Sto → Prop) (X : XP) (ws : List W) (st1 : Sto) : Prop := wpo (pures ws) fun ds => ds.length ≤ lim ∧ QW (.c st1.length) (st1 ++ [.lst ds])
theorem kCell_ap (QW : W → Sto → Prop) (X : XP) (ws : List W) (st1 : Sto) : kCell QW X ws st1 = (wpo (pures ws) fun ds => ds.length ≤ lim ∧ QW (.c st1.length) (st1 ++ [.lst ds])) := rfl
def kTOf (QB : Bool → Sto → Prop) (X : XP) (w : W) (st1 : Sto) : Prop := wpo (view st1 w) fun d => wpo (truD d) fun k => QB k st1
theorem kTOf_ap (QB : Bool → Sto → Prop) (X : XP) (w : W) (st1 : Sto) : kTOf QB X w st1 = (wpo (view st1 w) fun d => wpo (truD d) fun k => QB k st1) := rfl
def kTBl (QB : Bool → Sto → Prop) (X : XP) (w : W) (st1 : Sto) : Prop := wpd w fun d => wpb d fun k => QB k st1
theorem kTBl_ap (QB : Bool → Sto → Prop) (X : XP) (w : W) (st1 : Sto) : kTBl QB X w st1 = (wpd w fun d => wpb d fun k => QB k st1) := rfl
def kCmp (g : D → D → Option D) (fb : Ex) (sl : Slo) (QB : Bool → Sto → Prop) (X : XP) (w1 : W) (st1 : Sto) : Prop := wp (fb sl st1) (kCmp2 g w1 QB) X
theorem kCmp_ap (g : D → D → Option D) (fb : Ex) (sl : Slo) (QB : Bool → Sto → Prop) (X : XP) (w1 : W) (st1 : Sto) : kCmp g fb sl QB X w1 st1 = (wp (fb sl st1) (kCmp2 g w1 QB) X) := rfl
def kNot (QB : Bool → Sto → Prop) (X : XP) (k : Bool) (st1 : Sto) : Prop := QB (!k) st1
theorem kNot_ap (QB : Bool → Sto → Prop) (X : XP) (k : Bool) (st1 : Sto) : kNot QB X k st1 = (QB (!k) st1) := rfl
def kAnd (tu : Tx) (sl : Slo) (QB : Bool → Sto → Prop) (X : XP) (k : Bool) (st1 : Sto) : Prop := if k = true then wp (tu sl st1) QB X else QB false st1
theorem kAnd_ap (tu : Tx) (sl : Slo) (QB : Bool → Sto → Prop) (X : XP) (k : Bool) (st1 : Sto) : kAnd tu sl QB X k st1 = (if k = true then wp (tu sl st1) QB X else QB false st1) := rfl
def kOr (tu : Tx) (sl : Slo) (QB : Bool → Sto → Prop) (X : XP) (k : Bool) (st1 : Sto) : Prop := if k = true then QB true st1 else wp (tu sl st1) QB X
theorem kOr_ap (tu : Tx) (sl : Slo) (QB : Bool → Sto → Prop) (X : XP) (k : Bool) (st1 : Sto) : kOr tu sl QB X k st1 = (if k = true then QB true st1 else wp (tu sl st1) QB X) := rfl
def kEIf (fa fb : Ex) (sl : Slo) (QW : W → Sto → Prop) (X : XP) (k : Bool) (st1 : Sto) : Prop := if k = true then wp (fa sl st1) QW X else wp (fb sl st1) QW X
theorem kEIf_ap (fa fb : Ex) (sl : Slo) (QW : W → Sto → Prop) (X : XP) (k : Bool) (st1 : Sto) : kEIf fa fb sl QW X k st1 = (if k = true then wp (fa sl st1) QW X else wp (fb sl st1) QW X) := rfl
def kENot (QW : W → Sto → Prop) (X : XP) (w : W) (st1 : Sto) : Prop := wpo (view st1 w) fun d => wpo (truD d) fun k => QW (.d (.bl (!k))) st1
theorem kENot_ap (QW : W → Sto → Prop) (X : XP) (w : W) (st1 : Sto) : kENot QW X w st1 = (wpo (view st1 w) fun d => wpo (truD d) fun k => QW (.d (.bl (!k))) st1) := rfl
def kEAnd (fb : Ex) (sl : Slo) (QW : W → Sto → Prop) (X : XP) (w : W) (st1 : Sto) : Prop := wpo (view st1 w) fun d => wpo (truD d) fun k => if k = true then wp (fb sl st1) QW X else QW w st1
theorem kEAnd_ap (fb : Ex) (sl : Slo) (QW : W → Sto → Prop) (X : XP) (w : W) (st1 : Sto) : kEAnd fb sl QW X w st1 = (wpo (view st1 w) fun d => wpo (truD d) fun k => if k = true then wp (fb sl st1) QW X else QW w st1) := rfl
def kEOr (fb : Ex) (sl : Slo) (QW : W → Sto → Prop) (X : XP) (w : W) (st1 : Sto) : Prop := wpo (view st1 w) fun d => wpo (truD d) fun k => if k = true then QW w st1 else wp (fb sl st1) QW X
theorem kEOr_ap (fb : Ex) (sl : Slo) (QW : W → Sto → Prop) (X : XP) (w : W) (st1 : Sto) : kEOr fb sl QW X w st1 = (wpo (view st1 w) fun d => wpo (truD d) fun k => if k = true then QW w st1 else wp (fb sl st1) QW X) := rfl
def kChain (g g' : D → D → Option D) (fb fc : Ex) (sl : Slo) (QW : W → Sto → Prop) (X : XP) (w1 : W) (st1 : Sto) : Prop := wp (fb sl st1) (kChain2 g g' fc sl w1 QW X) X
theorem kChain_ap (g g' : D → D → Option D) (fb fc : Ex) (sl : Slo) (QW : W → Sto → Prop) (X : XP) (w1 : W) (st1 : Sto) : kChain g g' fb fc sl QW X w1 st1 = (wp (fb sl st1) (kChain2 g g' fc sl w1 QW X) X) := rfl
def kPSome (QP : Option Int → Sto → Prop) (X : XP) (w : W) (st1 : Sto) : Prop := wpd w fun d => wpi d fun i => QP (some i) st1
theorem kPSome_ap (QP : Option Int → Sto → Prop) (X : XP) (w : W) (st1 : Sto) : kPSome QP X w st1 = (wpd w fun d => wpi d fun i => QP (some i) st1) := rfl
def kSl (g : D → Option Int → Option Int → Option D) (fl fh : Px) (sl : Slo) (QW : W → Sto → Prop) (X : XP) (w : W) (st1 : Sto) : Prop := wp (fl sl st1) (kSl2 g fh sl w QW X) X
theorem kSl_ap (g : D → Option Int → Option Int → Option D) (fl fh : Px) (sl : Slo) (QW : W → Sto → Prop) (X : XP) (w : W) (st1 : Sto) : kSl g fl fh sl QW X w st1 = (wp (fl sl st1) (kSl2 g fh sl w QW X) X) := rfl
def kFn (spec : Spec) (QW : W → Sto → Prop) (X : XP) (ws : List W) (st1 : Sto) : Prop := wp (spec ws st1) QW X
theorem kFn_ap (spec : Spec) (QW : W → Sto → Prop) (X : XP) (ws : List W) (st1 : Sto) : kFn spec QW X ws st1 = (wp (spec ws st1) QW X) := rfl
def kApp (fb : Ex) (sl : Slo) (QW : W → Sto → Prop) (X : XP) (w : W) (st1 : Sto) : Prop := wp (fb sl st1) (kApp2 w QW) X
theorem kApp_ap (fb : Ex) (sl : Slo) (QW : W → Sto → Prop) (X : XP) (w : W) (st1 : Sto) : kApp fb sl QW X w st1 = (wp (fb sl st1) (kApp2 w QW) X) := rfl
def kIsCell (QW : W → Sto → Prop) (X : XP) (w : W) (st1 : Sto) : Prop := wpc w fun n => wpo st1[n]? fun c => wpl c fun _ => QW (.c n) st1
theorem kIsCell_ap (QW : W → Sto → Prop) (X : XP) (w : W) (st1 : Sto) : kIsCell QW X w st1 = (wpc w fun n => wpo st1[n]? fun c => wpl c fun _ => QW (.c n) st1) := rfl
def kMeth (c m : Str) (spec : Spec) (fr : Ax) (sl : Slo) (QW : W → Sto → Prop) (X : XP) (w : W) (st1 : Sto) : Prop := wpo (view st1 w) fun d => wpj d fun c' gs => (c' = c ∧ gs.lookup m = none) ∧ wp (fr sl st1) (kMeth2 spec w QW X) X
theorem kMeth_ap (c m : Str) (spec : Spec) (fr : Ax) (sl : Slo) (QW : W → Sto → Prop) (X : XP) (w : W) (st1 : Sto) : kMeth c m spec fr sl QW X w st1 = (wpo (view st1 w) fun d => wpj d fun c' gs => (c' = c ∧ gs.lookup m = none) ∧ wp (fr sl st1) (kMeth2 spec w QW X) X) := rfl
def kMethK (c m : Str) (spec : Spec) (gg : List W → List W → List W) (l : Nat) (fk : Ax) (sl : Slo) (QW : W → Sto → Prop) (X : XP) (w : W) (st1 : Sto) : Prop := wpo (view st1 w) fun d => wpj d fun c' gs => (c' = c ∧ gs.lookup m = none) ∧ wp (fk sl st1) (kMethK2 spec gg l w QW X) X
theorem kMethK_ap (c m : Str) (spec : Spec) (gg : List W → List W → List W) (l : Nat) (fk : Ax) (sl : Slo) (QW : W → Sto → Prop) (X : XP) (w : W) (st1 : Sto) : kMethK c m spec gg l fk sl QW X w st1 = (wpo (view st1 w) fun d => wpj d fun c' gs => (c' = c ∧ gs.lookup m = none) ∧ wp (fk sl st1) (kMethK2 spec gg l w QW X) X) := rfl
def kFnK (spec : Spec) (gg : List W → List W → List W) (n l : Nat) (fk : Ax) (sl : Slo) (QW : W → Sto → Prop) (X : XP) (ws : List W) (st1 : Sto) : Prop := wp (fk sl st1) (kFnK2 spec gg n l ws QW X) X
theorem kFnK_ap (spec : Spec) (gg : List W → List W → List W) (n l : Nat) (fk : Ax) (sl : Slo) (QW : W → Sto → Prop) (X : XP) (ws : List W) (st1 : Sto) : kFnK spec gg n l fk sl QW X ws st1 = (wp (fk sl st1) (kFnK2 spec gg n l ws QW X) X) := rfl
def kNew (c : Str) (spec : Spec) (QW : W → Sto → Prop) (X : XP) (ws : List W) (st1 : Sto) : Prop := wp (made c st1.length (spec (.c st1.length :: ws) (st1 ++ [.ins c []]))) QW X
theorem kNew_ap (c : Str) (spec : Spec) (QW : W → Sto → Prop) (X : XP) (ws : List W) (st1 : Sto) : kNew c spec QW X ws st1 = (wp (made c st1.length (spec (.c st1.length :: ws) (st1 ++ [.ins c []]))) QW X) := rfl
def kNewK (c : Str) (spec : Spec) (gg : List W → List W → List W) (n l : Nat) (fk : Ax) (sl : Slo) (QW : W → Sto → Prop) (X : XP) (ws : List W) (st1 : Sto) : Prop := wp (fk sl st1) (kNewK2 c spec gg n l ws QW X) X
theorem kNewK_ap (c : Str) (spec : Spec) (gg : List W → List W → List W) (n l : Nat) (fk : Ax) (sl : Slo) (QW : W → Sto → Prop) (X : XP) (ws : List W) (st1 : Sto) : kNewK c spec gg n l fk sl QW X ws st1 = (wp (fk sl st1) (kNewK2 c spec gg n l ws QW X) X) := rfl
def kS1 (g : Str → D → Option D) (fb : Ex) (sl : Slo) (QW : W → Sto → Prop) (X : XP) (w : W) (st1 : Sto) : Prop := wpd w fun d => wps1 d fun a => wp (fb sl st1) (kS12 g a QW) X
theorem kS1_ap (g : Str → D → Option D) (fb : Ex) (sl : Slo) (QW : W → Sto → Prop) (X : XP) (w : W) (st1 : Sto) : kS1 g fb sl QW X w st1 = (wpd w fun d => wps1 d fun a => wp (fb sl st1) (kS12 g a QW) X) := rfl
def kFin (n : Nat) (fr : Bool) (Q : W → Sto → Prop) (X : XP) (w : W) (st' : Sto) : Prop := wp (fin fr n w st') Q X
theorem kFin_ap (n : Nat) (fr : Bool) (Q : W → Sto → Prop) (X : XP) (w : W) (st' : Sto) : kFin n fr Q X w st' = (wp (fin fr n w st') Q X) := rfl
def kEx (n : Nat) (X : XP) (c : Str) (fs : List (Str × D)) (u2 : Slo) (st' : Sto) : Prop := X c fs (st'.take n)
theorem kEx_ap (n : Nat) (X : XP) (c : Str) (fs : List (Str × D)) (u2 : Slo) (st' : Sto) : kEx n X c fs u2 st' = (X c fs (st'.take n)) := rfl
def kEnd (n : Nat) (Q : W → Sto → Prop) (u0 : Slo) (st' : Sto) : Prop := Q (.d .non) (st'.take n)
theorem kEnd_ap (n : Nat) (Q : W → Sto → Prop) (u0 : Slo) (st' : Sto) : kEnd n Q u0 st' = (Q (.d .non) (st'.take n)) := rfl
def kNo  (u0 : Slo) (u1 : Sto) : Prop := False
theorem kNo_ap  (u0 : Slo) (u1 : Sto) : kNo u0 u1 = (False) := rfl
def kX (E : En) (sl : Slo) (c : Str) (fs : List (Str × D)) (st : Sto) : Prop := E.ex c fs sl st
theorem kX_ap (E : En) (sl : Slo) (c : Str) (fs : List (Str × D)) (st : Sto) : kX E sl c fs st = (E.ex c fs sl st) := rfl
def kSeq (g : Sm) (N : Slo → Sto → Prop) (E : En) (sl : Slo) (st : Sto) : Prop := wps (g sl st) N E
theorem kSeq_ap (g : Sm) (N : Slo → Sto → Prop) (E : En) (sl : Slo) (st : Sto) : kSeq g N E sl st = (wps (g sl st) N E) := rfl
def kExpr (sl : Slo) (N : Slo → Sto → Prop) (u0 : W) (st1 : Sto) : Prop := N sl st1
theorem kExpr_ap (sl : Slo) (N : Slo → Sto → Prop) (u0 : W) (st1 : Sto) : kExpr sl N u0 st1 = (N sl st1) := rfl
def kRet (E : En) (w : W) (st1 : Sto) : Prop := E.rt w st1
theorem kRet_ap (E : En) (w : W) (st1 : Sto) : kRet E w st1 = (E.rt w st1) := rfl
def kIf (f g : Sm) (sl : Slo) (N : Slo → Sto → Prop) (E : En) (k : Bool) (st1 : Sto) : Prop := if k = true then wps (f sl st1) N E else wps (g sl st1) N E
theorem kIf_ap (f g : Sm) (sl : Slo) (N : Slo → Sto → Prop) (E : En) (k : Bool) (st1 : Sto) : kIf f g sl N E k st1 = (if k = true then wps (f sl st1) N E else wps (g sl st1) N E) := rfl
def kSet (i : Nat) (sl : Slo) (N : Slo → Sto → Prop) (w : W) (st1 : Sto) : Prop := N (sl.set i (some w)) st1
theorem kSet_ap (i : Nat) (sl : Slo) (N : Slo → Sto → Prop) (w : W) (st1 : Sto) : kSet i sl N w st1 = (N (sl.set i (some w)) st1) := rfl
def wp2 (ws : List W) (k : W → W → Prop) : Prop := match ws with
  | [a, b] => k a b
  | _ => False
def wp1 (ws : List W) (k : W → Prop) : Prop := match ws with
  | [a] => k a
  | _ => False
def kPar (i j : Nat) (sl : Slo) (N : Slo → Sto → Prop) (ws : List W) (st1 : Sto) : Prop := wp2 ws fun a b => N ((sl.set i (some a)).set j (some b)) st1
theorem kPar_ap (i j : Nat) (sl : Slo) (N : Slo → Sto → Prop) (ws : List W) (st1 : Sto) : kPar i j sl N ws st1 = (wp2 ws fun a b => N ((sl.set i (some a)).set j (some b)) st1) := rfl
def kAsg (g : Tg) (sl : Slo) (N : Slo → Sto → Prop) (w : W) (st1 : Sto) : Prop := wpo (g w sl) fun sl1 => N sl1 st1
theorem kAsg_ap (g : Tg) (sl : Slo) (N : Slo → Sto → Prop) (w : W) (st1 : Sto) : kAsg g sl N w st1 = (wpo (g w sl) fun sl1 => N sl1 st1) := rfl
def kRaise (c fld : Str) (E : En) (sl : Slo) (ws : List W) (st1 : Sto) : Prop := wp1 ws fun w => wpd w fun x => E.ex c [(fld, x)] sl st1
theorem kRaise_ap (c fld : Str) (E : En) (sl : Slo) (ws : List W) (st1 : Sto) : kRaise c fld E sl ws st1 = (wp1 ws fun w => wpd w fun x => E.ex c [(fld, x)] sl st1) := rfl
def kFor (g : Tg) (body : Sm) (sl : Slo) (N : Slo → Sto → Prop) (E : En) (w : (List D × Option (Nat × List D))) (st1 : Sto) : Prop := wps (forL w.2 g body w.1 sl st1) N E
theorem kFor_ap (g : Tg) (body : Sm) (sl : Slo) (N : Slo → Sto → Prop) (E : En) (w : (List D × Option (Nat × List D))) (st1 : Sto) : kFor g body sl N E w st1 = (wps (forL w.2 g body w.1 sl st1) N E) := rfl
def kSetIx3 (wv wo : W) (sl : Slo) (N : Slo → Sto → Prop) (wi : W) (st3 : Sto) : Prop := wpc wo fun n => wpd wi fun k => wpi k fun k => wpd wv fun x => wpo st3[n]? fun c => wpl c fun ds => wpo (ixN ds.length k) fun j => N sl (st3.set n (.lst (ds.set j x)))
theorem kSetIx3_ap (wv wo : W) (sl : Slo) (N : Slo → Sto → Prop) (wi : W) (st3 : Sto) : kSetIx3 wv wo sl N wi st3 = (wpc wo fun n => wpd wi fun k => wpi k fun k => wpd wv fun x => wpo st3[n]? fun c => wpl c fun ds => wpo (ixN ds.length k) fun j => N sl (st3.set n (.lst (ds.set j x)))) := rfl
def kSetIx2 (fi : Ex) (wv : W) (sl : Slo) (N : Slo → Sto → Prop) (E : En) (wo : W) (st2 : Sto) : Prop := wp (fi sl st2) (kSetIx3 wv wo sl N) (kX E sl)
theorem kSetIx2_ap (fi : Ex) (wv : W) (sl : Slo) (N : Slo → Sto → Prop) (E : En) (wo : W) (st2 : Sto) : kSetIx2 fi wv sl N E wo st2 = (wp (fi sl st2) (kSetIx3 wv wo sl N) (kX E sl)) := rfl
def kSetIx1 (fo fi : Ex) (sl : Slo) (N : Slo → Sto → Prop) (E : En) (wv : W) (st1 : Sto) : Prop := wp (fo sl st1) (kSetIx2 fi wv sl N E) (kX E sl)
theorem kSetIx1_ap (fo fi : Ex) (sl : Slo) (N : Slo → Sto → Prop) (E : En) (wv : W) (st1 : Sto) : kSetIx1 fo fi sl N E wv st1 = (wp (fo sl st1) (kSetIx2 fi wv sl N E) (kX E sl)) := rfl
def kFld2 (c f : Str) (wv : W) (sl : Slo) (N : Slo → Sto → Prop) (wo : W) (st2 : Sto) : Prop := wpc wo fun n => wpd wv fun x => wpo st2[n]? fun cc => wpn cc fun c' gs => (c' = c ∧ gs.length < 1000) ∧ N sl (st2.set n (.ins c (putD f x gs)))
theorem kFld2_ap (c f : Str) (wv : W) (sl : Slo) (N : Slo → Sto → Prop) (wo : W) (st2 : Sto) : kFld2 c f wv sl N wo st2 = (wpc wo fun n => wpd wv fun x => wpo st2[n]? fun cc => wpn cc fun c' gs => (c' = c ∧ gs.length < 1000) ∧ N sl (st2.set n (.ins c (putD f x gs)))) := rfl
def kFld1 (c f : Str) (fo : Ex) (sl : Slo) (N : Slo → Sto → Prop) (E : En) (wv : W) (st1 : Sto) : Prop := wp (fo sl st1) (kFld2 c f wv sl N) (kX E sl)
theorem kFld1_ap (c f : Str) (fo : Ex) (sl : Slo) (N : Slo → Sto → Prop) (E : En) (wv : W) (st1 : Sto) : kFld1 c f fo sl N E wv st1 = (wp (fo sl st1) (kFld2 c f wv sl N) (kX E sl)) := rfl
def kI {β : Type} (k : W → Sto → R β) (Q : β → Sto → Prop) (X : XP) (w : W) (st : Sto) : Prop := wp (k w st) Q X
theorem kI_ap {β : Type} (k : W → Sto → R β) (Q : β → Sto → Prop) (X : XP) (w : W) (st : Sto) : kI k Q X w st = (wp (k w st) Q X) := rfl
abbrev WI := List D × Option (Nat × List D)
def kRng1 (Q : WI → Sto → Prop) (ws : List W) (st1 : Sto) : Prop := wp1 ws fun w => wpd w fun d => wpi d fun j => (-(2 ^ 62) ≤ j ∧ j ≤ 100000) ∧ Q (rng 0 j.toNat, none) st1
theorem kRng1_ap (Q : WI → Sto → Prop) (ws : List W) (st1 : Sto) : kRng1 Q ws st1 = (wp1 ws fun w => wpd w fun d => wpi d fun j => (-(2 ^ 62) ≤ j ∧ j ≤ 100000) ∧ Q (rng 0 j.toNat, none) st1) := rfl
def kRng2 (Q : WI → Sto → Prop) (ws : List W) (st1 : Sto) : Prop := wp2 ws fun w u => wpd w fun d => wpi d fun i => wpd u fun e => wpi e fun j => (-(2 ^ 62) ≤ i ∧ i < 2 ^ 62 ∧ -(2 ^ 62) ≤ j ∧ j < 2 ^ 62 ∧ j - i ≤ 100000) ∧ Q (rng i (j - i).toNat, none) st1
theorem kRng2_ap (Q : WI → Sto → Prop) (ws : List W) (st1 : Sto) : kRng2 Q ws st1 = (wp2 ws fun w u => wpd w fun d => wpi d fun i => wpd u fun e => wpi e fun j => (-(2 ^ 62) ≤ i ∧ i < 2 ^ 62 ∧ -(2 ^ 62) ≤ j ∧ j < 2 ^ 62 ∧ j - i ≤ 100000) ∧ Q (rng i (j - i).toNat, none) st1) := rfl
def kEnum (Q : WI → Sto → Prop) (ws : List W) (st1 : Sto) : Prop := wp1 ws fun w => wpd w fun d => wpt d fun ds => Q (enum ds, none) st1
theorem kEnum_ap (Q : WI → Sto → Prop) (ws : List W) (st1 : Sto) : kEnum Q ws st1 = (wp1 ws fun w => wpd w fun d => wpt d fun ds => Q (enum ds, none) st1) := rfl
def kLc (g : Tg) (tt : Tx) (fe : Ex) (sl : Slo) (Q : List D → Sto → Prop) (X : XP) (w : WI) (st1 : Sto) : Prop := wp (lcL w.2 g tt fe sl w.1 [] st1) Q X
theorem kLc_ap (g : Tg) (tt : Tx) (fe : Ex) (sl : Slo) (Q : List D → Sto → Prop) (X : XP) (w : WI) (st1 : Sto) : kLc g tt fe sl Q X w st1 = (wp (lcL w.2 g tt fe sl w.1 [] st1) Q X) := rfl
def kLcE (Q : W → Sto → Prop) (acc : List D) (st2 : Sto) : Prop := Q (.d (.lst acc)) st2
theorem kLcE_ap (Q : W → Sto → Prop) (acc : List D) (st2 : Sto) : kLcE Q acc st2 = (Q (.d (.lst acc)) st2) := rfl
def kLcC (Q : W → Sto → Prop) (acc : List D) (st2 : Sto) : Prop := Q (.c st2.length) (st2 ++ [.lst acc])
theorem kLcC_ap (Q : W → Sto → Prop) (acc : List D) (st2 : Sto) : kLcC Q acc st2 = (Q (.c st2.length) (st2 ++ [.lst acc])) := rfl
section
variable {QW : W → Sto → Prop} {QA : List W → Sto → Prop} {QB : Bool → Sto → Prop} {QP : Option Int → Sto → Prop} {QI : WI → Sto → Prop} {X : XP} {sl : Slo} {st : Sto} {fa fb fc fo fi : Ex} {fr fk : Ax} {tt tu : Tx} {f g : Sm} {N : Slo → Sto → Prop} {En1 : En}
theorem wp_var {i : Nat} : wp (eVar i sl st) QW X = wpo sl[i]? fun o => wpo o fun w => QW w st := by
  unfold eVar wp wpo
  cases sl[i]? with
  | none => rfl
  | some o => cases o <;> rfl
theorem wp_C {d : D} : wp (eC d sl st) QW X = QW (.d d) st := rfl
theorem wp_pr {o : Option D} : wp (pr st o) QW X = wpo o fun d => QW (.d d) st := by cases o <;> rfl
theorem wp_lift2 {g : D → D → Option D} {w1 w2 : W} : wp (lift2 g w1 w2 st) QW X = wpo (view st w1) fun a => wpo (view st w2) fun b => wpo (g a b) fun d => QW (.d d) st := by
  unfold lift2
  cases view st w1 with
  | none => rfl
  | some a => cases view st w2 with
    | none => rfl
    | some b => exact wp_pr
theorem wp_mk {k : List D → D} {ws : List W} : wp (mk k ws st) QW X = wpo (pures ws) fun ds => ds.length ≤ lim ∧ QW (.d (k ds)) st := by
  unfold mk
  cases pures ws with
  | none => rfl
  | some ds =>
    by_cases h : ds.length ≤ lim
    · simp only [wpo, h, if_true, true_and]; rfl
    · simp only [wpo, h, if_false, false_and]; rfl
theorem wp_if {α : Type} {Q : α → Sto → Prop} {p : Prop} [Decidable p] {a b : R α} : wp (if p then a else b) Q X = if p then wp a Q X else wp b Q X := by split <;> rfl
theorem wps_if0 {p : Prop} [Decidable p] {a b : RS} : wps (if p then a else b) N En1 = if p then wps a N En1 else wps b N En1 := by split <;> rfl
theorem wp_wbl {w : W} : wp (match w with | .d (.bl k) => some (O.ok k, st) | _ => none) QB X = wpd w fun d => wpb d fun k => QB k st := by
  cases w with
  | d x => cases x <;> rfl
  | c n => rfl
  | scr ns => rfl
  | t l => rfl
theorem wp_aNil : wp (aNil sl st) QA X = QA [] st := rfl
theorem wp_pNone : wp (pNone sl st) QP X = QP none st := rfl
theorem wp_yes : wp (tYesX sl st) QB X = QB true st := rfl
theorem wp_op {g : D → D → Option D} : wp (eOp g fa fb sl st) QW X = wp (fa sl st) (kOp g fb sl QW X) X := by
  simp only [eOp, wp_bnd, wp_lift2]; rfl
theorem wp_ix {g : D → D → Option D} : wp (eIx g fa fb sl st) QW X = wp (fa sl st) (kIx g fb sl QW X) X := by
  unfold eIx
  simp only [wp_bnd]
  unfold kIx kIx2
  congr; funext w1 st1; congr; funext w2 st2
  cases viewL st2 w1 with
  | none => rfl
  | some a => cases view st2 w2 with
    | none => rfl
    | some b => exact wp_pr
theorem wp_un {g : D → Option D} : wp (eUn g fa sl st) QW X = wp (fa sl st) (kUn g QW X) X := by
  unfold eUn
  simp only [wp_bnd]
  unfold kUn
  congr; funext w1 st1
  unfold lift1
  cases view st1 w1 with
  | none => rfl
  | some a => exact wp_pr
theorem wp_aCons  : wp (aCons fa fr sl st) QA X = wp (fa sl st) (kCons fr sl QA X) X := by
  simp only [aCons, wp_bnd, wp_ok]; rfl
theorem wp_call {gl : List D → Option D} : wp (eCall gl fr sl st) QW X = wp (fr sl st) (kCall gl QW X) X := by
  unfold eCall
  simp only [wp_bnd]
  unfold kCall
  congr; funext ws st1
  unfold liftN
  cases views st1 ws with
  | none => rfl
  | some a => exact wp_pr
theorem wp_tup  : wp (eTup fr sl st) QW X = wp (fr sl st) (kTup  QW X) X := by
  simp only [eTup, wp_bnd, wp_mk]; rfl
theorem wp_lst  : wp (eLst fr sl st) QW X = wp (fr sl st) (kLst  QW X) X := by
  simp only [eLst, wp_bnd, wp_mk]; rfl
theorem wp_cell  : wp (eCell fr sl st) QW X = wp (fr sl st) (kCell  QW X) X := by
  unfold eCell
  simp only [wp_bnd]
  unfold kCell
  congr; funext ws st1
  cases pures ws with
  | none => rfl
  | some ds =>
    by_cases h : ds.length ≤ lim
    · simp only [wpo, h, if_true, true_and]; rfl
    · simp only [wpo, h, if_false, false_and]; rfl
theorem wp_tOf  : wp (tOf fa sl st) QB X = wp (fa sl st) (kTOf  QB X) X := by
  unfold tOf
  simp only [wp_bnd]
  unfold kTOf
  congr; funext w st1
  unfold tru
  cases view st1 w with
  | none => rfl
  | some d => simp only [Option.bind_some, wpo_some]; cases truD d <;> rfl
theorem wp_tBl  : wp (tBl fa sl st) QB X = wp (fa sl st) (kTBl  QB X) X := by
  unfold tBl
  simp only [wp_bnd]
  unfold kTBl
  congr; funext w st1
  exact wp_wbl
theorem wp_tCmp {g : D → D → Option D} : wp (Dn.tCmp g fa fb sl st) QB X = wp (fa sl st) (kCmp g fb sl QB X) X := by
  unfold Dn.tCmp
  simp only [wp_bnd, wp_op]
  unfold kCmp kOp
  congr; funext w1 st1; congr; funext w2 st2
  unfold kCmp2 kOp2
  cases view st2 w1 with
  | none => rfl
  | some a => cases view st2 w2 with
    | none => rfl
    | some b =>
      simp only [wpo_some]
      cases g a b with
      | none => rfl
      | some d => exact wp_wbl
theorem wp_tNot  : wp (tNotX tt sl st) QB X = wp (tt sl st) (kNot  QB X) X := by
  simp only [tNotX, wp_bnd, wp_ok]; rfl
theorem wp_tAnd  : wp (tAndX tt tu sl st) QB X = wp (tt sl st) (kAnd tu sl QB X) X := by
  simp only [tAndX, wp_bnd, wp_if, wp_ok]; rfl
theorem wp_tOr  : wp (tOrX tt tu sl st) QB X = wp (tt sl st) (kOr tu sl QB X) X := by
  simp only [tOrX, wp_bnd, wp_if, wp_ok]; rfl
theorem wp_eIf  : wp (eIf tt fa fb sl st) QW X = wp (tt sl st) (kEIf fa fb sl QW X) X := by
  simp only [eIf, wp_bnd, wp_if]; rfl
theorem wp_eNot  : wp (eNot fa sl st) QW X = wp (fa sl st) (kENot  QW X) X := by
  unfold eNot
  simp only [wp_bnd]
  unfold kENot
  congr; funext w st1
  unfold tru
  cases view st1 w with
  | none => rfl
  | some d => simp only [Option.bind_some, wpo_some]; cases truD d <;> rfl
theorem wp_eAnd  : wp (eAnd fa fb sl st) QW X = wp (fa sl st) (kEAnd fb sl QW X) X := by
  unfold eAnd
  simp only [wp_bnd]
  unfold kEAnd
  congr; funext w st1
  unfold tru
  cases view st1 w with
  | none => rfl
  | some d =>
    simp only [Option.bind_some, wpo_some]
    cases truD d with
    | none => rfl
    | some k => simp only [wp_if, wp_ok]; rfl
theorem wp_eOr  : wp (eOr fa fb sl st) QW X = wp (fa sl st) (kEOr fb sl QW X) X := by
  unfold eOr
  simp only [wp_bnd]
  unfold kEOr
  congr; funext w st1
  unfold tru
  cases view st1 w with
  | none => rfl
  | some d =>
    simp only [Option.bind_some, wpo_some]
    cases truD d with
    | none => rfl
    | some k => simp only [wp_if, wp_ok]; rfl
theorem wp_chain {g g' : D → D → Option D} : wp (eChain g g' fa fb fc sl st) QW X = wp (fa sl st) (kChain g g' fb fc sl QW X) X := by
  unfold eChain
  simp only [wp_bnd, wp_lift2]
  unfold kChain
  congr; funext w1 st1; congr; funext w2 st2
  unfold kChain2
  cases view st2 w1 with
  | none => rfl
  | some a => cases view st2 w2 with
    | none => rfl
    | some b =>
      simp only [wpo_some]
      cases g a b with
      | none => rfl
      | some d => cases d with
        | bl k =>
          simp only [wpo_some, wpb_bl, wp_if, wp_bnd, wp_lift2, wp_ok]
          rfl
        | _ => rfl
theorem wp_pSome  : wp (pSome fa sl st) QP X = wp (fa sl st) (kPSome  QP X) X := by
  unfold pSome
  simp only [wp_bnd]
  unfold kPSome
  congr; funext w st1
  cases w with
  | d x => cases x <;> rfl
  | _ => rfl
theorem wp_sl {gs : D → Option Int → Option Int → Option D} {fl fh : Px} : wp (eSl gs fa fl fh sl st) QW X = wp (fa sl st) (kSl gs fl fh sl QW X) X := by
  unfold eSl
  simp only [wp_bnd]
  unfold kSl kSl2 kSl3
  congr; funext w st1; congr; funext l st2; congr; funext u st3
  cases viewL st3 w with
  | none => rfl
  | some d => exact wp_pr
theorem wp_fn {spec : Spec} : wp (eFn spec fr sl st) QW X = wp (fr sl st) (kFn spec QW X) X := by
  simp only [eFn, wp_bnd]; rfl
theorem wp_app  : wp (eAppend fa fb sl st) QW X = wp (fa sl st) (kApp fb sl QW X) X := by
  unfold eAppend
  simp only [wp_bnd]
  unfold kApp
  congr; funext w st1; congr; funext x st2
  unfold kApp2
  cases w with
  | c n => cases x with
    | d x =>
      simp only [wpc, wpd]
      cases st2[n]? with
      | none => rfl
      | some cc => cases cc with
        | lst ds =>
          simp only [wpo, wpl]
          by_cases h : ds.length < lim
          · simp only [h, if_true, true_and]; rfl
          · simp only [h, if_false, false_and]; rfl
        | ins _ _ => rfl
    | _ => rfl
  | _ => rfl
theorem wp_isCell  : wp (isCell fa sl st) QW X = wp (fa sl st) (kIsCell  QW X) X := by
  unfold isCell
  simp only [wp_bnd]
  unfold kIsCell
  congr; funext w st1
  cases w with
  | c n =>
    simp only [wpc]
    cases st1[n]? with
    | none => rfl
    | some cc => cases cc <;> rfl
  | _ => rfl
theorem wp_meth {c m : Str} {spec : Spec} : wp (eMeth c m spec fa fr sl st) QW X = wp (fa sl st) (kMeth c m spec fr sl QW X) X := by
  unfold eMeth
  simp only [wp_bnd]
  unfold kMeth
  congr; funext w st1
  unfold kMeth2
  cases view st1 w with
  | none => rfl
  | some d => cases d with
    | obj c' gs =>
      simp only [wpo, wpj]
      by_cases h : c' = c ∧ gs.lookup m = none
      · simp only [h, and_self, if_true, true_and, wp_bnd]
      · simp only [h, if_false, false_and]; rfl
    | _ => rfl
theorem wp_methK {c m : Str} {spec : Spec} {gg : List W → List W → List W} {l : Nat} : wp (eMethK c m spec gg l fa fk sl st) QW X = wp (fa sl st) (kMethK c m spec gg l fk sl QW X) X := by
  unfold eMethK
  simp only [wp_bnd]
  unfold kMethK
  congr; funext w st1
  unfold kMethK2
  cases view st1 w with
  | none => rfl
  | some d => cases d with
    | obj c' gs =>
      simp only [wpo, wpj]
      by_cases h : c' = c ∧ gs.lookup m = none
      · simp only [h, and_self, if_true, true_and, wp_bnd]
        congr; funext zs st2
        by_cases hz : zs.length = l
        · simp only [hz, if_true, true_and]
        · simp only [hz, if_false, false_and]; rfl
      · simp only [h, if_false, false_and]; rfl
    | _ => rfl
theorem wp_fnK {spec : Spec} {gg : List W → List W → List W} {n l : Nat} : wp (eFnK spec gg n l fr fk sl st) QW X = wp (fr sl st) (kFnK spec gg n l fk sl QW X) X := by
  unfold eFnK
  simp only [wp_bnd]
  unfold kFnK
  congr; funext ws st1; congr; funext zs st2
  unfold kFnK2
  by_cases hz : ws.length = n ∧ zs.length = l
  · simp only [hz, and_self, if_true, true_and]
  · simp only [hz, if_false, false_and]; rfl
theorem wp_new {c : Str} {spec : Spec} : wp (eNew c spec fr sl st) QW X = wp (fr sl st) (kNew c spec QW X) X := by
  simp only [eNew, wp_bnd]; rfl
theorem wp_newK {c : Str} {spec : Spec} {gg : List W → List W → List W} {n l : Nat} : wp (eNewK c spec gg n l fr fk sl st) QW X = wp (fr sl st) (kNewK c spec gg n l fk sl QW X) X := by
  unfold eNewK
  simp only [wp_bnd]
  unfold kNewK
  congr; funext ws st1; congr; funext zs st2
  unfold kNewK2
  by_cases hz : ws.length = n ∧ zs.length = l
  · simp only [hz, and_self, if_true, true_and]
  · simp only [hz, if_false, false_and]; rfl
theorem wp_s1 {gj : Str → D → Option D} : wp (eS1 gj fa fb sl st) QW X = wp (fa sl st) (kS1 gj fb sl QW X) X := by
  unfold eS1
  simp only [wp_bnd]
  unfold kS1
  congr; funext w st1
  unfold kS12
  cases w with
  | d x => cases x with
    | str a =>
      simp only [wpd, wps1, wp_bnd]
      congr; funext w2 st2
      cases viewL st2 w2 with
      | none => rfl
      | some d => exact wp_pr
    | _ => rfl
  | _ => rfl
/-- an instance made: the init leaves its fields in the new cell -/
theorem wp_made {c : Str} {n : Nat} {r : R W} : wp (made c n r) QW X = wp r (fun w st2 => w = .d .non ∧ wpo st2[n]? fun cc => wpn cc fun c' fs => c' = c ∧ QW (.d (.obj c fs)) (st2.take n)) (fun e fs st2 => X e fs (st2.take n)) := by
  unfold made
  cases r with
  | none => rfl
  | some z =>
    obtain ⟨o, st⟩ := z
    cases o with
    | exc e fs => rfl
    | ok w =>
      cases w with
      | d x => cases x with
        | non =>
          simp only [wp_ok, true_and]
          cases st[n]? with
          | none => rfl
          | some cc => cases cc with
            | lst _ => rfl
            | ins c' fs =>
              simp only [wpo, wpn]
              by_cases h : c' = c
              · simp only [h, if_true, true_and]; rfl
              · simp only [h, if_false, false_and]; rfl
        | _ => simp only [wp_ok, W.d.injEq, reduceCtorEq, false_and]; rfl
      | _ => simp only [wp_ok, reduceCtorEq, false_and]; rfl
theorem wp_told {sort : Str → List (Str × D) → Option D} : wp (eTold sort fa sl st) QW X = wp (fa sl st) (fun w st1 => wpd w fun x => QW (.d (.lst [.str "given", x])) st1) (fun c fs st1 => wpo (sort c fs) fun r => QW (.d r) st1) := by
  unfold eTold
  cases fa sl st with
  | none => rfl
  | some z =>
    obtain ⟨o, st1⟩ := z
    cases o with
    | ok w => cases w <;> rfl
    | exc c fs => simp only [wp_exc]; cases sort c fs <;> rfl
/-! statements -/
theorem wps_stm' {β : Type} {r : R β} {k : β → Sto → RS} {K : β → Sto → Prop} (h : ∀ a st, wps (k a st) N En1 = K a st) : wps (stm r sl k) N En1 = wp r K (kX En1 sl) := by
  rw [wps_stm]
  congr
  funext a st
  exact h a st
theorem wps_seq : wps (sSeq f g sl st) N En1 = wps (f sl st) (kSeq g N En1) En1 := by
  unfold sSeq fall wps kSeq
  cases f sl st with
  | none => rfl
  | some z =>
    obtain ⟨fl, a, b⟩ := z
    cases fl <;> rfl
theorem wps_skip : wps (sSkip sl st) N En1 = N sl st := rfl
theorem wps_brk : wps (sBreak sl st) N En1 = En1.bk sl st := rfl
theorem wps_cont : wps (sCont sl st) N En1 = En1.ct sl st := rfl
theorem wps_retN : wps (sRetN sl st) N En1 = En1.rt (.d .non) st := rfl
theorem wps_expr : wps (sExpr fa sl st) N En1 = wp (fa sl st) (kExpr sl N) (kX En1 sl) := wps_stm' fun _ _ => rfl
theorem wps_ret : wps (sRet fa sl st) N En1 = wp (fa sl st) (kRet En1) (kX En1 sl) := wps_stm' fun _ _ => rfl
theorem wps_sIf : wps (sIf tt f g sl st) N En1 = wp (tt sl st) (kIf f g sl N En1) (kX En1 sl) := wps_stm' fun k st => by
  unfold kIf
  exact wps_if0
theorem wps_set {i : Nat} : wps (sSet i fa sl st) N En1 = wp (fa sl st) (kSet i sl N) (kX En1 sl) := wps_stm' fun _ _ => rfl
theorem wps_par {i j : Nat} : wps (sPar i j fr sl st) N En1 = wp (fr sl st) (kPar i j sl N) (kX En1 sl) := wps_stm' fun ws st => by
  unfold kPar
  match ws with
  | [] => rfl
  | [_] => rfl
  | [_, _] => rfl
  | _ :: _ :: _ :: _ => rfl
theorem wps_asg {tg : Tg} : wps (sAsg tg fa sl st) N En1 = wp (fa sl st) (kAsg tg sl N) (kX En1 sl) := wps_stm' fun w st => by
  unfold kAsg
  cases tg w sl <;> rfl
theorem wps_raise {c fld : Str} : wps (sRaise c fld fr sl st) N En1 = wp (fr sl st) (kRaise c fld En1 sl) (kX En1 sl) := wps_stm' fun ws st => by
  unfold kRaise
  match ws with
  | [] => rfl
  | [.d _] => rfl
  | [.c _] => rfl
  | [.scr _] => rfl
  | [.t _] => rfl
  | a :: _ :: _ => cases a <;> rfl
theorem wps_for {it : Ix} {tg : Tg} : wps (sFor it tg f sl st) N En1 = wp (it sl st) (kFor tg f sl N En1) (kX En1 sl) := wps_stm' fun _ _ => rfl
theorem wps_setIx : wps (sSetIx fo fi fa sl st) N En1 = wp (fa sl st) (kSetIx1 fo fi sl N En1) (kX En1 sl) := wps_stm' fun wv st1 => by
  unfold kSetIx1
  refine wps_stm' fun wo st2 => ?_
  unfold kSetIx2
  refine wps_stm' fun wi st3 => ?_
  unfold kSetIx3
  cases wo with
  | c n => cases wi with
    | d k => cases k with
      | int k => cases wv with
        | d x =>
          simp only [wpc, wpd, wpi]
          cases st3[n]? with
          | none => rfl
          | some c => cases c with
            | lst ds => simp only [wpo_some, wpl]; cases ixN ds.length k <;> rfl
            | ins _ _ => rfl
        | _ => rfl
      | _ => rfl
    | _ => rfl
  | _ => rfl
theorem wps_fld {c fl : Str} : wps (sFldSet c fl fo fa sl st) N En1 = wp (fa sl st) (kFld1 c fl fo sl N En1) (kX En1 sl) := wps_stm' fun wv st1 => by
  unfold kFld1
  refine wps_stm' fun wo st2 => ?_
  unfold kFld2
  cases wo with
  | c n => cases wv with
    | d x =>
      simp only [wpc, wpd]
      cases st2[n]? with
      | none => rfl
      | some cc => cases cc with
        | lst _ => rfl
        | ins c' gs =>
          simp only [wpo_some, wpn]
          by_cases h : c' = c ∧ gs.length < 1000
          · simp only [h, and_self, if_true, true_and]; rfl
          · simp only [h, if_false, false_and]; rfl
    | _ => rfl
  | _ => rfl
theorem wp_runB {fr : Bool} {n : Nat} {b : Sm} {ws : List W} : wp (runB fr n b ws st) QW X = wps (b (startW n ws) st) (kEnd st.length QW) ⟨kFin st.length fr QW X, kEx st.length X, kNo, kNo⟩ := by
  unfold runB wps
  cases b (startW n ws) st with
  | none => rfl
  | some z =>
    obtain ⟨fl, a, b⟩ := z
    cases fl <;> rfl
theorem wp_fin_d {fr : Bool} {n : Nat} {d : D} : wp (fin fr n (.d d) st) QW X = QW (.d d) (st.take n) := rfl
theorem wp_fin_c {fr : Bool} {n i : Nat} : wp (fin fr n (.c i) st) QW X = if i < n then QW (.c i) (st.take n) else wpo st[i]? fun c => wpl c fun ds => if fr = true then QW (.d (.lst ds)) (st.take n) else QW (.c n) (st.take n ++ [.lst ds]) := by
  show wp (if i < n then _ else _) _ _ = _
  rw [wp_if]
  split
  · rfl
  · cases st[i]? with
    | none => rfl
    | some c => cases c with
      | lst ds => simp only [wpo_some, wpl, wp_if]; rfl
      | ins _ _ => rfl
/-! walks -/
theorem wp_iOf {k : W → Sto → R WI} : wp (iOf k fa sl st) QI X = wp (fa sl st) (kI k QI X) X := by
  unfold iOf
  rw [wp_bnd]
  rfl
theorem wp_itTup {ds : List D} : wp (itAny (.d (.tup ds)) st) QI X = QI (ds, none) st := rfl
theorem wp_itLst {ds : List D} : wp (itAny (.d (.lst ds)) st) QI X = QI (ds, none) st := rfl
theorem wp_itStr {x : Str} : wp (itAny (.d (.str x)) st) QI X = QI (signs x, none) st := rfl
theorem wp_itScr {ns : List Int} : wp (itAny (.scr ns) st) QI X = QI (ns.map D.int, none) st := rfl
theorem wp_itC {n : Nat} : wp (itAny (.c n) st) QI X = wpo st[n]? fun c => wpl c fun ds => QI (ds, some (n, ds)) st := by
  show wp (match st[n]? with | some (.lst ds) => some (O.ok (ds, some (n, ds)), st) | _ => none) _ _ = _
  cases st[n]? with
  | none => rfl
  | some c => cases c <;> rfl
theorem wp_rng1 : wp (iRange1 fr sl st) QI X = wp (fr sl st) (kRng1 QI) X := by
  unfold iRange1
  rw [wp_bnd]
  congr; funext ws st1
  unfold kRng1
  match ws with
  | [] => rfl
  | [.d (.int j)] =>
    simp only [wp1, wpd, wpi]
    by_cases h : -(2 ^ 62) ≤ j ∧ j ≤ 100000
    · simp only [h, and_self, if_true, true_and]; rfl
    · simp only [h, if_false, false_and]; rfl
  | [.d .non] => rfl
  | [.d (.bl _)] => rfl
  | [.d (.str _)] => rfl
  | [.d (.tup _)] => rfl
  | [.d (.lst _)] => rfl
  | [.d (.obj _ _)] => rfl
  | [.d .emp] => rfl
  | [.t _] => rfl
  | [.c _] => rfl
  | [.scr _] => rfl
  | _ :: _ :: _ => simp [wp1, wp]
theorem wp_rng2 : wp (iRange2 fr sl st) QI X = wp (fr sl st) (kRng2 QI) X := by
  unfold iRange2
  rw [wp_bnd]
  congr; funext ws st1
  unfold kRng2
  split
  · rename_i i j
    simp only [wp2, wpd, wpi]
    by_cases h : -(2 ^ 62) ≤ i ∧ i < 2 ^ 62 ∧ -(2 ^ 62) ≤ j ∧ j < 2 ^ 62 ∧ j - i ≤ 100000
    · simp only [h, and_self, if_true, true_and]; rfl
    · simp only [h, if_false, false_and]; rfl
  · rename_i hn
    show False = _
    match ws with
    | [] => rfl
    | [_] => rfl
    | [w, u] => cases w with
      | d d => cases d with
        | int i => cases u with
          | d e => cases e with
            | int j => exact absurd rfl (hn i j)
            | _ => rfl
          | _ => rfl
        | _ => rfl
      | _ => rfl
    | _ :: _ :: _ :: _ => rfl
theorem wp_enum : wp (iEnumT fr sl st) QI X = wp (fr sl st) (kEnum QI) X := by
  unfold iEnumT
  rw [wp_bnd]
  congr; funext ws st1
  unfold kEnum
  match ws with
  | [] => rfl
  | [w] => cases w with
    | d d => cases d <;> rfl
    | _ => rfl
  | _ :: _ :: _ => simp [wp1, wp]
theorem wp_lc {it : Ix} {tg : Tg} {vs : List Nat} : wp (eLc it tg tt fa vs sl st) QW X = wp (it sl st) (kLc tg tt fa (wipeW sl vs) (kLcE QW) X) X := by
  unfold eLc lcRun
  simp only [wp_bnd, wp_ok]
  rfl
theorem wp_lcC {it : Ix} {tg : Tg} {vs : List Nat} : wp (eLcC it tg tt fa vs sl st) QW X = wp (it sl st) (kLc tg tt fa (wipeW sl vs) (kLcC QW) X) X := by
  unfold eLcC lcRun
  simp only [wp_bnd, wp_ok]
  rfl
end
end Dn

/-! Rules for loops; facts of stores and data. -/
namespace Dn
open PySem L2
abbrev NX : XP := fun _ _ _ => False
section
variable {N : Slo → Sto → Prop} {E : En} {sl : Slo} {st : Sto} {tg : Tg} {body : Sm} {X : XP} {tt : Tx} {fe : Ex} {α : Type}
theorem wps_lop {r : RS} {g : Sm} : wps (lop r g) N E = wps r (fun sl st => wps (g sl st) N E) ⟨E.rt, E.ex, N, fun sl st => wps (g sl st) N E⟩ := by
  unfold lop wps
  cases r with
  | none => rfl
  | some z => obtain ⟨fl, a, b⟩ := z; cases fl <;> rfl
theorem wps_imp {r : RS} {N' : Slo → Sto → Prop} {E' : En} (h : wps r N E) (hn : ∀ sl st, N sl st → N' sl st) (hr : ∀ w st, E.rt w st → E'.rt w st) (hx : ∀ c fs sl st, E.ex c fs sl st → E'.ex c fs sl st) (hb : ∀ sl st, E.bk sl st → E'.bk sl st) (hc : ∀ sl st, E.ct sl st → E'.ct sl st) : wps r N' E' := by
  unfold wps at h ⊢
  split at h
  · cases h
  · exact hn _ _ h
  · exact hr _ _ h
  · exact hx _ _ _ _ h
  · exact hb _ _ h
  · exact hc _ _ h
/-- a loop whose invariant speaks of the items that are left -/
theorem wps_forC {chk : Option (Nat × List D)} (I : List D → Slo → Sto → Prop) (hk : ∀ ds sl st, I ds sl st → chkOk chk st)
    (hs : ∀ d ds sl st, I (d :: ds) sl st → wpo (tg (.d d) sl) fun sl1 => wps (body sl1 st) (I ds) ⟨E.rt, E.ex, N, I ds⟩) (he : ∀ sl st, I [] sl st → N sl st) :
    ∀ (ds : List D) {sl : Slo} {st : Sto}, I ds sl st → wps (forL chk tg body ds sl st) N E
  | [], sl, st, h => by
    unfold forL
    rw [if_pos (hk _ _ _ h)]
    exact he _ _ h
  | d :: ds, sl, st, h => by
    unfold forL
    rw [if_pos (hk _ _ _ h)]
    have q := hs d ds sl st h
    cases e : tg (.d d) sl with
    | none => rw [e] at q; exact q.elim
    | some sl1 =>
      rw [e] at q
      simp only [wpo_some] at q
      rw [wps_lop]
      exact wps_imp q (fun sl st h => wps_forC I hk hs he ds h) (fun _ _ h => h) (fun _ _ _ _ h => h) (fun _ _ h => h) fun sl st h => wps_forC I hk hs he ds h
theorem wps_forI (I : List D → Slo → Sto → Prop) {ds : List D} (h0 : I ds sl st)
    (hs : ∀ d ds sl st, I (d :: ds) sl st → wpo (tg (.d d) sl) fun sl1 => wps (body sl1 st) (I ds) ⟨E.rt, E.ex, N, I ds⟩) (he : ∀ sl st, I [] sl st → N sl st) : wps (forL none tg body ds sl st) N E :=
  wps_forC (chk := none) I (fun _ _ _ _ => trivial) hs he ds h0
/-- items that are values of a Lean type -/
theorem wps_forM {f : α → D} (I : List α → Slo → Sto → Prop) {as : List α} (h0 : I as sl st)
    (hs : ∀ a as sl st, I (a :: as) sl st → wpo (tg (.d (f a)) sl) fun sl1 => wps (body sl1 st) (I as) ⟨E.rt, E.ex, N, I as⟩) (he : ∀ sl st, I [] sl st → N sl st) : wps (forL none tg body (as.map f) sl st) N E := by
  refine wps_forI (fun ds sl st => ∃ as, ds = as.map f ∧ I as sl st) ⟨as, rfl, h0⟩ ?_ ?_
  · rintro d ds sl st ⟨as, e, h⟩
    cases as with
    | nil => cases e
    | cons a as =>
      cases e
      have q := hs a as sl st h
      cases e : tg (.d (f a)) sl with
      | none => rw [e] at q; exact q.elim
      | some sl1 =>
        rw [e] at q
        simp only [wpo_some] at q ⊢
        exact wps_imp q (fun _ _ h => ⟨as, rfl, h⟩) (fun _ _ h => h) (fun _ _ _ _ h => h) (fun _ _ h => h) fun _ _ h => ⟨as, rfl, h⟩
  · rintro sl st ⟨as, e, h⟩
    cases as with
    | nil => exact he _ _ h
    | cons a as => cases e
/-- items by their index -/
theorem wps_forN (I : Nat → Slo → Sto → Prop) {ds : List D} (h0 : I 0 sl st)
    (hs : ∀ i d sl st, ds[i]? = some d → I i sl st → wpo (tg (.d d) sl) fun sl1 => wps (body sl1 st) (I (i + 1)) ⟨E.rt, E.ex, N, I (i + 1)⟩) (he : ∀ sl st, I ds.length sl st → N sl st) : wps (forL none tg body ds sl st) N E := by
  refine wps_forI (fun es sl st => ∃ i, es = ds.drop i ∧ i ≤ ds.length ∧ I i sl st) ⟨0, rfl, Nat.zero_le _, h0⟩ ?_ ?_
  · rintro d es sl st ⟨i, e, hi, h⟩
    have hlt : i < ds.length := by
      rcases Nat.lt_or_ge i ds.length with z | z
      · exact z
      · rw [List.drop_eq_nil_of_le z] at e; cases e
    rw [List.drop_eq_getElem_cons hlt] at e
    cases e
    have q := hs i _ sl st (List.getElem?_eq_getElem hlt) h
    cases e : tg (.d ds[i]) sl with
    | none => rw [e] at q; exact q.elim
    | some sl1 =>
      rw [e] at q
      simp only [wpo_some] at q ⊢
      exact wps_imp q (fun _ _ h => ⟨i + 1, rfl, hlt, h⟩) (fun _ _ h => h) (fun _ _ _ _ h => h) (fun _ _ h => h) fun _ _ h => ⟨i + 1, rfl, hlt, h⟩
  · rintro sl st ⟨i, e, hi, h⟩
    have : i = ds.length := by
      have := congrArg List.length e
      rw [List.length_nil, List.length_drop] at this
      omega
    rw [this] at h
    exact he _ _ h
/-- range(n) -/
theorem wps_forR (I : Nat → Slo → Sto → Prop) {lo : Int} {n : Nat} (h0 : I 0 sl st)
    (hs : ∀ i sl st, i < n → I i sl st → wpo (tg (.d (.int (lo + (i : Int)))) sl) fun sl1 => wps (body sl1 st) (I (i + 1)) ⟨E.rt, E.ex, N, I (i + 1)⟩) (he : ∀ sl st, I n sl st → N sl st) : wps (forL none tg body (rng lo n) sl st) N E := by
  refine wps_forN I h0 ?_ ?_
  · intro i d sl st e h
    have hl : i < n := by have := (List.getElem?_eq_some_iff.mp e).1; rwa [rng_len] at this
    have : d = .int (lo + (i : Int)) := by
      obtain ⟨_, e⟩ := List.getElem?_eq_some_iff.mp e
      rw [← e]
      simp [rng]
    rw [this]
    exact hs i sl st hl h
  · rw [rng_len]; exact he
theorem enum_cons (d : D) (ds : List D) (k : Nat) : ((d :: ds).zipIdx k).map (fun p => D.tup [.int (p.2 : Nat), p.1]) = D.tup [.int (k : Nat), d] :: (ds.zipIdx (k + 1)).map (fun p => D.tup [.int (p.2 : Nat), p.1]) := rfl
/-- enumerate -/
theorem wps_forE (I : Nat → List D → Slo → Sto → Prop) {ds : List D} (h0 : I 0 ds sl st)
    (hs : ∀ i d ds sl st, I i (d :: ds) sl st → wpo (tg (.d (.tup [.int (i : Nat), d])) sl) fun sl1 => wps (body sl1 st) (I (i + 1) ds) ⟨E.rt, E.ex, N, I (i + 1) ds⟩) (he : ∀ i sl st, I i [] sl st → N sl st) : wps (forL none tg body (enum ds) sl st) N E := by
  refine wps_forI (fun es sl st => ∃ i ds, es = (ds.zipIdx i).map (fun p => D.tup [.int (p.2 : Nat), p.1]) ∧ I i ds sl st) ⟨0, ds, rfl, h0⟩ ?_ ?_
  · rintro d es sl st ⟨i, ds, e, h⟩
    cases ds with
    | nil => cases e
    | cons a ds =>
      rw [enum_cons] at e
      cases e
      have q := hs i a ds sl st h
      cases e : tg (.d (.tup [.int (i : Nat), a])) sl with
      | none => rw [e] at q; exact q.elim
      | some sl1 =>
        rw [e] at q
        simp only [wpo_some] at q ⊢
        exact wps_imp q (fun _ _ h => ⟨i + 1, ds, rfl, h⟩) (fun _ _ h => h) (fun _ _ _ _ h => h) (fun _ _ h => h) fun _ _ h => ⟨i + 1, ds, rfl, h⟩
  · rintro sl st ⟨i, ds, e, h⟩
    cases ds with
    | nil => exact he _ _ _ h
    | cons a as => cases e
/-- comprehensions -/
theorem wp_lcC' {chk : Option (Nat × List D)} {Q : List D → Sto → Prop} (I : List D → List D → Sto → Prop) (hk : ∀ ds acc st, I ds acc st → chkOk chk st)
    (hs : ∀ d ds acc st, I (d :: ds) acc st → wpo (tg (.d d) sl) fun sl1 => wp (tt sl1 st) (fun b st1 => if b = true then wp (fe sl1 st1) (fun w st2 => wpd w fun x => I ds (acc ++ [x]) st2) NX else I ds acc st1) NX) (he : ∀ acc st, I [] acc st → Q acc st) :
    ∀ (ds : List D) {acc : List D} {st : Sto}, I ds acc st → wp (lcL chk tg tt fe sl ds acc st) Q X
  | [], acc, st, h => by
    unfold lcL
    rw [if_pos (hk _ _ _ h)]
    exact he _ _ h
  | d :: ds, acc, st, h => by
    unfold lcL
    rw [if_pos (hk _ _ _ h)]
    have q := hs d ds acc st h
    cases e : tg (.d d) sl with
    | none => rw [e] at q; exact q.elim
    | some sl1 =>
      rw [e] at q
      simp only [wpo_some] at q ⊢
      rw [wp_noX]
      refine wp_imp q (fun b st1 h => ?_) (fun _ _ _ h => h)
      cases b with
      | false => exact wp_lcC' I hk hs he ds h
      | true =>
        simp only [if_true] at h ⊢
        rw [wp_noX]
        refine wp_imp h (fun w st2 h => ?_) (fun _ _ _ h => h)
        cases w with
        | d x => exact wp_lcC' I hk hs he ds h
        | c _ => exact h.elim
        | scr _ => exact h.elim
        | t _ => exact h.elim
theorem wp_lcI {Q : List D → Sto → Prop} (I : List D → List D → Sto → Prop) {ds acc : List D} (h0 : I ds acc st)
    (hs : ∀ d ds acc st, I (d :: ds) acc st → wpo (tg (.d d) sl) fun sl1 => wp (tt sl1 st) (fun b st1 => if b = true then wp (fe sl1 st1) (fun w st2 => wpd w fun x => I ds (acc ++ [x]) st2) NX else I ds acc st1) NX) (he : ∀ acc st, I [] acc st → Q acc st) : wp (lcL none tg tt fe sl ds acc st) Q X :=
  wp_lcC' (chk := none) I (fun _ _ _ _ => trivial) hs he ds h0
/-- by a plain function and a plain test -/
theorem wp_lcF {chk : Option (Nat × List D)} {Q : List D → Sto → Prop} {f : α → D} (p : α → Bool) (F : α → D) {as : List α} (hk : chkOk chk st)
    (hs : ∀ a ∈ as, wpo (tg (.d (f a)) sl) fun sl1 => wp (tt sl1 st) (fun b st1 => b = p a ∧ st1 = st ∧ (p a = true → wp (fe sl1 st) (fun w st2 => w = .d (F a) ∧ st2 = st) NX)) NX) (he : Q ((as.filter p).map F) st) : wp (lcL chk tg tt fe sl (as.map f) [] st) Q X := by
  refine wp_lcC' (fun ds acc s => s = st ∧ ∃ us vs, as = us ++ vs ∧ ds = vs.map f ∧ acc = (us.filter p).map F) ?_ ?_ ?_ _ ⟨rfl, [], as, rfl, rfl, rfl⟩
  · rintro ds acc s ⟨rfl, _⟩; exact hk
  · rintro d ds acc s ⟨rfl, us, vs, e, e2, rfl⟩
    cases vs with
    | nil => cases e2
    | cons a vs =>
      cases e2
      have q := hs a (by rw [e]; exact List.mem_append_right _ List.mem_cons_self)
      cases e3 : tg (.d (f a)) sl with
      | none => rw [e3] at q; exact q.elim
      | some sl1 =>
        rw [e3] at q
        simp only [wpo_some] at q ⊢
        refine wp_imp q (fun b st1 h => ?_) (fun _ _ _ h => h)
        obtain ⟨rfl, rfl, h⟩ := h
        cases hp : p a with
        | false =>
          simp only [Bool.false_eq_true, if_false]
          exact ⟨by trivial, us ++ [a], vs, by rw [e, List.append_assoc]; rfl, by trivial, by rw [List.filter_append, List.filter_cons, hp]; simp⟩
        | true =>
          simp only [if_true]
          refine wp_imp (h hp) (fun w st2 h => ?_) (fun _ _ _ h => h)
          obtain ⟨rfl, rfl⟩ := h
          exact ⟨rfl, us ++ [a], vs, by rw [e, List.append_assoc]; rfl, rfl, by rw [List.filter_append, List.filter_cons, hp]; simp⟩
  · rintro acc s ⟨rfl, us, vs, e, e2, rfl⟩
    cases vs with
    | nil => rw [List.append_nil] at e; rw [← e]; exact he
    | cons a vs => cases e2
theorem wp_lcM {chk : Option (Nat × List D)} {Q : List D → Sto → Prop} {f : α → D} (F : α → D) {as : List α} (hk : chkOk chk st)
    (hs : ∀ a ∈ as, wpo (tg (.d (f a)) sl) fun sl1 => wp (fe sl1 st) (fun w st2 => w = .d (F a) ∧ st2 = st) NX) (he : Q (as.map F) st) : wp (lcL chk tg tYesX fe sl (as.map f) [] st) Q X := by
  refine wp_lcF (fun _ => true) F hk (fun a ha => ?_) (by rw [List.filter_eq_self.mpr (fun _ _ => rfl)]; exact he)
  have q := hs a ha
  cases e3 : tg (.d (f a)) sl with
  | none => rw [e3] at q; exact q.elim
  | some sl1 =>
    rw [e3] at q
    exact ⟨rfl, rfl, fun _ => q⟩
/-- a comprehension over range -/
theorem wp_lcR {Q : List D → Sto → Prop} (I : Nat → List D → Sto → Prop) {lo : Int} {n : Nat} (h0 : I 0 [] st)
    (hs : ∀ i acc st, i < n → I i acc st → wpo (tg (.d (.int (lo + (i : Int)))) sl) fun sl1 => wp (tt sl1 st) (fun b st1 => if b = true then wp (fe sl1 st1) (fun w st2 => wpd w fun x => I (i + 1) (acc ++ [x]) st2) NX else I (i + 1) acc st1) NX) (he : ∀ acc st, I n acc st → Q acc st) : wp (lcL none tg tt fe sl (rng lo n) [] st) Q X := by
  refine wp_lcI (fun ds acc st => ∃ i, i ≤ n ∧ ds = (rng lo n).drop i ∧ I i acc st) ⟨0, Nat.zero_le _, rfl, h0⟩ ?_ ?_
  · rintro d ds acc st ⟨i, hi, e, h⟩
    have hlt : i < (rng lo n).length := by
      rcases Nat.lt_or_ge i (rng lo n).length with z | z
      · exact z
      · rw [List.drop_eq_nil_of_le z] at e; cases e
    have hl : i < n := by rwa [rng_len] at hlt
    rw [List.drop_eq_getElem_cons hlt] at e
    have e0 : (rng lo n)[i] = .int (lo + (i : Int)) := by simp [rng]
    rw [e0] at e
    cases e
    have q := hs i acc st hl h
    cases e3 : tg (.d (.int (lo + (i : Int)))) sl with
    | none => rw [e3] at q; exact q.elim
    | some sl1 =>
      rw [e3] at q
      simp only [wpo_some] at q ⊢
      refine wp_imp q (fun b st1 h => ?_) (fun _ _ _ h => h)
      cases b with
      | false => exact ⟨i + 1, hl, rfl, h⟩
      | true =>
        simp only [if_true] at h ⊢
        refine wp_imp h (fun w st2 h => ?_) (fun _ _ _ h => h)
        cases w with
        | d x => exact ⟨i + 1, hl, rfl, h⟩
        | c _ => exact h.elim
        | scr _ => exact h.elim
        | t _ => exact h.elim
  · rintro acc st ⟨i, hi, e, h⟩
    have : i = n := by
      have := congrArg List.length e
      rw [List.length_nil, List.length_drop, rng_len] at this
      omega
    rw [this] at h
    exact he _ _ h
theorem wps_whI {c : Tx} (I : Nat → Slo → Sto → Prop)
    (hs : ∀ n sl st, I n sl st → wp (c sl st) (fun k st1 => if k = true then wps (body sl st1) (fun sl st => ∃ m, m < n ∧ I m sl st) ⟨E.rt, E.ex, N, fun sl st => ∃ m, m < n ∧ I m sl st⟩ else N sl st1) (kX E sl)) :
    ∀ (n : Nat) {sl : Slo} {st : Sto}, I n sl st → wps (sWhile c body sl st) N E := by
  have key : ∀ (n : Nat) (sl : Slo) (st : Sto), I n sl st → ∃ k r, whF c body k sl st = some r ∧ wps (some r) N E := by
    intro n
    induction n using Nat.strongRecOn with
    | _ n ih =>
      intro sl st h
      have q := hs n sl st h
      rcases wp_of q with ⟨b, st1, e, q⟩ | ⟨cc, fs, st1, e, q⟩
      · cases b with
        | false => exact ⟨1, (.nx, sl, st1), by rw [whF_succ, e]; rfl, q⟩
        | true =>
          simp only [if_true] at q
          obtain ⟨fl, sl2, st2, e2⟩ := wps_of q
          rw [e2] at q
          have go : (∃ m, m < n ∧ I m sl2 st2) → (fl = .nx ∨ fl = .ct) → ∃ k r, whF c body k sl st = some r ∧ wps (some r) N E := by
            rintro ⟨m, hm, hi⟩ hf
            obtain ⟨k, r, e3, q3⟩ := ih m hm sl2 st2 hi
            refine ⟨k + 1, r, ?_, q3⟩
            rw [whF_succ, e]
            simp only [stm_ok, if_true, e2]
            rcases hf with rfl | rfl <;> exact e3
          cases fl with
          | nx => exact go q (.inl rfl)
          | ct => exact go q (.inr rfl)
          | bk => exact ⟨1, (.nx, sl2, st2), by rw [whF_succ, e]; simp only [stm_ok, if_true, e2]; rfl, q⟩
          | rt w => exact ⟨1, (.rt w, sl2, st2), by rw [whF_succ, e]; simp only [stm_ok, if_true, e2]; rfl, q⟩
          | ex x y => exact ⟨1, (.ex x y, sl2, st2), by rw [whF_succ, e]; simp only [stm_ok, if_true, e2]; rfl, q⟩
      · exact ⟨1, (.ex cc fs, sl, st1), by rw [whF_succ, e]; rfl, q⟩
  intro n sl st h
  obtain ⟨k, r, e, q⟩ := key n sl st h
  rw [sWhile_of e]
  exact q
end
/-! stores -/
section
variable {α : Type}
theorem app_get (st l : List α) (k : Nat) : (st ++ l)[st.length + k]? = l[k]? := by rw [List.getElem?_append_right (Nat.le_add_right _ _), Nat.add_sub_cancel_left]
theorem app_get0 (st l : List α) : (st ++ l)[st.length]? = l[0]? := by rw [List.getElem?_append_right (Nat.le_refl _), Nat.sub_self]
theorem app_set (st l : List α) (k : Nat) (x : α) : (st ++ l).set (st.length + k) x = st ++ l.set k x := by rw [List.set_append_right _ _ (Nat.le_add_right _ _), Nat.add_sub_cancel_left]
theorem app_set0 (st l : List α) (x : α) : (st ++ l).set st.length x = st ++ l.set 0 x := by rw [List.set_append_right _ _ (Nat.le_refl _), Nat.sub_self]
theorem app_take (st l : List α) (k : Nat) : (st ++ l).take (st.length + k) = st ++ l.take k := by rw [List.take_append, List.take_of_length_le (Nat.le_add_right _ _), Nat.add_sub_cancel_left]
theorem app_take0 (st l : List α) : (st ++ l).take st.length = st := by rw [List.take_left']; rfl
end
/-! data -/
theorem eqD_str' (x y : Str) : eqD (.str x) (.str y) = decide (x = y) := by
  simp only [eqD, toP, PyData.eqv]
  by_cases h : x = y
  · simp [h]
  · simp [h]
theorem eqD_int (x y : Int) : eqD (.int x) (.int y) = decide (x = y) := by
  simp only [eqD, toP, PyData.eqv]
  by_cases h : x = y
  · simp [h]
  · simp [h]
theorem inD_strs (x : Str) (ys : List Str) : inD (.str x) (ys.map D.str) = decide (x ∈ ys) := by
  induction ys with
  | nil => rfl
  | cons y ys ih =>
    have e : inD (.str x) ((y :: ys).map D.str) = (eqD (.str y) (.str x) || inD (.str x) (ys.map D.str)) := rfl
    rw [e, ih, eqD_str']
    by_cases h : y = x
    · simp [h]
    · have h' : ¬ x = y := fun z => h z.symm
      simp [h, h']
theorem dok_strL (n : Nat) (ys : List Str) : (ys.map D.str).all (dok n) = true := by
  rw [List.all_eq_true]
  intro d hd
  obtain ⟨y, _, rfl⟩ := List.mem_map.mp hd
  cases n <;> rfl
theorem dok_str (n : Nat) (x : Str) : dok n (.str x) = true := by cases n <;> rfl
theorem dok_int (n : Nat) (x : Int) : dok n (.int x) = true := by cases n <;> rfl
theorem dok_bl (n : Nat) (x : Bool) : dok n (.bl x) = true := by cases n <;> rfl
theorem dok_non (n : Nat) : dok n .non = true := by cases n <;> rfl
theorem dok_tup (n : Nat) (ds : List D) : dok (n + 1) (.tup ds) = ds.all (dok n) := by simp only [dok]
theorem dok_lst (n : Nat) (ds : List D) : dok (n + 1) (.lst ds) = ds.all (dok n) := by simp only [dok]
theorem dok_mono : ∀ (n : Nat) (d : D), dok n d = true → dok (n + 1) d = true
  | 0, .tup ds, h => by simp [dok] at h
  | 0, .lst ds, h => by simp [dok] at h
  | 0, .obj _ _, h => by simp [dok] at h
  | n + 1, .obj _ _, h => by simp [dok] at h
  | 0, .emp, h => by simp [dok] at h
  | n + 1, .emp, h => by simp [dok] at h
  | n + 1, .tup ds, h => by
    rw [dok_tup] at h ⊢
    rw [List.all_eq_true] at h ⊢
    exact fun d hd => dok_mono n d (h d hd)
  | n + 1, .lst ds, h => by
    rw [dok_lst] at h ⊢
    rw [List.all_eq_true] at h ⊢
    exact fun d hd => dok_mono n d (h d hd)
  | n, .non, _ => dok_non _
  | n, .bl _, _ => dok_bl _ _
  | n, .int _, _ => dok_int _ _
  | n, .str _, _ => dok_str _ _
theorem dok_le {n m : Nat} {d : D} (h : dok n d = true) (hl : n ≤ m) : dok m d = true := by
  obtain ⟨k, rfl⟩ := Nat.le.dest hl
  clear hl
  induction k with
  | zero => exact h
  | succ k ih => exact dok_mono _ _ ih
end Dn
namespace Dn
theorem wps_mid {r : RS} {N : Slo → Sto → Prop} {E : En} (M : Slo → Sto → Prop) (h : wps r M E) (hn : ∀ sl st, M sl st → N sl st) : wps r N E :=
  wps_imp h hn (fun _ _ h => h) (fun _ _ _ _ h => h) (fun _ _ h => h) (fun _ _ h => h)
end Dn
namespace Dn
theorem wp_lcD {chk : Option (Nat × List D)} {Q : List D → Sto → Prop} {X : XP} {tg : Tg} {fe : Ex} {sl : Slo} {st : Sto} (F : D → D) {ds : List D} (hk : chkOk chk st)
    (hs : ∀ a ∈ ds, wpo (tg (.d a) sl) fun sl1 => wp (fe sl1 st) (fun w st2 => w = .d (F a) ∧ st2 = st) NX) (he : Q (ds.map F) st) : wp (lcL chk tg tYesX fe sl ds [] st) Q X := by
  have := wp_lcM (f := fun d => d) (chk := chk) (tg := tg) (X := X) F hk hs he
  rwa [List.map_id'] at this
end Dn
namespace Dn
theorem wp_made_at {c : PySem.Str} {spec : Spec} {ws : List W} {Q : W → Sto → Prop} {X : XP} {n : Nat} {st2 : Sto} (st : Sto) (hn : n = st.length) (hs : st2 = st ++ [.ins c []]) (h : wp (made c st.length (spec (.c st.length :: ws) (st ++ [.ins c []]))) Q X) : wp (made c n (spec (.c n :: ws) st2)) Q X := by
  subst hn
  subst hs
  exact h
end Dn
namespace Dn
theorem wp_mid {α : Type} {r : R α} {Q : α → Sto → Prop} {X : XP} (M : α → Sto → Prop) (h : wp r M X) (hn : ∀ w st, M w st → Q w st) : wp r Q X := wp_imp h hn fun _ _ _ h => h
def kTold (Q : W → Sto → Prop) (w : W) (st : Sto) : Prop := wpd w fun x => Q (.d (.lst [.str "given", x])) st
def kToldX (sort : PySem.Str → List (PySem.Str × D) → Option D) (Q : W → Sto → Prop) (c : PySem.Str) (fs : List (PySem.Str × D)) (st : Sto) : Prop := wpo (sort c fs) fun r => Q (.d r) st
theorem kTold_ap {Q : W → Sto → Prop} {w : W} {st : Sto} : kTold Q w st = wpd w fun x => Q (.d (.lst [.str "given", x])) st := rfl
theorem kToldX_ap {sort : PySem.Str → List (PySem.Str × D) → Option D} {Q : W → Sto → Prop} {c : PySem.Str} {fs : List (PySem.Str × D)} {st : Sto} : kToldX sort Q c fs st = wpo (sort c fs) fun r => Q (.d r) st := rfl
theorem wp_eTold {sort : PySem.Str → List (PySem.Str × D) → Option D} {fa : Ex} {sl : Slo} {st : Sto} {Q : W → Sto → Prop} {X : XP} : wp (eTold sort fa sl st) Q X = wp (fa sl st) (kTold Q) (kToldX sort Q) := wp_told
end Dn

/-! The built-in functions on values whose kind is known. -/
namespace Dn
open PySem L2
section
variable {i j : Int} {x y : Str} {ds es : List D} {b c : Bool} {d : D}
theorem gAdd_ii : gAdd (.int i) (.int j) = some (.int (i + j)) := rfl
theorem gAdd_ss : gAdd (.str x) (.str y) = if x.length + y.length ≤ lim then some (.str (x ++ y)) else none := rfl
theorem gAdd_tt : gAdd (.tup ds) (.tup es) = if ds.length + es.length ≤ lim then some (.tup (ds ++ es)) else none := rfl
theorem gAdd_ll : gAdd (.lst ds) (.lst es) = if ds.length + es.length ≤ lim then some (.lst (ds ++ es)) else none := rfl
theorem gSub_ii : Dn.gSub (.int i) (.int j) = some (.int (i - j)) := rfl
theorem gMul_ii : gMul (.int i) (.int j) = if (-(2 ^ 64) < i ∧ i < 2 ^ 64) ∨ (-(2 ^ 64) < j ∧ j < 2 ^ 64) then some (.int (i * j)) else none := rfl
theorem gDiv_ii : gDiv (.int i) (.int j) = if 0 < j ∧ j < 1073741824 then some (.int (i / j)) else none := rfl
theorem gMod_ii : gMod (.int i) (.int j) = if 0 < j then some (.int (i % j)) else none := rfl
theorem gPow_ii : gPow (.int i) (.int j) = if 0 ≤ j ∧ j ≤ 1000000 ∧ i.natAbs < 2 ^ 64 then some (.int (i ^ j.toNat)) else none := rfl
theorem gLt_ii : gLt (.int i) (.int j) = some (.bl (decide (i < j))) := rfl
theorem gLe_ii : gLe (.int i) (.int j) = some (.bl (decide (i ≤ j))) := rfl
theorem gGt_ii : gGt (.int i) (.int j) = some (.bl (decide (j < i))) := rfl
theorem gGe_ii : gGe (.int i) (.int j) = some (.bl (decide (j ≤ i))) := rfl
theorem gLt_ss : gLt (.str x) (.str y) = some (.bl (decide (x.cps.toList < y.cps.toList))) := rfl
theorem gLe_ss : gLe (.str x) (.str y) = some (.bl (!decide (y.cps.toList < x.cps.toList))) := rfl
theorem gIn_t : gIn d (.tup ds) = if dok 60 d = true ∧ ds.all (dok 60) = true then some (.bl (inD d ds)) else none := by cases d <;> rfl
theorem gIn_l : gIn d (.lst ds) = if dok 60 d = true ∧ ds.all (dok 60) = true then some (.bl (inD d ds)) else none := by cases d <;> rfl
theorem gIn_s : gIn (.str x) (.str y) = some (.bl (inS x y)) := rfl
theorem gNotIn_t : gNotIn d (.tup ds) = if dok 60 d = true ∧ ds.all (dok 60) = true then some (.bl (!inD d ds)) else none := by cases d <;> rfl
theorem gNotIn_l : gNotIn d (.lst ds) = if dok 60 d = true ∧ ds.all (dok 60) = true then some (.bl (!inD d ds)) else none := by cases d <;> rfl
theorem gNotIn_s : gNotIn (.str x) (.str y) = some (.bl (!inS x y)) := rfl
theorem gIsN_n : gIsN d .non = some (.bl (isN d)) := by cases d <;> rfl
theorem gNotN_n : gNotN d .non = some (.bl (!isN d)) := by cases d <;> rfl
theorem isN_non : isN .non = true := rfl
theorem isN_str : isN (.str x) = false := rfl
theorem isN_int : isN (.int i) = false := rfl
theorem isN_bl : isN (.bl b) = false := rfl
theorem isN_tup : isN (.tup ds) = false := rfl
theorem isN_lst : isN (.lst ds) = false := rfl
theorem isN_obj {f : List (Str × D)} : isN (D.obj x f) = false := rfl
theorem gNeg_i : gNeg (.int i) = some (.int (-i)) := rfl
theorem gLen_s : gLen [.str x] = some (.int x.length) := rfl
theorem gLen_t : gLen [.tup ds] = some (.int ds.length) := rfl
theorem gLen_l : gLen [.lst ds] = some (.int ds.length) := rfl
theorem gAbs_i : gAbs [.int i] = some (.int (if i < 0 then -i else i)) := rfl
theorem gMax2_i : gMax2 [.int i, .int j] = some (.int (if j > i then j else i)) := rfl
theorem gMin2_i : gMin2 [.int i, .int j] = some (.int (if j < i then j else i)) := rfl
theorem gInt_i : gInt [.int i] = some (.int i) := rfl
theorem gInt_b : gInt [.bl b] = some (.int (if b then 1 else 0)) := rfl
theorem gTuple_t : gTuple [.tup ds] = some (.tup ds) := rfl
theorem gTuple_l : gTuple [.lst ds] = some (.tup ds) := rfl
theorem gList_t : gList [.tup ds] = some (.lst ds) := rfl
theorem gList_l : gList [.lst ds] = some (.lst ds) := rfl
theorem gStr_i : gStr [.int i] = if i.natAbs.log2 < 1920 ∧ (Str.ofString (toString i)).length ≤ lim then some (.str (Str.ofString (toString i))) else none := rfl
theorem gAll_l : gAll [.lst ds] = (bools ds).map fun bs => .bl (bs.all id) := rfl
theorem gAny_l : gAny [.lst ds] = (bools ds).map fun bs => .bl (bs.any id) := rfl
theorem gIx_l : gIx (.lst ds) (.int i) = atI ds i := rfl
theorem gIx_t : gIx (.tup ds) (.int i) = atI ds i := rfl
theorem gIx_s : gIx (.str x) (.int i) = (atI x.cps.toList i).map fun c => .str ⟨#[c]⟩ := rfl
theorem gSl_l {o p : Option Int} : gSl (.lst ds) o p = some (.lst (cutL ds o p)) := rfl
theorem gSl_t {o p : Option Int} : gSl (.tup ds) o p = some (.tup (cutL ds o p)) := rfl
theorem gSl_s {o p : Option Int} : gSl (.str x) o p = some (.str (cutS x o p)) := rfl
theorem truD_n : truD .non = some false := rfl
theorem truD_b : truD (.bl b) = some b := rfl
theorem truD_i : truD (.int i) = some (i != 0) := rfl
theorem truD_s : truD (.str x) = some (x.length != 0) := rfl
theorem truD_t : truD (.tup ds) = some (!ds.isEmpty) := rfl
theorem truD_l : truD (.lst ds) = some (!ds.isEmpty) := rfl
theorem view_dd {st : Sto} : view st (.d d) = some d := rfl
theorem viewL_dd {st : Sto} : viewL st (.d d) = some d := rfl
def vCell : Option Cell → Option D
  | some (.lst ds) => some (.lst ds)
  | some (.ins c fs) => some (.obj c fs)
  | none => none
theorem vCell_l : vCell (some (.lst ds)) = some (.lst ds) := rfl
theorem vCell_i {f : List (Str × D)} : vCell (some (.ins x f)) = some (.obj x f) := rfl
theorem view_cc {st : Sto} {n : Nat} : view st (.c n) = vCell st[n]? := by
  show (match st[n]? with | some (Cell.lst ds) => some (D.lst ds) | some (Cell.ins c fs) => some (D.obj c fs) | none => none) = _
  cases st[n]? with
  | none => rfl
  | some c => cases c <;> rfl
theorem viewL_cc {st : Sto} {n : Nat} : viewL st (.c n) = vCell st[n]? := view_cc
theorem viewL_scr {st : Sto} {ns : List Int} : viewL st (.scr ns) = some (.lst (ns.map D.int)) := rfl
theorem views_nil {st : Sto} : views st [] = some [] := rfl
theorem wpo_views {st : Sto} {w : W} {ws : List W} {k : List D → Prop} : wpo (views st (w :: ws)) k = wpo (viewL st w) fun d => wpo (views st ws) fun ds => k (d :: ds) := by
  show wpo (match viewL st w, views st ws with | some d, some ds => some (d :: ds) | _, _ => none) k = _
  cases viewL st w with
  | none => rfl
  | some d => cases views st ws <;> rfl
theorem pures_nil : pures [] = some [] := rfl
theorem pures_d {ws : List W} : pures (.d d :: ws) = (pures ws).map (d :: ·) := rfl
theorem ixN_natE {n k : Nat} : ixN n (k : Int) = if k < n then some k else none := by
  unfold ixN
  rw [if_pos (by omega)]
  by_cases h : k < n
  · rw [if_pos (by omega), if_pos h]; simp
  · rw [if_neg (by omega), if_neg h]
theorem ixN_lit {n k : Nat} : ixN n (no_index (OfNat.ofNat k : Int)) = if (OfNat.ofNat k : Nat) < n then some (OfNat.ofNat k) else none := ixN_natE
theorem atI_natE {α : Type} {xs : List α} {k : Nat} : atI xs (k : Int) = xs[k]? := by
  unfold atI
  rw [ixN_natE]
  split
  · rfl
  · rename_i h; rw [List.getElem?_eq_none (by omega)]; rfl
theorem atI_lit {α : Type} {xs : List α} {k : Nat} : atI xs (no_index (OfNat.ofNat k : Int)) = xs[(OfNat.ofNat k : Nat)]? := atI_natE
theorem atI_ok {α : Type} {xs : List α} {i : Int} (h0 : 0 ≤ i) (h1 : i < xs.length) : ∃ a, atI xs i = some a ∧ a ∈ xs := by
  obtain ⟨k, rfl⟩ := Int.eq_ofNat_of_zero_le h0
  rw [atI_natE]
  have : k < xs.length := by omega
  exact ⟨xs[k], List.getElem?_eq_getElem this, List.getElem_mem this⟩
theorem wpo_at {α : Type} {xs : List α} {i : Int} {k : α → Prop} (h0 : 0 ≤ i) (h1 : i < xs.length) (h : ∀ a, a ∈ xs → k a) : wpo (atI xs i) k := by
  obtain ⟨a, e, m⟩ := atI_ok h0 h1
  rw [e]
  exact h a m
theorem isT_int_b : isT "int" (.bl b) = some true := rfl
theorem gIs_str_s : gIs "str" (.str x) = some (.bl true) := rfl
end
end Dn
namespace Dn
open PySem L2
theorem bools_mapE {α : Type} (f : α → Bool) (xs : List α) : bools (xs.map fun x => D.bl (f x)) = some (xs.map f) := by
  induction xs with
  | nil => rfl
  | cons x xs ih => simp only [List.map_cons, bools, ih, Option.map_some]
theorem bools_nil : bools [] = some [] := rfl
theorem bools_cons {b : Bool} {ds : List D} : bools (.bl b :: ds) = (bools ds).map (b :: ·) := rfl
theorem all_idE {α : Type} (p : α → Prop) [DecidablePred p] (xs : List α) : (xs.map fun x => decide (p x)).all id = decide (∀ x ∈ xs, p x) := by
  rw [List.all_map]
  by_cases h : ∀ x ∈ xs, p x
  · rw [decide_eq_true h, List.all_eq_true]
    exact fun x hx => decide_eq_true (h x hx)
  · rw [decide_eq_false h, Bool.eq_false_iff]
    intro z
    rw [List.all_eq_true] at z
    exact h fun x hx => of_decide_eq_true (z x hx)
theorem all_idB {α : Type} (p : α → Bool) (xs : List α) : (xs.map p).all id = xs.all p := by
  rw [List.all_map]; rfl
theorem txts_mapE (xs : List Str) : txts (xs.map D.str) = some xs := by
  induction xs with
  | nil => rfl
  | cons x xs ih => simp only [List.map_cons, txts, ih, Option.map_some]
theorem inS_oneE (c : Nat) (z : Str) : inS ⟨#[c]⟩ z = decide (c ∈ z.cps.toList) := PySem.StrLaws.found_one z c
theorem lim_is : lim = 100000 := rfl
theorem wp_spec {α : Type} {r : R α} {p : Prop} [Decidable p] (h : p) {Q : α → Sto → Prop} {X : XP} (q : wp r Q X) : wp (if p then r else none) Q X := by rw [if_pos h]; exact q
theorem law_of {spec : Spec} {ns : List Int} (h : wp (spec [.scr ns] []) (fun w _ => w = .d (.bl true)) NX) : ∃ st, spec [.scr ns] [] = some (.ok (.d (.bl true)), st) := by
  rcases wp_of h with ⟨_, st, e, rfl⟩ | ⟨_, _, _, _, z⟩
  · exact ⟨st, e⟩
  · exact z.elim
end Dn

/-! repr of data -/
namespace Dn
open PySem L2 Ft
def rp (d : D) : Str := (toP d).shown
def fineS (x : Str) : Bool := x.cps.toList.all fun c => decide (c < 4294967296)
mutual
def fine : D → Bool
  | .int i => decide (i.natAbs.log2 < 1920)
  | .str x => fineS x
  | .tup ds => fines ds
  | .lst ds => fines ds
  | _ => true
def fines : List D → Bool
  | [] => true
  | d :: ds => fine d && fines ds
end
mutual
def shB : D → Nat
  | .bl _ => 5
  | .int i => (Str.ofString (toString i)).length
  | .str x => 10 * x.length + 2
  | .tup ds => shBs ds + 4
  | .lst ds => shBs ds + 2
  | _ => 4
def shBs : List D → Nat
  | [] => 0
  | d :: ds => shB d + 2 + shBs ds
end
theorem fines_eq (ds : List D) : fines ds = ds.all fine := by
  induction ds with
  | nil => rfl
  | cons d ds ih => simp only [fines, List.all_cons, ih]
theorem textFrom_le : ∀ (ts : List Str) (k : Nat) (acc : Str), (textFrom k acc ts).length ≤ acc.length + (ts.map fun t => t.length + 2).sum
  | [], k, acc => by simp [textFrom]
  | t :: ts, k, acc => by
    have h := textFrom_le ts (k + 1) (acc ++ (if k > 0 then ", " else "" : String) ++ t)
    have e : (acc ++ (if k > 0 then ", " else "" : String) ++ t).length ≤ acc.length + 2 + t.length := by
      rw [len_tl, tl_app, tl_app, List.length_append, List.length_append, ← len_tl, ← len_tl]
      split
      · show acc.length + (tl (", " : Str)).length + t.length ≤ _
        have : (tl (", " : Str)).length = 2 := by decide +kernel
        omega
      · show acc.length + (tl ("" : Str)).length + t.length ≤ _
        have : (tl ("" : Str)).length = 0 := by decide +kernel
        omega
    simp only [textFrom, List.map_cons, List.sum_cons]
    omega
theorem joinL_le (S : List Nat) : ∀ ls : List (List Nat), (TL.joinL S ls).length ≤ (ls.map fun l => l.length + S.length).sum
  | [] => by simp [TL.joinL]
  | [p] => by simp [TL.joinL]
  | p :: q :: r => by
    have h := joinL_le S (q :: r)
    simp only [TL.joinL, List.length_append, List.map_cons, List.sum_cons] at h ⊢
    omega
mutual
theorem shown_le : ∀ (d : D), fine d = true → (toP d).shown.length ≤ shB d
  | .non, _ => by show ("None" : Str).length ≤ 4; decide +kernel
  | .bl b, _ => by
    cases b
    · show ("False" : Str).length ≤ 5; decide +kernel
    · show ("True" : Str).length ≤ 5; decide +kernel
  | .int i, _ => Nat.le_refl _
  | .obj _ _, _ => by show ("None" : Str).length ≤ 4; decide +kernel
  | .emp, _ => by show ("None" : Str).length ≤ 4; decide +kernel
  | .str x, h => by
    simp only [toP, PyData.shown, shB]
    refine PySem.StrLaws.reprText_len x fun c hc => ?_
    simp only [fine, fineS, List.all_eq_true] at h
    have := of_decide_eq_true (h c hc)
    omega
  | .tup ds, h => by
    simp only [toP, PyData.shown, shB]
    have q := shownAll_le ds (by simpa only [fine] using h)
    have j := joinL_le (tl (", " : Str)) ((PyData.shownAll (toPs ds)).map tl)
    have c2 : (tl (", " : Str)).length = 2 := by decide +kernel
    have c1 : ("(" : Str).length = 1 := by decide +kernel
    have e : ∀ a : Bool, ((if a = true then ",)" else ")" : String) : Str).length ≤ 2 := by intro a; cases a <;> decide +kernel
    rw [c2] at j
    have j2 : (Str.join ", " (PyData.shownAll (toPs ds))).length ≤ ((PyData.shownAll (toPs ds)).map fun t => t.length + 2).sum := by
      rw [len_tl]
      have : tl (Str.join ", " (PyData.shownAll (toPs ds))) = _ := TL.tl_join _ _
      rw [this]
      refine Nat.le_trans j ?_
      rw [List.map_map]
      have : ((fun l : List Nat => l.length + 2) ∘ tl) = fun t : Str => t.length + 2 := by
        funext t
        simp only [Function.comp_apply, len_tl]
      rw [this]
      exact Nat.le_refl _
    unfold tupleText
    rw [app_len, app_len]
    have := e ((PyData.shownAll (toPs ds)).length == 1)
    omega
  | .lst ds, h => by
    simp only [toP, PyData.shown, shB]
    have q := shownAll_le ds (by simpa only [fine] using h)
    have j := textFrom_le (PyData.shownAll (toPs ds)) 0 "["
    have c1 : ("[" : Str).length = 1 := by decide +kernel
    have c2 : ("]" : Str).length = 1 := by decide +kernel
    unfold listText
    rw [app_len]
    omega
theorem shownAll_le : ∀ (ds : List D), fines ds = true → ((PyData.shownAll (toPs ds)).map fun t => t.length + 2).sum ≤ shBs ds
  | [], _ => Nat.le_refl _
  | d :: ds, h => by
    simp only [fines, Bool.and_eq_true] at h
    have h1 := shown_le d h.1
    have h2 := shownAll_le ds h.2
    simp only [toPs, PyData.shownAll, List.map_cons, List.sum_cons, shBs]
    omega
end
mutual
theorem showable_of : ∀ (d : D), fine d = true → (toP d).showable = true
  | .non, _ => rfl
  | .bl _, _ => rfl
  | .str _, _ => rfl
  | .obj _ _, _ => rfl
  | .emp, _ => rfl
  | .int i, h => h
  | .tup ds, h => by
    simp only [toP, PyData.showable]
    exact showableAll_of ds (by simpa only [fine] using h)
  | .lst ds, h => by
    simp only [toP, PyData.showable]
    exact showableAll_of ds (by simpa only [fine] using h)
theorem showableAll_of : ∀ (ds : List D), fines ds = true → PyData.showableAll (toPs ds) = true
  | [], _ => rfl
  | d :: ds, h => by
    simp only [fines, Bool.and_eq_true] at h
    simp only [toPs, PyData.showableAll, showable_of d h.1, showableAll_of ds h.2, Bool.and_true]
end
/-- data that repr shows -/
structure Shows (d : D) : Prop where
  dok : dok 60 d = true
  fine : fine d = true
  le : shB d ≤ lim
theorem repr_ok {d : D} (h : Shows d) : gRepr [d] = some (.str (rp d)) := by
  have := shown_le d h.fine
  have l := h.le
  show (if _ then _ else _) = _
  rw [if_pos ⟨h.dok, showable_of d h.fine, by omega⟩]
  rfl
theorem int_len {i : Int} {k : Nat} (hk : 0 < k) (h : i.natAbs < 10 ^ k) : (Str.ofString (toString i)).length ≤ k + 1 := by
  rw [PyProof.Rows.ofString_length]
  exact int_text_length_le10 hk h
theorem log_ok {i : Int} {k : Nat} (h : i.natAbs < 10 ^ k) (hk : k ≤ 400) : i.natAbs.log2 < 1920 := by
  by_cases h0 : i.natAbs = 0
  · rw [h0]; decide
  · rw [Nat.log2_lt h0]
    have h1 : 10 ^ k ≤ 10 ^ 400 := Nat.pow_le_pow_right (by decide) hk
    have h2 : (10 : Nat) ^ 400 < 2 ^ 1920 := by decide +kernel
    omega
theorem shBs_le {n : Nat} : ∀ {ds : List D}, (∀ d ∈ ds, shB d ≤ n) → shBs ds ≤ ds.length * (n + 2)
  | [], _ => Nat.zero_le _
  | d :: ds, h => by
    have h1 := h d List.mem_cons_self
    have h2 := shBs_le fun x hx => h x (List.mem_cons_of_mem d hx)
    simp only [shBs, List.length_cons, Nat.add_mul, Nat.one_mul]
    omega
end Dn
namespace Dn
open PySem L2
theorem cutL_to {α : Type} {xs : List α} {k : Nat} : cutL xs none (some (k : Int)) = xs.take k := by
  unfold cutL
  rw [HT.sIx_nat, HT.sIx_none, List.drop_zero, Nat.sub_zero, List.take_eq_take_iff]
  omega
theorem cutL_toL {α : Type} {xs : List α} {k : Nat} : cutL xs none (some (no_index (OfNat.ofNat k : Int))) = xs.take (OfNat.ofNat k) := cutL_to
theorem cutL_from {α : Type} {xs : List α} {k : Nat} : cutL xs (some (k : Int)) none = xs.drop k := by
  unfold cutL
  rw [HT.sIx_nat, HT.sIx_none]
  by_cases h : k ≤ xs.length
  · rw [Nat.min_eq_left h, List.take_of_length_le (by rw [List.length_drop]; exact Nat.le_refl _)]
  · rw [Nat.min_eq_right (by omega), Nat.sub_self, List.take_zero, List.drop_eq_nil_of_le (by omega)]
theorem cutL_fromL {α : Type} {xs : List α} {k : Nat} : cutL xs (some (no_index (OfNat.ofNat k : Int))) none = xs.drop (OfNat.ofNat k) := cutL_from
theorem wpo_atN {α : Type} {xs : List α} {i : Int} {k : Nat} {a : α} {K : α → Prop} (hi : i = k) (h : xs[k]? = some a) (q : K a) : wpo (atI xs i) K := by
  rw [hi, atI_natE, h]
  exact q
theorem rp_non : rp .non = "None" := rfl
end Dn

/-! == of data -/
namespace Dn
open PySem L2
def eqDs (xs ys : List D) : Bool := PyData.eqvAll (toPs xs) (toPs ys)
mutual
theorem eqD_refl : ∀ d : D, eqD d d = true
  | .non => rfl
  | .bl b => by simp [eqD, toP, PyData.eqv]
  | .int i => by simp [eqD, toP, PyData.eqv]
  | .str i => by simp [eqD, toP, PyData.eqv]
  | .obj _ _ => rfl
  | .emp => rfl
  | .tup ds => by simp only [eqD, toP, PyData.eqv]; exact eqDs_refl ds
  | .lst ds => by simp only [eqD, toP, PyData.eqv]; exact eqDs_refl ds
theorem eqDs_refl : ∀ ds : List D, eqDs ds ds = true
  | [] => by simp [eqDs, toPs, PyData.eqvAll]
  | d :: ds => by
    have h1 := eqD_refl d
    have h2 := eqDs_refl ds
    unfold eqD at h1
    unfold eqDs at h2 ⊢
    simp only [toPs, PyData.eqvAll, h1, h2, Bool.and_self]
end
theorem eqD_ll {xs ys : List D} : eqD (.lst xs) (.lst ys) = eqDs xs ys := by simp only [eqD, toP, PyData.eqv]; rfl
theorem eqD_tt {xs ys : List D} : eqD (.tup xs) (.tup ys) = eqDs xs ys := by simp only [eqD, toP, PyData.eqv]; rfl
theorem eqDs_nil : eqDs [] [] = true := by simp [eqDs, toPs, PyData.eqvAll]
theorem eqDs_cn {x : D} {xs : List D} : eqDs (x :: xs) [] = false := by simp [eqDs, toPs, PyData.eqvAll]
theorem eqDs_nc {x : D} {xs : List D} : eqDs [] (x :: xs) = false := by simp [eqDs, toPs, PyData.eqvAll]
theorem eqDs_cc {x y : D} {xs ys : List D} : eqDs (x :: xs) (y :: ys) = (eqD x y && eqDs xs ys) := by
  simp only [eqDs, eqD, toPs, PyData.eqvAll]
theorem inD_nil {x : D} : inD x [] = false := rfl
theorem inD_cons {x y : D} {ys : List D} : inD x (y :: ys) = (eqD y x || inD x ys) := rfl
theorem inD_app {x : D} {a b : List D} : inD x (a ++ b) = (inD x a || inD x b) := by unfold inD; rw [List.any_append]
theorem eqDs_map {α : Type} [DecidableEq α] {f : α → D} (hf : ∀ a b, eqD (f a) (f b) = decide (a = b)) : ∀ {xs ys : List α}, eqDs (xs.map f) (ys.map f) = decide (xs = ys)
  | [], [] => by rw [List.map_nil, eqDs_nil, decide_eq_true rfl]
  | [], y :: ys => by rw [List.map_nil, List.map_cons, eqDs_nc]; rfl
  | x :: xs, [] => by rw [List.map_nil, List.map_cons, eqDs_cn]; rfl
  | x :: xs, y :: ys => by
    rw [List.map_cons, List.map_cons, eqDs_cc, hf, eqDs_map hf]
    by_cases h1 : x = y
    · subst h1; by_cases h2 : xs = ys
      · subst h2; simp
      · simp [h2]
    · simp [h1]
end Dn

/-! More constructs: set of a text, list(range), sorted, ~, star arguments, tuples with cells. -/
namespace Dn
open PySem PySem.Spec PyProof.Rows L2 Ft LamX
section
variable {G : Gx} {X : Cx} {E : WX} {m m' : M} {H H' : Hp} {e o i v a : Expr} {fe fo fi fv : Ex} {fr : Ax} {pos p p2 q : Pos}
/-- f() of a law's def -/
theorem de_g0 (F : Has X.prog X.w X.K X.mg X.base (L2.CX X.prog X.w) k x [] (spD G 0 spec)) (hg : X.A.guards = some []) (hr : Room k X.A) (tk : Takes X E) (gl : Gl X x) (hn : ∀ ws st r, spec ws st = some r → ws.length = 0) (hdb : (x == ("__debug__" : Str)) = false := by decide) : DE G X E (.Call (.Name x p) [] [] pos) (eFn spec aNil) := by
  obtain ⟨f, fd, g, hm, hk, hb⟩ := F.ex
  refine PE.imp (t := fun σ H Q => rA G E aNil σ H fun vs H1 => spD G 0 spec vs H1 Q (WE E σ)) ⟨fun pins s σ H Q I h => ?_⟩ fun σ H Q h => spD_ok hn h
  obtain ⟨m, sl, st, hs, hc, h⟩ := h
  have q := aft_ok (v := []) h hc .nil
  apply wpAny_Call_Name_kw
  apply ld_glob I gl hm _ hdb
  refine PySem.W.callWith_K0 I.kIn hk ?_
  have bt := hb s [] I.kIn rfl
  rw [List.append_nil] at bt
  apply wpAny_call
  apply codeAny_mono (g.gRun X.A hg hr X.stack s H I.env0 ⟨[], []⟩ [] [] Q (WE E σ) bt .nil q)
  intro res s2 q
  match res, q with
  | .ok (.ret u), q => exact I.after q
  | .ok .next, q => exact False.elim q
  | .ok .brk, q => exact False.elim q
  | .ok .cont, q => exact False.elim q
  | .error e, q => exact passAt tk σ pins H s e s2 I q
/-! ### len(set(x)) -/
def eLenTx (fa : Ex) : Ex := fun sl st => bnd (fa sl st) fun w st1 => match view st1 w with
  | some (.str y) => if y.cps.all (· < 128) = true ∧ y.cps.toList.Nodup ∧ y.length ≤ 1000 then some (.ok (.d (.int y.length)), st1) else none
  | _ => none
theorem de_lenTx (ha : DE G X E a fe) (hg : Gl X "len") (hm : X.mg "len" = none) (hg2 : Gl X "set") (hm2 : X.mg "set" = none) (hc : X.calm = true := by rfl)
    (na : starEach [a] X.env = (false, eval a X.env) :: starEach [] X.env := by rfl) : DE G X E (.Call (.Name "len" p) [.Call (.Name "set" p2) [a] [] q] [] pos) (eLenTx fe) := by
  refine PE.imp (pe_lenTx hc hg hm hg2 hm2 ha na) ?_
  rintro σ H Q ⟨m, sl, st, hs, hc, h⟩
  refine ⟨m, sl, st, hs, hc, aft_bnd h fun w st1 v H1 m1 e1 c1 r1 h1 => ?_⟩
  split at h1
  · rename_i y hy
    split at h1
    · rename_i z
      have rx := (view_ok c1 r1 hy).str
      have hb : (1000 : Nat) < scanBound := by decide +kernel
      exact ⟨y, rx, z.1, z.2.1, by omega, h1 _ H1 m1 .refl c1 (rpd (.int _))⟩
    · exact h1.elim
  · exact h1.elim
/-! ### list(range(n)) -/
theorem rp_rg (G : Gx) (m : M) (H : Hp) (b : Int) : RpA G m H (rgV 0 b) (rng 0 b.toNat) := by
  unfold rgV rng
  rw [show (b - 0).toNat = b.toNat by omega]
  generalize List.range b.toNat = l
  induction l with
  | nil => exact .nil
  | cons x l ih => exact .cons (.int _) ih
def eListRg (fr : Ax) : Ex := fun sl st => bnd (fr sl st) fun ws st1 => match ws with
  | [.d (.int n)] => if -(2 ^ 62) ≤ n ∧ n ≤ 100000 then some (.ok (.d (.lst (rng 0 n.toNat))), st1) else none
  | _ => none
theorem de_listRg (ha : DE G X E a fe) (hg : Gl X "list") (hm : X.mg "list" = none) (hg2 : Gl X "range") (hm2 : X.mg "range" = none) (hc : X.calm = true := by rfl)
    (na : starEach [a] X.env = (false, eval a X.env) :: starEach [] X.env := by rfl)
    (na2 : starEach [.Call (.Name "range" p2) [a] [] q] X.env = (false, eval (.Call (.Name "range" p2) [a] [] q) X.env) :: starEach [] X.env := by rfl) :
    DE G X E (.Call (.Name "list" p) [.Call (.Name "range" p2) [a] [] q] [] pos) (eListRg (aCons fe aNil)) := by
  refine PE.imp (pe_listRg hc hg hm (prg_1 hg2 hm2 ha na) na2) ?_
  rintro σ H Q ⟨m, sl, st, hs, hc, h⟩
  refine ⟨m, sl, st, hs, hc, ?_⟩
  unfold eListRg aCons aNil at h
  cases hf : fe sl st with
  | none => rw [hf] at h; exact h.elim
  | some r =>
    obtain ⟨o, st1⟩ := r
    rw [hf] at h
    cases o with
    | exc c fs => exact h
    | ok w =>
      simp only [bnd_ok] at h
      intro v H1 m1 e1 c1 r1
      split at h
      · rename_i n z
        cases z
        split at h
        · rename_i hn
          have rv : v = .int n := by cases r1; rfl
          refine ⟨n, rv, ⟨by decide, by decide, hn.1, by omega, by omega⟩, fun p hp => ?_⟩
          have hl : (rng 0 n.toNat).length ≤ lim := by rw [rng_len, lim_is]; omega
          have sm := same_new (o := .lst (rgV 0 n)) hp
          have x := Ext.of_same (m := m1) sm
          exact h _ _ m1 (e1.trans x) (c1.same sm) (rpd (rp_lst c1 hp hl (rp_rg _ _ _ n)))
        · exact h.elim
      · exact h.elim
/-! ### sorted(t) -/
def intsD : List D → Option (List Int)
  | [] => some []
  | .int i :: ds => (intsD ds).map (i :: ·)
  | _ => none
theorem intsD_ok {G : Gx} {m : M} {H : Hp} : ∀ {vs : List V} {ds : List D} {ns : List Int}, RpA G m H vs ds → intsD ds = some ns → vs = ns.map V.int
  | [], [], ns, .nil, h => by cases h; rfl
  | v :: vs, d :: ds, ns, .cons r1 r2, h => by
    cases d with
    | int i =>
      simp only [intsD, Option.map_eq_some_iff] at h
      obtain ⟨l, h1, rfl⟩ := h
      cases r1
      rw [intsD_ok r2 h1]
      rfl
    | _ => cases h
def sortI (ns : List Int) : List Int := ns.mergeSort (fun a b => decide (a ≤ b))
theorem sortI_is {ns ms : List Int} (hp : ms.Perm ns) (hs : ms.Pairwise (· ≤ ·)) : ms = sortI ns := by
  have h1 : (sortI ns).Perm ns := List.mergeSort_perm ns _
  have h2 : (sortI ns).Pairwise (· ≤ ·) := by
    have := List.pairwise_mergeSort (le := fun a b : Int => decide (a ≤ b)) (fun a b c h1 h2 => decide_eq_true (Int.le_trans (of_decide_eq_true h1) (of_decide_eq_true h2))) (fun a b => by
      rcases Int.le_total a b with h | h
      · simp [h]
      · simp [h]) ns
    exact this.imp fun h => of_decide_eq_true h
  exact (hp.trans h1.symm).eq_of_pairwise (fun a b _ _ h1 h2 => Int.le_antisymm h1 h2) hs h2
def gSorted : List D → Option D
  | [.tup ds] => (intsD ds).bind fun ns => if ns.length < 64 then some (.lst ((sortI ns).map D.int)) else none
  | _ => none
theorem sortI_len (ns : List Int) : (sortI ns).length = ns.length := List.length_mergeSort ns
theorem c_sorted (hK : X.K = G.K := by rfl) : CallP G X (.builtin "sorted") gSorted := by
  rintro pins s σ H xs us Q I r ⟨m, st, ds, d, co, rs, e, q⟩
  unfold gSorted at e
  split at e
  · rename_i es
    obtain ⟨ns, e1, e2⟩ := Option.bind_eq_some_iff.mp e
    split at e2
    · rename_i hl
      cases e2
      obtain ⟨v, rfl, rv⟩ := xs1 rs
      obtain ⟨b, ys, rfl, hb, ra⟩ := rv.tup
      have := intsD_ok ra e1
      subst this
      refine cr_sortedTu pins s σ H _ us Q I r ⟨b, ns, rfl, .inl (.inl hb), hl, fun ms p hp hs hq => ?_⟩
      have em := sortI_is hp hs
      subst em
      refine q (.ref p) _ (same_new hq) (rp_lst co hq ?_ ?_)
      · rw [List.length_map, sortI_len, lim_is]; omega
      · exact RpA.ints _
    · cases e2
  · cases e
end
section
variable {G : Gx} {X : Cx} {E : WX} {m m' : M} {H H' : Hp} {e o i v a : Expr} {te : TE} {fe fo fi fv : Ex} {fr : Ax} {pos p p2 q : Pos}
/-! ### x[::-1], x a text -/
def revS (z : Str) : Str := ⟨z.cps.toList.reverse.toArray⟩
theorem pe_revS {k : Nat} {p1 p2 p3 pos : Pos} (he : PE X e te) : PE X (.Subscript e (.Slice none none (some (.UnaryOp .USub (.Constant (.int 1) k p1) p2)) p3) pos) (fun σ H Q => te σ H fun x H1 => ∃ z : Str, x = .str z ∧ z.length ≤ sizeLine ∧ Q (.str (revS z)) H1) := by
  refine ⟨fun pins s σ H Q I h => ?_⟩
  refine Subscript_ (thn (he.run pins s σ H _ I h) fun v s1 ⟨x, H1, I1, r1, q1⟩ => ?_)
  obtain ⟨z, ex, hz, q⟩ := q1
  subst ex
  obtain ⟨t, rfl⟩ := r1
  have hst : PO X (some (.UnaryOp .USub (.Constant (.int 1) k p1) p2)) (tPart (tUn (rU fun i => .int (-i)) (tC (.int 1)))) := po_some (pe_un un_neg pe_int)
  refine wpAny_Slice (thn (po_none.run pins s1 σ H1 (fun o H2 => o = none ∧ H2 = H1) I1 ⟨rfl, rfl⟩) fun vl s2 ⟨l, H2, I2, pl, el, e2⟩ => ?_)
  subst el e2
  refine thn (po_none.run pins s2 σ H2 (fun o H3 => o = none ∧ H3 = H2) I2 ⟨rfl, rfl⟩) fun vu s3 ⟨u, H3, I3, pu, eu, e3⟩ => ?_
  subst eu e3
  refine thn (hst.run pins s3 σ H3 (fun o H4 => o = some (-1) ∧ H4 = H3) I3 ⟨1, rfl, -1, rfl, rfl, rfl⟩) fun vs s4 ⟨o, H4, I4, ps, eo, e4⟩ => ?_
  subst eo e4
  have I5 : Inv X pins σ H4 { s4 with heap := s4.heap.push { cls := .type "slice", data := .fields #[vl, vu, vs] } } := I4.kept (t' := s4.toks) fun b ob q => Heap.get?_push_of_some _ q
  show wpAny (model X.prog X.w) X.A (subscriptTail e (.Slice none none (some (.UnaryOp .USub (.Constant (.int 1) k p1) p2)) p3) (.str z t) (.ref s4.heap.objs.size)) (EP X pins σ Q) X.xe { s4 with heap := s4.heap.push { cls := .type "slice", data := .fields #[vl, vu, vs] } }
  refine tail_any (ops := [.str z t, .ref s4.heap.objs.size]) (typeIs_str _ _ _) (F.slot_str_getitem.lookup) ?_ (by with_unfolding_all rfl)
  obtain ⟨l, rfl, hl⟩ := IsPart.raw pl
  obtain ⟨u, rfl, hu⟩ := IsPart.raw pu
  obtain ⟨w, rfl, hw⟩ := IsPart.raw ps
  have hw0 : w.map (·.1) = some (-1) := hw
  refine wpAny_getItem_str_slice (l := l) (u := u) (st := w) ⟨_, Heap.get?_push_size _ rfl, rfl, rfl⟩ (by rw [hw0]; rfl) ?_
  have e0 : slicePicked z l u w = Builtin.Str.strSliceIndices none none (-1) z.length := by
    unfold slicePicked
    rw [hl, hu, hw0]
    rfl
  unfold sliceMade
  rw [hw0, e0]
  have e1 : Builtin.Str.strSliceIndices none none (-1) z.length = (List.range z.length).reverse := by
    show sliceRange ((z.length : Int) - 1) (-1) (-1) = _
    rw [PySem.W.krv_sliceRange, PySem.W.krv_range]
  have e2 : (⟨((Builtin.Str.strSliceIndices none none (-1) z.length).filterMap (z.cps[·]?)).toArray⟩ : Str) = revS z := by
    rw [e1, List.filterMap_reverse]
    have := PySem.W.krv_all z.cps
    unfold revS
    rw [show (List.range z.length).filterMap (fun x => z.cps[x]?) = z.cps.toList from this]
  show Made.post (if ((-1 : Int) == 1 && (Builtin.Str.strSliceIndices none none (-1) z.length).length == z.length) = true then Made.val (.str z t)
    else Made.str ⟨((Builtin.Str.strSliceIndices none none (-1) z.length).filterMap (z.cps[·]?)).toArray⟩) (EP X pins σ Q) _
  rw [if_neg (by simp), e2]
  have hl2 : (revS z).length ≤ sizeLine := by
    have : (revS z).length = z.length := by simp [revS, Str.length]
    omega
  exact ⟨hl2, .str _, H4, I5.tok _, ⟨_, rfl⟩, q⟩
def eRevS (fa : Ex) : Ex := fun sl st => bnd (fa sl st) fun w st1 => match view st1 w with
  | some (.str y) => some (.ok (.d (.str (revS y))), st1)
  | _ => none
theorem revS_len (z : Str) : (revS z).length = z.length := by simp [revS, Str.length]
theorem de_revS {k : Nat} {p1 p2 p3 pos : Pos} (he : DE G X E e fe) : DE G X E (.Subscript e (.Slice none none (some (.UnaryOp .USub (.Constant (.int 1) k p1) p2)) p3) pos) (eRevS fe) := by
  refine PE.imp (pe_revS he) ?_
  rintro σ H Q ⟨m, sl, st, hs, hc, h⟩
  refine ⟨m, sl, st, hs, hc, aft_bnd h fun w st1 v H1 m1 e1 c1 r1 h1 => ?_⟩
  split at h1
  · rename_i y hy
    have rx := view_ok c1 r1 hy
    exact ⟨y, rx.str, lim_le rx.slen, h1 _ H1 m1 .refl c1 (rpd (.str _ (by rw [revS_len]; exact rx.slen)))⟩
  · exact h1.elim
/-! ### (x[i], y) = e -/
def sAsgIx (j : Nat) (fo fi fv : Ex) : Sm := fun sl st => stm (fv sl st) sl fun wv st1 => match wv with
  | .d (.tup [x, y]) => stm (fo sl st1) sl fun wo st2 => stm (fi sl st2) sl fun wi st3 => (match wo, wi with
    | .c n, .d (.int k) => (match st3[n]? with
      | some (.lst ds) => (match ixN ds.length k with
        | some jj => some (.nx, sl.set j (some (.d y)), st3.set n (.lst (ds.set jj x)))
        | none => none)
      | _ => none)
    | _, _ => none)
  | _ => none
theorem ds_asgIx {j : Nat} {y : Str} {k2 : Nat} {py pt : Pos} (hc : X.calm = true) (hN : X.N.Nodup) (hj : X.N[j]? = some y) (hy : Loc X.env.scope y) (ho : DE G X E o fo) (hi : DE G X E i fi) (hv : DE G X E v fv)
    (hf : X.fn y = true ∨ X.env.scope.names.lookup y = some .local := by first | exact .inl rfl | exact .inr rfl | assumption)
    (hs : swapsWithSole [.Tuple [.Subscript o i p, .Name y py] k2 pt] v pos.line X.env = pure false := by rfl) (hw : swappedStores [.Tuple [.Subscript o i p, .Name y py] k2 pt] v X.env = pure none := by rfl)
    (h1 : (assignEach [.Tuple [.Subscript o i p, .Name y py] k2 pt] X.env).map (·.2) = [assign (.Tuple [.Subscript o i p, .Name y py] k2 pt) X.env] := by rfl)
    (hn : (assignEach [.Subscript o i p, .Name y py] X.env).length = 2 := by rfl) (hst : (assignEach [.Subscript o i p, .Name y py] X.env).findIdx? (·.1) = none := by rfl)
    (he1 : (assignEach (.Subscript o i p :: [.Name y py]) X.env).map (·.2) = assign (.Subscript o i p) X.env :: (assignEach [.Name y py] X.env).map (·.2) := by rfl)
    (he2 : (assignEach (.Name y py :: []) X.env).map (·.2) = assign (.Name y py) X.env :: (assignEach [] X.env).map (·.2) := by rfl)
    (ha : ∀ u, assign (.Subscript o i p) X.env u = (do
      let ov ← holding [u] (eval o X.env)
      let iv ← holding [u, ov] (eval i X.env)
      standAt p
      holding [u, ov, iv] (setItem ov iv u)
      release [u, ov, iv] []) := by intro _; rfl) : DS G X E (.Assign [.Tuple [.Subscript o i p, .Name y py] k2 pt] v pos) (sAsgIx j fo fi fv) := by
  refine PS.imp (ps_asg hv (pg_tup hc (pgs_cons (pg_sub ho hi set_list ha) (pgs_cons (pg_name hN hj hy hf) pgs_nil he2) he1) hn hst) hs hw h1) ?_
  rintro Z σ H ⟨m, sl, st, hs, hc, h⟩
  refine ⟨m, sl, st, hs, hc, aftS_stm hs hc h fun wv st1 v H1 m1 e1 c1 r1 h1 => ?_⟩
  have hs1 := hs.ext hc e1
  split at h1
  · rename_i x y'
    obtain ⟨av, xs, rfl, q1, q2⟩ := RpX.tup (.inl r1)
    cases q2 with
    | @cons v1 _ _ _ rx q2 =>
      cases q2 with
      | @cons v2 _ _ _ ry q3 =>
        cases q3
        refine ⟨av, [v1, v2], rfl, .inl (.inl q1), rfl, v1, [v2], rfl, m1, sl, st1, hs1, c1, aftS_stm hs1 c1 h1 fun wo st2 z H2 m2 e2 c2 r2 h2 => ?_⟩
        have hs2 := hs1.ext c1 e2
        refine ⟨m2, sl, st2, hs2, c2, aftS_stm hs2 c2 h2 fun wi st3 z H3 m3 e3 c3 r3 h3 => ?_⟩
        split at h3
        · rename_i n k
          split at h3
          · rename_i ds hd
            split at h3
            · rename_i jj hjj
              obtain ⟨a, ha, rfl⟩ := RpW.ext c2 e3 r2
              obtain ⟨ys, q4, q5⟩ := cell_at c3 ha hd
              have rz : z = .int k := by cases r3; rfl
              have rx' := Rp.ext c2 e3 (Rp.ext c1 e2 rx)
              have ry' := Rp.ext c2 e3 (Rp.ext c1 e2 ry)
              refine ⟨a, ys, k, jj, rfl, rz, q4, by rw [q5.len]; exact hjj, ?_⟩
              have x3 := ext_write (o := .lst (ys.set jj v1)) c3 nt_lst ha
              have hs4 := (hs2.ext c2 e3).ext c3 x3
              refine ⟨v2, [], rfl, rfl, ?_⟩
              exact h3 _ _ m3 x3 (hs4.set (Rp.ext c3 x3 ry')) (c3.write ha ⟨by rw [List.length_set]; exact cell_len c3 ha hd, _, upd_same, (q5.ext c3 x3).set (Rp.ext c3 x3 rx') jj⟩)
            · exact h3.elim
          · exact h3.elim
        · exact h3.elim
  · exact h1.elim
/-! ### a tuple that holds lists of this def -/
def itemW : W → Option Wi
  | .d x => some (.d x)
  | .c n => some (.c n)
  | _ => none
def itemsW : List W → Option (List Wi)
  | [] => some []
  | w :: ws => match itemW w, itemsW ws with
    | some x, some xs => some (x :: xs)
    | _, _ => none
theorem itemsW_ok {m : M} {H : Hp} {vs : List V} {ws : List W} {l : List Wi} (r : RpWs G m H vs ws) (h : itemsW ws = some l) : RpIs G m H vs l ∧ l.length = vs.length := by
  induction r generalizing l with
  | nil => cases h; exact ⟨.nil, rfl⟩
  | @cons v vs w ws r _ ih =>
    unfold itemsW at h
    split at h
    · rename_i x xs h1 h2
      cases h
      obtain ⟨q1, q2⟩ := ih h2
      refine ⟨.cons ?_ q1, by simp only [List.length_cons, q2]⟩
      cases w with
      | d x => cases h1; exact r
      | c n => cases h1; exact r
      | _ => cases h1
    · cases h
def eTupC (fa : Ax) : Ex := fun sl st => bnd (fa sl st) fun ws st1 => match itemsW ws with
  | some l => if l.length ≤ lim then some (.ok (.t l), st1) else none
  | none => none
theorem de_tupC {x1} {es : List Expr} (h : DA G X E es fr) : DE G X E (.Tuple es x1 pos) (eTupC fr) := by
  refine PE.imp (pe_tup h) ?_
  rintro σ H Q ⟨m, sl, st, hs, hc, h⟩
  refine ⟨m, sl, st, hs, hc, aft_bnd h fun ws st1 vs H1 m1 e1 c1 r1 h1 => ?_⟩
  split at h1
  · rename_i l hd
    split at h1
    · rename_i hl
      obtain ⟨ri, rl⟩ := itemsW_ok r1 hd
      exact ⟨lim_le (by omega), fun p hp => h1 _ _ m1 (Ext.of_same (same_new hp)) (c1.same (same_new hp)) ⟨p, vs, rfl, hl, upd_same, ri.mono (fun _ _ r => r.same (same_new hp)) fun _ _ h => h⟩⟩
    · exact h1.elim
  · exact h1.elim
/-! ### ~x, x an own instance -/
def eInv (c : Str) (spec : Spec) (fa : Ex) : Ex := fun sl st => bnd (fa sl st) fun w st1 => match view st1 w with
  | some (.obj c' _) => if c' = c then spec [w] st1 else none
  | _ => none
theorem dx_inv {T : List (Addr × Str)} {k : Nat} {c : Str} {ps : List Str} {spec : Spec} (F : HasMd X.prog X.w X.K X.mg X.base T k c "__invert__" ps spec) (ho : DE ⟨X.K, X.mg, T⟩ X E o fo) (hr : Room k X.A) (tk : Takes X E) (hn : ∀ ws st r, spec ws st = some r → ws.length = ps.length) :
    DE ⟨X.K, X.mg, T⟩ X E (.UnaryOp .Invert o pos) (eInv c spec fo) := by
  obtain ⟨C, hC, F⟩ := F
  obtain ⟨f, fd, F', hm, hb⟩ := F.ex
  refine PE.imp (t := fun σ H Q => rE ⟨X.K, X.mg, T⟩ E fo σ H fun x H1 => ∃ a dx fs, x = .ref a ∧ H1 a = some (.ins C dx fs) ∧ spD ⟨X.K, X.mg, T⟩ ps.length spec [x] H1 Q (WE E σ)) ⟨fun pins s σ H Q I h => ?_⟩ fun σ H Q h => ?_
  · refine UnaryOp_ (thn (ho.run pins s σ H _ I h) fun u s1 ⟨x, H1, I1, rx, a, dx, fs, ex, ea, q⟩ => ?_)
    subst ex
    obtain rfl : u = Value.ref a := rx
    obtain ⟨mA, J, _⟩ := ins_get I1.hok ea
    obtain ⟨od, J, _⟩ := J.look
    obtain ⟨mm, hF⟩ := I1.fr
    refine PySem.W.ksp_inv hF I1.ok.mod.kin J hm.at_ hm.fn ?_
    have hl : ([Value.ref a]).length = ps.length := (Vals.length (xs := [V.ref a]) (us := [Value.ref a]) (.cons rfl .nil)).symm.trans (F'.len _ _ _ _ q)
    have bt := hb s1 [Value.ref a] I1.kIn (by rw [List.append_nil]; exact hl)
    rw [List.append_nil] at bt
    exact run_oS (args := ⟨[.ref a], []⟩) F' hr tk I1 bt (vs := [.ref a]) (.cons rfl .nil) q
  · obtain ⟨m, sl, st, hs, hc, h⟩ := h
    refine ⟨m, sl, st, hs, hc, aft_bnd h fun w st1 v H1 m1 e1 c1 r1 h1 => ?_⟩
    split at h1
    · rename_i c' gs hv
      split at h1
      · rename_i z
        subst z
        obtain ⟨a, C', dx, fs, rfl, hC', ha, _⟩ := (view_ok c1 r1 hv).obj
        have : C' = C := by
          have := hC'.symm.trans hC
          simpa using this
        subst this
        refine ⟨a, dx, fs, rfl, ha, m1, [w], st1, .cons r1 .nil, c1, ?_, h1⟩
        cases hs' : spec [w] st1 with
        | none => rw [hs'] at h1; exact h1.elim
        | some r => exact hn _ _ _ hs'
      · exact h1.elim
    · exact h1.elim
end
end Dn
namespace Dn
open PySem PySem.Spec PyProof.Rows L2 Ft LamX StX
/-! ### defs with a star parameter -/
section
variable {G : Gx} {m m' : M} {H H' : Hp}
theorem RpWs.split : ∀ {ws : List W} {rs : List D} {vs : List V}, RpWs G m H vs (ws ++ rs.map W.d) → ∃ v1 v2, vs = v1 ++ v2 ∧ RpWs G m H v1 ws ∧ RpA G m H v2 rs
  | [], rs, vs, r => by
    refine ⟨[], vs, rfl, .nil, ?_⟩
    induction rs generalizing vs with
    | nil => cases r; exact .nil
    | cons d rs ih =>
      cases r with
      | cons r1 r2 => exact .cons r1 (ih _ r2)
  | w :: ws, rs, vs, r => by
    cases r with
    | cons r1 r2 =>
      obtain ⟨v1, v2, rfl, a, b⟩ := RpWs.split r2
      exact ⟨_ :: v1, v2, rfl, .cons r1 a, b⟩
theorem RpWs.app : ∀ {v1 v2 : List V} {w1 w2 : List W}, RpWs G m H v1 w1 → RpWs G m H v2 w2 → RpWs G m H (v1 ++ v2) (w1 ++ w2)
  | _, _, _, _, .nil, r => r
  | _, _, _, _, .cons a b, r => .cons a (RpWs.app b r)
def spR (G : Gx) (n : Nat) (spec : Spec) : Sp := fun vs H Q E => ∃ m ws rs st, RpWs G m H vs (ws ++ rs.map W.d) ∧ CO G m H st ∧ ws.length = n ∧ rs.length ≤ lim ∧ aft G E (RpW G) m H (spec (ws ++ [.d (.tup rs)]) st) Q
theorem spR_of {n : Nat} {spec : Spec} {vs : List V} {Q : VK} {E : XK} (h : spR G n spec vs H Q E) :
    ∃ ws rest, vs = ws ++ rest ∧ ws.length = n ∧ rest.length ≤ sizeLine ∧ ∀ p, H p = none → spD G (n + 1) spec (ws ++ [V.ref p]) (upd H p (.tup rest)) Q E := by
  obtain ⟨m, ws, rs, st, r, c, hl, hr, h⟩ := h
  obtain ⟨v1, v2, rfl, r1, r2⟩ := r.split
  refine ⟨v1, v2, rfl, by rw [r1.len, hl], by rw [r2.len]; exact lim_le hr, fun p hp => ?_⟩
  have sm := same_new (o := .tup v2) hp
  have x := Ext.of_same (m := m) sm
  refine ⟨m, ws ++ [.d (.tup rs)], st, RpWs.app (r1.ext c x) (.cons (rpd (rp_tup hp hr r2)) .nil), c.same sm, by simp [hl], aft.ext x h⟩
end
section
variable {P : Program} {w : World} {K : PySem.W.Frag} {mg : Str → Option Value} {T : List (Addr × Str)} {base : Heap} {x qual pv : Str} {st : Stmt} {f : Addr} {fd : FuncData} {N ps : List Str} {k : Nat} {spec : Spec}
theorem okDR (fr : Bool) (F : Fun K x qual st f fd) (S : FnScope N (ps ++ [pv]) (defScope st))
    (hbind : ∀ (kV doc pm : Value) (an : Option Addr) (cdv ct : Value) (us rest : List Value), us.length = ps.length → bindArgs (PySem.W.fnOf x qual (defArgs st) (defBody st) (defScope st) .none kV doc pm an cdv ct) ⟨us ++ rest, []⟩ = (newTuple rest >>= fun t => pure (ps.zip us ++ [(pv, t)])))
    (hb : ∀ (cdv : Value) (A : Around) (outer : List Env) (s : Shared) (H : Hp) (E : XK), Room k (A.deeper (envOfC qual (defScope st) s.heap.objs.size f cdv)) →
      Takes (cxD P w K mg base N qual (defScope st) f cdv A outer s H E) (wx E) →
      PassesOwn (model P w) (cxD P w K mg base N qual (defScope st) f cdv A outer s H E).A (cxD P w K mg base N qual (defScope st) f cdv A outer s H E).env (cxD P w K mg base N qual (defScope st) f cdv A outer s H E).xe →
      ∃ b : Sm, DSs ⟨K, mg, T⟩ (cxD P w K mg base N qual (defScope st) f cdv A outer s H E) (wx E) (defBody st) b ∧ ∀ ws st r, ws.length = (ps ++ [pv]).length → spec ws st = some r → runB fr N.length b ws st = some r) :
    FnR P w K mg base (L2.CX P w) (k + 1) f (spR ⟨K, mg, T⟩ ps.length spec) := by
  obtain ⟨oc, od, kV, doc, pm, an, cdv, ct, osl, e, lk, hcd⟩ := F.ex
  subst e
  refine FnR.imp (fn_star (sp := spD ⟨K, mg, T⟩ (ps.length + 1) spec) lk hcd S cxUp (fun us rest hl => hbind kV doc pm an cdv ct us rest hl) fun A outer s H vs Q E hr h => ?_) fun vs H Q E h => spR_of h
  have tk : Takes (cxD P w K mg base N qual (defScope st) f cdv A outer s H E) (wx E) := takes_of rfl rfl rfl rfl
  obtain ⟨b, d, e⟩ := hb cdv A outer s H E hr tk (passes_of rfl)
  exact ⟨_, d, body_ok (fun ws st r hl => e ws st r (by rw [hl]; simp)) h⟩
end
theorem bind_star3 {B : List Value → Sem (List (Str × Value))} {p1 p2 p3 pv : Str} (h0 : ∀ a b c, B [a, b, c] = (newTuple [] >>= fun t => pure [(p1, a), (p2, b), (p3, c), (pv, t)])) (h1 : ∀ a b c r rs, B (a :: b :: c :: r :: rs) = (newTuple (r :: rs) >>= fun t => pure [(p1, a), (p2, b), (p3, c), (pv, t)])) :
    ∀ us rest : List Value, us.length = [p1, p2, p3].length → B (us ++ rest) = (newTuple rest >>= fun t => pure ([p1, p2, p3].zip us ++ [(pv, t)])) := by
  intro us rest hl
  match us, hl with
  | [a, b, c], _ =>
    cases rest with
    | nil => exact h0 a b c
    | cons r rs => exact h1 a b c r rs
/-! ### calls with a star argument; instances by such an init -/
section
variable {G : Gx} {X : Cx} {E : WX} {e o : Expr} {es : List Expr} {fe fo : Ex} {fr : Ax} {pos p : Pos} {c : Str} {spec : Spec} {q : Nat}
def aStar (fe : Ex) (fr : Ax) : Ax := fun sl st => bnd (fe sl st) fun w st1 => match view st1 w with
  | some (.tup ds) => bnd (fr sl st1) fun ws st2 => some (.ok (ds.map W.d ++ ws), st2)
  | _ => none
theorem RpA.ws {m : M} {H : Hp} : ∀ {vs : List V} {ds : List D}, RpA G m H vs ds → RpWs G m H vs (ds.map W.d)
  | _, _, .nil => .nil
  | _, _, .cons a b => .cons a (RpA.ws b)
theorem da_star (he : DE G X E e fe) (hr : DA G X E es fr) (hs : starEach (.Starred e p :: es) X.env = (true, eval e X.env) :: starEach es X.env := by rfl) : DA G X E (.Starred e p :: es) (aStar fe fr) := by
  refine PA.imp (pa_star he hr hs) ?_
  rintro σ H Q ⟨m, sl, st, hs, hc, h⟩
  refine ⟨m, sl, st, hs, hc, aft_bnd h fun w st1 x H1 m1 e1 c1 r1 h1 => ?_⟩
  split at h1
  · rename_i ds hv
    obtain ⟨a, xs, rfl, h2, ra⟩ := (view_ok c1 r1 hv).tup
    refine ⟨a, xs, rfl, .inl (.inl (.inl h2)), m1, sl, st1, hs.ext hc e1, c1, aft_bnd h1 fun ws st2 ys H2 m2 e2 c2 r2 h2 => ?_⟩
    exact aft_ok h2 c2 (RpWs.app (RpA.ws (ra.ext c1 e2)) r2)
  · exact h1.elim
theorem made_aft {E' : XK} {m : M} {H : Hp} {st : Sto} {ws' : List W} {C : Addr} {Q : VK} (hC : G.mg c = some (.ref C)) (co : CO G m H st)
    (h : aft G E' (RpW G) m H (made c st.length (spec (.c st.length :: ws') (st ++ [.ins c []]))) Q) (x dx : Addr) (hx : H x = none) (hdx : H dx = none) (ne : dx ≠ x) :
    Ext m H (m.add x) (upd (upd H dx (.own x)) x (.ins C dx [])) ∧ (m.add x).c[st.length]? = some x ∧ CO G (m.add x) (upd (upd H dx (.own x)) x (.ins C dx [])) (st ++ [.ins c []]) ∧
      aft G E' (RpW G) (m.add x) (upd (upd H dx (.own x)) x (.ins C dx [])) (spec (.c st.length :: ws') (st ++ [.ins c []])) (fun v H2 => v = .non ∧ Q (.ref x) H2) := by
  have sm := same_new (o := .own x) hdx
  have hx1 : upd H dx (.own x) x = none := by rw [upd_ne (Ne.symm ne)]; exact hx
  have co1 := co.same sm
  have e1 := (Ext.of_same (m := m) sm).trans (ext_cell (o := .ins C dx []) co1 hx1)
  have co2 : CO G (m.add x) (upd (upd H dx (.own x)) x (.ins C dx [])) (st ++ [.ins c []]) := co1.cell hx1 ⟨C, dx, [], hC, upd_same, .nil⟩
  have ix : (m.add x).c[st.length]? = some x := by
    show (m.c ++ [x])[_]? = _
    rw [← co.len, List.getElem?_append_right (Nat.le_refl _), Nat.sub_self]
    rfl
  refine ⟨e1, ix, co2, ?_⟩
  cases hr : spec (.c st.length :: ws') (st ++ [.ins c []]) with
  | none => rw [hr] at h; exact h.elim
  | some rr =>
    rw [hr] at h
    obtain ⟨o, st2⟩ := rr
    cases o with
    | exc c' fs =>
      intro C' d gs H' m' e' c'' z1 z2 z3
      obtain ⟨x1, k2, sub⟩ := (e1.trans e').cut c''
      rw [co.len] at k2
      exact h C' d gs H' m x1 k2 z1 z2 (z3.fewer sub)
    | ok w =>
      intro v H' m' e' c'' rw'
      unfold made at h
      split at h
      · rename_i z
        cases z
        have rv : v = .non := by cases rw'; rfl
        refine ⟨rv, ?_⟩
        split at h
        · rename_i c' fs hcell
          split at h
          · rename_i hcc
            subst hcc
            obtain ⟨C2, dx2, gs, q1, q2, q3⟩ := c''.at_ _ x _ (ext_ix e' ix) hcell
            obtain ⟨x1, k2, sub⟩ := (e1.trans e').cut c''
            rw [co.len] at k2
            exact h (.ref x) H' m x1 k2 (rpd (.obj q1 q2 (co.new_na (.none hx)) (q3.fewer sub)))
          · exact h.elim
        · exact h.elim
      · rename_i z
        cases z
      · exact h.elim
/-- a class whose init takes any number of arguments behind q ones -/
structure ClsR (P : Program) (w : World) (K : PySem.W.Frag) (mg : Str → Option Value) (base : Heap) (k : Nat) (x : Str) (C : Addr) (sp : Sp) : Prop where
  ex : ∃ f : Addr, FnR P w K mg base (L2.CX P w) k f sp ∧ mg x = some (.ref C) ∧ Mk K C f
def eNewR (c : Str) (spec : Spec) (q : Nat) (fa : Ax) : Ex := fun sl st => bnd (fa sl st) fun ws st1 => if q ≤ ws.length then (match pures (ws.drop q) with
  | some rs => if rs.length ≤ lim then made c st1.length (spec (.c st1.length :: (ws.take q ++ [.d (.tup rs)])) (st1 ++ [.ins c []])) else none
  | none => none) else none
theorem run_makeRS {k : Nat} {f C : Addr} {sp : Sp} {pins : List (Addr × Obj)} {σ : L2.St} {H : Hp} {s : Shared} {Q : VK} {us : List Value} {vs : List V} (M : Mk X.K C f) (F : FnR X.prog X.w X.K X.mg X.base (L2.CX X.prog X.w) k f sp) (hr : Room (k + 1) X.A) (tk : Takes X E) (I : Inv X pins σ H s) (r : Vals vs us)
    (h : ∀ x dx, H x = none → H dx = none → dx ≠ x → sp (V.ref x :: vs) (upd (upd H dx (.own x)) x (.ins C dx [])) (fun v H2 => v = .non ∧ Q (.ref x) H2) (WE E σ)) :
    wpAny (model X.prog X.w) X.A (call (.ref C) us) (EP X pins σ Q) X.xe s := by
  have hq := h (s.heap.objs.size + 1) s.heap.objs.size (I.hok.fresh (Nat.le_succ _)) (I.hok.fresh (Nat.le_refl _)) (Nat.ne_of_lt (Nat.lt_succ_self _))
  have I2 := Inv.made (C := C) I
  have r2 : Vals (V.ref (s.heap.objs.size + 1) :: vs) (Value.ref (s.heap.objs.size + 1) :: us) := .cons rfl r
  refine wpAny_call (make_map (f := f) I.kIn M.makes M.init (beq_iff_eq.mp M.fn) (codeAny_mono (F _ X.stack _ _ (Value.ref (s.heap.objs.size + 1) :: us) _ _ (WE E σ) (hr.make C us []) (I2.env0.make C us []) r2 hq) fun r s' hq' => ?_))
  cases r with
  | error e => exact passAt tk σ pins _ _ e s' I2 hq'
  | ok fl =>
    cases fl with
    | ret u =>
      obtain ⟨v, H', I3, rv, ev, q3⟩ := I2.after hq'
      subst ev
      exact ⟨rv, ⟨V.ref (s.heap.objs.size + 1), H', I3, rfl, q3⟩⟩
    | next => exact False.elim hq'
    | brk => exact False.elim hq'
    | cont => exact False.elim hq'
theorem newR_ok {E' : XK} {m : M} {H : Hp} {st : Sto} {ws : List W} {vs : List V} {C : Addr} {Q : VK} (hC : G.mg c = some (.ref C)) (co : CO G m H st) (r : RpWs G m H vs ws) {rs : List D} (hq : q ≤ ws.length) (hp : pures (ws.drop q) = some rs) (hl : rs.length ≤ lim)
    (h : aft G E' (RpW G) m H (made c st.length (spec (.c st.length :: (ws.take q ++ [.d (.tup rs)])) (st ++ [.ins c []]))) Q) (x dx : Addr) (hx : H x = none) (hdx : H dx = none) (ne : dx ≠ x) :
    spR G (q + 1) spec (.ref x :: vs) (upd (upd H dx (.own x)) x (.ins C dx [])) (fun v H2 => v = .non ∧ Q (.ref x) H2) E' := by
  obtain ⟨e1, ix, co2, ha⟩ := made_aft hC co h x dx hx hdx ne
  have ew : ws = ws.take q ++ rs.map W.d := by
    have : ∀ {l : List W} {rs : List D}, pures l = some rs → l = rs.map W.d := by
      intro l
      induction l with
      | nil => intro rs e; cases e; rfl
      | cons w l ih =>
        intro rs e
        cases w with
        | d x =>
          simp only [pures, Option.map_eq_some_iff] at e
          obtain ⟨a, e1, rfl⟩ := e
          rw [ih e1]
          rfl
        | _ => cases e
    have e := this hp
    rw [← e, List.take_append_drop]
  refine ⟨m.add x, .c st.length :: ws.take q, rs, st ++ [.ins c []], ?_, co2, by simp [hq], hl, ?_⟩
  · rw [List.cons_append, ← ew]
    exact .cons ⟨x, ix, rfl⟩ (r.ext co e1)
  · rw [List.cons_append]
    exact ha
theorem newR_im {k : Nat} {C : Addr} {σ : L2.St} {H : Hp} {Q : VK} (hC : G.mg c = some (.ref C)) (h : rE G E (eNewR c spec q fr) σ H Q) : rA G E fr σ H fun vs H1 => ∀ x dx, H1 x = none → H1 dx = none → dx ≠ x → spR G (q + 1) spec (.ref x :: vs) (upd (upd H1 dx (.own x)) x (.ins C dx [])) (fun v H2 => v = .non ∧ Q (.ref x) H2) (WE E σ) := by
  obtain ⟨m, sl, st, hs, hc, h⟩ := h
  refine ⟨m, sl, st, hs, hc, aft_bnd h fun ws st1 vs H1 m1 e1 c1 r1 h1 x dx hx hdx ne => ?_⟩
  split at h1
  · rename_i hq
    split at h1
    · rename_i rs hp
      split at h1
      · rename_i hl
        exact newR_ok hC c1 r1 hq hp hl h1 x dx hx hdx ne
      · exact h1.elim
    · exact h1.elim
  · exact h1.elim
theorem de_newR {k : Nat} {C : Addr} (F : ClsR X.prog X.w X.K X.mg X.base k c C (spR G (q + 1) spec)) (hr : Room (k + 1) X.A) (tk : Takes X E) (gl : Gl X c) (ha : DA G X E (e :: es) fr) (hM : X.mg = G.mg := by rfl) (hdb : (c == ("__debug__" : Str)) = false := by decide)
    (he : starEach (e :: es) X.env = (false, eval e X.env) :: starEach es X.env := by rfl) (hpl : (backTo pos (starEach es X.env)).any (·.1) = false := by rfl) : DE G X E (.Call (.Name c p) (e :: es) [] pos) (eNewR c spec q fr) := by
  obtain ⟨f, F', hm, M⟩ := F.ex
  refine PE.imp (t := fun σ H Q => rA G E fr σ H fun vs H1 => ∀ x dx, H1 x = none → H1 dx = none → dx ≠ x → spR G (q + 1) spec (.ref x :: vs) (upd (upd H1 dx (.own x)) x (.ins C dx [])) (fun v H2 => v = .non ∧ Q (.ref x) H2) (WE E σ)) ⟨fun pins s σ H Q I h => ?_⟩ fun σ H Q h => newR_im (k := k) (by rw [← hM]; exact hm) h
  refine wpAny_Call_Name_kw (ld_glob I gl hm ?_ hdb)
  refine PySem.W.callWith_K (h₀ := X.base) I.ok.mod.kin M.kp (thn (ha.run pos pins s σ H _ I h) fun us s1 ⟨vs, H1, I1, r, q⟩ => ⟨I1.kIn, ?_⟩) he hpl
  exact run_makeRS M F' hr tk I1 r q
/-- C(e, .., *y) -/
theorem de_newRS {k : Nat} {C : Addr} (F : ClsR X.prog X.w X.K X.mg X.base k c C (spR G (q + 1) spec)) (hr : Room (k + 1) X.A) (tk : Takes X E) (gl : Gl X c) (ha : DA G X E (e :: es) fr) (hM : X.mg = G.mg := by rfl) (hdb : (c == ("__debug__" : Str)) = false := by decide)
    (he : starEach (e :: es) X.env = (false, eval e X.env) :: starEach es X.env := by rfl) (hst : (backTo pos (starEach es X.env)).any (·.1) = true := by rfl) : DE G X E (.Call (.Name c p) (e :: es) [] pos) (eNewR c spec q fr) := by
  obtain ⟨f, F', hm, M⟩ := F.ex
  refine PE.imp (t := fun σ H Q => rA G E fr σ H fun vs H1 => ∀ x dx, H1 x = none → H1 dx = none → dx ≠ x → spR G (q + 1) spec (.ref x :: vs) (upd (upd H1 dx (.own x)) x (.ins C dx [])) (fun v H2 => v = .non ∧ Q (.ref x) H2) (WE E σ)) ⟨fun pins s σ H Q I h => ?_⟩ fun σ H Q h => newR_im (k := k) (by rw [← hM]; exact hm) h
  refine wpAny_Call_Name_kw (ld_glob I gl hm ?_ hdb)
  refine PySem.W.callWith_S2 (h₀ := X.base) I.ok.mod.kin M.kp (thn (ha.run pos pins s σ H _ I h) fun us s1 ⟨vs, H1, I1, r, q⟩ => ⟨I1.kIn, ?_⟩) he hst
  exact run_makeRS M F' hr tk I1 r q
end
end Dn
namespace Dn
open PySem PySem.Spec PyProof.Rows L2 Ft LamX StX
section
variable {G : Gx} {X : Cx} {E : WX} {e : Expr} {es : List Expr} {fr : Ax} {pos p : Pos} {c : Str} {spec : Spec} {q k : Nat} {T : List (Addr × Str)}
def gDivmod : List D → Option D
  | [.int i, .int j] => if 0 < j ∧ j < 1073741824 then some (.tup [.int (i / j), .int (i % j)]) else none
  | _ => none
theorem c_divmod : CallP G X (.builtin "divmod") gDivmod := by
  rintro pins s σ H xs us Q I r ⟨m, st, ds, d, co, rs, e, q⟩
  unfold gDivmod at e
  split at e
  · rename_i i j
    split at e
    · rename_i hl
      cases e
      obtain ⟨v, u, rfl, r1, r2⟩ := xs2 rs
      cases r1.int
      cases r2.int
      exact call_divmod pins s σ H _ us Q I r ⟨i, j, rfl, hl, fun p hp => q (.ref p) _ (same_new hp) (rp_tup hp (by show 2 ≤ lim; decide) (.cons (.int _) (.cons (.int _) .nil)))⟩
    · cases e
  · cases e
def HasCRd (P : Program) (w : World) (K : PySem.W.Frag) (mg : Str → Option Value) (base : Heap) (T : List (Addr × Str)) (k : Nat) (c : Str) (spec : Spec) (q : Nat) : Prop := ∃ C, ClsR P w K mg base k c C (spR ⟨K, mg, T⟩ (q + 1) spec)
theorem dx_newR (F : HasCRd X.prog X.w X.K X.mg X.base T k c spec q) (hr : Room (k + 1) X.A) (tk : Takes X E) (gl : Gl X c) (ha : DA ⟨X.K, X.mg, T⟩ X E (e :: es) fr) (hdb : (c == ("__debug__" : Str)) = false := by decide)
    (he : starEach (e :: es) X.env = (false, eval e X.env) :: starEach es X.env := by rfl) (hpl : (backTo pos (starEach es X.env)).any (·.1) = false := by rfl) : DE ⟨X.K, X.mg, T⟩ X E (.Call (.Name c p) (e :: es) [] pos) (eNewR c spec q fr) := by
  obtain ⟨C, F⟩ := F
  exact de_newR F hr tk gl ha rfl hdb he hpl
theorem dx_newRS (F : HasCRd X.prog X.w X.K X.mg X.base T k c spec q) (hr : Room (k + 1) X.A) (tk : Takes X E) (gl : Gl X c) (ha : DA ⟨X.K, X.mg, T⟩ X E (e :: es) fr) (hdb : (c == ("__debug__" : Str)) = false := by decide)
    (he : starEach (e :: es) X.env = (false, eval e X.env) :: starEach es X.env := by rfl) (hst : (backTo pos (starEach es X.env)).any (·.1) = true := by rfl) : DE ⟨X.K, X.mg, T⟩ X E (.Call (.Name c p) (e :: es) [] pos) (eNewR c spec q fr) := by
  obtain ⟨C, F⟩ := F
  exact de_newRS F hr tk gl ha rfl hdb he hst
end
/-! the calculus -/
section
variable {QW : W → Sto → Prop} {QA : List W → Sto → Prop} {X : XP} {sl : Slo} {st : Sto} {fa fb fo fi fe : Ex} {fr : Ax} {N : Slo → Sto → Prop} {En1 : En} {c : Str} {spec : Spec} {q : Nat}
def kLenTx (QW : W → Sto → Prop) (w : W) (st1 : Sto) : Prop := wpo (view st1 w) fun d => wps1 d fun y => (y.cps.all (· < 128) = true ∧ y.cps.toList.Nodup ∧ y.length ≤ 1000) ∧ QW (.d (.int y.length)) st1
theorem kLenTx_ap {w : W} {st1 : Sto} : kLenTx QW w st1 = wpo (view st1 w) fun d => wps1 d fun y => (y.cps.all (· < 128) = true ∧ y.cps.toList.Nodup ∧ y.length ≤ 1000) ∧ QW (.d (.int y.length)) st1 := rfl
theorem wp_lenTx : wp (eLenTx fa sl st) QW X = wp (fa sl st) (kLenTx QW) X := by
  unfold eLenTx
  rw [wp_bnd]
  congr; funext w st1
  unfold kLenTx
  cases view st1 w with
  | none => rfl
  | some d => cases d with
    | str y =>
      simp only [wpo_some, wps1]
      by_cases h : y.cps.all (· < 128) = true ∧ y.cps.toList.Nodup ∧ y.length ≤ 1000
      · rw [if_pos h]; simp only [h, and_self, true_and]; rfl
      · rw [if_neg h]; simp only [h, false_and]; rfl
    | _ => rfl
def kListRg (QW : W → Sto → Prop) (ws : List W) (st1 : Sto) : Prop := wp1 ws fun w => wpd w fun d => wpi d fun n => (-(2 ^ 62) ≤ n ∧ n ≤ 100000) ∧ QW (.d (.lst (rng 0 n.toNat))) st1
theorem kListRg_ap {ws : List W} {st1 : Sto} : kListRg QW ws st1 = wp1 ws fun w => wpd w fun d => wpi d fun n => (-(2 ^ 62) ≤ n ∧ n ≤ 100000) ∧ QW (.d (.lst (rng 0 n.toNat))) st1 := rfl
theorem wp_listRg : wp (eListRg fr sl st) QW X = wp (fr sl st) (kListRg QW) X := by
  unfold eListRg
  rw [wp_bnd]
  congr; funext ws st1
  unfold kListRg
  match ws with
  | [] => rfl
  | [.d d] => cases d with
    | int n =>
      simp only [wp1, wpd, wpi]
      by_cases h : -(2 ^ 62) ≤ n ∧ n ≤ 100000
      · rw [if_pos h]; simp only [h, and_self, true_and]; rfl
      · rw [if_neg h]; simp only [h, false_and]; rfl
    | _ => rfl
  | [.c _] => rfl
  | [.scr _] => rfl
  | [.t _] => rfl
  | a :: _ :: _ => cases a with
    | d d => cases d <;> rfl
    | _ => rfl
def kRevS (QW : W → Sto → Prop) (w : W) (st1 : Sto) : Prop := wpo (view st1 w) fun d => wps1 d fun y => QW (.d (.str (revS y))) st1
theorem kRevS_ap {w : W} {st1 : Sto} : kRevS QW w st1 = wpo (view st1 w) fun d => wps1 d fun y => QW (.d (.str (revS y))) st1 := rfl
theorem wp_revS : wp (eRevS fa sl st) QW X = wp (fa sl st) (kRevS QW) X := by
  unfold eRevS
  rw [wp_bnd]
  congr; funext w st1
  unfold kRevS
  cases view st1 w with
  | none => rfl
  | some d => cases d <;> rfl
def wt2 (ds : List D) (k : D → D → Prop) : Prop := match ds with
  | [a, b] => k a b
  | _ => False
def kAsgIx3 (j : Nat) (x y : D) (wo : W) (sl : Slo) (N : Slo → Sto → Prop) (wi : W) (st3 : Sto) : Prop := wpc wo fun n => wpd wi fun k => wpi k fun k => wpo st3[n]? fun c => wpl c fun ds => wpo (ixN ds.length k) fun jj => N (sl.set j (some (.d y))) (st3.set n (.lst (ds.set jj x)))
def kAsgIx2 (j : Nat) (x y : D) (fi : Ex) (sl : Slo) (N : Slo → Sto → Prop) (E : En) (wo : W) (st2 : Sto) : Prop := wp (fi sl st2) (kAsgIx3 j x y wo sl N) (kX E sl)
def kAsgIx (j : Nat) (fo fi : Ex) (sl : Slo) (N : Slo → Sto → Prop) (E : En) (wv : W) (st1 : Sto) : Prop := wpd wv fun d => wpt d fun ds => wt2 ds fun x y => wp (fo sl st1) (kAsgIx2 j x y fi sl N E) (kX E sl)
theorem kAsgIx3_ap {j : Nat} {x y : D} {wo : W} {wi : W} {st3 : Sto} : kAsgIx3 j x y wo sl N wi st3 = wpc wo fun n => wpd wi fun k => wpi k fun k => wpo st3[n]? fun c => wpl c fun ds => wpo (ixN ds.length k) fun jj => N (sl.set j (some (.d y))) (st3.set n (.lst (ds.set jj x))) := rfl
theorem kAsgIx2_ap {j : Nat} {x y : D} {wo : W} {st2 : Sto} : kAsgIx2 j x y fi sl N En1 wo st2 = wp (fi sl st2) (kAsgIx3 j x y wo sl N) (kX En1 sl) := rfl
theorem kAsgIx_ap {j : Nat} {wv : W} {st1 : Sto} : kAsgIx j fo fi sl N En1 wv st1 = wpd wv fun d => wpt d fun ds => wt2 ds fun x y => wp (fo sl st1) (kAsgIx2 j x y fi sl N En1) (kX En1 sl) := rfl
theorem wps_asgIx {j : Nat} : wps (sAsgIx j fo fi fa sl st) N En1 = wp (fa sl st) (kAsgIx j fo fi sl N En1) (kX En1 sl) := wps_stm' fun wv st1 => by
  unfold kAsgIx
  split
  · rename_i x y
    show wps (stm (fo sl st1) sl _) N En1 = _
    refine wps_stm' fun wo st2 => ?_
    unfold kAsgIx2
    refine wps_stm' fun wi st3 => ?_
    unfold kAsgIx3
    cases wo with
    | c n => cases wi with
      | d k => cases k with
        | int k =>
          simp only [wpc, wpd, wpi]
          cases st3[n]? with
          | none => rfl
          | some c => cases c with
            | lst ds => simp only [wpo_some, wpl]; cases ixN ds.length k <;> rfl
            | ins _ _ => rfl
        | _ => rfl
      | _ => rfl
    | _ => rfl
  · rename_i hn
    cases wv with
    | d d => cases d with
      | tup ds =>
        match ds with
        | [] => rfl
        | [_] => rfl
        | [x, y] => exact absurd rfl (hn x y)
        | _ :: _ :: _ :: _ => rfl
      | _ => rfl
    | _ => rfl
def kTupC (QW : W → Sto → Prop) (ws : List W) (st1 : Sto) : Prop := wpo (itemsW ws) fun l => l.length ≤ lim ∧ QW (.t l) st1
theorem kTupC_ap {ws : List W} {st1 : Sto} : kTupC QW ws st1 = wpo (itemsW ws) fun l => l.length ≤ lim ∧ QW (.t l) st1 := rfl
theorem wp_tupC : wp (eTupC fr sl st) QW X = wp (fr sl st) (kTupC QW) X := by
  unfold eTupC
  rw [wp_bnd]
  congr; funext ws st1
  unfold kTupC
  cases itemsW ws with
  | none => rfl
  | some l =>
    by_cases h : l.length ≤ lim
    · simp only [h, if_true, wpo_some, true_and]; rfl
    · simp only [h, if_false, wpo_some, false_and]; rfl
theorem wp_fin_t {fr : Bool} {n : Nat} {l : List Wi} : wp (fin fr n (.t l) st) QW X = wpo (frzL n st l) fun ds => QW (.d (.tup ds)) (st.take n) := by
  show wp (match frzL n st l with | some ds => some (O.ok (W.d (.tup ds)), st.take n) | none => none) _ _ = _
  cases frzL n st l <;> rfl
theorem itemsW_nil : itemsW [] = some [] := rfl
theorem itemsW_d {d : D} {ws : List W} : itemsW (.d d :: ws) = (itemsW ws).map (Wi.d d :: ·) := by
  show (match some (Wi.d d), itemsW ws with | some x, some xs => some (x :: xs) | _, _ => none) = _
  cases itemsW ws <;> rfl
theorem itemsW_c {n : Nat} {ws : List W} : itemsW (.c n :: ws) = (itemsW ws).map (Wi.c n :: ·) := by
  show (match some (Wi.c n), itemsW ws with | some x, some xs => some (x :: xs) | _, _ => none) = _
  cases itemsW ws <;> rfl
theorem frzL_nil {n : Nat} : frzL n st [] = some [] := rfl
theorem frzL_d {n : Nat} {d : D} {l : List Wi} : frzL n st (.d d :: l) = (frzL n st l).map (d :: ·) := by
  show (match some d, frzL n st l with | some d, some ds => some (d :: ds) | _, _ => none) = _
  cases frzL n st l <;> rfl
def frzC (n i : Nat) (o : Option Cell) : Option D := if i < n then none else match o with
  | some (.lst ds) => some (.lst ds)
  | _ => none
theorem frzC_of {n i : Nat} {ds : List D} (h : ¬ i < n) : frzC n i (some (.lst ds)) = some (.lst ds) := if_neg h
theorem frzL_c {n i : Nat} {l : List Wi} : frzL n st (.c i :: l) = (frzC n i st[i]?).bind fun d => (frzL n st l).map (d :: ·) := by
  show (match frzC n i st[i]?, frzL n st l with | some d, some ds => some (d :: ds) | _, _ => none) = _
  cases frzC n i st[i]? with
  | none => rfl
  | some d => cases frzL n st l <;> rfl
def kInv (c : Str) (spec : Spec) (QW : W → Sto → Prop) (X : XP) (w : W) (st1 : Sto) : Prop := wpo (view st1 w) fun d => wpj d fun c' _ => c' = c ∧ wp (spec [w] st1) QW X
theorem kInv_ap {w : W} {st1 : Sto} : kInv c spec QW X w st1 = wpo (view st1 w) fun d => wpj d fun c' _ => c' = c ∧ wp (spec [w] st1) QW X := rfl
theorem wp_inv : wp (eInv c spec fa sl st) QW X = wp (fa sl st) (kInv c spec QW X) X := by
  unfold eInv
  rw [wp_bnd]
  congr; funext w st1
  unfold kInv
  cases view st1 w with
  | none => rfl
  | some d => cases d with
    | obj c' gs =>
      simp only [wpo_some, wpj]
      by_cases h : c' = c
      · simp only [h, if_true, true_and]
      · simp only [h, if_false, false_and]; rfl
    | _ => rfl
def kStar2 (ds : List D) (QA : List W → Sto → Prop) (ws : List W) (st2 : Sto) : Prop := QA (ds.map W.d ++ ws) st2
def kStar (fr : Ax) (sl : Slo) (QA : List W → Sto → Prop) (X : XP) (w : W) (st1 : Sto) : Prop := wpo (view st1 w) fun d => wpt d fun ds => wp (fr sl st1) (kStar2 ds QA) X
theorem kStar2_ap {ds : List D} {ws : List W} {st2 : Sto} : kStar2 ds QA ws st2 = QA (ds.map W.d ++ ws) st2 := rfl
theorem kStar_ap {w : W} {st1 : Sto} : kStar fr sl QA X w st1 = wpo (view st1 w) fun d => wpt d fun ds => wp (fr sl st1) (kStar2 ds QA) X := rfl
theorem wp_star : wp (aStar fe fr sl st) QA X = wp (fe sl st) (kStar fr sl QA X) X := by
  unfold aStar
  rw [wp_bnd]
  congr; funext w st1
  unfold kStar
  cases view st1 w with
  | none => rfl
  | some d => cases d with
    | tup ds => simp only [wpo_some, wpt, wp_bnd, wp_ok]; rfl
    | _ => rfl
def kNewR (c : Str) (spec : Spec) (q : Nat) (QW : W → Sto → Prop) (X : XP) (ws : List W) (st1 : Sto) : Prop := q ≤ ws.length ∧ wpo (pures (ws.drop q)) fun rs => rs.length ≤ lim ∧ wp (made c st1.length (spec (.c st1.length :: (ws.take q ++ [.d (.tup rs)])) (st1 ++ [.ins c []]))) QW X
theorem kNewR_ap {ws : List W} {st1 : Sto} : kNewR c spec q QW X ws st1 = (q ≤ ws.length ∧ wpo (pures (ws.drop q)) fun rs => rs.length ≤ lim ∧ wp (made c st1.length (spec (.c st1.length :: (ws.take q ++ [.d (.tup rs)])) (st1 ++ [.ins c []]))) QW X) := rfl
theorem wp_newR : wp (eNewR c spec q fr sl st) QW X = wp (fr sl st) (kNewR c spec q QW X) X := by
  unfold eNewR
  rw [wp_bnd]
  congr; funext ws st1
  unfold kNewR
  by_cases h : q ≤ ws.length
  · rw [if_pos h]
    simp only [h, true_and]
    cases pures (ws.drop q) with
    | none => rfl
    | some rs =>
      by_cases hl : rs.length ≤ lim
      · simp only [hl, if_true, wpo_some, true_and]
      · simp only [hl, if_false, wpo_some, false_and]; rfl
  · rw [if_neg h]; simp only [h, false_and]; rfl
theorem pures_map {ds : List D} : pures (ds.map W.d) = some ds := by
  induction ds with
  | nil => rfl
  | cons d ds ih => simp only [List.map_cons, pures, ih, Option.map_some]
theorem gDivmod_ii {i j : Int} : gDivmod [.int i, .int j] = if 0 < j ∧ j < 1073741824 then some (.tup [.int (i / j), .int (i % j)]) else none := rfl
theorem gSorted_t {ds : List D} : gSorted [.tup ds] = (intsD ds).bind fun ns => if ns.length < 64 then some (.lst ((sortI ns).map D.int)) else none := rfl
theorem intsD_map {ns : List Int} : intsD (ns.map D.int) = some ns := by
  induction ns with
  | nil => rfl
  | cons n ns ih => simp only [List.map_cons, intsD, ih, Option.map_some]
end
end Dn

/-! x != y where the class has an own == and object's != -/
namespace Ft
open PySem PySem.Spec PyProof.Rows PySem.SeqAt PySem.W
section
variable {prog : Program} {w : World} {A : Around} {E : Value → Shared → Prop} {s : Shared} {K : PySem.W.Frag} {x C L f : Addr} {ox : Obj} {od : Option Obj} {b tb : Value} {h₀ : Heap} {m : Str → Option Value}
theorem ifBound_ne {M : Model} {args : List Value} {Q : Option Value → Shared → Prop} (X : K.In s.heap) (I : PySem.W.InstAt s.heap x ox C od) (hs : PySem.W.findIn K (.ref C) "__ne__" = some (some (.builtin "object.__ne__")))
    (h : wpAny M A (call (.builtin "object.__ne__") (.ref x :: args)) (fun v => Q (some v)) E s) : wpAny M A (callSpecialIfBound? (.ref x) "__ne__" args) Q E s := by
  simp only [callSpecialIfBound?, bindSpecialIfBound?]
  refine wpAny_holding (wpAny_bind (wpAny_bind (wpAny_bind (I.type.here ((PySem.W.looks_findIn X hs).here ?_)))))
  refine wpAny_bind (wpAny_askSetting (wpAny_ite ?_))
  have fin : wpAny M A (call (.builtin "object.__ne__") ([.ref x] ++ args) >>= fun v => pure (some v)) Q E s := wpAny_bind (wpAny_mono h (fun v s' h' => wpAny_pure h') fun _ _ h' => h')
  split
  · exact wpAny_bind (wpAny_of_eq (F.cmp_object.ne.bind _) (wpAny_pure (by exact fin)))
  · exact wpAny_tryCatch (wpAny_bind (wpAny_of_eq (F.cmp_object.ne.bind _) (wpAny_pure (by exact fin))))
theorem entry_ne {Q : Fin → Shared → Prop} (hu : A.units < cLine) (X : K.In s.heap) (I : PySem.W.InstAt s.heap x ox C od) (hs : PySem.W.findIn K (.ref C) "__eq__" = some (some (.ref f))) (hf : PySem.W.isFn K (.ref f) = true)
    (h : wpAny (model prog w) A (call (.ref f) [.ref x, b]) (fun v s' => ∃ c, v = .bool c ∧ Q (.done (.ret (.bool (!c)))) s') E s) : wpAny (model prog w) A (Builtin.«object.__ne__» ⟨[.ref x, b], []⟩) Q E s := by
  unfold Builtin.«object.__ne__»
  repeat (first
    | with_reducible refine wpAny_cRoomFor hu ?_
    | (refine wpAny_bind (m := callSpecialIfBound? (.ref x) (Str.ofString "__eq__") [b])
        (PySem.W.ifBound_K X I hs hf (wpAny_mono h (fun r s' hr => by
          obtain ⟨c, rfl, hq⟩ := hr
          repeat (first | exact hq | exact wpAny_pure hq | exact wpAny_truthy_bool hq | (refine wpAny_bind (m := truthy (.bool _)) (wpAny_truthy_bool ?_)) | wp_step)) fun _ _ e => e)))
    | wp_step)
theorem call_ne {Q : Value → Shared → Prop} (hu : A.units + 1 < cLine) (X : K.In s.heap) (I : PySem.W.InstAt s.heap x ox C od) (hm : PySem.W.mroIn K C (.type "object") = some true) (hs : PySem.W.findIn K (.ref C) "__eq__" = some (some (.ref f))) (hf : PySem.W.isFn K (.ref f) = true)
    (h : wpAny (model prog w) A.in1 (call (.ref f) [.ref x, b]) (fun v s' => ∃ c, v = .bool c ∧ Q (.bool (!c)) s') E s) : wpAny (model prog w) A (call (.builtin "object.__ne__") [.ref x, b]) Q E s :=
  wpAny_call (codeAny_call_builtin F.cmp_object.ne.plain F.cmpEntry_ne (PySem.W.check_slot F.cmpKind_ne F.cmpSplit_ne (I.type.andThen (PySem.W.looks_mroIn X hm)) (F.cmpArgs_ne _ _) (entry_ne (A := A.in1) hu X I hs hf h)))
theorem ne_K {Q : Value → Shared → Prop} (hu : A.units + 1 < cLine) (Fh : Fr h₀ L s.heap m) (X₀ : K.In h₀) (I : PySem.W.InstAt s.heap x ox C od) (hb : Looks (model prog w) s.heap (typeOf b) tb) (hn : notFirst K C tb = true)
    (hsn : PySem.W.findIn K (.ref C) "__ne__" = some (some (.builtin "object.__ne__"))) (hm : PySem.W.mroIn K C (.type "object") = some true) (hs : PySem.W.findIn K (.ref C) "__eq__" = some (some (.ref f))) (hf : PySem.W.isFn K (.ref f) = true)
    (h : wpAny (model prog w) A.in1 (call (.ref f) [.ref x, b]) (fun v s' => ∃ c, v = .bool c ∧ Q (.bool (!c)) s') E s) : wpAny (model prog w) A (richCompare .NotEq (.ref x) b) Q E s := by
  have X := X₀.keeps Fh.keep
  have one : wpAny (model prog w) A (tryCompare (.ref x) (cmpInfo .NotEq).2.1 b) (fun r s' => ∃ v, r = some v ∧ Q v s') E s := by
    rw [cmpInfo_NotEq]
    unfold tryCompare
    refine wpAny_bind (ifBound_ne X I hsn (call_ne hu X I hm hs hf (wpAny_mono h (fun v s' hv => ?_) fun _ _ e => e)))
    obtain ⟨c, rfl, q⟩ := hv
    exact ⟨c, rfl, wpAny_pure ⟨_, rfl, q⟩⟩
  unfold richCompare
  simp only [oneThing_ref]
  refine wpAny_holding (wpAny_bind (wpAny_cRoomFor (Nat.lt_of_succ_lt hu) ?_))
  refine wpAny_bind (I.type.here (wpAny_bind (hb.here ?_)))
  split
  · rename_i q
    have e : subIn K tb (.ref C) = some false := by
      rcases Bool.or_eq_true_iff.mp hn with e | e
      · rw [beq_iff_eq.mp e] at q; simp at q
      · exact beq_iff_eq.mp e
    refine wpAny_bind ((looks_subIn X e).here ?_)
    simp only [Bool.false_eq_true, if_false]
    refine wpAny_bind (wpAny_mono one (fun r s' z => ?_) fun _ _ e => e)
    obtain ⟨v, rfl, hq⟩ := z
    exact wpAny_pure hq
  · refine wpAny_bind (wpAny_pure ?_)
    simp only [Bool.false_eq_true, if_false]
    refine wpAny_bind (wpAny_mono one (fun r s' z => ?_) fun _ _ e => e)
    obtain ⟨v, rfl, hq⟩ := z
    exact wpAny_pure hq
end
end Ft

/-! == and != by an own __eq__, the left operand an own instance; isinstance of an own class. -/
namespace Dn
open PySem PySem.Spec PyProof.Rows L2 Ft LamX StX
section
variable {G : Gx} {X : Cx} {E : WX} {a b o : Expr} {fa fb fo : Ex} {pos : Pos} {k : Nat} {c : Str}
/-- what != and isinstance ask of an own class -/
structure EqFacts (K : PySem.W.Frag) (C : Addr) : Prop where
  ne : PySem.W.findIn K (.ref C) "__ne__" = some (some (.builtin "object.__ne__"))
  mro : PySem.W.mroIn K C (.type "object") = some true
def EqTypes (K : PySem.W.Frag) (C : Addr) : Prop := ∀ t ∈ (["NoneType", "bool", "int", "str", "tuple", "list", "dict"] : List String), PySem.W.notFirst K C (.type t) = true
theorem eqTypes (K : PySem.W.Frag) (C : Addr) : EqTypes K C := by
  intro t ht
  have h : ∃ ms : List String, fastBuiltinMro t = some (ms.map Value.type) := by
    simp only [List.mem_cons, List.not_mem_nil, or_false] at ht
    rcases ht with rfl | rfl | rfl | rfl | rfl | rfl | rfl
    · exact ⟨["NoneType", "object"], by decide +kernel⟩
    · exact ⟨["bool", "int", "object"], by decide +kernel⟩
    · exact ⟨["int", "object"], by decide +kernel⟩
    · exact ⟨["str", "object"], by decide +kernel⟩
    · exact ⟨["tuple", "object"], by decide +kernel⟩
    · exact ⟨["list", "object"], by decide +kernel⟩
    · exact ⟨["dict", "object"], by decide +kernel⟩
  obtain ⟨ms, e⟩ := h
  have e2 : PySem.W.subIn K (.type t) (.ref C) = some false := by
    show (fastBuiltinMro t).map (·.contains (.ref C)) = some false
    rw [e]
    have : (ms.map Value.type).contains (.ref C) = false := by
      clear e
      induction ms with
      | nil => rfl
      | cons m ms ih => rw [List.map_cons, List.contains_cons, ih]; rfl
    show some ((ms.map Value.type).contains (.ref C)) = _
    rw [this]
  show (_ || _) = true
  rw [e2]
  simp
/-- the right operand: a value of a built-in type, or an instance of the same class -/
def Right (G : Gx) (C : Addr) (K : PySem.W.Frag) (H : Hp) (y : V) : Prop := (∃ t : String, t ∈ (["NoneType", "bool", "int", "str", "tuple", "list", "dict"] : List String) ∧ TyX K H y (.type t)) ∨ ∃ b dx fs, y = .ref b ∧ H b = some (.ins C dx fs)
theorem right_looks {pins : List (Addr × Obj)} {σ : L2.St} {H : Hp} {s : Shared} {C : Addr} {y : V} {u : Value} (I : Inv X pins σ H s) (ry : RelV y u) (h : Right G C X.K H y) :
    ∃ tb, PySem.W.Looks (model X.prog X.w) s.heap (typeOf u) tb ∧ PySem.W.notFirst X.K C tb = true := by
  rcases h with ⟨t, ht, ty⟩ | ⟨b, dx, fs, rfl, hb⟩
  · obtain ⟨P, Z, p, _⟩ := kit_of I ry ty
    exact ⟨_, Z.ty _ _ I.kIn p, eqTypes _ _ t ht⟩
  · cases ry
    obtain ⟨mB, J, _⟩ := ins_get I.hok hb
    obtain ⟨od, J, _⟩ := J.look
    exact ⟨_, J.type, by simp [PySem.W.notFirst]⟩
theorem rcO {pins : List (Addr × Obj)} {σ : L2.St} {H : Hp} {s : Shared} {C f x : Addr} {fd : FuncData} {ps : List Str} {sp : Sp} {dx : Addr} {fs : List (Str × V)} {y : V} {u : Value} {Q : VK}
    (F : FnOk X.prog X.w X.K X.mg X.base (L2.CX X.prog X.w) k f fd ps sp) (hm : Meth X.K C "__eq__" f) (hb : Binds X.K fd ps []) (B : EqFacts X.K C) (hr : Room (k + 1) X.A) (tk : Takes X E) (neg : Bool)
    (I : Inv X pins σ H s) (ex : H x = some (.ins C dx fs)) (ry : RelV y u) (hy : Right G C X.K H y) (q : sp [.ref x, y] H (fun v H' => ∃ b, v = .bl b ∧ Q (.bl (b != neg)) H') (WE E σ)) :
    wpAny (model X.prog X.w) X.A (compareOp (if neg = true then .NotEq else .Eq) (.ref x) u) (EP X pins σ Q) X.xe s := by
  obtain ⟨tb, hl, hn⟩ := right_looks I ry hy
  obtain ⟨mA, J, _⟩ := ins_get I.hok ex
  obtain ⟨od, J, _⟩ := J.look
  obtain ⟨mm, hF⟩ := I.fr
  have r2 : Vals [V.ref x, y] [Value.ref x, u] := .cons rfl (.cons ry .nil)
  have hlen : ([Value.ref x, u]).length = ps.length := (Vals.length r2).symm.trans (F.len _ _ _ _ q)
  have bt := hb s [Value.ref x, u] I.kIn (by rw [List.append_nil]; exact hlen)
  rw [List.append_nil] at bt
  cases neg with
  | false =>
    refine PySem.W.cmp_K (op := .Eq) hr.units0 hF I.ok.mod.kin J hl hn hm.at_ hm.fn ?_
    refine wpAny_mono (run_oS (args := ⟨[.ref x, u], []⟩) F (hr.mono (Nat.le_succ _)) tk I bt r2 q) (fun v s' h => ?_) fun _ _ e => e
    obtain ⟨z, H', I', rz, b, rfl, q⟩ := h
    cases rz
    exact ⟨.bl b, H', I', rfl, by simpa using q⟩
  | true =>
    have e0 : Env0 X.prog X.w X.K X.mg X.base X.A.in1 X.stack s H := by
      have e := I.env0
      exact ⟨e.frames, e.mod, e.bs, e.bsz, e.funs, e.frf, e.hok, e.bare⟩
    refine Ft.ne_K hr.in1.units0 hF I.ok.mod.kin J hl hn B.ne B.mro hm.at_ hm.fn ?_
    refine wpAny_call (codeAny_mono (F.run X.A.in1 X.stack s H ⟨[.ref x, u], []⟩ [.ref x, u] [.ref x, y] _ (WE E σ) hr.in1 e0 bt r2 q) fun res s2 q => ?_)
    match res, q with
    | .ok (.ret v), q =>
      obtain ⟨z, H', I', rz, b, rfl, q3⟩ := I.after q
      cases rz
      exact ⟨b, rfl, .bl !b, H', I', rfl, by simpa using q3⟩
    | .ok .next, q => exact False.elim q
    | .ok .brk, q => exact False.elim q
    | .ok .cont, q => exact False.elim q
    | .error e, q => exact passAt tk σ pins H s e s2 I q
end
end Dn
namespace Dn
open PySem PySem.Spec PyProof.Rows L2 Ft LamX StX
section
variable {G : Gx} {X : Cx} {E : WX} {a b o : Expr} {fa fb fo : Ex} {pos : Pos} {k : Nat} {c : Str}
def okR (c : Str) : D → Bool
  | .obj c2 _ => decide (c2 = c)
  | _ => true
def cmpO (c : Str) (spec : Spec) (neg : Bool) (g : D → D → Option D) (w1 w2 : W) (st : Sto) : R W := match view st w1, view st w2 with
  | some (.obj c' gs), some d2 => if c' = c ∧ okR c d2 = true then bnd (spec [w1, w2] st) fun w st3 => match w with
    | .d (.bl b) => some (.ok (.d (.bl (b != neg))), st3)
    | _ => none
    else none
  | some d1, some d2 => pr st (g d1 d2)
  | _, _ => none
/-- a == b or a != b, a an own instance or data -/
def eCmpO (c : Str) (spec : Spec) (neg : Bool) (g : D → D → Option D) (fa fb : Ex) : Ex := fun sl st => bnd (fa sl st) fun w1 st1 => bnd (fb sl st1) fun w2 st2 => cmpO c spec neg g w1 w2 st2
def tCmpO (c : Str) (spec : Spec) (neg : Bool) (g : D → D → Option D) (fa fb : Ex) : Tx := fun sl st => bnd (eCmpO c spec neg g fa fb sl st) fun w st1 => match w with
  | .d (.bl k) => some (.ok k, st1)
  | _ => none
/-- its reading -/
def rCmpO (G : Gx) (K : PySem.W.Frag) (C : Addr) (n : Nat) (spec : Spec) (neg : Bool) (g : D → D → Option D) (E : XK) (x y : V) (H : Hp) (Q : VK) : Prop :=
  (∃ a dx fs, x = .ref a ∧ H a = some (.ins C dx fs) ∧ Right G C K H y ∧ spD G n spec [x, y] H (fun v H' => ∃ b, v = .bl b ∧ Q (.bl (b != neg)) H') E) ∨
  (∃ m st d1 d2 d, CO G m H st ∧ RpX G m H x d1 ∧ RpX G m H y d2 ∧ g d1 d2 = some d ∧ Gives G m H d Q)
theorem right_of {m : M} {H : Hp} {y : V} {d2 : D} {C : Addr} (hC : G.mg c = some (.ref C)) (r : RpX G m H y d2) (h : okR c d2 = true) : Right G C G.K H y := by
  cases d2 with
  | obj c2 fs =>
    obtain ⟨a, C', dx, fs, rfl, hC', ha, _⟩ := r.obj
    have e : c2 = c := of_decide_eq_true h
    subst e
    have : C' = C := by simpa using hC'.symm.trans hC
    subst this
    exact .inr ⟨a, dx, fs, rfl, ha⟩
  | non => exact .inl ⟨"NoneType", by decide, tyX_ok r nofun⟩
  | bl _ => exact .inl ⟨"bool", by decide, tyX_ok r nofun⟩
  | int _ => exact .inl ⟨"int", by decide, tyX_ok r nofun⟩
  | str _ => exact .inl ⟨"str", by decide, tyX_ok r nofun⟩
  | tup _ => exact .inl ⟨"tuple", by decide, tyX_ok r nofun⟩
  | lst _ => exact .inl ⟨"list", by decide, tyX_ok r nofun⟩
  | emp => exact .inl ⟨"dict", by decide, tyX_ok r nofun⟩
theorem cmpO_ok {neg : Bool} {g : D → D → Option D} {spec : Spec} {n : Nat} {C : Addr} {m : M} {H : Hp} {st : Sto} {x y : V} {w1 w2 : W} {Q : VK} {E' : XK} (hC : G.mg c = some (.ref C)) (hn : ∀ ws st r, spec ws st = some r → ws.length = n)
    (hc : CO G m H st) (r1 : RpW G m H x w1) (r2 : RpW G m H y w2) (h : aft G E' (RpW G) m H (cmpO c spec neg g w1 w2 st) Q) : rCmpO G G.K C n spec neg g E' x y H Q := by
  unfold cmpO at h
  split at h
  · rename_i c' gs d2 h1 h2
    split at h
    · rename_i z
      obtain ⟨z1, z2⟩ := z
      subst z1
      obtain ⟨a, C', dx, fs, rfl, hC', ha, _⟩ := (view_ok hc r1 h1).obj
      have : C' = C := by simpa using hC'.symm.trans hC
      subst this
      refine .inl ⟨a, dx, fs, rfl, ha, right_of hC (view_ok hc r2 h2) z2, m, [w1, w2], st, .cons r1 (.cons r2 .nil), hc, ?_, aft_bnd h fun w3 st3 v H3 m3 e3 c3 r3 h3 => ?_⟩
      · cases hs' : spec [w1, w2] st with
        | none => rw [hs'] at h; exact h.elim
        | some r => exact hn _ _ _ hs'
      · split at h3
        · rename_i k
          exact ⟨k, rp_bl r3, aft_ok h3 c3 (.bl _)⟩
        · exact h3.elim
    · exact h.elim
  · rename_i d1 d2 _ h1 h2
    obtain ⟨d, e, q⟩ := aft_pr hc h
    exact .inr ⟨m, st, d1, d2, d, hc, view_ok hc r1 h1, view_ok hc r2 h2, e, q⟩
  · exact h.elim
variable {n : Nat} {C : Addr} {spec : Spec} {neg : Bool} {g : D → D → Option D}
theorem rcmpO_run {pins : List (Addr × Obj)} {σ : L2.St} {H : Hp} {s : Shared} {x y : V} {u v : Value} {Q : VK} {f : Addr} {fd : FuncData} {ps : List Str}
    (F : FnOk X.prog X.w X.K X.mg X.base (L2.CX X.prog X.w) k f fd ps (spD G ps.length spec)) (hm : Meth X.K C "__eq__" f) (hb : Binds X.K fd ps []) (B : EqFacts X.K C) (hr : Room (k + 1) X.A) (tk : Takes X E)
    (hK : X.K = G.K) (ho : OpP G X (compareOp (if neg = true then .NotEq else .Eq)) g) (I : Inv X pins σ H s) (rx : RelV x v) (ry : RelV y u) (h : rCmpO G G.K C ps.length spec neg g (WE E σ) x y H Q) :
    wpAny (model X.prog X.w) X.A (compareOp (if neg = true then .NotEq else .Eq) v u) (EP X pins σ Q) X.xe s := by
  rcases h with ⟨a, dx, fs, rfl, ex, hy, q⟩ | h
  · obtain rfl : v = Value.ref a := rx
    exact rcO F hm hb B hr tk neg I ex ry (hK ▸ hy) q
  · exact ho pins s σ H x y v u Q I rx ry h
theorem dx_cmpO {T : List (Addr × Str)} {ps : List Str} {op : CmpOp} (F : HasMd X.prog X.w X.K X.mg X.base T k c "__eq__" ps spec) (B : ∀ C, X.mg c = some (.ref C) → EqFacts X.K C) (hop : op = if neg = true then .NotEq else .Eq)
    (ho : OpP ⟨X.K, X.mg, T⟩ X (compareOp op) g) (ha : DE ⟨X.K, X.mg, T⟩ X E a fa) (hb' : DE ⟨X.K, X.mg, T⟩ X E b fb) (hr : Room (k + 1) X.A) (tk : Takes X E) (hn : ∀ ws st r, spec ws st = some r → ws.length = ps.length) (hm' : behindInMarks op b = false) :
    DE ⟨X.K, X.mg, T⟩ X E (.Compare a [op] [b] pos) (eCmpO c spec neg g fa fb) := by
  subst hop
  obtain ⟨C, hC, F⟩ := F
  obtain ⟨f, fd, F', hm, hb⟩ := F.ex
  refine PE.imp (t := fun σ H Q => rE ⟨X.K, X.mg, T⟩ E fa σ H fun x H1 => rE ⟨X.K, X.mg, T⟩ E fb σ H1 fun y H2 => rCmpO ⟨X.K, X.mg, T⟩ X.K C ps.length spec neg g (WE E σ) x y H2 Q) ⟨fun pins s σ H Q I h => ?_⟩ fun σ H Q h => ?_
  · refine wpAny_Compare1 (thn (ha.run pins s σ H _ I h) fun v s1 ⟨x, H1, I1, r1, q1⟩ => thn (hb'.run pins s1 σ H1 _ I1 q1) fun u s2 ⟨y, H2, I2, r2, q2⟩ => ?_) hm'
    exact rcmpO_run F' hm hb (B C hC) hr tk rfl ho I2 r1 r2 q2
  · obtain ⟨m, sl, st, hs, hc, h⟩ := h
    exact ⟨m, sl, st, hs, hc, aft_bnd h fun w1 st1 x H1 m1 e1 c1 r1 h1 => ⟨m1, sl, st1, hs.ext hc e1, c1, aft_bnd h1 fun w2 st2 y H2 m2 e2 c2 r2 h2 => cmpO_ok hC hn c2 (RpW.ext c1 e2 r1) r2 h2⟩⟩
theorem dt_cmpO {T : List (Addr × Str)} {ps : List Str} {op : CmpOp} (F : HasMd X.prog X.w X.K X.mg X.base T k c "__eq__" ps spec) (B : ∀ C, X.mg c = some (.ref C) → EqFacts X.K C) (hop : op = if neg = true then .NotEq else .Eq)
    (ho : OpP ⟨X.K, X.mg, T⟩ X (compareOp op) g) (ha : DE ⟨X.K, X.mg, T⟩ X E a fa) (hb' : DE ⟨X.K, X.mg, T⟩ X E b fb) (hr : Room (k + 1) X.A) (tk : Takes X E) (hn : ∀ ws st r, spec ws st = some r → ws.length = ps.length) (hm' : behindInMarks op b = false) :
    DT ⟨X.K, X.mg, T⟩ X E (.Compare a [op] [b] pos) (tCmpO c spec neg g fa fb) := by
  subst hop
  obtain ⟨C, hC, F⟩ := F
  obtain ⟨f, fd, F', hm, hb⟩ := F.ex
  refine PT.imp (t := fun σ H Q => rE ⟨X.K, X.mg, T⟩ E fa σ H fun x H1 => rE ⟨X.K, X.mg, T⟩ E fb σ H1 fun y H2 => rCmpO ⟨X.K, X.mg, T⟩ X.K C ps.length spec neg g (WE E σ) x y H2 fun z H3 => ∃ k, z = .bl k ∧ Q k H3) ⟨fun pins s σ H Q I h => ?_⟩ fun σ H Q h => ?_
  · refine wpAny_isTrue_Compare1 (thn (ha.run pins s σ H _ I h) fun v s1 ⟨x, H1, I1, r1, q1⟩ => thn (hb'.run pins s1 σ H1 _ I1 q1) fun u s2 ⟨y, H2, I2, r2, q2⟩ => thn (rcmpO_run F' hm hb (B C hC) hr tk rfl ho I2 r1 r2 q2) fun c s3 ⟨z, H3, I3, r3, k, e, q3⟩ => ?_) hm'
    subst e
    cases r3
    exact wpAny_truthy_bool ⟨H3, I3, q3⟩
  · obtain ⟨m, sl, st, hs, hc, h⟩ := h
    have h : aft ⟨X.K, X.mg, T⟩ (WE E σ) (RpW ⟨X.K, X.mg, T⟩) m H (eCmpO c spec neg g fa fb sl st) fun z H3 => ∃ k, z = .bl k ∧ Q k H3 := aft_bnd h fun w st1 x H1 m1 e1 c1 r1 h1 => by
      split at h1
      · rename_i k
        exact ⟨k, rp_bl r1, aft_ok h1 c1 rfl⟩
      · exact h1.elim
    exact ⟨m, sl, st, hs, hc, aft_bnd h fun w1 st1 x H1 m1 e1 c1 r1 h1 => ⟨m1, sl, st1, hs.ext hc e1, c1, aft_bnd h1 fun w2 st2 y H2 m2 e2 c2 r2 h2 => cmpO_ok hC hn c2 (RpW.ext c1 e2 r1) r2 h2⟩⟩
/-! ### isinstance(e, C), C an own class -/
structure IsFacts (K : PySem.W.Frag) (C : Addr) : Prop where
  cls : Cls K C
  at_ : PySem.W.findIn K (.ref C) "__class__" = some (some (.builtin "object.__class__"))
  get : PySem.W.specialIn K (.builtin "object.__class__") "__get__" = some (some (.builtin "getset_descriptor.__get__"))
  tks : PySem.W.takesIn K (.builtin "object.__class__") = some true
  mro : PySem.W.mroIn K C (.type "object") = some true
  slf : PySem.W.kitOne K (.ref C) (.ref C) = some true
  blt : ∀ t ∈ (["NoneType", "bool", "int", "str", "tuple", "list", "dict"] : List String), PySem.W.kitOne K (.type t) (.ref C) = some false
def gIsO (c : Str) : D → Option D
  | .obj c' _ => if c' = c then some (.bl true) else none
  | _ => some (.bl false)
theorem de_isO {T : List (Addr × Str)} {x : Str} {e : Expr} {fe : Ex} {p p2 : Pos} (B : ∃ C, X.mg x = some (.ref C) ∧ IsFacts X.K C) (he : DE ⟨X.K, X.mg, T⟩ X E e fe) (gi : Gl X "isinstance") (mi : X.mg "isinstance" = none) (gt : Gl X x)
    (hd : (x == ("__debug__" : Str)) = false := by decide)
    (h1 : starEach (e :: [.Name x p2]) X.env = (false, eval e X.env) :: starEach [.Name x p2] X.env := by rfl) (h2 : starEach [.Name x p2] X.env = (false, eval (.Name x p2) X.env) :: starEach [] X.env := by rfl) (hpl : (backTo pos (starEach [.Name x p2] X.env)).any (·.1) = false := by rfl) :
    DE ⟨X.K, X.mg, T⟩ X E (.Call (.Name "isinstance" p) [e, .Name x p2] [] pos) (eUn (gIsO x) fe) := by
  obtain ⟨C, hC, B⟩ := B
  refine PE.imp (pe_callB call_isi gi mi bt_isinstance (pa_cons he (pa_cons (pe_glob (v := .ref C) gt hC rfl hd) pa_nil h2) h1) (by decide) (by decide) h1 hpl) ?_
  rintro σ H Q ⟨m, sl, st, hs, hc, h⟩
  refine ⟨m, sl, st, hs, hc, aft_bnd h fun w st1 v H1 m1 e1 c1 r1 h1 => ?_⟩
  unfold lift1 at h1
  split at h1
  · rename_i d hd
    obtain ⟨d', e2, q⟩ := aft_pr c1 h1
    have rx := view_ok c1 r1 hd
    cases d with
    | obj c' gs =>
      unfold gIsO at e2
      simp only at e2
      split at e2
      · rename_i z
        subst z
        cases e2
        obtain ⟨a, C', dx, fs, rfl, hC', ha, _⟩ := rx.obj
        have : C' = C := by simpa using hC'.symm.trans hC
        subst this
        exact ⟨.ref a, .ref C', .ref C', .ref C', true, rfl, .own C', .base (.ins ha B.cls B.at_ B.get B.tks B.mro), B.slf, gv q (.bl true)⟩
      · cases e2
    | non => cases e2; exact ⟨v, .ref C, .type "NoneType", .ref C, false, rfl, .own C, tyX_ok rx nofun, B.blt _ (by decide), gv q (.bl false)⟩
    | bl _ => cases e2; exact ⟨v, .ref C, .type "bool", .ref C, false, rfl, .own C, tyX_ok rx nofun, B.blt _ (by decide), gv q (.bl false)⟩
    | int _ => cases e2; exact ⟨v, .ref C, .type "int", .ref C, false, rfl, .own C, tyX_ok rx nofun, B.blt _ (by decide), gv q (.bl false)⟩
    | str _ => cases e2; exact ⟨v, .ref C, .type "str", .ref C, false, rfl, .own C, tyX_ok rx nofun, B.blt _ (by decide), gv q (.bl false)⟩
    | tup _ => cases e2; exact ⟨v, .ref C, .type "tuple", .ref C, false, rfl, .own C, tyX_ok rx nofun, B.blt _ (by decide), gv q (.bl false)⟩
    | lst _ => cases e2; exact ⟨v, .ref C, .type "list", .ref C, false, rfl, .own C, tyX_ok rx nofun, B.blt _ (by decide), gv q (.bl false)⟩
    | emp => cases e2; exact ⟨v, .ref C, .type "dict", .ref C, false, rfl, .own C, tyX_ok rx nofun, B.blt _ (by decide), gv q (.bl false)⟩
  · exact h1.elim
end
end Dn
namespace Dn
open PySem PySem.Spec PyProof.Rows L2 Ft LamX StX
section
variable {c : Str} {spec : Spec} {neg : Bool} {g : D → D → Option D} {fa fb : Ex} {sl : Slo} {st : Sto} {QW : W → Sto → Prop} {QB : Bool → Sto → Prop} {X : XP}
def kCmpO3 (neg : Bool) (QW : W → Sto → Prop) (w : W) (st3 : Sto) : Prop := wpd w fun d => wpb d fun b => QW (.d (.bl (b != neg))) st3
def wpCmpO (c : Str) (spec : Spec) (neg : Bool) (g : D → D → Option D) (w1 w2 : W) (QW : W → Sto → Prop) (X : XP) (st2 : Sto) (d1 d2 : D) : Prop := match d1 with
  | .obj c' _ => (c' = c ∧ okR c d2 = true) ∧ wp (spec [w1, w2] st2) (kCmpO3 neg QW) X
  | d1 => wpo (g d1 d2) fun d => QW (.d d) st2
def kCmpO2 (c : Str) (spec : Spec) (neg : Bool) (g : D → D → Option D) (QW : W → Sto → Prop) (X : XP) (w1 w2 : W) (st2 : Sto) : Prop := wpo (view st2 w1) fun d1 => wpo (view st2 w2) fun d2 => wpCmpO c spec neg g w1 w2 QW X st2 d1 d2
def kCmpO1 (c : Str) (spec : Spec) (neg : Bool) (g : D → D → Option D) (fb : Ex) (sl : Slo) (QW : W → Sto → Prop) (X : XP) (w1 : W) (st1 : Sto) : Prop := wp (fb sl st1) (kCmpO2 c spec neg g QW X w1) X
theorem kCmpO3_ap {w : W} {st3 : Sto} : kCmpO3 neg QW w st3 = wpd w fun d => wpb d fun b => QW (.d (.bl (b != neg))) st3 := rfl
theorem kCmpO2_ap {w1 w2 : W} {st2 : Sto} : kCmpO2 c spec neg g QW X w1 w2 st2 = wpo (view st2 w1) fun d1 => wpo (view st2 w2) fun d2 => wpCmpO c spec neg g w1 w2 QW X st2 d1 d2 := rfl
theorem kCmpO1_ap {w1 : W} {st1 : Sto} : kCmpO1 c spec neg g fb sl QW X w1 st1 = wp (fb sl st1) (kCmpO2 c spec neg g QW X w1) X := rfl
theorem wpCmpO_obj {w1 w2 : W} {st2 : Sto} {c' : Str} {gs : List (Str × D)} {d2 : D} : wpCmpO c spec neg g w1 w2 QW X st2 (.obj c' gs) d2 = ((c' = c ∧ okR c d2 = true) ∧ wp (spec [w1, w2] st2) (kCmpO3 neg QW) X) := rfl
theorem wp_cmpO : wp (eCmpO c spec neg g fa fb sl st) QW X = wp (fa sl st) (kCmpO1 c spec neg g fb sl QW X) X := by
  unfold eCmpO
  rw [wp_bnd]
  congr; funext w1 st1
  rw [wp_bnd]
  unfold kCmpO1
  congr; funext w2 st2
  unfold cmpO kCmpO2
  cases view st2 w1 with
  | none => rfl
  | some d1 =>
    cases view st2 w2 with
    | none => cases d1 <;> rfl
    | some d2 =>
      simp only [wpo_some]
      cases d1 with
      | obj c' gs =>
        rw [wpCmpO_obj]
        simp only
        by_cases h : c' = c ∧ okR c d2 = true
        · rw [if_pos h, wp_bnd]
          simp only [h, true_and, and_self]
          congr; funext w st3
          unfold kCmpO3
          cases w with
          | d x => cases x <;> rfl
          | _ => rfl
        · rw [if_neg h]
          simp only [h, false_and]
          rfl
      | _ => exact wp_pr
def kCmpOT (QB : Bool → Sto → Prop) (w : W) (st3 : Sto) : Prop := wpd w fun d => wpb d fun b => QB b st3
theorem kCmpOT_ap {w : W} {st3 : Sto} : kCmpOT QB w st3 = wpd w fun d => wpb d fun b => QB b st3 := rfl
theorem wp_tCmpO : wp (tCmpO c spec neg g fa fb sl st) QB X = wp (fa sl st) (kCmpO1 c spec neg g fb sl (kCmpOT QB) X) X := by
  rw [← wp_cmpO]
  unfold tCmpO
  rw [wp_bnd]
  congr; funext w st3
  unfold kCmpOT
  cases w with
  | d x => cases x <;> rfl
  | _ => rfl
theorem gIsO_obj {c' : Str} {fs : List (Str × D)} : gIsO c (.obj c' fs) = if c' = c then some (.bl true) else none := rfl
end
end Dn
namespace Dn
theorem eqf_mk {K : PySem.W.Frag} {mg : PySem.Str → Option PySem.Value} {c : PySem.Str} {C : PySem.Addr} (g : mg c = some (.ref C)) (B : EqFacts K C) : ∀ C', mg c = some (.ref C') → EqFacts K C' := fun C' h => by
  have : C' = C := by simpa using h.symm.trans g
  subst this
  exact B
end Dn

/-! C(k=v, ..) where the init has a star parameter (which stays empty). -/
namespace Dn
open PySem PySem.Spec PyProof.Rows L2 Ft LamX StX
/-- a promise of a def called with one positional argument and keywords -/
def FnKR (P : Program) (w : World) (K : PySem.W.Frag) (mg : Str → Option Value) (base : Heap) (CX : CXT) (k : Nat) (f : Addr) (ks : List Str) (g : {α : Type} → List α → List α → List α) (sp : Sp) : Prop :=
  ∀ (A : Around) (outer : List Env) (s : Shared) (H : Hp) (u : Value) (x : V) (us : List Value) (vs : List V) (Q : VK) (E : XK), Room k A → Env0 P w K mg base A outer s H → RelV x u → Vals vs us → us.length = ks.length → sp (x :: g [] vs) H Q E →
    codeAny (model P w) A (.call (.ref f) ⟨[u], ks.zip us⟩) (CR CX outer P w H s Q E) s
section
variable {CX : CXT} {P : Program} {w : World} {K : PySem.W.Frag} {mg : Str → Option Value} {base : Heap} {k : Nat} {f : Addr} {name qual : Str} {params : Arguments} {body : List Stmt} {scope : Scope} {dV kV doc pm cdv ct oc : Value} {an od : Option Addr} {osl : Array (Option Value)} {ps N ks : List Str} {sp : Sp} {g : {α : Type} → List α → List α → List α}
theorem fn_starK {pv : Str} (lk : K.lookup f = some ⟨oc, od, .func (PySem.W.fnOf name qual params body scope dV kV doc pm an cdv ct), osl⟩) (hcd : PySem.W.codeIn K cdv qual = true) (S : FnScope N (ps ++ [pv]) scope) (hCX : CXUp CX)
    (hg : ∀ {vs : List V} {us : List Value}, Vals vs us → Vals (g [] vs) (g [] us))
    (hb : ∀ (u : Value) (us : List Value), us.length = ks.length → bindArgs (PySem.W.fnOf name qual params body scope dV kV doc pm an cdv ct) ⟨[u], ks.zip us⟩ = (newTuple [] >>= fun t => pure (ps.zip (u :: g [] us) ++ [(pv, t)])))
    (hbody : ∀ (A : Around) (outer : List Env) (s : Shared) (H : Hp) (vs : List V) (Q : VK) (E : XK), Room k (A.deeper (envOfC qual scope s.heap.objs.size f cdv)) → sp vs H Q E →
      ∃ t, PSs (cxOf CX P w K mg base N qual scope f cdv A outer s H E) body t ∧ t { nx := fun _ H' => Q .non H', rt := Q } (start N vs) H) :
    FnKR P w K mg base CX (k + 1) f ks g (fun ws H Q E => ws.length = ps.length ∧ ∀ p, H p = Option.none → sp (ws ++ [V.ref p]) (upd H p (.tup [])) Q E) := by
  intro A outer s H u x us vs Q E hr e0 rx r hlu hsp
  obtain ⟨hl, hq⟩ := hsp
  have hn : H s.heap.objs.size = Option.none := e0.hok.fresh (Nat.le_refl _)
  have r1 : Vals (x :: g [] vs) (u :: g [] us) := .cons rx (hg r)
  have hl1 : (u :: g [] us).length = ps.length := by rw [← r1.length]; exact hl
  refine run_bnd lk hcd S hr e0 (G := fun xs H2 => ∃ p, H p = Option.none ∧ xs = (x :: g [] vs) ++ [V.ref p] ∧ H2 = upd H p (.tup [])) (fun A' Ex Q' h => ?_) fun s2 H2 xs ⟨p, hp, ex, eH⟩ hr' => ?_
  · rw [hb u us hlu]
    refine wpAny_bind (wpAny_newTuple (wpAny_pure ?_) (Nat.zero_le _))
    have new : ObjOk P w (upd H s.heap.objs.size (.tup [])) (s.heap.push ({ cls := .type "tuple", data := .seq ([] : List Value).toArray } : Obj)) s.heap.objs.size (.tup []) := ⟨Nat.zero_le _, [], .nil, ⟨_, Heap.get?_push_size _ rfl, rfl, _, rfl⟩⟩
    have un := un_laid (fs := frs outer) (s := s) (o := ({ cls := .type "tuple", data := .seq ([] : List Value).toArray } : Obj)) (u := .tup []) hn
    have z := h _ _ ((x :: g [] vs) ++ [V.ref s.heap.objs.size]) ((u :: g [] us) ++ [Value.ref s.heap.objs.size]) (env0_laid e0 new) un rfl (fun e s' => hCX outer s H _ _ E e s' un (fun b o q => Heap.get?_push_of_some _ q) rfl) (r1.append (.cons rfl .nil))
      (by rw [List.length_append, List.length_append, hl] <;> rfl) ⟨_, hn, rfl, rfl⟩
    rw [List.zip_append hl1.symm] at z
    exact z
  · subst ex eH
    exact hbody A outer s2 _ _ Q E hr' (hq p hp)
end
end Dn
namespace Dn
open PySem PySem.Spec PyProof.Rows L2 Ft LamX StX
section
variable {P : Program} {w : World} {K : PySem.W.Frag} {mg : Str → Option Value} {T : List (Addr × Str)} {base : Heap} {x qual pv : Str} {st : Stmt} {f : Addr} {fd : FuncData} {N ps ks : List Str} {k : Nat} {spec : Spec} {g : {α : Type} → List α → List α → List α}
def spK (G : Gx) (n : Nat) (spec : Spec) : Sp := fun vs H Q E => vs.length = n ∧ spR G n spec vs H Q E
theorem okDKR (fr : Bool) (F : Fun K x qual st f fd) (S : FnScope N (ps ++ [pv]) (defScope st)) (hg : ∀ {vs : List V} {us : List Value}, Vals vs us → Vals (g [] vs) (g [] us))
    (hbind : ∀ (kV doc pm : Value) (an : Option Addr) (cdv ct u : Value) (us : List Value), us.length = ks.length → bindArgs (PySem.W.fnOf x qual (defArgs st) (defBody st) (defScope st) .none kV doc pm an cdv ct) ⟨[u], ks.zip us⟩ = (newTuple [] >>= fun t => pure (ps.zip (u :: g [] us) ++ [(pv, t)])))
    (hb : ∀ (cdv : Value) (A : Around) (outer : List Env) (s : Shared) (H : Hp) (E : XK), Room k (A.deeper (envOfC qual (defScope st) s.heap.objs.size f cdv)) →
      Takes (cxD P w K mg base N qual (defScope st) f cdv A outer s H E) (wx E) →
      PassesOwn (model P w) (cxD P w K mg base N qual (defScope st) f cdv A outer s H E).A (cxD P w K mg base N qual (defScope st) f cdv A outer s H E).env (cxD P w K mg base N qual (defScope st) f cdv A outer s H E).xe →
      ∃ b : Sm, DSs ⟨K, mg, T⟩ (cxD P w K mg base N qual (defScope st) f cdv A outer s H E) (wx E) (defBody st) b ∧ ∀ ws st r, ws.length = (ps ++ [pv]).length → spec ws st = some r → runB fr N.length b ws st = some r) :
    FnKR P w K mg base (L2.CX P w) (k + 1) f ks g (spK ⟨K, mg, T⟩ ps.length spec) := by
  obtain ⟨oc, od, kV, doc, pm, an, cdv, ct, osl, e, lk, hcd⟩ := F.ex
  subst e
  have key := fn_starK (ks := ks) (g := g) (sp := spD ⟨K, mg, T⟩ (ps.length + 1) spec) lk hcd S cxUp hg (fun u us hl => hbind kV doc pm an cdv ct u us hl) fun A outer s H vs Q E hr h => by
    have tk : Takes (cxD P w K mg base N qual (defScope st) f cdv A outer s H E) (wx E) := takes_of rfl rfl rfl rfl
    obtain ⟨b, d, e⟩ := hb cdv A outer s H E hr tk (passes_of rfl)
    exact ⟨_, d, body_ok (fun ws st r hl => e ws st r (by rw [hl]; simp)) h⟩
  intro A outer s H u x us vs Q E hr e0 rx r hl ⟨h1, h2⟩
  refine key A outer s H u x us vs Q E hr e0 rx r hl ⟨h1, fun p hp => ?_⟩
  obtain ⟨ws, rest, ev, hw, _, h3⟩ := spR_of h2
  have hr0 : rest = [] := by
    have := congrArg List.length ev
    rw [List.length_append, h1, hw] at this
    exact List.eq_nil_of_length_eq_zero (by omega)
  subst hr0
  rw [List.append_nil] at ev
  rw [ev]
  exact h3 p hp
end
end Dn
namespace Dn
open PySem PySem.Spec PyProof.Rows L2 Ft LamX StX
section
variable {G : Gx} {X : Cx} {E : WX} {kws : List Keyword} {fk : Ax} {pos p : Pos} {c : Str} {ks : List Str} {spec : Spec} {k q : Nat} {g : {α : Type} → List α → List α → List α}
theorem run_makeKR {f C : Addr} {sp : Sp} {pins : List (Addr × Obj)} {σ : L2.St} {H : Hp} {s : Shared} {Q : VK} {us : List Value} {vs : List V} (M : Mk X.K C f) (F : FnKR X.prog X.w X.K X.mg X.base (L2.CX X.prog X.w) k f ks g sp) (hr : Room (k + 1) X.A) (tk : Takes X E) (I : Inv X pins σ H s) (r : Vals vs us) (hl : us.length = ks.length)
    (h : ∀ x dx, H x = none → H dx = none → dx ≠ x → sp (V.ref x :: g [] vs) (upd (upd H dx (.own x)) x (.ins C dx [])) (fun v H2 => v = .non ∧ Q (.ref x) H2) (WE E σ)) :
    wpAny (model X.prog X.w) X.A (call (.ref C) [] (ks.zip us)) (EP X pins σ Q) X.xe s := by
  have hq := h (s.heap.objs.size + 1) s.heap.objs.size (I.hok.fresh (Nat.le_succ _)) (I.hok.fresh (Nat.le_refl _)) (Nat.ne_of_lt (Nat.lt_succ_self _))
  have I2 := Inv.made (C := C) I
  refine wpAny_call (make_map (f := f) I.kIn M.makes M.init (beq_iff_eq.mp M.fn) (codeAny_mono (F _ X.stack _ _ (Value.ref (s.heap.objs.size + 1)) (V.ref (s.heap.objs.size + 1)) us vs _ (WE E σ) (hr.make C [] (ks.zip us)) (I2.env0.make C [] (ks.zip us)) rfl r hl hq) fun r s' hq' => ?_))
  cases r with
  | error e => exact passAt tk σ pins _ _ e s' I2 hq'
  | ok fl =>
    cases fl with
    | ret u =>
      obtain ⟨v, H', I3, rv, ev, q3⟩ := I2.after hq'
      subst ev
      exact ⟨rv, ⟨V.ref (s.heap.objs.size + 1), H', I3, rfl, q3⟩⟩
    | next => exact False.elim hq'
    | brk => exact False.elim hq'
    | cont => exact False.elim hq'
structure ClsKR (P : Program) (w : World) (K : PySem.W.Frag) (mg : Str → Option Value) (base : Heap) (k : Nat) (x : Str) (C : Addr) (ks : List Str) (g : {α : Type} → List α → List α → List α) (sp : Sp) : Prop where
  ex : ∃ f : Addr, FnKR P w K mg base (L2.CX P w) k f ks g sp ∧ mg x = some (.ref C) ∧ Mk K C f
def eNewKR (c : Str) (spec : Spec) (g : List W → List W → List W) (q l : Nat) (fk : Ax) : Ex := fun sl st => bnd (fk sl st) fun zs st1 => if zs.length = l ∧ (g [] zs).length = q then made c st1.length (spec (.c st1.length :: (g [] zs ++ [.d (.tup [])])) (st1 ++ [.ins c []])) else none
theorem de_newKR {C : Addr} (F : ClsKR X.prog X.w X.K X.mg X.base k c C ks g (spK G (q + 1) spec)) (hG : RelG g) (hr : Room (k + 1) X.A) (tk : Takes X E) (gl : Gl X c) (hkw : DK G X E kws fk) (hM : X.mg = G.mg := by rfl)
    (hall : (backToKw pos (keywordEach kws X.env)).all (·.1.isSome) = true := by rfl) (hks : (backToKw pos (keywordEach kws X.env)).filterMap (·.1) = ks := by rfl) (hdb : (c == ("__debug__" : Str)) = false := by decide)
    (hpl : ((backTo pos (starEach [] X.env)).any (·.1) || (backToKw pos (keywordEach kws X.env)).any (·.1.isNone)) = false := by rfl) : DE G X E (.Call (.Name c p) [] kws pos) (eNewKR c spec g q ks.length fk) := by
  obtain ⟨f, F', hm, M⟩ := F.ex
  refine PE.imp (t := fun σ H Q => rA G E fk σ H fun zs H1 => zs.length = ks.length ∧ ∀ x dx, H1 x = none → H1 dx = none → dx ≠ x → spK G (q + 1) spec (.ref x :: g [] zs) (upd (upd H1 dx (.own x)) x (.ins C dx [])) (fun v H2 => v = .non ∧ Q (.ref x) H2) (WE E σ)) ⟨fun pins s σ H Q I h => ?_⟩ fun σ H Q h => ?_
  · refine wpAny_Call_Name_kw (ld_glob I gl hm ?_ hdb)
    refine PySem.W.callWith_KW0 (h₀ := X.base) I.ok.mod.kin M.kp hall ?_ hpl
    refine thn (hkw.run pos pins s σ H _ I h) fun ws s1 ⟨zs, H1, I1, r, lz, q⟩ => ⟨I1.kIn, ?_⟩
    rw [hks]
    exact run_makeKR M F' hr tk I1 r (r.length.symm.trans lz) q
  · obtain ⟨m, sl, st, hs, hc, h⟩ := h
    refine ⟨m, sl, st, hs, hc, aft_bnd h fun zs st1 vs H1 m1 e1 c1 r1 h1 => ?_⟩
    split at h1
    · rename_i hl
      have rg : RpWs G m1 H1 (g [] vs) (g [] zs) := hG _ _ _ _ _ _ _ .nil r1
      refine ⟨r1.len.trans hl.1, fun x dx hx hdx ne => ⟨by rw [List.length_cons, rg.len, hl.2], ?_⟩⟩
      have hp : pures ((g [] zs).drop q) = some [] := by
        rw [← hl.2, List.drop_length]
        rfl
      have ht : (g [] zs).take q = g [] zs := by rw [← hl.2, List.take_length]
      exact newR_ok (q := q) (by rw [← hM]; exact hm) c1 rg (Nat.le_of_eq hl.2.symm) hp (Nat.zero_le _) (by rw [ht]; exact h1) x dx hx hdx ne
    · exact h1.elim
end
end Dn
namespace Dn
open PySem PySem.Spec PyProof.Rows L2 Ft LamX StX
section
variable {X : Cx} {E : WX} {kws : List Keyword} {fk : Ax} {pos p : Pos} {c : Str} {ks : List Str} {spec : Spec} {k q : Nat} {g : {α : Type} → List α → List α → List α} {T : List (Addr × Str)}
def HasCKRd (P : Program) (w : World) (K : PySem.W.Frag) (mg : Str → Option Value) (base : Heap) (T : List (Addr × Str)) (k : Nat) (c : Str) (ks : List Str) (g : {α : Type} → List α → List α → List α) (spec : Spec) (q : Nat) : Prop := ∃ C, ClsKR P w K mg base k c C ks g (spK ⟨K, mg, T⟩ (q + 1) spec)
theorem dx_newKR (F : HasCKRd X.prog X.w X.K X.mg X.base T k c ks g spec q) (hG : RelG g) (hr : Room (k + 1) X.A) (tk : Takes X E) (gl : Gl X c) (hkw : DK ⟨X.K, X.mg, T⟩ X E kws fk)
    (hall : (backToKw pos (keywordEach kws X.env)).all (·.1.isSome) = true := by rfl) (hks : (backToKw pos (keywordEach kws X.env)).filterMap (·.1) = ks := by rfl) (hdb : (c == ("__debug__" : Str)) = false := by decide)
    (hpl : ((backTo pos (starEach [] X.env)).any (·.1) || (backToKw pos (keywordEach kws X.env)).any (·.1.isNone)) = false := by rfl) : DE ⟨X.K, X.mg, T⟩ X E (.Call (.Name c p) [] kws pos) (eNewKR c spec g q ks.length fk) := by
  obtain ⟨C, F⟩ := F
  exact de_newKR F hG hr tk gl hkw rfl hall hks hdb hpl
end
section
variable {c : Str} {spec : Spec} {g : List W → List W → List W} {q l : Nat} {fk : Ax} {sl : Slo} {st : Sto} {QW : W → Sto → Prop} {X : XP}
def kNewKR (c : Str) (spec : Spec) (g : List W → List W → List W) (q l : Nat) (QW : W → Sto → Prop) (X : XP) (zs : List W) (st1 : Sto) : Prop := (zs.length = l ∧ (g [] zs).length = q) ∧ wp (made c st1.length (spec (.c st1.length :: (g [] zs ++ [.d (.tup [])])) (st1 ++ [.ins c []]))) QW X
theorem kNewKR_ap (c : Str) (spec : Spec) (g : List W → List W → List W) (q l : Nat) (QW : W → Sto → Prop) (X : XP) (zs : List W) (st1 : Sto) : kNewKR c spec g q l QW X zs st1 = ((zs.length = l ∧ (g [] zs).length = q) ∧ wp (made c st1.length (spec (.c st1.length :: (g [] zs ++ [.d (.tup [])])) (st1 ++ [.ins c []]))) QW X) := rfl
theorem wp_newKR : wp (eNewKR c spec g q l fk sl st) QW X = wp (fk sl st) (kNewKR c spec g q l QW X) X := by
  unfold eNewKR
  rw [wp_bnd]
  congr 1
  funext zs st1
  unfold kNewKR
  by_cases hh : zs.length = l ∧ (g [] zs).length = q
  · rw [if_pos hh]
    exact propext ⟨fun h => ⟨hh, h⟩, fun h => h.2⟩
  · rw [if_neg hh]
    exact propext ⟨fun h => h.elim, fun h => hh h.1⟩
end
end Dn
namespace Dn
open PySem PySem.Spec PyProof.Rows L2 Ft LamX StX
section
variable {G : Gx} {X : Cx} {E : WX} {m : M} {H : Hp} {e : Expr} {fe fa : Ex} {sl : Slo} {st : Sto} {QW : W → Sto → Prop} {XQ : XP}
/-! ### x[::-1], x a list -/
theorem RpA.rev {vs : List V} {ds : List D} (r : RpA G m H vs ds) : RpA G m H vs.reverse ds.reverse := by
  induction ds generalizing vs with
  | nil => cases r; exact .nil
  | cons d ds ih =>
    cases r with
    | cons r1 r2 =>
      rw [List.reverse_cons, List.reverse_cons]
      exact RpA.app (ih r2) (.cons r1 .nil)
def gRevL : D → Option D
  | .lst ds => some (.lst ds.reverse)
  | _ => none
theorem gRevL_l {ds : List D} : gRevL (.lst ds) = some (.lst ds.reverse) := rfl
theorem de_revL {k : Nat} {p1 p2 p3 pos : Pos} (he : DE G X E e fe) (hK : X.K = G.K := by rfl) : DE G X E (.Subscript e (.Slice none none (some (.UnaryOp .USub (.Constant (.int 1) k p1) p2)) p3) pos) (eUn gRevL fe) := by
  refine PE.imp (pe_revL he) ?_
  rintro σ H Q ⟨m, sl, st, hs, hc, h⟩
  refine ⟨m, sl, st, hs, hc, aft_bnd h fun w st1 v H1 m1 e1 c1 r1 h1 => ?_⟩
  unfold lift1 at h1
  split at h1
  · rename_i d hd
    obtain ⟨d', e2, q⟩ := aft_pr c1 h1
    have rx := view_ok c1 r1 hd
    cases d with
    | lst ds =>
      cases e2
      obtain ⟨a, xs, rfl, h2, h3⟩ := rx.lst
      exact ⟨a, xs, rfl, .inl (.inl h2), fun p hp => q _ _ (same_new hp) (rp_lst c1 hp (by rw [List.length_reverse]; exact rx.llen) h3.rev)⟩
    | _ => cases e2
  · exact h1.elim
end
end Dn

/-! len(o), bool(o), str(o), repr(o), x in o by own defs. -/
namespace Ft
open PySem PySem.Spec PyProof.Rows PySem.SeqAt PySem.W PySem.Calls
section
variable {prog : Program} {w : World} {A : Around} {E : Value → Shared → Prop} {s : Shared} {K : PySem.W.Frag} {x C L f : Addr} {ox : Obj} {od : Option Obj} {h₀ : Heap} {m : Str → Option Value}
/-- the body of len -/
theorem len_body {Q : Value → Shared → Prop} (X : K.In s.heap) (I : PySem.W.InstAt s.heap x ox C od) (hs : PySem.W.findIn K (.ref C) "__len__" = some (some (.ref f))) (hf : PySem.W.isFn K (.ref f) = true)
    (h : wpAny (model prog w) A (call (.ref f) [.ref x]) (PySem.W.LenBack Q) E s) : wpAny (model prog w) A (Builtin.«len» ⟨[.ref x], []⟩) (fun fin s' => ∃ r, fin = .done (.ret r) ∧ Q r s') E s := by
  unfold Builtin.«len»
  refine wpAny_bind (m := PySem.oneArg "len" _) (wpAny_pure ?_)
  refine wpAny_bind (m := callSpecial? (.ref x) (Str.ofString "__len__")) (special_fn X I hs (beq_iff_eq.mp hf) (wpAny_mono h (fun r s' hr => ?_) fun _ _ y => y))
  cases r <;> first | exact hr.elim | skip
  rename_i n u
  obtain ⟨⟨h0, h1⟩, hq⟩ := hr
  refine wpAny_bind (wpAny_holding (wpAny_pure ?_))
  refine wpAny_bind (wpAny_letGo ?_)
  show wpAny _ _ (if n < 0 then _ else _) _ _ _
  rw [if_neg (by omega)]
  show wpAny _ _ (if n ≥ 2 ^ 63 then _ else _) _ _ _
  rw [if_neg (by omega)]
  exact wpAny_bind (wpAny_mkInt (wpAny_pure ⟨_, rfl, hq⟩))
theorem truthy_len {Q : Bool → Shared → Prop} (X : K.In s.heap) (I : PySem.W.InstAt s.heap x ox C od) (hb : PySem.W.findIn K (.ref C) "__bool__" = some none) (hs : PySem.W.findIn K (.ref C) "__len__" = some (some (.ref f))) (hf : PySem.W.isFn K (.ref f) = true)
    (h : wpAny (model prog w) A.in1 (call (.ref f) [.ref x]) (PySem.W.LenBack fun r s' => ∃ n u, r = .int n u ∧ Q (n != 0) s') E s) : wpAny (model prog w) A (truthy (.ref x)) Q E s := by
  unfold truthy
  refine wpAny_bind (m := callSpecial? (.ref x) (Str.ofString "__bool__")) (wpAny_bind (wpAny_bind (I.type.here ((looks_findIn X hb).here (wpAny_pure ?_)))))
  refine wpAny_bind (wpAny_bind (I.type.here ((looks_findIn X hs).here ?_)))
  have key : wpAny (model prog w) A (runValue (.builtin "len" ⟨[.ref x], []⟩)) (fun r s' => ∃ n u, r = .int n u ∧ Q (n != 0) s') E s := by
    refine wpAny_runValue (codeAny_builtin entry_len ?_)
    rw [Around.under_plainId plain_len _]
    exact wpAny_mono (len_body X I hs hf h) (fun fin s' h' => by obtain ⟨r, rfl, hq⟩ := h'; exact hq) fun _ _ e => e
  exact wpAny_bind (wpAny_mono key (fun r s' h' => by obtain ⟨n, u, rfl, hq⟩ := h'; exact wpAny_pure hq) fun _ _ e => e)
theorem bool_call {Q : Value → Shared → Prop} (X : K.In s.heap) (I : PySem.W.InstAt s.heap x ox C od) (hb : PySem.W.findIn K (.ref C) "__bool__" = some none) (hs : PySem.W.findIn K (.ref C) "__len__" = some (some (.ref f))) (hf : PySem.W.isFn K (.ref f) = true)
    (h : wpAny (model prog w) A.in1.in1.in1 (call (.ref f) [.ref x]) (PySem.W.LenBack fun r s' => ∃ n u, r = .int n u ∧ Q (.bool (n != 0)) s') E s) : wpAny (model prog w) A (call (.type "bool") [.ref x]) Q E s := by
  refine callType_codes (T := "bool") (Bi := Builtin.«object.__init__») (Q₁ := fun r s₁ => ∃ y, r = .bool y ∧ Q r s₁) PySem.F.called_bool (PySem.F.typeCall_bool_1 _) PySem.F.entry_object_init ?_ ?_
  · refine codeAny_of_tree ?_
    show wpAny _ A.in1.in1 (do checkBuiltinCall "bool.__new__" ⟨[.type "bool", .ref x], []⟩; again (.builtin "bool.__new__" ⟨[.type "bool", .ref x], []⟩)) _ _ s
    refine wpAny_bind (wpAny_of_eq (PySem.F.newCall_bool_1 _) (wpAny_pure ⟨plainId_quiet (by decide +kernel) _, codeAny_builtin PySem.F.entry_bool_new ?_⟩))
    rw [Around.under_plainId (by decide +kernel) _]
    unfold Builtin.«bool.__new__»
    have f1 := PySem.F.conv_sub_bool
    repeat (first
      | (refine wpAny_bind (m := truthy (.ref x)) (truthy_len X I hb hs hf (wpAny_mono h (fun r s' hr => ?_) fun _ _ e => e)))
      | assumption
      | wp_step)
    cases r <;> first | exact hr.elim | skip
    obtain ⟨hb2, n, u, e, hq⟩ := hr
    exact ⟨hb2, n, u, e, wpAny_pure ⟨_, rfl, hq⟩⟩
  · rintro obj s₁ ⟨y, rfl, hq⟩
    exact ⟨PySem.typeIs_bool _ _, PySem.F.args_object_init_2 _ _, object_init_meets PySem.F.called_bool.init.lookup PySem.F.called_bool.made (by decide) prog w A.in1 _ s₁ ⟨PySem.typeIs_bool _ _, rfl, hq⟩⟩
end
end Ft
namespace Dn
open PySem PySem.Spec PyProof.Rows L2 Ft LamX StX
section
variable {G : Gx} {X : Cx} {E : WX} {k : Nat} {f C : Addr} {fd : FuncData} {ps : List Str} {sp : Sp} {σ : L2.St} {H : Hp} {s : Shared} {Q : VK} {pins : List (Addr × Obj)} {us : List Value} {vs : List V} {c mth : Str} {spec : Spec} {conv : D → Option D} {cvt : V → V → Prop} {fe fa fb : Ex} {n : Nat}
/-- a def called at a place around -/
theorem run_at {A' : Around} (F : FnOk X.prog X.w X.K X.mg X.base (L2.CX X.prog X.w) k f fd ps sp) (hb : Binds X.K fd ps []) (hr : Room k A') (e0 : Env0 X.prog X.w X.K X.mg X.base A' X.stack s H) (tk : Takes X E) (I : Inv X pins σ H s) (r : Vals vs us) (q : sp vs H Q (WE E σ)) :
    wpAny (model X.prog X.w) A' (call (.ref f) us) (EP X pins σ Q) X.xe s := by
  have hlen : us.length = ps.length := (Vals.length r).symm.trans (F.len _ _ _ _ q)
  have bt := hb s us I.kIn (by rw [List.append_nil]; exact hlen)
  rw [List.append_nil] at bt
  refine wpAny_call (codeAny_mono (F.run A' X.stack s H ⟨us, []⟩ us vs _ (WE E σ) hr e0 bt r q) fun res s2 q => ?_)
  match res, q with
  | .ok (.ret v), q => exact I.after q
  | .ok .next, q => exact False.elim q
  | .ok .brk, q => exact False.elim q
  | .ok .cont, q => exact False.elim q
  | .error e, q => exact passAt tk σ pins H s e s2 I q
theorem env0_in {A' : Around} (hf : A'.frames = X.A.frames) (e : Env0 X.prog X.w X.K X.mg X.base X.A X.stack s H) : Env0 X.prog X.w X.K X.mg X.base A' X.stack s H := ⟨hf.trans e.frames, e.mod, e.bs, e.bsz, e.funs, e.frf, e.hok, e.bare⟩
/-- o's own def, its answer turned -/
def eOwn1 (c : Str) (spec : Spec) (conv : D → Option D) (fe : Ex) : Ex := fun sl st => bnd (fe sl st) fun w st1 => match view st1 w with
  | some (.obj c' _) => if c' = c then bnd (spec [w] st1) fun r st2 => match r with
    | .d d => pr st2 (conv d)
    | _ => none
    else none
  | _ => none
def convLen : D → Option D
  | .int n => if 0 ≤ n ∧ n ≤ 100000 then some (.int n) else none
  | _ => none
def convBool : D → Option D
  | .int n => if 0 ≤ n ∧ n ≤ 100000 then some (.bl (n != 0)) else none
  | _ => none
def convStr : D → Option D
  | .str y => some (.str y)
  | _ => none
def cvLen (v v' : V) : Prop := ∃ n : Int, v = .int n ∧ (0 ≤ n ∧ n < 2 ^ 63) ∧ v' = .int n
def cvBool (v v' : V) : Prop := ∃ n : Int, v = .int n ∧ (0 ≤ n ∧ n < 2 ^ 63) ∧ v' = .bl (n != 0)
def cvStr (v v' : V) : Prop := ∃ y : Str, v = .str y ∧ v' = .str y
theorem own1_ok (hS : ∀ m H v d d', conv d = some d' → RpW G m H v (.d d) → ∃ v', cvt v v' ∧ RpW G m H v' (.d d')) (hC : G.mg c = some (.ref C)) (h1' : n = 1) (h : rE G E (eOwn1 c spec conv fe) σ H Q) :
    rE G E fe σ H fun x H1 => ∃ a dx fs, x = .ref a ∧ H1 a = some (.ins C dx fs) ∧ spD G n spec [x] H1 (fun v H2 => ∃ v', cvt v v' ∧ Q v' H2) (WE E σ) := by
  obtain ⟨m, sl, st, hs, hc, h⟩ := h
  refine ⟨m, sl, st, hs, hc, aft_bnd h fun w st1 v H1 m1 e1 c1 r1 h1 => ?_⟩
  split at h1
  · rename_i c' gs hv
    split at h1
    · rename_i hc'
      obtain ⟨a, C', dx, fs, rfl, hC', ha, _⟩ := (view_ok c1 r1 hv).obj
      subst hc'
      have : C' = C := by simpa using hC'.symm.trans hC
      subst this
      refine ⟨a, dx, fs, rfl, ha, m1, [w], st1, .cons r1 .nil, c1, by rw [h1']; rfl, aft_bnd h1 fun w3 st3 v3 H3 m3 e3 c3 r3 h3 => ?_⟩
      split at h3
      · rename_i d
        obtain ⟨d', e, q⟩ := aft_pr c3 h3
        obtain ⟨v', hv', r'⟩ := hS m3 H3 v3 d d' e r3
        exact ⟨v', hv', q v' H3 (Same.refl _) r'⟩
      · exact h3.elim
    · exact h1.elim
  · exact h1.elim
theorem hS_len : ∀ m H v d d', convLen d = some d' → RpW G m H v (.d d) → ∃ v', cvLen v v' ∧ RpW G m H v' (.d d') := by
  intro m H v d d' e r
  cases d with
  | int n =>
    unfold convLen at e
    simp only at e
    split at e
    · rename_i hn
      cases e
      obtain rfl : v = .int n := by cases r; rfl
      exact ⟨_, ⟨n, rfl, ⟨hn.1, by omega⟩, rfl⟩, r⟩
    · cases e
  | _ => cases e
theorem hS_bool : ∀ m H v d d', convBool d = some d' → RpW G m H v (.d d) → ∃ v', cvBool v v' ∧ RpW G m H v' (.d d') := by
  intro m H v d d' e r
  cases d with
  | int n =>
    unfold convBool at e
    simp only at e
    split at e
    · rename_i hn
      cases e
      obtain rfl : v = .int n := by cases r; rfl
      exact ⟨_, ⟨n, rfl, ⟨hn.1, by omega⟩, rfl⟩, .bl _⟩
    · cases e
  | _ => cases e
theorem hS_str : ∀ m H v d d', convStr d = some d' → RpW G m H v (.d d) → ∃ v', cvStr v v' ∧ RpW G m H v' (.d d') := by
  intro m H v d d' e r
  cases d with
  | str y =>
    cases e
    obtain rfl : v = .str y := by cases r; rfl
    exact ⟨_, ⟨y, rfl, rfl⟩, r⟩
  | _ => cases e
end
section
variable {X : Cx} {E : WX} {T : List (Addr × Str)} {k : Nat} {c : Str} {ps : List Str} {spec : Spec} {fe : Ex} {e : Expr} {p pos : Pos}
/-- what bool asks of an own class -/
structure LenFacts (K : PySem.W.Frag) (C : Addr) : Prop where
  nb : PySem.W.findIn K (.ref C) "__bool__" = some none
theorem dx_lenO (F : HasMd X.prog X.w X.K X.mg X.base T k c "__len__" ps spec) (he : DE ⟨X.K, X.mg, T⟩ X E e fe) (gl : Gl X "len") (mn : X.mg "len" = none) (hr : Room (k + 1) X.A) (tk : Takes X E) (hn : ps.length = 1 := by rfl)
    (h1 : starEach (e :: []) X.env = (false, eval e X.env) :: starEach [] X.env := by rfl) (hpl : (backTo pos (starEach [] X.env)).any (·.1) = false := by rfl) :
    DE ⟨X.K, X.mg, T⟩ X E (.Call (.Name "len" p) [e] [] pos) (eOwn1 c spec convLen fe) := by
  obtain ⟨C, hC, F⟩ := F
  obtain ⟨f, fd, F', hm, hb⟩ := F.ex
  refine PE.imp (t := fun σ H Q => rE ⟨X.K, X.mg, T⟩ E fe σ H fun x H1 => ∃ a dx fs, x = .ref a ∧ H1 a = some (.ins C dx fs) ∧ spD ⟨X.K, X.mg, T⟩ ps.length spec [x] H1 (fun v H2 => ∃ v', cvLen v v' ∧ Q v' H2) (WE E σ)) ⟨fun pins s σ H Q I h => ?_⟩ fun σ H Q h => own1_ok hS_len hC hn h
  refine wpAny_Call_Name_kw (ld_blt I gl mn bt_len ?_ (by decide) (by decide))
  refine PyProof.Rows.callWith_builtin1 (thn ((pa_cons he pa_nil h1).run pos pins s σ H (fun vs H1 => match vs with | [x] => ∃ a dx fs, x = V.ref a ∧ H1 a = some (.ins C dx fs) ∧ spD ⟨X.K, X.mg, T⟩ ps.length spec [x] H1 (fun v H2 => ∃ v', cvLen v v' ∧ Q v' H2) (WE E σ) | _ => False) I h) fun us s1 ⟨vs, H1, I1, r1, q1⟩ => ?_) h1 hpl
  match vs, r1, q1 with
  | [x], r1, ⟨a, dx, fs, ex, ha, q⟩ =>
    subst ex
    obtain rfl := Vals.ref1 r1
    obtain ⟨mA, J, _⟩ := ins_get I1.hok ha
    obtain ⟨od, J, _⟩ := J.look
    obtain ⟨mm, hF⟩ := I1.fr
    refine PySem.W.len_K hF I.ok.mod.kin J hm.at_ hm.fn (wpAny_mono (run_at F' hb hr.in1 (env0_in rfl I1.env0) tk I1 r1 q) (fun v s' h => ?_) fun _ _ e => e)
    obtain ⟨z, H', I', rz, z', ⟨n, rfl, hn2, rfl⟩, q⟩ := h
    obtain ⟨t, rfl⟩ := rz
    exact ⟨hn2, .int n, H', I'.tok _, ⟨_, rfl⟩, q⟩
theorem dx_boolO (F : HasMd X.prog X.w X.K X.mg X.base T k c "__len__" ps spec) (B : ∀ C, X.mg c = some (.ref C) → LenFacts X.K C) (he : DE ⟨X.K, X.mg, T⟩ X E e fe) (gl : Gl X "bool") (mn : X.mg "bool" = none) (hr : Room (k + 3) X.A) (tk : Takes X E) (hn : ps.length = 1 := by rfl)
    (h1 : starEach (e :: []) X.env = (false, eval e X.env) :: starEach [] X.env := by rfl) (hpl : (backTo pos (starEach [] X.env)).any (·.1) = false := by rfl) :
    DE ⟨X.K, X.mg, T⟩ X E (.Call (.Name "bool" p) [e] [] pos) (eOwn1 c spec convBool fe) := by
  obtain ⟨C, hC, F⟩ := F
  obtain ⟨f, fd, F', hm, hb⟩ := F.ex
  refine PE.imp (t := fun σ H Q => rE ⟨X.K, X.mg, T⟩ E fe σ H fun x H1 => ∃ a dx fs, x = .ref a ∧ H1 a = some (.ins C dx fs) ∧ spD ⟨X.K, X.mg, T⟩ ps.length spec [x] H1 (fun v H2 => ∃ v', cvBool v v' ∧ Q v' H2) (WE E σ)) ⟨fun pins s σ H Q I h => ?_⟩ fun σ H Q h => own1_ok hS_bool hC hn h
  refine wpAny_Call_Name_kw (ld_blt I gl mn bt_bool ?_ (by decide) (by decide))
  refine PyProof.Rows.callWith_type1 (thn ((pa_cons he pa_nil h1).run pos pins s σ H (fun vs H1 => match vs with | [x] => ∃ a dx fs, x = V.ref a ∧ H1 a = some (.ins C dx fs) ∧ spD ⟨X.K, X.mg, T⟩ ps.length spec [x] H1 (fun v H2 => ∃ v', cvBool v v' ∧ Q v' H2) (WE E σ) | _ => False) I h) fun us s1 ⟨vs, H1, I1, r1, q1⟩ => ?_) h1 hpl
  match vs, r1, q1 with
  | [x], r1, ⟨a, dx, fs, ex, ha, q⟩ =>
    subst ex
    obtain rfl := Vals.ref1 r1
    obtain ⟨mA, J, _⟩ := ins_get I1.hok ha
    obtain ⟨od, J, _⟩ := J.look
    refine Ft.bool_call I1.kIn J (B C hC).nb hm.at_ hm.fn (wpAny_mono (run_at F' hb hr.in1.in1.in1 (env0_in rfl I1.env0) tk I1 r1 q) (fun v s' h => ?_) fun _ _ e => e)
    obtain ⟨z, H', I', rz, z', ⟨n, rfl, hn2, rfl⟩, q⟩ := h
    obtain ⟨t, rfl⟩ := rz
    exact ⟨hn2, n, _, rfl, .bl (n != 0), H', I'.tok _, rfl, q⟩
theorem dx_reprO (F : HasMd X.prog X.w X.K X.mg X.base T k c "__repr__" ps spec) (he : DE ⟨X.K, X.mg, T⟩ X E e fe) (gl : Gl X "repr") (mn : X.mg "repr" = none) (hr : Room (k + 1) X.A) (tk : Takes X E) (hn : ps.length = 1 := by rfl)
    (h1 : starEach (e :: []) X.env = (false, eval e X.env) :: starEach [] X.env := by rfl) (hpl : (backTo pos (starEach [] X.env)).any (·.1) = false := by rfl) :
    DE ⟨X.K, X.mg, T⟩ X E (.Call (.Name "repr" p) [e] [] pos) (eOwn1 c spec convStr fe) := by
  obtain ⟨C, hC, F⟩ := F
  obtain ⟨f, fd, F', hm, hb⟩ := F.ex
  refine PE.imp (t := fun σ H Q => rE ⟨X.K, X.mg, T⟩ E fe σ H fun x H1 => ∃ a dx fs, x = .ref a ∧ H1 a = some (.ins C dx fs) ∧ spD ⟨X.K, X.mg, T⟩ ps.length spec [x] H1 (fun v H2 => ∃ v', cvStr v v' ∧ Q v' H2) (WE E σ)) ⟨fun pins s σ H Q I h => ?_⟩ fun σ H Q h => own1_ok hS_str hC hn h
  refine wpAny_Call_Name_kw (ld_blt I gl mn bt_repr ?_ (by decide) (by decide))
  refine PyProof.Rows.callWith_builtin1 (thn ((pa_cons he pa_nil h1).run pos pins s σ H (fun vs H1 => match vs with | [x] => ∃ a dx fs, x = V.ref a ∧ H1 a = some (.ins C dx fs) ∧ spD ⟨X.K, X.mg, T⟩ ps.length spec [x] H1 (fun v H2 => ∃ v', cvStr v v' ∧ Q v' H2) (WE E σ) | _ => False) I h) fun us s1 ⟨vs, H1, I1, r1, q1⟩ => ?_) h1 hpl
  match vs, r1, q1 with
  | [x], r1, ⟨a, dx, fs, ex, ha, q⟩ =>
    subst ex
    obtain rfl := Vals.ref1 r1
    obtain ⟨mA, J, _⟩ := ins_get I1.hok ha
    obtain ⟨od, J, _⟩ := J.look
    obtain ⟨mm, hF⟩ := I1.fr
    refine PySem.W.repr_K hr.in1.units0 hF I.ok.mod.kin J hm.at_ hm.fn (wpAny_mono (run_at F' hb hr.in1 (env0_in rfl I1.env0) tk I1 r1 q) (fun v s' h => ?_) fun _ _ e => e)
    obtain ⟨z, H', I', rz, z', ⟨y, rfl, rfl⟩, q⟩ := h
    obtain ⟨t, rfl⟩ := rz
    exact ⟨.str y, H', I', ⟨_, rfl⟩, q⟩
theorem dx_strO (F : HasMd X.prog X.w X.K X.mg X.base T k c "__str__" ps spec) (he : DE ⟨X.K, X.mg, T⟩ X E e fe) (gl : Gl X "str") (mn : X.mg "str" = none) (hr : Room (k + 2) X.A) (tk : Takes X E) (hn : ps.length = 1 := by rfl)
    (h1 : starEach (e :: []) X.env = (false, eval e X.env) :: starEach [] X.env := by rfl) (hpl : (backTo pos (starEach [] X.env)).any (·.1) = false := by rfl) :
    DE ⟨X.K, X.mg, T⟩ X E (.Call (.Name "str" p) [e] [] pos) (eOwn1 c spec convStr fe) := by
  obtain ⟨C, hC, F⟩ := F
  obtain ⟨f, fd, F', hm, hb⟩ := F.ex
  refine PE.imp (t := fun σ H Q => rE ⟨X.K, X.mg, T⟩ E fe σ H fun x H1 => ∃ a dx fs, x = .ref a ∧ H1 a = some (.ins C dx fs) ∧ spD ⟨X.K, X.mg, T⟩ ps.length spec [x] H1 (fun v H2 => ∃ v', cvStr v v' ∧ Q v' H2) (WE E σ)) ⟨fun pins s σ H Q I h => ?_⟩ fun σ H Q h => own1_ok hS_str hC hn h
  refine wpAny_Call_Name_kw (ld_blt I gl mn bt_str ?_ (by decide) (by decide))
  refine PyProof.Rows.callWith_type1 (thn ((pa_cons he pa_nil h1).run pos pins s σ H (fun vs H1 => match vs with | [x] => ∃ a dx fs, x = V.ref a ∧ H1 a = some (.ins C dx fs) ∧ spD ⟨X.K, X.mg, T⟩ ps.length spec [x] H1 (fun v H2 => ∃ v', cvStr v v' ∧ Q v' H2) (WE E σ) | _ => False) I h) fun us s1 ⟨vs, H1, I1, r1, q1⟩ => ?_) h1 hpl
  match vs, r1, q1 with
  | [x], r1, ⟨a, dx, fs, ex, ha, q⟩ =>
    subst ex
    obtain rfl := Vals.ref1 r1
    obtain ⟨mA, J, _⟩ := ins_get I1.hok ha
    obtain ⟨od, J, _⟩ := J.look
    refine PySem.W.kso_call hr.in1.in1.units0 I1.kIn J hm.at_ hm.fn (wpAny_mono (run_at F' hb hr.in1.in1 (env0_in rfl I1.env0) tk I1 r1 q) (fun v s' h => ?_) fun _ _ e => e)
    obtain ⟨z, H', I', rz, z', ⟨y, rfl, rfl⟩, q⟩ := h
    obtain ⟨t, rfl⟩ := rz
    exact ⟨.str y, H', I', ⟨_, rfl⟩, q⟩
end
end Dn
namespace Dn
open PySem PySem.Spec PyProof.Rows L2 Ft LamX StX
section
variable {G : Gx} {X : Cx} {E : WX} {T : List (Addr × Str)} {k : Nat} {c : Str} {ps : List Str} {spec : Spec} {fa fb : Ex} {a b : Expr} {p pos : Pos} {neg : Bool}
/-! ### x in o -/
def inO (c : Str) (spec : Spec) (neg : Bool) (w1 w2 : W) (st : Sto) : R W := match view st w2 with
  | some (.obj c' _) => if c' = c then bnd (spec [w2, w1] st) fun w st3 => match w with
    | .d (.bl b) => some (.ok (.d (.bl (b != neg))), st3)
    | _ => none
    else none
  | _ => none
def eInO (c : Str) (spec : Spec) (neg : Bool) (fa fb : Ex) : Ex := fun sl st => bnd (fa sl st) fun w1 st1 => bnd (fb sl st1) fun w2 st2 => inO c spec neg w1 w2 st2
def tInO (c : Str) (spec : Spec) (neg : Bool) (fa fb : Ex) : Tx := fun sl st => bnd (eInO c spec neg fa fb sl st) fun w st1 => match w with
  | .d (.bl k) => some (.ok k, st1)
  | _ => none
def rInO (G : Gx) (C : Addr) (n : Nat) (spec : Spec) (neg : Bool) (E : XK) (x y : V) (H : Hp) (Q : VK) : Prop :=
  ∃ a dx fs, y = .ref a ∧ H a = some (.ins C dx fs) ∧ spD G n spec [y, x] H (fun v H' => ∃ b, v = .bl b ∧ Q (.bl (b != neg)) H') E
theorem inO_ok {n : Nat} {C : Addr} {m : M} {H : Hp} {st : Sto} {x y : V} {w1 w2 : W} {Q : VK} {E' : XK} (hC : G.mg c = some (.ref C)) (hn : n = 2)
    (hc : CO G m H st) (r1 : RpW G m H x w1) (r2 : RpW G m H y w2) (h : aft G E' (RpW G) m H (inO c spec neg w1 w2 st) Q) : rInO G C n spec neg E' x y H Q := by
  unfold inO at h
  split at h
  · rename_i c' gs h2
    split at h
    · rename_i z1
      subst z1
      obtain ⟨a, C', dx, fs, rfl, hC', ha, _⟩ := (view_ok hc r2 h2).obj
      have : C' = C := by simpa using hC'.symm.trans hC
      subst this
      refine ⟨a, dx, fs, rfl, ha, m, [w2, w1], st, .cons r2 (.cons r1 .nil), hc, by rw [hn]; rfl, aft_bnd h fun w3 st3 v H3 m3 e3 c3 r3 h3 => ?_⟩
      split at h3
      · rename_i k
        exact ⟨k, rp_bl r3, aft_ok h3 c3 (.bl _)⟩
      · exact h3.elim
    · exact h.elim
  · exact h.elim
theorem inO_run {C f : Addr} {fd : FuncData} {pins : List (Addr × Obj)} {σ : L2.St} {H : Hp} {s : Shared} {x y : V} {u v : Value} {Q : VK}
    (F : FnOk X.prog X.w X.K X.mg X.base (L2.CX X.prog X.w) k f fd ps (spD G ps.length spec)) (hm : Meth X.K C "__contains__" f) (hb : Binds X.K fd ps []) (hr : Room k X.A) (tk : Takes X E)
    (I : Inv X pins σ H s) (rx : RelV x v) (ry : RelV y u) (h : rInO G C ps.length spec neg (WE E σ) x y H Q) :
    wpAny (model X.prog X.w) X.A (compareOp (if neg = true then .NotIn else .In) v u) (EP X pins σ Q) X.xe s := by
  obtain ⟨a, dx, fs, rfl, ha, q⟩ := h
  obtain rfl : u = Value.ref a := ry
  obtain ⟨mA, J, _⟩ := ins_get I.hok ha
  obtain ⟨od, J, _⟩ := J.look
  obtain ⟨mm, hF⟩ := I.fr
  have key := run_at F hb hr I.env0 tk I (.cons (show RelV (.ref a) (.ref a) from rfl) (.cons rx .nil)) q
  cases neg with
  | false =>
    refine PySem.W.in_K hF I.ok.mod.kin J hm.at_ hm.fn (wpAny_mono key (fun v s' h => ?_) fun _ _ e => e)
    obtain ⟨z, H', I', rz, b, rfl, q⟩ := h
    cases rz
    exact wpAny_truthy_bool ⟨.bl b, H', I', rfl, by simpa using q⟩
  | true =>
    refine PySem.W.notIn_K hF I.ok.mod.kin J hm.at_ hm.fn (wpAny_mono key (fun v s' h => ?_) fun _ _ e => e)
    obtain ⟨z, H', I', rz, b, rfl, q⟩ := h
    cases rz
    exact wpAny_truthy_bool ⟨.bl !b, H', I', rfl, by simpa using q⟩
theorem dx_inO {op : CmpOp} (F : HasMd X.prog X.w X.K X.mg X.base T k c "__contains__" ps spec) (hop : op = if neg = true then .NotIn else .In)
    (ha : DE ⟨X.K, X.mg, T⟩ X E a fa) (hb' : DE ⟨X.K, X.mg, T⟩ X E b fb) (hr : Room k X.A) (tk : Takes X E) (hm' : behindInMarks op b = false) (hn : ps.length = 2 := by rfl) :
    DE ⟨X.K, X.mg, T⟩ X E (.Compare a [op] [b] pos) (eInO c spec neg fa fb) := by
  subst hop
  obtain ⟨C, hC, F⟩ := F
  obtain ⟨f, fd, F', hm, hb⟩ := F.ex
  refine PE.imp (t := fun σ H Q => rE ⟨X.K, X.mg, T⟩ E fa σ H fun x H1 => rE ⟨X.K, X.mg, T⟩ E fb σ H1 fun y H2 => rInO ⟨X.K, X.mg, T⟩ C ps.length spec neg (WE E σ) x y H2 Q) ⟨fun pins s σ H Q I h => ?_⟩ fun σ H Q h => ?_
  · refine wpAny_Compare1 (thn (ha.run pins s σ H _ I h) fun v s1 ⟨x, H1, I1, r1, q1⟩ => thn (hb'.run pins s1 σ H1 _ I1 q1) fun u s2 ⟨y, H2, I2, r2, q2⟩ => ?_) hm'
    exact inO_run F' hm hb hr tk I2 r1 r2 q2
  · obtain ⟨m, sl, st, hs, hc, h⟩ := h
    exact ⟨m, sl, st, hs, hc, aft_bnd h fun w1 st1 x H1 m1 e1 c1 r1 h1 => ⟨m1, sl, st1, hs.ext hc e1, c1, aft_bnd h1 fun w2 st2 y H2 m2 e2 c2 r2 h2 => inO_ok hC hn c2 (RpW.ext c1 e2 r1) r2 h2⟩⟩
theorem dt_inO {op : CmpOp} (F : HasMd X.prog X.w X.K X.mg X.base T k c "__contains__" ps spec) (hop : op = if neg = true then .NotIn else .In)
    (ha : DE ⟨X.K, X.mg, T⟩ X E a fa) (hb' : DE ⟨X.K, X.mg, T⟩ X E b fb) (hr : Room k X.A) (tk : Takes X E) (hm' : behindInMarks op b = false) (hn : ps.length = 2 := by rfl) :
    DT ⟨X.K, X.mg, T⟩ X E (.Compare a [op] [b] pos) (tInO c spec neg fa fb) := by
  subst hop
  obtain ⟨C, hC, F⟩ := F
  obtain ⟨f, fd, F', hm, hb⟩ := F.ex
  refine PT.imp (t := fun σ H Q => rE ⟨X.K, X.mg, T⟩ E fa σ H fun x H1 => rE ⟨X.K, X.mg, T⟩ E fb σ H1 fun y H2 => rInO ⟨X.K, X.mg, T⟩ C ps.length spec neg (WE E σ) x y H2 fun z H3 => ∃ k, z = .bl k ∧ Q k H3) ⟨fun pins s σ H Q I h => ?_⟩ fun σ H Q h => ?_
  · refine wpAny_isTrue_Compare1 (thn (ha.run pins s σ H _ I h) fun v s1 ⟨x, H1, I1, r1, q1⟩ => thn (hb'.run pins s1 σ H1 _ I1 q1) fun u s2 ⟨y, H2, I2, r2, q2⟩ => thn (inO_run F' hm hb hr tk I2 r1 r2 q2) fun c s3 ⟨z, H3, I3, r3, k, e, q3⟩ => ?_) hm'
    subst e
    cases r3
    exact wpAny_truthy_bool ⟨H3, I3, q3⟩
  · obtain ⟨m, sl, st, hs, hc, h⟩ := h
    have h : aft ⟨X.K, X.mg, T⟩ (WE E σ) (RpW ⟨X.K, X.mg, T⟩) m H (eInO c spec neg fa fb sl st) fun z H3 => ∃ k, z = .bl k ∧ Q k H3 := aft_bnd h fun w st1 x H1 m1 e1 c1 r1 h1 => by
      split at h1
      · rename_i k
        exact ⟨k, rp_bl r1, aft_ok h1 c1 rfl⟩
      · exact h1.elim
    exact ⟨m, sl, st, hs, hc, aft_bnd h fun w1 st1 x H1 m1 e1 c1 r1 h1 => ⟨m1, sl, st1, hs.ext hc e1, c1, aft_bnd h1 fun w2 st2 y H2 m2 e2 c2 r2 h2 => inO_ok hC hn c2 (RpW.ext c1 e2 r1) r2 h2⟩⟩
end
end Dn

/-! data == o, o an own instance: the own def answers. -/
namespace Ft
open PySem PySem.Spec PyProof.Rows PySem.SeqAt PySem.W PySem.Calls
open AutoSeq1 (wpAny_loadPart')
section
variable {K : PySem.W.Frag} {x C : Addr} {ox : Obj} {od : Option Obj}
theorem m_tup (l : Addr) (ol : Obj) (hol : ol.cls = .type "tuple") (hC : PySem.W.subIn K (.ref C) (.type "tuple") = some false) :
    Meets (Builtin.«tuple.__eq__» ⟨[.ref l, .ref x], []⟩) (fun _ R s => K.In s.heap ∧ (s.heap.get? x = some ox ∧ ox.cls = .ref C) ∧ s.heap.get? l = some ol ∧ R (.ok (.ret .notImplemented)) s) :=
  .of_wp fun prog w A R s h => by
    obtain ⟨X, ⟨hx, hc⟩, hl, h⟩ := h
    have f1 := looks_subIn (M := model prog w) X hC
    obtain ⟨hp, g, d, tk, os⟩ := s
    wp_walk using wpAny_loadPart' hl
    rw [hc]
    refine f1.here ?_
    wp_walk
    exact ⟨_, rfl, h⟩
theorem m_dict (l : Addr) (ol : Obj) (hol : ol.cls = .type "dict") (hC : PySem.W.subIn K (.ref C) (.type "dict") = some false) :
    Meets (Builtin.«dict.__eq__» ⟨[.ref l, .ref x], []⟩) (fun _ R s => K.In s.heap ∧ (s.heap.get? x = some ox ∧ ox.cls = .ref C) ∧ s.heap.get? l = some ol ∧ R (.ok (.ret .notImplemented)) s) :=
  .of_wp fun prog w A R s h => by
    obtain ⟨X, ⟨hx, hc⟩, hl, h⟩ := h
    have f1 := looks_subIn (M := model prog w) X hC
    obtain ⟨hp, g, d, tk, os⟩ := s
    wp_walk using wpAny_loadPart' hl
    rw [hc]
    refine f1.here ?_
    wp_walk
    exact ⟨_, rfl, h⟩
theorem m_list (l : Addr) (ol : Obj) (hol : ol.cls = .type "list") (hC : PySem.W.subIn K (.ref C) (.type "list") = some false) :
    Meets (Builtin.«list.__eq__» ⟨[.ref l, .ref x], []⟩) (fun _ R s => K.In s.heap ∧ (s.heap.get? x = some ox ∧ ox.cls = .ref C) ∧ s.heap.get? l = some ol ∧ R (.ok (.ret .notImplemented)) s) :=
  .of_wp fun prog w A R s h => by
    obtain ⟨X, ⟨hx, hc⟩, hl, h⟩ := h
    have f1 := looks_subIn (M := model prog w) X hC
    obtain ⟨hp, g, d, tk, os⟩ := s
    wp_walk using wpAny_loadPart' hl
    rw [hc]
    refine f1.here ?_
    wp_walk
    exact ⟨_, rfl, h⟩
theorem m_str (a : Str) (t : Tok) :
    Meets (Builtin.«str.__eq__» ⟨[.str a t, .ref x], []⟩) (fun _ R s => (s.heap.get? x = some ox ∧ ox.data = .plain) ∧ R (.ok (.ret .notImplemented)) s) :=
  .of_wp fun prog w A R s h => by
    obtain ⟨⟨hx, hd⟩, h⟩ := h
    obtain ⟨hp, g, d, tk, os⟩ := s
    wp_walk
    rw [hd]
    wp_walk
    exact ⟨_, rfl, h⟩
theorem m_int (a : Int) (t : Tok) :
    Meets (Builtin.«int.__eq__» ⟨[.int a t, .ref x], []⟩) (fun _ R s => (s.heap.get? x = some ox ∧ ox.data = .plain) ∧ R (.ok (.ret .notImplemented)) s) :=
  .of_wp fun prog w A R s h => by
    obtain ⟨⟨hx, hd⟩, h⟩ := h
    obtain ⟨hp, g, d, tk, os⟩ := s
    wp_walk
    rw [hd]
    wp_walk
    exact ⟨_, rfl, h⟩
theorem m_bool (a : Bool) :
    Meets (Builtin.«int.__eq__» ⟨[.bool a, .ref x], []⟩) (fun _ R s => (s.heap.get? x = some ox ∧ ox.data = .plain) ∧ R (.ok (.ret .notImplemented)) s) :=
  .of_wp fun prog w A R s h => by
    obtain ⟨⟨hx, hd⟩, h⟩ := h
    obtain ⟨hp, g, d, tk, os⟩ := s
    wp_walk
    rw [hd]
    wp_walk
    exact ⟨_, rfl, h⟩
end
section
variable {prog : Program} {w : World} {A : Around} {E : Value → Shared → Prop} {s : Shared} {K : PySem.W.Frag} {x C f : Addr} {ox : Obj} {od : Option Obj} {u : Value} {T id : String}
theorem rc_refl {Q : Value → Shared → Prop} (hu : A.units < cLine) (ha : s.TypeIs u T) (slot : Slot T (cmpInfo .Eq).2.1 id) (hd : ∀ Q' : Value → Shared → Prop, Q' .notImplemented s → wpAny (model prog w) A (call (.builtin id) [u, .ref x]) Q' E s)
    (X : K.In s.heap) (I : PySem.W.InstAt s.heap x ox C od) (hsub : PySem.W.subIn K (.ref C) (.type T) = some false) (hs : PySem.W.findIn K (.ref C) "__eq__" = some (some (.ref f))) (hf : PySem.W.isFn K (.ref f) = true)
    (h : wpAny (model prog w) A (call (.ref f) [.ref x, u]) (PySem.W.CmpBack Q) E s) : wpAny (model prog w) A (richCompare .Eq u (.ref x)) Q E s := by
  have one : wpAny (model prog w) A (tryCompare (.ref x) (cmpInfo .Eq).2.2 u) (fun r s' => ∃ v, r = some v ∧ Q v s') E s := by
    unfold tryCompare
    refine wpAny_bind (PySem.W.ifBound_K X I hs hf (wpAny_mono h (fun v s' hv => ?_) fun _ _ e => e))
    cases v <;> first | exact hv.elim | exact wpAny_pure ⟨_, rfl, hv⟩
  unfold richCompare
  simp only [ha.oneThing_none]
  refine wpAny_holding (wpAny_bind (wpAny_cRoomFor hu ?_))
  refine wpAny_bind (wpAny_typeOf ha (wpAny_bind (I.type.here ?_)))
  have ne : (Value.type T != Value.ref C) = true := rfl
  simp only [ne, if_true]
  refine wpAny_bind ((looks_subIn X hsub).here ?_)
  simp only [Bool.false_eq_true, if_false, Bool.not_false, if_true]
  refine wpAny_bind (m := tryCompare u _ (.ref x)) (wpAny_tryCompare_declines ha slot (hd _ ⟨rfl, ?_⟩))
  refine wpAny_bind (wpAny_mono one (fun r s' z => ?_) fun _ _ e => e)
  obtain ⟨v, rfl, hq⟩ := z
  exact wpAny_pure hq
end
end Ft
namespace Dn
open PySem PySem.Spec PyProof.Rows L2 Ft LamX StX
section
variable {G : Gx} {X : Cx} {E : WX} {T : List (Addr × Str)} {k : Nat} {c : Str} {ps : List Str} {spec : Spec} {fa fb : Ex} {a b : Expr} {p pos : Pos}
/-- what a == o asks of o's class -/
structure ReflFacts (K : PySem.W.Frag) (C : Addr) : Prop where
  sub : ∀ t ∈ (["NoneType", "bool", "int", "str", "tuple", "list", "dict"] : List String), PySem.W.subIn K (.ref C) (.type t) = some false
def cmpR (c : Str) (spec : Spec) (w1 w2 : W) (st : Sto) : R W := match view st w1, view st w2 with
  | some (.obj _ _), _ => none
  | some _, some (.obj c' _) => if c' = c then bnd (spec [w2, w1] st) fun w st3 => match w with
    | .d (.bl b) => some (.ok (.d (.bl b)), st3)
    | _ => none
    else none
  | _, _ => none
def eCmpR (c : Str) (spec : Spec) (fa fb : Ex) : Ex := fun sl st => bnd (fa sl st) fun w1 st1 => bnd (fb sl st1) fun w2 st2 => cmpR c spec w1 w2 st2
/-- a value that is no own instance, as the heap holds it -/
def Plain1 (G : Gx) (x : V) (H : Hp) : Prop := ∃ m d, RpX G m H x d ∧ ∀ c fs, d ≠ .obj c fs
def rCmpR (G : Gx) (C : Addr) (n : Nat) (spec : Spec) (E : XK) (x y : V) (H : Hp) (Q : VK) : Prop :=
  Plain1 G x H ∧ ∃ a dx fs, y = .ref a ∧ H a = some (.ins C dx fs) ∧ spD G n spec [y, x] H (fun v H' => ∃ b, v = .bl b ∧ Q (.bl b) H') E
theorem cmpR_ok {n : Nat} {C : Addr} {m : M} {H : Hp} {st : Sto} {x y : V} {w1 w2 : W} {Q : VK} {E' : XK} (hC : G.mg c = some (.ref C)) (hn : n = 2)
    (hc : CO G m H st) (r1 : RpW G m H x w1) (r2 : RpW G m H y w2) (h : aft G E' (RpW G) m H (cmpR c spec w1 w2 st) Q) : rCmpR G C n spec E' x y H Q := by
  unfold cmpR at h
  split at h
  · exact h.elim
  · rename_i d1 c' gs h1 h2 h3
    split at h
    · rename_i z1
      subst z1
      obtain ⟨a, C', dx, fs, rfl, hC', ha, _⟩ := (view_ok hc r2 h3).obj
      have : C' = C := by simpa using hC'.symm.trans hC
      subst this
      refine ⟨⟨m, d1, view_ok hc r1 h2, fun c fs e => h1 c fs e⟩, a, dx, fs, rfl, ha, m, [w2, w1], st, .cons r2 (.cons r1 .nil), hc, by rw [hn]; rfl, aft_bnd h fun w3 st3 v H3 m3 e3 c3 r3 h3 => ?_⟩
      split at h3
      · rename_i k
        exact ⟨k, rp_bl r3, aft_ok h3 c3 (.bl _)⟩
      · exact h3.elim
    · exact h.elim
  · exact h.elim
theorem cmpR_run {C f : Addr} {fd : FuncData} {pins : List (Addr × Obj)} {σ : L2.St} {H : Hp} {s : Shared} {x y : V} {u v : Value} {Q : VK} (hK : X.K = G.K)
    (F : FnOk X.prog X.w X.K X.mg X.base (L2.CX X.prog X.w) k f fd ps (spD G ps.length spec)) (hm : Meth X.K C "__eq__" f) (hb : Binds X.K fd ps []) (B : ReflFacts X.K C) (hr : Room k X.A) (tk : Takes X E)
    (I : Inv X pins σ H s) (rx : RelV x v) (ry : RelV y u) (h : rCmpR G C ps.length spec (WE E σ) x y H Q) :
    wpAny (model X.prog X.w) X.A (compareOp .Eq v u) (EP X pins σ Q) X.xe s := by
  obtain ⟨⟨m, d, rd, hd⟩, a, dx, fs, rfl, ha, q⟩ := h
  obtain rfl : u = Value.ref a := ry
  obtain ⟨mA, J, _⟩ := ins_get I.hok ha
  obtain ⟨od, J, _⟩ := J.look
  have hx : s.heap.get? a = some (PySem.W.instObj C dx) ∧ (PySem.W.instObj C dx).cls = .ref C := ⟨J.at_, rfl⟩
  have hp : s.heap.get? a = some (PySem.W.instObj C dx) ∧ (PySem.W.instObj C dx).data = .plain := ⟨J.at_, rfl⟩
  have key : wpAny (model X.prog X.w) X.A (call (.ref f) [.ref a, v]) (PySem.W.CmpBack (EP X pins σ Q)) X.xe s := wpAny_mono (run_at F hb hr I.env0 tk I (.cons (show RelV (.ref a) (.ref a) from rfl) (.cons rx .nil)) q) (fun v s' h => by
    obtain ⟨z, H', I', rz, b, rfl, q⟩ := h
    cases rz
    exact ⟨.bl b, H', I', rfl, q⟩) fun _ _ e => e
  cases d with
  | obj c fs => exact absurd rfl (hd _ _)
  | non =>
    rcases rd with r | ⟨_, _, _, _, e, _⟩ | ⟨_, _, _, _, _, _, _, e, _⟩
    · cases r
      cases rx
      exact Ft.rc_refl hr.units0 (T := "NoneType") rfl PySem.F.slot_NoneType_eq (fun _ hq => call_gives PySem.F.slot_NoneType_eq rfl PySem.F.entry_NoneType_eq (PySem.F.args_NoneType_eq_2 _ _) (PySem.SeqAt.NoneType___eq___none_ref_0 a) hq) I.kIn J (B.sub _ (by decide)) hm.at_ hm.fn key
    · cases e
    · cases e
  | bl k =>
    rcases rd with r | ⟨_, _, _, _, e, _⟩ | ⟨_, _, _, _, _, _, _, e, _⟩
    · cases r
      cases rx
      exact Ft.rc_refl hr.units0 (T := "bool") rfl PySem.F.slot_bool_eq (fun _ hq => call_meets PySem.F.slot_bool_eq rfl PySem.F.entry_int_eq (PySem.F.args_int_eq_2 _ _) (Ft.m_bool k) ⟨hp, hq⟩) I.kIn J (B.sub _ (by decide)) hm.at_ hm.fn key
    · cases e
    · cases e
  | int i =>
    rcases rd with r | ⟨_, _, _, _, e, _⟩ | ⟨_, _, _, _, _, _, _, e, _⟩
    · cases r
      obtain ⟨t, rfl⟩ := rx
      exact Ft.rc_refl hr.units0 (T := "int") rfl PySem.F.slot_int_eq (fun _ hq => call_meets PySem.F.slot_int_eq rfl PySem.F.entry_int_eq (PySem.F.args_int_eq_2 _ _) (Ft.m_int i t) ⟨hp, hq⟩) I.kIn J (B.sub _ (by decide)) hm.at_ hm.fn key
    · cases e
    · cases e
  | str i =>
    rcases rd with r | ⟨_, _, _, _, e, _⟩ | ⟨_, _, _, _, _, _, _, e, _⟩
    · cases r
      obtain ⟨t, rfl⟩ := rx
      exact Ft.rc_refl hr.units0 (T := "str") rfl PySem.F.slot_str_eq (fun _ hq => call_meets PySem.F.slot_str_eq rfl PySem.F.entry_str_eq (PySem.F.args_str_eq_2 _ _) (Ft.m_str i t) ⟨hp, hq⟩) I.kIn J (B.sub _ (by decide)) hm.at_ hm.fn key
    · cases e
    · cases e
  | tup ds =>
    obtain ⟨b, xs, rfl, h1, _⟩ := rd.tup
    obtain rfl : v = Value.ref b := rx
    obtain ⟨its, _, ⟨ol, hl, hc, _⟩, _⟩ := I.tuple (show SqT X.K H b xs from .inl (.inl h1))
    exact Ft.rc_refl hr.units0 (T := "tuple") ⟨ol, hl, hc⟩ PySem.F.slot_tuple_eq (fun _ hq => call_meets PySem.F.slot_tuple_eq ⟨ol, hl, hc⟩ PySem.F.entry_tuple_eq (PySem.F.args_tuple_eq_2 _ _) (Ft.m_tup b ol hc (B.sub _ (by decide))) ⟨I.kIn, hx, hl, hq⟩) I.kIn J (B.sub _ (by decide)) hm.at_ hm.fn key
  | lst ds =>
    obtain ⟨b, xs, rfl, h1, _⟩ := rd.lst
    obtain rfl : v = Value.ref b := rx
    obtain ⟨its, _, ⟨ol, n, hl, hc, _⟩, _⟩ := I.list (show SqL X.K H b xs from .inl (.inl h1))
    exact Ft.rc_refl hr.units0 (T := "list") ⟨ol, hl, hc⟩ PySem.F.slot_list_eq (fun _ hq => call_meets PySem.F.slot_list_eq ⟨ol, hl, hc⟩ PySem.F.entry_list_eq (PySem.F.args_list_eq_2 _ _) (Ft.m_list b ol hc (B.sub _ (by decide))) ⟨I.kIn, hx, hl, hq⟩) I.kIn J (B.sub _ (by decide)) hm.at_ hm.fn key
  | emp =>
    rcases rd with r | ⟨_, _, _, _, e, _⟩ | ⟨_, _, _, _, _, _, _, e, _⟩
    · cases r with
      | @emp b e _ =>
        obtain rfl : v = Value.ref b := rx
        obtain ⟨_, _, vs, _, o, es, ep, hl, h2, _⟩ := (show ObjOk X.prog X.w H s.heap b (.dK []) from I.hok b _ e)
        exact Ft.rc_refl hr.units0 (T := "dict") ⟨o, hl, h2.1⟩ PySem.F.slot_dict_eq (fun _ hq => call_meets PySem.F.slot_dict_eq ⟨o, hl, h2.1⟩ PySem.F.entry_dict_eq (PySem.F.args_dict_eq_2 _ _) (Ft.m_dict b o h2.1 (B.sub _ (by decide))) ⟨I.kIn, hx, hl, hq⟩) I.kIn J (B.sub _ (by decide)) hm.at_ hm.fn key
    · cases e
    · cases e
theorem dx_cmpR (F : HasMd X.prog X.w X.K X.mg X.base T k c "__eq__" ps spec) (B : ∀ C, X.mg c = some (.ref C) → ReflFacts X.K C)
    (ha : DE ⟨X.K, X.mg, T⟩ X E a fa) (hb' : DE ⟨X.K, X.mg, T⟩ X E b fb) (hr : Room k X.A) (tk : Takes X E) (hm' : behindInMarks .Eq b = false) (hn : ps.length = 2 := by rfl) :
    DE ⟨X.K, X.mg, T⟩ X E (.Compare a [.Eq] [b] pos) (eCmpR c spec fa fb) := by
  obtain ⟨C, hC, F⟩ := F
  obtain ⟨f, fd, F', hm, hb⟩ := F.ex
  refine PE.imp (t := fun σ H Q => rE ⟨X.K, X.mg, T⟩ E fa σ H fun x H1 => rE ⟨X.K, X.mg, T⟩ E fb σ H1 fun y H2 => rCmpR ⟨X.K, X.mg, T⟩ C ps.length spec (WE E σ) x y H2 Q) ⟨fun pins s σ H Q I h => ?_⟩ fun σ H Q h => ?_
  · refine wpAny_Compare1 (thn (ha.run pins s σ H _ I h) fun v s1 ⟨x, H1, I1, r1, q1⟩ => thn (hb'.run pins s1 σ H1 _ I1 q1) fun u s2 ⟨y, H2, I2, r2, q2⟩ => ?_) hm'
    exact cmpR_run rfl F' hm hb (B C hC) hr tk I2 r1 r2 q2
  · obtain ⟨m, sl, st, hs, hc, h⟩ := h
    exact ⟨m, sl, st, hs, hc, aft_bnd h fun w1 st1 x H1 m1 e1 c1 r1 h1 => ⟨m1, sl, st1, hs.ext hc e1, c1, aft_bnd h1 fun w2 st2 y H2 m2 e2 c2 r2 h2 => cmpR_ok hC hn c2 (RpW.ext c1 e2 r1) r2 h2⟩⟩
end
end Dn
namespace Dn
open PySem PySem.Spec PyProof.Rows L2 Ft LamX StX
section
variable {c : Str} {spec : Spec} {neg : Bool} {conv : D → Option D} {fa fb fe : Ex} {sl : Slo} {st : Sto} {QW : W → Sto → Prop} {QB : Bool → Sto → Prop} {X : XP}
def kOwn2 (conv : D → Option D) (QW : W → Sto → Prop) (r : W) (st2 : Sto) : Prop := wpd r fun d => wpo (conv d) fun d' => QW (.d d') st2
def kOwn1 (c : Str) (spec : Spec) (conv : D → Option D) (QW : W → Sto → Prop) (X : XP) (w : W) (st1 : Sto) : Prop := wpo (view st1 w) fun d => wpj d fun c' _ => c' = c ∧ wp (spec [w] st1) (kOwn2 conv QW) X
theorem kOwn2_ap {r : W} {st2 : Sto} : kOwn2 conv QW r st2 = wpd r fun d => wpo (conv d) fun d' => QW (.d d') st2 := rfl
theorem kOwn1_ap {w : W} {st1 : Sto} : kOwn1 c spec conv QW X w st1 = wpo (view st1 w) fun d => wpj d fun c' _ => c' = c ∧ wp (spec [w] st1) (kOwn2 conv QW) X := rfl
theorem wp_own1 : wp (eOwn1 c spec conv fe sl st) QW X = wp (fe sl st) (kOwn1 c spec conv QW X) X := by
  unfold eOwn1
  rw [wp_bnd]
  congr; funext w st1
  unfold kOwn1
  cases view st1 w with
  | none => rfl
  | some d =>
    cases d with
    | obj c' gs =>
      simp only [wpo_some, wpj]
      by_cases h : c' = c
      · simp only [h, if_true, true_and, wp_bnd]
        congr; funext r st2
        unfold kOwn2
        cases r with
        | d d => exact wp_pr
        | _ => rfl
      · simp only [h, if_false, false_and]
        rfl
    | _ => rfl
theorem convLen_i {n : Int} : convLen (.int n) = if 0 ≤ n ∧ n ≤ 100000 then some (.int n) else none := rfl
theorem convBool_i {n : Int} : convBool (.int n) = if 0 ≤ n ∧ n ≤ 100000 then some (.bl (n != 0)) else none := rfl
theorem convStr_s {y : Str} : convStr (.str y) = some (.str y) := rfl
def kInO2 (c : Str) (spec : Spec) (neg : Bool) (QW : W → Sto → Prop) (X : XP) (w1 w2 : W) (st2 : Sto) : Prop := wpo (view st2 w2) fun d => wpj d fun c' _ => c' = c ∧ wp (spec [w2, w1] st2) (kCmpO3 neg QW) X
def kInO1 (c : Str) (spec : Spec) (neg : Bool) (fb : Ex) (sl : Slo) (QW : W → Sto → Prop) (X : XP) (w1 : W) (st1 : Sto) : Prop := wp (fb sl st1) (kInO2 c spec neg QW X w1) X
theorem kInO2_ap {w1 w2 : W} {st2 : Sto} : kInO2 c spec neg QW X w1 w2 st2 = wpo (view st2 w2) fun d => wpj d fun c' _ => c' = c ∧ wp (spec [w2, w1] st2) (kCmpO3 neg QW) X := rfl
theorem kInO1_ap {w1 : W} {st1 : Sto} : kInO1 c spec neg fb sl QW X w1 st1 = wp (fb sl st1) (kInO2 c spec neg QW X w1) X := rfl
theorem wp_inO : wp (eInO c spec neg fa fb sl st) QW X = wp (fa sl st) (kInO1 c spec neg fb sl QW X) X := by
  unfold eInO
  rw [wp_bnd]
  congr; funext w1 st1
  rw [wp_bnd]
  unfold kInO1
  congr; funext w2 st2
  unfold inO kInO2
  cases view st2 w2 with
  | none => rfl
  | some d =>
    cases d with
    | obj c' gs =>
      simp only [wpo_some, wpj]
      by_cases h : c' = c
      · simp only [h, if_true, true_and, wp_bnd]
        congr; funext w st3
        unfold kCmpO3
        cases w with
        | d x => cases x <;> rfl
        | _ => rfl
      · simp only [h, if_false, false_and]
        rfl
    | _ => rfl
theorem wp_tInO : wp (tInO c spec neg fa fb sl st) QB X = wp (fa sl st) (kInO1 c spec neg fb sl (kCmpOT QB) X) X := by
  rw [← wp_inO]
  unfold tInO
  rw [wp_bnd]
  congr; funext w st3
  unfold kCmpOT
  cases w with
  | d x => cases x <;> rfl
  | _ => rfl
def isPl : D → Bool
  | .obj _ _ => false
  | _ => true
def kCmpR2 (c : Str) (spec : Spec) (QW : W → Sto → Prop) (X : XP) (w1 w2 : W) (st2 : Sto) : Prop := wpo (view st2 w1) fun d1 => isPl d1 = true ∧ wpo (view st2 w2) fun d => wpj d fun c' _ => c' = c ∧ wp (spec [w2, w1] st2) (kCmpOT fun b st3 => QW (.d (.bl b)) st3) X
def kCmpR1 (c : Str) (spec : Spec) (fb : Ex) (sl : Slo) (QW : W → Sto → Prop) (X : XP) (w1 : W) (st1 : Sto) : Prop := wp (fb sl st1) (kCmpR2 c spec QW X w1) X
theorem kCmpR2_ap {w1 w2 : W} {st2 : Sto} : kCmpR2 c spec QW X w1 w2 st2 = wpo (view st2 w1) fun d1 => isPl d1 = true ∧ wpo (view st2 w2) fun d => wpj d fun c' _ => c' = c ∧ wp (spec [w2, w1] st2) (kCmpOT fun b st3 => QW (.d (.bl b)) st3) X := rfl
theorem kCmpR1_ap {w1 : W} {st1 : Sto} : kCmpR1 c spec fb sl QW X w1 st1 = wp (fb sl st1) (kCmpR2 c spec QW X w1) X := rfl
theorem wp_cmpR : wp (eCmpR c spec fa fb sl st) QW X = wp (fa sl st) (kCmpR1 c spec fb sl QW X) X := by
  unfold eCmpR
  rw [wp_bnd]
  congr; funext w1 st1
  rw [wp_bnd]
  unfold kCmpR1
  congr; funext w2 st2
  unfold cmpR kCmpR2
  cases view st2 w1 with
  | none => rfl
  | some d1 =>
    have key : ∀ o : Option D, wp (match o with
      | some (.obj c' _) => if c' = c then bnd (spec [w2, w1] st2) fun w st3 => match w with
        | .d (.bl b) => some (.ok (.d (.bl b)), st3)
        | _ => none
        else none
      | _ => none) QW X = wpo o fun d => wpj d fun c' _ => c' = c ∧ wp (spec [w2, w1] st2) (kCmpOT fun b st3 => QW (.d (.bl b)) st3) X := by
      intro o
      cases o with
      | none => rfl
      | some d =>
        cases d with
        | obj c' gs =>
          simp only [wpo_some, wpj]
          by_cases h : c' = c
          · simp only [h, if_true, true_and, wp_bnd]
            congr; funext w st3
            unfold kCmpOT
            cases w with
            | d x => cases x <;> rfl
            | _ => rfl
          · simp only [h, if_false, false_and]
            rfl
        | _ => rfl
    have k2 := key (view st2 w2)
    simp only [wpo_some]
    cases d1 with
    | obj c' gs => cases view st2 w2 <;> simp [isPl] <;> exact id
    | _ =>
      rw [← k2]
      simp only [isPl, true_and]
      cases view st2 w2 with
      | none => rfl
      | some d => cases d <;> rfl
end
end Dn

/-! f-strings, xs.extend(ys), a tuple turned round, {}. -/
namespace HT
open PySem PySem.Spec PyProof.Rows
section
variable {prog : Program} {w : World} {A : Around} {E : Value → Shared → Prop} {s : Shared}
theorem places_rev (n : Nat) : Builtin.Slice.slicePlaces ((n : Int) - 1) (-1) (-1) = n := by
  unfold Builtin.Slice.slicePlaces
  have h1 : ¬ ((-1 : Int) > 0) := by omega
  simp only [h1, if_false, show (-(-1) : Int) = 1 by decide, Int.ediv_one]
  split <;> omega
theorem sliceApplied_rev {sl : Addr} {vs : Value} {n : Nat} {Q : Int × Int × Nat → Shared → Prop} (hs : s.heap.IsSliceOf sl .none .none vs) (ps : IsPart vs (some (-1)))
    (h : Q ((n : Int) - 1, -1, n) s) : wpAny (model prog w) A (Builtin.Slice.sliceApplied (.ref sl) (pure (n : Int))) Q E s := by
  obtain ⟨os, hos, hcs, hds⟩ := id hs
  unfold Builtin.Slice.sliceApplied Builtin.Slice.sliceFields
  refine wpAny_bind (wpAny_bind (wpAny_field hos hds (x := .none) rfl (wpAny_bind (wpAny_field hos hds (x := .none) rfl (wpAny_bind (wpAny_field hos hds (x := vs) rfl (wpAny_pure ?_)))))))
  refine wpAny_bind (slicePart_ ps ?_)
  show wpAny _ _ (if ((-1 : Int) == 0) = true then _ else _) _ _ s
  rw [if_neg (by decide)]
  refine wpAny_bind (slicePart_ .none (wpAny_bind (slicePart_ .none (wpAny_bind (wpAny_pure ?_)))))
  show wpAny _ _ (pure ((n : Int) - 1, (-1 : Int), Builtin.Slice.slicePlaces ((n : Int) - 1) (-1) (-1))) _ _ s
  rw [places_rev]
  exact wpAny_pure h
theorem fm_congr {α β : Type} {f g : α → Option β} : ∀ {l : List α}, (∀ x ∈ l, f x = g x) → l.filterMap f = l.filterMap g
  | [], _ => rfl
  | x :: l, h => by
    rw [List.filterMap_cons, List.filterMap_cons, h x (.head _), fm_congr fun y hy => h y (.tail _ hy)]
theorem pick_rev (xs : Array Value) : ((List.range xs.size).filterMap fun (m : Nat) => xs[(((xs.size : Int) - 1) + (m : Int) * (-1)).toNat]?).toArray = xs.toList.reverse.toArray := by
  congr 1
  have e : (List.range xs.size).filterMap (fun (m : Nat) => xs[(((xs.size : Int) - 1) + (m : Int) * (-1)).toNat]?) = ((List.range xs.size).map fun k => xs.size - 1 - k).filterMap (xs[·]?) := by
    rw [List.filterMap_map]
    refine fm_congr fun m hm => ?_
    have := List.mem_range.mp hm
    show xs[(((xs.size : Int) - 1) + (m : Int) * (-1)).toNat]? = xs[xs.size - 1 - m]?
    have e : (((xs.size : Int) - 1) + (m : Int) * (-1)).toNat = xs.size - 1 - m := by omega
    rw [e]
  rw [e, PySem.W.krv_range, List.filterMap_reverse, PySem.W.krv_all]
theorem getItem_tuple_rev {t sl : Addr} {items : Array Value} {vs : Value} {Q : Value → Shared → Prop} (ht : IsTup s.heap t items) (hs : s.heap.IsSliceOf sl .none .none vs) (ps : IsPart vs (some (-1)))
    (h : Q (.ref s.heap.objs.size) { s with heap := s.heap.push { cls := .type "tuple", data := .seq items.toList.reverse.toArray } })
    (hsz : items.size ≤ sizeLine) : wpAny (model prog w) A (getItem (.ref t) (.ref sl)) Q E s := by
  have htake : sizeOk (.seq items.toList.reverse.toArray) := by
    show items.toList.reverse.toArray.size ≤ sizeLine
    rw [List.size_toArray, List.length_reverse, Array.length_toList]
    omega
  obtain ⟨os, hos, hcs, hds⟩ := id hs
  have hTs : s.TypeIs (.ref sl) "slice" := ⟨os, hos, hcs⟩
  unfold getItem
  try with_reducible refine wpAny_holding ?_
  first | refine wpAny_bind (wpAny_pure ?_) | skip
  refine wpAny_bind (wpAny_sequenceKey ht.typeIs (by decide) ?_)
  refine wpAny_bind (wpAny_callSpecial?_slot (name := Str.ofString "__getitem__") ht.typeIs PyProof.Rows.slot_tuple_getitem
    (wpAny_call_entry PyProof.Rows.slot_tuple_getitem ht.typeIs entry_tuple_getitem ?_ (args_tuple_getitem _ _)))
  show wpAny _ _ (Builtin.Tuple.tupleItemsOf (.ref t) >>= _) _ _ s
  refine wpAny_bind (tupleItemsOf_ ht ?_)
  refine wpAny_bind (wpAny_typeOf hTs ?_)
  rw [if_pos (by decide)]
  refine wpAny_bind (sliceApplied_rev hs ps ?_)
  have hno : ¬ ((((items.size : Int) - 1) == 0 && (-1 : Int) == 1 && items.size == items.size) = true) := by
    rw [show ((-1 : Int) == 1) = false by decide, Bool.and_false, Bool.false_and]
    exact Bool.false_ne_true
  show wpAny _ _ (if (((items.size : Int) - 1) == 0 && (-1 : Int) == 1 && items.size == items.size) = true then _ else _) _ _ s
  rw [if_neg hno, pick_rev]
  first
    | exact wpAny_bind (m := Builtin.Tuple.tupleExact _) (wpAny_newObj_type (wpAny_pure ⟨_, rfl, wpAny_pure h⟩) htake)
    | exact wpAny_bind (m := Builtin.Tuple.tupleExact _) (wpAny_newObj_type (wpAny_bind (wpAny_pure (wpAny_pure ⟨_, rfl, wpAny_pure h⟩))) htake)
    | exact wpAny_bind (wpAny_bind (m := Builtin.Tuple.tupleExact _) (wpAny_newObj_type (wpAny_pure (wpAny_pure ⟨_, rfl, wpAny_pure h⟩)) htake))
    | exact wpAny_bind (wpAny_bind (m := Builtin.Tuple.tupleExact _) (wpAny_newObj_type (wpAny_pure ⟨_, rfl, wpAny_pure h⟩) htake))
end
end HT
namespace Dn
open PySem PySem.Spec PyProof.Rows L2 Ft LamX StX
section
variable {X : Cx}
def tRevT (K : PySem.W.Frag) (te : TE) : TE := fun σ H Q => te σ H fun x H1 => ∃ a xs, x = .ref a ∧ SqT K H1 a xs ∧ ∀ p, H1 p = none → Q (.ref p) (upd H1 p (.tup xs.reverse))
theorem pe_revT {e : Expr} {te : TE} {k : Nat} {p1 p2 p3 pos : Pos} (he : PE X e te) : PE X (.Subscript e (.Slice none none (some (.UnaryOp .USub (.Constant (.int 1) k p1) p2)) p3) pos) (tRevT X.K te) := by
  refine ⟨fun pins s σ H Q I h => ?_⟩
  refine Subscript_ (thn (he.run pins s σ H _ I h) fun v s1 ⟨x, H1, I1, r1, q1⟩ => ?_)
  obtain ⟨a, xs, ex, hx, q⟩ := q1
  subst ex
  cases r1
  have hst : PO X (some (.UnaryOp .USub (.Constant (.int 1) k p1) p2)) (tPart (tUn (rU fun i => .int (-i)) (tC (.int 1)))) := po_some (pe_un un_neg pe_int)
  refine wpAny_Slice (thn (po_none.run pins s1 σ H1 (fun o H2 => o = none ∧ H2 = H1) I1 ⟨rfl, rfl⟩) fun vl s2 ⟨l, H2, I2, pl, el, e2⟩ => ?_)
  subst el e2
  refine thn (po_none.run pins s2 σ H2 (fun o H3 => o = none ∧ H3 = H2) I2 ⟨rfl, rfl⟩) fun vu s3 ⟨u, H3, I3, pu, eu, e3⟩ => ?_
  subst eu e3
  refine thn (hst.run pins s3 σ H3 (fun o H4 => o = some (-1) ∧ H4 = H3) I3 ⟨1, rfl, -1, rfl, rfl, rfl⟩) fun vs s4 ⟨o, H4, I4, ps, eo, e4⟩ => ?_
  subst eo e4
  have I5 : Inv X pins σ H4 { s4 with heap := s4.heap.push { cls := .type "slice", data := .fields #[vl, vu, vs] } } := I4.kept (t' := s4.toks) fun b ob q => Heap.get?_push_of_some _ q
  obtain ⟨its, r, ht, hz⟩ := I5.tuple hx
  have hlen := r.length
  cases pl
  cases pu
  show wpAny (model X.prog X.w) X.A (subscriptTail e (.Slice none none (some (.UnaryOp .USub (.Constant (.int 1) k p1) p2)) p3) (.ref a) (.ref s4.heap.objs.size)) (EP X pins σ Q) X.xe { s4 with heap := s4.heap.push { cls := .type "slice", data := .fields #[.none, .none, vs] } }
  refine tail_any (ops := [.ref a, .ref s4.heap.objs.size]) ht.typeIs (PyProof.Rows.slot_tuple_getitem.lookup) ?_ (by with_unfolding_all rfl)
  refine HT.getItem_tuple_rev ht (Heap.IsSliceOf.new _ .none .none vs) ps ?_ (by rw [List.size_toArray]; omega)
  refine ⟨.ref _, _, I5.laid (t' := s4.toks) (o := .tup xs.reverse) (fun b ob q => Heap.get?_push_of_some _ q) (Nat.le_refl _) ?_, rfl, q _ (I5.hok.fresh (Nat.le_refl _))⟩
  exact ⟨by rw [List.length_reverse]; exact hz, its.reverse, r.reverse, IsTup.new _ _⟩
end
def wpdl (d : D) (k : List D → Prop) : Prop := match d with
  | .lst x => k x
  | _ => False
theorem wpdl_l {ds : List D} {k : List D → Prop} : wpdl (.lst ds) k = k ds := rfl
section
variable {G : Gx} {X : Cx} {E : WX} {m m' : M} {H H' : Hp} {e o i v : Expr} {es : List Expr} {fe fo fi fv fa : Ex} {fr : Ax} {pos p apos : Pos} {sl : Slo} {st : Sto} {QW : W → Sto → Prop} {QA : List W → Sto → Prop} {XQ : XP}
/-! ### {} -/
theorem de_emp : DE G X E (.Dict [] [] pos) (eC .emp) := PE.imp pe_dnewK fun σ H Q h => by
  obtain ⟨m, sl, st, hs, hc, h⟩ := h
  intro p hp
  exact h (.ref p) _ m (Ext.of_same (same_new hp)) (hc.same (same_new hp)) (rpd (.emp upd_same (hc.new_na (.none hp))))
/-! ### f-strings -/
def gFmt : D → Option D
  | .str y => some (.str y)
  | .int n => if n.natAbs.log2 < 1920 ∧ (Str.ofString (toString n)).length ≤ lim then some (.str (Str.ofString (toString n))) else none
  | _ => none
theorem de_fmt (he : DE G X E e fe) : DE G X E (.FormattedValue e (-1) none pos) (eUn gFmt fe) := by
  refine PE.imp (pe_fmt he) ?_
  rintro σ H Q ⟨m, sl, st, hs, hc, h⟩
  refine ⟨m, sl, st, hs, hc, aft_bnd h fun w st1 v H1 m1 e1 c1 r1 h1 => ?_⟩
  unfold lift1 at h1
  split at h1
  · rename_i d hd
    obtain ⟨d', e2, q⟩ := aft_pr c1 h1
    have rx := view_ok c1 r1 hd
    cases d with
    | str y =>
      cases e2
      exact .inl ⟨y, rx.str, lim_le rx.slen, gv q (.str _ rx.slen)⟩
    | int n =>
      unfold gFmt at e2
      simp only at e2
      split at e2
      · rename_i hn
        cases e2
        exact .inr ⟨n, rx.int, hn.1, gv q (.str _ hn.2)⟩
      · cases e2
    | _ => cases e2
  · exact h1.elim
def gRevT : D → Option D
  | .tup ds => some (.tup ds.reverse)
  | _ => none
theorem gRevT_t {ds : List D} : gRevT (.tup ds) = some (.tup ds.reverse) := rfl
theorem de_revT {k : Nat} {p1 p2 p3 pos : Pos} (he : DE G X E e fe) (hK : X.K = G.K := by rfl) : DE G X E (.Subscript e (.Slice none none (some (.UnaryOp .USub (.Constant (.int 1) k p1) p2)) p3) pos) (eUn gRevT fe) := by
  refine PE.imp (pe_revT he) ?_
  rintro σ H Q ⟨m, sl, st, hs, hc, h⟩
  refine ⟨m, sl, st, hs, hc, aft_bnd h fun w st1 v H1 m1 e1 c1 r1 h1 => ?_⟩
  unfold lift1 at h1
  split at h1
  · rename_i d hd
    obtain ⟨d', e2, q⟩ := aft_pr c1 h1
    have rx := view_ok c1 r1 hd
    cases d with
    | tup ds =>
      cases e2
      obtain ⟨a, xs, rfl, h2, h3⟩ := rx.tup
      exact ⟨a, xs, rfl, .inl (.inl h2), fun p hp => q _ _ (same_new hp) (rp_tup hp (by rw [List.length_reverse]; exact rx.tlen) h3.rev)⟩
    | _ => cases e2
  · exact h1.elim
/-! f-strings of several parts -/
abbrev Jx := Str → Slo → Sto → R W
def jNil : Jx := fun acc _ st => if acc.length ≤ lim then some (.ok (.d (.str acc)), st) else none
def jCons (fe : Ex) (fj : Jx) : Jx := fun acc sl st => bnd (fe sl st) fun w st1 => match w with
  | .d (.str y) => if (acc ++ y).length ≤ lim then fj (acc ++ y) sl st1 else none
  | _ => none
def DJ (G : Gx) (X : Cx) (E : WX) (es : List Expr) (fj : Jx) : Prop := ∃ ts, PJ X es ts ∧ ∀ acc σ H Q, rE G E (fj acc) σ H Q → tJs ts acc σ H fun out H1 => Q (.str out) H1
theorem dj_nil : DJ G X E [] jNil := ⟨[], .nil, fun acc σ H Q ⟨m, sl, st, hs, hc, h⟩ => by
  unfold jNil at h
  split at h
  · rename_i hl
    exact aft_ok h hc (show RpW G m H (.str acc) (.d (.str acc)) from rpd (.str _ hl))
  · exact h.elim⟩
theorem dj_cons {fj : Jx} (he : DE G X E e fe) (hj : DJ G X E es fj) : DJ G X E (e :: es) (jCons fe fj) := by
  obtain ⟨ts, hp, hj⟩ := hj
  refine ⟨_, .cons he hp, fun acc σ H Q ⟨m, sl, st, hs, hc, h⟩ => ?_⟩
  refine ⟨m, sl, st, hs, hc, aft_bnd h fun w st1 v H1 m1 e1 c1 r1 h1 => ?_⟩
  split at h1
  · rename_i y
    split at h1
    · rename_i hl
      obtain rfl : v = .str y := by cases r1; rfl
      exact ⟨y, rfl, lim_le hl, hj (acc ++ y) σ H1 Q ⟨m1, sl, st1, hs.ext hc e1, c1, h1⟩⟩
    · exact h1.elim
  · exact h1.elim
def eJoined (fj : Jx) : Ex := fj Str.empty
theorem de_joined {v1 v2 : Expr} {rest : List Expr} {fj : Jx} (h : DJ G X E (v1 :: v2 :: rest) fj) : DE G X E (.JoinedStr (v1 :: v2 :: rest) pos) (eJoined fj) := by
  obtain ⟨ts, hp, hj⟩ := h
  exact PE.imp (pe_joined hp) fun σ H Q h => hj _ σ H Q h
theorem de_joined1 (he : DE G X E e fe) : DE G X E (.JoinedStr [e] pos) fe := pe_joined1 he
def kJn (fj : Jx) (acc : Str) (sl : Slo) (QW : W → Sto → Prop) (XQ : XP) (w : W) (st1 : Sto) : Prop := wpd w fun d => wps1 d fun y => (acc ++ y).length ≤ lim ∧ wp (fj (acc ++ y) sl st1) QW XQ
theorem kJn_ap {fj : Jx} {acc : Str} {w : W} {st1 : Sto} : kJn fj acc sl QW XQ w st1 = wpd w fun d => wps1 d fun y => (acc ++ y).length ≤ lim ∧ wp (fj (acc ++ y) sl st1) QW XQ := rfl
theorem wp_jCons {fj : Jx} {acc : Str} : wp (jCons fe fj acc sl st) QW XQ = wp (fe sl st) (kJn fj acc sl QW XQ) XQ := by
  unfold jCons
  rw [wp_bnd]
  congr; funext w st1
  unfold kJn
  cases w with
  | d x =>
    cases x with
    | str y =>
      simp only [wpd, wps1]
      by_cases h : (acc ++ y).length ≤ lim
      · simp only [h, if_true, true_and]
      · simp only [h, if_false, false_and]; rfl
    | _ => rfl
  | _ => rfl
theorem wp_jNil {acc : Str} : wp (jNil acc sl st) QW XQ = (acc.length ≤ lim ∧ QW (.d (.str acc)) st) := by
  unfold jNil
  by_cases h : acc.length ≤ lim
  · simp only [h, if_true, true_and]; rfl
  · simp only [h, if_false, false_and]; rfl
theorem wp_joined {fj : Jx} : wp (eJoined fj sl st) QW XQ = wp (fj Str.empty sl st) QW XQ := rfl
theorem gFmt_s {y : Str} : gFmt (.str y) = some (.str y) := rfl
theorem gFmt_i {n : Int} : gFmt (.int n) = if n.natAbs.log2 < 1920 ∧ (Str.ofString (toString n)).length ≤ lim then some (.str (Str.ofString (toString n))) else none := rfl
/-! ### xs.extend(ys) -/
def eExtend (fo fe : Ex) : Ex := fun sl st => bnd (fo sl st) fun w st1 => bnd (fe sl st1) fun x st2 => match w, x with
  | .c n, .d (.lst zs) => (match st2[n]? with
    | some (.lst ds) => if ds.length + zs.length ≤ lim then some (.ok (.d .non), st2.set n (.lst (ds ++ zs))) else none
    | _ => none)
  | _, _ => none
theorem de_extend (ho : DE G X E o fo) (he : DE G X E e fe) (hbase : attributeBase o "extend" X.env (eval o X.env) = eval o X.env := by rfl)
    (hfew : ((backTo pos (starEach (e :: []) X.env)).all (fun x => !x.1) && (backToKw pos (keywordEach [] X.env)).all (fun x => x.1.isSome)
      && decide ((e :: ([] : List Expr)).length + ([] : List Keyword).length + (if ([] : List Keyword).isEmpty then 0 else 1) < 30)) = true := by rfl)
    (hline : (apos.endLine == pos.line) = true := by rfl) (hs : starEach (e :: []) X.env = (false, eval e X.env) :: starEach [] X.env := by rfl) (hplain : (backTo pos (starEach [] X.env)).any (·.1) = false := by rfl) :
    DE G X E (.Call (.Attribute o "extend" apos) [e] [] pos) (eExtend (isCell fo) fe) := by
  refine PE.imp (pe_bm PySem.F.plainAttrs_list PySem.F.slot_list_extend PySem.F.type_list_extend mt_extend ho (pa_cons he pa_nil hs) hbase hfew hline hs hplain) ?_
  rintro σ H Q ⟨m, sl, st, hs, hc, h⟩
  unfold eExtend isCell at h
  cases hf : fo sl st with
  | none => rw [hf] at h; exact h.elim
  | some r =>
    obtain ⟨r, st1⟩ := r
    refine ⟨m, sl, st, hs, hc, ?_⟩
    rw [hf] at h ⊢
    cases r with
    | exc c fs => exact h
    | ok w =>
      intro x H1 m1 e1 c1 r1
      cases w with
      | d x => exact h.elim
      | scr ns => exact h.elim
      | t l => exact h.elim
      | c n =>
        simp only [bnd_ok] at h
        cases hn : st1[n]? with
        | none => rw [hn] at h; exact h.elim
        | some cl =>
          rw [hn] at h
          cases cl with
          | ins _ _ => exact h.elim
          | lst ds0 =>
            simp only [bnd_ok] at h
            obtain ⟨a, ha, rfl⟩ := r1
            obtain ⟨xs0, q0, _⟩ := cell_at c1 ha hn
            refine ⟨list_tyV q0, m1, sl, st1, hs.ext hc e1, c1, ?_⟩
            have h' := aft.ext e1 h
            refine aft_bnd h' fun x st2 y H2 m2 e2 c2 r2 h2 => ?_
            have ha2 := ext_ix e2 ha
            split at h2
            · rename_i n' zs z
              cases z
              split at h2
              · rename_i ds hs2
                split at h2
                · rename_i hl
                  obtain ⟨xs, q1, q2⟩ := cell_at c2 ha2 hs2
                  obtain ⟨b, ys, rfl, q3, q4⟩ := RpX.lst (.inl r2)
                  refine ⟨a, b, xs, ys, rfl, rfl, q1, q3, by rw [q2.len, q4.len]; exact lim_le hl, ?_⟩
                  have x3 := ext_write (o := .lst (xs ++ ys)) c2 nt_lst ha2
                  exact h2 .non _ m2 x3 (c2.write ha2 ⟨by rw [List.length_append]; exact hl, _, upd_same, (q2.ext c2 x3).app (q4.ext c2 x3)⟩) (rpd .non)
                · exact h2.elim
              · exact h2.elim
            · exact h2.elim
def kExt2 (w : W) (QW : W → Sto → Prop) (x : W) (st2 : Sto) : Prop := wpc w fun n => wpd x fun d => wpdl d fun zs => wpo st2[n]? fun c => wpl c fun ds => ds.length + zs.length ≤ lim ∧ QW (.d .non) (st2.set n (.lst (ds ++ zs)))
def kExt1 (fe : Ex) (sl : Slo) (QW : W → Sto → Prop) (XQ : XP) (w : W) (st1 : Sto) : Prop := wp (fe sl st1) (kExt2 w QW) XQ
theorem kExt2_ap {w x : W} {st2 : Sto} : kExt2 w QW x st2 = wpc w fun n => wpd x fun d => wpdl d fun zs => wpo st2[n]? fun c => wpl c fun ds => ds.length + zs.length ≤ lim ∧ QW (.d .non) (st2.set n (.lst (ds ++ zs))) := rfl
theorem kExt1_ap {w : W} {st1 : Sto} : kExt1 fe sl QW XQ w st1 = wp (fe sl st1) (kExt2 w QW) XQ := rfl
theorem wp_ext : wp (eExtend fo fe sl st) QW XQ = wp (fo sl st) (kExt1 fe sl QW XQ) XQ := by
  unfold eExtend
  simp only [wp_bnd]
  unfold kExt1
  congr; funext w st1; congr; funext x st2
  unfold kExt2
  cases w with
  | c n => cases x with
    | d x =>
      cases x with
      | lst zs =>
        simp only [wpc, wpd, wpdl]
        cases st2[n]? with
        | none => rfl
        | some cc => cases cc with
          | lst ds =>
            simp only [wpo, wpl]
            by_cases h : ds.length + zs.length ≤ lim
            · simp only [h, if_true, true_and]; rfl
            · simp only [h, if_false, false_and]; rfl
          | ins _ _ => rfl
      | _ => rfl
    | _ => rfl
  | _ => rfl
end
end Dn
namespace Dn
theorem fact_mk {P : PySem.Addr → Prop} {mg : PySem.Str → Option PySem.Value} {c : PySem.Str} {C : PySem.Addr} (g : mg c = some (.ref C)) (B : P C) : ∀ C', mg c = some (.ref C') → P C' := fun C' h => by
  have : C' = C := by simpa using h.symm.trans g
  subst this
  exact B
end Dn

/-! C.m(..), m a staticmethod of an own class C. -/
namespace Dn
open PySem PySem.Spec PyProof.Rows L2 Ft LamX StX
section
variable {X : Cx} {E : WX} {T : List (Addr × Str)} {k : Nat} {c m : Str} {ps ks : List Str} {spec : Spec} {fr fk : Ax} {e : Expr} {es : List Expr} {kws : List Keyword} {p pos apos : Pos} {pl : Sem Bool} {g : {α : Type} → List α → List α → List α}
/-- C.m is a staticmethod: its def at f -/
structure StatAt (K : PySem.W.Frag) (C : Addr) (m : Str) (q f : Addr) : Prop where
  rd : PySem.W.readsIn K C (.type "type") = true
  ga : PySem.W.specialIn K (.ref C) "__getattribute__" = some (some (.builtin "type.__getattribute__"))
  at_ : PySem.W.findCls K (.ref C) (.type "type") m = some (.get (.builtin "staticmethod.__get__") (.ref q) .none (.ref C))
  rc : ∃ rest, PySem.W.recIn K q "staticmethod" = some (.ref f :: rest)
theorem stat_get {pins : List (Addr × Obj)} {σ : L2.St} {H : Hp} {s : Shared} {C q f : Addr} {A : Around} {E' : Value → Shared → Prop} {Q : Value × List Value → Shared → Prop} (I : Inv X pins σ H s) (S : StatAt X.K C m q f)
    (h : ∀ s', Inv X pins σ H s' → Q (.ref f, []) s') : wpAny (model X.prog X.w) A (getMethod (.ref C) m pl) Q E' s := by
  obtain ⟨rest, hp⟩ := S.rc
  refine PySem.W.method_cls I.kIn S.ga ?_
  refine PySem.W.cls_bind I.kIn S.rd S.at_ ?_
  refine wpAny_call (PySem.W.sm_get (s := { s with toks := s.toks + 1 }) I.kIn hp (PySem.W.handed_on rfl ?_))
  exact h _ (I.tok _)
def HasSt (P : Program) (w : World) (K : PySem.W.Frag) (mg : Str → Option Value) (base : Heap) (T : List (Addr × Str)) (k : Nat) (c m : Str) (ps : List Str) (spec : Spec) : Prop :=
  ∃ C q f fd, mg c = some (.ref C) ∧ StatAt K C m q f ∧ FnOk P w K mg base (L2.CX P w) k f fd ps (spD ⟨K, mg, T⟩ ps.length spec) ∧ PySem.W.keepIn K (.ref f) = true ∧ Binds K fd ps []
theorem dx_st (F : HasSt X.prog X.w X.K X.mg X.base T k c m ps spec) (hr : Room k X.A) (tk : Takes X E) (gl : Gl X c) (hn : ∀ ws st r, spec ws st = some r → ws.length = ps.length) (ha : DA ⟨X.K, X.mg, T⟩ X E (e :: es) fr) (hdb : (c == ("__debug__" : Str)) = false := by decide)
    (hst : starEach (e :: es) X.env = (false, eval e X.env) :: starEach es X.env := by rfl) (hpl : (backTo pos (starEach es X.env)).any (·.1) = false := by rfl)
    (ht : eval (.Call (.Attribute (.Name c p) m apos) (e :: es) [] pos) X.env = (do
      let ov ← eval (.Name c p) X.env
      standAt apos.atName
      let (f, first) ← holding [ov] (getMethod ov m pl)
      callWith pos f first (backTo pos (starEach (e :: es) X.env)) (backToKw pos (keywordEach [] X.env))) := by rfl) :
    DE ⟨X.K, X.mg, T⟩ X E (.Call (.Attribute (.Name c p) m apos) (e :: es) [] pos) (eFn spec fr) := by
  obtain ⟨C, q, f, fd, hm, S, F, hk, hb⟩ := F
  refine PE.imp (t := fun σ H Q => rA ⟨X.K, X.mg, T⟩ E fr σ H fun vs H1 => spD ⟨X.K, X.mg, T⟩ ps.length spec vs H1 Q (WE E σ)) ⟨fun pins s σ H Q I h => ?_⟩ fun σ H Q h => spD_ok hn h
  refine PySem.W.methodCall_KW (pl := pl) (thn ((pe_glob (v := .ref C) gl hm rfl hdb).run pins s σ H (fun x H1 => x = .ref C ∧ H1 = H) I ⟨rfl, rfl⟩) fun u s1 ⟨x, H1, I1, rx, ex, eH⟩ => ?_) ht
  subst ex eH
  obtain rfl : u = Value.ref C := rx
  refine stat_get I1 S fun s2 I2 => ?_
  refine PySem.W.callWith_K (h₀ := X.base) I.ok.mod.kin hk (thn (ha.run pos pins s2 σ H1 _ I2 h) fun us s3 ⟨vs, H2, I3, r, q2⟩ => ⟨I3.kIn, ?_⟩) hst hpl
  exact run_at F hb hr I3.env0 tk I3 r q2
def HasStK (P : Program) (w : World) (K : PySem.W.Frag) (mg : Str → Option Value) (base : Heap) (T : List (Addr × Str)) (k : Nat) (c m : Str) (ps ks : List Str) (g : {α : Type} → List α → List α → List α) (spec : Spec) : Prop :=
  ∃ C q f fd, mg c = some (.ref C) ∧ StatAt K C m q f ∧ FnOk P w K mg base (L2.CX P w) k f fd ps (spD ⟨K, mg, T⟩ ps.length spec) ∧ PySem.W.keepIn K (.ref f) = true ∧ KwB K fd ps 0 ks g
theorem dx_stK (F : HasStK X.prog X.w X.K X.mg X.base T k c m ps ks g spec) (hG : RelG g) (hr : Room k X.A) (tk : Takes X E) (gl : Gl X c) (hn : ∀ ws st r, spec ws st = some r → ws.length = ps.length) (hkw : DK ⟨X.K, X.mg, T⟩ X E kws fk)
    (hall : (backToKw pos (keywordEach kws X.env)).all (·.1.isSome) = true := by rfl) (hks : (backToKw pos (keywordEach kws X.env)).filterMap (·.1) = ks := by rfl) (hdb : (c == ("__debug__" : Str)) = false := by decide)
    (hpl : ((backTo pos (starEach [] X.env)).any (·.1) || (backToKw pos (keywordEach kws X.env)).any (·.1.isNone)) = false := by rfl)
    (ht : eval (.Call (.Attribute (.Name c p) m apos) [] kws pos) X.env = (do
      let ov ← eval (.Name c p) X.env
      standAt apos.atName
      let (f, first) ← holding [ov] (getMethod ov m pl)
      callWith pos f first (backTo pos (starEach [] X.env)) (backToKw pos (keywordEach kws X.env))) := by rfl) :
    DE ⟨X.K, X.mg, T⟩ X E (.Call (.Attribute (.Name c p) m apos) [] kws pos) (eFnK spec g 0 ks.length aNil fk) := by
  obtain ⟨C, q, f, fd, hm, S, F, hk, hb⟩ := F
  refine PE.imp (t := fun σ H Q => rA ⟨X.K, X.mg, T⟩ E aNil σ H fun vs H1 => rA ⟨X.K, X.mg, T⟩ E fk σ H1 fun zs H2 => vs.length = 0 ∧ zs.length = ks.length ∧ spD ⟨X.K, X.mg, T⟩ ps.length spec (g vs zs) H2 Q (WE E σ)) ⟨fun pins s σ H Q I h => ?_⟩ fun σ H Q h => spD_okK hG hn h
  obtain ⟨m', sl, st, hs, hc, h⟩ := h
  have q1 := aft_ok (v := []) h hc .nil
  refine PySem.W.methodCall_KW (pl := pl) (thn ((pe_glob (v := .ref C) gl hm rfl hdb).run pins s σ H (fun x H1 => x = .ref C ∧ H1 = H) I ⟨rfl, rfl⟩) fun u s1 ⟨x, H1, I1, rx, ex, eH⟩ => ?_) ht
  subst ex eH
  obtain rfl : u = Value.ref C := rx
  refine stat_get I1 S fun s2 I2 => ?_
  refine PySem.W.callWith_KW0 (h₀ := X.base) I.ok.mod.kin hk hall (thn (hkw.run pos pins s2 σ H1 _ I2 q1) fun ws s3 ⟨zs, H2, I3, rz, l1, l2, q⟩ => ⟨I3.kIn, ?_⟩) hpl
  rw [hks]
  exact run_oS (args := ⟨[], ks.zip ws⟩) F hr tk I3 (hb.to s3 [] ws I3.kIn rfl (rz.length.symm.trans l2)) (hb.rel .nil rz) q
end
section
variable {P : Program} {w : World} {K : PySem.W.Frag} {mg : Str → Option Value} {base : Heap} {T : List (Addr × Str)} {x qual c mth : Str} {st : Stmt} {f C q : Addr} {fd : FuncData} {ps ks : List Str} {k n : Nat} {spec : Spec} {g : {α : Type} → List α → List α → List α}
theorem st_mk (h : mg c = some (.ref C)) (S : StatAt K C mth q f) (F : Fun K x qual st f fd) (O : FnOk P w K mg base (L2.CX P w) k f fd ps (spD ⟨K, mg, T⟩ ps.length spec))
    (hb : ∀ (kV doc pm : Value) (an : Option Addr) (cdv ct : Value) (us : List Value), us.length = ps.length → bindArgs (PySem.W.fnOf x qual (defArgs st) (defBody st) (defScope st) .none kV doc pm an cdv ct) ⟨us, []⟩ = pure (ps.zip us)) : HasSt P w K mg base T k c mth ps spec :=
  ⟨C, q, f, fd, h, S, O, F.kp, F.binds hb⟩
theorem stk_mk (h : mg c = some (.ref C)) (S : StatAt K C mth q f) (F : Fun K x qual st f fd) (O : FnOk P w K mg base (L2.CX P w) k f fd ps (spD ⟨K, mg, T⟩ ps.length spec))
    (hb : ∀ (kV doc pm : Value) (an : Option Addr) (cdv ct : Value) (us ws : List Value), us.length = 0 → ws.length = ks.length → bindArgs (PySem.W.fnOf x qual (defArgs st) (defBody st) (defScope st) .none kV doc pm an cdv ct) ⟨us, ks.zip ws⟩ = pure (ps.zip (g us ws)))
    (hrel : ∀ {vs zs : List V} {us ws : List Value}, Vals vs us → Vals zs ws → Vals (g vs zs) (g us ws)) : HasStK P w K mg base T k c mth ps ks g spec := by
  refine ⟨C, q, f, fd, h, S, O, F.kp, fun s us ws _ h1 h2 => ?_, hrel⟩
  obtain ⟨_, _, kV, doc, pm, an, cdv, ct, _, e, _, _⟩ := F.ex
  subst e
  exact .of_eq (hb kV doc pm an cdv ct us ws h1 h2)
end
end Dn
namespace Dn
theorem stat_mk {K : PySem.W.Frag} {C q f : PySem.Addr} {m : PySem.Str} {rest : List PySem.Value} (a : PySem.W.readsIn K C (.type "type") = true) (b : PySem.W.specialIn K (.ref C) "__getattribute__" = some (some (.builtin "type.__getattribute__")))
    (c : PySem.W.findCls K (.ref C) (.type "type") m = some (.get (.builtin "staticmethod.__get__") (.ref q) .none (.ref C))) (d : PySem.W.recIn K q "staticmethod" = some (.ref f :: rest)) : StatAt K C m q f := ⟨a, b, c, rest, d⟩
end Dn

set_option maxHeartbeats 3200000
/-! sorted(set(x)), x an ASCII text -/
namespace Ft
open PySem PySem.Spec PyProof.Rows L2 PySem.Froz
section
variable {P : Program} {w : World} {A : Around} {E : Value → Shared → Prop} {s : Shared}
/-- a payload of texts whose table can be walked -/
structure TxR (P : Program) (w : World) (D : SD) (l : List Str) : Prop where
  ok : TxOk P w D l
  ris : Ris D.2.2.place.toList
  led : w.params.followText "set-order" = true ∨ D.2.2.led = true
  nd : l.Nodup
theorem tail_ris {ep : Nat} {es1 : Array (Int × Value)} {t2 : SetTable} {wd : Bool} (h : Ris t2.place.toList) : Ris (tailTx ep es1 t2 wd).2.2.place.toList := by
  unfold tailTx
  split
  · exact relayAll_ris _ _ _
  · exact h
theorem tail_led {ep : Nat} {es1 : Array (Int × Value)} {t2 : SetTable} {wd : Bool} (h : t2.led = true) : (tailTx ep es1 t2 wd).2.2.led = true := by
  unfold tailTx
  split
  · exact (relayAll_led _ _ _).trans h
  · exact h
theorem TxR.add {D : SD} {l : List Str} {k : Str} (u : Tok) (F : TxR P w D l) (hk : k ∉ l) : TxR P w (addTx (hashStr w k) (.str k u) D) (k :: l) := by
  refine ⟨add_ok u F.ok, ?_, ?_, List.nodup_cons.mpr ⟨hk, F.nd⟩⟩
  · obtain ⟨es, ep, t⟩ := D
    have hr1 := layNew_ris t es (hashStr w k) (.str k u) F.ris
    unfold addTx
    refine tail_ris ?_
    split <;> exact hr1
  · obtain ⟨es, ep, t⟩ := D
    refine F.led.imp id fun z => ?_
    have hl1 := layNew_led t es (hashStr w k) (.str k u)
    unfold addTx
    refine tail_led ?_
    split <;> exact hl1.trans z
theorem add_dup {a : Addr} {T : String} {D : SD} {l : List Str} {k : Str} {u : Tok} {Q : Bool → Shared → Prop} (ho : s.heap.get? a = some (sObj T D)) (F : TxOk P w D l) (hk : k ∈ l) (hb : l.length < scanBound)
    (h : Q false s) : wpAny (model P w) A (setAddHashed a (.str k u) (hashStr w k)) Q E s := by
  obtain ⟨es, ep, t⟩ := D
  have hd : (sObj T (es, ep, t)).data = .set es ep t := rfl
  have hf : t.fits es.size = true := F.fit
  have hel : ElemsOf (strKind P w) es.toList := F.el
  have hsz : es.size = l.length := F.sz
  have hb0 : es.size < scanBound := by omega
  have hkey : (strKind P w).is k (.str k u) = true := is_str k u
  obtain ⟨e, he, hq⟩ := (F.mem k).mp hk
  unfold setAddHashed setAddHashedIn
  refine wpAny_holding (wpAny_bind (wpAny_setState_of ho hd hf ?_))
  dsimp only
  rw [byScan_of rfl hb0 hel]
  simp only [↓reduceIte]
  unfold setAddByScan
  refine wpAny_bind ?_
  refine wpAny_bind (wpAny_rule ?_)
  refine wpAny_bind (wpAny_setScan_of (knd := strKind P w) (k := k) hkey ho hd hf hel ?_)
  cases hfi : List.findIdx? (fun e => (strKind P w).is k e.2) es.toList with
  | some j =>
    dsimp only
    exact wpAny_pure (wpAny_pure h)
  | none =>
    have c := List.findIdx?_eq_none_iff.mp hfi e he
    rw [hq] at c
    cases c
/-- the rest of a text's signs into the set -/
theorem code_updateA {R : Result → Shared → Prop} {a it : Addr} (hne : a ≠ it) {T : String} {x : Str} {u : Tok} (hh : A.handled = none) : ∀ (cs : List Nat) (i : Nat) (D : SD) (l : List Str) (s : Shared), x.cps.toList.drop i = cs →
    s.heap.get? a = some (sObj T D) → s.heap.get? it = some (itObj x u i) → TxR P w D l → l.length + cs.length < scanBound →
    (∀ (h' : Heap) (tk : Nat) (D' : SD) (l' : List Str), h'.get? a = some (sObj T D') → TxR P w D' l' → (∀ k, k ∈ l' ↔ k ∈ l ∨ ∃ c ∈ cs, k = sing c) → (∀ b o, b ≠ a → b ≠ it → s.heap.get? b = some o → h'.get? b = some o) → R (.ok (.ret .none)) { s with heap := h', toks := tk }) →
    codeAny (model P w) A (.builtin "set.update.loop" ⟨[.ref a, .ref it], []⟩) R s
  | [], i, D, l, s, hd, ha, hit, F, _, h => by
    refine codeAny_builtin PyProof.Rows.F.entry_set_update_loop ?_
    rw [Around.under_plainId PyProof.Rows.F.plain_set_update_loop _]
    show wpAny _ A.in1 (pyNext (.ref it) >>= _) _ _ s
    refine wpAny_bind (end_x (u := u) (by exact hh) hit (at_end hd) ?_)
    show wpAny _ A.in1 (ret Value.none) _ _ _
    refine wpAny_pure ?_
    refine h (endHeap s.heap it i) s.toks D l ?_ F (fun k => by simp) fun b o _ hb e => ?_
    · exact Heap.get?_push_of_some _ (Heap.get?_push_of_some _ (PySem.Heap.get?_update_of_ne _ (Ne.symm hne) ha))
    · exact Heap.get?_push_of_some _ (Heap.get?_push_of_some _ (PySem.Heap.get?_update_of_ne _ (Ne.symm hb) e))
  | c :: r, i, D, l, s, hd, ha, hit, F, hb, h => by
    obtain ⟨hx, hd2⟩ := at_of hd
    have hb2 : l.length + (r.length + 1) < scanBound := hb
    refine codeAny_builtin PyProof.Rows.F.entry_set_update_loop ?_
    rw [Around.under_plainId PyProof.Rows.F.plain_set_update_loop _]
    show wpAny _ A.in1 (pyNext (.ref it) >>= _) _ _ s
    refine wpAny_bind (next_x (u := u) hit hx ?_)
    show wpAny _ A.in1 (holding [Value.str (sing c) s.toks] (setAdd a (.str (sing c) s.toks)) >>= _) _ _ _
    refine wpAny_bind (wpAny_holding ?_)
    unfold setAdd
    refine wpAny_holding ?_
    refine wpAny_bind ((strKind P w).pyHash (k := sing c) (is_str _ _) ?_)
    have ha1 : (s.heap.update it (fun _ => itObj x u (i + 1))).get? a = some (sObj T D) := PySem.Heap.get?_update_of_ne _ (Ne.symm hne) ha
    by_cases hcl : sing c ∈ l
    · refine add_dup (l := l) (D := D) (s := { s with heap := s.heap.update it (fun _ => itObj x u (i + 1)), toks := s.toks + 1 + 1 }) ha1 F.ok hcl (by omega) ?_
      have hit2 : (s.heap.update it (fun _ => itObj x u (i + 1))).get? it = some (itObj x u (i + 1)) := get_upd _ hit rfl
      refine wpAny_pure ⟨plainId_quiet PyProof.Rows.F.plain_set_update_loop _, code_updateA hne hh r (i + 1) D l _ hd2 ha1 hit2 F (by omega) fun h' tk D' l' g1 g2 g3 g4 => ?_⟩
      refine h h' tk D' l' g1 g2 (fun k => ?_) fun b o n1 n2 e => g4 b o n1 n2 (PySem.Heap.get?_update_of_ne _ (Ne.symm n2) e)
      rw [g3 k]
      constructor
      · rintro (z | ⟨d, hd, rfl⟩)
        · exact .inl z
        · exact .inr ⟨d, .tail _ hd, rfl⟩
      · rintro (z | ⟨d, hd, rfl⟩)
        · exact .inl z
        · rcases List.mem_cons.mp hd with rfl | hd
          · exact .inl hcl
          · exact .inr ⟨d, hd, rfl⟩
    · refine add_x (l := l) (D := D) (s := { s with heap := s.heap.update it (fun _ => itObj x u (i + 1)), toks := s.toks + 1 + 1 }) ha1 F.ok hcl (by omega) ?_
      have ha2 : ((s.heap.update it (fun _ => itObj x u (i + 1))).update a (fun _ => sObj T (addTx (hashStr w (sing c)) (.str (sing c) s.toks) D))).get? a = some (sObj T (addTx (hashStr w (sing c)) (.str (sing c) s.toks) D)) := get_upd _ ha1 rfl
      have hit2 : ((s.heap.update it (fun _ => itObj x u (i + 1))).update a (fun _ => sObj T (addTx (hashStr w (sing c)) (.str (sing c) s.toks) D))).get? it = some (itObj x u (i + 1)) := PySem.Heap.get?_update_of_ne _ hne (get_upd _ hit rfl)
      refine wpAny_pure ⟨plainId_quiet PyProof.Rows.F.plain_set_update_loop _, code_updateA hne hh r (i + 1) _ (sing c :: l) _ hd2 ha2 hit2 (F.add s.toks hcl) (by simp only [List.length_cons]; omega) fun h' tk D' l' g1 g2 g3 g4 => ?_⟩
      refine h h' tk D' l' g1 g2 (fun k => ?_) fun b o n1 n2 e => g4 b o n1 n2 (PySem.Heap.get?_update_of_ne _ (Ne.symm n1) (PySem.Heap.get?_update_of_ne _ (Ne.symm n2) e))
      rw [g3 k, List.mem_cons]
      constructor
      · rintro ((rfl | z) | ⟨d, hd, rfl⟩)
        · exact .inr ⟨c, .head _, rfl⟩
        · exact .inl z
        · exact .inr ⟨d, .tail _ hd, rfl⟩
      · rintro (z | ⟨d, hd, rfl⟩)
        · exact .inl (.inr z)
        · rcases List.mem_cons.mp hd with rfl | hd
          · exact .inl (.inl rfl)
          · exact .inr ⟨d, hd, rfl⟩
theorem code_set_led1 (x : Value) {Q₁ : Value → Shared → Prop}
    (h : Q₁ (.ref s.heap.objs.size) { s with heap := s.heap.push { cls := .type "set", dict := none, data := .set #[] 0 (.fresh 0 0 (!w.params.followText "set-order")) } }) :
    codeAny (model P w) A (.call (.builtin "set.__new__") ⟨[.type "set", x], []⟩) (wants Q₁ E) s := by
  refine codeAny_of_tree ?_
  show wpAny _ A.in1 (do checkBuiltinCall "set.__new__" ⟨[.type "set", x], []⟩; again (.builtin "set.__new__" ⟨[.type "set", x], []⟩)) _ _ s
  refine wpAny_bind (wpAny_of_eq (PySem.F.newCall_set_1 x) (wpAny_pure ⟨plainId_quiet PySem.F.plain_set_new _, codeAny_builtin PySem.F.entry_set_new ?_⟩))
  rw [Around.under_plainId PySem.F.plain_set_new _]
  unfold Builtin.«set.__new__» Builtin.Frozenset.newClass
  have hsub := sub_set_self
  obtain ⟨hp, g, d, tk, os⟩ := s
  dsimp only
  wp_walk
  refine wpAny_askSetting (wpAny_pure ?_)
  dsimp only
  simp only [newObj]
  refine wpAny_bind (wpAny_alloc (wpAny_pure ?_))
  exact wpAny_pure h
theorem txR_fresh (P : Program) (w : World) : TxR P w (#[], 0, .fresh 0 0 (!w.params.followText "set-order")) [] :=
  ⟨TxOk.nil (by rfl), List.Pairwise.nil, by
    show _ ∨ (!w.params.followText "set-order") = true
    cases w.params.followText "set-order"
    · exact .inr rfl
    · exact .inl rfl, .nil⟩
theorem call_set_txtA {x : Str} {u : Tok} {Q : Value → Shared → Prop} (hh : A.handled = none) (ha : x.cps.all (· < 128) = true) (hb : x.length < scanBound)
    (h : ∀ (h' : Heap) (tk : Nat) (D : SD) (l : List Str), h'.get? s.heap.objs.size = some (sObj "set" D) → TxR P w D l → (∀ k, k ∈ l ↔ ∃ c ∈ x.cps.toList, k = sing c) →
      (∀ b o, b < s.heap.objs.size → s.heap.get? b = some o → h'.get? b = some o) → Q (.ref s.heap.objs.size) { s with heap := h', toks := tk }) :
    wpAny (model P w) A (call (.type "set") [.str x u]) Q E s := by
  obtain ⟨c, tl, hmro⟩ := PySem.F.called_set.mro
  have hmade := PySem.F.called_set.made
  have hsub := PySem.F.called_set.sub
  refine wpAny_call (codeAny_of_tree ?_)
  show wpAny _ _ (callAny (.type "set") _) _ _ _
  refine wpAny_pure ⟨Code.quiet_builtin _ (by decide +kernel), codeAny_builtin PySem.F.entry_type_call ?_⟩
  rw [Around.under_plain (weight_type_call_type "set" [.str x u] []) rfl]
  have h1 := PySem.F.called_set.notType
  have h2 := PySem.F.called_set.canCreate
  have hct := PySem.F.typeCall_set_1 (.str x u)
  repeat (any_goals (first | assumption | wp_step))
  refine codeAny_mono (code_set_led1 (.str x u) (E := E) (Q₁ := fun obj s₁ => obj = .ref s.heap.objs.size ∧ s₁ = { s with heap := s.heap.push { cls := .type "set", dict := none, data := .set #[] 0 (.fresh 0 0 (!w.params.followText "set-order")) } }) ⟨rfl, rfl⟩) fun r s₁ hr => ?_
  cases r with
  | error e => exact hr
  | ok fl =>
    cases fl with
    | ret obj =>
      obtain ⟨rfl, rfl⟩ := hr
      have hT : Shared.TypeIs { s with heap := s.heap.push { cls := .type "set", dict := none, data := .set #[] 0 (.fresh 0 0 (!w.params.followText "set-order")) } } (.ref s.heap.objs.size) "set" := ⟨_, Heap.get?_push_size _ rfl, rfl⟩
      have hli := PySem.F.called_set.init.lookup
      have hbi := PySem.F.called_set.init.bind (.ref s.heap.objs.size)
      repeat (any_goals (first | assumption | wp_step))
      refine codeAny_mono (codeAny_call_builtin (R := wants (fun r s₂ => r = .none ∧ ∃ h' tk, ∃ (D : SD) (l : List Str), s₂ = { s with heap := h', toks := tk } ∧
          h'.get? s.heap.objs.size = some (sObj "set" D) ∧ TxR P w D l ∧ (∀ k, k ∈ l ↔ ∃ c ∈ x.cps.toList, k = sing c) ∧
          (∀ b o, b < s.heap.objs.size → s.heap.get? b = some o → h'.get? b = some o)) E) PySem.F.called_set.init.plain PySem.F.entry_set_init (check_set_init_1 hT ?_)) fun r₂ s₂ hr₂ => ?_
      · have hsls := PySem.F.sub_str_set
        have hslf := PySem.F.sub_str_frozenset
        have hnd' : (Value.type "str" == Value.type "dict") = false := by decide
        unfold Builtin.«set.__init__» noKeywords Builtin.Frozenset.updateFrom
        generalize hPI : pyIter = PI
        wp_walk
        subst hPI
        refine wpAny_pyIter_ascii ha ?_
        refine wpAny_bind (wpAny_runValue ?_)
        have hne : s.heap.objs.size ≠ (s.heap.push { cls := .type "set", dict := none, data := .set #[] 0 (.fresh 0 0 (!w.params.followText "set-order")) }).objs.size := by
          rw [Heap.size_push]; exact Nat.ne_of_lt (Nat.lt_succ_self _)
        have hh3 : A.in1.in1.handled = none := by simp [hh]
        refine code_updateA (P := P) (T := "set") (D := (#[], 0, .fresh 0 0 (!w.params.followText "set-order"))) (x := x) (u := u) (l := []) hne hh3 x.cps.toList 0 _ rfl (Heap.get?_push_of_some _ (Heap.get?_push_size _ rfl)) (Heap.get?_push_size _ rfl) (txR_fresh P w) (by simpa [Str.length] using hb) fun h' tk D' l' g1 g2 g3 g4 => ?_
        show wpAny _ _ _ _ _ _
        refine wpAny_pure ?_
        show wpAny _ _ (ret Value.none) _ _ _
        refine wpAny_pure ⟨rfl, h', tk, D', l', rfl, g1, g2, fun k => by rw [g3 k]; simp, fun b o hbl e => ?_⟩
        have hb1 : b ≠ s.heap.objs.size := Nat.ne_of_lt hbl
        have hb2 : b ≠ (s.heap.push { cls := .type "set", dict := none, data := .set #[] 0 (.fresh 0 0 (!w.params.followText "set-order")) }).objs.size := by
          rw [Heap.size_push]; exact Nat.ne_of_lt (Nat.lt_succ_of_lt hbl)
        exact g4 b o hb1 hb2 (Heap.get?_push_of_some _ (Heap.get?_push_of_some _ e))
      · cases r₂ with
        | error e => exact hr₂
        | ok fl₂ =>
          cases fl₂ with
          | ret r =>
            obtain ⟨rfl, h', tk, D, l, rfl, q1, q2, q3, hk'⟩ := hr₂
            repeat (any_goals (first | assumption | wp_step))
            exact h _ _ D l q1 q2 q3 hk'
          | _ => exact hr₂.elim
    | _ => exact hr.elim
/-! ### sorted -/
theorem perm_of : ∀ {l L : List Str}, l.Nodup → (∀ x ∈ l, x ∈ L) → L.length = l.length → L.Perm l
  | [], L, _, _, h => by
    rw [List.eq_nil_of_length_eq_zero h]
  | x :: l, L, hn, hs, h => by
    obtain ⟨as, bs, rfl⟩ := List.append_of_mem (hs x (.head _))
    obtain ⟨n1, n2⟩ := List.nodup_cons.mp hn
    have : (as ++ bs).Perm l := perm_of n2 (fun y hy => by
      rcases List.mem_append.mp (hs y (.tail _ hy)) with z | z
      · exact List.mem_append.mpr (.inl z)
      · rcases List.mem_cons.mp z with rfl | z
        · exact absurd hy n1
        · exact List.mem_append.mpr (.inr z)) (by simp only [List.length_append, List.length_cons] at h ⊢; omega)
    exact List.perm_middle.trans (this.cons x)
theorem isStr_of {k : Str} {v : Value} (h : (strKind P w).is k v = true) : ∃ t, v = .str k t := by
  have h : Value.isStrOf k v = true := h
  cases v with
  | str y t =>
    refine ⟨t, ?_⟩
    have : y = k := by simpa [Value.isStrOf] using h
    rw [this]
  | _ => simp [Value.isStrOf] at h
theorem sorted_txR {a : Addr} {D : SD} {l : List Str} {Q : Value → Shared → Prop} (ho : s.heap.get? a = some (sObj "set" D)) (F : TxR P w D l) (h64 : l.length < 64) (hh : A.handled = none)
    (hQ : ∀ s' p (out : Array Value) (c : Nat) (ss : List Str), (∀ b o, s.heap.get? b = some o → s'.heap.get? b = some o) → s'.gens = s.gens → s'.os = s.os → s.heap.objs.size ≤ p →
      s'.heap.get? p = some (seqObj "list" out c) → StrsAre out.toList ss → ss.Perm l → sortedS ss = true → Q (.ref p) s') :
    wpAny (model P w) A (call (.builtin "sorted") [.ref a]) Q E s := by
  obtain ⟨es, ep, t⟩ := D
  have hsz : es.size = l.length := F.ok.sz
  have hfit : t.fits es.size = true := F.ok.fit
  refine Calls.call_function_entry kind_sorted plain_sorted entry_sorted (args_sorted1 _) ?_
  unfold Builtin.«sorted»
  refine wpAny_bind (m := checkCount "sorted" 1 1 _) (wpAny_pure ?_)
  have hsb : 64 < scanBound := by decide
  refine wpAny_bind (collect_set (A := A.in1) hh ⟨_, ho, rfl, rfl⟩ hfit (by show es.size < scanBound; omega) F.ris F.led fun s1 vs k1 hz g1 o1 pm => ?_)
  have hvl : vs.length = l.length := by rw [pm.length_eq, List.length_map, Array.length_toList]; exact hsz
  have hall : ∀ v ∈ vs, ∃ x t, v = Value.str x t := fun v hv => by
    obtain ⟨e, he, q⟩ := List.mem_map.mp (pm.mem_iff.mp hv)
    obtain ⟨⟨k, hk, _⟩, _⟩ := F.ok.el e he
    obtain ⟨t', ht⟩ := isStr_of hk
    exact ⟨k, t', by rw [← q, ht]⟩
  have hS : StrsAre vs (vs.map strOf) := strsAre_map vs hall
  have hP : (vs.map strOf).Perm l := by
    refine perm_of F.nd (fun x hx => ?_) (by rw [List.length_map]; exact hvl)
    obtain ⟨e, he, hq⟩ := (F.ok.mem x).mp hx
    obtain ⟨t', ht⟩ := isStr_of hq
    refine List.mem_map.mpr ⟨e.2, pm.mem_iff.mpr (List.mem_map.mpr ⟨e, he, rfl⟩), ?_⟩
    rw [ht]
    rfl
  refine wpAny_bind (wpAny_newList ?_ (by rw [hvl, sizeLine_eq]; omega))
  have hoL : (s1.heap.push (seqObj "list" vs.toArray 0)).get? s1.heap.objs.size = some (seqObj "list" vs.toArray 0) := Heap.get?_push_size _ rfl
  refine wpAny_bind (wpAny_holding (wpAny_call_entry slot_list_sort ⟨_, hoL, rfl⟩ entry_list_sort (list_sort_treeK strKind_oneLt hoL hS.keysOf (fun v₁ v₂ rest e => keyKind_strs (by rw [← e]; exact hS)) (by rw [hvl]; exact h64) fun st' hp hs => ⟨_, rfl, ?_⟩) (args_list_sort _)))
  obtain ⟨ss', a1, a2, a3⟩ := sorted_out_str hS hp hs
  obtain ⟨c, hc⟩ := sortedHeap_at (vs := vs) (out := (arrOf st').map (·.2)) hoL
  refine wpAny_pure ⟨_, rfl, hQ _ s1.heap.objs.size ((arrOf st').map (·.2)) c ss' (fun b u e => ?_) g1 o1 hz hc a1 (a2.trans hP) a3⟩
  have q := k1 b u e
  have hlt := Heap.lt_size q
  show (sortedHeap (s1.heap.push (seqObj "list" vs.toArray 0)) s1.heap.objs.size vs ((arrOf st').map (·.2))).get? b = some u
  rw [sortedHeap_old (Nat.ne_of_lt hlt) (by rw [size_push']; exact Nat.lt_succ_of_lt hlt)]
  exact Heap.get?_push_of_some _ q
end
/-- the signs of an ASCII text, each once, ascending -/
def sgn (y : Str) : List Nat := (List.range 128).filter fun c => decide (c ∈ y.cps.toList)
theorem ltCps_one (a b : Nat) : ltCps [a] [b] = decide (a < b) := by
  rw [ltCps_eq]
  simp [List.cons_lt_cons_iff]
theorem rising_le : ∀ (cs : List Nat) (p : Nat), risingS (sing p) (cs.map sing) = true → (p :: cs).Pairwise (· ≤ ·)
  | [], p, _ => List.pairwise_singleton _ _
  | c :: cs, p, h => by
    have h : (!ltCps [c] [p] && risingS (sing c) (cs.map sing)) = true := h
    rw [ltCps_one, Bool.and_eq_true] at h
    have h1 : p ≤ c := by simpa using h.1
    have h2 := rising_le cs c h.2
    refine List.pairwise_cons.mpr ⟨fun x hx => ?_, h2⟩
    rcases List.mem_cons.mp hx with rfl | hx
    · exact h1
    · exact Nat.le_trans h1 ((List.pairwise_cons.mp h2).1 x hx)
theorem ext_lt : ∀ {xs ys : List Nat}, xs.Pairwise (· < ·) → ys.Pairwise (· < ·) → (∀ a, a ∈ xs ↔ a ∈ ys) → xs = ys
  | [], [], _, _, _ => rfl
  | [], y :: ys, _, _, h => absurd ((h y).mpr (.head _)) (by simp)
  | x :: xs, [], _, _, h => absurd ((h x).mp (.head _)) (by simp)
  | x :: xs, y :: ys, h1, h2, h => by
    rw [List.pairwise_cons] at h1 h2
    have e : x = y := by
      rcases List.mem_cons.mp ((h x).mp (.head _)) with e | e
      · exact e
      · rcases List.mem_cons.mp ((h y).mpr (.head _)) with e' | e'
        · exact e'.symm
        · have := h2.1 _ e
          have := h1.1 _ e'
          omega
    subst e
    rw [ext_lt h1.2 h2.2 fun a => ?_]
    have ha := h a
    rw [List.mem_cons, List.mem_cons] at ha
    constructor
    · intro z
      rcases ha.mp (.inr z) with e | e
      · subst e; exact absurd (h1.1 _ z) (by omega)
      · exact e
    · intro z
      rcases ha.mpr (.inr z) with e | e
      · subst e; exact absurd (h2.1 _ z) (by omega)
      · exact e
theorem sing_inj {a b : Nat} (h : sing a = sing b) : a = b := by
  have : [a] = [b] := congrArg (fun y : Str => y.cps.toList) h
  simpa using this
theorem sgn_is {y : Str} (ha : y.cps.all (· < 128) = true) {ss l : List Str} (hn : l.Nodup) (hm : ∀ k, k ∈ l ↔ ∃ c ∈ y.cps.toList, k = sing c) (hp : ss.Perm l) (hs : sortedS ss = true) : ss = (sgn y).map sing := by
  obtain ⟨cs, rfl⟩ : ∃ cs : List Nat, ss = cs.map sing := by
    have : ∀ k ∈ ss, ∃ c, k = sing c := fun k hk => by
      obtain ⟨c, _, e⟩ := (hm k).mp (hp.mem_iff.mp hk)
      exact ⟨c, e⟩
    clear hp hs
    induction ss with
    | nil => exact ⟨[], rfl⟩
    | cons k ss ih =>
      obtain ⟨c, rfl⟩ := this k (.head _)
      obtain ⟨cs, e⟩ := ih fun k hk => this k (.tail _ hk)
      exact ⟨c :: cs, by rw [e]; rfl⟩
  have hnd : cs.Nodup := by
    have := hp.symm.nodup hn
    exact (List.pairwise_map.mp this).imp fun h e => h (by rw [e])
  have hle : cs.Pairwise (· ≤ ·) := by
    cases cs with
    | nil => exact List.Pairwise.nil
    | cons c cs => exact rising_le cs c hs
  have hlt : cs.Pairwise (· < ·) := by
    have := hle.and hnd
    exact this.imp fun h => Nat.lt_of_le_of_ne h.1 h.2
  have e : cs = sgn y := by
    refine ext_lt hlt (List.pairwise_lt_range.filter _) fun a => ?_
    have h1 : sing a ∈ cs.map sing ↔ ∃ c ∈ y.cps.toList, sing a = sing c := hp.mem_iff.trans (hm _)
    have h2 : a ∈ cs ↔ a ∈ y.cps.toList := by
      constructor
      · intro h
        obtain ⟨c, hc, e⟩ := h1.mp (List.mem_map.mpr ⟨a, h, rfl⟩)
        rw [sing_inj e]
        exact hc
      · intro h
        obtain ⟨c, hc, e⟩ := List.mem_map.mp (h1.mpr ⟨a, h, rfl⟩)
        rw [← sing_inj e]
        exact hc
    rw [h2]
    unfold sgn
    rw [List.mem_filter, decide_eq_true_eq, List.mem_range]
    refine ⟨fun h => ⟨?_, h⟩, fun h => h.2⟩
    have := List.all_eq_true.mp (by rw [← Array.all_toList] at ha; exact ha) a h
    exact of_decide_eq_true this
  rw [e]
theorem vals_strs : ∀ {vs : List Value} {ss : List Str}, StrsAre vs ss → Vals (ss.map V.str) vs
  | _, _, .nil => .nil
  | _, _, .cons x t h => .cons ⟨t, rfl⟩ (vals_strs h)
section
variable {X : Cx} {a : Expr} {ta : TE}
/-- sorted(set(x)), x an ASCII text -/
def tSortTx (ta : TE) : TE := fun σ H Q => ta σ H fun x H1 => ∃ y : Str, x = .str y ∧ y.cps.all (· < 128) = true ∧ y.length < 64 ∧ ∀ p, H1 p = none → Q (.ref p) (upd H1 p (.lst ((sgn y).map fun c => V.str (sing c))))
theorem pe_sortTx {p p2 q pos : Pos} (hc : X.calm = true) (hg : Gl X "sorted") (hm : X.mg "sorted" = none) (hg2 : Gl X "set") (hm2 : X.mg "set" = none) (ha : PE X a ta)
    (na : starEach [a] X.env = (false, eval a X.env) :: starEach [] X.env := by rfl) : PE X (.Call (.Name "sorted" p) [.Call (.Name "set" p2) [a] [] q] [] pos) (tSortTx ta) := by
  refine ⟨fun pins s σ H Q I h => ?_⟩
  refine Call_ (ld_blt I hg hm (show bootBuiltins "sorted" = some (.builtin "sorted") by decide +kernel) ?_)
  refine PyProof.Rows.callWith_builtin1 (PyProof.Rows.args_cons ?_ rfl) rfl rfl
  refine Call_ (ld_blt I hg2 hm2 boot_set ?_)
  refine PyProof.Rows.callWith_type1 (PyProof.Rows.args_cons (thn (ha.run pins s σ H _ I h) fun v s1 ⟨x, H1, I1, r1, q1⟩ => PyProof.Rows.args_nil ?_) na) na rfl
  obtain ⟨y, rfl, h1, h3, q1⟩ := q1
  obtain ⟨t, rfl⟩ := r1
  have hsb : 64 < scanBound := by decide
  refine call_set_txtA (I1.ok.hd hc) h1 (by omega) fun h' tk D l ho F hml hk => ?_
  refine PyProof.Rows.args_nil ?_
  have I2 : Inv X pins σ H1 { s1 with heap := h', toks := tk } := I1.kept fun b o e => hk b o (Heap.lt_size e) e
  have hll : l.length ≤ y.length := by
    have e : ∀ k ∈ l, k ∈ y.cps.toList.map sing := fun k hkl => by
      obtain ⟨c, hc', e⟩ := (hml k).mp hkl
      exact List.mem_map.mpr ⟨c, hc', e.symm⟩
    have nodup_le : ∀ (l m : List Str), l.Nodup → (∀ x ∈ l, x ∈ m) → l.length ≤ m.length := by
      intro l
      induction l with
      | nil => intro _ _ _; exact Nat.zero_le _
      | cons x l ih =>
        intro m hn hs
        obtain ⟨n1, n2⟩ := List.nodup_cons.mp hn
        obtain ⟨as, bs, rfl⟩ := List.append_of_mem (hs x (.head _))
        have := ih (as ++ bs) n2 fun y hy => by
          rcases List.mem_append.mp (hs y (.tail _ hy)) with z | z
          · exact List.mem_append.mpr (.inl z)
          · rcases List.mem_cons.mp z with rfl | z
            · exact absurd hy n1
            · exact List.mem_append.mpr (.inr z)
        simp only [List.length_append, List.length_cons] at this ⊢
        omega
    have := nodup_le l _ F.nd e
    rw [List.length_map] at this
    have e2 : y.cps.toList.length = y.length := by simp [Str.length]
    omega
  refine sorted_txR ho F (by omega) (I2.ok.hd hc) fun s' p out c ss k g o hp hg' hS hP hs => ?_
  have e := sgn_is h1 F.nd hml hP hs
  subst e
  have hlen : (((sgn y).map sing).map V.str).length ≤ sizeLine := by
    rw [List.length_map, hP.length_eq, sizeLine_eq]; omega
  have hn : H1 p = none := I2.hok.fresh hp
  have J : Inv X pins σ (upd H1 p (.lst (((sgn y).map sing).map V.str))) { ({ s1 with heap := h', toks := tk } : Shared) with heap := s'.heap, gens := s'.gens, drawn := s'.drawn, toks := s'.toks } :=
    Inv.call (s := { s1 with heap := h', toks := tk }) I2 (ch := []) (Un.laid k hp hn) (I2.hok.laid k hp ⟨hlen, out.toList, c, vals_strs hS, hg'⟩) (by rw [g]; exact I2.bare) (fun _ z => nomatch z)
  have e : s' = { s1 with heap := s'.heap, gens := s'.gens, drawn := s'.drawn, toks := s'.toks } := by
    cases s'
    cases s1
    cases o
    rfl
  rw [e]
  have q := q1 p hn
  have e3 : ((sgn y).map sing).map V.str = (sgn y).map fun c => V.str (sing c) := by rw [List.map_map]; rfl
  rw [← e3] at q
  exact ⟨.ref p, _, J, rfl, q⟩
end
end Ft

/-! sorted(set(x)) of a text; range downwards; tuple(range(n)). -/
namespace Dn
open PySem PySem.Spec PyProof.Rows L2 Ft LamX StX
section
variable {G : Gx} {X : Cx} {E : WX} {m m' : M} {H H' : Hp} {e : Expr} {fe fa : Ex} {fr : Ax} {pos p p2 q : Pos} {sl : Slo} {st : Sto} {QW : W → Sto → Prop} {XQ : XP}
def gSortTx : D → Option D
  | .str y => if y.cps.all (· < 128) = true ∧ y.length < 64 then some (.lst ((sgn y).map fun c => .str ⟨#[c]⟩)) else none
  | _ => none
theorem sgn_len (y : Str) : (sgn y).length ≤ 128 := by
  unfold sgn
  exact Nat.le_trans (List.length_filter_le _ _) (by rw [List.length_range]; exact Nat.le_refl _)
theorem rpA_sings (m : M) (H : Hp) : ∀ cs : List Nat, RpA G m H (cs.map fun c => V.str (PySem.Froz.sing c)) (cs.map fun c => D.str ⟨#[c]⟩)
  | [] => .nil
  | c :: cs => .cons (.str _ (by show 1 ≤ lim; decide)) (rpA_sings m H cs)
theorem de_sortTx (he : DE G X E e fe) (hc : X.calm = true) (hg : Gl X "sorted") (hm : X.mg "sorted" = none) (hg2 : Gl X "set") (hm2 : X.mg "set" = none)
    (na : starEach [e] X.env = (false, eval e X.env) :: starEach [] X.env := by rfl) : DE G X E (.Call (.Name "sorted" p) [.Call (.Name "set" p2) [e] [] q] [] pos) (eUn gSortTx fe) := by
  refine PE.imp (pe_sortTx hc hg hm hg2 hm2 he na) ?_
  rintro σ H Q ⟨m, sl, st, hs, hc, h⟩
  refine ⟨m, sl, st, hs, hc, aft_bnd h fun w st1 v H1 m1 e1 c1 r1 h1 => ?_⟩
  unfold lift1 at h1
  split at h1
  · rename_i d hd
    obtain ⟨d', e2, q⟩ := aft_pr c1 h1
    have rx := view_ok c1 r1 hd
    cases d with
    | str y =>
      unfold gSortTx at e2
      simp only at e2
      split at e2
      · rename_i hn
        cases e2
        exact ⟨y, rx.str, hn.1, hn.2, fun p hp => q _ _ (same_new hp) (rp_lst c1 hp (by rw [List.length_map]; exact Nat.le_trans (sgn_len y) (by decide)) (rpA_sings _ _ _))⟩
      · cases e2
    | _ => cases e2
  · exact h1.elim
theorem gSortTx_s {y : Str} : gSortTx (.str y) = if y.cps.all (· < 128) = true ∧ y.length < 64 then some (.lst ((sgn y).map fun c => .str ⟨#[c]⟩)) else none := rfl
/-! ### range(i, j, -1) -/
def rngD (lo : Int) (n : Nat) : List D := (List.range n).map fun (i : Nat) => D.int (lo - (i : Int))
theorem rngD_len (lo : Int) (n : Nat) : (rngD lo n).length = n := by unfold rngD; rw [List.length_map, List.length_range]
theorem walk_rngD {lo : Int} {n : Nat} : Walks G (Itc lo (-1) n) m H (rngD lo n) none := by
  intro m' H' st' i e c hk
  refine ⟨fun hi => ?_, fun d hd => ?_⟩
  · rw [rngD_len] at hi
    exact Nat.le_of_eq hi
  · unfold rngD at hd
    rw [List.getElem?_map, Option.map_eq_some_iff] at hd
    obtain ⟨j, h2, rfl⟩ := hd
    have hl : i < n := by
      have := (List.getElem?_eq_some_iff.mp h2).1
      rwa [List.length_range] at this
    rw [List.getElem?_range hl] at h2
    cases h2
    refine ⟨hl, fun y H'' q => ?_⟩
    obtain ⟨rfl, rfl⟩ := q
    refine ⟨fun _ _ h => h, ?_⟩
    rw [show lo + ((i : Nat) : Int) * (-1) = lo - (i : Int) by omega]
    exact .int _
def iRangeD (f : Ax) : Ix := fun sl st => bnd (f sl st) fun ws st1 => match ws with
  | [.d (.int i), .d (.int j), .d (.int k)] => if k = -1 ∧ -100000 ≤ i ∧ i ≤ 100000 ∧ -100000 ≤ j ∧ j ≤ 100000 ∧ i - j ≤ 100000 then some (.ok (rngD i (i - j).toNat, none), st1) else none
  | _ => none
theorem di_rangeD {a b c tg : Expr} (hg : Gl X "range") (hm : X.mg "range" = none) (ha : DA G X E [a, b, c] fr) (hs : starEach [a, b, c] X.env = (false, eval a X.env) :: starEach [b, c] X.env := by rfl) (hpl : (backTo pos (starEach [b, c] X.env)).any (·.1) = false := by rfl) :
    DI G X E tg (.Call (.Name "range" p) [a, b, c] [] pos) (iRangeD fr) := by
  refine PI.imp (pi_range3 hg hm ha hs hpl) ?_
  rintro σ H Q ⟨m, sl, st, hs, hc, h⟩
  refine ⟨m, sl, st, hs, hc, aft_bnd h fun w st1 v H1 m1 e1 c1 r1 h1 => ?_⟩
  split at h1
  · rename_i i j k
    split at h1
    · rename_i hj
      obtain ⟨rfl, h2, h3, h4, h5, h6⟩ := hj
      cases r1 with
      | cons q1 q2 =>
        cases q1
        cases q2 with
        | cons q3 q4 =>
          cases q3
          cases q4 with
          | cons q5 q6 =>
            cases q5
            cases q6
            exact ⟨i, j, -1, (i - j).toNat, rfl, RgC.neg (by omega) (by omega) (by omega) (by omega), aft_ok (v := Itc i (-1) (i - j).toNat) h1 c1 ⟨walk_rngD, by rw [rngD_len]; unfold lim; omega⟩⟩
    · exact h1.elim
  · exact h1.elim
def wp3 (ws : List W) (k : W → W → W → Prop) : Prop := match ws with
  | [a, b, c] => k a b c
  | _ => False
def kRngD (QI : (List D × Option (Nat × List D)) → Sto → Prop) (ws : List W) (st1 : Sto) : Prop := wp3 ws fun a b c => wpd a fun a => wpi a fun i => wpd b fun b => wpi b fun j => wpd c fun c => wpi c fun k => (k = -1 ∧ -100000 ≤ i ∧ i ≤ 100000 ∧ -100000 ≤ j ∧ j ≤ 100000 ∧ i - j ≤ 100000) ∧ QI (rngD i (i - j).toNat, none) st1
theorem kRngD_ap {QI : (List D × Option (Nat × List D)) → Sto → Prop} {ws : List W} {st1 : Sto} : kRngD QI ws st1 = wp3 ws fun a b c => wpd a fun a => wpi a fun i => wpd b fun b => wpi b fun j => wpd c fun c => wpi c fun k => (k = -1 ∧ -100000 ≤ i ∧ i ≤ 100000 ∧ -100000 ≤ j ∧ j ≤ 100000 ∧ i - j ≤ 100000) ∧ QI (rngD i (i - j).toNat, none) st1 := rfl
theorem wp3_is {a b c : W} {k : W → W → W → Prop} : wp3 [a, b, c] k = k a b c := rfl
theorem wp_rngD {QI : (List D × Option (Nat × List D)) → Sto → Prop} : wp (iRangeD fr sl st) QI XQ = wp (fr sl st) (kRngD QI) XQ := by
  unfold iRangeD
  rw [wp_bnd]
  congr; funext ws st1
  unfold kRngD
  split
  · rename_i i j k
    simp only [wp3, wpd, wpi]
    by_cases h : k = -1 ∧ -100000 ≤ i ∧ i ≤ 100000 ∧ -100000 ≤ j ∧ j ≤ 100000 ∧ i - j ≤ 100000
    · rw [if_pos h]; exact propext ⟨fun z => ⟨h, z⟩, fun z => z.2⟩
    · rw [if_neg h]; exact propext ⟨fun z => z.elim, fun z => h z.1⟩
  · rename_i hn
    refine propext ⟨fun z => z.elim, fun z => ?_⟩
    match ws, z with
    | [a, b, c], z =>
      cases a with
      | d a => cases a with
        | int i => cases b with
          | d b => cases b with
            | int j => cases c with
              | d c => cases c with
                | int k => exact absurd rfl (hn i j k)
                | _ => exact z.elim
              | _ => exact z.elim
            | _ => exact z.elim
          | _ => exact z.elim
        | _ => exact z.elim
      | _ => exact z.elim
/-! ### *e in an argument list, e a list -/
def aStarL (fe : Ex) (fr : Ax) : Ax := fun sl st => bnd (fe sl st) fun w st1 => match view st1 w with
  | some (.lst ds) => bnd (fr sl st1) fun ws st2 => some (.ok (ds.map W.d ++ ws), st2)
  | _ => none
theorem da_starL {es : List Expr} (he : DE G X E e fe) (hr : DA G X E es fr) (hs : starEach (.Starred e p :: es) X.env = (true, eval e X.env) :: starEach es X.env := by rfl) : DA G X E (.Starred e p :: es) (aStarL fe fr) := by
  refine PA.imp (pa_star he hr hs) ?_
  rintro σ H Q ⟨m, sl, st, hs, hc, h⟩
  refine ⟨m, sl, st, hs, hc, aft_bnd h fun w st1 x H1 m1 e1 c1 r1 h1 => ?_⟩
  split at h1
  · rename_i ds hv
    obtain ⟨a, xs, rfl, h2, ra⟩ := (view_ok c1 r1 hv).lst
    refine ⟨a, xs, rfl, .inr (.inl (.inl h2)), m1, sl, st1, hs.ext hc e1, c1, aft_bnd h1 fun ws st2 ys H2 m2 e2 c2 r2 h2 => ?_⟩
    exact aft_ok h2 c2 (RpWs.app (RpA.ws (ra.ext c1 e2)) r2)
  · exact h1.elim
def kStarL (fr : Ax) (sl : Slo) (QA : List W → Sto → Prop) (X : XP) (w : W) (st1 : Sto) : Prop := wpo (view st1 w) fun d => wpdl d fun ds => wp (fr sl st1) (kStar2 ds QA) X
theorem kStarL_ap {QA : List W → Sto → Prop} {w : W} {st1 : Sto} : kStarL fr sl QA XQ w st1 = wpo (view st1 w) fun d => wpdl d fun ds => wp (fr sl st1) (kStar2 ds QA) XQ := rfl
theorem wp_starL {QA : List W → Sto → Prop} : wp (aStarL fe fr sl st) QA XQ = wp (fe sl st) (kStarL fr sl QA XQ) XQ := by
  unfold aStarL
  rw [wp_bnd]
  congr; funext w st1
  unfold kStarL
  cases view st1 w with
  | none => rfl
  | some d => cases d with
    | lst ds => simp only [wpo_some, wpdl, wp_bnd, wp_ok]; rfl
    | _ => rfl
/-! ### tuple(range(n)) -/
def eTupRg (fr : Ax) : Ex := fun sl st => bnd (fr sl st) fun ws st1 => match ws with
  | [.d (.int n)] => if -(2 ^ 62) ≤ n ∧ n ≤ 100000 then some (.ok (.d (.tup (rng 0 n.toNat))), st1) else none
  | _ => none
theorem de_tupRg {a : Expr} (ha : DE G X E a fe) (hg : Gl X "tuple") (hm : X.mg "tuple" = none) (hg2 : Gl X "range") (hm2 : X.mg "range" = none) (hc : X.calm = true := by rfl)
    (na : starEach [a] X.env = (false, eval a X.env) :: starEach [] X.env := by rfl)
    (na2 : starEach [.Call (.Name "range" p2) [a] [] q] X.env = (false, eval (.Call (.Name "range" p2) [a] [] q) X.env) :: starEach [] X.env := by rfl) :
    DE G X E (.Call (.Name "tuple" p) [.Call (.Name "range" p2) [a] [] q] [] pos) (eTupRg (aCons fe aNil)) := by
  refine PE.imp (pe_tupRg hc hg hm (prg_1 hg2 hm2 ha na) na2) ?_
  rintro σ H Q ⟨m, sl, st, hs, hc, h⟩
  refine ⟨m, sl, st, hs, hc, ?_⟩
  unfold eTupRg aCons aNil at h
  cases hf : fe sl st with
  | none => rw [hf] at h; exact h.elim
  | some r =>
    obtain ⟨o, st1⟩ := r
    rw [hf] at h
    cases o with
    | exc c fs => exact h
    | ok w =>
      simp only [bnd_ok] at h
      intro v H1 m1 e1 c1 r1
      split at h
      · rename_i n z
        cases z
        split at h
        · rename_i hn
          have rv : v = .int n := by cases r1; rfl
          refine ⟨n, rv, ⟨by decide, by decide, hn.1, by omega, by omega⟩, fun p hp => ?_⟩
          have hl : (rng 0 n.toNat).length ≤ lim := by rw [rng_len, lim_is]; omega
          have sm := same_new (o := .tup (rgV 0 n)) hp
          have x := Ext.of_same (m := m1) sm
          exact h _ _ m1 (e1.trans x) (c1.same sm) (rpd (rp_tup hp hl (rp_rg _ _ _ n)))
        · exact h.elim
      · exact h.elim
def kTupRg (QW : W → Sto → Prop) (ws : List W) (st1 : Sto) : Prop := wp1 ws fun a => wpd a fun a => wpi a fun n => (-(2 ^ 62) ≤ n ∧ n ≤ 100000) ∧ QW (.d (.tup (rng 0 n.toNat))) st1
theorem kTupRg_ap {ws : List W} {st1 : Sto} : kTupRg QW ws st1 = wp1 ws fun a => wpd a fun a => wpi a fun n => (-(2 ^ 62) ≤ n ∧ n ≤ 100000) ∧ QW (.d (.tup (rng 0 n.toNat))) st1 := rfl
theorem wp_tupRg : wp (eTupRg fr sl st) QW XQ = wp (fr sl st) (kTupRg QW) XQ := by
  unfold eTupRg
  rw [wp_bnd]
  congr; funext ws st1
  unfold kTupRg
  match ws with
  | [] => rfl
  | [.d d] => cases d with
    | int n =>
      simp only [wp1, wpd, wpi]
      by_cases h : -(2 ^ 62) ≤ n ∧ n ≤ 100000
      · rw [if_pos h]; simp only [h, and_self, true_and]; rfl
      · rw [if_neg h]; simp only [h, false_and]; rfl
    | _ => rfl
  | [.c _] => rfl
  | [.scr _] => rfl
  | [.t _] => rfl
  | a :: _ :: _ => cases a with
    | d d => cases d <;> rfl
    | _ => rfl
end
end Dn

namespace D49
open PySem L2 Ft Dn LamX StX
noncomputable def b_is_whole : Sm := (sRet (eAnd (eUn (gIs "int") (eVar 0)) (eNot (eUn (gIs "bool") (eVar 0)))))
noncomputable def spec_is_whole : Dn.Spec := fun ws st => if ws.length = 1 then runB true 1 b_is_whole ws st else none
theorem n_is_whole : ∀ ws st r, spec_is_whole ws st = some r → ws.length = 1 := fun ws st r h => by
  unfold spec_is_whole at h
  split at h
  · assumption
  · cases h
theorem r_is_whole : ∀ ws st r, ws.length = 1 → spec_is_whole ws st = some r → runB true 1 b_is_whole ws st = some r := fun ws st r hl h => by
  unfold spec_is_whole at h
  rw [if_pos hl] at h
  exact h
noncomputable def b_is_between : Sm := (sRet (eAnd (eFn spec_is_whole (aCons (eVar 0) aNil)) (eChain gLe gLe (eVar 1) (eVar 0) (eVar 2))))
noncomputable def spec_is_between : Dn.Spec := fun ws st => if ws.length = 3 then runB true 3 b_is_between ws st else none
theorem n_is_between : ∀ ws st r, spec_is_between ws st = some r → ws.length = 3 := fun ws st r h => by
  unfold spec_is_between at h
  split at h
  · assumption
  · cases h
theorem r_is_between : ∀ ws st r, ws.length = 3 → spec_is_between ws st = some r → runB true 3 b_is_between ws st = some r := fun ws st r hl h => by
  unfold spec_is_between at h
  rw [if_pos hl] at h
  exact h
noncomputable def b_is_sign : Sm := (sRet (eOr (eChain gLe gLe (eC (.str " ")) (eVar 0) (eC (.str "~"))) (eOp gEq (eVar 0) (eC (.str "\n")))))
noncomputable def spec_is_sign : Dn.Spec := fun ws st => if ws.length = 1 then runB true 1 b_is_sign ws st else none
theorem n_is_sign : ∀ ws st r, spec_is_sign ws st = some r → ws.length = 1 := fun ws st r h => by
  unfold spec_is_sign at h
  split at h
  · assumption
  · cases h
theorem r_is_sign : ∀ ws st r, ws.length = 1 → spec_is_sign ws st = some r → runB true 1 b_is_sign ws st = some r := fun ws st r hl h => by
  unfold spec_is_sign at h
  rw [if_pos hl] at h
  exact h
noncomputable def b_is_string : Sm := (sRet (eAnd (eUn (gIs "str") (eVar 0)) (eAnd (eChain gLe gLe (eVar 1) (eCall gLen (aCons (eVar 0) aNil)) (eVar 2)) (eCall gAll (aCons (eLc (iOf itAny (eVar 0)) (gN 3) tYesX (eFn spec_is_sign (aCons (eVar 3) aNil)) [3]) aNil)))))
noncomputable def spec_is_string : Dn.Spec := fun ws st => if ws.length = 3 then runB true 4 b_is_string ws st else none
theorem n_is_string : ∀ ws st r, spec_is_string ws st = some r → ws.length = 3 := fun ws st r h => by
  unfold spec_is_string at h
  split at h
  · assumption
  · cases h
theorem r_is_string : ∀ ws st r, ws.length = 3 → spec_is_string ws st = some r → runB true 4 b_is_string ws st = some r := fun ws st r hl h => by
  unfold spec_is_string at h
  rw [if_pos hl] at h
  exact h
noncomputable def b_are_unlike : Sm := (sRet (eOp gEq (eLenTx (eVar 0)) (eCall gLen (aCons (eVar 0) aNil))))
noncomputable def spec_are_unlike : Dn.Spec := fun ws st => if ws.length = 1 then runB true 1 b_are_unlike ws st else none
theorem n_are_unlike : ∀ ws st r, spec_are_unlike ws st = some r → ws.length = 1 := fun ws st r h => by
  unfold spec_are_unlike at h
  split at h
  · assumption
  · cases h
theorem r_are_unlike : ∀ ws st r, ws.length = 1 → spec_are_unlike ws st = some r → runB true 1 b_are_unlike ws st = some r := fun ws st r hl h => by
  unfold spec_are_unlike at h
  rw [if_pos hl] at h
  exact h
noncomputable def b_check_good : Sm := (sSeq (sIf (tNotX (tBl (eUn (gIs "tuple") (eVar 1)))) (sRaise "InvalidGood" "index" (aCons (eC .non) aNil)) sSkip)
    (sSeq (sSet 2 (eCell aNil))
    (sFor (iEnumT (aCons (eVar 1) aNil)) (gT (gsCons (gN 3) (gsCons (gN 4) gsNil))) (sSeq (sIf (tOrX (tNotX (tBl (eFn spec_is_between (aCons (eVar 4) (aCons (eC (.int 0)) (aCons (eOp gSub (eVar 0) (eC (.int 1))) aNil)))))) (tCmp gIn (eVar 4) (eVar 2))) (sRaise "InvalidGood" "index" (aCons (eVar 3) aNil)) sSkip)
    (sExpr (eAppend (isCell (eVar 2)) (eVar 4)))))))
noncomputable def spec_check_good : Dn.Spec := fun ws st => if ws.length = 2 then runB true 5 b_check_good ws st else none
theorem n_check_good : ∀ ws st r, spec_check_good ws st = some r → ws.length = 2 := fun ws st r h => by
  unfold spec_check_good at h
  split at h
  · assumption
  · cases h
theorem r_check_good : ∀ ws st r, ws.length = 2 → spec_check_good ws st = some r → runB true 5 b_check_good ws st = some r := fun ws st r hl h => by
  unfold spec_check_good at h
  rw [if_pos hl] at h
  exact h
noncomputable def b_is_move : Sm := (sSeq (sIf (tOrX (tNotX (tBl (eUn (gIs "tuple") (eVar 1)))) (tCmp gNe (eCall gLen (aCons (eVar 1) aNil)) (eC (.int 3)))) (sRet (eC (.bl false))) sSkip)
    (sSeq (sIf (tOrX (tNotX (tBl (eFn spec_is_between (aCons (eIx gIx (eVar 1) (eC (.int 0))) (aCons (eC (.int 0)) (aCons (eOp gSub (eVar 0) (eC (.int 1))) aNil)))))) (tNotX (tBl (eFn spec_is_between (aCons (eIx gIx (eVar 1) (eC (.int 2))) (aCons (eC (.int 0)) (aCons (eOp gSub (eVar 0) (eC (.int 1))) aNil))))))) (sRet (eC (.bl false))) sSkip)
    (sRet (eOr (eOp gIsN (eIx gIx (eVar 1) (eC (.int 1))) (eC .non)) (eAnd (eFn spec_is_string (aCons (eIx gIx (eVar 1) (eC (.int 1))) (aCons (eC (.int 1)) (aCons (eC (.int 96)) aNil)))) (eFn spec_are_unlike (aCons (eIx gIx (eVar 1) (eC (.int 1))) aNil)))))))
noncomputable def spec_is_move : Dn.Spec := fun ws st => if ws.length = 2 then runB true 2 b_is_move ws st else none
theorem n_is_move : ∀ ws st r, spec_is_move ws st = some r → ws.length = 2 := fun ws st r h => by
  unfold spec_is_move at h
  split at h
  · assumption
  · cases h
theorem r_is_move : ∀ ws st r, ws.length = 2 → spec_is_move ws st = some r → runB true 2 b_is_move ws st = some r := fun ws st r hl h => by
  unfold spec_is_move at h
  rw [if_pos hl] at h
  exact h
noncomputable def b_check_moves : Sm := (sSeq (sIf (tCmp gGt (eCall gLen (aCons (eVar 1) aNil)) (eC (.int 30))) (sRaise "InvalidMoves" "index" (aCons (eC .non) aNil)) sSkip)
    (sFor (iEnumT (aCons (eVar 1) aNil)) (gT (gsCons (gN 2) (gsCons (gN 3) gsNil))) (sIf (tNotX (tBl (eFn spec_is_move (aCons (eVar 0) (aCons (eVar 3) aNil))))) (sRaise "InvalidMoves" "index" (aCons (eVar 2) aNil)) sSkip)))
noncomputable def spec_check_moves : Dn.Spec := fun ws st => if ws.length = 2 then runB true 4 b_check_moves ws st else none
theorem n_check_moves : ∀ ws st r, spec_check_moves ws st = some r → ws.length = 2 := fun ws st r h => by
  unfold spec_check_moves at h
  split at h
  · assumption
  · cases h
theorem r_check_moves : ∀ ws st r, ws.length = 2 → spec_check_moves ws st = some r → runB true 4 b_check_moves ws st = some r := fun ws st r hl h => by
  unfold spec_check_moves at h
  rw [if_pos hl] at h
  exact h
noncomputable def b_overlap_of : Sm := (sSeq (sFor (iRangeD (aCons (eCall gLen (aCons (eVar 1) aNil)) (aCons (eC (.int 0)) (aCons (eUn gNeg (eC (.int 1))) aNil)))) (gN 2) (sIf (tCmp gEq (eSl gSl (eVar 1) (pSome (eOp gSub (eCall gLen (aCons (eVar 1) aNil)) (eVar 2))) pNone) (eSl gSl (eVar 0) pNone (pSome (eVar 2)))) (sRet (eVar 2)) sSkip))
    (sRet (eC (.int 0))))
noncomputable def spec_overlap_of : Dn.Spec := fun ws st => if ws.length = 2 then runB true 3 b_overlap_of ws st else none
theorem n_overlap_of : ∀ ws st r, spec_overlap_of ws st = some r → ws.length = 2 := fun ws st r h => by
  unfold spec_overlap_of at h
  split at h
  · assumption
  · cases h
theorem r_overlap_of : ∀ ws st r, ws.length = 2 → spec_overlap_of ws st = some r → runB true 3 b_overlap_of ws st = some r := fun ws st r hl h => by
  unfold spec_overlap_of at h
  rw [if_pos hl] at h
  exact h
noncomputable def b_Pattern___init__ : Sm := (sSeq (sIf (tNotX (tBl (eFn spec_is_between (aCons (eVar 1) (aCons (eC (.int 1)) (aCons (eC (.int 5)) aNil)))))) (sRaise "InvalidNumber" "value" (aCons (eVar 1) aNil)) sSkip)
    (sSeq (sExpr (eFn spec_check_good (aCons (eVar 1) (aCons (eVar 2) aNil))))
    (sSeq (sExpr (eFn spec_check_moves (aCons (eVar 1) (aCons (eVar 3) aNil))))
    (sSeq (sFldSet "Pattern" "stands" (eVar 0) (eVar 1))
    (sSeq (sFldSet "Pattern" "good" (eVar 0) (eCall gTuple (aCons (eCall gSorted (aCons (eVar 2) aNil)) aNil)))
    (sSeq (sFldSet "Pattern" "moves" (eVar 0) (eVar 3))
    (sFldSet "Pattern" "form" (eVar 0) (eTup (aCons (eVar 1) (aCons (eUn (gFld ["Pattern"] "good") (eVar 0)) (aCons (eVar 3) aNil)))))))))))
noncomputable def spec_Pattern___init__ : Dn.Spec := fun ws st => if ws.length = 4 then runB true 4 b_Pattern___init__ ws st else none
theorem n_Pattern___init__ : ∀ ws st r, spec_Pattern___init__ ws st = some r → ws.length = 4 := fun ws st r h => by
  unfold spec_Pattern___init__ at h
  split at h
  · assumption
  · cases h
theorem r_Pattern___init__ : ∀ ws st r, ws.length = 4 → spec_Pattern___init__ ws st = some r → runB true 4 b_Pattern___init__ ws st = some r := fun ws st r hl h => by
  unfold spec_Pattern___init__ at h
  rw [if_pos hl] at h
  exact h
noncomputable def b_Pattern_without : Sm := (sSeq (sIf (tNotX (tBl (eFn spec_is_string (aCons (eVar 0) (aCons (eC (.int 1)) (aCons (eOp gSub (eC (.int 5)) (eC (.int 1))) aNil)))))) (sRaise "InvalidString" "value" (aCons (eVar 0) aNil)) sSkip)
    (sSeq (sSet 1 (eCell aNil))
    (sSeq (sFor (iRange1 (aCons (eCall gLen (aCons (eVar 0) aNil)) aNil)) (gN 2) (sSeq (sFor (iOf itAny (eUn gSortTx (eVar 0))) (gN 3) (sExpr (eAppend (isCell (eVar 1)) (eTup (aCons (eVar 2) (aCons (eVar 3) (aCons (eFn spec_overlap_of (aCons (eVar 0) (aCons (eOp gAdd (eSl gSl (eVar 0) pNone (pSome (eVar 2))) (eVar 3)) aNil))) aNil)))))))
    (sExpr (eAppend (isCell (eVar 1)) (eTup (aCons (eVar 2) (aCons (eC .non) (aCons (eC (.int 0)) aNil))))))))
    (sSeq (sSet 4 (eTupRg (aCons (eCall gLen (aCons (eVar 0) aNil)) aNil)))
    (sRet (eNewR "Pattern" spec_Pattern___init__ 2 (aCons (eOp gAdd (eCall gLen (aCons (eVar 0) aNil)) (eC (.int 1))) (aCons (eVar 4) (aStarL (eVar 1) aNil)))))))))
noncomputable def spec_Pattern_without : Dn.Spec := fun ws st => if ws.length = 1 then runB true 5 b_Pattern_without ws st else none
theorem n_Pattern_without : ∀ ws st r, spec_Pattern_without ws st = some r → ws.length = 1 := fun ws st r h => by
  unfold spec_Pattern_without at h
  split at h
  · assumption
  · cases h
theorem r_Pattern_without : ∀ ws st r, ws.length = 1 → spec_Pattern_without ws st = some r → runB true 5 b_Pattern_without ws st = some r := fun ws st r hl h => by
  unfold spec_Pattern_without at h
  rw [if_pos hl] at h
  exact h
noncomputable def b_Pattern_stand_behind : Sm := (sSeq (sFor (iOf itAny (eUn (gFld ["Pattern"] "moves") (eVar 0))) (gT (gsCons (gN 3) (gsCons (gN 4) (gsCons (gN 5) gsNil)))) (sIf (tAndX (tCmp gEq (eVar 3) (eVar 1)) (tOrX (tCmp gIsN (eVar 4) (eC .non)) (tCmp gIn (eVar 2) (eVar 4)))) (sRet (eVar 5)) sSkip))
    (sRet (eVar 1)))
noncomputable def spec_Pattern_stand_behind : Dn.Spec := fun ws st => if ws.length = 3 then runB true 6 b_Pattern_stand_behind ws st else none
theorem n_Pattern_stand_behind : ∀ ws st r, spec_Pattern_stand_behind ws st = some r → ws.length = 3 := fun ws st r h => by
  unfold spec_Pattern_stand_behind at h
  split at h
  · assumption
  · cases h
theorem r_Pattern_stand_behind : ∀ ws st r, ws.length = 3 → spec_Pattern_stand_behind ws st = some r → runB true 6 b_Pattern_stand_behind ws st = some r := fun ws st r hl h => by
  unfold spec_Pattern_stand_behind at h
  rw [if_pos hl] at h
  exact h
noncomputable def b_Pattern_face : Sm := (sSeq (sIf (tNotX (tBl (eUn (gIs "str") (eVar 1)))) (sRaise "InvalidText" "value" (aCons (eVar 1) aNil)) sSkip)
    (sSeq (sSet 2 (eListRg (aCons (eUn (gFld ["Pattern"] "stands") (eVar 0)) aNil)))
    (sSeq (sFor (iOf itAny (eVar 1)) (gN 3) (sSet 2 (eLc (iOf itAny (eVar 2)) (gN 4) tYesX (eMeth "Pattern" "stand_behind" spec_Pattern_stand_behind (eVar 0) (aCons (eVar 4) (aCons (eVar 3) aNil))) [4])))
    (sRet (eCall gTuple (aCons (eVar 2) aNil))))))
noncomputable def spec_Pattern_face : Dn.Spec := fun ws st => if ws.length = 2 then runB true 5 b_Pattern_face ws st else none
theorem n_Pattern_face : ∀ ws st r, spec_Pattern_face ws st = some r → ws.length = 2 := fun ws st r h => by
  unfold spec_Pattern_face at h
  split at h
  · assumption
  · cases h
theorem r_Pattern_face : ∀ ws st r, ws.length = 2 → spec_Pattern_face ws st = some r → runB true 5 b_Pattern_face ws st = some r := fun ws st r hl h => by
  unfold spec_Pattern_face at h
  rw [if_pos hl] at h
  exact h
noncomputable def b_Pattern_keeps : Sm := (sRet (eOp gIn (eIx gIx (eMeth "Pattern" "face" spec_Pattern_face (eVar 0) (aCons (eVar 1) aNil)) (eC (.int 0))) (eUn (gFld ["Pattern"] "good") (eVar 0))))
noncomputable def spec_Pattern_keeps : Dn.Spec := fun ws st => if ws.length = 2 then runB true 2 b_Pattern_keeps ws st else none
theorem n_Pattern_keeps : ∀ ws st r, spec_Pattern_keeps ws st = some r → ws.length = 2 := fun ws st r h => by
  unfold spec_Pattern_keeps at h
  split at h
  · assumption
  · cases h
theorem r_Pattern_keeps : ∀ ws st r, ws.length = 2 → spec_Pattern_keeps ws st = some r → runB true 2 b_Pattern_keeps ws st = some r := fun ws st r hl h => by
  unfold spec_Pattern_keeps at h
  rw [if_pos hl] at h
  exact h
noncomputable def b_Pattern___invert__ : Sm := (sSeq (sSet 1 (eCall gTuple (aCons (eLc (iRange1 (aCons (eUn (gFld ["Pattern"] "stands") (eVar 0)) aNil)) (gN 2) (tCmp gNotIn (eVar 2) (eUn (gFld ["Pattern"] "good") (eVar 0))) (eVar 2) [2]) aNil)))
    (sRet (eNewR "Pattern" spec_Pattern___init__ 2 (aCons (eUn (gFld ["Pattern"] "stands") (eVar 0)) (aCons (eVar 1) (aStar (eUn (gFld ["Pattern"] "moves") (eVar 0)) aNil))))))
noncomputable def spec_Pattern___invert__ : Dn.Spec := fun ws st => if ws.length = 1 then runB true 3 b_Pattern___invert__ ws st else none
theorem n_Pattern___invert__ : ∀ ws st r, spec_Pattern___invert__ ws st = some r → ws.length = 1 := fun ws st r h => by
  unfold spec_Pattern___invert__ at h
  split at h
  · assumption
  · cases h
theorem r_Pattern___invert__ : ∀ ws st r, ws.length = 1 → spec_Pattern___invert__ ws st = some r → runB true 3 b_Pattern___invert__ ws st = some r := fun ws st r hl h => by
  unfold spec_Pattern___invert__ at h
  rw [if_pos hl] at h
  exact h
noncomputable def b_Pattern___eq__ : Sm := (sRet (eAnd (eUn (gIsO "Pattern") (eVar 1)) (eOp gEq (eUn (gFld ["Pattern"] "form") (eVar 0)) (eUn (gFld ["Pattern"] "form") (eVar 1)))))
noncomputable def spec_Pattern___eq__ : Dn.Spec := fun ws st => if ws.length = 2 then runB true 2 b_Pattern___eq__ ws st else none
theorem n_Pattern___eq__ : ∀ ws st r, spec_Pattern___eq__ ws st = some r → ws.length = 2 := fun ws st r h => by
  unfold spec_Pattern___eq__ at h
  split at h
  · assumption
  · cases h
theorem r_Pattern___eq__ : ∀ ws st r, ws.length = 2 → spec_Pattern___eq__ ws st = some r → runB true 2 b_Pattern___eq__ ws st = some r := fun ws st r hl h => by
  unfold spec_Pattern___eq__ at h
  rw [if_pos hl] at h
  exact h
noncomputable def b_law_cell : Sm := (sSeq (sIf (tCmp gLt (eVar 1) (eCall gLen (aCons (eVar 0) aNil))) (sRet (eIx gIx (eVar 0) (eVar 1))) sSkip)
    (sSeq (sSet 2 (eOp gAdd (eOp gMul (eOp gMul (eC (.int 40503)) (eOp gAdd (eVar 1) (eC (.int 7)))) (eOp gAdd (eVar 1) (eC (.int 2)))) (eC (.int 9176))))
    (sSeq (sFor (iOf itAny (eSl gSl (eVar 0) pNone (pSome (eC (.int 4))))) (gN 3) (sSet 2 (eOp gMod (eCall gInt (aCons (eOp gAdd (eOp gMul (eVar 2) (eC (.int 31337))) (eVar 3)) aNil)) (eC (.int 2147483629)))))
    (sRet (eVar 2)))))
noncomputable def spec_law_cell : Dn.Spec := fun ws st => if ws.length = 2 then runB true 4 b_law_cell ws st else none
theorem n_law_cell : ∀ ws st r, spec_law_cell ws st = some r → ws.length = 2 := fun ws st r h => by
  unfold spec_law_cell at h
  split at h
  · assumption
  · cases h
theorem r_law_cell : ∀ ws st r, ws.length = 2 → spec_law_cell ws st = some r → runB true 4 b_law_cell ws st = some r := fun ws st r hl h => by
  unfold spec_law_cell at h
  rw [if_pos hl] at h
  exact h
noncomputable def b_law_pool : Sm := (sRet (eCell (aCons (eIf (tOrX (tCmp gLt (eVar 0) (eC (.int 0))) (tCmp gGe (eVar 0) (eOp gPow (eC (.int 10)) (eC (.int 18))))) (eCall gAbs (aCons (eVar 0) aNil)) (eC (.int 0))) (aCons (eOp gMod (eCall gInt (aCons (eVar 0) aNil)) (eC (.int 2147483629))) (aCons (eC (.int 0)) aNil)))))
noncomputable def spec_law_pool : Dn.Spec := fun ws st => if ws.length = 1 then runB false 1 b_law_pool ws st else none
theorem n_law_pool : ∀ ws st r, spec_law_pool ws st = some r → ws.length = 1 := fun ws st r h => by
  unfold spec_law_pool at h
  split at h
  · assumption
  · cases h
theorem r_law_pool : ∀ ws st r, ws.length = 1 → spec_law_pool ws st = some r → runB false 1 b_law_pool ws st = some r := fun ws st r hl h => by
  unfold spec_law_pool at h
  rw [if_pos hl] at h
  exact h
noncomputable def b_law_draw : Sm := (sSeq (sSetIx (eVar 0) (eC (.int 2)) (eOp gAdd (eIx gIx (eVar 0) (eC (.int 2))) (eC (.int 1))))
    (sSeq (sSet 2 (eCall gInt (aCons (eIx gIx (eVar 0) (eC (.int 1))) aNil)))
    (sSeq (sSetIx (eVar 0) (eC (.int 1)) (eOp gMod (eCall gInt (aCons (eOp gAdd (eOp gAdd (eOp gMul (eVar 2) (eOp gAdd (eOp gMod (eCall gInt (aCons (eVar 2) aNil)) (eC (.int 30011))) (eC (.int 20011)))) (eOp gMul (eC (.int 65551)) (eIx gIx (eVar 0) (eC (.int 2))))) (eC (.int 17))) aNil)) (eC (.int 2147483629))))
    (sSeq (sIf (tCmp gGt (eIx gIx (eVar 0) (eC (.int 0))) (eC (.int 0))) (sSeq (sAsgIx 3 (eVar 0) (eC (.int 0)) (eCall gDivmod (aCons (eIx gIx (eVar 0) (eC (.int 0))) (aCons (eVar 1) aNil))))
    (sRet (eVar 3))) sSkip)
    (sRet (eOp gMod (eCall gInt (aCons (eOp gDiv (eIx gIx (eVar 0) (eC (.int 1))) (eC (.int 128))) aNil)) (eVar 1)))))))
noncomputable def spec_law_draw : Dn.Spec := fun ws st => if ws.length = 2 then runB true 4 b_law_draw ws st else none
theorem n_law_draw : ∀ ws st r, spec_law_draw ws st = some r → ws.length = 2 := fun ws st r h => by
  unfold spec_law_draw at h
  split at h
  · assumption
  · cases h
theorem r_law_draw : ∀ ws st r, ws.length = 2 → spec_law_draw ws st = some r → runB true 4 b_law_draw ws st = some r := fun ws st r hl h => by
  unfold spec_law_draw at h
  rw [if_pos hl] at h
  exact h
noncomputable def b_law_signs : Sm := (sSeq (sSet 0 (eOp gAdd (eC (.str " !\"#$&'()*+,-./0123456789:;<=>?@ABCDEFGHIJKLMNOPQRSTUVWXYZ[\\]^_")) (eC (.str "`"))))
    (sRet (eOp gAdd (eOp gAdd (eVar 0) (eC (.str "abcdefghijklmnopqrstuvwxyz{|}~"))) (eC (.str "\n")))))
noncomputable def spec_law_signs : Dn.Spec := fun ws st => if ws.length = 0 then runB true 1 b_law_signs ws st else none
theorem n_law_signs : ∀ ws st r, spec_law_signs ws st = some r → ws.length = 0 := fun ws st r h => by
  unfold spec_law_signs at h
  split at h
  · assumption
  · cases h
theorem r_law_signs : ∀ ws st r, ws.length = 0 → spec_law_signs ws st = some r → runB true 1 b_law_signs ws st = some r := fun ws st r hl h => by
  unfold spec_law_signs at h
  rw [if_pos hl] at h
  exact h
noncomputable def b_law_drawn_text : Sm := (sSeq (sSet 4 (eC (.str "")))
    (sSeq (sFor (iRange1 (aCons (eOp gAdd (eVar 2) (eFn spec_law_draw (aCons (eVar 0) (aCons (eOp gAdd (eOp gSub (eVar 3) (eVar 2)) (eC (.int 1))) aNil)))) aNil)) (gN 5) (sSet 4 (eOp gAdd (eVar 4) (eIx gIx (eVar 1) (eFn spec_law_draw (aCons (eVar 0) (aCons (eCall gLen (aCons (eVar 1) aNil)) aNil)))))))
    (sRet (eVar 4))))
noncomputable def spec_law_drawn_text : Dn.Spec := fun ws st => if ws.length = 4 then runB true 6 b_law_drawn_text ws st else none
theorem n_law_drawn_text : ∀ ws st r, spec_law_drawn_text ws st = some r → ws.length = 4 := fun ws st r h => by
  unfold spec_law_drawn_text at h
  split at h
  · assumption
  · cases h
theorem r_law_drawn_text : ∀ ws st r, ws.length = 4 → spec_law_drawn_text ws st = some r → runB true 6 b_law_drawn_text ws st = some r := fun ws st r hl h => by
  unfold spec_law_drawn_text at h
  rw [if_pos hl] at h
  exact h
noncomputable def b_law_stands_in : Sm := (sRet (eOp gNe (eLc (iRange1 (aCons (eCall gLen (aCons (eVar 1) aNil)) aNil)) (gN 2) (tCmp gEq (eSl gSl (eVar 1) (pSome (eVar 2)) (pSome (eOp gAdd (eVar 2) (eCall gLen (aCons (eVar 0) aNil))))) (eVar 0)) (eVar 2) [2]) (eLst aNil)))
noncomputable def spec_law_stands_in : Dn.Spec := fun ws st => if ws.length = 2 then runB true 3 b_law_stands_in ws st else none
theorem n_law_stands_in : ∀ ws st r, spec_law_stands_in ws st = some r → ws.length = 2 := fun ws st r h => by
  unfold spec_law_stands_in at h
  split at h
  · assumption
  · cases h
theorem r_law_stands_in : ∀ ws st r, ws.length = 2 → spec_law_stands_in ws st = some r → runB true 3 b_law_stands_in ws st = some r := fun ws st r hl h => by
  unfold spec_law_stands_in at h
  rw [if_pos hl] at h
  exact h
noncomputable def b_law_words : Sm := (sSeq (sSet 3 (eCell (aCons (eC (.str "")) (aCons (eVar 2) (aCons (eSl gSl (eVar 2) (pSome (eC (.int 1))) pNone) (aCons (eOp gAdd (eSl gSl (eVar 2) pNone (pSome (eUn gNeg (eC (.int 1))))) (eVar 2)) (aCons (eOp gAdd (eSl gSl (eVar 2) (pSome (eC (.int 1))) pNone) (eSl gSl (eVar 2) pNone (pSome (eUn gNeg (eC (.int 1)))))) aNil)))))))
    (sSeq (sFor (iRange1 (aCons (eC (.int 5)) aNil)) (gN 4) (sSeq (sPar 5 6 (aCons (eFn spec_law_drawn_text (aCons (eVar 0) (aCons (eVar 1) (aCons (eC (.int 0)) (aCons (eC (.int 8)) aNil))))) (aCons (eFn spec_law_drawn_text (aCons (eVar 0) (aCons (eVar 1) (aCons (eC (.int 0)) (aCons (eC (.int 8)) aNil))))) aNil)))
    (sSeq (sSet 7 (eIx gIx (eLst (aCons (eVar 2) (aCons (eSl gSl (eVar 2) pNone (pSome (eUn gNeg (eC (.int 1))))) (aCons (eSl gSl (eVar 2) (pSome (eC (.int 1))) pNone) (aCons (eOp gAdd (eSl gSl (eVar 2) pNone (pSome (eUn gNeg (eC (.int 1))))) (eSl gSl (eVar 2) pNone (pSome (eUn gNeg (eC (.int 1)))))) (aCons (eOp gAdd (eIx gIx (eVar 2) (eC (.int 0))) (eSl gSl (eVar 2) (pSome (eC (.int 1))) (pSome (eC (.int 2))))) (aCons (eC (.str "")) aNil))))))) (eFn spec_law_draw (aCons (eVar 0) (aCons (eC (.int 6)) aNil)))))
    (sExpr (eAppend (isCell (eVar 3)) (eOp gAdd (eOp gAdd (eVar 5) (eVar 7)) (eVar 6)))))))
    (sRet (eVar 3))))
noncomputable def spec_law_words : Dn.Spec := fun ws st => if ws.length = 3 then runB false 8 b_law_words ws st else none
theorem n_law_words : ∀ ws st r, spec_law_words ws st = some r → ws.length = 3 := fun ws st r h => by
  unfold spec_law_words at h
  split at h
  · assumption
  · cases h
theorem r_law_words : ∀ ws st r, ws.length = 3 → spec_law_words ws st = some r → runB false 8 b_law_words ws st = some r := fun ws st r hl h => by
  unfold spec_law_words at h
  rw [if_pos hl] at h
  exact h
noncomputable def b_law_right : Sm := (sSeq (sPar 1 2 (aCons (eIx gIx (eLst (aCons (eC (.str "ab")) (aCons (eC (.str "ba")) (aCons (eC (.str "(1")) (aCons (eC (.str "\n ")) aNil))))) (eFn spec_law_draw (aCons (eVar 0) (aCons (eC (.int 4)) aNil)))) (aCons (eFn spec_law_signs aNil) aNil)))
    (sSeq (sSet 3 (eFn spec_law_drawn_text (aCons (eVar 0) (aCons (eIx gIx (eLst (aCons (eVar 1) (aCons (eVar 2) aNil))) (eCall gInt (aCons (eOp gEq (eFn spec_law_draw (aCons (eVar 0) (aCons (eC (.int 3)) aNil))) (eC (.int 0))) aNil))) (aCons (eC (.int 1)) (aCons (eC (.int 4)) aNil))))))
    (sSeq (sPar 4 5 (aCons (eFn spec_Pattern_without (aCons (eVar 3) aNil)) (aCons (eInv "Pattern" spec_Pattern___invert__ (eFn spec_Pattern_without (aCons (eVar 3) aNil))) aNil)))
    (sSeq (sIf (tOrX (tNotX (tBl (eUn (gIsO "Pattern") (eVar 4)))) (tOrX (tCmpO "Pattern" spec_Pattern___eq__ true gNe (eVar 4) (eFnK spec_Pattern_without appG 0 1 aNil (aCons (eVar 3) aNil))) (tCmpO "Pattern" spec_Pattern___eq__ false gEq (eVar 4) (eVar 5)))) (sRet (eC (.bl false))) sSkip)
    (sSeq (sFor (iOf itAny (eFn spec_law_words (aCons (eVar 0) (aCons (eOp gAdd (eVar 1) (eVar 3)) (aCons (eVar 3) aNil))))) (gN 6) (sSeq (sSet 7 (eNot (eFn spec_law_stands_in (aCons (eVar 3) (aCons (eVar 6) aNil)))))
    (sIf (tCmp gNe (eCall gRepr (aCons (eLst (aCons (eMeth "Pattern" "keeps" spec_Pattern_keeps (eVar 4) (aCons (eVar 6) aNil)) (aCons (eMeth "Pattern" "keeps" spec_Pattern_keeps (eVar 5) (aCons (eVar 6) aNil)) aNil))) aNil)) (eCall gRepr (aCons (eLst (aCons (eVar 7) (aCons (eNot (eVar 7)) aNil))) aNil))) (sRet (eC (.bl false))) sSkip)))
    (sRet (eAnd (eCmpO "Pattern" spec_Pattern___eq__ false gEq (eVar 4) (eFn spec_Pattern_without (aCons (eVar 3) aNil))) (eOp gEq (eCall gRepr (aCons (eMeth "Pattern" "keeps" spec_Pattern_keeps (eVar 4) (aCons (eVar 2) aNil)) aNil)) (eCall gRepr (aCons (eNot (eFn spec_law_stands_in (aCons (eVar 3) (aCons (eVar 2) aNil)))) aNil))))))))))
noncomputable def spec_law_right : Dn.Spec := fun ws st => if ws.length = 1 then runB true 8 b_law_right ws st else none
theorem n_law_right : ∀ ws st r, spec_law_right ws st = some r → ws.length = 1 := fun ws st r h => by
  unfold spec_law_right at h
  split at h
  · assumption
  · cases h
theorem r_law_right : ∀ ws st r, ws.length = 1 → spec_law_right ws st = some r → runB true 8 b_law_right ws st = some r := fun ws st r hl h => by
  unfold spec_law_right at h
  rw [if_pos hl] at h
  exact h
noncomputable def b_law : Sm := (sRet (eCall gAll (aCons (eLc (iRange1 (aCons (eCall gMax2 (aCons (eC (.int 3)) (aCons (eCall gMin2 (aCons (eCall gLen (aCons (eVar 0) aNil)) (aCons (eC (.int 12)) aNil))) aNil))) aNil)) (gN 1) tYesX (eFn spec_law_right (aCons (eFn spec_law_pool (aCons (eFn spec_law_cell (aCons (eVar 0) (aCons (eVar 1) aNil))) aNil)) aNil)) [1]) aNil)))
noncomputable def spec_law : Dn.Spec := fun ws st => if ws.length = 1 then runB true 2 b_law ws st else none
theorem n_law : ∀ ws st r, spec_law ws st = some r → ws.length = 1 := fun ws st r h => by
  unfold spec_law at h
  split at h
  · assumption
  · cases h
theorem r_law : ∀ ws st r, ws.length = 1 → spec_law ws st = some r → runB true 2 b_law ws st = some r := fun ws st r hl h => by
  unfold spec_law at h
  rw [if_pos hl] at h
  exact h
end D49

set_option maxHeartbeats 1000000
/-! the automaton that looks for a text -/
namespace D49
def ovl (t g : List Nat) : Nat → Nat
  | 0 => 0
  | m + 1 => if g.drop (g.length - (m + 1)) = t.take (m + 1) then m + 1 else ovl t g m
theorem suf_iff {t g : List Nat} {m : Nat} (h1 : m ≤ t.length) : t.take m <:+ g ↔ m ≤ g.length ∧ g.drop (g.length - m) = t.take m := by
  have hl : (t.take m).length = m := by rw [List.length_take]; omega
  rw [List.suffix_iff_eq_drop, hl]
  constructor
  · intro h
    refine ⟨?_, h.symm⟩
    have := congrArg List.length h
    rw [hl, List.length_drop] at this
    omega
  · intro h
    exact h.2.symm
theorem ovl_spec {t g : List Nat} (hg : g.length ≤ t.length) : ∀ m0, m0 ≤ g.length → ovl t g m0 ≤ m0 ∧ t.take (ovl t g m0) <:+ g ∧ ∀ m, m ≤ m0 → t.take m <:+ g → m ≤ ovl t g m0
  | 0, _ => ⟨Nat.le_refl _, by simp [ovl], fun m hm _ => hm⟩
  | k + 1, h => by
    obtain ⟨i1, i2, i3⟩ := ovl_spec hg k (by omega)
    unfold ovl
    by_cases c : g.drop (g.length - (k + 1)) = t.take (k + 1)
    · rw [if_pos c]
      exact ⟨Nat.le_refl _, (suf_iff (by omega)).mpr ⟨h, c⟩, fun m hm _ => hm⟩
    · rw [if_neg c]
      refine ⟨by omega, i2, fun m hm hs => ?_⟩
      rcases Nat.lt_or_ge m (k + 1) with z | z
      · exact i3 m (by omega) hs
      · have : m = k + 1 := by omega
        subst this
        exact absurd ((suf_iff (by omega)).mp hs).2 c
def Inv (t w : List Nat) (s : Nat) : Prop := (s = t.length ∧ t <:+: w) ∨ (s < t.length ∧ ¬ t <:+: w ∧ t.take s <:+ w ∧ ∀ m, m ≤ t.length → t.take m <:+ w → m ≤ s)
theorem inv_nil {t : List Nat} (ht : t ≠ []) : Inv t [] 0 := by
  refine .inr ⟨List.length_pos_iff.mpr ht, fun h => ht (List.infix_nil.mp h), by simp, fun m hm h => ?_⟩
  have := congrArg List.length (List.suffix_nil.mp h)
  rw [List.length_take] at this
  simp only [List.length_nil] at this
  omega
theorem inv_step {t w : List Nat} {s c : Nat} (h : Inv t w s) : Inv t (w ++ [c]) (if s = t.length then s else ovl t (t.take s ++ [c]) (s + 1)) := by
  rcases h with ⟨h1, h2⟩ | ⟨h1, h2, h3, h4⟩
  · rw [if_pos h1]
    exact .inl ⟨h1, h2.trans (List.prefix_append _ _).isInfix⟩
  · rw [if_neg (by omega)]
    have hl : (t.take s).length = s := by rw [List.length_take]; omega
    have hg : (t.take s ++ [c]).length = s + 1 := by rw [List.length_append, hl]; rfl
    obtain ⟨o1, o2, o3⟩ := ovl_spec (t := t) (g := t.take s ++ [c]) (by omega) (s + 1) (by omega)
    generalize ovl t (t.take s ++ [c]) (s + 1) = r at o1 o2 o3
    have suf : t.take s ++ [c] <:+ w ++ [c] := by
      obtain ⟨a, ha⟩ := h3
      exact ⟨a, by rw [← ha, List.append_assoc]⟩
    have big : ∀ m, m ≤ t.length → t.take m <:+ w ++ [c] → m ≤ r := fun m hm hs => by
      cases m with
      | zero => exact Nat.zero_le _
      | succ m =>
        rcases List.suffix_concat_iff.mp hs with e | ⟨u, e, hu⟩
        · have := congrArg List.length e
          rw [List.length_take] at this
          simp only [List.length_nil] at this
          omega
        · have hu2 : u = t.take m := by
            have e2 : (t.take (m + 1)).length = (u ++ [c]).length := by rw [e]
            have e3 : (t.take (m + 1)).length = m + 1 := by rw [List.length_take]; omega
            have e4 : (u ++ [c]).length = u.length + 1 := by simp
            have e5 : u.length = m := by omega
            have e1 : (t.take (m + 1)).take m = (u ++ [c]).take m := by rw [e]
            rw [List.take_take, Nat.min_eq_left (Nat.le_succ _), ← e5, List.take_left] at e1
            rw [e5] at e1
            exact e1.symm
          have hms := h4 m (by omega) (hu2 ▸ hu)
          refine o3 (m + 1) (by omega) ?_
          have hs2 : u <:+ t.take s := by
            refine List.suffix_of_suffix_length_le hu h3 ?_
            rw [hu2, List.length_take, List.length_take]
            omega
          rw [e]
          obtain ⟨a, ha⟩ := hs2
          exact ⟨a, by rw [← ha, List.append_assoc]⟩
    have rs : t.take r <:+ w ++ [c] := o2.trans suf
    rcases Nat.lt_or_ge r t.length with z | z
    · refine .inr ⟨z, fun hi => ?_, rs, big⟩
      rcases List.infix_concat_iff.mp hi with hi | hi
      · have := big t.length (Nat.le_refl _) (by rw [List.take_length]; exact hi)
        omega
      · exact h2 hi
    · have e : r = t.length := by omega
      refine .inl ⟨e, ?_⟩
      rw [e, List.take_length] at rs
      exact rs.isInfix
theorem ovl_none {t : List Nat} {s c : Nat} (hs : s < t.length) (hc : c ∉ t) : ovl t (t.take s ++ [c]) (s + 1) = 0 := by
  have hl : (t.take s).length = s := by rw [List.length_take]; omega
  have hg : (t.take s ++ [c]).length = s + 1 := by rw [List.length_append, hl]; rfl
  obtain ⟨o1, o2, o3⟩ := ovl_spec (t := t) (g := t.take s ++ [c]) (by omega) (s + 1) (by omega)
  rcases List.suffix_concat_iff.mp o2 with e | ⟨u, e, hu⟩
  · have := congrArg List.length e
    rw [List.length_take] at this
    simp only [List.length_nil] at this
    omega
  · exact absurd (List.mem_of_mem_take (show c ∈ t.take _ by rw [e]; simp)) hc
def delta (t : List Nat) (s c : Nat) : Nat := if s = t.length then s else if c ∈ t then ovl t (t.take s ++ [c]) (s + 1) else 0
theorem delta_is {t : List Nat} {s c : Nat} (h : s ≤ t.length) : delta t s c = if s = t.length then s else ovl t (t.take s ++ [c]) (s + 1) := by
  unfold delta
  by_cases e : s = t.length
  · rw [if_pos e, if_pos e]
  · rw [if_neg e, if_neg e]
    by_cases hc : c ∈ t
    · rw [if_pos hc]
    · rw [if_neg hc, ovl_none (by omega) hc]
theorem inv_le {t w : List Nat} {s : Nat} (h : Inv t w s) : s ≤ t.length := by
  rcases h with h | h
  · exact Nat.le_of_eq h.1
  · exact Nat.le_of_lt h.1
theorem run_inv {t : List Nat} : ∀ (cs w : List Nat) (s : Nat), Inv t w s → Inv t (w ++ cs) (cs.foldl (delta t) s)
  | [], w, s, h => by rw [List.append_nil]; exact h
  | c :: cs, w, s, h => by
    have h2 := inv_step (c := c) h
    rw [← delta_is (inv_le h)] at h2
    have := run_inv cs (w ++ [c]) _ h2
    rw [List.append_assoc] at this
    exact this
theorem run_is {t cs : List Nat} (ht : t ≠ []) : (cs.foldl (delta t) 0 = t.length ↔ t <:+: cs) ∧ cs.foldl (delta t) 0 ≤ t.length := by
  have h := run_inv (t := t) cs [] 0 (inv_nil ht)
  rw [List.nil_append] at h
  refine ⟨?_, inv_le h⟩
  rcases h with ⟨h1, h2⟩ | ⟨h1, h2, _⟩
  · exact ⟨fun _ => h2, fun _ => h1⟩
  · exact ⟨fun z => by omega, fun z => absurd z h2⟩
end D49

namespace D49
open PySem L2 Dn Ft
local macro_rules | `(tactic| walk_at "vc") => `(tactic| try simp (decide := true) only [↓wp_var,List.getElem?_map, inS_oneE, ↓wp_lenTx, ↓kLenTx_ap, ↓wp_listRg, ↓kListRg_ap, ↓wp_revS, ↓kRevS_ap, ↓wps_asgIx, ↓kAsgIx_ap, ↓kAsgIx2_ap, ↓kAsgIx3_ap, wt2, ↓wp_tupC, ↓kTupC_ap, ↓wp_fin_t, itemsW_nil, itemsW_d, itemsW_c, frzL_nil, frzL_d, frzL_c, frzC, ↓wp_inv, ↓kInv_ap, ↓wp_star, ↓kStar_ap, ↓kStar2_ap, ↓wp_newR, ↓kNewR_ap, pures_map, gDivmod_ii, gSorted_t, intsD_map, List.drop_succ_cons, List.drop_zero, ↓wp_C, ↓wp_pr, ↓wp_lift2, ↓wp_mk, ↓wp_if, ↓wps_if0, ↓wp_aNil, ↓wp_pNone, ↓wp_yes, ↓wp_op, ↓wp_ix, ↓wp_un, ↓wp_aCons, ↓wp_call, ↓wp_tup, ↓wp_lst, ↓wp_cell, ↓wp_tOf, ↓wp_tBl, ↓wp_tCmp, ↓wp_tNot, ↓wp_tAnd, ↓wp_tOr, ↓wp_eIf, ↓wp_eNot, ↓wp_eAnd, ↓wp_eOr, ↓wp_chain, ↓wp_pSome, ↓wp_sl, ↓wp_fn, ↓wp_app, ↓wp_isCell, ↓wp_meth, ↓wp_methK, ↓wp_fnK, ↓wp_new, ↓wp_newK, ↓wp_s1, ↓wp_eTold, ↓kTold_ap, ↓kToldX_ap, ↓wps_seq, ↓wps_skip, ↓wps_brk, ↓wps_cont, ↓wps_retN, ↓wps_expr, ↓wps_ret, ↓wps_sIf, ↓wps_set, ↓wps_par, ↓wps_asg, ↓wps_raise, ↓wps_for, ↓wps_setIx, ↓wps_fld, ↓wp_runB, ↓wp_fin_d, ↓wp_fin_c, ↓wp_iOf, ↓wp_itTup, ↓wp_itLst, ↓wp_itStr, ↓wp_itScr, ↓wp_itC, ↓wp_rng1, ↓wp_rng2, ↓wp_enum, ↓wp_lc, ↓wp_lcC, ↓wp_ok, ↓wp_exc, ↓wp_none, ↓wpo_some, ↓wpo_none, ↓wpd_d, ↓wpd_c, ↓wpc_c, ↓wpi_int, ↓wpb_bl, ↓wpt_tup, ↓wpj_obj, ↓wpl_lst, ↓wpn_ins, ↓wpo_ite, ↓wpo_map, ↓wpo_bind, ↓wp_bnd, ↓wps_stm, ↓kOp2_ap, ↓kIx2_ap, ↓kCons2_ap, ↓kCmp2_ap, ↓kChain3_ap, ↓kChain2_ap, ↓kSl3_ap, ↓kSl2_ap, ↓kApp2_ap, ↓kMeth2_ap, ↓kMethK2_ap, ↓kFnK2_ap, ↓kNewK2_ap, ↓kS12_ap, ↓kOp_ap, ↓kIx_ap, ↓kUn_ap, ↓kCons_ap, ↓kCall_ap, ↓kTup_ap, ↓kLst_ap, ↓kCell_ap, ↓kTOf_ap, ↓kTBl_ap, ↓kCmp_ap, ↓kNot_ap, ↓kAnd_ap, ↓kOr_ap, ↓kEIf_ap, ↓kENot_ap, ↓kEAnd_ap, ↓kEOr_ap, ↓kChain_ap, ↓kPSome_ap, ↓kSl_ap, ↓kFn_ap, ↓kApp_ap, ↓kIsCell_ap, ↓kMeth_ap, ↓kMethK_ap, ↓kFnK_ap, ↓kNew_ap, ↓kNewK_ap, ↓kS1_ap, ↓kFin_ap, ↓kEx_ap, ↓kEnd_ap, ↓kNo_ap, ↓kX_ap, ↓kSeq_ap, ↓kExpr_ap, ↓kRet_ap, ↓kIf_ap, ↓kSet_ap, ↓kPar_ap, ↓kAsg_ap, ↓kRaise_ap, ↓kFor_ap, ↓kSetIx3_ap, ↓kSetIx2_ap, ↓kSetIx1_ap, ↓kFld2_ap, ↓kFld1_ap, ↓kI_ap, ↓kRng1_ap, ↓kRng2_ap, ↓kEnum_ap, ↓kLc_ap, ↓kLcE_ap, ↓kLcC_ap, gN, gT, gsCons, gsNil, Option.bind_some, Option.map_some, gAdd_ii, gAdd_ss, gAdd_tt, gAdd_ll, gSub_ii, gMul_ii, gDiv_ii, gMod_ii, gPow_ii, gLt_ii, gLe_ii, gGt_ii, gGe_ii, gLt_ss, gLe_ss, gIn_t, gIn_l, gIn_s, gNotIn_t, gNotIn_l, gNotIn_s, gIsN_n, gNotN_n, isN_non, isN_str, isN_int, isN_bl, isN_tup, isN_lst, isN_obj, gNeg_i, gLen_s, gLen_t, gLen_l, gAbs_i, gMax2_i, gMin2_i, gInt_i, gInt_b, gTuple_t, gTuple_l, gList_t, gList_l, gStr_i, gAll_l, gAny_l, gIx_l, gIx_t, gIx_s, gSl_l, gSl_t, gSl_s, truD_n, truD_b, truD_i, truD_s, truD_t, truD_l, view_dd, viewL_dd, vCell_l, vCell_i, view_cc, viewL_cc, viewL_scr, views_nil, wpo_views, pures_nil, pures_d, ixN_natE, ixN_lit, atI_natE, atI_lit, bools_mapE, bools_nil, bools_cons, all_idE, txts_mapE, cutL_to, cutL_toL, cutL_from, cutL_fromL, Int.zero_add, swapG, appG, ← List.map_take, ← List.map_drop, true_or, or_true, false_or, or_false, startW, putD, wipeW, wp1, wp2, wps1, List.length_cons, List.length_nil, List.map_cons, List.map_nil, List.replicate, List.cons_append, List.nil_append, List.append_assoc, List.getElem?_cons_zero, List.getElem?_cons_succ, List.set_cons_zero, List.set_cons_succ, List.take_succ_cons, List.take_zero, List.take_length, app_get, app_get0, app_set, app_set0, app_take, app_take0, List.length_append, List.length_map, gIs, isT, gEq, gNe, dok_str, dok_int, dok_bl, dok_non, dok_tup, dok_lst, eqD_str', eqD_int, inD_strs, dok_strL, List.all_cons, List.all_nil, String.reduceBEq, Bool.not_true, Bool.not_false, Bool.or_false, Bool.or_true, Bool.false_or, Bool.true_or, Bool.and_true, Bool.true_and, Bool.and_false, Bool.false_and, if_true, if_false, reduceCtorEq, Bool.false_eq_true, and_self, true_and, and_true, decide_true, decide_false, decide_eq_true_eq, Bool.not_eq_true', decide_eq_false_iff_not, Nat.zero_add, Nat.reduceAdd, Nat.reduceSub, Nat.reduceLT, Nat.reduceLeDiff, Int.reduceLT, Int.reduceLE, Int.reduceAdd, Int.reduceSub, Int.reduceMul, Int.reduceNeg, Int.reducePow, not_true_eq_false, not_false_eq_true, Nat.sub_self, Nat.lt_irrefl])
local macro_rules | `(tactic| walk_at "vcs") => `(tactic| try simp (decide := true) only [↓wp_var,List.getElem?_map, inS_oneE, ↓wp_lenTx, ↓kLenTx_ap, ↓wp_listRg, ↓kListRg_ap, ↓wp_revS, ↓kRevS_ap, ↓wps_asgIx, ↓kAsgIx_ap, ↓kAsgIx2_ap, ↓kAsgIx3_ap, wt2, ↓wp_tupC, ↓kTupC_ap, ↓wp_fin_t, itemsW_nil, itemsW_d, itemsW_c, frzL_nil, frzL_d, frzL_c, frzC, ↓wp_inv, ↓kInv_ap, ↓wp_star, ↓kStar_ap, ↓kStar2_ap, ↓wp_newR, ↓kNewR_ap, pures_map, gDivmod_ii, gSorted_t, intsD_map, List.drop_succ_cons, List.drop_zero, ↓wp_C, ↓wp_pr, ↓wp_lift2, ↓wp_mk, ↓wp_if, ↓wps_if0, ↓wp_aNil, ↓wp_pNone, ↓wp_yes, ↓wp_op, ↓wp_ix, ↓wp_un, ↓wp_aCons, ↓wp_call, ↓wp_tup, ↓wp_lst, ↓wp_cell, ↓wp_tOf, ↓wp_tBl, ↓wp_tCmp, ↓wp_tNot, ↓wp_tAnd, ↓wp_tOr, ↓wp_eIf, ↓wp_eNot, ↓wp_eAnd, ↓wp_eOr, ↓wp_chain, ↓wp_pSome, ↓wp_sl, ↓wp_fn, ↓wp_app, ↓wp_isCell, ↓wp_meth, ↓wp_methK, ↓wp_fnK, ↓wp_new, ↓wp_newK, ↓wp_s1, ↓wp_eTold, ↓kTold_ap, ↓kToldX_ap, ↓wps_seq, ↓wps_skip, ↓wps_brk, ↓wps_cont, ↓wps_retN, ↓wps_expr, ↓wps_ret, ↓wps_sIf, ↓wps_set, ↓wps_par, ↓wps_asg, ↓wps_raise, ↓wps_for, ↓wps_setIx, ↓wps_fld, ↓wp_runB, ↓wp_fin_d, ↓wp_fin_c, ↓wp_iOf, ↓wp_itTup, ↓wp_itLst, ↓wp_itStr, ↓wp_itScr, ↓wp_itC, ↓wp_rng1, ↓wp_rng2, ↓wp_enum, ↓wp_lc, ↓wp_lcC, ↓wp_ok, ↓wp_exc, ↓wp_none, ↓wpo_some, ↓wpo_none, ↓wpd_d, ↓wpd_c, ↓wpc_c, ↓wpi_int, ↓wpb_bl, ↓wpt_tup, ↓wpj_obj, ↓wpl_lst, ↓wpn_ins, ↓wpo_ite, ↓wpo_map, ↓wpo_bind, ↓wp_bnd, ↓wps_stm, ↓kOp2_ap, ↓kIx2_ap, ↓kCons2_ap, ↓kCmp2_ap, ↓kChain3_ap, ↓kChain2_ap, ↓kSl3_ap, ↓kSl2_ap, ↓kApp2_ap, ↓kMeth2_ap, ↓kMethK2_ap, ↓kFnK2_ap, ↓kNewK2_ap, ↓kS12_ap, ↓kOp_ap, ↓kIx_ap, ↓kUn_ap, ↓kCons_ap, ↓kCall_ap, ↓kTup_ap, ↓kLst_ap, ↓kCell_ap, ↓kTOf_ap, ↓kTBl_ap, ↓kCmp_ap, ↓kNot_ap, ↓kAnd_ap, ↓kOr_ap, ↓kEIf_ap, ↓kENot_ap, ↓kEAnd_ap, ↓kEOr_ap, ↓kChain_ap, ↓kPSome_ap, ↓kSl_ap, ↓kFn_ap, ↓kApp_ap, ↓kIsCell_ap, ↓kMeth_ap, ↓kMethK_ap, ↓kFnK_ap, ↓kNew_ap, ↓kNewK_ap, ↓kS1_ap, ↓kFin_ap, ↓kEx_ap, ↓kEnd_ap, ↓kNo_ap, ↓kX_ap, ↓kSeq_ap, ↓kExpr_ap, ↓kRet_ap, ↓kIf_ap, ↓kSet_ap, ↓kPar_ap, ↓kAsg_ap, ↓kRaise_ap, ↓kFor_ap, ↓kSetIx3_ap, ↓kSetIx2_ap, ↓kSetIx1_ap, ↓kFld2_ap, ↓kFld1_ap, ↓kI_ap, ↓kRng1_ap, ↓kRng2_ap, ↓kEnum_ap, ↓kLc_ap, ↓kLcE_ap, ↓kLcC_ap, gN, gT, gsCons, gsNil, Option.bind_some, Option.map_some, gAdd_ii, gAdd_ss, gAdd_tt, gAdd_ll, gSub_ii, gMul_ii, gDiv_ii, gMod_ii, gPow_ii, gLt_ii, gLe_ii, gGt_ii, gGe_ii, gLt_ss, gLe_ss, gIn_t, gIn_l, gIn_s, gNotIn_t, gNotIn_l, gNotIn_s, gIsN_n, gNotN_n, isN_non, isN_str, isN_int, isN_bl, isN_tup, isN_lst, isN_obj, gNeg_i, gLen_s, gLen_t, gLen_l, gAbs_i, gMax2_i, gMin2_i, gInt_i, gInt_b, gTuple_t, gTuple_l, gList_t, gList_l, gStr_i, gAll_l, gAny_l, gIx_l, gIx_t, gIx_s, gSl_l, gSl_t, gSl_s, truD_n, truD_b, truD_i, truD_s, truD_t, truD_l, view_dd, viewL_dd, vCell_l, vCell_i, view_cc, viewL_cc, viewL_scr, views_nil, wpo_views, pures_nil, pures_d, ixN_natE, ixN_lit, atI_natE, atI_lit, bools_mapE, bools_nil, bools_cons, all_idE, txts_mapE, cutL_to, cutL_toL, cutL_from, cutL_fromL, Int.zero_add, swapG, appG, ← List.map_take, ← List.map_drop, true_or, or_true, false_or, or_false, startW, putD, wipeW, wp1, wp2, wps1, List.length_cons, List.length_nil, List.map_cons, List.map_nil, List.replicate, List.cons_append, List.nil_append, List.append_assoc, List.getElem?_cons_zero, List.getElem?_cons_succ, List.set_cons_zero, List.set_cons_succ, List.take_succ_cons, List.take_zero, List.take_length, app_get, app_get0, app_set, app_set0, app_take, app_take0, List.length_append, List.length_map, gIs, isT, gEq, gNe, dok_str, dok_int, dok_bl, dok_non, dok_tup, dok_lst, eqD_str', eqD_int, inD_strs, dok_strL, List.all_cons, List.all_nil, String.reduceBEq, Bool.not_true, Bool.not_false, Bool.or_false, Bool.or_true, Bool.false_or, Bool.true_or, Bool.and_true, Bool.true_and, Bool.and_false, Bool.false_and, if_true, if_false, reduceCtorEq, Bool.false_eq_true, and_self, true_and, and_true, decide_true, decide_false, decide_eq_true_eq, Bool.not_eq_true', decide_eq_false_iff_not, Nat.zero_add, Nat.reduceAdd, Nat.reduceSub, Nat.reduceLT, Nat.reduceLeDiff, Int.reduceLT, Int.reduceLE, Int.reduceAdd, Int.reduceSub, Int.reduceMul, Int.reduceNeg, Int.reducePow, not_true_eq_false, not_false_eq_true, Nat.sub_self, Nat.lt_irrefl, *])
local macro_rules | `(tactic| walk_at "vn") => `(tactic| try simp (decide := true) only [↓wp_var,List.getElem?_map, inS_oneE, ↓wp_lenTx, ↓kLenTx_ap, ↓wp_listRg, ↓kListRg_ap, ↓wp_revS, ↓kRevS_ap, ↓wps_asgIx, ↓kAsgIx_ap, ↓kAsgIx2_ap, ↓kAsgIx3_ap, wt2, ↓wp_tupC, ↓kTupC_ap, ↓wp_fin_t, itemsW_nil, itemsW_d, itemsW_c, frzL_nil, frzL_d, frzL_c, frzC, ↓wp_inv, ↓kInv_ap, ↓wp_star, ↓kStar_ap, ↓kStar2_ap, ↓wp_newR, ↓kNewR_ap, pures_map, gDivmod_ii, gSorted_t, intsD_map, List.drop_succ_cons, List.drop_zero, ↓wp_C, ↓wp_pr, ↓wp_lift2, ↓wp_mk, ↓wp_if, ↓wps_if0, ↓wp_aNil, ↓wp_pNone, ↓wp_yes, ↓wp_op, ↓wp_ix, ↓wp_un, ↓wp_aCons, ↓wp_call, ↓wp_tup, ↓wp_lst, ↓wp_cell, ↓wp_tOf, ↓wp_tBl, ↓wp_tCmp, ↓wp_tNot, ↓wp_tAnd, ↓wp_tOr, ↓wp_eIf, ↓wp_eNot, ↓wp_eAnd, ↓wp_eOr, ↓wp_chain, ↓wp_pSome, ↓wp_sl, ↓wp_fn, ↓wp_app, ↓wp_isCell, ↓wp_meth, ↓wp_methK, ↓wp_fnK, ↓wp_new, ↓wp_newK, ↓wp_s1, ↓wp_eTold, ↓kTold_ap, ↓kToldX_ap, ↓wps_seq, ↓wps_skip, ↓wps_brk, ↓wps_cont, ↓wps_retN, ↓wps_expr, ↓wps_ret, ↓wps_set, ↓wps_par, ↓wps_asg, ↓wps_raise, ↓wps_for, ↓wps_setIx, ↓wps_fld, ↓wp_runB, ↓wp_fin_d, ↓wp_fin_c, ↓wp_iOf, ↓wp_itTup, ↓wp_itLst, ↓wp_itStr, ↓wp_itScr, ↓wp_itC, ↓wp_rng1, ↓wp_rng2, ↓wp_enum, ↓wp_lc, ↓wp_lcC, ↓wp_ok, ↓wp_exc, ↓wp_none, ↓wpo_some, ↓wpo_none, ↓wpd_d, ↓wpd_c, ↓wpc_c, ↓wpi_int, ↓wpb_bl, ↓wpt_tup, ↓wpj_obj, ↓wpl_lst, ↓wpn_ins, ↓wpo_ite, ↓wpo_map, ↓wpo_bind, ↓wp_bnd, ↓wps_stm, ↓kOp2_ap, ↓kIx2_ap, ↓kCons2_ap, ↓kCmp2_ap, ↓kChain3_ap, ↓kChain2_ap, ↓kSl3_ap, ↓kSl2_ap, ↓kApp2_ap, ↓kMeth2_ap, ↓kMethK2_ap, ↓kFnK2_ap, ↓kNewK2_ap, ↓kS12_ap, ↓kOp_ap, ↓kIx_ap, ↓kUn_ap, ↓kCons_ap, ↓kCall_ap, ↓kTup_ap, ↓kLst_ap, ↓kCell_ap, ↓kTOf_ap, ↓kTBl_ap, ↓kCmp_ap, ↓kNot_ap, ↓kAnd_ap, ↓kOr_ap, ↓kEIf_ap, ↓kENot_ap, ↓kEAnd_ap, ↓kEOr_ap, ↓kChain_ap, ↓kPSome_ap, ↓kSl_ap, ↓kFn_ap, ↓kApp_ap, ↓kIsCell_ap, ↓kMeth_ap, ↓kMethK_ap, ↓kFnK_ap, ↓kNew_ap, ↓kNewK_ap, ↓kS1_ap, ↓kFin_ap, ↓kEx_ap, ↓kEnd_ap, ↓kNo_ap, ↓kX_ap, ↓kSeq_ap, ↓kExpr_ap, ↓kRet_ap, ↓kIf_ap, ↓kSet_ap, ↓kPar_ap, ↓kAsg_ap, ↓kRaise_ap, ↓kFor_ap, ↓kSetIx3_ap, ↓kSetIx2_ap, ↓kSetIx1_ap, ↓kFld2_ap, ↓kFld1_ap, ↓kI_ap, ↓kRng1_ap, ↓kRng2_ap, ↓kEnum_ap, ↓kLc_ap, ↓kLcE_ap, ↓kLcC_ap, gN, gT, gsCons, gsNil, Option.bind_some, Option.map_some, gAdd_ii, gAdd_ss, gAdd_tt, gAdd_ll, gSub_ii, gMul_ii, gDiv_ii, gMod_ii, gPow_ii, gLt_ii, gLe_ii, gGt_ii, gGe_ii, gLt_ss, gLe_ss, gIn_t, gIn_l, gIn_s, gNotIn_t, gNotIn_l, gNotIn_s, gIsN_n, gNotN_n, isN_non, isN_str, isN_int, isN_bl, isN_tup, isN_lst, isN_obj, gNeg_i, gLen_s, gLen_t, gLen_l, gAbs_i, gMax2_i, gMin2_i, gInt_i, gInt_b, gTuple_t, gTuple_l, gList_t, gList_l, gStr_i, gAll_l, gAny_l, gIx_l, gIx_t, gIx_s, gSl_l, gSl_t, gSl_s, truD_n, truD_b, truD_i, truD_s, truD_t, truD_l, view_dd, viewL_dd, vCell_l, vCell_i, view_cc, viewL_cc, viewL_scr, views_nil, wpo_views, pures_nil, pures_d, ixN_natE, ixN_lit, atI_natE, atI_lit, bools_mapE, bools_nil, bools_cons, all_idE, txts_mapE, cutL_to, cutL_toL, cutL_from, cutL_fromL, Int.zero_add, swapG, appG, ← List.map_take, ← List.map_drop, true_or, or_true, false_or, or_false, startW, putD, wipeW, wp1, wp2, wps1, List.length_cons, List.length_nil, List.map_cons, List.map_nil, List.replicate, List.cons_append, List.nil_append, List.append_assoc, List.getElem?_cons_zero, List.getElem?_cons_succ, List.set_cons_zero, List.set_cons_succ, List.take_succ_cons, List.take_zero, List.take_length, app_get, app_get0, app_set, app_set0, app_take, app_take0, List.length_append, List.length_map, gIs, isT, gEq, gNe, dok_str, dok_int, dok_bl, dok_non, dok_tup, dok_lst, eqD_str', eqD_int, inD_strs, dok_strL, List.all_cons, List.all_nil, String.reduceBEq, Bool.not_true, Bool.not_false, Bool.or_false, Bool.or_true, Bool.false_or, Bool.true_or, Bool.and_true, Bool.true_and, Bool.and_false, Bool.false_and, if_true, if_false, reduceCtorEq, Bool.false_eq_true, and_self, true_and, and_true, decide_true, decide_false, decide_eq_true_eq, Bool.not_eq_true', decide_eq_false_iff_not, Nat.zero_add, Nat.reduceAdd, Nat.reduceSub, Nat.reduceLT, Nat.reduceLeDiff, Int.reduceLT, Int.reduceLE, Int.reduceAdd, Int.reduceSub, Int.reduceMul, Int.reduceNeg, Int.reducePow, not_true_eq_false, not_false_eq_true, Nat.sub_self, Nat.lt_irrefl])

/-! the drawn numbers -/
structure Dl where
  a : Int
  b : Int
  c : Int
def Dl.cell (q : Dl) : Cell := .lst [.int q.a, .int q.b, .int q.c]
def Dl.ok (q : Dl) : Prop := 0 ≤ q.b ∧ q.b < 2147483629
theorem wp_draw {pre rest : Sto} {q : Dl} {n : Int} {Q : W → Sto → Prop} {X : XP} (hq : q.ok) (hn : 0 < n ∧ n < 1073741824) (h : ∀ (v : Int) (q' : Dl), 0 ≤ v → v < n → q'.ok → Q (.d (.int v)) (pre ++ q'.cell :: rest)) :
    wp (spec_law_draw [.c pre.length, .d (.int n)] (pre ++ q.cell :: rest)) Q X := by
  obtain ⟨a, b, c⟩ := q
  unfold spec_law_draw b_law_draw
  unfold Dl.cell
  walk_at "vc"
  obtain ⟨h1, h2⟩ := hq
  simp only at h1 h2
  have hm : ∀ z : Int, 0 ≤ z % 2147483629 ∧ z % 2147483629 < 2147483629 := fun z => ⟨Int.emod_nonneg _ (by decide), Int.emod_lt_of_pos _ (by decide)⟩
  refine ⟨.inl (by omega), ?_⟩
  have h3 := hm (b * (b % 30011 + 20011) + 65551 * (c + 1) + 17)
  generalize (b * (b % 30011 + 20011) + 65551 * (c + 1) + 17) % 2147483629 = e at h3 ⊢
  split
  · exact ⟨hn, h _ ⟨_, e, _⟩ (Int.emod_nonneg _ (by omega)) (Int.emod_lt_of_pos _ hn.1) h3⟩
  · exact ⟨hn.1, h _ ⟨_, e, _⟩ (Int.emod_nonneg _ (by omega)) (Int.emod_lt_of_pos _ hn.1) h3⟩
theorem wp_pool {st : Sto} {x : Int} {Q : W → Sto → Prop} {X : XP} (h : ∀ q : Dl, q.ok → Q (.c st.length) (st ++ [q.cell])) : wp (spec_law_pool [.d (.int x)] st) Q X := by
  unfold spec_law_pool b_law_pool
  walk_at "vc"
  have h3 : 0 ≤ x % 2147483629 ∧ x % 2147483629 < 2147483629 := ⟨Int.emod_nonneg _ (by decide), Int.emod_lt_of_pos _ (by decide)⟩
  generalize x % 2147483629 = e at h3 ⊢
  have z : ∀ a : Int, Q (.c st.length) (st ++ [Cell.lst [.int a, .int e, .int 0]]) := fun a => h ⟨a, e, 0⟩ h3
  split
  · exact z _
  · split
    · exact z _
    · exact z _
theorem wp_cellI {ns : List Int} {i : Int} {st : Sto} {Q : W → Sto → Prop} {X : XP} (h0 : 0 ≤ i) (hk : i ≤ 1000) (h : ∀ x : Int, Q (.d (.int x)) st) : wp (spec_law_cell [.scr ns, .d (.int i)] st) Q X := by
  unfold spec_law_cell b_law_cell
  walk_at "vc"
  split
  · rename_i hk
    obtain ⟨k, rfl⟩ := Int.eq_ofNat_of_zero_le h0
    have hk : k < ns.length := by omega
    walk_at "vc"
    rw [List.getElem?_eq_getElem hk]
    walk_at "vc"
    exact h _
  · refine ⟨.inr (by omega), wps_forM (f := D.int) (fun _ sl st' => ∃ m a, sl = [some (.scr ns), some (.d (.int i)), some (.d (.int m)), a] ∧ st' = st) ⟨_, _, rfl, rfl⟩ ?_ ?_⟩
    · rintro x xs sl st' ⟨m, a, rfl, rfl⟩
      walk_at "vc"
      exact ⟨_, _, rfl⟩
    · rintro sl st' ⟨m, a, rfl, rfl⟩
      walk_at "vc"
      exact h _
theorem wp_cell' {ns : List Int} {k : Nat} {st : Sto} {Q : W → Sto → Prop} {X : XP} (hk : k ≤ 1000) (h : ∀ x : Int, Q (.d (.int x)) st) : wp (spec_law_cell [.scr ns, .d (.int k)] st) Q X := wp_cellI (by omega) (by omega) h
/-! the signs -/
def SG : Str := Str.ofString " !\"#$&'()*+,-./0123456789:;<=>?@ABCDEFGHIJKLMNOPQRSTUVWXYZ[\\]^_" ++ Str.ofString "`" ++ Str.ofString "abcdefghijklmnopqrstuvwxyz{|}~" ++ Str.ofString "\n"
theorem SG_len : SG.length = 95 := by decide +kernel
theorem wp_signs {st : Sto} {Q : W → Sto → Prop} {X : XP} (h : Q (.d (.str SG)) st) : wp (spec_law_signs [] st) Q X := by
  unfold spec_law_signs b_law_signs
  walk_at "vc"
  exact h
end D49

namespace D49
open PySem L2 Dn Ft
theorem inD_ints (x : Int) (ys : List Int) : inD (.int x) (ys.map D.int) = decide (x ∈ ys) := by
  induction ys with
  | nil => rfl
  | cons y ys ih =>
    rw [List.map_cons, inD_cons, eqD_int, ih]
    by_cases h : y = x
    · simp [h]
    · simp [h, Ne.symm h, eq_comm]
theorem dok_intL (n : Nat) (ys : List Int) : (ys.map D.int).all (dok n) = true := by
  rw [List.all_eq_true]
  intro d hd
  obtain ⟨y, _, rfl⟩ := List.mem_map.mp hd
  exact dok_int _ _
local macro_rules | `(tactic| walk_at "vc") => `(tactic| try simp (decide := true) only [↓wp_var,List.getElem?_map, inS_oneE, inD_ints, dok_intL, ↓wp_lenTx, ↓kLenTx_ap, ↓wp_listRg, ↓kListRg_ap, ↓wp_revS, ↓kRevS_ap, ↓wps_asgIx, ↓kAsgIx_ap, ↓kAsgIx2_ap, ↓kAsgIx3_ap, wt2, ↓wp_tupC, ↓kTupC_ap, ↓wp_fin_t, itemsW_nil, itemsW_d, itemsW_c, frzL_nil, frzL_d, frzL_c, frzC, ↓wp_inv, ↓kInv_ap, ↓wp_star, ↓kStar_ap, ↓kStar2_ap, ↓wp_newR, ↓kNewR_ap, pures_map, gDivmod_ii, gSorted_t, intsD_map, List.drop_succ_cons, List.drop_zero, ↓wp_C, ↓wp_pr, ↓wp_lift2, ↓wp_mk, ↓wp_if, ↓wps_if0, ↓wp_aNil, ↓wp_pNone, ↓wp_yes, ↓wp_op, ↓wp_ix, ↓wp_un, ↓wp_aCons, ↓wp_call, ↓wp_tup, ↓wp_lst, ↓wp_cell, ↓wp_tOf, ↓wp_tBl, ↓wp_tCmp, ↓wp_tNot, ↓wp_tAnd, ↓wp_tOr, ↓wp_eIf, ↓wp_eNot, ↓wp_eAnd, ↓wp_eOr, ↓wp_chain, ↓wp_pSome, ↓wp_sl, ↓wp_fn, ↓wp_app, ↓wp_isCell, ↓wp_meth, ↓wp_methK, ↓wp_fnK, ↓wp_new, ↓wp_newK, ↓wp_s1, ↓wp_eTold, ↓kTold_ap, ↓kToldX_ap, ↓wps_seq, ↓wps_skip, ↓wps_brk, ↓wps_cont, ↓wps_retN, ↓wps_expr, ↓wps_ret, ↓wps_sIf, ↓wps_set, ↓wps_par, ↓wps_asg, ↓wps_raise, ↓wps_for, ↓wps_setIx, ↓wps_fld, ↓wp_runB, ↓wp_fin_d, ↓wp_fin_c, ↓wp_iOf, ↓wp_itTup, ↓wp_itLst, ↓wp_itStr, ↓wp_itScr, ↓wp_itC, ↓wp_rng1, ↓wp_rng2, ↓wp_enum, ↓wp_lc, ↓wp_lcC, ↓wp_ok, ↓wp_exc, ↓wp_none, ↓wpo_some, ↓wpo_none, ↓wpd_d, ↓wpd_c, ↓wpc_c, ↓wpi_int, ↓wpb_bl, ↓wpt_tup, ↓wpj_obj, ↓wpl_lst, ↓wpn_ins, ↓wpo_ite, ↓wpo_map, ↓wpo_bind, ↓wp_bnd, ↓wps_stm, ↓kOp2_ap, ↓kIx2_ap, ↓kCons2_ap, ↓kCmp2_ap, ↓kChain3_ap, ↓kChain2_ap, ↓kSl3_ap, ↓kSl2_ap, ↓kApp2_ap, ↓kMeth2_ap, ↓kMethK2_ap, ↓kFnK2_ap, ↓kNewK2_ap, ↓kS12_ap, ↓kOp_ap, ↓kIx_ap, ↓kUn_ap, ↓kCons_ap, ↓kCall_ap, ↓kTup_ap, ↓kLst_ap, ↓kCell_ap, ↓kTOf_ap, ↓kTBl_ap, ↓kCmp_ap, ↓kNot_ap, ↓kAnd_ap, ↓kOr_ap, ↓kEIf_ap, ↓kENot_ap, ↓kEAnd_ap, ↓kEOr_ap, ↓kChain_ap, ↓kPSome_ap, ↓kSl_ap, ↓kFn_ap, ↓kApp_ap, ↓kIsCell_ap, ↓kMeth_ap, ↓kMethK_ap, ↓kFnK_ap, ↓kNew_ap, ↓kNewK_ap, ↓kS1_ap, ↓kFin_ap, ↓kEx_ap, ↓kEnd_ap, ↓kNo_ap, ↓kX_ap, ↓kSeq_ap, ↓kExpr_ap, ↓kRet_ap, ↓kIf_ap, ↓kSet_ap, ↓kPar_ap, ↓kAsg_ap, ↓kRaise_ap, ↓kFor_ap, ↓kSetIx3_ap, ↓kSetIx2_ap, ↓kSetIx1_ap, ↓kFld2_ap, ↓kFld1_ap, ↓kI_ap, ↓kRng1_ap, ↓kRng2_ap, ↓kEnum_ap, ↓kLc_ap, ↓kLcE_ap, ↓kLcC_ap, gN, gT, gsCons, gsNil, Option.bind_some, Option.map_some, gAdd_ii, gAdd_ss, gAdd_tt, gAdd_ll, gSub_ii, gMul_ii, gDiv_ii, gMod_ii, gPow_ii, gLt_ii, gLe_ii, gGt_ii, gGe_ii, gLt_ss, gLe_ss, gIn_t, gIn_l, gIn_s, gNotIn_t, gNotIn_l, gNotIn_s, gIsN_n, gNotN_n, isN_non, isN_str, isN_int, isN_bl, isN_tup, isN_lst, isN_obj, gNeg_i, gLen_s, gLen_t, gLen_l, gAbs_i, gMax2_i, gMin2_i, gInt_i, gInt_b, gTuple_t, gTuple_l, gList_t, gList_l, gStr_i, gAll_l, gAny_l, gIx_l, gIx_t, gIx_s, gSl_l, gSl_t, gSl_s, truD_n, truD_b, truD_i, truD_s, truD_t, truD_l, view_dd, viewL_dd, vCell_l, vCell_i, view_cc, viewL_cc, viewL_scr, views_nil, wpo_views, pures_nil, pures_d, ixN_natE, ixN_lit, atI_natE, atI_lit, bools_mapE, bools_nil, bools_cons, all_idE, txts_mapE, cutL_to, cutL_toL, cutL_from, cutL_fromL, Int.zero_add, swapG, appG, ← List.map_take, ← List.map_drop, true_or, or_true, false_or, or_false, startW, putD, wipeW, wp1, wp2, wps1, List.length_cons, List.length_nil, List.map_cons, List.map_nil, List.replicate, List.cons_append, List.nil_append, List.append_assoc, List.getElem?_cons_zero, List.getElem?_cons_succ, List.set_cons_zero, List.set_cons_succ, List.take_succ_cons, List.take_zero, List.take_length, app_get, app_get0, app_set, app_set0, app_take, app_take0, List.length_append, List.length_map, gIs, isT, gEq, gNe, dok_str, dok_int, dok_bl, dok_non, dok_tup, dok_lst, eqD_str', eqD_int, inD_strs, dok_strL, List.all_cons, List.all_nil, String.reduceBEq, Bool.not_true, Bool.not_false, Bool.or_false, Bool.or_true, Bool.false_or, Bool.true_or, Bool.and_true, Bool.true_and, Bool.and_false, Bool.false_and, if_true, if_false, reduceCtorEq, Bool.false_eq_true, and_self, true_and, and_true, decide_true, decide_false, decide_eq_true_eq, Bool.not_eq_true', decide_eq_false_iff_not, Nat.zero_add, Nat.reduceAdd, Nat.reduceSub, Nat.reduceLT, Nat.reduceLeDiff, Int.reduceLT, Int.reduceLE, Int.reduceAdd, Int.reduceSub, Int.reduceMul, Int.reduceNeg, Int.reducePow, not_true_eq_false, not_false_eq_true, Nat.sub_self, Nat.lt_irrefl])
local macro_rules | `(tactic| walk_at "vcs") => `(tactic| try simp (decide := true) only [↓wp_var,List.getElem?_map, inS_oneE, inD_ints, dok_intL, ↓wp_lenTx, ↓kLenTx_ap, ↓wp_listRg, ↓kListRg_ap, ↓wp_revS, ↓kRevS_ap, ↓wps_asgIx, ↓kAsgIx_ap, ↓kAsgIx2_ap, ↓kAsgIx3_ap, wt2, ↓wp_tupC, ↓kTupC_ap, ↓wp_fin_t, itemsW_nil, itemsW_d, itemsW_c, frzL_nil, frzL_d, frzL_c, frzC, ↓wp_inv, ↓kInv_ap, ↓wp_star, ↓kStar_ap, ↓kStar2_ap, ↓wp_newR, ↓kNewR_ap, pures_map, gDivmod_ii, gSorted_t, intsD_map, List.drop_succ_cons, List.drop_zero, ↓wp_C, ↓wp_pr, ↓wp_lift2, ↓wp_mk, ↓wp_if, ↓wps_if0, ↓wp_aNil, ↓wp_pNone, ↓wp_yes, ↓wp_op, ↓wp_ix, ↓wp_un, ↓wp_aCons, ↓wp_call, ↓wp_tup, ↓wp_lst, ↓wp_cell, ↓wp_tOf, ↓wp_tBl, ↓wp_tCmp, ↓wp_tNot, ↓wp_tAnd, ↓wp_tOr, ↓wp_eIf, ↓wp_eNot, ↓wp_eAnd, ↓wp_eOr, ↓wp_chain, ↓wp_pSome, ↓wp_sl, ↓wp_fn, ↓wp_app, ↓wp_isCell, ↓wp_meth, ↓wp_methK, ↓wp_fnK, ↓wp_new, ↓wp_newK, ↓wp_s1, ↓wp_eTold, ↓kTold_ap, ↓kToldX_ap, ↓wps_seq, ↓wps_skip, ↓wps_brk, ↓wps_cont, ↓wps_retN, ↓wps_expr, ↓wps_ret, ↓wps_sIf, ↓wps_set, ↓wps_par, ↓wps_asg, ↓wps_raise, ↓wps_for, ↓wps_setIx, ↓wps_fld, ↓wp_runB, ↓wp_fin_d, ↓wp_fin_c, ↓wp_iOf, ↓wp_itTup, ↓wp_itLst, ↓wp_itStr, ↓wp_itScr, ↓wp_itC, ↓wp_rng1, ↓wp_rng2, ↓wp_enum, ↓wp_lc, ↓wp_lcC, ↓wp_ok, ↓wp_exc, ↓wp_none, ↓wpo_some, ↓wpo_none, ↓wpd_d, ↓wpd_c, ↓wpc_c, ↓wpi_int, ↓wpb_bl, ↓wpt_tup, ↓wpj_obj, ↓wpl_lst, ↓wpn_ins, ↓wpo_ite, ↓wpo_map, ↓wpo_bind, ↓wp_bnd, ↓wps_stm, ↓kOp2_ap, ↓kIx2_ap, ↓kCons2_ap, ↓kCmp2_ap, ↓kChain3_ap, ↓kChain2_ap, ↓kSl3_ap, ↓kSl2_ap, ↓kApp2_ap, ↓kMeth2_ap, ↓kMethK2_ap, ↓kFnK2_ap, ↓kNewK2_ap, ↓kS12_ap, ↓kOp_ap, ↓kIx_ap, ↓kUn_ap, ↓kCons_ap, ↓kCall_ap, ↓kTup_ap, ↓kLst_ap, ↓kCell_ap, ↓kTOf_ap, ↓kTBl_ap, ↓kCmp_ap, ↓kNot_ap, ↓kAnd_ap, ↓kOr_ap, ↓kEIf_ap, ↓kENot_ap, ↓kEAnd_ap, ↓kEOr_ap, ↓kChain_ap, ↓kPSome_ap, ↓kSl_ap, ↓kFn_ap, ↓kApp_ap, ↓kIsCell_ap, ↓kMeth_ap, ↓kMethK_ap, ↓kFnK_ap, ↓kNew_ap, ↓kNewK_ap, ↓kS1_ap, ↓kFin_ap, ↓kEx_ap, ↓kEnd_ap, ↓kNo_ap, ↓kX_ap, ↓kSeq_ap, ↓kExpr_ap, ↓kRet_ap, ↓kIf_ap, ↓kSet_ap, ↓kPar_ap, ↓kAsg_ap, ↓kRaise_ap, ↓kFor_ap, ↓kSetIx3_ap, ↓kSetIx2_ap, ↓kSetIx1_ap, ↓kFld2_ap, ↓kFld1_ap, ↓kI_ap, ↓kRng1_ap, ↓kRng2_ap, ↓kEnum_ap, ↓kLc_ap, ↓kLcE_ap, ↓kLcC_ap, gN, gT, gsCons, gsNil, Option.bind_some, Option.map_some, gAdd_ii, gAdd_ss, gAdd_tt, gAdd_ll, gSub_ii, gMul_ii, gDiv_ii, gMod_ii, gPow_ii, gLt_ii, gLe_ii, gGt_ii, gGe_ii, gLt_ss, gLe_ss, gIn_t, gIn_l, gIn_s, gNotIn_t, gNotIn_l, gNotIn_s, gIsN_n, gNotN_n, isN_non, isN_str, isN_int, isN_bl, isN_tup, isN_lst, isN_obj, gNeg_i, gLen_s, gLen_t, gLen_l, gAbs_i, gMax2_i, gMin2_i, gInt_i, gInt_b, gTuple_t, gTuple_l, gList_t, gList_l, gStr_i, gAll_l, gAny_l, gIx_l, gIx_t, gIx_s, gSl_l, gSl_t, gSl_s, truD_n, truD_b, truD_i, truD_s, truD_t, truD_l, view_dd, viewL_dd, vCell_l, vCell_i, view_cc, viewL_cc, viewL_scr, views_nil, wpo_views, pures_nil, pures_d, ixN_natE, ixN_lit, atI_natE, atI_lit, bools_mapE, bools_nil, bools_cons, all_idE, txts_mapE, cutL_to, cutL_toL, cutL_from, cutL_fromL, Int.zero_add, swapG, appG, ← List.map_take, ← List.map_drop, true_or, or_true, false_or, or_false, startW, putD, wipeW, wp1, wp2, wps1, List.length_cons, List.length_nil, List.map_cons, List.map_nil, List.replicate, List.cons_append, List.nil_append, List.append_assoc, List.getElem?_cons_zero, List.getElem?_cons_succ, List.set_cons_zero, List.set_cons_succ, List.take_succ_cons, List.take_zero, List.take_length, app_get, app_get0, app_set, app_set0, app_take, app_take0, List.length_append, List.length_map, gIs, isT, gEq, gNe, dok_str, dok_int, dok_bl, dok_non, dok_tup, dok_lst, eqD_str', eqD_int, inD_strs, dok_strL, List.all_cons, List.all_nil, String.reduceBEq, Bool.not_true, Bool.not_false, Bool.or_false, Bool.or_true, Bool.false_or, Bool.true_or, Bool.and_true, Bool.true_and, Bool.and_false, Bool.false_and, if_true, if_false, reduceCtorEq, Bool.false_eq_true, and_self, true_and, and_true, decide_true, decide_false, decide_eq_true_eq, Bool.not_eq_true', decide_eq_false_iff_not, Nat.zero_add, Nat.reduceAdd, Nat.reduceSub, Nat.reduceLT, Nat.reduceLeDiff, Int.reduceLT, Int.reduceLE, Int.reduceAdd, Int.reduceSub, Int.reduceMul, Int.reduceNeg, Int.reducePow, not_true_eq_false, not_false_eq_true, Nat.sub_self, Nat.lt_irrefl, *])
local macro_rules | `(tactic| walk_at "vn") => `(tactic| try simp (decide := true) only [↓wp_var,List.getElem?_map, inS_oneE, inD_ints, dok_intL, ↓wp_lenTx, ↓kLenTx_ap, ↓wp_listRg, ↓kListRg_ap, ↓wp_revS, ↓kRevS_ap, ↓wps_asgIx, ↓kAsgIx_ap, ↓kAsgIx2_ap, ↓kAsgIx3_ap, wt2, ↓wp_tupC, ↓kTupC_ap, ↓wp_fin_t, itemsW_nil, itemsW_d, itemsW_c, frzL_nil, frzL_d, frzL_c, frzC, ↓wp_inv, ↓kInv_ap, ↓wp_star, ↓kStar_ap, ↓kStar2_ap, ↓wp_newR, ↓kNewR_ap, pures_map, gDivmod_ii, gSorted_t, intsD_map, List.drop_succ_cons, List.drop_zero, ↓wp_C, ↓wp_pr, ↓wp_lift2, ↓wp_mk, ↓wp_if, ↓wps_if0, ↓wp_aNil, ↓wp_pNone, ↓wp_yes, ↓wp_op, ↓wp_ix, ↓wp_un, ↓wp_aCons, ↓wp_call, ↓wp_tup, ↓wp_lst, ↓wp_cell, ↓wp_tOf, ↓wp_tBl, ↓wp_tCmp, ↓wp_tNot, ↓wp_tAnd, ↓wp_tOr, ↓wp_eIf, ↓wp_eNot, ↓wp_eAnd, ↓wp_eOr, ↓wp_chain, ↓wp_pSome, ↓wp_sl, ↓wp_fn, ↓wp_app, ↓wp_isCell, ↓wp_meth, ↓wp_methK, ↓wp_fnK, ↓wp_new, ↓wp_newK, ↓wp_s1, ↓wp_eTold, ↓kTold_ap, ↓kToldX_ap, ↓wps_seq, ↓wps_skip, ↓wps_brk, ↓wps_cont, ↓wps_retN, ↓wps_expr, ↓wps_ret, ↓wps_set, ↓wps_par, ↓wps_asg, ↓wps_raise, ↓wps_for, ↓wps_setIx, ↓wps_fld, ↓wp_runB, ↓wp_fin_d, ↓wp_fin_c, ↓wp_iOf, ↓wp_itTup, ↓wp_itLst, ↓wp_itStr, ↓wp_itScr, ↓wp_itC, ↓wp_rng1, ↓wp_rng2, ↓wp_enum, ↓wp_lc, ↓wp_lcC, ↓wp_ok, ↓wp_exc, ↓wp_none, ↓wpo_some, ↓wpo_none, ↓wpd_d, ↓wpd_c, ↓wpc_c, ↓wpi_int, ↓wpb_bl, ↓wpt_tup, ↓wpj_obj, ↓wpl_lst, ↓wpn_ins, ↓wpo_ite, ↓wpo_map, ↓wpo_bind, ↓wp_bnd, ↓wps_stm, ↓kOp2_ap, ↓kIx2_ap, ↓kCons2_ap, ↓kCmp2_ap, ↓kChain3_ap, ↓kChain2_ap, ↓kSl3_ap, ↓kSl2_ap, ↓kApp2_ap, ↓kMeth2_ap, ↓kMethK2_ap, ↓kFnK2_ap, ↓kNewK2_ap, ↓kS12_ap, ↓kOp_ap, ↓kIx_ap, ↓kUn_ap, ↓kCons_ap, ↓kCall_ap, ↓kTup_ap, ↓kLst_ap, ↓kCell_ap, ↓kTOf_ap, ↓kTBl_ap, ↓kCmp_ap, ↓kNot_ap, ↓kAnd_ap, ↓kOr_ap, ↓kEIf_ap, ↓kENot_ap, ↓kEAnd_ap, ↓kEOr_ap, ↓kChain_ap, ↓kPSome_ap, ↓kSl_ap, ↓kFn_ap, ↓kApp_ap, ↓kIsCell_ap, ↓kMeth_ap, ↓kMethK_ap, ↓kFnK_ap, ↓kNew_ap, ↓kNewK_ap, ↓kS1_ap, ↓kFin_ap, ↓kEx_ap, ↓kEnd_ap, ↓kNo_ap, ↓kX_ap, ↓kSeq_ap, ↓kExpr_ap, ↓kRet_ap, ↓kIf_ap, ↓kSet_ap, ↓kPar_ap, ↓kAsg_ap, ↓kRaise_ap, ↓kFor_ap, ↓kSetIx3_ap, ↓kSetIx2_ap, ↓kSetIx1_ap, ↓kFld2_ap, ↓kFld1_ap, ↓kI_ap, ↓kRng1_ap, ↓kRng2_ap, ↓kEnum_ap, ↓kLc_ap, ↓kLcE_ap, ↓kLcC_ap, gN, gT, gsCons, gsNil, Option.bind_some, Option.map_some, gAdd_ii, gAdd_ss, gAdd_tt, gAdd_ll, gSub_ii, gMul_ii, gDiv_ii, gMod_ii, gPow_ii, gLt_ii, gLe_ii, gGt_ii, gGe_ii, gLt_ss, gLe_ss, gIn_t, gIn_l, gIn_s, gNotIn_t, gNotIn_l, gNotIn_s, gIsN_n, gNotN_n, isN_non, isN_str, isN_int, isN_bl, isN_tup, isN_lst, isN_obj, gNeg_i, gLen_s, gLen_t, gLen_l, gAbs_i, gMax2_i, gMin2_i, gInt_i, gInt_b, gTuple_t, gTuple_l, gList_t, gList_l, gStr_i, gAll_l, gAny_l, gIx_l, gIx_t, gIx_s, gSl_l, gSl_t, gSl_s, truD_n, truD_b, truD_i, truD_s, truD_t, truD_l, view_dd, viewL_dd, vCell_l, vCell_i, view_cc, viewL_cc, viewL_scr, views_nil, wpo_views, pures_nil, pures_d, ixN_natE, ixN_lit, atI_natE, atI_lit, bools_mapE, bools_nil, bools_cons, all_idE, txts_mapE, cutL_to, cutL_toL, cutL_from, cutL_fromL, Int.zero_add, swapG, appG, ← List.map_take, ← List.map_drop, true_or, or_true, false_or, or_false, startW, putD, wipeW, wp1, wp2, wps1, List.length_cons, List.length_nil, List.map_cons, List.map_nil, List.replicate, List.cons_append, List.nil_append, List.append_assoc, List.getElem?_cons_zero, List.getElem?_cons_succ, List.set_cons_zero, List.set_cons_succ, List.take_succ_cons, List.take_zero, List.take_length, app_get, app_get0, app_set, app_set0, app_take, app_take0, List.length_append, List.length_map, gIs, isT, gEq, gNe, dok_str, dok_int, dok_bl, dok_non, dok_tup, dok_lst, eqD_str', eqD_int, inD_strs, dok_strL, List.all_cons, List.all_nil, String.reduceBEq, Bool.not_true, Bool.not_false, Bool.or_false, Bool.or_true, Bool.false_or, Bool.true_or, Bool.and_true, Bool.true_and, Bool.and_false, Bool.false_and, if_true, if_false, reduceCtorEq, Bool.false_eq_true, and_self, true_and, and_true, decide_true, decide_false, decide_eq_true_eq, Bool.not_eq_true', decide_eq_false_iff_not, Nat.zero_add, Nat.reduceAdd, Nat.reduceSub, Nat.reduceLT, Nat.reduceLeDiff, Int.reduceLT, Int.reduceLE, Int.reduceAdd, Int.reduceSub, Int.reduceMul, Int.reduceNeg, Int.reducePow, not_true_eq_false, not_false_eq_true, Nat.sub_self, Nat.lt_irrefl])

theorem SG_ascii : ∀ c ∈ SG.cps.toList, c < 128 := by decide +kernel
theorem SG_nodup : SG.cps.toList.Nodup := by decide +kernel
theorem SG_sign : ∀ c ∈ SG.cps.toList, c = 10 ∨ (¬ [c] < (Str.ofString " ").cps.toList ∧ ¬ (Str.ofString "~").cps.toList < [c]) := by decide +kernel
theorem wp_is_whole {i : Int} {st : Sto} {Q : W → Sto → Prop} {X : XP} (h : Q (.d (.bl true)) st) : wp (spec_is_whole [.d (.int i)] st) Q X := by
  unfold spec_is_whole b_is_whole
  walk_at "vc"
  exact h
theorem wp_is_between {i a b : Int} {st : Sto} {Q : W → Sto → Prop} {X : XP} (h1 : a ≤ i) (h2 : i ≤ b) (h : Q (.d (.bl true)) st) : wp (spec_is_between [.d (.int i), .d (.int a), .d (.int b)] st) Q X := by
  unfold spec_is_between b_is_between
  walk_at "vc"
  refine wp_is_whole ?_
  walk_at "vc"
  rw [if_pos h1, decide_eq_true h2]
  exact h
theorem wp_is_sign {c : Nat} {st : Sto} {Q : W → Sto → Prop} {X : XP} (hc : c ∈ SG.cps.toList) (h : Q (.d (.bl true)) st) : wp (spec_is_sign [.d (.str ⟨#[c]⟩)] st) Q X := by
  unfold spec_is_sign b_is_sign
  walk_at "vc"
  have e1 : (⟨#[c]⟩ : Str).cps.toList = [c] := rfl
  rcases SG_sign c hc with rfl | ⟨h1, h2⟩
  · have e2 : ¬ ¬ [10] < (Str.ofString " ").cps.toList := by decide +kernel
    have e3 : (⟨#[10]⟩ : Str) = Str.ofString "\n" := by decide +kernel
    rw [if_neg e2, decide_eq_true e3]
    exact h
  · rw [if_pos h1, if_pos h2, decide_eq_false h2]
    exact h
theorem signs_map (s : Str) : signs s = s.cps.toList.map fun c => D.str ⟨#[c]⟩ := rfl
theorem wp_is_string {s : Str} {a b : Int} {st : Sto} {Q : W → Sto → Prop} {X : XP} (ha : a ≤ s.length) (hb : s.length ≤ b) (hs : ∀ c ∈ s.cps.toList, c ∈ SG.cps.toList) (h : Q (.d (.bl true)) st) : wp (spec_is_string [.d (.str s), .d (.int a), .d (.int b)] st) Q X := by
  unfold spec_is_string b_is_string
  walk_at "vc"
  rw [if_pos ha, if_pos hb, signs_map]
  refine wp_lcM (fun _ => .bl true) trivial (fun c hc => ?_) ?_
  · walk_at "vc"
    refine wp_is_sign (hs c hc) ?_
    walk_at "vc"
  · walk_at "vc"
    have e : (s.cps.toList.map fun _ => true).all id = true := by simp
    rw [e]
    exact h
theorem wp_are_unlike {s : Str} {st : Sto} {Q : W → Sto → Prop} {X : XP} (hb : s.length ≤ 1000) (hs : ∀ c ∈ s.cps.toList, c ∈ SG.cps.toList) (hn : s.cps.toList.Nodup) (h : Q (.d (.bl true)) st) : wp (spec_are_unlike [.d (.str s)] st) Q X := by
  unfold spec_are_unlike b_are_unlike
  walk_at "vc"
  refine ⟨⟨?_, hn, hb⟩, h⟩
  rw [← Array.all_toList]
  exact List.all_eq_true.mpr fun c hc => decide_eq_true (SG_ascii c (hs c hc))
abbrev Mv := Int × Option Str × Int
def wD : Option Str → D
  | none => .non
  | some s => .str s
def mvD (m : Mv) : D := .tup [.int m.1, wD m.2.1, .int m.2.2]
def okW : Option Str → Prop
  | none => True
  | some s => 1 ≤ s.length ∧ s.length ≤ 96 ∧ (∀ c ∈ s.cps.toList, c ∈ SG.cps.toList) ∧ s.cps.toList.Nodup
structure okMv (n : Int) (m : Mv) : Prop where
  a : 0 ≤ m.1 ∧ m.1 < n
  w : okW m.2.1
  b : 0 ≤ m.2.2 ∧ m.2.2 < n
theorem wp_is_move {n : Int} {m : Mv} {st : Sto} {Q : W → Sto → Prop} {X : XP} (hn : n ≤ 1000) (hm : okMv n m) (h : Q (.d (.bl true)) st) : wp (spec_is_move [.d (.int n), .d (mvD m)] st) Q X := by
  obtain ⟨i, w, j⟩ := m
  obtain ⟨⟨h1, h2⟩, h3, h4, h5⟩ := hm
  simp only at h1 h2 h3 h4 h5
  unfold spec_is_move b_is_move mvD
  walk_at "vc"
  refine wp_is_between h1 (by omega) ?_
  walk_at "vc"
  refine wp_is_between h4 (by omega) ?_
  walk_at "vc"
  cases w with
  | none =>
    unfold wD
    walk_at "vc"
    exact h
  | some s =>
    unfold wD
    unfold okW at h3
    walk_at "vc"
    refine wp_is_string (by omega) (by omega) h3.2.2.1 ?_
    walk_at "vc"
    refine wp_are_unlike (by omega) h3.2.2.1 h3.2.2.2 ?_
    walk_at "vc"
    exact h
theorem wp_check_moves {n : Int} {ms : List Mv} {st : Sto} {Q : W → Sto → Prop} {X : XP} (hn : n ≤ 1000) (hl : ms.length ≤ 30) (hm : ∀ m ∈ ms, okMv n m) (h : Q (.d .non) st) : wp (spec_check_moves [.d (.int n), .d (.tup (ms.map mvD))] st) Q X := by
  unfold spec_check_moves b_check_moves
  walk_at "vc"
  rw [if_neg (by omega)]
  refine wps_forE (fun i ds sl st' => ∃ us : List Mv, ds = us.map mvD ∧ (∀ m ∈ us, okMv n m) ∧ ∃ a b, sl = [some (.d (.int n)), some (.d (.tup (ms.map mvD))), a, b] ∧ st' = st) ⟨ms, rfl, hm, _, _, rfl, rfl⟩ ?_ ?_
  · rintro i d ds sl st' ⟨us, e, hu, a, b, rfl, rfl⟩
    cases us with
    | nil => cases e
    | cons m us =>
      cases e
      walk_at "vc"
      refine wp_is_move hn (hu m (.head _)) ?_
      walk_at "vc"
      exact ⟨us, rfl, fun m h => hu m (.tail _ h), _, _, rfl⟩
  · rintro i sl st' ⟨us, e, hu, a, b, rfl, rfl⟩
    walk_at "vc"
    exact h
theorem wp_check_good {n : Int} {ns : List Int} {st : Sto} {Q : W → Sto → Prop} {X : XP} (hn : n ≤ 1000) (hl : ns.length ≤ 30) (hm : ∀ i ∈ ns, 0 ≤ i ∧ i < n) (hd : ns.Nodup) (h : Q (.d .non) st) : wp (spec_check_good [.d (.int n), .d (.tup (ns.map .int))] st) Q X := by
  unfold spec_check_good b_check_good
  walk_at "vc"
  refine wps_forE (fun i ds sl st' => ∃ us vs : List Int, ns = us ++ vs ∧ ds = vs.map .int ∧ ∃ a b, sl = [some (.d (.int n)), some (.d (.tup (ns.map .int))), some (.c st.length), a, b] ∧ st' = st ++ [.lst (us.map .int)]) ⟨[], ns, rfl, rfl, _, _, rfl, rfl⟩ ?_ ?_
  · rintro i d ds sl st' ⟨us, vs, e, e2, a, b, rfl, rfl⟩
    cases vs with
    | nil => cases e2
    | cons m vs =>
      cases e2
      walk_at "vc"
      have hb := hm m (by rw [e]; simp)
      refine wp_is_between hb.1 (by omega) ?_
      walk_at "vc"
      have hnm : m ∉ us := fun h => by
        rw [e] at hd
        exact (List.nodup_append.mp hd).2.2 _ h _ (.head _) rfl
      rw [if_neg hnm]
      have hlu : us.length < lim := by
        have := congrArg List.length e
        rw [List.length_append] at this
        have : us.length ≤ 30 := by omega
        exact Nat.lt_of_le_of_lt this (by decide)
      exact ⟨hlu, us ++ [m], vs, by rw [e]; simp, rfl, _, _, rfl, by simp⟩
  · rintro i sl st' ⟨us, vs, e, e2, a, b, rfl, rfl⟩
    walk_at "vc"
    exact h
def patD (n : Int) (good : List Int) (ms : List Mv) : D := .obj "Pattern" [("stands", .int n), ("good", .tup (good.map .int)), ("moves", .tup (ms.map mvD)), ("form", .tup [.int n, .tup (good.map .int), .tup (ms.map mvD)])]
structure okP (n : Int) (good : List Int) (ms : List Mv) : Prop where
  rg : 1 ≤ n ∧ n ≤ 5
  gl : good.length ≤ 30
  gm : ∀ i ∈ good, 0 ≤ i ∧ i < n
  gs : good.Pairwise (· < ·)
  ml : ms.length ≤ 30
  mm : ∀ m ∈ ms, okMv n m
theorem okP.nd {n : Int} {good : List Int} {ms : List Mv} (h : okP n good ms) : good.Nodup := h.gs.imp fun h => by omega
theorem wp_PatternS {n : Int} {good fine : List Int} {ms : List Mv} {st : Sto} {Q : W → Sto → Prop} {X : XP} (ok : okP n good ms) (hp : good.Perm fine) (h : Q (.d (patD n good ms)) st) :
    wp (made "Pattern" st.length (spec_Pattern___init__ [.c st.length, .d (.int n), .d (.tup (fine.map .int)), .d (.tup (ms.map mvD))] (st ++ [.ins "Pattern" []]))) Q X := by
  rw [wp_made]
  unfold spec_Pattern___init__ b_Pattern___init__
  walk_at "vc"
  obtain ⟨h1, h2⟩ := ok.rg
  refine wp_is_between h1 h2 ?_
  walk_at "vc"
  have hl := hp.length_eq
  have hgl := ok.gl
  refine wp_check_good (by omega) (by omega) (fun i hi => ok.gm i (hp.mem_iff.mpr hi)) (hp.nodup ok.nd) ?_
  walk_at "vc"
  refine wp_check_moves (by omega) ok.ml ok.mm ?_
  walk_at "vc"
  refine ⟨Nat.lt_of_le_of_lt (show fine.length ≤ 30 by omega) (by decide), ?_⟩
  change wpo (some (D.tup ((sortI fine).map D.int))) _
  rw [← sortI_is hp (ok.gs.imp fun h => by omega)]
  walk_at "vc"
  exact h
theorem wp_Pattern {n : Int} {good : List Int} {ms : List Mv} {st : Sto} {Q : W → Sto → Prop} {X : XP} (ok : okP n good ms) (h : Q (.d (patD n good ms)) st) :
    wp (made "Pattern" st.length (spec_Pattern___init__ [.c st.length, .d (.int n), .d (.tup (good.map .int)), .d (.tup (ms.map mvD))] (st ++ [.ins "Pattern" []]))) Q X := wp_PatternS ok (.refl _) h
end D49

namespace D49
open PySem L2 Dn Ft
theorem pat_stands {n : Int} {good : List Int} {ms : List Mv} : gFld ["Pattern"] "stands" (patD n good ms) = some (.int n) := rfl
theorem pat_good {n : Int} {good : List Int} {ms : List Mv} : gFld ["Pattern"] "good" (patD n good ms) = some (.tup (good.map .int)) := rfl
theorem pat_moves {n : Int} {good : List Int} {ms : List Mv} : gFld ["Pattern"] "moves" (patD n good ms) = some (.tup (ms.map mvD)) := rfl
theorem mvD_mk {i j : Int} {w : Option Str} : mvD (i, w, j) = .tup [.int i, wD w, .int j] := rfl
theorem wD_n : wD none = .non := rfl
theorem wD_s {s : Str} : wD (some s) = .str s := rfl
local macro_rules | `(tactic| walk_at "vc") => `(tactic| try simp (decide := true) only [↓wp_var,List.getElem?_map, inS_oneE, inD_ints, dok_intL, pat_stands, pat_good, pat_moves, mvD_mk, wD_n, wD_s, ↓wp_lenTx, ↓kLenTx_ap, ↓wp_listRg, ↓kListRg_ap, ↓wp_revS, ↓kRevS_ap, ↓wps_asgIx, ↓kAsgIx_ap, ↓kAsgIx2_ap, ↓kAsgIx3_ap, wt2, ↓wp_tupC, ↓kTupC_ap, ↓wp_fin_t, itemsW_nil, itemsW_d, itemsW_c, frzL_nil, frzL_d, frzL_c, frzC, ↓wp_inv, ↓kInv_ap, ↓wp_star, ↓kStar_ap, ↓kStar2_ap, ↓wp_newR, ↓kNewR_ap, pures_map, gDivmod_ii, gSorted_t, intsD_map, List.drop_succ_cons, List.drop_zero, ↓wp_C, ↓wp_pr, ↓wp_lift2, ↓wp_mk, ↓wp_if, ↓wps_if0, ↓wp_aNil, ↓wp_pNone, ↓wp_yes, ↓wp_op, ↓wp_ix, ↓wp_un, ↓wp_aCons, ↓wp_call, ↓wp_tup, ↓wp_lst, ↓wp_cell, ↓wp_tOf, ↓wp_tBl, ↓wp_tCmp, ↓wp_tNot, ↓wp_tAnd, ↓wp_tOr, ↓wp_eIf, ↓wp_eNot, ↓wp_eAnd, ↓wp_eOr, ↓wp_chain, ↓wp_pSome, ↓wp_sl, ↓wp_fn, ↓wp_app, ↓wp_isCell, ↓wp_meth, ↓wp_methK, ↓wp_fnK, ↓wp_new, ↓wp_newK, ↓wp_s1, ↓wp_eTold, ↓kTold_ap, ↓kToldX_ap, ↓wps_seq, ↓wps_skip, ↓wps_brk, ↓wps_cont, ↓wps_retN, ↓wps_expr, ↓wps_ret, ↓wps_sIf, ↓wps_set, ↓wps_par, ↓wps_asg, ↓wps_raise, ↓wps_for, ↓wps_setIx, ↓wps_fld, ↓wp_runB, ↓wp_fin_d, ↓wp_fin_c, ↓wp_iOf, ↓wp_itTup, ↓wp_itLst, ↓wp_itStr, ↓wp_itScr, ↓wp_itC, ↓wp_rng1, ↓wp_rng2, ↓wp_enum, ↓wp_lc, ↓wp_lcC, ↓wp_ok, ↓wp_exc, ↓wp_none, ↓wpo_some, ↓wpo_none, ↓wpd_d, ↓wpd_c, ↓wpc_c, ↓wpi_int, ↓wpb_bl, ↓wpt_tup, ↓wpj_obj, ↓wpl_lst, ↓wpn_ins, ↓wpo_ite, ↓wpo_map, ↓wpo_bind, ↓wp_bnd, ↓wps_stm, ↓kOp2_ap, ↓kIx2_ap, ↓kCons2_ap, ↓kCmp2_ap, ↓kChain3_ap, ↓kChain2_ap, ↓kSl3_ap, ↓kSl2_ap, ↓kApp2_ap, ↓kMeth2_ap, ↓kMethK2_ap, ↓kFnK2_ap, ↓kNewK2_ap, ↓kS12_ap, ↓kOp_ap, ↓kIx_ap, ↓kUn_ap, ↓kCons_ap, ↓kCall_ap, ↓kTup_ap, ↓kLst_ap, ↓kCell_ap, ↓kTOf_ap, ↓kTBl_ap, ↓kCmp_ap, ↓kNot_ap, ↓kAnd_ap, ↓kOr_ap, ↓kEIf_ap, ↓kENot_ap, ↓kEAnd_ap, ↓kEOr_ap, ↓kChain_ap, ↓kPSome_ap, ↓kSl_ap, ↓kFn_ap, ↓kApp_ap, ↓kIsCell_ap, ↓kMeth_ap, ↓kMethK_ap, ↓kFnK_ap, ↓kNew_ap, ↓kNewK_ap, ↓kS1_ap, ↓kFin_ap, ↓kEx_ap, ↓kEnd_ap, ↓kNo_ap, ↓kX_ap, ↓kSeq_ap, ↓kExpr_ap, ↓kRet_ap, ↓kIf_ap, ↓kSet_ap, ↓kPar_ap, ↓kAsg_ap, ↓kRaise_ap, ↓kFor_ap, ↓kSetIx3_ap, ↓kSetIx2_ap, ↓kSetIx1_ap, ↓kFld2_ap, ↓kFld1_ap, ↓kI_ap, ↓kRng1_ap, ↓kRng2_ap, ↓kEnum_ap, ↓kLc_ap, ↓kLcE_ap, ↓kLcC_ap, gN, gT, gsCons, gsNil, Option.bind_some, Option.map_some, gAdd_ii, gAdd_ss, gAdd_tt, gAdd_ll, gSub_ii, gMul_ii, gDiv_ii, gMod_ii, gPow_ii, gLt_ii, gLe_ii, gGt_ii, gGe_ii, gLt_ss, gLe_ss, gIn_t, gIn_l, gIn_s, gNotIn_t, gNotIn_l, gNotIn_s, gIsN_n, gNotN_n, isN_non, isN_str, isN_int, isN_bl, isN_tup, isN_lst, isN_obj, gNeg_i, gLen_s, gLen_t, gLen_l, gAbs_i, gMax2_i, gMin2_i, gInt_i, gInt_b, gTuple_t, gTuple_l, gList_t, gList_l, gStr_i, gAll_l, gAny_l, gIx_l, gIx_t, gIx_s, gSl_l, gSl_t, gSl_s, truD_n, truD_b, truD_i, truD_s, truD_t, truD_l, view_dd, viewL_dd, vCell_l, vCell_i, view_cc, viewL_cc, viewL_scr, views_nil, wpo_views, pures_nil, pures_d, ixN_natE, ixN_lit, atI_natE, atI_lit, bools_mapE, bools_nil, bools_cons, all_idE, txts_mapE, cutL_to, cutL_toL, cutL_from, cutL_fromL, Int.zero_add, swapG, appG, ← List.map_take, ← List.map_drop, true_or, or_true, false_or, or_false, startW, putD, wipeW, wp1, wp2, wps1, List.length_cons, List.length_nil, List.map_cons, List.map_nil, List.replicate, List.cons_append, List.nil_append, List.append_assoc, List.getElem?_cons_zero, List.getElem?_cons_succ, List.set_cons_zero, List.set_cons_succ, List.take_succ_cons, List.take_zero, List.take_length, app_get, app_get0, app_set, app_set0, app_take, app_take0, List.length_append, List.length_map, gIs, isT, gEq, gNe, dok_str, dok_int, dok_bl, dok_non, dok_tup, dok_lst, eqD_str', eqD_int, inD_strs, dok_strL, List.all_cons, List.all_nil, String.reduceBEq, Bool.not_true, Bool.not_false, Bool.or_false, Bool.or_true, Bool.false_or, Bool.true_or, Bool.and_true, Bool.true_and, Bool.and_false, Bool.false_and, if_true, if_false, reduceCtorEq, Bool.false_eq_true, and_self, true_and, and_true, decide_true, decide_false, decide_eq_true_eq, Bool.not_eq_true', decide_eq_false_iff_not, Nat.zero_add, Nat.reduceAdd, Nat.reduceSub, Nat.reduceLT, Nat.reduceLeDiff, Int.reduceLT, Int.reduceLE, Int.reduceAdd, Int.reduceSub, Int.reduceMul, Int.reduceNeg, Int.reducePow, not_true_eq_false, not_false_eq_true, Nat.sub_self, Nat.lt_irrefl])
local macro_rules | `(tactic| walk_at "vcs") => `(tactic| try simp (decide := true) only [↓wp_var,List.getElem?_map, inS_oneE, inD_ints, dok_intL, pat_stands, pat_good, pat_moves, mvD_mk, wD_n, wD_s, ↓wp_lenTx, ↓kLenTx_ap, ↓wp_listRg, ↓kListRg_ap, ↓wp_revS, ↓kRevS_ap, ↓wps_asgIx, ↓kAsgIx_ap, ↓kAsgIx2_ap, ↓kAsgIx3_ap, wt2, ↓wp_tupC, ↓kTupC_ap, ↓wp_fin_t, itemsW_nil, itemsW_d, itemsW_c, frzL_nil, frzL_d, frzL_c, frzC, ↓wp_inv, ↓kInv_ap, ↓wp_star, ↓kStar_ap, ↓kStar2_ap, ↓wp_newR, ↓kNewR_ap, pures_map, gDivmod_ii, gSorted_t, intsD_map, List.drop_succ_cons, List.drop_zero, ↓wp_C, ↓wp_pr, ↓wp_lift2, ↓wp_mk, ↓wp_if, ↓wps_if0, ↓wp_aNil, ↓wp_pNone, ↓wp_yes, ↓wp_op, ↓wp_ix, ↓wp_un, ↓wp_aCons, ↓wp_call, ↓wp_tup, ↓wp_lst, ↓wp_cell, ↓wp_tOf, ↓wp_tBl, ↓wp_tCmp, ↓wp_tNot, ↓wp_tAnd, ↓wp_tOr, ↓wp_eIf, ↓wp_eNot, ↓wp_eAnd, ↓wp_eOr, ↓wp_chain, ↓wp_pSome, ↓wp_sl, ↓wp_fn, ↓wp_app, ↓wp_isCell, ↓wp_meth, ↓wp_methK, ↓wp_fnK, ↓wp_new, ↓wp_newK, ↓wp_s1, ↓wp_eTold, ↓kTold_ap, ↓kToldX_ap, ↓wps_seq, ↓wps_skip, ↓wps_brk, ↓wps_cont, ↓wps_retN, ↓wps_expr, ↓wps_ret, ↓wps_sIf, ↓wps_set, ↓wps_par, ↓wps_asg, ↓wps_raise, ↓wps_for, ↓wps_setIx, ↓wps_fld, ↓wp_runB, ↓wp_fin_d, ↓wp_fin_c, ↓wp_iOf, ↓wp_itTup, ↓wp_itLst, ↓wp_itStr, ↓wp_itScr, ↓wp_itC, ↓wp_rng1, ↓wp_rng2, ↓wp_enum, ↓wp_lc, ↓wp_lcC, ↓wp_ok, ↓wp_exc, ↓wp_none, ↓wpo_some, ↓wpo_none, ↓wpd_d, ↓wpd_c, ↓wpc_c, ↓wpi_int, ↓wpb_bl, ↓wpt_tup, ↓wpj_obj, ↓wpl_lst, ↓wpn_ins, ↓wpo_ite, ↓wpo_map, ↓wpo_bind, ↓wp_bnd, ↓wps_stm, ↓kOp2_ap, ↓kIx2_ap, ↓kCons2_ap, ↓kCmp2_ap, ↓kChain3_ap, ↓kChain2_ap, ↓kSl3_ap, ↓kSl2_ap, ↓kApp2_ap, ↓kMeth2_ap, ↓kMethK2_ap, ↓kFnK2_ap, ↓kNewK2_ap, ↓kS12_ap, ↓kOp_ap, ↓kIx_ap, ↓kUn_ap, ↓kCons_ap, ↓kCall_ap, ↓kTup_ap, ↓kLst_ap, ↓kCell_ap, ↓kTOf_ap, ↓kTBl_ap, ↓kCmp_ap, ↓kNot_ap, ↓kAnd_ap, ↓kOr_ap, ↓kEIf_ap, ↓kENot_ap, ↓kEAnd_ap, ↓kEOr_ap, ↓kChain_ap, ↓kPSome_ap, ↓kSl_ap, ↓kFn_ap, ↓kApp_ap, ↓kIsCell_ap, ↓kMeth_ap, ↓kMethK_ap, ↓kFnK_ap, ↓kNew_ap, ↓kNewK_ap, ↓kS1_ap, ↓kFin_ap, ↓kEx_ap, ↓kEnd_ap, ↓kNo_ap, ↓kX_ap, ↓kSeq_ap, ↓kExpr_ap, ↓kRet_ap, ↓kIf_ap, ↓kSet_ap, ↓kPar_ap, ↓kAsg_ap, ↓kRaise_ap, ↓kFor_ap, ↓kSetIx3_ap, ↓kSetIx2_ap, ↓kSetIx1_ap, ↓kFld2_ap, ↓kFld1_ap, ↓kI_ap, ↓kRng1_ap, ↓kRng2_ap, ↓kEnum_ap, ↓kLc_ap, ↓kLcE_ap, ↓kLcC_ap, gN, gT, gsCons, gsNil, Option.bind_some, Option.map_some, gAdd_ii, gAdd_ss, gAdd_tt, gAdd_ll, gSub_ii, gMul_ii, gDiv_ii, gMod_ii, gPow_ii, gLt_ii, gLe_ii, gGt_ii, gGe_ii, gLt_ss, gLe_ss, gIn_t, gIn_l, gIn_s, gNotIn_t, gNotIn_l, gNotIn_s, gIsN_n, gNotN_n, isN_non, isN_str, isN_int, isN_bl, isN_tup, isN_lst, isN_obj, gNeg_i, gLen_s, gLen_t, gLen_l, gAbs_i, gMax2_i, gMin2_i, gInt_i, gInt_b, gTuple_t, gTuple_l, gList_t, gList_l, gStr_i, gAll_l, gAny_l, gIx_l, gIx_t, gIx_s, gSl_l, gSl_t, gSl_s, truD_n, truD_b, truD_i, truD_s, truD_t, truD_l, view_dd, viewL_dd, vCell_l, vCell_i, view_cc, viewL_cc, viewL_scr, views_nil, wpo_views, pures_nil, pures_d, ixN_natE, ixN_lit, atI_natE, atI_lit, bools_mapE, bools_nil, bools_cons, all_idE, txts_mapE, cutL_to, cutL_toL, cutL_from, cutL_fromL, Int.zero_add, swapG, appG, ← List.map_take, ← List.map_drop, true_or, or_true, false_or, or_false, startW, putD, wipeW, wp1, wp2, wps1, List.length_cons, List.length_nil, List.map_cons, List.map_nil, List.replicate, List.cons_append, List.nil_append, List.append_assoc, List.getElem?_cons_zero, List.getElem?_cons_succ, List.set_cons_zero, List.set_cons_succ, List.take_succ_cons, List.take_zero, List.take_length, app_get, app_get0, app_set, app_set0, app_take, app_take0, List.length_append, List.length_map, gIs, isT, gEq, gNe, dok_str, dok_int, dok_bl, dok_non, dok_tup, dok_lst, eqD_str', eqD_int, inD_strs, dok_strL, List.all_cons, List.all_nil, String.reduceBEq, Bool.not_true, Bool.not_false, Bool.or_false, Bool.or_true, Bool.false_or, Bool.true_or, Bool.and_true, Bool.true_and, Bool.and_false, Bool.false_and, if_true, if_false, reduceCtorEq, Bool.false_eq_true, and_self, true_and, and_true, decide_true, decide_false, decide_eq_true_eq, Bool.not_eq_true', decide_eq_false_iff_not, Nat.zero_add, Nat.reduceAdd, Nat.reduceSub, Nat.reduceLT, Nat.reduceLeDiff, Int.reduceLT, Int.reduceLE, Int.reduceAdd, Int.reduceSub, Int.reduceMul, Int.reduceNeg, Int.reducePow, not_true_eq_false, not_false_eq_true, Nat.sub_self, Nat.lt_irrefl, *])
local macro_rules | `(tactic| walk_at "vn") => `(tactic| try simp (decide := true) only [↓wp_var,List.getElem?_map, inS_oneE, inD_ints, dok_intL, pat_stands, pat_good, pat_moves, mvD_mk, wD_n, wD_s, ↓wp_lenTx, ↓kLenTx_ap, ↓wp_listRg, ↓kListRg_ap, ↓wp_revS, ↓kRevS_ap, ↓wps_asgIx, ↓kAsgIx_ap, ↓kAsgIx2_ap, ↓kAsgIx3_ap, wt2, ↓wp_tupC, ↓kTupC_ap, ↓wp_fin_t, itemsW_nil, itemsW_d, itemsW_c, frzL_nil, frzL_d, frzL_c, frzC, ↓wp_inv, ↓kInv_ap, ↓wp_star, ↓kStar_ap, ↓kStar2_ap, ↓wp_newR, ↓kNewR_ap, pures_map, gDivmod_ii, gSorted_t, intsD_map, List.drop_succ_cons, List.drop_zero, ↓wp_C, ↓wp_pr, ↓wp_lift2, ↓wp_mk, ↓wp_if, ↓wps_if0, ↓wp_aNil, ↓wp_pNone, ↓wp_yes, ↓wp_op, ↓wp_ix, ↓wp_un, ↓wp_aCons, ↓wp_call, ↓wp_tup, ↓wp_lst, ↓wp_cell, ↓wp_tOf, ↓wp_tBl, ↓wp_tCmp, ↓wp_tNot, ↓wp_tAnd, ↓wp_tOr, ↓wp_eIf, ↓wp_eNot, ↓wp_eAnd, ↓wp_eOr, ↓wp_chain, ↓wp_pSome, ↓wp_sl, ↓wp_fn, ↓wp_app, ↓wp_isCell, ↓wp_meth, ↓wp_methK, ↓wp_fnK, ↓wp_new, ↓wp_newK, ↓wp_s1, ↓wp_eTold, ↓kTold_ap, ↓kToldX_ap, ↓wps_seq, ↓wps_skip, ↓wps_brk, ↓wps_cont, ↓wps_retN, ↓wps_expr, ↓wps_ret, ↓wps_set, ↓wps_par, ↓wps_asg, ↓wps_raise, ↓wps_for, ↓wps_setIx, ↓wps_fld, ↓wp_runB, ↓wp_fin_d, ↓wp_fin_c, ↓wp_iOf, ↓wp_itTup, ↓wp_itLst, ↓wp_itStr, ↓wp_itScr, ↓wp_itC, ↓wp_rng1, ↓wp_rng2, ↓wp_enum, ↓wp_lc, ↓wp_lcC, ↓wp_ok, ↓wp_exc, ↓wp_none, ↓wpo_some, ↓wpo_none, ↓wpd_d, ↓wpd_c, ↓wpc_c, ↓wpi_int, ↓wpb_bl, ↓wpt_tup, ↓wpj_obj, ↓wpl_lst, ↓wpn_ins, ↓wpo_ite, ↓wpo_map, ↓wpo_bind, ↓wp_bnd, ↓wps_stm, ↓kOp2_ap, ↓kIx2_ap, ↓kCons2_ap, ↓kCmp2_ap, ↓kChain3_ap, ↓kChain2_ap, ↓kSl3_ap, ↓kSl2_ap, ↓kApp2_ap, ↓kMeth2_ap, ↓kMethK2_ap, ↓kFnK2_ap, ↓kNewK2_ap, ↓kS12_ap, ↓kOp_ap, ↓kIx_ap, ↓kUn_ap, ↓kCons_ap, ↓kCall_ap, ↓kTup_ap, ↓kLst_ap, ↓kCell_ap, ↓kTOf_ap, ↓kTBl_ap, ↓kCmp_ap, ↓kNot_ap, ↓kAnd_ap, ↓kOr_ap, ↓kEIf_ap, ↓kENot_ap, ↓kEAnd_ap, ↓kEOr_ap, ↓kChain_ap, ↓kPSome_ap, ↓kSl_ap, ↓kFn_ap, ↓kApp_ap, ↓kIsCell_ap, ↓kMeth_ap, ↓kMethK_ap, ↓kFnK_ap, ↓kNew_ap, ↓kNewK_ap, ↓kS1_ap, ↓kFin_ap, ↓kEx_ap, ↓kEnd_ap, ↓kNo_ap, ↓kX_ap, ↓kSeq_ap, ↓kExpr_ap, ↓kRet_ap, ↓kIf_ap, ↓kSet_ap, ↓kPar_ap, ↓kAsg_ap, ↓kRaise_ap, ↓kFor_ap, ↓kSetIx3_ap, ↓kSetIx2_ap, ↓kSetIx1_ap, ↓kFld2_ap, ↓kFld1_ap, ↓kI_ap, ↓kRng1_ap, ↓kRng2_ap, ↓kEnum_ap, ↓kLc_ap, ↓kLcE_ap, ↓kLcC_ap, gN, gT, gsCons, gsNil, Option.bind_some, Option.map_some, gAdd_ii, gAdd_ss, gAdd_tt, gAdd_ll, gSub_ii, gMul_ii, gDiv_ii, gMod_ii, gPow_ii, gLt_ii, gLe_ii, gGt_ii, gGe_ii, gLt_ss, gLe_ss, gIn_t, gIn_l, gIn_s, gNotIn_t, gNotIn_l, gNotIn_s, gIsN_n, gNotN_n, isN_non, isN_str, isN_int, isN_bl, isN_tup, isN_lst, isN_obj, gNeg_i, gLen_s, gLen_t, gLen_l, gAbs_i, gMax2_i, gMin2_i, gInt_i, gInt_b, gTuple_t, gTuple_l, gList_t, gList_l, gStr_i, gAll_l, gAny_l, gIx_l, gIx_t, gIx_s, gSl_l, gSl_t, gSl_s, truD_n, truD_b, truD_i, truD_s, truD_t, truD_l, view_dd, viewL_dd, vCell_l, vCell_i, view_cc, viewL_cc, viewL_scr, views_nil, wpo_views, pures_nil, pures_d, ixN_natE, ixN_lit, atI_natE, atI_lit, bools_mapE, bools_nil, bools_cons, all_idE, txts_mapE, cutL_to, cutL_toL, cutL_from, cutL_fromL, Int.zero_add, swapG, appG, ← List.map_take, ← List.map_drop, true_or, or_true, false_or, or_false, startW, putD, wipeW, wp1, wp2, wps1, List.length_cons, List.length_nil, List.map_cons, List.map_nil, List.replicate, List.cons_append, List.nil_append, List.append_assoc, List.getElem?_cons_zero, List.getElem?_cons_succ, List.set_cons_zero, List.set_cons_succ, List.take_succ_cons, List.take_zero, List.take_length, app_get, app_get0, app_set, app_set0, app_take, app_take0, List.length_append, List.length_map, gIs, isT, gEq, gNe, dok_str, dok_int, dok_bl, dok_non, dok_tup, dok_lst, eqD_str', eqD_int, inD_strs, dok_strL, List.all_cons, List.all_nil, String.reduceBEq, Bool.not_true, Bool.not_false, Bool.or_false, Bool.or_true, Bool.false_or, Bool.true_or, Bool.and_true, Bool.true_and, Bool.and_false, Bool.false_and, if_true, if_false, reduceCtorEq, Bool.false_eq_true, and_self, true_and, and_true, decide_true, decide_false, decide_eq_true_eq, Bool.not_eq_true', decide_eq_false_iff_not, Nat.zero_add, Nat.reduceAdd, Nat.reduceSub, Nat.reduceLT, Nat.reduceLeDiff, Int.reduceLT, Int.reduceLE, Int.reduceAdd, Int.reduceSub, Int.reduceMul, Int.reduceNeg, Int.reducePow, not_true_eq_false, not_false_eq_true, Nat.sub_self, Nat.lt_irrefl])

def rgI (n : Int) : List Int := (List.range n.toNat).map fun (k : Nat) => (k : Int)
theorem rng_I (n : Int) : rng 0 n.toNat = (rgI n).map D.int := by
  unfold rng rgI
  rw [List.map_map]
  refine List.map_congr_left fun k _ => ?_
  show D.int (0 + (k : Int)) = D.int k
  rw [Int.zero_add]
theorem rgI_in {n i : Int} (h : i ∈ rgI n) : 0 ≤ i ∧ i < n := by
  obtain ⟨k, hk, rfl⟩ := List.mem_map.mp h
  have := List.mem_range.mp hk
  omega
theorem rgI_len (n : Int) : (rgI n).length = n.toNat := by unfold rgI; rw [List.length_map, List.length_range]
theorem rgI_sorted (n : Int) : (rgI n).Pairwise (· < ·) := by
  unfold rgI
  rw [List.pairwise_map]
  exact List.pairwise_lt_range.imp fun h => by omega
theorem wp_invert {n : Int} {good : List Int} {ms : List Mv} {st : Sto} {Q : W → Sto → Prop} {X : XP} (ok : okP n good ms) (h : ∀ others : List Int, others = (rgI n).filter (fun i => decide (i ∉ good)) → okP n others ms → Q (.d (patD n others ms)) st) : wp (spec_Pattern___invert__ [.d (patD n good ms)] st) Q X := by
  unfold spec_Pattern___invert__ b_Pattern___invert__
  walk_at "vc"
  have := ok.rg
  refine ⟨by omega, ?_⟩
  rw [rng_I]
  refine wp_lcF (f := D.int) (fun i => decide (i ∉ good)) D.int trivial (fun i hi => ?_) ?_
  · walk_at "vc"
    simp
  · walk_at "vc"
    rw [List.append_nil, pures_map]
    walk_at "vc"
    have ok' : okP n ((rgI n).filter (fun i => decide (i ∉ good))) ms := ⟨ok.rg, by
      refine Nat.le_trans (List.length_filter_le _ _) ?_
      rw [rgI_len]
      omega, fun i hi => rgI_in (List.mem_filter.mp hi).1, (rgI_sorted n).filter _, ok.ml, ok.mm⟩
    refine ⟨Nat.le_trans ok.ml (by decide), wp_Pattern ok' ?_⟩
    walk_at "vc"
    exact h _ rfl ok'
end D49

namespace D49
open PySem L2 Dn Ft
theorem rgI_get {n : Int} {i : Int} (h : 0 ≤ i ∧ i < n) : i ∈ rgI n := by
  obtain ⟨k, rfl⟩ := Int.eq_ofNat_of_zero_le h.1
  exact List.mem_map.mpr ⟨k, List.mem_range.mpr (by omega), rfl⟩
def boxD (n : Int) (good : List Int) (ms : List Mv) : D := .tup [.int n, .tup (good.map .int), .lst (ms.map mvD)]
local macro_rules | `(tactic| walk_at "vc") => `(tactic| try simp (decide := true) only [↓wp_var,List.getElem?_map, inS_oneE, inD_ints, dok_intL, pat_stands, pat_good, pat_moves, mvD_mk, wD_n, wD_s, ↓wp_lenTx, ↓kLenTx_ap, ↓wp_listRg, ↓kListRg_ap, ↓wp_revS, ↓kRevS_ap, ↓wps_asgIx, ↓kAsgIx_ap, ↓kAsgIx2_ap, ↓kAsgIx3_ap, wt2, ↓wp_tupC, ↓kTupC_ap, ↓wp_fin_t, itemsW_nil, itemsW_d, itemsW_c, frzL_nil, frzL_d, frzL_c, frzC, ↓wp_inv, ↓kInv_ap, ↓wp_star, ↓kStar_ap, ↓kStar2_ap, ↓wp_newR, ↓kNewR_ap, pures_map, gDivmod_ii, gSorted_t, intsD_map, List.drop_succ_cons, List.drop_zero, ↓wp_C, ↓wp_pr, ↓wp_lift2, ↓wp_mk, ↓wp_if, ↓wps_if0, ↓wp_aNil, ↓wp_pNone, ↓wp_yes, ↓wp_op, ↓wp_ix, ↓wp_un, ↓wp_aCons, ↓wp_call, ↓wp_tup, ↓wp_lst, ↓wp_cell, ↓wp_tOf, ↓wp_tBl, ↓wp_tCmp, ↓wp_tNot, ↓wp_tAnd, ↓wp_tOr, ↓wp_eIf, ↓wp_eNot, ↓wp_eAnd, ↓wp_eOr, ↓wp_chain, ↓wp_pSome, ↓wp_sl, ↓wp_fn, ↓wp_app, ↓wp_isCell, ↓wp_meth, ↓wp_methK, ↓wp_fnK, ↓wp_new, ↓wp_newK, ↓wp_s1, ↓wp_eTold, ↓kTold_ap, ↓kToldX_ap, ↓wps_seq, ↓wps_skip, ↓wps_brk, ↓wps_cont, ↓wps_retN, ↓wps_expr, ↓wps_ret, ↓wps_sIf, ↓wps_set, ↓wps_par, ↓wps_asg, ↓wps_raise, ↓wps_for, ↓wps_setIx, ↓wps_fld, ↓wp_runB, ↓wp_fin_d, ↓wp_fin_c, ↓wp_iOf, ↓wp_itTup, ↓wp_itLst, ↓wp_itStr, ↓wp_itScr, ↓wp_itC, ↓wp_rng1, ↓wp_rng2, ↓wp_enum, ↓wp_lc, ↓wp_lcC, ↓wp_ok, ↓wp_exc, ↓wp_none, ↓wpo_some, ↓wpo_none, ↓wpd_d, ↓wpd_c, ↓wpc_c, ↓wpi_int, ↓wpb_bl, ↓wpt_tup, ↓wpj_obj, ↓wpl_lst, ↓wpn_ins, ↓wpo_ite, ↓wpo_map, ↓wpo_bind, ↓wp_bnd, ↓wps_stm, ↓kOp2_ap, ↓kIx2_ap, ↓kCons2_ap, ↓kCmp2_ap, ↓kChain3_ap, ↓kChain2_ap, ↓kSl3_ap, ↓kSl2_ap, ↓kApp2_ap, ↓kMeth2_ap, ↓kMethK2_ap, ↓kFnK2_ap, ↓kNewK2_ap, ↓kS12_ap, ↓kOp_ap, ↓kIx_ap, ↓kUn_ap, ↓kCons_ap, ↓kCall_ap, ↓kTup_ap, ↓kLst_ap, ↓kCell_ap, ↓kTOf_ap, ↓kTBl_ap, ↓kCmp_ap, ↓kNot_ap, ↓kAnd_ap, ↓kOr_ap, ↓kEIf_ap, ↓kENot_ap, ↓kEAnd_ap, ↓kEOr_ap, ↓kChain_ap, ↓kPSome_ap, ↓kSl_ap, ↓kFn_ap, ↓kApp_ap, ↓kIsCell_ap, ↓kMeth_ap, ↓kMethK_ap, ↓kFnK_ap, ↓kNew_ap, ↓kNewK_ap, ↓kS1_ap, ↓kFin_ap, ↓kEx_ap, ↓kEnd_ap, ↓kNo_ap, ↓kX_ap, ↓kSeq_ap, ↓kExpr_ap, ↓kRet_ap, ↓kIf_ap, ↓kSet_ap, ↓kPar_ap, ↓kAsg_ap, ↓kRaise_ap, ↓kFor_ap, ↓kSetIx3_ap, ↓kSetIx2_ap, ↓kSetIx1_ap, ↓kFld2_ap, ↓kFld1_ap, ↓kI_ap, ↓kRng1_ap, ↓kRng2_ap, ↓kEnum_ap, ↓kLc_ap, ↓kLcE_ap, ↓kLcC_ap, gN, gT, gsCons, gsNil, Option.bind_some, Option.map_some, gAdd_ii, gAdd_ss, gAdd_tt, gAdd_ll, gSub_ii, gMul_ii, gDiv_ii, gMod_ii, gPow_ii, gLt_ii, gLe_ii, gGt_ii, gGe_ii, gLt_ss, gLe_ss, gIn_t, gIn_l, gIn_s, gNotIn_t, gNotIn_l, gNotIn_s, gIsN_n, gNotN_n, isN_non, isN_str, isN_int, isN_bl, isN_tup, isN_lst, isN_obj, gNeg_i, gLen_s, gLen_t, gLen_l, gAbs_i, gMax2_i, gMin2_i, gInt_i, gInt_b, gTuple_t, gTuple_l, gList_t, gList_l, gStr_i, gAll_l, gAny_l, gIx_l, gIx_t, gIx_s, gSl_l, gSl_t, gSl_s, truD_n, truD_b, truD_i, truD_s, truD_t, truD_l, view_dd, viewL_dd, vCell_l, vCell_i, view_cc, viewL_cc, viewL_scr, views_nil, wpo_views, pures_nil, pures_d, ixN_natE, ixN_lit, atI_natE, atI_lit, bools_mapE, bools_nil, bools_cons, all_idE, txts_mapE, cutL_to, cutL_toL, cutL_from, cutL_fromL, Int.zero_add, swapG, appG, ← List.map_take, ← List.map_drop, true_or, or_true, false_or, or_false, startW, putD, wipeW, wp1, wp2, wps1, List.length_cons, List.length_nil, List.map_cons, List.map_nil, List.replicate, List.cons_append, List.nil_append, List.append_assoc, List.getElem?_cons_zero, List.getElem?_cons_succ, List.set_cons_zero, List.set_cons_succ, List.take_succ_cons, List.take_zero, List.take_length, app_get, app_get0, app_set, app_set0, app_take, app_take0, List.length_append, List.length_map, gIs, isT, gEq, gNe, dok_str, dok_int, dok_bl, dok_non, dok_tup, dok_lst, eqD_str', eqD_int, inD_strs, dok_strL, List.all_cons, List.all_nil, String.reduceBEq, Bool.not_true, Bool.not_false, Bool.or_false, Bool.or_true, Bool.false_or, Bool.true_or, Bool.and_true, Bool.true_and, Bool.and_false, Bool.false_and, if_true, if_false, reduceCtorEq, Bool.false_eq_true, and_self, true_and, and_true, decide_true, decide_false, decide_eq_true_eq, Bool.not_eq_true', decide_eq_false_iff_not, Nat.zero_add, Nat.reduceAdd, Nat.reduceSub, Nat.reduceLT, Nat.reduceLeDiff, Int.reduceLT, Int.reduceLE, Int.reduceAdd, Int.reduceSub, Int.reduceMul, Int.reduceNeg, Int.reducePow, not_true_eq_false, not_false_eq_true, Nat.sub_self, Nat.lt_irrefl])
local macro_rules | `(tactic| walk_at "vcs") => `(tactic| try simp (decide := true) only [↓wp_var,List.getElem?_map, inS_oneE, inD_ints, dok_intL, pat_stands, pat_good, pat_moves, mvD_mk, wD_n, wD_s, ↓wp_lenTx, ↓kLenTx_ap, ↓wp_listRg, ↓kListRg_ap, ↓wp_revS, ↓kRevS_ap, ↓wps_asgIx, ↓kAsgIx_ap, ↓kAsgIx2_ap, ↓kAsgIx3_ap, wt2, ↓wp_tupC, ↓kTupC_ap, ↓wp_fin_t, itemsW_nil, itemsW_d, itemsW_c, frzL_nil, frzL_d, frzL_c, frzC, ↓wp_inv, ↓kInv_ap, ↓wp_star, ↓kStar_ap, ↓kStar2_ap, ↓wp_newR, ↓kNewR_ap, pures_map, gDivmod_ii, gSorted_t, intsD_map, List.drop_succ_cons, List.drop_zero, ↓wp_C, ↓wp_pr, ↓wp_lift2, ↓wp_mk, ↓wp_if, ↓wps_if0, ↓wp_aNil, ↓wp_pNone, ↓wp_yes, ↓wp_op, ↓wp_ix, ↓wp_un, ↓wp_aCons, ↓wp_call, ↓wp_tup, ↓wp_lst, ↓wp_cell, ↓wp_tOf, ↓wp_tBl, ↓wp_tCmp, ↓wp_tNot, ↓wp_tAnd, ↓wp_tOr, ↓wp_eIf, ↓wp_eNot, ↓wp_eAnd, ↓wp_eOr, ↓wp_chain, ↓wp_pSome, ↓wp_sl, ↓wp_fn, ↓wp_app, ↓wp_isCell, ↓wp_meth, ↓wp_methK, ↓wp_fnK, ↓wp_new, ↓wp_newK, ↓wp_s1, ↓wp_eTold, ↓kTold_ap, ↓kToldX_ap, ↓wps_seq, ↓wps_skip, ↓wps_brk, ↓wps_cont, ↓wps_retN, ↓wps_expr, ↓wps_ret, ↓wps_sIf, ↓wps_set, ↓wps_par, ↓wps_asg, ↓wps_raise, ↓wps_for, ↓wps_setIx, ↓wps_fld, ↓wp_runB, ↓wp_fin_d, ↓wp_fin_c, ↓wp_iOf, ↓wp_itTup, ↓wp_itLst, ↓wp_itStr, ↓wp_itScr, ↓wp_itC, ↓wp_rng1, ↓wp_rng2, ↓wp_enum, ↓wp_lc, ↓wp_lcC, ↓wp_ok, ↓wp_exc, ↓wp_none, ↓wpo_some, ↓wpo_none, ↓wpd_d, ↓wpd_c, ↓wpc_c, ↓wpi_int, ↓wpb_bl, ↓wpt_tup, ↓wpj_obj, ↓wpl_lst, ↓wpn_ins, ↓wpo_ite, ↓wpo_map, ↓wpo_bind, ↓wp_bnd, ↓wps_stm, ↓kOp2_ap, ↓kIx2_ap, ↓kCons2_ap, ↓kCmp2_ap, ↓kChain3_ap, ↓kChain2_ap, ↓kSl3_ap, ↓kSl2_ap, ↓kApp2_ap, ↓kMeth2_ap, ↓kMethK2_ap, ↓kFnK2_ap, ↓kNewK2_ap, ↓kS12_ap, ↓kOp_ap, ↓kIx_ap, ↓kUn_ap, ↓kCons_ap, ↓kCall_ap, ↓kTup_ap, ↓kLst_ap, ↓kCell_ap, ↓kTOf_ap, ↓kTBl_ap, ↓kCmp_ap, ↓kNot_ap, ↓kAnd_ap, ↓kOr_ap, ↓kEIf_ap, ↓kENot_ap, ↓kEAnd_ap, ↓kEOr_ap, ↓kChain_ap, ↓kPSome_ap, ↓kSl_ap, ↓kFn_ap, ↓kApp_ap, ↓kIsCell_ap, ↓kMeth_ap, ↓kMethK_ap, ↓kFnK_ap, ↓kNew_ap, ↓kNewK_ap, ↓kS1_ap, ↓kFin_ap, ↓kEx_ap, ↓kEnd_ap, ↓kNo_ap, ↓kX_ap, ↓kSeq_ap, ↓kExpr_ap, ↓kRet_ap, ↓kIf_ap, ↓kSet_ap, ↓kPar_ap, ↓kAsg_ap, ↓kRaise_ap, ↓kFor_ap, ↓kSetIx3_ap, ↓kSetIx2_ap, ↓kSetIx1_ap, ↓kFld2_ap, ↓kFld1_ap, ↓kI_ap, ↓kRng1_ap, ↓kRng2_ap, ↓kEnum_ap, ↓kLc_ap, ↓kLcE_ap, ↓kLcC_ap, gN, gT, gsCons, gsNil, Option.bind_some, Option.map_some, gAdd_ii, gAdd_ss, gAdd_tt, gAdd_ll, gSub_ii, gMul_ii, gDiv_ii, gMod_ii, gPow_ii, gLt_ii, gLe_ii, gGt_ii, gGe_ii, gLt_ss, gLe_ss, gIn_t, gIn_l, gIn_s, gNotIn_t, gNotIn_l, gNotIn_s, gIsN_n, gNotN_n, isN_non, isN_str, isN_int, isN_bl, isN_tup, isN_lst, isN_obj, gNeg_i, gLen_s, gLen_t, gLen_l, gAbs_i, gMax2_i, gMin2_i, gInt_i, gInt_b, gTuple_t, gTuple_l, gList_t, gList_l, gStr_i, gAll_l, gAny_l, gIx_l, gIx_t, gIx_s, gSl_l, gSl_t, gSl_s, truD_n, truD_b, truD_i, truD_s, truD_t, truD_l, view_dd, viewL_dd, vCell_l, vCell_i, view_cc, viewL_cc, viewL_scr, views_nil, wpo_views, pures_nil, pures_d, ixN_natE, ixN_lit, atI_natE, atI_lit, bools_mapE, bools_nil, bools_cons, all_idE, txts_mapE, cutL_to, cutL_toL, cutL_from, cutL_fromL, Int.zero_add, swapG, appG, ← List.map_take, ← List.map_drop, true_or, or_true, false_or, or_false, startW, putD, wipeW, wp1, wp2, wps1, List.length_cons, List.length_nil, List.map_cons, List.map_nil, List.replicate, List.cons_append, List.nil_append, List.append_assoc, List.getElem?_cons_zero, List.getElem?_cons_succ, List.set_cons_zero, List.set_cons_succ, List.take_succ_cons, List.take_zero, List.take_length, app_get, app_get0, app_set, app_set0, app_take, app_take0, List.length_append, List.length_map, gIs, isT, gEq, gNe, dok_str, dok_int, dok_bl, dok_non, dok_tup, dok_lst, eqD_str', eqD_int, inD_strs, dok_strL, List.all_cons, List.all_nil, String.reduceBEq, Bool.not_true, Bool.not_false, Bool.or_false, Bool.or_true, Bool.false_or, Bool.true_or, Bool.and_true, Bool.true_and, Bool.and_false, Bool.false_and, if_true, if_false, reduceCtorEq, Bool.false_eq_true, and_self, true_and, and_true, decide_true, decide_false, decide_eq_true_eq, Bool.not_eq_true', decide_eq_false_iff_not, Nat.zero_add, Nat.reduceAdd, Nat.reduceSub, Nat.reduceLT, Nat.reduceLeDiff, Int.reduceLT, Int.reduceLE, Int.reduceAdd, Int.reduceSub, Int.reduceMul, Int.reduceNeg, Int.reducePow, not_true_eq_false, not_false_eq_true, Nat.sub_self, Nat.lt_irrefl, *])
local macro_rules | `(tactic| walk_at "vn") => `(tactic| try simp (decide := true) only [↓wp_var,List.getElem?_map, inS_oneE, inD_ints, dok_intL, pat_stands, pat_good, pat_moves, mvD_mk, wD_n, wD_s, ↓wp_lenTx, ↓kLenTx_ap, ↓wp_listRg, ↓kListRg_ap, ↓wp_revS, ↓kRevS_ap, ↓wps_asgIx, ↓kAsgIx_ap, ↓kAsgIx2_ap, ↓kAsgIx3_ap, wt2, ↓wp_tupC, ↓kTupC_ap, ↓wp_fin_t, itemsW_nil, itemsW_d, itemsW_c, frzL_nil, frzL_d, frzL_c, frzC, ↓wp_inv, ↓kInv_ap, ↓wp_star, ↓kStar_ap, ↓kStar2_ap, ↓wp_newR, ↓kNewR_ap, pures_map, gDivmod_ii, gSorted_t, intsD_map, List.drop_succ_cons, List.drop_zero, ↓wp_C, ↓wp_pr, ↓wp_lift2, ↓wp_mk, ↓wp_if, ↓wps_if0, ↓wp_aNil, ↓wp_pNone, ↓wp_yes, ↓wp_op, ↓wp_ix, ↓wp_un, ↓wp_aCons, ↓wp_call, ↓wp_tup, ↓wp_lst, ↓wp_cell, ↓wp_tOf, ↓wp_tBl, ↓wp_tCmp, ↓wp_tNot, ↓wp_tAnd, ↓wp_tOr, ↓wp_eIf, ↓wp_eNot, ↓wp_eAnd, ↓wp_eOr, ↓wp_chain, ↓wp_pSome, ↓wp_sl, ↓wp_fn, ↓wp_app, ↓wp_isCell, ↓wp_meth, ↓wp_methK, ↓wp_fnK, ↓wp_new, ↓wp_newK, ↓wp_s1, ↓wp_eTold, ↓kTold_ap, ↓kToldX_ap, ↓wps_seq, ↓wps_skip, ↓wps_brk, ↓wps_cont, ↓wps_retN, ↓wps_expr, ↓wps_ret, ↓wps_set, ↓wps_par, ↓wps_asg, ↓wps_raise, ↓wps_for, ↓wps_setIx, ↓wps_fld, ↓wp_runB, ↓wp_fin_d, ↓wp_fin_c, ↓wp_iOf, ↓wp_itTup, ↓wp_itLst, ↓wp_itStr, ↓wp_itScr, ↓wp_itC, ↓wp_rng1, ↓wp_rng2, ↓wp_enum, ↓wp_lc, ↓wp_lcC, ↓wp_ok, ↓wp_exc, ↓wp_none, ↓wpo_some, ↓wpo_none, ↓wpd_d, ↓wpd_c, ↓wpc_c, ↓wpi_int, ↓wpb_bl, ↓wpt_tup, ↓wpj_obj, ↓wpl_lst, ↓wpn_ins, ↓wpo_ite, ↓wpo_map, ↓wpo_bind, ↓wp_bnd, ↓wps_stm, ↓kOp2_ap, ↓kIx2_ap, ↓kCons2_ap, ↓kCmp2_ap, ↓kChain3_ap, ↓kChain2_ap, ↓kSl3_ap, ↓kSl2_ap, ↓kApp2_ap, ↓kMeth2_ap, ↓kMethK2_ap, ↓kFnK2_ap, ↓kNewK2_ap, ↓kS12_ap, ↓kOp_ap, ↓kIx_ap, ↓kUn_ap, ↓kCons_ap, ↓kCall_ap, ↓kTup_ap, ↓kLst_ap, ↓kCell_ap, ↓kTOf_ap, ↓kTBl_ap, ↓kCmp_ap, ↓kNot_ap, ↓kAnd_ap, ↓kOr_ap, ↓kEIf_ap, ↓kENot_ap, ↓kEAnd_ap, ↓kEOr_ap, ↓kChain_ap, ↓kPSome_ap, ↓kSl_ap, ↓kFn_ap, ↓kApp_ap, ↓kIsCell_ap, ↓kMeth_ap, ↓kMethK_ap, ↓kFnK_ap, ↓kNew_ap, ↓kNewK_ap, ↓kS1_ap, ↓kFin_ap, ↓kEx_ap, ↓kEnd_ap, ↓kNo_ap, ↓kX_ap, ↓kSeq_ap, ↓kExpr_ap, ↓kRet_ap, ↓kIf_ap, ↓kSet_ap, ↓kPar_ap, ↓kAsg_ap, ↓kRaise_ap, ↓kFor_ap, ↓kSetIx3_ap, ↓kSetIx2_ap, ↓kSetIx1_ap, ↓kFld2_ap, ↓kFld1_ap, ↓kI_ap, ↓kRng1_ap, ↓kRng2_ap, ↓kEnum_ap, ↓kLc_ap, ↓kLcE_ap, ↓kLcC_ap, gN, gT, gsCons, gsNil, Option.bind_some, Option.map_some, gAdd_ii, gAdd_ss, gAdd_tt, gAdd_ll, gSub_ii, gMul_ii, gDiv_ii, gMod_ii, gPow_ii, gLt_ii, gLe_ii, gGt_ii, gGe_ii, gLt_ss, gLe_ss, gIn_t, gIn_l, gIn_s, gNotIn_t, gNotIn_l, gNotIn_s, gIsN_n, gNotN_n, isN_non, isN_str, isN_int, isN_bl, isN_tup, isN_lst, isN_obj, gNeg_i, gLen_s, gLen_t, gLen_l, gAbs_i, gMax2_i, gMin2_i, gInt_i, gInt_b, gTuple_t, gTuple_l, gList_t, gList_l, gStr_i, gAll_l, gAny_l, gIx_l, gIx_t, gIx_s, gSl_l, gSl_t, gSl_s, truD_n, truD_b, truD_i, truD_s, truD_t, truD_l, view_dd, viewL_dd, vCell_l, vCell_i, view_cc, viewL_cc, viewL_scr, views_nil, wpo_views, pures_nil, pures_d, ixN_natE, ixN_lit, atI_natE, atI_lit, bools_mapE, bools_nil, bools_cons, all_idE, txts_mapE, cutL_to, cutL_toL, cutL_from, cutL_fromL, Int.zero_add, swapG, appG, ← List.map_take, ← List.map_drop, true_or, or_true, false_or, or_false, startW, putD, wipeW, wp1, wp2, wps1, List.length_cons, List.length_nil, List.map_cons, List.map_nil, List.replicate, List.cons_append, List.nil_append, List.append_assoc, List.getElem?_cons_zero, List.getElem?_cons_succ, List.set_cons_zero, List.set_cons_succ, List.take_succ_cons, List.take_zero, List.take_length, app_get, app_get0, app_set, app_set0, app_take, app_take0, List.length_append, List.length_map, gIs, isT, gEq, gNe, dok_str, dok_int, dok_bl, dok_non, dok_tup, dok_lst, eqD_str', eqD_int, inD_strs, dok_strL, List.all_cons, List.all_nil, String.reduceBEq, Bool.not_true, Bool.not_false, Bool.or_false, Bool.or_true, Bool.false_or, Bool.true_or, Bool.and_true, Bool.true_and, Bool.and_false, Bool.false_and, if_true, if_false, reduceCtorEq, Bool.false_eq_true, and_self, true_and, and_true, decide_true, decide_false, decide_eq_true_eq, Bool.not_eq_true', decide_eq_false_iff_not, Nat.zero_add, Nat.reduceAdd, Nat.reduceSub, Nat.reduceLT, Nat.reduceLeDiff, Int.reduceLT, Int.reduceLE, Int.reduceAdd, Int.reduceSub, Int.reduceMul, Int.reduceNeg, Int.reducePow, not_true_eq_false, not_false_eq_true, Nat.sub_self, Nat.lt_irrefl])

structure okL (s : Str) : Prop where
  l1 : 1 ≤ s.length
  l2 : s.length ≤ 96
  sg : ∀ c ∈ s.cps.toList, c ∈ SG.cps.toList
  nd : s.cps.toList.Nodup
theorem okL_SG : okL SG := ⟨by rw [SG_len]; decide, by rw [SG_len]; decide, fun _ h => h, SG_nodup⟩
theorem okL_1 : okL "ab" := ⟨by decide +kernel, by decide +kernel, by decide +kernel, by decide +kernel⟩
theorem okL_2 : okL "a+" := ⟨by decide +kernel, by decide +kernel, by decide +kernel, by decide +kernel⟩
theorem okL_3 : okL "ab\n" := ⟨by decide +kernel, by decide +kernel, by decide +kernel, by decide +kernel⟩
theorem okL_4 : okL "(1)" := ⟨by decide +kernel, by decide +kernel, by decide +kernel, by decide +kernel⟩
theorem okL.sub {s : Str} (h : okL s) {l : List Nat} (hl : l.Sublist s.cps.toList) (h1 : 1 ≤ l.length) : okL ⟨l.toArray⟩ := by
  have h2 := hl.length_le
  have hs : s.cps.toList.length = s.length := by simp [Str.length]
  have h3 := h.l2
  refine ⟨?_, ?_, fun c hc => h.sg c (hl.subset ?_), ?_⟩
  · show 1 ≤ l.toArray.size; simpa using h1
  · show l.toArray.size ≤ 96; simp; omega
  · simpa using hc
  · simpa using h.nd.sublist hl
theorem okL.rev {s : Str} (h : okL s) : okL (revS s) := by
  have hs : (revS s).cps.toList = s.cps.toList.reverse := by simp [revS]
  refine ⟨by rw [revS_len]; exact h.l1, by rw [revS_len]; exact h.l2, fun c hc => h.sg c ?_, ?_⟩
  · rw [hs] at hc; exact List.mem_reverse.mp hc
  · rw [hs]; exact List.pairwise_reverse.mpr (h.nd.imp fun h => Ne.symm h)
theorem okL.one {s : Str} (h : okL s) {j : Nat} (hj : j < s.cps.toList.length) : okL ⟨#[s.cps.toList[j]]⟩ :=
  h.sub (l := [s.cps.toList[j]]) (by simpa using List.getElem_mem hj) (Nat.le_refl _)
theorem okL.cut {s : Str} (h : okL s) {j : Nat} {k : Int} (hj : j < s.cps.toList.length) (hk : (j : Int) < k) : okL (cutS s (some (j : Int)) (some k)) := by
  obtain ⟨m, rfl⟩ := Int.eq_ofNat_of_zero_le (by omega : 0 ≤ k)
  have hs : s.cps.toList.length = s.length := by simp [Str.length]
  unfold cutS
  rw [HT.sIx_nat, HT.sIx_nat]
  refine h.sub ((List.take_sublist _ _).trans (List.drop_sublist _ _)) ?_
  rw [List.length_take, List.length_drop]
  omega
theorem okL.w {s : Str} (h : okL s) : okW (some s) := ⟨h.l1, h.l2, h.sg, h.nd⟩
end D49

namespace D49
open PySem L2 Dn Ft
local macro_rules | `(tactic| walk_at "vc") => `(tactic| try simp (decide := true) only [↓wp_var,List.getElem?_map, inS_oneE, inD_ints, dok_intL, pat_stands, pat_good, pat_moves, mvD_mk, wD_n, wD_s, ↓wp_lenTx, ↓kLenTx_ap, ↓wp_listRg, ↓kListRg_ap, ↓wp_revS, ↓kRevS_ap, ↓wps_asgIx, ↓kAsgIx_ap, ↓kAsgIx2_ap, ↓kAsgIx3_ap, wt2, ↓wp_tupC, ↓kTupC_ap, ↓wp_fin_t, itemsW_nil, itemsW_d, itemsW_c, frzL_nil, frzL_d, frzL_c, frzC, ↓wp_inv, ↓kInv_ap, ↓wp_star, ↓kStar_ap, ↓kStar2_ap, ↓wp_newR, ↓kNewR_ap, pures_map, gDivmod_ii, gSorted_t, intsD_map, List.drop_succ_cons, List.drop_zero, ↓wp_C, ↓wp_pr, ↓wp_lift2, ↓wp_mk, ↓wp_if, ↓wps_if0, ↓wp_aNil, ↓wp_pNone, ↓wp_yes, ↓wp_op, ↓wp_ix, ↓wp_un, ↓wp_aCons, ↓wp_call, ↓wp_tup, ↓wp_lst, ↓wp_cell, ↓wp_tOf, ↓wp_tBl, ↓wp_tCmp, ↓wp_tNot, ↓wp_tAnd, ↓wp_tOr, ↓wp_eIf, ↓wp_eNot, ↓wp_eAnd, ↓wp_eOr, ↓wp_chain, ↓wp_pSome, ↓wp_sl, ↓wp_fn, ↓wp_app, ↓wp_isCell, ↓wp_meth, ↓wp_methK, ↓wp_fnK, ↓wp_new, ↓wp_newK, ↓wp_s1, ↓wp_eTold, ↓kTold_ap, ↓kToldX_ap, ↓wps_seq, ↓wps_skip, ↓wps_brk, ↓wps_cont, ↓wps_retN, ↓wps_expr, ↓wps_ret, ↓wps_sIf, ↓wps_set, ↓wps_par, ↓wps_asg, ↓wps_raise, ↓wps_for, ↓wps_setIx, ↓wps_fld, ↓wp_runB, ↓wp_fin_d, ↓wp_fin_c, ↓wp_iOf, ↓wp_itTup, ↓wp_itLst, ↓wp_itStr, ↓wp_itScr, ↓wp_itC, ↓wp_rng1, ↓wp_rng2, ↓wp_enum, ↓wp_lc, ↓wp_lcC, ↓wp_ok, ↓wp_exc, ↓wp_none, ↓wpo_some, ↓wpo_none, ↓wpd_d, ↓wpd_c, ↓wpc_c, ↓wpi_int, ↓wpb_bl, ↓wpt_tup, ↓wpj_obj, ↓wpl_lst, ↓wpn_ins, ↓wpo_ite, ↓wpo_map, ↓wpo_bind, ↓wp_bnd, ↓wps_stm, ↓kOp2_ap, ↓kIx2_ap, ↓kCons2_ap, ↓kCmp2_ap, ↓kChain3_ap, ↓kChain2_ap, ↓kSl3_ap, ↓kSl2_ap, ↓kApp2_ap, ↓kMeth2_ap, ↓kMethK2_ap, ↓kFnK2_ap, ↓kNewK2_ap, ↓kS12_ap, ↓kOp_ap, ↓kIx_ap, ↓kUn_ap, ↓kCons_ap, ↓kCall_ap, ↓kTup_ap, ↓kLst_ap, ↓kCell_ap, ↓kTOf_ap, ↓kTBl_ap, ↓kCmp_ap, ↓kNot_ap, ↓kAnd_ap, ↓kOr_ap, ↓kEIf_ap, ↓kENot_ap, ↓kEAnd_ap, ↓kEOr_ap, ↓kChain_ap, ↓kPSome_ap, ↓kSl_ap, ↓kFn_ap, ↓kApp_ap, ↓kIsCell_ap, ↓kMeth_ap, ↓kMethK_ap, ↓kFnK_ap, ↓kNew_ap, ↓kNewK_ap, ↓kS1_ap, ↓kFin_ap, ↓kEx_ap, ↓kEnd_ap, ↓kNo_ap, ↓kX_ap, ↓kSeq_ap, ↓kExpr_ap, ↓kRet_ap, ↓kIf_ap, ↓kSet_ap, ↓kPar_ap, ↓kAsg_ap, ↓kRaise_ap, ↓kFor_ap, ↓kSetIx3_ap, ↓kSetIx2_ap, ↓kSetIx1_ap, ↓kFld2_ap, ↓kFld1_ap, ↓kI_ap, ↓kRng1_ap, ↓kRng2_ap, ↓kEnum_ap, ↓kLc_ap, ↓kLcE_ap, ↓kLcC_ap, gN, gT, gsCons, gsNil, Option.bind_some, Option.map_some, gAdd_ii, gAdd_ss, gAdd_tt, gAdd_ll, gSub_ii, gMul_ii, gDiv_ii, gMod_ii, gPow_ii, gLt_ii, gLe_ii, gGt_ii, gGe_ii, gLt_ss, gLe_ss, gIn_t, gIn_l, gIn_s, gNotIn_t, gNotIn_l, gNotIn_s, gIsN_n, gNotN_n, isN_non, isN_str, isN_int, isN_bl, isN_tup, isN_lst, isN_obj, gNeg_i, gLen_s, gLen_t, gLen_l, gAbs_i, gMax2_i, gMin2_i, gInt_i, gInt_b, gTuple_t, gTuple_l, gList_t, gList_l, gStr_i, gAll_l, gAny_l, gIx_l, gIx_t, gIx_s, gSl_l, gSl_t, gSl_s, truD_n, truD_b, truD_i, truD_s, truD_t, truD_l, view_dd, viewL_dd, vCell_l, vCell_i, view_cc, viewL_cc, viewL_scr, views_nil, wpo_views, pures_nil, pures_d, ixN_natE, ixN_lit, atI_natE, atI_lit, bools_mapE, bools_nil, bools_cons, all_idE, txts_mapE, cutL_to, cutL_toL, cutL_from, cutL_fromL, Int.zero_add, swapG, appG, ← List.map_take, ← List.map_drop, true_or, or_true, false_or, or_false, startW, putD, wipeW, wp1, wp2, wps1, List.length_cons, List.length_nil, List.map_cons, List.map_nil, List.replicate, List.cons_append, List.nil_append, List.append_assoc, List.getElem?_cons_zero, List.getElem?_cons_succ, List.set_cons_zero, List.set_cons_succ, List.take_succ_cons, List.take_zero, List.take_length, app_get, app_get0, app_set, app_set0, app_take, app_take0, List.length_append, List.length_map, gIs, isT, gEq, gNe, dok_str, dok_int, dok_bl, dok_non, dok_tup, dok_lst, eqD_str', eqD_int, inD_strs, dok_strL, List.all_cons, List.all_nil, String.reduceBEq, Bool.not_true, Bool.not_false, Bool.or_false, Bool.or_true, Bool.false_or, Bool.true_or, Bool.and_true, Bool.true_and, Bool.and_false, Bool.false_and, if_true, if_false, reduceCtorEq, Bool.false_eq_true, and_self, true_and, and_true, decide_true, decide_false, decide_eq_true_eq, Bool.not_eq_true', decide_eq_false_iff_not, Nat.zero_add, Nat.reduceAdd, Nat.reduceSub, Nat.reduceLT, Nat.reduceLeDiff, Int.reduceLT, Int.reduceLE, Int.reduceAdd, Int.reduceSub, Int.reduceMul, Int.reduceNeg, Int.reducePow, not_true_eq_false, not_false_eq_true, Nat.sub_self, Nat.lt_irrefl])
local macro_rules | `(tactic| walk_at "vcs") => `(tactic| try simp (decide := true) only [↓wp_var,List.getElem?_map, inS_oneE, inD_ints, dok_intL, pat_stands, pat_good, pat_moves, mvD_mk, wD_n, wD_s, ↓wp_lenTx, ↓kLenTx_ap, ↓wp_listRg, ↓kListRg_ap, ↓wp_revS, ↓kRevS_ap, ↓wps_asgIx, ↓kAsgIx_ap, ↓kAsgIx2_ap, ↓kAsgIx3_ap, wt2, ↓wp_tupC, ↓kTupC_ap, ↓wp_fin_t, itemsW_nil, itemsW_d, itemsW_c, frzL_nil, frzL_d, frzL_c, frzC, ↓wp_inv, ↓kInv_ap, ↓wp_star, ↓kStar_ap, ↓kStar2_ap, ↓wp_newR, ↓kNewR_ap, pures_map, gDivmod_ii, gSorted_t, intsD_map, List.drop_succ_cons, List.drop_zero, ↓wp_C, ↓wp_pr, ↓wp_lift2, ↓wp_mk, ↓wp_if, ↓wps_if0, ↓wp_aNil, ↓wp_pNone, ↓wp_yes, ↓wp_op, ↓wp_ix, ↓wp_un, ↓wp_aCons, ↓wp_call, ↓wp_tup, ↓wp_lst, ↓wp_cell, ↓wp_tOf, ↓wp_tBl, ↓wp_tCmp, ↓wp_tNot, ↓wp_tAnd, ↓wp_tOr, ↓wp_eIf, ↓wp_eNot, ↓wp_eAnd, ↓wp_eOr, ↓wp_chain, ↓wp_pSome, ↓wp_sl, ↓wp_fn, ↓wp_app, ↓wp_isCell, ↓wp_meth, ↓wp_methK, ↓wp_fnK, ↓wp_new, ↓wp_newK, ↓wp_s1, ↓wp_eTold, ↓kTold_ap, ↓kToldX_ap, ↓wps_seq, ↓wps_skip, ↓wps_brk, ↓wps_cont, ↓wps_retN, ↓wps_expr, ↓wps_ret, ↓wps_sIf, ↓wps_set, ↓wps_par, ↓wps_asg, ↓wps_raise, ↓wps_for, ↓wps_setIx, ↓wps_fld, ↓wp_runB, ↓wp_fin_d, ↓wp_fin_c, ↓wp_iOf, ↓wp_itTup, ↓wp_itLst, ↓wp_itStr, ↓wp_itScr, ↓wp_itC, ↓wp_rng1, ↓wp_rng2, ↓wp_enum, ↓wp_lc, ↓wp_lcC, ↓wp_ok, ↓wp_exc, ↓wp_none, ↓wpo_some, ↓wpo_none, ↓wpd_d, ↓wpd_c, ↓wpc_c, ↓wpi_int, ↓wpb_bl, ↓wpt_tup, ↓wpj_obj, ↓wpl_lst, ↓wpn_ins, ↓wpo_ite, ↓wpo_map, ↓wpo_bind, ↓wp_bnd, ↓wps_stm, ↓kOp2_ap, ↓kIx2_ap, ↓kCons2_ap, ↓kCmp2_ap, ↓kChain3_ap, ↓kChain2_ap, ↓kSl3_ap, ↓kSl2_ap, ↓kApp2_ap, ↓kMeth2_ap, ↓kMethK2_ap, ↓kFnK2_ap, ↓kNewK2_ap, ↓kS12_ap, ↓kOp_ap, ↓kIx_ap, ↓kUn_ap, ↓kCons_ap, ↓kCall_ap, ↓kTup_ap, ↓kLst_ap, ↓kCell_ap, ↓kTOf_ap, ↓kTBl_ap, ↓kCmp_ap, ↓kNot_ap, ↓kAnd_ap, ↓kOr_ap, ↓kEIf_ap, ↓kENot_ap, ↓kEAnd_ap, ↓kEOr_ap, ↓kChain_ap, ↓kPSome_ap, ↓kSl_ap, ↓kFn_ap, ↓kApp_ap, ↓kIsCell_ap, ↓kMeth_ap, ↓kMethK_ap, ↓kFnK_ap, ↓kNew_ap, ↓kNewK_ap, ↓kS1_ap, ↓kFin_ap, ↓kEx_ap, ↓kEnd_ap, ↓kNo_ap, ↓kX_ap, ↓kSeq_ap, ↓kExpr_ap, ↓kRet_ap, ↓kIf_ap, ↓kSet_ap, ↓kPar_ap, ↓kAsg_ap, ↓kRaise_ap, ↓kFor_ap, ↓kSetIx3_ap, ↓kSetIx2_ap, ↓kSetIx1_ap, ↓kFld2_ap, ↓kFld1_ap, ↓kI_ap, ↓kRng1_ap, ↓kRng2_ap, ↓kEnum_ap, ↓kLc_ap, ↓kLcE_ap, ↓kLcC_ap, gN, gT, gsCons, gsNil, Option.bind_some, Option.map_some, gAdd_ii, gAdd_ss, gAdd_tt, gAdd_ll, gSub_ii, gMul_ii, gDiv_ii, gMod_ii, gPow_ii, gLt_ii, gLe_ii, gGt_ii, gGe_ii, gLt_ss, gLe_ss, gIn_t, gIn_l, gIn_s, gNotIn_t, gNotIn_l, gNotIn_s, gIsN_n, gNotN_n, isN_non, isN_str, isN_int, isN_bl, isN_tup, isN_lst, isN_obj, gNeg_i, gLen_s, gLen_t, gLen_l, gAbs_i, gMax2_i, gMin2_i, gInt_i, gInt_b, gTuple_t, gTuple_l, gList_t, gList_l, gStr_i, gAll_l, gAny_l, gIx_l, gIx_t, gIx_s, gSl_l, gSl_t, gSl_s, truD_n, truD_b, truD_i, truD_s, truD_t, truD_l, view_dd, viewL_dd, vCell_l, vCell_i, view_cc, viewL_cc, viewL_scr, views_nil, wpo_views, pures_nil, pures_d, ixN_natE, ixN_lit, atI_natE, atI_lit, bools_mapE, bools_nil, bools_cons, all_idE, txts_mapE, cutL_to, cutL_toL, cutL_from, cutL_fromL, Int.zero_add, swapG, appG, ← List.map_take, ← List.map_drop, true_or, or_true, false_or, or_false, startW, putD, wipeW, wp1, wp2, wps1, List.length_cons, List.length_nil, List.map_cons, List.map_nil, List.replicate, List.cons_append, List.nil_append, List.append_assoc, List.getElem?_cons_zero, List.getElem?_cons_succ, List.set_cons_zero, List.set_cons_succ, List.take_succ_cons, List.take_zero, List.take_length, app_get, app_get0, app_set, app_set0, app_take, app_take0, List.length_append, List.length_map, gIs, isT, gEq, gNe, dok_str, dok_int, dok_bl, dok_non, dok_tup, dok_lst, eqD_str', eqD_int, inD_strs, dok_strL, List.all_cons, List.all_nil, String.reduceBEq, Bool.not_true, Bool.not_false, Bool.or_false, Bool.or_true, Bool.false_or, Bool.true_or, Bool.and_true, Bool.true_and, Bool.and_false, Bool.false_and, if_true, if_false, reduceCtorEq, Bool.false_eq_true, and_self, true_and, and_true, decide_true, decide_false, decide_eq_true_eq, Bool.not_eq_true', decide_eq_false_iff_not, Nat.zero_add, Nat.reduceAdd, Nat.reduceSub, Nat.reduceLT, Nat.reduceLeDiff, Int.reduceLT, Int.reduceLE, Int.reduceAdd, Int.reduceSub, Int.reduceMul, Int.reduceNeg, Int.reducePow, not_true_eq_false, not_false_eq_true, Nat.sub_self, Nat.lt_irrefl, *])
local macro_rules | `(tactic| walk_at "vn") => `(tactic| try simp (decide := true) only [↓wp_var,List.getElem?_map, inS_oneE, inD_ints, dok_intL, pat_stands, pat_good, pat_moves, mvD_mk, wD_n, wD_s, ↓wp_lenTx, ↓kLenTx_ap, ↓wp_listRg, ↓kListRg_ap, ↓wp_revS, ↓kRevS_ap, ↓wps_asgIx, ↓kAsgIx_ap, ↓kAsgIx2_ap, ↓kAsgIx3_ap, wt2, ↓wp_tupC, ↓kTupC_ap, ↓wp_fin_t, itemsW_nil, itemsW_d, itemsW_c, frzL_nil, frzL_d, frzL_c, frzC, ↓wp_inv, ↓kInv_ap, ↓wp_star, ↓kStar_ap, ↓kStar2_ap, ↓wp_newR, ↓kNewR_ap, pures_map, gDivmod_ii, gSorted_t, intsD_map, List.drop_succ_cons, List.drop_zero, ↓wp_C, ↓wp_pr, ↓wp_lift2, ↓wp_mk, ↓wp_if, ↓wps_if0, ↓wp_aNil, ↓wp_pNone, ↓wp_yes, ↓wp_op, ↓wp_ix, ↓wp_un, ↓wp_aCons, ↓wp_call, ↓wp_tup, ↓wp_lst, ↓wp_cell, ↓wp_tOf, ↓wp_tBl, ↓wp_tCmp, ↓wp_tNot, ↓wp_tAnd, ↓wp_tOr, ↓wp_eIf, ↓wp_eNot, ↓wp_eAnd, ↓wp_eOr, ↓wp_chain, ↓wp_pSome, ↓wp_sl, ↓wp_fn, ↓wp_app, ↓wp_isCell, ↓wp_meth, ↓wp_methK, ↓wp_fnK, ↓wp_new, ↓wp_newK, ↓wp_s1, ↓wp_eTold, ↓kTold_ap, ↓kToldX_ap, ↓wps_seq, ↓wps_skip, ↓wps_brk, ↓wps_cont, ↓wps_retN, ↓wps_expr, ↓wps_ret, ↓wps_set, ↓wps_par, ↓wps_asg, ↓wps_raise, ↓wps_for, ↓wps_setIx, ↓wps_fld, ↓wp_runB, ↓wp_fin_d, ↓wp_fin_c, ↓wp_iOf, ↓wp_itTup, ↓wp_itLst, ↓wp_itStr, ↓wp_itScr, ↓wp_itC, ↓wp_rng1, ↓wp_rng2, ↓wp_enum, ↓wp_lc, ↓wp_lcC, ↓wp_ok, ↓wp_exc, ↓wp_none, ↓wpo_some, ↓wpo_none, ↓wpd_d, ↓wpd_c, ↓wpc_c, ↓wpi_int, ↓wpb_bl, ↓wpt_tup, ↓wpj_obj, ↓wpl_lst, ↓wpn_ins, ↓wpo_ite, ↓wpo_map, ↓wpo_bind, ↓wp_bnd, ↓wps_stm, ↓kOp2_ap, ↓kIx2_ap, ↓kCons2_ap, ↓kCmp2_ap, ↓kChain3_ap, ↓kChain2_ap, ↓kSl3_ap, ↓kSl2_ap, ↓kApp2_ap, ↓kMeth2_ap, ↓kMethK2_ap, ↓kFnK2_ap, ↓kNewK2_ap, ↓kS12_ap, ↓kOp_ap, ↓kIx_ap, ↓kUn_ap, ↓kCons_ap, ↓kCall_ap, ↓kTup_ap, ↓kLst_ap, ↓kCell_ap, ↓kTOf_ap, ↓kTBl_ap, ↓kCmp_ap, ↓kNot_ap, ↓kAnd_ap, ↓kOr_ap, ↓kEIf_ap, ↓kENot_ap, ↓kEAnd_ap, ↓kEOr_ap, ↓kChain_ap, ↓kPSome_ap, ↓kSl_ap, ↓kFn_ap, ↓kApp_ap, ↓kIsCell_ap, ↓kMeth_ap, ↓kMethK_ap, ↓kFnK_ap, ↓kNew_ap, ↓kNewK_ap, ↓kS1_ap, ↓kFin_ap, ↓kEx_ap, ↓kEnd_ap, ↓kNo_ap, ↓kX_ap, ↓kSeq_ap, ↓kExpr_ap, ↓kRet_ap, ↓kIf_ap, ↓kSet_ap, ↓kPar_ap, ↓kAsg_ap, ↓kRaise_ap, ↓kFor_ap, ↓kSetIx3_ap, ↓kSetIx2_ap, ↓kSetIx1_ap, ↓kFld2_ap, ↓kFld1_ap, ↓kI_ap, ↓kRng1_ap, ↓kRng2_ap, ↓kEnum_ap, ↓kLc_ap, ↓kLcE_ap, ↓kLcC_ap, gN, gT, gsCons, gsNil, Option.bind_some, Option.map_some, gAdd_ii, gAdd_ss, gAdd_tt, gAdd_ll, gSub_ii, gMul_ii, gDiv_ii, gMod_ii, gPow_ii, gLt_ii, gLe_ii, gGt_ii, gGe_ii, gLt_ss, gLe_ss, gIn_t, gIn_l, gIn_s, gNotIn_t, gNotIn_l, gNotIn_s, gIsN_n, gNotN_n, isN_non, isN_str, isN_int, isN_bl, isN_tup, isN_lst, isN_obj, gNeg_i, gLen_s, gLen_t, gLen_l, gAbs_i, gMax2_i, gMin2_i, gInt_i, gInt_b, gTuple_t, gTuple_l, gList_t, gList_l, gStr_i, gAll_l, gAny_l, gIx_l, gIx_t, gIx_s, gSl_l, gSl_t, gSl_s, truD_n, truD_b, truD_i, truD_s, truD_t, truD_l, view_dd, viewL_dd, vCell_l, vCell_i, view_cc, viewL_cc, viewL_scr, views_nil, wpo_views, pures_nil, pures_d, ixN_natE, ixN_lit, atI_natE, atI_lit, bools_mapE, bools_nil, bools_cons, all_idE, txts_mapE, cutL_to, cutL_toL, cutL_from, cutL_fromL, Int.zero_add, swapG, appG, ← List.map_take, ← List.map_drop, true_or, or_true, false_or, or_false, startW, putD, wipeW, wp1, wp2, wps1, List.length_cons, List.length_nil, List.map_cons, List.map_nil, List.replicate, List.cons_append, List.nil_append, List.append_assoc, List.getElem?_cons_zero, List.getElem?_cons_succ, List.set_cons_zero, List.set_cons_succ, List.take_succ_cons, List.take_zero, List.take_length, app_get, app_get0, app_set, app_set0, app_take, app_take0, List.length_append, List.length_map, gIs, isT, gEq, gNe, dok_str, dok_int, dok_bl, dok_non, dok_tup, dok_lst, eqD_str', eqD_int, inD_strs, dok_strL, List.all_cons, List.all_nil, String.reduceBEq, Bool.not_true, Bool.not_false, Bool.or_false, Bool.or_true, Bool.false_or, Bool.true_or, Bool.and_true, Bool.true_and, Bool.and_false, Bool.false_and, if_true, if_false, reduceCtorEq, Bool.false_eq_true, and_self, true_and, and_true, decide_true, decide_false, decide_eq_true_eq, Bool.not_eq_true', decide_eq_false_iff_not, Nat.zero_add, Nat.reduceAdd, Nat.reduceSub, Nat.reduceLT, Nat.reduceLeDiff, Int.reduceLT, Int.reduceLE, Int.reduceAdd, Int.reduceSub, Int.reduceMul, Int.reduceNeg, Int.reducePow, not_true_eq_false, not_false_eq_true, Nat.sub_self, Nat.lt_irrefl])

def hit (c : Str) : Option Str → Bool
  | none => true
  | some s => inS c s
def stepM (i : Int) (c : Str) : List Mv → Int
  | [] => i
  | m :: ms => if m.1 = i ∧ hit c m.2.1 = true then m.2.2 else stepM i c ms
theorem stepM_cons {i : Int} {c : Str} {m : Mv} {ms : List Mv} : stepM i c (m :: ms) = if m.1 = i ∧ hit c m.2.1 = true then m.2.2 else stepM i c ms := rfl
theorem stepM_in {n i : Int} {c : Str} (h0 : 0 ≤ i ∧ i < n) : ∀ {ms : List Mv}, (∀ m ∈ ms, okMv n m) → 0 ≤ stepM i c ms ∧ stepM i c ms < n
  | [], _ => h0
  | m :: ms, h => by
    unfold stepM
    split
    · exact (h m (.head _)).b
    · exact stepM_in h0 fun m hm => h m (.tail _ hm)
def walkM (ms : List Mv) (i : Int) (cs : List Nat) : Int := cs.foldl (fun i c => stepM i ⟨#[c]⟩ ms) i
theorem walkM_in {n : Int} {ms : List Mv} (h : ∀ m ∈ ms, okMv n m) : ∀ {cs : List Nat} {i : Int}, 0 ≤ i ∧ i < n → 0 ≤ walkM ms i cs ∧ walkM ms i cs < n
  | [], _, h0 => h0
  | c :: cs, i, h0 => walkM_in h (cs := cs) (stepM_in h0 h)
theorem walkM_app {ms : List Mv} {i : Int} {a b : List Nat} : walkM ms i (a ++ b) = walkM ms (walkM ms i a) b := List.foldl_append
theorem wp_behind {n : Int} {good : List Int} {ms : List Mv} {i : Int} {c : Str} {st : Sto} {Q : W → Sto → Prop} {X : XP} (h : Q (.d (.int (stepM i c ms))) st) : wp (spec_Pattern_stand_behind [.d (patD n good ms), .d (.int i), .d (.str c)] st) Q X := by
  unfold spec_Pattern_stand_behind b_Pattern_stand_behind
  walk_at "vc"
  refine wps_forM (f := mvD) (fun us sl st' => stepM i c us = stepM i c ms ∧ ∃ a b d, sl = [some (.d (patD n good ms)), some (.d (.int i)), some (.d (.str c)), a, b, d] ∧ st' = st) ⟨rfl, _, _, _, rfl, rfl⟩ ?_ ?_
  · rintro ⟨j, w, k⟩ us sl st' ⟨e, a, b, d, rfl, rfl⟩
    walk_at "vc"
    rw [stepM_cons] at e
    cases w with
    | none =>
      walk_at "vc"
      by_cases hj : j = i
      · rw [if_pos hj]
        rw [if_pos ⟨hj, rfl⟩] at e
        rw [← e] at h
        exact h
      · rw [if_neg hj]
        rw [if_neg (fun z => hj z.1)] at e
        exact ⟨e, _, _, _, rfl⟩
    | some s =>
      walk_at "vc"
      by_cases hj : j = i
      · rw [if_pos hj]
        by_cases hs : inS c s = true
        · rw [if_pos hs]
          rw [if_pos ⟨hj, hs⟩] at e
          rw [← e] at h
          exact h
        · rw [if_neg hs]
          rw [if_neg (fun z => hs z.2)] at e
          exact ⟨e, _, _, _, rfl⟩
      · rw [if_neg hj]
        rw [if_neg (fun z => hj z.1)] at e
        exact ⟨e, _, _, _, rfl⟩
  · rintro sl st' ⟨e, a, b, d, rfl, rfl⟩
    walk_at "vc"
    rw [← e] at h
    exact h
def faceM (n : Int) (ms : List Mv) (cs : List Nat) : List Int := (rgI n).map fun i => walkM ms i cs
theorem wp_face {n : Int} {good : List Int} {ms : List Mv} {s : Str} {st : Sto} {Q : W → Sto → Prop} {X : XP} (ok : okP n good ms) (h : Q (.d (.tup ((faceM n ms s.cps.toList).map .int))) st) : wp (spec_Pattern_face [.d (patD n good ms), .d (.str s)] st) Q X := by
  unfold spec_Pattern_face b_Pattern_face
  walk_at "vc"
  have := ok.rg
  refine ⟨by omega, ?_⟩
  have e0 : rng 0 n.toNat = (faceM n ms []).map .int := by
    rw [rng_I]
    unfold faceM walkM
    simp only [List.foldl_nil, List.map_id']
  rw [signs_map, e0]
  refine wps_forM (f := fun c => D.str ⟨#[c]⟩) (fun cs sl st' => ∃ us a b, us ++ cs = s.cps.toList ∧ sl = [some (.d (patD n good ms)), some (.d (.str s)), some (.d (.lst ((faceM n ms us).map .int))), a, b] ∧ st' = st) ⟨[], _, _, rfl, rfl, rfl⟩ ?_ ?_
  · rintro c cs sl st' ⟨us, a, b, e, rfl, rfl⟩
    walk_at "vc"
    refine wp_lcM (f := D.int) (fun i => .int (stepM i ⟨#[c]⟩ ms)) trivial (fun i hi => ?_) ?_
    · walk_at "vc"
      change (_ ∧ _) ∧ _
      exact ⟨⟨rfl, rfl⟩, wp_behind ⟨rfl, rfl⟩⟩
    · walk_at "vc"
      have e2 : (faceM n ms us).map (fun i => D.int (stepM i ⟨#[c]⟩ ms)) = (faceM n ms (us ++ [c])).map D.int := by
        unfold faceM
        simp only [List.map_map]
        refine List.map_congr_left fun i _ => ?_
        simp [walkM_app, walkM]
      rw [e2]
      exact ⟨us ++ [c], _, _, by rw [← e]; simp, rfl⟩
  · rintro sl st' ⟨us, a, b, e, rfl, rfl⟩
    rw [List.append_nil] at e
    subst e
    walk_at "vc"
    exact h
theorem face_cons {n : Int} (h : 1 ≤ n) (ms : List Mv) (cs : List Nat) : ∃ xs, faceM n ms cs = walkM ms 0 cs :: xs := by
  obtain ⟨k, e⟩ := Int.eq_ofNat_of_zero_le (show 0 ≤ n - 1 by omega)
  obtain rfl : n = (k : Int) + 1 := by omega
  clear e
  unfold faceM rgI
  have e : ((k : Int) + 1).toNat = k + 1 := by omega
  rw [e, List.range_succ_eq_map, List.map_cons, List.map_cons]
  exact ⟨_, rfl⟩
theorem wp_keeps {n : Int} {good : List Int} {ms : List Mv} {s : Str} {st : Sto} {Q : W → Sto → Prop} {X : XP} (ok : okP n good ms) (h : Q (.d (.bl (decide (walkM ms 0 s.cps.toList ∈ good)))) st) : wp (spec_Pattern_keeps [.d (patD n good ms), .d (.str s)] st) Q X := by
  unfold spec_Pattern_keeps b_Pattern_keeps
  walk_at "vc"
  change (_ ∧ _) ∧ _
  refine ⟨⟨rfl, rfl⟩, wp_face ok ?_⟩
  obtain ⟨xs, e⟩ := face_cons ok.rg.1 ms s.cps.toList
  rw [e]
  walk_at "vc"
  exact h
end D49

set_option maxHeartbeats 1000000
namespace D49
open PySem L2 Dn Ft
/-! texts as lists -/
theorem cutS_tl (z : Str) (lo hi : Option Int) : (cutS z lo hi).cps.toList = cutL z.cps.toList lo hi := by
  unfold cutS cutL
  simp [Str.length]
theorem str_tl {a b : Str} : a = b ↔ a.cps.toList = b.cps.toList := by
  cases a; cases b
  simp [Array.toList_inj]
theorem tl_len (z : Str) : z.cps.toList.length = z.length := by simp [Str.length]
theorem tl_one (c : Nat) : (⟨#[c]⟩ : Str).cps.toList = [c] := rfl
theorem app_tl (x y : Str) : (x ++ y).cps.toList = x.cps.toList ++ y.cps.toList := by
  show (x.cps ++ y.cps).toList = _
  simp
theorem cutS_from {z : Str} {k : Nat} : (cutS z (some (k : Int)) none).cps.toList = z.cps.toList.drop k := by rw [cutS_tl, cutL_from]
theorem cutS_to {z : Str} {k : Nat} : (cutS z none (some (k : Int))).cps.toList = z.cps.toList.take k := by rw [cutS_tl, cutL_to]
theorem cutS_mid {z : Str} {k n : Nat} (h : k ≤ z.cps.toList.length) : (cutS z (some (k : Int)) (some ((k : Int) + (n : Int)))).cps.toList = (z.cps.toList.drop k).take n := by
  rw [cutS_tl]
  unfold cutL
  have e : (k : Int) + (n : Int) = ((k + n : Nat) : Int) := by omega
  rw [e, HT.sIx_nat, HT.sIx_nat, Nat.min_eq_left h]
  rw [List.take_eq_take_iff, List.length_drop]
  omega
/-! the numbers down -/
def dnN : Nat → List Nat
  | 0 => []
  | m + 1 => (m + 1) :: dnN m
theorem rngD_dn : ∀ n : Nat, rngD (n : Int) n = (dnN n).map fun (m : Nat) => D.int (m : Int)
  | 0 => rfl
  | n + 1 => by
    have ih := rngD_dn n
    unfold rngD at ih ⊢
    rw [List.range_succ_eq_map, List.map_cons, List.map_map, dnN, List.map_cons, ← ih]
    refine List.cons_eq_cons.mpr ⟨?_, ?_⟩
    · show D.int _ = D.int _
      congr 1
    · refine List.map_congr_left fun i _ => ?_
      show D.int _ = D.int _
      congr 1
      simp only [Nat.succ_eq_add_one]
      omega
local macro_rules | `(tactic| walk_at "vc") => `(tactic| try simp (decide := true) only [↓wp_var,↓wp_rngD, ↓kRngD_ap, wp3_is, ↓wp_lenTx, ↓kLenTx_ap, ↓wp_listRg, ↓kListRg_ap, ↓wp_revS, ↓kRevS_ap, ↓wps_asgIx, ↓kAsgIx_ap, ↓kAsgIx2_ap, ↓kAsgIx3_ap, wt2, ↓wp_tupC, ↓kTupC_ap, ↓wp_fin_t, itemsW_nil, itemsW_d, itemsW_c, frzL_nil, frzL_d, frzL_c, frzC, ↓wp_inv, ↓kInv_ap, ↓wp_star, ↓kStar_ap, ↓kStar2_ap, ↓wp_newR, ↓kNewR_ap, pures_map, gDivmod_ii, gSorted_t, intsD_map, List.drop_succ_cons, List.drop_zero, ↓wp_C, ↓wp_pr, ↓wp_lift2, ↓wp_mk, ↓wp_if, ↓wps_if0, ↓wp_aNil, ↓wp_pNone, ↓wp_yes, ↓wp_op, ↓wp_ix, ↓wp_un, ↓wp_aCons, ↓wp_call, ↓wp_tup, ↓wp_lst, ↓wp_cell, ↓wp_tOf, ↓wp_tBl, ↓wp_tCmp, ↓wp_tNot, ↓wp_tAnd, ↓wp_tOr, ↓wp_eIf, ↓wp_eNot, ↓wp_eAnd, ↓wp_eOr, ↓wp_chain, ↓wp_pSome, ↓wp_sl, ↓wp_fn, ↓wp_app, ↓wp_isCell, ↓wp_meth, ↓wp_methK, ↓wp_fnK, ↓wp_new, ↓wp_newK, ↓wp_s1, ↓wp_eTold, ↓kTold_ap, ↓kToldX_ap, ↓wps_seq, ↓wps_skip, ↓wps_brk, ↓wps_cont, ↓wps_retN, ↓wps_expr, ↓wps_ret, ↓wps_sIf, ↓wps_set, ↓wps_par, ↓wps_asg, ↓wps_raise, ↓wps_for, ↓wps_setIx, ↓wps_fld, ↓wp_runB, ↓wp_fin_d, ↓wp_fin_c, ↓wp_iOf, ↓wp_itTup, ↓wp_itLst, ↓wp_itStr, ↓wp_itScr, ↓wp_itC, ↓wp_rng1, ↓wp_rng2, ↓wp_enum, ↓wp_lc, ↓wp_lcC, ↓wp_ok, ↓wp_exc, ↓wp_none, ↓wpo_some, ↓wpo_none, ↓wpd_d, ↓wpd_c, ↓wpc_c, ↓wpi_int, ↓wpb_bl, ↓wpt_tup, ↓wpj_obj, ↓wpl_lst, ↓wpn_ins, ↓wpo_ite, ↓wpo_map, ↓wpo_bind, ↓wp_bnd, ↓wps_stm, ↓kOp2_ap, ↓kIx2_ap, ↓kCons2_ap, ↓kCmp2_ap, ↓kChain3_ap, ↓kChain2_ap, ↓kSl3_ap, ↓kSl2_ap, ↓kApp2_ap, ↓kMeth2_ap, ↓kMethK2_ap, ↓kFnK2_ap, ↓kNewK2_ap, ↓kS12_ap, ↓kOp_ap, ↓kIx_ap, ↓kUn_ap, ↓kCons_ap, ↓kCall_ap, ↓kTup_ap, ↓kLst_ap, ↓kCell_ap, ↓kTOf_ap, ↓kTBl_ap, ↓kCmp_ap, ↓kNot_ap, ↓kAnd_ap, ↓kOr_ap, ↓kEIf_ap, ↓kENot_ap, ↓kEAnd_ap, ↓kEOr_ap, ↓kChain_ap, ↓kPSome_ap, ↓kSl_ap, ↓kFn_ap, ↓kApp_ap, ↓kIsCell_ap, ↓kMeth_ap, ↓kMethK_ap, ↓kFnK_ap, ↓kNew_ap, ↓kNewK_ap, ↓kS1_ap, ↓kFin_ap, ↓kEx_ap, ↓kEnd_ap, ↓kNo_ap, ↓kX_ap, ↓kSeq_ap, ↓kExpr_ap, ↓kRet_ap, ↓kIf_ap, ↓kSet_ap, ↓kPar_ap, ↓kAsg_ap, ↓kRaise_ap, ↓kFor_ap, ↓kSetIx3_ap, ↓kSetIx2_ap, ↓kSetIx1_ap, ↓kFld2_ap, ↓kFld1_ap, ↓kI_ap, ↓kRng1_ap, ↓kRng2_ap, ↓kEnum_ap, ↓kLc_ap, ↓kLcE_ap, ↓kLcC_ap, gN, gT, gsCons, gsNil, Option.bind_some, Option.map_some, gAdd_ii, gAdd_ss, gAdd_tt, gAdd_ll, gSub_ii, gMul_ii, gDiv_ii, gMod_ii, gPow_ii, gLt_ii, gLe_ii, gGt_ii, gGe_ii, gLt_ss, gLe_ss, gIn_t, gIn_l, gIn_s, gNotIn_t, gNotIn_l, gNotIn_s, gIsN_n, gNotN_n, isN_non, isN_str, isN_int, isN_bl, isN_tup, isN_lst, isN_obj, gNeg_i, gLen_s, gLen_t, gLen_l, gAbs_i, gMax2_i, gMin2_i, gInt_i, gInt_b, gTuple_t, gTuple_l, gList_t, gList_l, gStr_i, gAll_l, gAny_l, gIx_l, gIx_t, gIx_s, gSl_l, gSl_t, gSl_s, truD_n, truD_b, truD_i, truD_s, truD_t, truD_l, view_dd, viewL_dd, vCell_l, vCell_i, view_cc, viewL_cc, viewL_scr, views_nil, wpo_views, pures_nil, pures_d, ixN_natE, ixN_lit, atI_natE, atI_lit, bools_mapE, bools_nil, bools_cons, all_idE, txts_mapE, cutL_to, cutL_toL, cutL_from, cutL_fromL, Int.zero_add, swapG, appG, ← List.map_take, ← List.map_drop, true_or, or_true, false_or, or_false, startW, putD, wipeW, wp1, wp2, wps1, List.length_cons, List.length_nil, List.map_cons, List.map_nil, List.replicate, List.cons_append, List.nil_append, List.append_assoc, List.getElem?_cons_zero, List.getElem?_cons_succ, List.set_cons_zero, List.set_cons_succ, List.take_succ_cons, List.take_zero, List.take_length, app_get, app_get0, app_set, app_set0, app_take, app_take0, List.length_append, List.length_map, gIs, isT, gEq, gNe, dok_str, dok_int, dok_bl, dok_non, dok_tup, dok_lst, eqD_str', eqD_int, inD_strs, dok_strL, List.all_cons, List.all_nil, String.reduceBEq, Bool.not_true, Bool.not_false, Bool.or_false, Bool.or_true, Bool.false_or, Bool.true_or, Bool.and_true, Bool.true_and, Bool.and_false, Bool.false_and, if_true, if_false, reduceCtorEq, Bool.false_eq_true, and_self, true_and, and_true, decide_true, decide_false, decide_eq_true_eq, Bool.not_eq_true', decide_eq_false_iff_not, Nat.zero_add, Nat.reduceAdd, Nat.reduceSub, Nat.reduceLT, Nat.reduceLeDiff, Int.reduceLT, Int.reduceLE, Int.reduceAdd, Int.reduceSub, Int.reduceMul, Int.reduceNeg, Int.reducePow, not_true_eq_false, not_false_eq_true, Nat.sub_self, Nat.lt_irrefl])
local macro_rules | `(tactic| walk_at "vcs") => `(tactic| try simp (decide := true) only [↓wp_var,↓wp_rngD, ↓kRngD_ap, wp3_is, ↓wp_lenTx, ↓kLenTx_ap, ↓wp_listRg, ↓kListRg_ap, ↓wp_revS, ↓kRevS_ap, ↓wps_asgIx, ↓kAsgIx_ap, ↓kAsgIx2_ap, ↓kAsgIx3_ap, wt2, ↓wp_tupC, ↓kTupC_ap, ↓wp_fin_t, itemsW_nil, itemsW_d, itemsW_c, frzL_nil, frzL_d, frzL_c, frzC, ↓wp_inv, ↓kInv_ap, ↓wp_star, ↓kStar_ap, ↓kStar2_ap, ↓wp_newR, ↓kNewR_ap, pures_map, gDivmod_ii, gSorted_t, intsD_map, List.drop_succ_cons, List.drop_zero, ↓wp_C, ↓wp_pr, ↓wp_lift2, ↓wp_mk, ↓wp_if, ↓wps_if0, ↓wp_aNil, ↓wp_pNone, ↓wp_yes, ↓wp_op, ↓wp_ix, ↓wp_un, ↓wp_aCons, ↓wp_call, ↓wp_tup, ↓wp_lst, ↓wp_cell, ↓wp_tOf, ↓wp_tBl, ↓wp_tCmp, ↓wp_tNot, ↓wp_tAnd, ↓wp_tOr, ↓wp_eIf, ↓wp_eNot, ↓wp_eAnd, ↓wp_eOr, ↓wp_chain, ↓wp_pSome, ↓wp_sl, ↓wp_fn, ↓wp_app, ↓wp_isCell, ↓wp_meth, ↓wp_methK, ↓wp_fnK, ↓wp_new, ↓wp_newK, ↓wp_s1, ↓wp_eTold, ↓kTold_ap, ↓kToldX_ap, ↓wps_seq, ↓wps_skip, ↓wps_brk, ↓wps_cont, ↓wps_retN, ↓wps_expr, ↓wps_ret, ↓wps_sIf, ↓wps_set, ↓wps_par, ↓wps_asg, ↓wps_raise, ↓wps_for, ↓wps_setIx, ↓wps_fld, ↓wp_runB, ↓wp_fin_d, ↓wp_fin_c, ↓wp_iOf, ↓wp_itTup, ↓wp_itLst, ↓wp_itStr, ↓wp_itScr, ↓wp_itC, ↓wp_rng1, ↓wp_rng2, ↓wp_enum, ↓wp_lc, ↓wp_lcC, ↓wp_ok, ↓wp_exc, ↓wp_none, ↓wpo_some, ↓wpo_none, ↓wpd_d, ↓wpd_c, ↓wpc_c, ↓wpi_int, ↓wpb_bl, ↓wpt_tup, ↓wpj_obj, ↓wpl_lst, ↓wpn_ins, ↓wpo_ite, ↓wpo_map, ↓wpo_bind, ↓wp_bnd, ↓wps_stm, ↓kOp2_ap, ↓kIx2_ap, ↓kCons2_ap, ↓kCmp2_ap, ↓kChain3_ap, ↓kChain2_ap, ↓kSl3_ap, ↓kSl2_ap, ↓kApp2_ap, ↓kMeth2_ap, ↓kMethK2_ap, ↓kFnK2_ap, ↓kNewK2_ap, ↓kS12_ap, ↓kOp_ap, ↓kIx_ap, ↓kUn_ap, ↓kCons_ap, ↓kCall_ap, ↓kTup_ap, ↓kLst_ap, ↓kCell_ap, ↓kTOf_ap, ↓kTBl_ap, ↓kCmp_ap, ↓kNot_ap, ↓kAnd_ap, ↓kOr_ap, ↓kEIf_ap, ↓kENot_ap, ↓kEAnd_ap, ↓kEOr_ap, ↓kChain_ap, ↓kPSome_ap, ↓kSl_ap, ↓kFn_ap, ↓kApp_ap, ↓kIsCell_ap, ↓kMeth_ap, ↓kMethK_ap, ↓kFnK_ap, ↓kNew_ap, ↓kNewK_ap, ↓kS1_ap, ↓kFin_ap, ↓kEx_ap, ↓kEnd_ap, ↓kNo_ap, ↓kX_ap, ↓kSeq_ap, ↓kExpr_ap, ↓kRet_ap, ↓kIf_ap, ↓kSet_ap, ↓kPar_ap, ↓kAsg_ap, ↓kRaise_ap, ↓kFor_ap, ↓kSetIx3_ap, ↓kSetIx2_ap, ↓kSetIx1_ap, ↓kFld2_ap, ↓kFld1_ap, ↓kI_ap, ↓kRng1_ap, ↓kRng2_ap, ↓kEnum_ap, ↓kLc_ap, ↓kLcE_ap, ↓kLcC_ap, gN, gT, gsCons, gsNil, Option.bind_some, Option.map_some, gAdd_ii, gAdd_ss, gAdd_tt, gAdd_ll, gSub_ii, gMul_ii, gDiv_ii, gMod_ii, gPow_ii, gLt_ii, gLe_ii, gGt_ii, gGe_ii, gLt_ss, gLe_ss, gIn_t, gIn_l, gIn_s, gNotIn_t, gNotIn_l, gNotIn_s, gIsN_n, gNotN_n, isN_non, isN_str, isN_int, isN_bl, isN_tup, isN_lst, isN_obj, gNeg_i, gLen_s, gLen_t, gLen_l, gAbs_i, gMax2_i, gMin2_i, gInt_i, gInt_b, gTuple_t, gTuple_l, gList_t, gList_l, gStr_i, gAll_l, gAny_l, gIx_l, gIx_t, gIx_s, gSl_l, gSl_t, gSl_s, truD_n, truD_b, truD_i, truD_s, truD_t, truD_l, view_dd, viewL_dd, vCell_l, vCell_i, view_cc, viewL_cc, viewL_scr, views_nil, wpo_views, pures_nil, pures_d, ixN_natE, ixN_lit, atI_natE, atI_lit, bools_mapE, bools_nil, bools_cons, all_idE, txts_mapE, cutL_to, cutL_toL, cutL_from, cutL_fromL, Int.zero_add, swapG, appG, ← List.map_take, ← List.map_drop, true_or, or_true, false_or, or_false, startW, putD, wipeW, wp1, wp2, wps1, List.length_cons, List.length_nil, List.map_cons, List.map_nil, List.replicate, List.cons_append, List.nil_append, List.append_assoc, List.getElem?_cons_zero, List.getElem?_cons_succ, List.set_cons_zero, List.set_cons_succ, List.take_succ_cons, List.take_zero, List.take_length, app_get, app_get0, app_set, app_set0, app_take, app_take0, List.length_append, List.length_map, gIs, isT, gEq, gNe, dok_str, dok_int, dok_bl, dok_non, dok_tup, dok_lst, eqD_str', eqD_int, inD_strs, dok_strL, List.all_cons, List.all_nil, String.reduceBEq, Bool.not_true, Bool.not_false, Bool.or_false, Bool.or_true, Bool.false_or, Bool.true_or, Bool.and_true, Bool.true_and, Bool.and_false, Bool.false_and, if_true, if_false, reduceCtorEq, Bool.false_eq_true, and_self, true_and, and_true, decide_true, decide_false, decide_eq_true_eq, Bool.not_eq_true', decide_eq_false_iff_not, Nat.zero_add, Nat.reduceAdd, Nat.reduceSub, Nat.reduceLT, Nat.reduceLeDiff, Int.reduceLT, Int.reduceLE, Int.reduceAdd, Int.reduceSub, Int.reduceMul, Int.reduceNeg, Int.reducePow, not_true_eq_false, not_false_eq_true, Nat.sub_self, Nat.lt_irrefl, *])
local macro_rules | `(tactic| walk_at "vn") => `(tactic| try simp (decide := true) only [↓wp_var,↓wp_rngD, ↓kRngD_ap, wp3_is, ↓wp_lenTx, ↓kLenTx_ap, ↓wp_listRg, ↓kListRg_ap, ↓wp_revS, ↓kRevS_ap, ↓wps_asgIx, ↓kAsgIx_ap, ↓kAsgIx2_ap, ↓kAsgIx3_ap, wt2, ↓wp_tupC, ↓kTupC_ap, ↓wp_fin_t, itemsW_nil, itemsW_d, itemsW_c, frzL_nil, frzL_d, frzL_c, frzC, ↓wp_inv, ↓kInv_ap, ↓wp_star, ↓kStar_ap, ↓kStar2_ap, ↓wp_newR, ↓kNewR_ap, pures_map, gDivmod_ii, gSorted_t, intsD_map, List.drop_succ_cons, List.drop_zero, ↓wp_C, ↓wp_pr, ↓wp_lift2, ↓wp_mk, ↓wp_if, ↓wps_if0, ↓wp_aNil, ↓wp_pNone, ↓wp_yes, ↓wp_op, ↓wp_ix, ↓wp_un, ↓wp_aCons, ↓wp_call, ↓wp_tup, ↓wp_lst, ↓wp_cell, ↓wp_tOf, ↓wp_tBl, ↓wp_tCmp, ↓wp_tNot, ↓wp_tAnd, ↓wp_tOr, ↓wp_eIf, ↓wp_eNot, ↓wp_eAnd, ↓wp_eOr, ↓wp_chain, ↓wp_pSome, ↓wp_sl, ↓wp_fn, ↓wp_app, ↓wp_isCell, ↓wp_meth, ↓wp_methK, ↓wp_fnK, ↓wp_new, ↓wp_newK, ↓wp_s1, ↓wp_eTold, ↓kTold_ap, ↓kToldX_ap, ↓wps_seq, ↓wps_skip, ↓wps_brk, ↓wps_cont, ↓wps_retN, ↓wps_expr, ↓wps_ret, ↓wps_set, ↓wps_par, ↓wps_asg, ↓wps_raise, ↓wps_for, ↓wps_setIx, ↓wps_fld, ↓wp_runB, ↓wp_fin_d, ↓wp_fin_c, ↓wp_iOf, ↓wp_itTup, ↓wp_itLst, ↓wp_itStr, ↓wp_itScr, ↓wp_itC, ↓wp_rng1, ↓wp_rng2, ↓wp_enum, ↓wp_lc, ↓wp_lcC, ↓wp_ok, ↓wp_exc, ↓wp_none, ↓wpo_some, ↓wpo_none, ↓wpd_d, ↓wpd_c, ↓wpc_c, ↓wpi_int, ↓wpb_bl, ↓wpt_tup, ↓wpj_obj, ↓wpl_lst, ↓wpn_ins, ↓wpo_ite, ↓wpo_map, ↓wpo_bind, ↓wp_bnd, ↓wps_stm, ↓kOp2_ap, ↓kIx2_ap, ↓kCons2_ap, ↓kCmp2_ap, ↓kChain3_ap, ↓kChain2_ap, ↓kSl3_ap, ↓kSl2_ap, ↓kApp2_ap, ↓kMeth2_ap, ↓kMethK2_ap, ↓kFnK2_ap, ↓kNewK2_ap, ↓kS12_ap, ↓kOp_ap, ↓kIx_ap, ↓kUn_ap, ↓kCons_ap, ↓kCall_ap, ↓kTup_ap, ↓kLst_ap, ↓kCell_ap, ↓kTOf_ap, ↓kTBl_ap, ↓kCmp_ap, ↓kNot_ap, ↓kAnd_ap, ↓kOr_ap, ↓kEIf_ap, ↓kENot_ap, ↓kEAnd_ap, ↓kEOr_ap, ↓kChain_ap, ↓kPSome_ap, ↓kSl_ap, ↓kFn_ap, ↓kApp_ap, ↓kIsCell_ap, ↓kMeth_ap, ↓kMethK_ap, ↓kFnK_ap, ↓kNew_ap, ↓kNewK_ap, ↓kS1_ap, ↓kFin_ap, ↓kEx_ap, ↓kEnd_ap, ↓kNo_ap, ↓kX_ap, ↓kSeq_ap, ↓kExpr_ap, ↓kRet_ap, ↓kIf_ap, ↓kSet_ap, ↓kPar_ap, ↓kAsg_ap, ↓kRaise_ap, ↓kFor_ap, ↓kSetIx3_ap, ↓kSetIx2_ap, ↓kSetIx1_ap, ↓kFld2_ap, ↓kFld1_ap, ↓kI_ap, ↓kRng1_ap, ↓kRng2_ap, ↓kEnum_ap, ↓kLc_ap, ↓kLcE_ap, ↓kLcC_ap, gN, gT, gsCons, gsNil, Option.bind_some, Option.map_some, gAdd_ii, gAdd_ss, gAdd_tt, gAdd_ll, gSub_ii, gMul_ii, gDiv_ii, gMod_ii, gPow_ii, gLt_ii, gLe_ii, gGt_ii, gGe_ii, gLt_ss, gLe_ss, gIn_t, gIn_l, gIn_s, gNotIn_t, gNotIn_l, gNotIn_s, gIsN_n, gNotN_n, isN_non, isN_str, isN_int, isN_bl, isN_tup, isN_lst, isN_obj, gNeg_i, gLen_s, gLen_t, gLen_l, gAbs_i, gMax2_i, gMin2_i, gInt_i, gInt_b, gTuple_t, gTuple_l, gList_t, gList_l, gStr_i, gAll_l, gAny_l, gIx_l, gIx_t, gIx_s, gSl_l, gSl_t, gSl_s, truD_n, truD_b, truD_i, truD_s, truD_t, truD_l, view_dd, viewL_dd, vCell_l, vCell_i, view_cc, viewL_cc, viewL_scr, views_nil, wpo_views, pures_nil, pures_d, ixN_natE, ixN_lit, atI_natE, atI_lit, bools_mapE, bools_nil, bools_cons, all_idE, txts_mapE, cutL_to, cutL_toL, cutL_from, cutL_fromL, Int.zero_add, swapG, appG, ← List.map_take, ← List.map_drop, true_or, or_true, false_or, or_false, startW, putD, wipeW, wp1, wp2, wps1, List.length_cons, List.length_nil, List.map_cons, List.map_nil, List.replicate, List.cons_append, List.nil_append, List.append_assoc, List.getElem?_cons_zero, List.getElem?_cons_succ, List.set_cons_zero, List.set_cons_succ, List.take_succ_cons, List.take_zero, List.take_length, app_get, app_get0, app_set, app_set0, app_take, app_take0, List.length_append, List.length_map, gIs, isT, gEq, gNe, dok_str, dok_int, dok_bl, dok_non, dok_tup, dok_lst, eqD_str', eqD_int, inD_strs, dok_strL, List.all_cons, List.all_nil, String.reduceBEq, Bool.not_true, Bool.not_false, Bool.or_false, Bool.or_true, Bool.false_or, Bool.true_or, Bool.and_true, Bool.true_and, Bool.and_false, Bool.false_and, if_true, if_false, reduceCtorEq, Bool.false_eq_true, and_self, true_and, and_true, decide_true, decide_false, decide_eq_true_eq, Bool.not_eq_true', decide_eq_false_iff_not, Nat.zero_add, Nat.reduceAdd, Nat.reduceSub, Nat.reduceLT, Nat.reduceLeDiff, Int.reduceLT, Int.reduceLE, Int.reduceAdd, Int.reduceSub, Int.reduceMul, Int.reduceNeg, Int.reducePow, not_true_eq_false, not_false_eq_true, Nat.sub_self, Nat.lt_irrefl])

theorem wp_overlap {t g : Str} {st : Sto} {Q : W → Sto → Prop} {X : XP} (hg : g.length ≤ 1000) (h : Q (.d (.int (ovl t.cps.toList g.cps.toList g.length : Nat))) st) : wp (spec_overlap_of [.d (.str t), .d (.str g)] st) Q X := by
  unfold spec_overlap_of b_overlap_of
  walk_at "vc"
  refine ⟨by omega, ?_⟩
  rw [show ((g.length : Int) - 0).toNat = g.length by omega, rngD_dn]
  refine wps_forM (fun us sl st' => ∃ m a, us = dnN m ∧ m ≤ g.length ∧ ovl t.cps.toList g.cps.toList g.length = ovl t.cps.toList g.cps.toList m ∧ sl = [some (.d (.str t)), some (.d (.str g)), a] ∧ st' = st) ⟨_, _, rfl, Nat.le_refl _, rfl, rfl, rfl⟩ ?_ ?_
  · rintro i us sl st' ⟨m, a, e, hm, eo, rfl, rfl⟩
    cases m with
    | zero => cases e
    | succ m =>
      cases e
      walk_at "vc"
      have ec : (g.length : Int) - ((m + 1 : Nat) : Int) = ((g.length - (m + 1) : Nat) : Int) := by omega
      rw [ec]
      have iff : (cutS g (some ((g.length - (m + 1) : Nat) : Int)) none = cutS t none (some ((m + 1 : Nat) : Int))) ↔ g.cps.toList.drop (g.cps.toList.length - (m + 1)) = t.cps.toList.take (m + 1) := by
        rw [str_tl, cutS_from, cutS_to, ← tl_len]
      by_cases c : g.cps.toList.drop (g.cps.toList.length - (m + 1)) = t.cps.toList.take (m + 1)
      · rw [if_pos (iff.mpr c)]
        rw [eo, ovl, if_pos c] at h
        exact h
      · rw [if_neg (fun z => c (iff.mp z))]
        exact ⟨m, _, rfl, by omega, by rw [eo, ovl, if_neg c], rfl⟩
  · rintro sl st' ⟨m, a, e, hm, eo, rfl, rfl⟩
    cases m with
    | succ m => cases e
    | zero =>
      walk_at "vc"
      rw [eo, ovl] at h
      exact h
end D49

set_option maxHeartbeats 1000000
namespace D49
open PySem L2 Dn Ft
/-! the moves of the pattern that keeps what has no given text in it -/
theorem nodup_len : ∀ {l m : List Nat}, l.Nodup → (∀ x ∈ l, x ∈ m) → l.length ≤ m.length
  | [], m, _, _ => Nat.zero_le _
  | a :: l, m, hn, hs => by
    rw [List.nodup_cons] at hn
    have ha := hs a (.head _)
    have := nodup_len (l := l) (m := m.erase a) hn.2 fun x hx => by
      have hxa : x ≠ a := fun e => hn.1 (e ▸ hx)
      exact (List.mem_erase_of_ne hxa).mpr (hs x (.tail _ hx))
    rw [List.length_erase_of_mem ha] at this
    have := List.length_pos_of_mem ha
    simp only [List.length_cons]
    omega
theorem sgn_in {y : Str} (hy : ∀ c ∈ y.cps.toList, c < 128) {c : Nat} : c ∈ sgn y ↔ c ∈ y.cps.toList := by
  unfold sgn
  rw [List.mem_filter, List.mem_range, decide_eq_true_eq]
  exact ⟨fun h => h.2, fun h => ⟨hy c h, h⟩⟩
theorem sgn_le {y : Str} : (sgn y).length ≤ y.length := by
  rw [← tl_len]
  refine nodup_len ?_ ?_
  · unfold sgn
    exact List.nodup_range.filter _
  · intro x hx
    unfold sgn at hx
    exact of_decide_eq_true (List.mem_filter.mp hx).2
def mv1 (y : Str) (s c : Nat) : Mv := ((s : Int), some ⟨#[c]⟩, (ovl y.cps.toList (y.cps.toList.take s ++ [c]) (s + 1) : Nat))
def blk (y : Str) (s : Nat) : List Mv := (sgn y).map (mv1 y s) ++ [((s : Int), none, 0)]
def blks (y : Str) (ss : List Nat) : List Mv := ss.flatMap (blk y)
theorem blk_len (y : Str) (s : Nat) : (blk y s).length = (sgn y).length + 1 := by
  unfold blk
  simp
theorem blks_len (y : Str) : ∀ ss : List Nat, (blks y ss).length = ss.length * ((sgn y).length + 1)
  | [] => by simp [blks]
  | s :: ss => by
    have ih := blks_len y ss
    unfold blks at ih ⊢
    rw [List.flatMap_cons, List.length_append, ih, blk_len, List.length_cons, Nat.succ_mul]
    omega
theorem blks_app (y : Str) (a b : List Nat) : blks y (a ++ b) = blks y a ++ blks y b := by
  unfold blks
  exact List.flatMap_append
theorem hit_one (c d : Nat) : hit ⟨#[c]⟩ (some ⟨#[d]⟩) = decide (c = d) := by
  show inS _ _ = _
  rw [inS_oneE]
  simp
theorem step_blk {y : Str} {s c : Nat} {rest : List Mv} : ∀ cs : List Nat, stepM (s : Int) ⟨#[c]⟩ (cs.map (mv1 y s) ++ ((s : Int), none, 0) :: rest) = if c ∈ cs then ((ovl y.cps.toList (y.cps.toList.take s ++ [c]) (s + 1) : Nat) : Int) else 0
  | [] => by
    rw [List.map_nil, List.nil_append, stepM_cons, if_pos ⟨rfl, rfl⟩]
    simp
  | d :: cs => by
    rw [List.map_cons, List.cons_append, stepM_cons, step_blk cs]
    unfold mv1
    simp only [hit_one, decide_eq_true_eq, true_and, List.mem_cons]
    by_cases e : c = d
    · subst e; simp
    · simp [e]
theorem step_skip {y : Str} {s t : Nat} {c : Str} {rest : List Mv} (h : t ≠ s) : stepM (s : Int) c (blk y t ++ rest) = stepM (s : Int) c rest := by
  unfold blk
  induction sgn y with
  | nil =>
    rw [List.map_nil, List.nil_append, List.cons_append, List.nil_append, stepM_cons, if_neg]
    rintro ⟨e, _⟩
    simp only at e
    omega
  | cons d ds ih =>
    rw [List.map_cons, List.cons_append, List.cons_append, stepM_cons, ih, if_neg]
    rintro ⟨e, _⟩
    unfold mv1 at e
    simp only at e
    omega
theorem step_blks {y : Str} (hy : ∀ c ∈ y.cps.toList, c < 128) {s c : Nat} : ∀ ss : List Nat, stepM (s : Int) ⟨#[c]⟩ (blks y ss) = if s ∈ ss then ((if c ∈ y.cps.toList then ovl y.cps.toList (y.cps.toList.take s ++ [c]) (s + 1) else 0 : Nat) : Int) else s
  | [] => by simp [blks, stepM]
  | t :: ss => by
    have ih := step_blks hy (s := s) (c := c) ss
    have e1 : blks y (t :: ss) = blk y t ++ blks y ss := by
      unfold blks
      rw [List.flatMap_cons]
    rw [e1]
    by_cases h : t = s
    · subst h
      rw [if_pos (.head _)]
      unfold blk
      rw [List.append_assoc, List.cons_append, List.nil_append, step_blk]
      simp only [sgn_in hy]
      split <;> rfl
    · rw [step_skip h, ih]
      simp [Ne.symm h]
def movesOf (y : Str) : List Mv := blks y (List.range y.length)
theorem step_delta {y : Str} (hy : ∀ c ∈ y.cps.toList, c < 128) {s c : Nat} (hs : s ≤ y.length) : stepM (s : Int) ⟨#[c]⟩ (movesOf y) = (delta y.cps.toList s c : Nat) := by
  unfold movesOf
  rw [step_blks hy]
  unfold delta
  rw [tl_len]
  by_cases e : s = y.length
  · subst e
    rw [if_neg (by simp), if_pos rfl]
  · rw [if_pos (List.mem_range.mpr (by omega)), if_neg e]
theorem walk_delta {y : Str} (hy : ∀ c ∈ y.cps.toList, c < 128) : ∀ (cs : List Nat) (s : Nat), s ≤ y.length → (∀ s c, s ≤ y.length → delta y.cps.toList s c ≤ y.length) → walkM (movesOf y) (s : Int) cs = (cs.foldl (delta y.cps.toList) s : Nat)
  | [], s, _, _ => rfl
  | c :: cs, s, hs, hd => by
    have := walk_delta hy cs (delta y.cps.toList s c) (hd s c hs) hd
    unfold walkM at this ⊢
    rw [List.foldl_cons, List.foldl_cons, step_delta hy hs]
    exact this
theorem delta_le {y : Str} {s c : Nat} (hs : s ≤ y.length) : delta y.cps.toList s c ≤ y.length := by
  unfold delta
  rw [tl_len]
  split
  · exact hs
  · split
    · have hl : (y.cps.toList.take s).length = s := by rw [List.length_take, tl_len]; omega
      have := (ovl_spec (t := y.cps.toList) (g := y.cps.toList.take s ++ [c]) (by rw [List.length_append, hl, tl_len, List.length_singleton]; omega) (s + 1) (by rw [List.length_append, hl, List.length_singleton]; omega)).1
      omega
    · omega
theorem keeps_is {y w : Str} (hy : ∀ c ∈ y.cps.toList, c < 128) (h1 : 1 ≤ y.length) : decide (walkM (movesOf y) 0 w.cps.toList ∈ rgI y.length) = !decide (y.cps.toList <:+: w.cps.toList) := by
  have e := walk_delta hy w.cps.toList 0 (Nat.zero_le _) fun _ _ => delta_le
  have hne : y.cps.toList ≠ [] := fun z => by
    have := congrArg List.length z
    rw [tl_len] at this
    simp at this
    omega
  obtain ⟨r1, r2⟩ := run_is (t := y.cps.toList) (cs := w.cps.toList) hne
  rw [tl_len] at r1 r2
  rw [show (0 : Int) = ((0 : Nat) : Int) from rfl, e]
  have : (((w.cps.toList.foldl (delta y.cps.toList) 0 : Nat) : Int) ∈ rgI y.length) ↔ ¬ (y.cps.toList <:+: w.cps.toList) := by
    rw [← r1]
    constructor
    · intro h
      have := rgI_in h
      omega
    · intro h
      exact rgI_get (by omega)
  by_cases c : y.cps.toList <:+: w.cps.toList
  · rw [decide_eq_true c, decide_eq_false (fun z => this.mp z c)]; rfl
  · rw [decide_eq_false c, decide_eq_true (this.mpr c)]; rfl
/-- is the text in it? -/
theorem infix_ix {y w : List Nat} (h : y ≠ []) : y <:+: w ↔ ∃ i, i < w.length ∧ (w.drop i).take y.length = y := by
  constructor
  · rintro ⟨a, b, e⟩
    refine ⟨a.length, ?_, ?_⟩
    · have := congrArg List.length e
      have := List.length_pos_iff.mpr h
      simp only [List.length_append] at *
      omega
    · rw [← e, List.append_assoc, List.drop_left, List.take_left]
  · rintro ⟨i, _, e⟩
    have e2 : w.take i ++ ((w.drop i).take y.length ++ (w.drop i).drop y.length) = w := by rw [List.take_append_drop, List.take_append_drop]
    rw [e] at e2
    exact ⟨w.take i, (w.drop i).drop y.length, by rw [List.append_assoc]; exact e2⟩
end D49

set_option maxHeartbeats 1000000
namespace D49
open PySem L2 Dn Ft
theorem rng_N (n : Nat) : rng 0 n = (List.range n).map fun (k : Nat) => D.int (k : Int) := by
  unfold rng
  refine List.map_congr_left fun k _ => ?_
  show D.int (0 + (k : Int)) = D.int k
  rw [Int.zero_add]
local macro_rules | `(tactic| walk_at "vc") => `(tactic| try simp (decide := true) only [↓wp_var,List.getElem?_map, inS_oneE, inD_ints, dok_intL, pat_stands, pat_good, pat_moves, mvD_mk, wD_n, wD_s, gSortTx_s, ↓wp_starL, ↓kStarL_ap, wpdl_l, ↓wp_tupRg, ↓kTupRg_ap, ↓wp_lenTx, ↓kLenTx_ap, ↓wp_listRg, ↓kListRg_ap, ↓wp_revS, ↓kRevS_ap, ↓wps_asgIx, ↓kAsgIx_ap, ↓kAsgIx2_ap, ↓kAsgIx3_ap, wt2, ↓wp_tupC, ↓kTupC_ap, ↓wp_fin_t, itemsW_nil, itemsW_d, itemsW_c, frzL_nil, frzL_d, frzL_c, frzC, ↓wp_inv, ↓kInv_ap, ↓wp_star, ↓kStar_ap, ↓kStar2_ap, ↓wp_newR, ↓kNewR_ap, pures_map, gDivmod_ii, gSorted_t, intsD_map, List.drop_succ_cons, List.drop_zero, ↓wp_C, ↓wp_pr, ↓wp_lift2, ↓wp_mk, ↓wp_if, ↓wps_if0, ↓wp_aNil, ↓wp_pNone, ↓wp_yes, ↓wp_op, ↓wp_ix, ↓wp_un, ↓wp_aCons, ↓wp_call, ↓wp_tup, ↓wp_lst, ↓wp_cell, ↓wp_tOf, ↓wp_tBl, ↓wp_tCmp, ↓wp_tNot, ↓wp_tAnd, ↓wp_tOr, ↓wp_eIf, ↓wp_eNot, ↓wp_eAnd, ↓wp_eOr, ↓wp_chain, ↓wp_pSome, ↓wp_sl, ↓wp_fn, ↓wp_app, ↓wp_isCell, ↓wp_meth, ↓wp_methK, ↓wp_fnK, ↓wp_new, ↓wp_newK, ↓wp_s1, ↓wp_eTold, ↓kTold_ap, ↓kToldX_ap, ↓wps_seq, ↓wps_skip, ↓wps_brk, ↓wps_cont, ↓wps_retN, ↓wps_expr, ↓wps_ret, ↓wps_sIf, ↓wps_set, ↓wps_par, ↓wps_asg, ↓wps_raise, ↓wps_for, ↓wps_setIx, ↓wps_fld, ↓wp_runB, ↓wp_fin_d, ↓wp_fin_c, ↓wp_iOf, ↓wp_itTup, ↓wp_itLst, ↓wp_itStr, ↓wp_itScr, ↓wp_itC, ↓wp_rng1, ↓wp_rng2, ↓wp_enum, ↓wp_lc, ↓wp_lcC, ↓wp_ok, ↓wp_exc, ↓wp_none, ↓wpo_some, ↓wpo_none, ↓wpd_d, ↓wpd_c, ↓wpc_c, ↓wpi_int, ↓wpb_bl, ↓wpt_tup, ↓wpj_obj, ↓wpl_lst, ↓wpn_ins, ↓wpo_ite, ↓wpo_map, ↓wpo_bind, ↓wp_bnd, ↓wps_stm, ↓kOp2_ap, ↓kIx2_ap, ↓kCons2_ap, ↓kCmp2_ap, ↓kChain3_ap, ↓kChain2_ap, ↓kSl3_ap, ↓kSl2_ap, ↓kApp2_ap, ↓kMeth2_ap, ↓kMethK2_ap, ↓kFnK2_ap, ↓kNewK2_ap, ↓kS12_ap, ↓kOp_ap, ↓kIx_ap, ↓kUn_ap, ↓kCons_ap, ↓kCall_ap, ↓kTup_ap, ↓kLst_ap, ↓kCell_ap, ↓kTOf_ap, ↓kTBl_ap, ↓kCmp_ap, ↓kNot_ap, ↓kAnd_ap, ↓kOr_ap, ↓kEIf_ap, ↓kENot_ap, ↓kEAnd_ap, ↓kEOr_ap, ↓kChain_ap, ↓kPSome_ap, ↓kSl_ap, ↓kFn_ap, ↓kApp_ap, ↓kIsCell_ap, ↓kMeth_ap, ↓kMethK_ap, ↓kFnK_ap, ↓kNew_ap, ↓kNewK_ap, ↓kS1_ap, ↓kFin_ap, ↓kEx_ap, ↓kEnd_ap, ↓kNo_ap, ↓kX_ap, ↓kSeq_ap, ↓kExpr_ap, ↓kRet_ap, ↓kIf_ap, ↓kSet_ap, ↓kPar_ap, ↓kAsg_ap, ↓kRaise_ap, ↓kFor_ap, ↓kSetIx3_ap, ↓kSetIx2_ap, ↓kSetIx1_ap, ↓kFld2_ap, ↓kFld1_ap, ↓kI_ap, ↓kRng1_ap, ↓kRng2_ap, ↓kEnum_ap, ↓kLc_ap, ↓kLcE_ap, ↓kLcC_ap, gN, gT, gsCons, gsNil, Option.bind_some, Option.map_some, gAdd_ii, gAdd_ss, gAdd_tt, gAdd_ll, gSub_ii, gMul_ii, gDiv_ii, gMod_ii, gPow_ii, gLt_ii, gLe_ii, gGt_ii, gGe_ii, gLt_ss, gLe_ss, gIn_t, gIn_l, gIn_s, gNotIn_t, gNotIn_l, gNotIn_s, gIsN_n, gNotN_n, isN_non, isN_str, isN_int, isN_bl, isN_tup, isN_lst, isN_obj, gNeg_i, gLen_s, gLen_t, gLen_l, gAbs_i, gMax2_i, gMin2_i, gInt_i, gInt_b, gTuple_t, gTuple_l, gList_t, gList_l, gStr_i, gAll_l, gAny_l, gIx_l, gIx_t, gIx_s, gSl_l, gSl_t, gSl_s, truD_n, truD_b, truD_i, truD_s, truD_t, truD_l, view_dd, viewL_dd, vCell_l, vCell_i, view_cc, viewL_cc, viewL_scr, views_nil, wpo_views, pures_nil, pures_d, ixN_natE, ixN_lit, atI_natE, atI_lit, bools_mapE, bools_nil, bools_cons, all_idE, txts_mapE, cutL_to, cutL_toL, cutL_from, cutL_fromL, Int.zero_add, swapG, appG, ← List.map_take, ← List.map_drop, true_or, or_true, false_or, or_false, startW, putD, wipeW, wp1, wp2, wps1, List.length_cons, List.length_nil, List.map_cons, List.map_nil, List.replicate, List.cons_append, List.nil_append, List.append_assoc, List.getElem?_cons_zero, List.getElem?_cons_succ, List.set_cons_zero, List.set_cons_succ, List.take_succ_cons, List.take_zero, List.take_length, app_get, app_get0, app_set, app_set0, app_take, app_take0, List.length_append, List.length_map, gIs, isT, gEq, gNe, dok_str, dok_int, dok_bl, dok_non, dok_tup, dok_lst, eqD_str', eqD_int, inD_strs, dok_strL, List.all_cons, List.all_nil, String.reduceBEq, Bool.not_true, Bool.not_false, Bool.or_false, Bool.or_true, Bool.false_or, Bool.true_or, Bool.and_true, Bool.true_and, Bool.and_false, Bool.false_and, if_true, if_false, reduceCtorEq, Bool.false_eq_true, and_self, true_and, and_true, decide_true, decide_false, decide_eq_true_eq, Bool.not_eq_true', decide_eq_false_iff_not, Nat.zero_add, Nat.reduceAdd, Nat.reduceSub, Nat.reduceLT, Nat.reduceLeDiff, Int.reduceLT, Int.reduceLE, Int.reduceAdd, Int.reduceSub, Int.reduceMul, Int.reduceNeg, Int.reducePow, not_true_eq_false, not_false_eq_true, Nat.sub_self, Nat.lt_irrefl])
local macro_rules | `(tactic| walk_at "vcs") => `(tactic| try simp (decide := true) only [↓wp_var,List.getElem?_map, inS_oneE, inD_ints, dok_intL, pat_stands, pat_good, pat_moves, mvD_mk, wD_n, wD_s, gSortTx_s, ↓wp_starL, ↓kStarL_ap, wpdl_l, ↓wp_tupRg, ↓kTupRg_ap, ↓wp_lenTx, ↓kLenTx_ap, ↓wp_listRg, ↓kListRg_ap, ↓wp_revS, ↓kRevS_ap, ↓wps_asgIx, ↓kAsgIx_ap, ↓kAsgIx2_ap, ↓kAsgIx3_ap, wt2, ↓wp_tupC, ↓kTupC_ap, ↓wp_fin_t, itemsW_nil, itemsW_d, itemsW_c, frzL_nil, frzL_d, frzL_c, frzC, ↓wp_inv, ↓kInv_ap, ↓wp_star, ↓kStar_ap, ↓kStar2_ap, ↓wp_newR, ↓kNewR_ap, pures_map, gDivmod_ii, gSorted_t, intsD_map, List.drop_succ_cons, List.drop_zero, ↓wp_C, ↓wp_pr, ↓wp_lift2, ↓wp_mk, ↓wp_if, ↓wps_if0, ↓wp_aNil, ↓wp_pNone, ↓wp_yes, ↓wp_op, ↓wp_ix, ↓wp_un, ↓wp_aCons, ↓wp_call, ↓wp_tup, ↓wp_lst, ↓wp_cell, ↓wp_tOf, ↓wp_tBl, ↓wp_tCmp, ↓wp_tNot, ↓wp_tAnd, ↓wp_tOr, ↓wp_eIf, ↓wp_eNot, ↓wp_eAnd, ↓wp_eOr, ↓wp_chain, ↓wp_pSome, ↓wp_sl, ↓wp_fn, ↓wp_app, ↓wp_isCell, ↓wp_meth, ↓wp_methK, ↓wp_fnK, ↓wp_new, ↓wp_newK, ↓wp_s1, ↓wp_eTold, ↓kTold_ap, ↓kToldX_ap, ↓wps_seq, ↓wps_skip, ↓wps_brk, ↓wps_cont, ↓wps_retN, ↓wps_expr, ↓wps_ret, ↓wps_sIf, ↓wps_set, ↓wps_par, ↓wps_asg, ↓wps_raise, ↓wps_for, ↓wps_setIx, ↓wps_fld, ↓wp_runB, ↓wp_fin_d, ↓wp_fin_c, ↓wp_iOf, ↓wp_itTup, ↓wp_itLst, ↓wp_itStr, ↓wp_itScr, ↓wp_itC, ↓wp_rng1, ↓wp_rng2, ↓wp_enum, ↓wp_lc, ↓wp_lcC, ↓wp_ok, ↓wp_exc, ↓wp_none, ↓wpo_some, ↓wpo_none, ↓wpd_d, ↓wpd_c, ↓wpc_c, ↓wpi_int, ↓wpb_bl, ↓wpt_tup, ↓wpj_obj, ↓wpl_lst, ↓wpn_ins, ↓wpo_ite, ↓wpo_map, ↓wpo_bind, ↓wp_bnd, ↓wps_stm, ↓kOp2_ap, ↓kIx2_ap, ↓kCons2_ap, ↓kCmp2_ap, ↓kChain3_ap, ↓kChain2_ap, ↓kSl3_ap, ↓kSl2_ap, ↓kApp2_ap, ↓kMeth2_ap, ↓kMethK2_ap, ↓kFnK2_ap, ↓kNewK2_ap, ↓kS12_ap, ↓kOp_ap, ↓kIx_ap, ↓kUn_ap, ↓kCons_ap, ↓kCall_ap, ↓kTup_ap, ↓kLst_ap, ↓kCell_ap, ↓kTOf_ap, ↓kTBl_ap, ↓kCmp_ap, ↓kNot_ap, ↓kAnd_ap, ↓kOr_ap, ↓kEIf_ap, ↓kENot_ap, ↓kEAnd_ap, ↓kEOr_ap, ↓kChain_ap, ↓kPSome_ap, ↓kSl_ap, ↓kFn_ap, ↓kApp_ap, ↓kIsCell_ap, ↓kMeth_ap, ↓kMethK_ap, ↓kFnK_ap, ↓kNew_ap, ↓kNewK_ap, ↓kS1_ap, ↓kFin_ap, ↓kEx_ap, ↓kEnd_ap, ↓kNo_ap, ↓kX_ap, ↓kSeq_ap, ↓kExpr_ap, ↓kRet_ap, ↓kIf_ap, ↓kSet_ap, ↓kPar_ap, ↓kAsg_ap, ↓kRaise_ap, ↓kFor_ap, ↓kSetIx3_ap, ↓kSetIx2_ap, ↓kSetIx1_ap, ↓kFld2_ap, ↓kFld1_ap, ↓kI_ap, ↓kRng1_ap, ↓kRng2_ap, ↓kEnum_ap, ↓kLc_ap, ↓kLcE_ap, ↓kLcC_ap, gN, gT, gsCons, gsNil, Option.bind_some, Option.map_some, gAdd_ii, gAdd_ss, gAdd_tt, gAdd_ll, gSub_ii, gMul_ii, gDiv_ii, gMod_ii, gPow_ii, gLt_ii, gLe_ii, gGt_ii, gGe_ii, gLt_ss, gLe_ss, gIn_t, gIn_l, gIn_s, gNotIn_t, gNotIn_l, gNotIn_s, gIsN_n, gNotN_n, isN_non, isN_str, isN_int, isN_bl, isN_tup, isN_lst, isN_obj, gNeg_i, gLen_s, gLen_t, gLen_l, gAbs_i, gMax2_i, gMin2_i, gInt_i, gInt_b, gTuple_t, gTuple_l, gList_t, gList_l, gStr_i, gAll_l, gAny_l, gIx_l, gIx_t, gIx_s, gSl_l, gSl_t, gSl_s, truD_n, truD_b, truD_i, truD_s, truD_t, truD_l, view_dd, viewL_dd, vCell_l, vCell_i, view_cc, viewL_cc, viewL_scr, views_nil, wpo_views, pures_nil, pures_d, ixN_natE, ixN_lit, atI_natE, atI_lit, bools_mapE, bools_nil, bools_cons, all_idE, txts_mapE, cutL_to, cutL_toL, cutL_from, cutL_fromL, Int.zero_add, swapG, appG, ← List.map_take, ← List.map_drop, true_or, or_true, false_or, or_false, startW, putD, wipeW, wp1, wp2, wps1, List.length_cons, List.length_nil, List.map_cons, List.map_nil, List.replicate, List.cons_append, List.nil_append, List.append_assoc, List.getElem?_cons_zero, List.getElem?_cons_succ, List.set_cons_zero, List.set_cons_succ, List.take_succ_cons, List.take_zero, List.take_length, app_get, app_get0, app_set, app_set0, app_take, app_take0, List.length_append, List.length_map, gIs, isT, gEq, gNe, dok_str, dok_int, dok_bl, dok_non, dok_tup, dok_lst, eqD_str', eqD_int, inD_strs, dok_strL, List.all_cons, List.all_nil, String.reduceBEq, Bool.not_true, Bool.not_false, Bool.or_false, Bool.or_true, Bool.false_or, Bool.true_or, Bool.and_true, Bool.true_and, Bool.and_false, Bool.false_and, if_true, if_false, reduceCtorEq, Bool.false_eq_true, and_self, true_and, and_true, decide_true, decide_false, decide_eq_true_eq, Bool.not_eq_true', decide_eq_false_iff_not, Nat.zero_add, Nat.reduceAdd, Nat.reduceSub, Nat.reduceLT, Nat.reduceLeDiff, Int.reduceLT, Int.reduceLE, Int.reduceAdd, Int.reduceSub, Int.reduceMul, Int.reduceNeg, Int.reducePow, not_true_eq_false, not_false_eq_true, Nat.sub_self, Nat.lt_irrefl, *])
local macro_rules | `(tactic| walk_at "vn") => `(tactic| try simp (decide := true) only [↓wp_var,List.getElem?_map, inS_oneE, inD_ints, dok_intL, pat_stands, pat_good, pat_moves, mvD_mk, wD_n, wD_s, gSortTx_s, ↓wp_starL, ↓kStarL_ap, wpdl_l, ↓wp_tupRg, ↓kTupRg_ap, ↓wp_lenTx, ↓kLenTx_ap, ↓wp_listRg, ↓kListRg_ap, ↓wp_revS, ↓kRevS_ap, ↓wps_asgIx, ↓kAsgIx_ap, ↓kAsgIx2_ap, ↓kAsgIx3_ap, wt2, ↓wp_tupC, ↓kTupC_ap, ↓wp_fin_t, itemsW_nil, itemsW_d, itemsW_c, frzL_nil, frzL_d, frzL_c, frzC, ↓wp_inv, ↓kInv_ap, ↓wp_star, ↓kStar_ap, ↓kStar2_ap, ↓wp_newR, ↓kNewR_ap, pures_map, gDivmod_ii, gSorted_t, intsD_map, List.drop_succ_cons, List.drop_zero, ↓wp_C, ↓wp_pr, ↓wp_lift2, ↓wp_mk, ↓wp_if, ↓wps_if0, ↓wp_aNil, ↓wp_pNone, ↓wp_yes, ↓wp_op, ↓wp_ix, ↓wp_un, ↓wp_aCons, ↓wp_call, ↓wp_tup, ↓wp_lst, ↓wp_cell, ↓wp_tOf, ↓wp_tBl, ↓wp_tCmp, ↓wp_tNot, ↓wp_tAnd, ↓wp_tOr, ↓wp_eIf, ↓wp_eNot, ↓wp_eAnd, ↓wp_eOr, ↓wp_chain, ↓wp_pSome, ↓wp_sl, ↓wp_fn, ↓wp_app, ↓wp_isCell, ↓wp_meth, ↓wp_methK, ↓wp_fnK, ↓wp_new, ↓wp_newK, ↓wp_s1, ↓wp_eTold, ↓kTold_ap, ↓kToldX_ap, ↓wps_seq, ↓wps_skip, ↓wps_brk, ↓wps_cont, ↓wps_retN, ↓wps_expr, ↓wps_ret, ↓wps_set, ↓wps_par, ↓wps_asg, ↓wps_raise, ↓wps_for, ↓wps_setIx, ↓wps_fld, ↓wp_runB, ↓wp_fin_d, ↓wp_fin_c, ↓wp_iOf, ↓wp_itTup, ↓wp_itLst, ↓wp_itStr, ↓wp_itScr, ↓wp_itC, ↓wp_rng1, ↓wp_rng2, ↓wp_enum, ↓wp_lc, ↓wp_lcC, ↓wp_ok, ↓wp_exc, ↓wp_none, ↓wpo_some, ↓wpo_none, ↓wpd_d, ↓wpd_c, ↓wpc_c, ↓wpi_int, ↓wpb_bl, ↓wpt_tup, ↓wpj_obj, ↓wpl_lst, ↓wpn_ins, ↓wpo_ite, ↓wpo_map, ↓wpo_bind, ↓wp_bnd, ↓wps_stm, ↓kOp2_ap, ↓kIx2_ap, ↓kCons2_ap, ↓kCmp2_ap, ↓kChain3_ap, ↓kChain2_ap, ↓kSl3_ap, ↓kSl2_ap, ↓kApp2_ap, ↓kMeth2_ap, ↓kMethK2_ap, ↓kFnK2_ap, ↓kNewK2_ap, ↓kS12_ap, ↓kOp_ap, ↓kIx_ap, ↓kUn_ap, ↓kCons_ap, ↓kCall_ap, ↓kTup_ap, ↓kLst_ap, ↓kCell_ap, ↓kTOf_ap, ↓kTBl_ap, ↓kCmp_ap, ↓kNot_ap, ↓kAnd_ap, ↓kOr_ap, ↓kEIf_ap, ↓kENot_ap, ↓kEAnd_ap, ↓kEOr_ap, ↓kChain_ap, ↓kPSome_ap, ↓kSl_ap, ↓kFn_ap, ↓kApp_ap, ↓kIsCell_ap, ↓kMeth_ap, ↓kMethK_ap, ↓kFnK_ap, ↓kNew_ap, ↓kNewK_ap, ↓kS1_ap, ↓kFin_ap, ↓kEx_ap, ↓kEnd_ap, ↓kNo_ap, ↓kX_ap, ↓kSeq_ap, ↓kExpr_ap, ↓kRet_ap, ↓kIf_ap, ↓kSet_ap, ↓kPar_ap, ↓kAsg_ap, ↓kRaise_ap, ↓kFor_ap, ↓kSetIx3_ap, ↓kSetIx2_ap, ↓kSetIx1_ap, ↓kFld2_ap, ↓kFld1_ap, ↓kI_ap, ↓kRng1_ap, ↓kRng2_ap, ↓kEnum_ap, ↓kLc_ap, ↓kLcE_ap, ↓kLcC_ap, gN, gT, gsCons, gsNil, Option.bind_some, Option.map_some, gAdd_ii, gAdd_ss, gAdd_tt, gAdd_ll, gSub_ii, gMul_ii, gDiv_ii, gMod_ii, gPow_ii, gLt_ii, gLe_ii, gGt_ii, gGe_ii, gLt_ss, gLe_ss, gIn_t, gIn_l, gIn_s, gNotIn_t, gNotIn_l, gNotIn_s, gIsN_n, gNotN_n, isN_non, isN_str, isN_int, isN_bl, isN_tup, isN_lst, isN_obj, gNeg_i, gLen_s, gLen_t, gLen_l, gAbs_i, gMax2_i, gMin2_i, gInt_i, gInt_b, gTuple_t, gTuple_l, gList_t, gList_l, gStr_i, gAll_l, gAny_l, gIx_l, gIx_t, gIx_s, gSl_l, gSl_t, gSl_s, truD_n, truD_b, truD_i, truD_s, truD_t, truD_l, view_dd, viewL_dd, vCell_l, vCell_i, view_cc, viewL_cc, viewL_scr, views_nil, wpo_views, pures_nil, pures_d, ixN_natE, ixN_lit, atI_natE, atI_lit, bools_mapE, bools_nil, bools_cons, all_idE, txts_mapE, cutL_to, cutL_toL, cutL_from, cutL_fromL, Int.zero_add, swapG, appG, ← List.map_take, ← List.map_drop, true_or, or_true, false_or, or_false, startW, putD, wipeW, wp1, wp2, wps1, List.length_cons, List.length_nil, List.map_cons, List.map_nil, List.replicate, List.cons_append, List.nil_append, List.append_assoc, List.getElem?_cons_zero, List.getElem?_cons_succ, List.set_cons_zero, List.set_cons_succ, List.take_succ_cons, List.take_zero, List.take_length, app_get, app_get0, app_set, app_set0, app_take, app_take0, List.length_append, List.length_map, gIs, isT, gEq, gNe, dok_str, dok_int, dok_bl, dok_non, dok_tup, dok_lst, eqD_str', eqD_int, inD_strs, dok_strL, List.all_cons, List.all_nil, String.reduceBEq, Bool.not_true, Bool.not_false, Bool.or_false, Bool.or_true, Bool.false_or, Bool.true_or, Bool.and_true, Bool.true_and, Bool.and_false, Bool.false_and, if_true, if_false, reduceCtorEq, Bool.false_eq_true, and_self, true_and, and_true, decide_true, decide_false, decide_eq_true_eq, Bool.not_eq_true', decide_eq_false_iff_not, Nat.zero_add, Nat.reduceAdd, Nat.reduceSub, Nat.reduceLT, Nat.reduceLeDiff, Int.reduceLT, Int.reduceLE, Int.reduceAdd, Int.reduceSub, Int.reduceMul, Int.reduceNeg, Int.reducePow, not_true_eq_false, not_false_eq_true, Nat.sub_self, Nat.lt_irrefl])

/-- the text asked for -/
structure okT (y : Str) : Prop where
  l1 : 1 ≤ y.length
  l4 : y.length ≤ 4
  sg : ∀ c ∈ y.cps.toList, c ∈ SG.cps.toList
theorem okT.as {y : Str} (h : okT y) : ∀ c ∈ y.cps.toList, c < 128 := fun c hc => SG_ascii c (h.sg c hc)
theorem okT.sl {y : Str} (h : okT y) : (sgn y).length ≤ 4 := Nat.le_trans sgn_le h.l4
theorem okT.mv {y : Str} (h : okT y) {s c : Nat} (hs : s < y.length) (hc : c ∈ sgn y) : okMv ((y.length : Int) + 1) (mv1 y s c) := by
  have hl : (y.cps.toList.take s).length = s := by rw [List.length_take, tl_len]; omega
  have := (ovl_spec (t := y.cps.toList) (g := y.cps.toList.take s ++ [c]) (by rw [List.length_append, hl, tl_len, List.length_singleton]; omega) (s + 1) (by rw [List.length_append, hl, List.length_singleton]; omega)).1
  refine ⟨⟨?_, ?_⟩, ⟨Nat.le_refl _, by show (1 : Nat) ≤ 96; decide, fun d hd => ?_, ?_⟩, ?_, ?_⟩
  · show (0 : Int) ≤ (s : Int); omega
  · show (s : Int) < _; omega
  · have : d = c := by simpa using hd
    subst this
    exact h.sg d ((sgn_in h.as).mp hc)
  · show [c].Nodup
    simp
  · show (0 : Int) ≤ ((ovl _ _ _ : Nat) : Int); omega
  · show ((ovl _ _ _ : Nat) : Int) < _; omega
theorem okT.mvs {y : Str} (h : okT y) : ∀ m ∈ movesOf y, okMv ((y.length : Int) + 1) m := by
  intro m hm
  unfold movesOf blks at hm
  obtain ⟨s, hs, hm⟩ := List.mem_flatMap.mp hm
  have hs := List.mem_range.mp hs
  unfold blk at hm
  rcases List.mem_append.mp hm with hm | hm
  · obtain ⟨c, hc, rfl⟩ := List.mem_map.mp hm
    exact h.mv hs hc
  · cases List.mem_singleton.mp hm
    refine ⟨⟨?_, ?_⟩, trivial, ?_, ?_⟩
    · show (0 : Int) ≤ (s : Int); omega
    · show (s : Int) < _; omega
    · show (0 : Int) ≤ 0; omega
    · show (0 : Int) < _; omega
theorem okT.ml {y : Str} (h : okT y) (n : Nat) (hn : n ≤ 4) : (blks y (List.range n)).length ≤ 20 := by
  rw [blks_len, List.length_range]
  have := h.sl
  have : n * ((sgn y).length + 1) ≤ 4 * 5 := Nat.mul_le_mul hn (by omega)
  omega
theorem okT.ok {y : Str} (h : okT y) : okP ((y.length : Int) + 1) (rgI y.length) (movesOf y) := by
  have h1 := h.l1
  have h4 := h.l4
  refine ⟨by omega, ?_, fun i hi => ?_, rgI_sorted _, ?_, h.mvs⟩
  · rw [rgI_len]; omega
  · have := rgI_in hi; omega
  · have := h.ml y.length h4
    unfold movesOf
    omega
theorem wp_without {y : Str} {st : Sto} {Q : W → Sto → Prop} {X : XP} (ok : okT y) (h : Q (.d (patD ((y.length : Int) + 1) (rgI y.length) (movesOf y))) st) : wp (spec_Pattern_without [.d (.str y)] st) Q X := by
  unfold spec_Pattern_without b_Pattern_without
  have h1 := ok.l1
  have h4 := ok.l4
  walk_at "vc"
  refine wp_is_string (by omega) (by omega) ok.sg ?_
  walk_at "vc"
  refine ⟨by omega, wps_forR (fun i sl st' => i ≤ y.length ∧ ∃ a b c, sl = [some (.d (.str y)), some (.c st.length), a, b, c] ∧ st' = st ++ [.lst ((blks y (List.range i)).map mvD)]) ⟨Nat.zero_le _, _, _, _, rfl, rfl⟩ ?_ ?_⟩
  · rintro i sl st' hi ⟨_, a, b, c, rfl, rfl⟩
    have hi : i < y.length := by omega
    have has : y.cps.all (fun x => decide (x < 128)) = true := by
      rw [← Array.all_toList]
      exact List.all_eq_true.mpr fun c hc => decide_eq_true (ok.as c hc)
    have hmi : (blks y (List.range i)).length ≤ 20 := ok.ml i (by omega)
    have hsl := ok.sl
    walk_at "vc"
    refine ⟨⟨has, by omega⟩, wps_forM (f := fun c => D.str ⟨#[c]⟩) (fun cs sl st' => ∃ us a, us ++ cs = sgn y ∧ sl = [some (.d (.str y)), some (.c st.length), some (.d (.int i)), a, c] ∧ st' = st ++ [.lst ((blks y (List.range i) ++ us.map (mv1 y i)).map mvD)]) ⟨[], _, rfl, rfl, by simp⟩ ?_ ?_⟩
    · rintro d cs sl st' ⟨us, a, e, rfl, rfl⟩
      walk_at "vc"
      have hg : (cutS y none (some (i : Int)) ++ (⟨#[d]⟩ : Str)).cps.toList = y.cps.toList.take i ++ [d] := by rw [app_tl, cutS_to]
      have hgl : (cutS y none (some (i : Int)) ++ (⟨#[d]⟩ : Str)).length = i + 1 := by
        rw [← tl_len, hg, List.length_append, List.length_take, tl_len, List.length_singleton]
        omega
      have hu : us.length ≤ 4 := by
        have := congrArg List.length e
        rw [List.length_append] at this
        omega
      have hgl2 : (cutS y none (some (i : Int))).length + (⟨#[d]⟩ : Str).length = i + 1 := by rw [← app_len]; exact hgl
      refine ⟨by rw [hgl2, lim_is]; omega, wp_overlap (by rw [hgl]; omega) ?_⟩
      rw [hg, hgl]
      walk_at "vc"
      refine ⟨by rw [lim_is]; omega, us ++ [d], _, by rw [← e]; simp, rfl, ?_⟩
      rw [List.map_append, List.map_append, List.map_append, List.map_append, List.append_assoc]
      rfl
    · rintro sl st' ⟨us, a, e, rfl, rfl⟩
      rw [List.append_nil] at e
      subst e
      walk_at "vc"
      refine ⟨by rw [lim_is]; omega, by omega, _, _, _, rfl, ?_⟩
      have eb : blks y (List.range (i + 1)) = blks y (List.range i) ++ blk y i := by
        rw [List.range_succ, blks_app]
        unfold blks
        simp
      rw [eb]
      unfold blk
      rw [List.map_append, List.map_append, List.map_append, List.append_assoc]
      rfl
  · rintro sl st' ⟨_, a, b, c, rfl, rfl⟩
    rw [show ((y.length : Int)).toNat = y.length by omega]
    walk_at "vc"
    rw [List.append_nil, pures_map, rng_I]
    walk_at "vc"
    have hm20 := ok.ml y.length h4
    refine ⟨by omega, by rw [lim_is]; omega, ?_⟩
    refine wp_made_at (st ++ [.lst ((blks y (List.range y.length)).map mvD)]) (by simp) (by simp) (wp_Pattern (ms := blks y (List.range y.length)) ok.ok ?_)
    walk_at "vc"
    exact h
end D49

set_option maxHeartbeats 1000000
namespace D49
open PySem L2 Dn Ft
theorem dok_natL (n : Nat) (ys : List Nat) : (ys.map fun (k : Nat) => D.int (k : Int)).all (dok n) = true := by
  rw [List.all_eq_true]
  intro d hd
  obtain ⟨y, _, rfl⟩ := List.mem_map.mp hd
  exact dok_int _ _
theorem eq_nat0 (ys : List Nat) : eqD (.lst (ys.map fun (k : Nat) => D.int (k : Int))) (.lst []) = decide (ys = []) := by
  cases ys with
  | nil => rw [List.map_nil, eqD_ll, eqDs_nil]; rfl
  | cons m ms => rw [List.map_cons, eqD_ll, eqDs_cn]; rfl
section
variable {c : Str} {spec : Dn.Spec} {neg : Bool} {g : D → D → Option D} {w1 w2 : W} {QW : W → Sto → Prop} {X : XP} {st2 : Sto} {d2 : D} {n : Int} {good : List Int} {ms : List Mv}
theorem cmp_pat : wpCmpO c spec neg g w1 w2 QW X st2 (patD n good ms) d2 = ((("Pattern" : Str) = c ∧ okR c d2 = true) ∧ wp (spec [w1, w2] st2) (kCmpO3 neg QW) X) := rfl
theorem okR_pat : okR "Pattern" (patD n good ms) = true := rfl
theorem isO_pat : gIsO "Pattern" (patD n good ms) = some (.bl true) := rfl
theorem pat_form : gFld ["Pattern"] "form" (patD n good ms) = some (.tup [.int n, .tup (good.map .int), .tup (ms.map mvD)]) := rfl
theorem wpj_pat {k : Str → List (Str × D) → Prop} : wpj (patD n good ms) k = k "Pattern" [("stands", .int n), ("good", .tup (good.map .int)), ("moves", .tup (ms.map mvD)), ("form", .tup [.int n, .tup (good.map .int), .tup (ms.map mvD)])] := rfl
end
local macro_rules | `(tactic| walk_at "vc") => `(tactic| try simp (decide := true) only [↓wp_var,List.getElem?_map, inS_oneE, inD_ints, dok_intL, pat_stands, pat_good, pat_moves, pat_form, mvD_mk, wD_n, wD_s, ↓wpj_pat, ↓wp_cmpO, ↓wp_tCmpO, ↓kCmpO1_ap, ↓kCmpO2_ap, ↓kCmpO3_ap, ↓kCmpOT_ap, ↓cmp_pat, okR_pat, isO_pat, dok_natL, eq_nat0, ↓wp_lenTx, ↓kLenTx_ap, ↓wp_listRg, ↓kListRg_ap, ↓wp_revS, ↓kRevS_ap, ↓wps_asgIx, ↓kAsgIx_ap, ↓kAsgIx2_ap, ↓kAsgIx3_ap, wt2, ↓wp_tupC, ↓kTupC_ap, ↓wp_fin_t, itemsW_nil, itemsW_d, itemsW_c, frzL_nil, frzL_d, frzL_c, frzC, ↓wp_inv, ↓kInv_ap, ↓wp_star, ↓kStar_ap, ↓kStar2_ap, ↓wp_newR, ↓kNewR_ap, pures_map, gDivmod_ii, gSorted_t, intsD_map, List.drop_succ_cons, List.drop_zero, ↓wp_C, ↓wp_pr, ↓wp_lift2, ↓wp_mk, ↓wp_if, ↓wps_if0, ↓wp_aNil, ↓wp_pNone, ↓wp_yes, ↓wp_op, ↓wp_ix, ↓wp_un, ↓wp_aCons, ↓wp_call, ↓wp_tup, ↓wp_lst, ↓wp_cell, ↓wp_tOf, ↓wp_tBl, ↓wp_tCmp, ↓wp_tNot, ↓wp_tAnd, ↓wp_tOr, ↓wp_eIf, ↓wp_eNot, ↓wp_eAnd, ↓wp_eOr, ↓wp_chain, ↓wp_pSome, ↓wp_sl, ↓wp_fn, ↓wp_app, ↓wp_isCell, ↓wp_meth, ↓wp_methK, ↓wp_fnK, ↓wp_new, ↓wp_newK, ↓wp_s1, ↓wp_eTold, ↓kTold_ap, ↓kToldX_ap, ↓wps_seq, ↓wps_skip, ↓wps_brk, ↓wps_cont, ↓wps_retN, ↓wps_expr, ↓wps_ret, ↓wps_sIf, ↓wps_set, ↓wps_par, ↓wps_asg, ↓wps_raise, ↓wps_for, ↓wps_setIx, ↓wps_fld, ↓wp_runB, ↓wp_fin_d, ↓wp_fin_c, ↓wp_iOf, ↓wp_itTup, ↓wp_itLst, ↓wp_itStr, ↓wp_itScr, ↓wp_itC, ↓wp_rng1, ↓wp_rng2, ↓wp_enum, ↓wp_lc, ↓wp_lcC, ↓wp_ok, ↓wp_exc, ↓wp_none, ↓wpo_some, ↓wpo_none, ↓wpd_d, ↓wpd_c, ↓wpc_c, ↓wpi_int, ↓wpb_bl, ↓wpt_tup, ↓wpj_obj, ↓wpl_lst, ↓wpn_ins, ↓wpo_ite, ↓wpo_map, ↓wpo_bind, ↓wp_bnd, ↓wps_stm, ↓kOp2_ap, ↓kIx2_ap, ↓kCons2_ap, ↓kCmp2_ap, ↓kChain3_ap, ↓kChain2_ap, ↓kSl3_ap, ↓kSl2_ap, ↓kApp2_ap, ↓kMeth2_ap, ↓kMethK2_ap, ↓kFnK2_ap, ↓kNewK2_ap, ↓kS12_ap, ↓kOp_ap, ↓kIx_ap, ↓kUn_ap, ↓kCons_ap, ↓kCall_ap, ↓kTup_ap, ↓kLst_ap, ↓kCell_ap, ↓kTOf_ap, ↓kTBl_ap, ↓kCmp_ap, ↓kNot_ap, ↓kAnd_ap, ↓kOr_ap, ↓kEIf_ap, ↓kENot_ap, ↓kEAnd_ap, ↓kEOr_ap, ↓kChain_ap, ↓kPSome_ap, ↓kSl_ap, ↓kFn_ap, ↓kApp_ap, ↓kIsCell_ap, ↓kMeth_ap, ↓kMethK_ap, ↓kFnK_ap, ↓kNew_ap, ↓kNewK_ap, ↓kS1_ap, ↓kFin_ap, ↓kEx_ap, ↓kEnd_ap, ↓kNo_ap, ↓kX_ap, ↓kSeq_ap, ↓kExpr_ap, ↓kRet_ap, ↓kIf_ap, ↓kSet_ap, ↓kPar_ap, ↓kAsg_ap, ↓kRaise_ap, ↓kFor_ap, ↓kSetIx3_ap, ↓kSetIx2_ap, ↓kSetIx1_ap, ↓kFld2_ap, ↓kFld1_ap, ↓kI_ap, ↓kRng1_ap, ↓kRng2_ap, ↓kEnum_ap, ↓kLc_ap, ↓kLcE_ap, ↓kLcC_ap, gN, gT, gsCons, gsNil, Option.bind_some, Option.map_some, gAdd_ii, gAdd_ss, gAdd_tt, gAdd_ll, gSub_ii, gMul_ii, gDiv_ii, gMod_ii, gPow_ii, gLt_ii, gLe_ii, gGt_ii, gGe_ii, gLt_ss, gLe_ss, gIn_t, gIn_l, gIn_s, gNotIn_t, gNotIn_l, gNotIn_s, gIsN_n, gNotN_n, isN_non, isN_str, isN_int, isN_bl, isN_tup, isN_lst, isN_obj, gNeg_i, gLen_s, gLen_t, gLen_l, gAbs_i, gMax2_i, gMin2_i, gInt_i, gInt_b, gTuple_t, gTuple_l, gList_t, gList_l, gStr_i, gAll_l, gAny_l, gIx_l, gIx_t, gIx_s, gSl_l, gSl_t, gSl_s, truD_n, truD_b, truD_i, truD_s, truD_t, truD_l, view_dd, viewL_dd, vCell_l, vCell_i, view_cc, viewL_cc, viewL_scr, views_nil, wpo_views, pures_nil, pures_d, ixN_natE, ixN_lit, atI_natE, atI_lit, bools_mapE, bools_nil, bools_cons, all_idE, txts_mapE, cutL_to, cutL_toL, cutL_from, cutL_fromL, Int.zero_add, swapG, appG, ← List.map_take, ← List.map_drop, true_or, or_true, false_or, or_false, startW, putD, wipeW, wp1, wp2, wps1, List.length_cons, List.length_nil, List.map_cons, List.map_nil, List.replicate, List.cons_append, List.nil_append, List.append_assoc, List.getElem?_cons_zero, List.getElem?_cons_succ, List.set_cons_zero, List.set_cons_succ, List.take_succ_cons, List.take_zero, List.take_length, app_get, app_get0, app_set, app_set0, app_take, app_take0, List.length_append, List.length_map, gIs, isT, gEq, gNe, dok_str, dok_int, dok_bl, dok_non, dok_tup, dok_lst, eqD_str', eqD_int, inD_strs, dok_strL, List.all_cons, List.all_nil, String.reduceBEq, Bool.not_true, Bool.not_false, Bool.or_false, Bool.or_true, Bool.false_or, Bool.true_or, Bool.and_true, Bool.true_and, Bool.and_false, Bool.false_and, if_true, if_false, reduceCtorEq, Bool.false_eq_true, and_self, true_and, and_true, decide_true, decide_false, decide_eq_true_eq, Bool.not_eq_true', decide_eq_false_iff_not, Nat.zero_add, Nat.reduceAdd, Nat.reduceSub, Nat.reduceLT, Nat.reduceLeDiff, Int.reduceLT, Int.reduceLE, Int.reduceAdd, Int.reduceSub, Int.reduceMul, Int.reduceNeg, Int.reducePow, not_true_eq_false, not_false_eq_true, Nat.sub_self, Nat.lt_irrefl])
local macro_rules | `(tactic| walk_at "vcs") => `(tactic| try simp (decide := true) only [↓wp_var,List.getElem?_map, inS_oneE, inD_ints, dok_intL, pat_stands, pat_good, pat_moves, pat_form, mvD_mk, wD_n, wD_s, ↓wpj_pat, ↓wp_cmpO, ↓wp_tCmpO, ↓kCmpO1_ap, ↓kCmpO2_ap, ↓kCmpO3_ap, ↓kCmpOT_ap, ↓cmp_pat, okR_pat, isO_pat, dok_natL, eq_nat0, ↓wp_lenTx, ↓kLenTx_ap, ↓wp_listRg, ↓kListRg_ap, ↓wp_revS, ↓kRevS_ap, ↓wps_asgIx, ↓kAsgIx_ap, ↓kAsgIx2_ap, ↓kAsgIx3_ap, wt2, ↓wp_tupC, ↓kTupC_ap, ↓wp_fin_t, itemsW_nil, itemsW_d, itemsW_c, frzL_nil, frzL_d, frzL_c, frzC, ↓wp_inv, ↓kInv_ap, ↓wp_star, ↓kStar_ap, ↓kStar2_ap, ↓wp_newR, ↓kNewR_ap, pures_map, gDivmod_ii, gSorted_t, intsD_map, List.drop_succ_cons, List.drop_zero, ↓wp_C, ↓wp_pr, ↓wp_lift2, ↓wp_mk, ↓wp_if, ↓wps_if0, ↓wp_aNil, ↓wp_pNone, ↓wp_yes, ↓wp_op, ↓wp_ix, ↓wp_un, ↓wp_aCons, ↓wp_call, ↓wp_tup, ↓wp_lst, ↓wp_cell, ↓wp_tOf, ↓wp_tBl, ↓wp_tCmp, ↓wp_tNot, ↓wp_tAnd, ↓wp_tOr, ↓wp_eIf, ↓wp_eNot, ↓wp_eAnd, ↓wp_eOr, ↓wp_chain, ↓wp_pSome, ↓wp_sl, ↓wp_fn, ↓wp_app, ↓wp_isCell, ↓wp_meth, ↓wp_methK, ↓wp_fnK, ↓wp_new, ↓wp_newK, ↓wp_s1, ↓wp_eTold, ↓kTold_ap, ↓kToldX_ap, ↓wps_seq, ↓wps_skip, ↓wps_brk, ↓wps_cont, ↓wps_retN, ↓wps_expr, ↓wps_ret, ↓wps_sIf, ↓wps_set, ↓wps_par, ↓wps_asg, ↓wps_raise, ↓wps_for, ↓wps_setIx, ↓wps_fld, ↓wp_runB, ↓wp_fin_d, ↓wp_fin_c, ↓wp_iOf, ↓wp_itTup, ↓wp_itLst, ↓wp_itStr, ↓wp_itScr, ↓wp_itC, ↓wp_rng1, ↓wp_rng2, ↓wp_enum, ↓wp_lc, ↓wp_lcC, ↓wp_ok, ↓wp_exc, ↓wp_none, ↓wpo_some, ↓wpo_none, ↓wpd_d, ↓wpd_c, ↓wpc_c, ↓wpi_int, ↓wpb_bl, ↓wpt_tup, ↓wpj_obj, ↓wpl_lst, ↓wpn_ins, ↓wpo_ite, ↓wpo_map, ↓wpo_bind, ↓wp_bnd, ↓wps_stm, ↓kOp2_ap, ↓kIx2_ap, ↓kCons2_ap, ↓kCmp2_ap, ↓kChain3_ap, ↓kChain2_ap, ↓kSl3_ap, ↓kSl2_ap, ↓kApp2_ap, ↓kMeth2_ap, ↓kMethK2_ap, ↓kFnK2_ap, ↓kNewK2_ap, ↓kS12_ap, ↓kOp_ap, ↓kIx_ap, ↓kUn_ap, ↓kCons_ap, ↓kCall_ap, ↓kTup_ap, ↓kLst_ap, ↓kCell_ap, ↓kTOf_ap, ↓kTBl_ap, ↓kCmp_ap, ↓kNot_ap, ↓kAnd_ap, ↓kOr_ap, ↓kEIf_ap, ↓kENot_ap, ↓kEAnd_ap, ↓kEOr_ap, ↓kChain_ap, ↓kPSome_ap, ↓kSl_ap, ↓kFn_ap, ↓kApp_ap, ↓kIsCell_ap, ↓kMeth_ap, ↓kMethK_ap, ↓kFnK_ap, ↓kNew_ap, ↓kNewK_ap, ↓kS1_ap, ↓kFin_ap, ↓kEx_ap, ↓kEnd_ap, ↓kNo_ap, ↓kX_ap, ↓kSeq_ap, ↓kExpr_ap, ↓kRet_ap, ↓kIf_ap, ↓kSet_ap, ↓kPar_ap, ↓kAsg_ap, ↓kRaise_ap, ↓kFor_ap, ↓kSetIx3_ap, ↓kSetIx2_ap, ↓kSetIx1_ap, ↓kFld2_ap, ↓kFld1_ap, ↓kI_ap, ↓kRng1_ap, ↓kRng2_ap, ↓kEnum_ap, ↓kLc_ap, ↓kLcE_ap, ↓kLcC_ap, gN, gT, gsCons, gsNil, Option.bind_some, Option.map_some, gAdd_ii, gAdd_ss, gAdd_tt, gAdd_ll, gSub_ii, gMul_ii, gDiv_ii, gMod_ii, gPow_ii, gLt_ii, gLe_ii, gGt_ii, gGe_ii, gLt_ss, gLe_ss, gIn_t, gIn_l, gIn_s, gNotIn_t, gNotIn_l, gNotIn_s, gIsN_n, gNotN_n, isN_non, isN_str, isN_int, isN_bl, isN_tup, isN_lst, isN_obj, gNeg_i, gLen_s, gLen_t, gLen_l, gAbs_i, gMax2_i, gMin2_i, gInt_i, gInt_b, gTuple_t, gTuple_l, gList_t, gList_l, gStr_i, gAll_l, gAny_l, gIx_l, gIx_t, gIx_s, gSl_l, gSl_t, gSl_s, truD_n, truD_b, truD_i, truD_s, truD_t, truD_l, view_dd, viewL_dd, vCell_l, vCell_i, view_cc, viewL_cc, viewL_scr, views_nil, wpo_views, pures_nil, pures_d, ixN_natE, ixN_lit, atI_natE, atI_lit, bools_mapE, bools_nil, bools_cons, all_idE, txts_mapE, cutL_to, cutL_toL, cutL_from, cutL_fromL, Int.zero_add, swapG, appG, ← List.map_take, ← List.map_drop, true_or, or_true, false_or, or_false, startW, putD, wipeW, wp1, wp2, wps1, List.length_cons, List.length_nil, List.map_cons, List.map_nil, List.replicate, List.cons_append, List.nil_append, List.append_assoc, List.getElem?_cons_zero, List.getElem?_cons_succ, List.set_cons_zero, List.set_cons_succ, List.take_succ_cons, List.take_zero, List.take_length, app_get, app_get0, app_set, app_set0, app_take, app_take0, List.length_append, List.length_map, gIs, isT, gEq, gNe, dok_str, dok_int, dok_bl, dok_non, dok_tup, dok_lst, eqD_str', eqD_int, inD_strs, dok_strL, List.all_cons, List.all_nil, String.reduceBEq, Bool.not_true, Bool.not_false, Bool.or_false, Bool.or_true, Bool.false_or, Bool.true_or, Bool.and_true, Bool.true_and, Bool.and_false, Bool.false_and, if_true, if_false, reduceCtorEq, Bool.false_eq_true, and_self, true_and, and_true, decide_true, decide_false, decide_eq_true_eq, Bool.not_eq_true', decide_eq_false_iff_not, Nat.zero_add, Nat.reduceAdd, Nat.reduceSub, Nat.reduceLT, Nat.reduceLeDiff, Int.reduceLT, Int.reduceLE, Int.reduceAdd, Int.reduceSub, Int.reduceMul, Int.reduceNeg, Int.reducePow, not_true_eq_false, not_false_eq_true, Nat.sub_self, Nat.lt_irrefl, *])
local macro_rules | `(tactic| walk_at "vn") => `(tactic| try simp (decide := true) only [↓wp_var,List.getElem?_map, inS_oneE, inD_ints, dok_intL, pat_stands, pat_good, pat_moves, pat_form, mvD_mk, wD_n, wD_s, ↓wpj_pat, ↓wp_cmpO, ↓wp_tCmpO, ↓kCmpO1_ap, ↓kCmpO2_ap, ↓kCmpO3_ap, ↓kCmpOT_ap, ↓cmp_pat, okR_pat, isO_pat, dok_natL, eq_nat0, ↓wp_lenTx, ↓kLenTx_ap, ↓wp_listRg, ↓kListRg_ap, ↓wp_revS, ↓kRevS_ap, ↓wps_asgIx, ↓kAsgIx_ap, ↓kAsgIx2_ap, ↓kAsgIx3_ap, wt2, ↓wp_tupC, ↓kTupC_ap, ↓wp_fin_t, itemsW_nil, itemsW_d, itemsW_c, frzL_nil, frzL_d, frzL_c, frzC, ↓wp_inv, ↓kInv_ap, ↓wp_star, ↓kStar_ap, ↓kStar2_ap, ↓wp_newR, ↓kNewR_ap, pures_map, gDivmod_ii, gSorted_t, intsD_map, List.drop_succ_cons, List.drop_zero, ↓wp_C, ↓wp_pr, ↓wp_lift2, ↓wp_mk, ↓wp_if, ↓wps_if0, ↓wp_aNil, ↓wp_pNone, ↓wp_yes, ↓wp_op, ↓wp_ix, ↓wp_un, ↓wp_aCons, ↓wp_call, ↓wp_tup, ↓wp_lst, ↓wp_cell, ↓wp_tOf, ↓wp_tBl, ↓wp_tCmp, ↓wp_tNot, ↓wp_tAnd, ↓wp_tOr, ↓wp_eIf, ↓wp_eNot, ↓wp_eAnd, ↓wp_eOr, ↓wp_chain, ↓wp_pSome, ↓wp_sl, ↓wp_fn, ↓wp_app, ↓wp_isCell, ↓wp_meth, ↓wp_methK, ↓wp_fnK, ↓wp_new, ↓wp_newK, ↓wp_s1, ↓wp_eTold, ↓kTold_ap, ↓kToldX_ap, ↓wps_seq, ↓wps_skip, ↓wps_brk, ↓wps_cont, ↓wps_retN, ↓wps_expr, ↓wps_ret, ↓wps_set, ↓wps_par, ↓wps_asg, ↓wps_raise, ↓wps_for, ↓wps_setIx, ↓wps_fld, ↓wp_runB, ↓wp_fin_d, ↓wp_fin_c, ↓wp_iOf, ↓wp_itTup, ↓wp_itLst, ↓wp_itStr, ↓wp_itScr, ↓wp_itC, ↓wp_rng1, ↓wp_rng2, ↓wp_enum, ↓wp_lc, ↓wp_lcC, ↓wp_ok, ↓wp_exc, ↓wp_none, ↓wpo_some, ↓wpo_none, ↓wpd_d, ↓wpd_c, ↓wpc_c, ↓wpi_int, ↓wpb_bl, ↓wpt_tup, ↓wpj_obj, ↓wpl_lst, ↓wpn_ins, ↓wpo_ite, ↓wpo_map, ↓wpo_bind, ↓wp_bnd, ↓wps_stm, ↓kOp2_ap, ↓kIx2_ap, ↓kCons2_ap, ↓kCmp2_ap, ↓kChain3_ap, ↓kChain2_ap, ↓kSl3_ap, ↓kSl2_ap, ↓kApp2_ap, ↓kMeth2_ap, ↓kMethK2_ap, ↓kFnK2_ap, ↓kNewK2_ap, ↓kS12_ap, ↓kOp_ap, ↓kIx_ap, ↓kUn_ap, ↓kCons_ap, ↓kCall_ap, ↓kTup_ap, ↓kLst_ap, ↓kCell_ap, ↓kTOf_ap, ↓kTBl_ap, ↓kCmp_ap, ↓kNot_ap, ↓kAnd_ap, ↓kOr_ap, ↓kEIf_ap, ↓kENot_ap, ↓kEAnd_ap, ↓kEOr_ap, ↓kChain_ap, ↓kPSome_ap, ↓kSl_ap, ↓kFn_ap, ↓kApp_ap, ↓kIsCell_ap, ↓kMeth_ap, ↓kMethK_ap, ↓kFnK_ap, ↓kNew_ap, ↓kNewK_ap, ↓kS1_ap, ↓kFin_ap, ↓kEx_ap, ↓kEnd_ap, ↓kNo_ap, ↓kX_ap, ↓kSeq_ap, ↓kExpr_ap, ↓kRet_ap, ↓kIf_ap, ↓kSet_ap, ↓kPar_ap, ↓kAsg_ap, ↓kRaise_ap, ↓kFor_ap, ↓kSetIx3_ap, ↓kSetIx2_ap, ↓kSetIx1_ap, ↓kFld2_ap, ↓kFld1_ap, ↓kI_ap, ↓kRng1_ap, ↓kRng2_ap, ↓kEnum_ap, ↓kLc_ap, ↓kLcE_ap, ↓kLcC_ap, gN, gT, gsCons, gsNil, Option.bind_some, Option.map_some, gAdd_ii, gAdd_ss, gAdd_tt, gAdd_ll, gSub_ii, gMul_ii, gDiv_ii, gMod_ii, gPow_ii, gLt_ii, gLe_ii, gGt_ii, gGe_ii, gLt_ss, gLe_ss, gIn_t, gIn_l, gIn_s, gNotIn_t, gNotIn_l, gNotIn_s, gIsN_n, gNotN_n, isN_non, isN_str, isN_int, isN_bl, isN_tup, isN_lst, isN_obj, gNeg_i, gLen_s, gLen_t, gLen_l, gAbs_i, gMax2_i, gMin2_i, gInt_i, gInt_b, gTuple_t, gTuple_l, gList_t, gList_l, gStr_i, gAll_l, gAny_l, gIx_l, gIx_t, gIx_s, gSl_l, gSl_t, gSl_s, truD_n, truD_b, truD_i, truD_s, truD_t, truD_l, view_dd, viewL_dd, vCell_l, vCell_i, view_cc, viewL_cc, viewL_scr, views_nil, wpo_views, pures_nil, pures_d, ixN_natE, ixN_lit, atI_natE, atI_lit, bools_mapE, bools_nil, bools_cons, all_idE, txts_mapE, cutL_to, cutL_toL, cutL_from, cutL_fromL, Int.zero_add, swapG, appG, ← List.map_take, ← List.map_drop, true_or, or_true, false_or, or_false, startW, putD, wipeW, wp1, wp2, wps1, List.length_cons, List.length_nil, List.map_cons, List.map_nil, List.replicate, List.cons_append, List.nil_append, List.append_assoc, List.getElem?_cons_zero, List.getElem?_cons_succ, List.set_cons_zero, List.set_cons_succ, List.take_succ_cons, List.take_zero, List.take_length, app_get, app_get0, app_set, app_set0, app_take, app_take0, List.length_append, List.length_map, gIs, isT, gEq, gNe, dok_str, dok_int, dok_bl, dok_non, dok_tup, dok_lst, eqD_str', eqD_int, inD_strs, dok_strL, List.all_cons, List.all_nil, String.reduceBEq, Bool.not_true, Bool.not_false, Bool.or_false, Bool.or_true, Bool.false_or, Bool.true_or, Bool.and_true, Bool.true_and, Bool.and_false, Bool.false_and, if_true, if_false, reduceCtorEq, Bool.false_eq_true, and_self, true_and, and_true, decide_true, decide_false, decide_eq_true_eq, Bool.not_eq_true', decide_eq_false_iff_not, Nat.zero_add, Nat.reduceAdd, Nat.reduceSub, Nat.reduceLT, Nat.reduceLeDiff, Int.reduceLT, Int.reduceLE, Int.reduceAdd, Int.reduceSub, Int.reduceMul, Int.reduceNeg, Int.reducePow, not_true_eq_false, not_false_eq_true, Nat.sub_self, Nat.lt_irrefl])

theorem wp_stands_in {y w : Str} {st : Sto} {Q : W → Sto → Prop} {X : XP} (h1 : 1 ≤ y.length) (hw : w.length ≤ 1000) (h : Q (.d (.bl (decide (y.cps.toList <:+: w.cps.toList)))) st) : wp (spec_law_stands_in [.d (.str y), .d (.str w)] st) Q X := by
  unfold spec_law_stands_in b_law_stands_in
  walk_at "vc"
  refine ⟨by omega, ?_⟩
  rw [show ((w.length : Int)).toNat = w.length by omega, rng_N]
  refine wp_lcF (f := fun (k : Nat) => D.int (k : Int)) (fun k => decide (cutS w (some (k : Int)) (some ((k : Int) + (y.length : Int))) = y)) (fun (k : Nat) => D.int (k : Int)) trivial (fun i hi => ?_) ?_
  · walk_at "vc"
    exact fun _ => trivial
  · walk_at "vc"
    have hne : y.cps.toList ≠ [] := fun z => by
      have := congrArg List.length z
      rw [tl_len] at this
      simp at this
      omega
    have e : decide (y.cps.toList <:+: w.cps.toList) = !decide ((List.range w.length).filter (fun (k : Nat) => decide (cutS w (some (k : Int)) (some ((k : Int) + (y.length : Int))) = y)) = []) := by
      rw [← decide_not]
      refine decide_eq_decide.mpr ?_
      rw [infix_ix hne, List.filter_eq_nil_iff]
      constructor
      · rintro ⟨i, hi, e⟩ hn
        rw [tl_len] at hi
        refine hn i (List.mem_range.mpr hi) (decide_eq_true (str_tl.mpr ?_))
        rw [cutS_mid (by rw [tl_len]; omega), ← tl_len y]
        exact e
      · intro hn
        refine Classical.byContradiction fun hx => hn fun i hi hd => hx ⟨i, ?_, ?_⟩
        · rw [tl_len]; exact List.mem_range.mp hi
        · have hi := List.mem_range.mp hi
          have := str_tl.mp (of_decide_eq_true hd)
          rw [cutS_mid (by rw [tl_len]; omega), ← tl_len y] at this
          exact this
    rw [e] at h
    exact h
theorem wp_text {pre rest : Sto} {q : Dl} {s : Str} {a b : Int} {Q : W → Sto → Prop} {X : XP} (hq : q.ok) (h1 : 1 ≤ s.length) (h2 : s.length ≤ 200) (ha : 0 ≤ a) (hb : a ≤ b) (hc : b ≤ 1000)
    (h : ∀ (x : Str) (q' : Dl), a ≤ x.length → x.length ≤ b → (∀ c ∈ x.cps.toList, c ∈ s.cps.toList) → q'.ok → Q (.d (.str x)) (pre ++ q'.cell :: rest)) : wp (spec_law_drawn_text [.c pre.length, .d (.str s), .d (.int a), .d (.int b)] (pre ++ q.cell :: rest)) Q X := by
  unfold spec_law_drawn_text b_law_drawn_text
  walk_at "vc"
  refine wp_draw hq (by omega) fun v q' h0 h1 hq' => ?_
  walk_at "vc"
  obtain ⟨k, rfl⟩ := Int.eq_ofNat_of_zero_le h0
  have e0 : (Str.ofString "").cps.toList = [] := by decide +kernel
  refine ⟨by omega, wps_forR (fun i sl st' => ∃ (x : Str) (q1 : Dl) (a1 : Option W), x.length = i ∧ (∀ c ∈ x.cps.toList, c ∈ s.cps.toList) ∧ q1.ok ∧ sl = [some (.c pre.length), some (.d (.str s)), some (.d (.int a)), some (.d (.int b)), some (.d (.str x)), a1] ∧ st' = pre ++ q1.cell :: rest) ⟨Str.ofString "", q', _, by decide +kernel, (fun c hc => by rw [e0] at hc; cases hc), hq', rfl, rfl⟩ ?_ ?_⟩
  · rintro i sl st' hi ⟨x, q1, a1, hx, hs, hq1, rfl, rfl⟩
    walk_at "vc"
    refine wp_draw hq1 ⟨by omega, by omega⟩ fun w q2 g0 g1 hq2 => ?_
    walk_at "vc"
    obtain ⟨j, rfl⟩ := Int.eq_ofNat_of_zero_le g0
    walk_at "vc"
    have hl : s.cps.toList.length = s.length := tl_len s
    rw [List.getElem?_eq_getElem (by omega)]
    walk_at "vc"
    have e : (x ++ (⟨#[s.cps.toList[j]]⟩ : Str)).length = x.length + 1 := app_len _ _
    refine ⟨?_, x ++ ⟨#[s.cps.toList[j]]⟩, q2, _, by omega, fun c hc => ?_, hq2, rfl, rfl⟩
    · show x.length + 1 ≤ lim
      rw [lim_is]
      omega
    · rw [app_tl] at hc
      rcases List.mem_append.mp hc with hc | hc
      · exact hs c hc
      · cases List.mem_singleton.mp hc
        exact List.getElem_mem _
  · rintro sl st' ⟨x, q1, a1, hx, hs, hq1, rfl, rfl⟩
    walk_at "vc"
    exact h x q1 (by omega) (by omega) hs hq1
theorem wp_words {pre rest : Sto} {q : Dl} {s y : Str} {Q : W → Sto → Prop} {X : XP} (hq : q.ok) (h1 : 1 ≤ s.length) (h2 : s.length ≤ 200) (hy1 : 1 ≤ y.length) (hy2 : y.length ≤ 4)
    (h : ∀ (us : List Str) (q' : Dl), us.length ≤ 10 → (∀ u ∈ us, u.length ≤ 100) → q'.ok → Q (.c (pre.length + (rest.length + 1))) (pre ++ q'.cell :: (rest ++ [.lst (us.map .str)]))) : wp (spec_law_words [.c pre.length, .d (.str s), .d (.str y)] (pre ++ q.cell :: rest)) Q X := by
  unfold spec_law_words b_law_words
  walk_at "vc"
  have b1 : ∀ o p, (cutS y o p).length ≤ 4 := fun o p => Nat.le_trans (cutS_len y o p) hy2
  have c1 := b1 (some 1) none
  have c2 := b1 none (some (-1))
  have c3 := b1 (some 1) (some 2)
  refine ⟨by rw [lim_is]; omega, by rw [lim_is]; omega, ?_⟩
  refine wps_forR (fun i sl st' => ∃ (us : List Str) (q1 : Dl) (a1 a2 a3 a4 : Option W), us.length = i + 5 ∧ (∀ u ∈ us, u.length ≤ 100) ∧ q1.ok ∧ sl = [some (.c pre.length), some (.d (.str s)), some (.d (.str y)), some (.c (pre.length + (rest.length + 1))), a1, a2, a3, a4] ∧ st' = pre ++ q1.cell :: (rest ++ [.lst (us.map .str)])) ⟨[Str.ofString "", y, cutS y (some 1) none, cutS y none (some (-1)) ++ y, cutS y (some 1) none ++ cutS y none (some (-1))], q, _, _, _, _, rfl, ?_, hq, rfl, rfl⟩ ?_ ?_
  · intro u hu
    simp only [List.mem_cons, List.not_mem_nil, or_false] at hu
    rcases hu with rfl | rfl | rfl | rfl | rfl
    · decide +kernel
    · omega
    · omega
    · rw [app_len]; omega
    · rw [app_len]; omega
  · rintro i sl st' hi ⟨us, q1, a1, a2, a3, a4, hu, hs, hq1, rfl, rfl⟩
    walk_at "vc"
    refine wp_text hq1 h1 h2 (by decide) (by decide) (by decide) fun x q2 _ hx _ hq2 => ?_
    walk_at "vc"
    refine wp_text hq2 h1 h2 (by decide) (by decide) (by decide) fun z q3 _ hz _ hq3 => ?_
    walk_at "vc"
    have hyl : 0 < y.cps.toList.length := by rw [tl_len]; omega
    rw [List.getElem?_eq_getElem hyl]
    walk_at "vc"
    have b2 : (⟨#[y.cps.toList[0]]⟩ : Str).length = 1 := rfl
    generalize (⟨#[y.cps.toList[0]]⟩ : Str) = y0 at b2 ⊢
    refine ⟨by rw [lim_is]; omega, by rw [lim_is]; omega, wp_draw hq3 (by decide) fun v q4 g0 g1 hq4 => ?_⟩
    obtain ⟨t, ht, et⟩ : ∃ t : Str, t.length ≤ 8 ∧ atI [D.str y, D.str (cutS y none (some (-1))), D.str (cutS y (some 1) none), D.str (cutS y none (some (-1)) ++ cutS y none (some (-1))), D.str (y0 ++ cutS y (some 1) (some 2)), D.str (Str.ofString "")] v = some (.str t) := by
      rcases (by omega : v = 0 ∨ v = 1 ∨ v = 2 ∨ v = 3 ∨ v = 4 ∨ v = 5) with rfl | rfl | rfl | rfl | rfl | rfl
      · exact ⟨_, by omega, rfl⟩
      · exact ⟨_, by omega, rfl⟩
      · exact ⟨_, by omega, rfl⟩
      · exact ⟨_, by rw [app_len]; omega, rfl⟩
      · exact ⟨_, by rw [app_len]; omega, rfl⟩
      · exact ⟨_, by decide +kernel, rfl⟩
    walk_at "vc"
    rw [et]
    walk_at "vc"
    have l1 := app_len x t
    have l2 := app_len (x ++ t) z
    refine ⟨by rw [lim_is]; omega, by rw [lim_is]; omega, by rw [lim_is]; omega, us ++ [x ++ t ++ z], q4, _, _, _, _, by rw [List.length_append, hu, List.length_singleton], fun u h => ?_, hq4, rfl, by simp⟩
    rcases List.mem_append.mp h with h | h
    · exact hs u h
    · cases List.mem_singleton.mp h
      omega
  · rintro sl st' ⟨us, q1, a1, a2, a3, a4, hu, hs, hq1, rfl, rfl⟩
    walk_at "vc"
    exact h us q1 (by omega) hs hq1
end D49

set_option maxHeartbeats 1000000
namespace D49
open PySem L2 Dn Ft
local macro_rules | `(tactic| walk_at "vc") => `(tactic| try simp (decide := true) only [↓wp_var,List.getElem?_map, inS_oneE, inD_ints, dok_intL, pat_stands, pat_good, pat_moves, pat_form, mvD_mk, wD_n, wD_s, ↓wpj_pat, ↓wp_cmpO, ↓wp_tCmpO, ↓kCmpO1_ap, ↓kCmpO2_ap, ↓kCmpO3_ap, ↓kCmpOT_ap, ↓cmp_pat, okR_pat, isO_pat, ↓wp_lenTx, ↓kLenTx_ap, ↓wp_listRg, ↓kListRg_ap, ↓wp_revS, ↓kRevS_ap, ↓wps_asgIx, ↓kAsgIx_ap, ↓kAsgIx2_ap, ↓kAsgIx3_ap, wt2, ↓wp_tupC, ↓kTupC_ap, ↓wp_fin_t, itemsW_nil, itemsW_d, itemsW_c, frzL_nil, frzL_d, frzL_c, frzC, ↓wp_inv, ↓kInv_ap, ↓wp_star, ↓kStar_ap, ↓kStar2_ap, ↓wp_newR, ↓kNewR_ap, pures_map, gDivmod_ii, gSorted_t, intsD_map, List.drop_succ_cons, List.drop_zero, ↓wp_C, ↓wp_pr, ↓wp_lift2, ↓wp_mk, ↓wp_if, ↓wps_if0, ↓wp_aNil, ↓wp_pNone, ↓wp_yes, ↓wp_op, ↓wp_ix, ↓wp_un, ↓wp_aCons, ↓wp_call, ↓wp_tup, ↓wp_lst, ↓wp_cell, ↓wp_tOf, ↓wp_tBl, ↓wp_tCmp, ↓wp_tNot, ↓wp_tAnd, ↓wp_tOr, ↓wp_eIf, ↓wp_eNot, ↓wp_eAnd, ↓wp_eOr, ↓wp_chain, ↓wp_pSome, ↓wp_sl, ↓wp_fn, ↓wp_app, ↓wp_isCell, ↓wp_meth, ↓wp_methK, ↓wp_fnK, ↓wp_new, ↓wp_newK, ↓wp_s1, ↓wp_eTold, ↓kTold_ap, ↓kToldX_ap, ↓wps_seq, ↓wps_skip, ↓wps_brk, ↓wps_cont, ↓wps_retN, ↓wps_expr, ↓wps_ret, ↓wps_sIf, ↓wps_set, ↓wps_par, ↓wps_asg, ↓wps_raise, ↓wps_for, ↓wps_setIx, ↓wps_fld, ↓wp_runB, ↓wp_fin_d, ↓wp_fin_c, ↓wp_iOf, ↓wp_itTup, ↓wp_itLst, ↓wp_itStr, ↓wp_itScr, ↓wp_itC, ↓wp_rng1, ↓wp_rng2, ↓wp_enum, ↓wp_lc, ↓wp_lcC, ↓wp_ok, ↓wp_exc, ↓wp_none, ↓wpo_some, ↓wpo_none, ↓wpd_d, ↓wpd_c, ↓wpc_c, ↓wpi_int, ↓wpb_bl, ↓wpt_tup, ↓wpj_obj, ↓wpl_lst, ↓wpn_ins, ↓wpo_ite, ↓wpo_map, ↓wpo_bind, ↓wp_bnd, ↓wps_stm, ↓kOp2_ap, ↓kIx2_ap, ↓kCons2_ap, ↓kCmp2_ap, ↓kChain3_ap, ↓kChain2_ap, ↓kSl3_ap, ↓kSl2_ap, ↓kApp2_ap, ↓kMeth2_ap, ↓kMethK2_ap, ↓kFnK2_ap, ↓kNewK2_ap, ↓kS12_ap, ↓kOp_ap, ↓kIx_ap, ↓kUn_ap, ↓kCons_ap, ↓kCall_ap, ↓kTup_ap, ↓kLst_ap, ↓kCell_ap, ↓kTOf_ap, ↓kTBl_ap, ↓kCmp_ap, ↓kNot_ap, ↓kAnd_ap, ↓kOr_ap, ↓kEIf_ap, ↓kENot_ap, ↓kEAnd_ap, ↓kEOr_ap, ↓kChain_ap, ↓kPSome_ap, ↓kSl_ap, ↓kFn_ap, ↓kApp_ap, ↓kIsCell_ap, ↓kMeth_ap, ↓kMethK_ap, ↓kFnK_ap, ↓kNew_ap, ↓kNewK_ap, ↓kS1_ap, ↓kFin_ap, ↓kEx_ap, ↓kEnd_ap, ↓kNo_ap, ↓kX_ap, ↓kSeq_ap, ↓kExpr_ap, ↓kRet_ap, ↓kIf_ap, ↓kSet_ap, ↓kPar_ap, ↓kAsg_ap, ↓kRaise_ap, ↓kFor_ap, ↓kSetIx3_ap, ↓kSetIx2_ap, ↓kSetIx1_ap, ↓kFld2_ap, ↓kFld1_ap, ↓kI_ap, ↓kRng1_ap, ↓kRng2_ap, ↓kEnum_ap, ↓kLc_ap, ↓kLcE_ap, ↓kLcC_ap, gN, gT, gsCons, gsNil, Option.bind_some, Option.map_some, gAdd_ii, gAdd_ss, gAdd_tt, gAdd_ll, gSub_ii, gMul_ii, gDiv_ii, gMod_ii, gPow_ii, gLt_ii, gLe_ii, gGt_ii, gGe_ii, gLt_ss, gLe_ss, gIn_t, gIn_l, gIn_s, gNotIn_t, gNotIn_l, gNotIn_s, gIsN_n, gNotN_n, isN_non, isN_str, isN_int, isN_bl, isN_tup, isN_lst, isN_obj, gNeg_i, gLen_s, gLen_t, gLen_l, gAbs_i, gMax2_i, gMin2_i, gInt_i, gInt_b, gTuple_t, gTuple_l, gList_t, gList_l, gStr_i, gAll_l, gAny_l, gIx_l, gIx_t, gIx_s, gSl_l, gSl_t, gSl_s, truD_n, truD_b, truD_i, truD_s, truD_t, truD_l, view_dd, viewL_dd, vCell_l, vCell_i, view_cc, viewL_cc, viewL_scr, views_nil, wpo_views, pures_nil, pures_d, ixN_natE, ixN_lit, atI_natE, atI_lit, bools_mapE, bools_nil, bools_cons, all_idE, txts_mapE, cutL_to, cutL_toL, cutL_from, cutL_fromL, Int.zero_add, swapG, appG, ← List.map_take, ← List.map_drop, true_or, or_true, false_or, or_false, startW, putD, wipeW, wp1, wp2, wps1, List.length_cons, List.length_nil, List.map_cons, List.map_nil, List.replicate, List.cons_append, List.nil_append, List.append_assoc, List.getElem?_cons_zero, List.getElem?_cons_succ, List.set_cons_zero, List.set_cons_succ, List.take_succ_cons, List.take_zero, List.take_length, app_get, app_get0, app_set, app_set0, app_take, app_take0, List.length_append, List.length_map, gIs, isT, gEq, gNe, dok_str, dok_int, dok_bl, dok_non, dok_tup, dok_lst, eqD_str', eqD_int, inD_strs, dok_strL, List.all_cons, List.all_nil, String.reduceBEq, Bool.not_true, Bool.not_false, Bool.or_false, Bool.or_true, Bool.false_or, Bool.true_or, Bool.and_true, Bool.true_and, Bool.and_false, Bool.false_and, if_true, if_false, reduceCtorEq, Bool.false_eq_true, and_self, true_and, and_true, decide_true, decide_false, decide_eq_true_eq, Bool.not_eq_true', decide_eq_false_iff_not, Nat.zero_add, Nat.reduceAdd, Nat.reduceSub, Nat.reduceLT, Nat.reduceLeDiff, Int.reduceLT, Int.reduceLE, Int.reduceAdd, Int.reduceSub, Int.reduceMul, Int.reduceNeg, Int.reducePow, not_true_eq_false, not_false_eq_true, Nat.sub_self, Nat.lt_irrefl])
local macro_rules | `(tactic| walk_at "vcs") => `(tactic| try simp (decide := true) only [↓wp_var,List.getElem?_map, inS_oneE, inD_ints, dok_intL, pat_stands, pat_good, pat_moves, pat_form, mvD_mk, wD_n, wD_s, ↓wpj_pat, ↓wp_cmpO, ↓wp_tCmpO, ↓kCmpO1_ap, ↓kCmpO2_ap, ↓kCmpO3_ap, ↓kCmpOT_ap, ↓cmp_pat, okR_pat, isO_pat, ↓wp_lenTx, ↓kLenTx_ap, ↓wp_listRg, ↓kListRg_ap, ↓wp_revS, ↓kRevS_ap, ↓wps_asgIx, ↓kAsgIx_ap, ↓kAsgIx2_ap, ↓kAsgIx3_ap, wt2, ↓wp_tupC, ↓kTupC_ap, ↓wp_fin_t, itemsW_nil, itemsW_d, itemsW_c, frzL_nil, frzL_d, frzL_c, frzC, ↓wp_inv, ↓kInv_ap, ↓wp_star, ↓kStar_ap, ↓kStar2_ap, ↓wp_newR, ↓kNewR_ap, pures_map, gDivmod_ii, gSorted_t, intsD_map, List.drop_succ_cons, List.drop_zero, ↓wp_C, ↓wp_pr, ↓wp_lift2, ↓wp_mk, ↓wp_if, ↓wps_if0, ↓wp_aNil, ↓wp_pNone, ↓wp_yes, ↓wp_op, ↓wp_ix, ↓wp_un, ↓wp_aCons, ↓wp_call, ↓wp_tup, ↓wp_lst, ↓wp_cell, ↓wp_tOf, ↓wp_tBl, ↓wp_tCmp, ↓wp_tNot, ↓wp_tAnd, ↓wp_tOr, ↓wp_eIf, ↓wp_eNot, ↓wp_eAnd, ↓wp_eOr, ↓wp_chain, ↓wp_pSome, ↓wp_sl, ↓wp_fn, ↓wp_app, ↓wp_isCell, ↓wp_meth, ↓wp_methK, ↓wp_fnK, ↓wp_new, ↓wp_newK, ↓wp_s1, ↓wp_eTold, ↓kTold_ap, ↓kToldX_ap, ↓wps_seq, ↓wps_skip, ↓wps_brk, ↓wps_cont, ↓wps_retN, ↓wps_expr, ↓wps_ret, ↓wps_sIf, ↓wps_set, ↓wps_par, ↓wps_asg, ↓wps_raise, ↓wps_for, ↓wps_setIx, ↓wps_fld, ↓wp_runB, ↓wp_fin_d, ↓wp_fin_c, ↓wp_iOf, ↓wp_itTup, ↓wp_itLst, ↓wp_itStr, ↓wp_itScr, ↓wp_itC, ↓wp_rng1, ↓wp_rng2, ↓wp_enum, ↓wp_lc, ↓wp_lcC, ↓wp_ok, ↓wp_exc, ↓wp_none, ↓wpo_some, ↓wpo_none, ↓wpd_d, ↓wpd_c, ↓wpc_c, ↓wpi_int, ↓wpb_bl, ↓wpt_tup, ↓wpj_obj, ↓wpl_lst, ↓wpn_ins, ↓wpo_ite, ↓wpo_map, ↓wpo_bind, ↓wp_bnd, ↓wps_stm, ↓kOp2_ap, ↓kIx2_ap, ↓kCons2_ap, ↓kCmp2_ap, ↓kChain3_ap, ↓kChain2_ap, ↓kSl3_ap, ↓kSl2_ap, ↓kApp2_ap, ↓kMeth2_ap, ↓kMethK2_ap, ↓kFnK2_ap, ↓kNewK2_ap, ↓kS12_ap, ↓kOp_ap, ↓kIx_ap, ↓kUn_ap, ↓kCons_ap, ↓kCall_ap, ↓kTup_ap, ↓kLst_ap, ↓kCell_ap, ↓kTOf_ap, ↓kTBl_ap, ↓kCmp_ap, ↓kNot_ap, ↓kAnd_ap, ↓kOr_ap, ↓kEIf_ap, ↓kENot_ap, ↓kEAnd_ap, ↓kEOr_ap, ↓kChain_ap, ↓kPSome_ap, ↓kSl_ap, ↓kFn_ap, ↓kApp_ap, ↓kIsCell_ap, ↓kMeth_ap, ↓kMethK_ap, ↓kFnK_ap, ↓kNew_ap, ↓kNewK_ap, ↓kS1_ap, ↓kFin_ap, ↓kEx_ap, ↓kEnd_ap, ↓kNo_ap, ↓kX_ap, ↓kSeq_ap, ↓kExpr_ap, ↓kRet_ap, ↓kIf_ap, ↓kSet_ap, ↓kPar_ap, ↓kAsg_ap, ↓kRaise_ap, ↓kFor_ap, ↓kSetIx3_ap, ↓kSetIx2_ap, ↓kSetIx1_ap, ↓kFld2_ap, ↓kFld1_ap, ↓kI_ap, ↓kRng1_ap, ↓kRng2_ap, ↓kEnum_ap, ↓kLc_ap, ↓kLcE_ap, ↓kLcC_ap, gN, gT, gsCons, gsNil, Option.bind_some, Option.map_some, gAdd_ii, gAdd_ss, gAdd_tt, gAdd_ll, gSub_ii, gMul_ii, gDiv_ii, gMod_ii, gPow_ii, gLt_ii, gLe_ii, gGt_ii, gGe_ii, gLt_ss, gLe_ss, gIn_t, gIn_l, gIn_s, gNotIn_t, gNotIn_l, gNotIn_s, gIsN_n, gNotN_n, isN_non, isN_str, isN_int, isN_bl, isN_tup, isN_lst, isN_obj, gNeg_i, gLen_s, gLen_t, gLen_l, gAbs_i, gMax2_i, gMin2_i, gInt_i, gInt_b, gTuple_t, gTuple_l, gList_t, gList_l, gStr_i, gAll_l, gAny_l, gIx_l, gIx_t, gIx_s, gSl_l, gSl_t, gSl_s, truD_n, truD_b, truD_i, truD_s, truD_t, truD_l, view_dd, viewL_dd, vCell_l, vCell_i, view_cc, viewL_cc, viewL_scr, views_nil, wpo_views, pures_nil, pures_d, ixN_natE, ixN_lit, atI_natE, atI_lit, bools_mapE, bools_nil, bools_cons, all_idE, txts_mapE, cutL_to, cutL_toL, cutL_from, cutL_fromL, Int.zero_add, swapG, appG, ← List.map_take, ← List.map_drop, true_or, or_true, false_or, or_false, startW, putD, wipeW, wp1, wp2, wps1, List.length_cons, List.length_nil, List.map_cons, List.map_nil, List.replicate, List.cons_append, List.nil_append, List.append_assoc, List.getElem?_cons_zero, List.getElem?_cons_succ, List.set_cons_zero, List.set_cons_succ, List.take_succ_cons, List.take_zero, List.take_length, app_get, app_get0, app_set, app_set0, app_take, app_take0, List.length_append, List.length_map, gIs, isT, gEq, gNe, dok_str, dok_int, dok_bl, dok_non, dok_tup, dok_lst, eqD_str', eqD_int, inD_strs, dok_strL, List.all_cons, List.all_nil, String.reduceBEq, Bool.not_true, Bool.not_false, Bool.or_false, Bool.or_true, Bool.false_or, Bool.true_or, Bool.and_true, Bool.true_and, Bool.and_false, Bool.false_and, if_true, if_false, reduceCtorEq, Bool.false_eq_true, and_self, true_and, and_true, decide_true, decide_false, decide_eq_true_eq, Bool.not_eq_true', decide_eq_false_iff_not, Nat.zero_add, Nat.reduceAdd, Nat.reduceSub, Nat.reduceLT, Nat.reduceLeDiff, Int.reduceLT, Int.reduceLE, Int.reduceAdd, Int.reduceSub, Int.reduceMul, Int.reduceNeg, Int.reducePow, not_true_eq_false, not_false_eq_true, Nat.sub_self, Nat.lt_irrefl, *])
local macro_rules | `(tactic| walk_at "vn") => `(tactic| try simp (decide := true) only [↓wp_var,List.getElem?_map, inS_oneE, inD_ints, dok_intL, pat_stands, pat_good, pat_moves, pat_form, mvD_mk, wD_n, wD_s, ↓wpj_pat, ↓wp_cmpO, ↓wp_tCmpO, ↓kCmpO1_ap, ↓kCmpO2_ap, ↓kCmpO3_ap, ↓kCmpOT_ap, ↓cmp_pat, okR_pat, isO_pat, ↓wp_lenTx, ↓kLenTx_ap, ↓wp_listRg, ↓kListRg_ap, ↓wp_revS, ↓kRevS_ap, ↓wps_asgIx, ↓kAsgIx_ap, ↓kAsgIx2_ap, ↓kAsgIx3_ap, wt2, ↓wp_tupC, ↓kTupC_ap, ↓wp_fin_t, itemsW_nil, itemsW_d, itemsW_c, frzL_nil, frzL_d, frzL_c, frzC, ↓wp_inv, ↓kInv_ap, ↓wp_star, ↓kStar_ap, ↓kStar2_ap, ↓wp_newR, ↓kNewR_ap, pures_map, gDivmod_ii, gSorted_t, intsD_map, List.drop_succ_cons, List.drop_zero, ↓wp_C, ↓wp_pr, ↓wp_lift2, ↓wp_mk, ↓wp_if, ↓wps_if0, ↓wp_aNil, ↓wp_pNone, ↓wp_yes, ↓wp_op, ↓wp_ix, ↓wp_un, ↓wp_aCons, ↓wp_call, ↓wp_tup, ↓wp_lst, ↓wp_cell, ↓wp_tOf, ↓wp_tBl, ↓wp_tCmp, ↓wp_tNot, ↓wp_tAnd, ↓wp_tOr, ↓wp_eIf, ↓wp_eNot, ↓wp_eAnd, ↓wp_eOr, ↓wp_chain, ↓wp_pSome, ↓wp_sl, ↓wp_fn, ↓wp_app, ↓wp_isCell, ↓wp_meth, ↓wp_methK, ↓wp_fnK, ↓wp_new, ↓wp_newK, ↓wp_s1, ↓wp_eTold, ↓kTold_ap, ↓kToldX_ap, ↓wps_seq, ↓wps_skip, ↓wps_brk, ↓wps_cont, ↓wps_retN, ↓wps_expr, ↓wps_ret, ↓wps_set, ↓wps_par, ↓wps_asg, ↓wps_raise, ↓wps_for, ↓wps_setIx, ↓wps_fld, ↓wp_runB, ↓wp_fin_d, ↓wp_fin_c, ↓wp_iOf, ↓wp_itTup, ↓wp_itLst, ↓wp_itStr, ↓wp_itScr, ↓wp_itC, ↓wp_rng1, ↓wp_rng2, ↓wp_enum, ↓wp_lc, ↓wp_lcC, ↓wp_ok, ↓wp_exc, ↓wp_none, ↓wpo_some, ↓wpo_none, ↓wpd_d, ↓wpd_c, ↓wpc_c, ↓wpi_int, ↓wpb_bl, ↓wpt_tup, ↓wpj_obj, ↓wpl_lst, ↓wpn_ins, ↓wpo_ite, ↓wpo_map, ↓wpo_bind, ↓wp_bnd, ↓wps_stm, ↓kOp2_ap, ↓kIx2_ap, ↓kCons2_ap, ↓kCmp2_ap, ↓kChain3_ap, ↓kChain2_ap, ↓kSl3_ap, ↓kSl2_ap, ↓kApp2_ap, ↓kMeth2_ap, ↓kMethK2_ap, ↓kFnK2_ap, ↓kNewK2_ap, ↓kS12_ap, ↓kOp_ap, ↓kIx_ap, ↓kUn_ap, ↓kCons_ap, ↓kCall_ap, ↓kTup_ap, ↓kLst_ap, ↓kCell_ap, ↓kTOf_ap, ↓kTBl_ap, ↓kCmp_ap, ↓kNot_ap, ↓kAnd_ap, ↓kOr_ap, ↓kEIf_ap, ↓kENot_ap, ↓kEAnd_ap, ↓kEOr_ap, ↓kChain_ap, ↓kPSome_ap, ↓kSl_ap, ↓kFn_ap, ↓kApp_ap, ↓kIsCell_ap, ↓kMeth_ap, ↓kMethK_ap, ↓kFnK_ap, ↓kNew_ap, ↓kNewK_ap, ↓kS1_ap, ↓kFin_ap, ↓kEx_ap, ↓kEnd_ap, ↓kNo_ap, ↓kX_ap, ↓kSeq_ap, ↓kExpr_ap, ↓kRet_ap, ↓kIf_ap, ↓kSet_ap, ↓kPar_ap, ↓kAsg_ap, ↓kRaise_ap, ↓kFor_ap, ↓kSetIx3_ap, ↓kSetIx2_ap, ↓kSetIx1_ap, ↓kFld2_ap, ↓kFld1_ap, ↓kI_ap, ↓kRng1_ap, ↓kRng2_ap, ↓kEnum_ap, ↓kLc_ap, ↓kLcE_ap, ↓kLcC_ap, gN, gT, gsCons, gsNil, Option.bind_some, Option.map_some, gAdd_ii, gAdd_ss, gAdd_tt, gAdd_ll, gSub_ii, gMul_ii, gDiv_ii, gMod_ii, gPow_ii, gLt_ii, gLe_ii, gGt_ii, gGe_ii, gLt_ss, gLe_ss, gIn_t, gIn_l, gIn_s, gNotIn_t, gNotIn_l, gNotIn_s, gIsN_n, gNotN_n, isN_non, isN_str, isN_int, isN_bl, isN_tup, isN_lst, isN_obj, gNeg_i, gLen_s, gLen_t, gLen_l, gAbs_i, gMax2_i, gMin2_i, gInt_i, gInt_b, gTuple_t, gTuple_l, gList_t, gList_l, gStr_i, gAll_l, gAny_l, gIx_l, gIx_t, gIx_s, gSl_l, gSl_t, gSl_s, truD_n, truD_b, truD_i, truD_s, truD_t, truD_l, view_dd, viewL_dd, vCell_l, vCell_i, view_cc, viewL_cc, viewL_scr, views_nil, wpo_views, pures_nil, pures_d, ixN_natE, ixN_lit, atI_natE, atI_lit, bools_mapE, bools_nil, bools_cons, all_idE, txts_mapE, cutL_to, cutL_toL, cutL_from, cutL_fromL, Int.zero_add, swapG, appG, ← List.map_take, ← List.map_drop, true_or, or_true, false_or, or_false, startW, putD, wipeW, wp1, wp2, wps1, List.length_cons, List.length_nil, List.map_cons, List.map_nil, List.replicate, List.cons_append, List.nil_append, List.append_assoc, List.getElem?_cons_zero, List.getElem?_cons_succ, List.set_cons_zero, List.set_cons_succ, List.take_succ_cons, List.take_zero, List.take_length, app_get, app_get0, app_set, app_set0, app_take, app_take0, List.length_append, List.length_map, gIs, isT, gEq, gNe, dok_str, dok_int, dok_bl, dok_non, dok_tup, dok_lst, eqD_str', eqD_int, inD_strs, dok_strL, List.all_cons, List.all_nil, String.reduceBEq, Bool.not_true, Bool.not_false, Bool.or_false, Bool.or_true, Bool.false_or, Bool.true_or, Bool.and_true, Bool.true_and, Bool.and_false, Bool.false_and, if_true, if_false, reduceCtorEq, Bool.false_eq_true, and_self, true_and, and_true, decide_true, decide_false, decide_eq_true_eq, Bool.not_eq_true', decide_eq_false_iff_not, Nat.zero_add, Nat.reduceAdd, Nat.reduceSub, Nat.reduceLT, Nat.reduceLeDiff, Int.reduceLT, Int.reduceLE, Int.reduceAdd, Int.reduceSub, Int.reduceMul, Int.reduceNeg, Int.reducePow, not_true_eq_false, not_false_eq_true, Nat.sub_self, Nat.lt_irrefl])

theorem small_shB {i : Int} (h : 0 ≤ i ∧ i < 6) : shB (.int i) ≤ 2 ∧ fine (.int i) = true := by
  have h1 : i.natAbs < 10 ^ 1 := by omega
  exact ⟨int_len (i := i) (k := 1) (by decide) h1, decide_eq_true (log_ok h1 (by decide))⟩
theorem shows_w {w : Option Str} (h : okW w) : shB (wD w) ≤ 962 ∧ fine (wD w) = true ∧ ∀ n, dok n (wD w) = true := by
  cases w with
  | none => exact ⟨by decide, rfl, fun n => dok_non n⟩
  | some s =>
    unfold okW at h
    refine ⟨by show 10 * s.length + 2 ≤ 962; omega, ?_, fun n => ?_⟩
    · show fineS s = true
      unfold fineS
      rw [List.all_eq_true]
      intro c hc
      have := SG_ascii c (h.2.2.1 c hc)
      exact decide_eq_true (by omega)
    · unfold wD
      rw [dok_str]
theorem shows_mv {n : Int} {m : Mv} (hn : n ≤ 5) (h : okMv n m) : shB (mvD m) ≤ 980 ∧ fine (mvD m) = true ∧ ∀ k, dok (k + 1) (mvD m) = true := by
  obtain ⟨i, w, j⟩ := m
  obtain ⟨h1, h2, h3⟩ := h
  simp only at h1 h2 h3
  have a := small_shB (i := i) (by omega)
  have b := small_shB (i := j) (by omega)
  have c := shows_w h2
  rw [mvD_mk]
  refine ⟨?_, ?_, fun k => ?_⟩
  · simp only [shB, shBs] at a b ⊢
    omega
  · simp only [fine, fines, Bool.and_true] at a b ⊢
    rw [a.2, b.2, c.2.1]
    rfl
  · rw [dok_tup, List.all_cons, List.all_cons, List.all_cons, List.all_nil, dok_int, dok_int, c.2.2]
    rfl
theorem shows_ms {n : Int} (hn : n ≤ 5) : ∀ {ms : List Mv}, (∀ m ∈ ms, okMv n m) → shBs (ms.map mvD) ≤ 982 * ms.length ∧ fines (ms.map mvD) = true ∧ ∀ k, (ms.map mvD).all (dok (k + 1)) = true
  | [], _ => ⟨Nat.le_refl _, rfl, fun _ => rfl⟩
  | m :: ms, h => by
    have h1 := shows_mv hn (h m (.head _))
    have h2 := shows_ms hn fun i hi => h i (.tail _ hi)
    refine ⟨?_, ?_, fun k => ?_⟩
    · simp only [List.map_cons, shBs, List.length_cons]; omega
    · simp only [List.map_cons, fines, h1.2.1, h2.2.1, Bool.and_true]
    · rw [List.map_cons, List.all_cons, h1.2.2, h2.2.2]; rfl
theorem eqD_w : ∀ a b : Option Str, eqD (wD a) (wD b) = decide (a = b)
  | none, none => rfl
  | none, some b => rfl
  | some a, none => rfl
  | some a, some b => by
    rw [wD_s, wD_s, eqD_str']
    simp
theorem eqD_mv (a b : Mv) : eqD (mvD a) (mvD b) = decide (a = b) := by
  obtain ⟨i, w, j⟩ := a
  obtain ⟨i', w', j'⟩ := b
  rw [mvD_mk, mvD_mk, eqD_tt, eqDs_cc, eqDs_cc, eqDs_cc, eqDs_nil, eqD_int, eqD_int, eqD_w]
  simp [Bool.decide_and]
theorem eq_form (n n' : Int) (good good' : List Int) (ms ms' : List Mv) : eqD (.tup [.int n, .tup (good.map .int), .tup (ms.map mvD)]) (.tup [.int n', .tup (good'.map .int), .tup (ms'.map mvD)]) = decide (n = n' ∧ good = good' ∧ ms = ms') := by
  rw [eqD_tt, eqDs_cc, eqDs_cc, eqDs_cc, eqDs_nil, eqD_int, eqD_tt, eqD_tt, eqDs_map eqD_int, eqDs_map eqD_mv]
  simp [Bool.decide_and]
theorem dok_mvs {n : Int} {good : List Int} {ms : List Mv} (ok : okP n good ms) (k : Nat) : (ms.map mvD).all (dok (k + 1)) = true := (shows_ms ok.rg.2 ok.mm).2.2 k
theorem wp_peq {n n' : Int} {good good' : List Int} {ms ms' : List Mv} {st : Sto} {Q : W → Sto → Prop} {X : XP} (ok : okP n good ms) (ok' : okP n' good' ms') (h : Q (.d (.bl (decide (n = n' ∧ good = good' ∧ ms = ms')))) st) : wp (spec_Pattern___eq__ [.d (patD n good ms), .d (patD n' good' ms')] st) Q X := by
  unfold spec_Pattern___eq__ b_Pattern___eq__
  walk_at "vc"
  simp only [dok_tup, dok_int, dok_intL, List.all_cons, List.all_nil, dok_mvs ok, dok_mvs ok', Bool.and_true, if_true, eq_form]
  walk_at "vc"
  exact h
theorem others_ne {n : Int} {good others : List Int} {ms : List Mv} (ok : okP n good ms) (e : others = (rgI n).filter (fun i => decide (i ∉ good))) : others ≠ good := by
  intro z
  have h0 : (0 : Int) ∈ rgI n := rgI_get (by have := ok.rg; omega)
  by_cases g : (0 : Int) ∈ good
  · have := g
    rw [← z, e, List.mem_filter, decide_eq_true_eq] at this
    exact this.2 g
  · refine g ?_
    rw [← z, e, List.mem_filter, decide_eq_true_eq]
    exact ⟨h0, g⟩
theorem shows_b2 {a b : Bool} : Shows (.lst [.bl a, .bl b]) := by
  cases a <;> cases b <;> exact ⟨rfl, rfl, by show _ ≤ lim; rw [lim_is]; decide⟩
theorem shows_bl {b : Bool} : Shows (.bl b) := ⟨rfl, rfl, by show 5 ≤ lim; rw [lim_is]; omega⟩
theorem without_is {y : Str} (ok : okT y) : ∃ (n : Int) (good : List Int) (ms : List Mv), okP n good ms ∧ (∀ w : Str, decide (walkM ms 0 w.cps.toList ∈ good) = !decide (y.cps.toList <:+: w.cps.toList)) ∧ ∀ (st : Sto) (Q : W → Sto → Prop) (X : XP), Q (.d (patD n good ms)) st → wp (spec_Pattern_without [.d (.str y)] st) Q X :=
  ⟨_, _, _, ok.ok, fun w => keeps_is ok.as ok.l1, fun st Q X h => wp_without ok h⟩
theorem sg_let : ∀ s : Str, s = "ab" ∨ s = "ba" ∨ s = "(1" ∨ s = "\n " ∨ s = SG → 1 ≤ s.length ∧ s.length ≤ 95 ∧ ∀ c ∈ s.cps.toList, c ∈ SG.cps.toList := by
  rintro s (rfl | rfl | rfl | rfl | rfl)
  · exact ⟨by decide +kernel, by decide +kernel, by decide +kernel⟩
  · exact ⟨by decide +kernel, by decide +kernel, by decide +kernel⟩
  · exact ⟨by decide +kernel, by decide +kernel, by decide +kernel⟩
  · exact ⟨by decide +kernel, by decide +kernel, by decide +kernel⟩
  · exact ⟨by rw [SG_len]; decide, by rw [SG_len]; decide, fun _ h => h⟩
theorem wp_right {pre : Sto} {q : Dl} {Q : W → Sto → Prop} {X : XP} (hq : q.ok) (h : ∀ q' : Dl, Q (.d (.bl true)) (pre ++ [q'.cell])) : wp (spec_law_right [.c pre.length] (pre ++ [q.cell])) Q X := by
  unfold spec_law_right b_law_right
  walk_at "vc"
  refine wp_draw hq (by decide) fun v q1 h0 h1 hq1 => ?_
  walk_at "vc"
  obtain ⟨lt, hlt, elt⟩ : ∃ lt : Str, (lt = "ab" ∨ lt = "ba" ∨ lt = "(1" ∨ lt = "\n ") ∧ atI [D.str "ab", D.str "ba", D.str "(1", D.str "\n "] v = some (.str lt) := by
    rcases (by omega : v = 0 ∨ v = 1 ∨ v = 2 ∨ v = 3) with rfl | rfl | rfl | rfl
    · exact ⟨_, .inl rfl, rfl⟩
    · exact ⟨_, .inr (.inl rfl), rfl⟩
    · exact ⟨_, .inr (.inr (.inl rfl)), rfl⟩
    · exact ⟨_, .inr (.inr (.inr rfl)), rfl⟩
  rw [elt]
  walk_at "vc"
  refine wp_signs ?_
  walk_at "vc"
  refine wp_draw hq1 (by decide) fun u q2 g0 g1 hq2 => ?_
  walk_at "vc"
  obtain ⟨s1, hs1, es1⟩ : ∃ s1 : Str, (s1 = "ab" ∨ s1 = "ba" ∨ s1 = "(1" ∨ s1 = "\n " ∨ s1 = SG) ∧ atI [D.str lt, D.str SG] (if u = 0 then 1 else 0) = some (.str s1) := by
    by_cases hu : u = 0
    · rw [if_pos hu]; exact ⟨_, .inr (.inr (.inr (.inr rfl))), rfl⟩
    · rw [if_neg hu]
      refine ⟨lt, ?_, rfl⟩
      rcases hlt with h | h | h | h
      · exact .inl h
      · exact .inr (.inl h)
      · exact .inr (.inr (.inl h))
      · exact .inr (.inr (.inr (.inl h)))
  rw [es1]
  walk_at "vc"
  obtain ⟨l1, l2, l3⟩ := sg_let s1 hs1
  have hlt1 : 1 ≤ lt.length ∧ lt.length ≤ 95 := by
    rcases hlt with rfl | rfl | rfl | rfl <;> exact ⟨by decide +kernel, by decide +kernel⟩
  refine wp_text hq2 l1 (by omega) (by decide) (by decide) (by decide) fun y q3 y1 y4 hy hq3 => ?_
  have ok : okT y := ⟨by omega, by omega, fun c hc => l3 c (hy c hc)⟩
  obtain ⟨n, good, ms, okp, hk, hw⟩ := without_is ok
  walk_at "vc"
  refine hw _ _ _ ?_
  walk_at "vc"
  refine hw _ _ _ ?_
  walk_at "vc"
  refine wp_invert okp fun others eo ok' => ?_
  have ne := others_ne okp eo
  have hne : decide (n = n ∧ good = others ∧ ms = ms) = false := decide_eq_false fun h => ne h.2.1.symm
  have heq : decide (n = n ∧ good = good ∧ ms = ms) = true := decide_eq_true ⟨rfl, rfl, rfl⟩
  walk_at "vc"
  refine hw _ _ _ ?_
  walk_at "vc"
  refine wp_peq okp okp ?_
  rw [heq]
  walk_at "vc"
  refine wp_peq okp ok' ?_
  rw [hne]
  walk_at "vc"
  have kb : ∀ w : Str, decide (walkM ms 0 w.cps.toList ∈ others) = decide (y.cps.toList <:+: w.cps.toList) := fun w => by
    have hw := walkM_in okp.mm (cs := w.cps.toList) (i := 0) ⟨by omega, by have := okp.rg; omega⟩
    have key : decide (walkM ms 0 w.cps.toList ∈ others) = !decide (walkM ms 0 w.cps.toList ∈ good) := by
      rw [eo]
      simp [List.mem_filter, rgI_get hw]
    rw [key, hk, Bool.not_not]
  refine ⟨by rw [lim_is]; omega, wp_words hq3 (by rw [app_len]; omega) (by rw [app_len]; omega) ok.l1 ok.l4 fun us q4 hul hus hq4 => ?_⟩
  walk_at "vc"
  refine wps_forC (fun ds sl st' => (∃ vs : List Str, ds = vs.map .str ∧ ∀ u ∈ vs, u.length ≤ 100) ∧ ∃ a b, sl = [some (.c pre.length), some (.d (.str lt)), some (.d (.str SG)), some (.d (.str y)), some (.d (patD n good ms)), some (.d (patD n others ms)), a, b] ∧ st' = pre ++ [q4.cell, Cell.lst (us.map .str)]) ?_ ?_ ?_ _ ⟨⟨us, rfl, hus⟩, _, _, rfl, rfl⟩
  · rintro ds sl st' ⟨_, a, b, rfl, rfl⟩
    walk_at "vc"
    simp [chkOk]
  · rintro d ds sl st' ⟨⟨vs, e, hvs⟩, a, b, rfl, rfl⟩
    cases vs with
    | nil => cases e
    | cons u vs =>
      cases e
      walk_at "vc"
      refine wp_stands_in ok.l1 (by have := hvs u (.head _); omega) ?_
      walk_at "vc"
      refine ⟨rfl, wp_keeps okp ?_⟩
      walk_at "vc"
      refine ⟨rfl, wp_keeps ok' ?_⟩
      walk_at "vc"
      rw [hk, kb, repr_ok shows_b2]
      walk_at "vc"
      rw [Bool.not_not, repr_ok shows_b2]
      walk_at "vc"
      exact ⟨⟨vs, rfl, fun u h => hvs u (.tail _ h)⟩, _, _, rfl⟩
  · rintro sl st' ⟨_, a, b, rfl, rfl⟩
    walk_at "vc"
    refine hw _ _ _ ?_
    walk_at "vc"
    refine wp_peq okp okp ?_
    rw [heq]
    walk_at "vc"
    refine ⟨rfl, wp_keeps okp ?_⟩
    walk_at "vc"
    rw [hk, repr_ok shows_bl]
    walk_at "vc"
    refine wp_stands_in ok.l1 (by rw [SG_len]; decide) ?_
    walk_at "vc"
    rw [repr_ok shows_bl]
    walk_at "vc"
    exact h q4
theorem bools_rep (n : Nat) : bools (List.replicate n (D.bl true)) = some (List.replicate n true) := by
  induction n with
  | zero => rfl
  | succ n ih => rw [List.replicate_succ, bools, ih]; rfl
theorem law_true (ns : List Int) (hn : ns.length ≤ 63) : ∃ st, spec_law [.scr ns] [] = some (.ok (.d (.bl true)), st) := by
  refine law_of ?_
  unfold spec_law b_law
  walk_at "vc"
  have hm : ∃ n : Nat, (if (if (12 : Int) < (ns.length : Int) then (12 : Int) else (ns.length : Int)) > 3 then (if (12 : Int) < (ns.length : Int) then (12 : Int) else (ns.length : Int)) else 3) = (n : Int) ∧ n ≤ 12 := by
    by_cases h5 : (12 : Int) < (ns.length : Int)
    · rw [if_pos h5]; exact ⟨12, by decide, by decide⟩
    · rw [if_neg h5]
      by_cases h2 : (ns.length : Int) > 3
      · rw [if_pos h2]; exact ⟨ns.length, rfl, by omega⟩
      · rw [if_neg h2]; exact ⟨3, rfl, by decide⟩
  obtain ⟨n, e, hn5⟩ := hm
  rw [e]
  refine ⟨by omega, wp_lcR (fun i acc st' => acc = List.replicate i (.bl true)) rfl ?_ ?_⟩
  · rintro i acc st' hi rfl
    walk_at "vc"
    refine wp_cellI (by omega) (by omega) fun x => ?_
    walk_at "vc"
    refine wp_pool fun q hq => ?_
    walk_at "vc"
    refine wp_right hq fun q' => ?_
    walk_at "vc"
    rw [← List.replicate_succ', List.replicate_succ]
  · rintro acc st' rfl
    walk_at "vc"
    rw [bools_rep]
    walk_at "vc"
    rw [List.all_replicate]
    simp
end D49

namespace D49
open PySem L2 Ft Dn LamX StX
def top (i : Nat) : Stmt := PySem.Challenge.pw_fivetrees_k49_texts_without.main.body.getD i (.Pass ⟨0, 0, 0, 0⟩)
def inClass (c : Stmt) (i : Nat) : Stmt := match c with
  | .ClassDef (body := b) .. => b.getD i (.Pass ⟨0, 0, 0, 0⟩)
  | _ => .Pass ⟨0, 0, 0, 0⟩
abbrev s_is_whole : Stmt := top 10
abbrev N_is_whole : List Str := ["value"]
theorem sc_is_whole : FnScope N_is_whole ["value"] (defScope s_is_whole) := ⟨rfl, rfl, rfl, by decide +kernel, rfl, by decide +kernel, by decide +kernel⟩
abbrev s_is_between : Stmt := top 11
abbrev N_is_between : List Str := ["value", "least", "most"]
theorem sc_is_between : FnScope N_is_between ["value", "least", "most"] (defScope s_is_between) := ⟨rfl, rfl, rfl, by decide +kernel, rfl, by decide +kernel, by decide +kernel⟩
abbrev s_is_sign : Stmt := top 12
abbrev N_is_sign : List Str := ["sign"]
theorem sc_is_sign : FnScope N_is_sign ["sign"] (defScope s_is_sign) := ⟨rfl, rfl, rfl, by decide +kernel, rfl, by decide +kernel, by decide +kernel⟩
abbrev s_is_string : Stmt := top 13
abbrev N_is_string : List Str := ["value", "least", "most", "sign"]
theorem sc_is_string : FnScope N_is_string ["value", "least", "most"] (defScope s_is_string) := ⟨rfl, rfl, rfl, by decide +kernel, rfl, by decide +kernel, by decide +kernel⟩
abbrev s_are_unlike : Stmt := top 14
abbrev N_are_unlike : List Str := ["values"]
theorem sc_are_unlike : FnScope N_are_unlike ["values"] (defScope s_are_unlike) := ⟨rfl, rfl, rfl, by decide +kernel, rfl, by decide +kernel, by decide +kernel⟩
abbrev s_check_good : Stmt := top 17
abbrev N_check_good : List Str := ["stands", "value", "earlier", "index", "stand"]
theorem sc_check_good : FnScope N_check_good ["stands", "value"] (defScope s_check_good) := ⟨rfl, rfl, rfl, by decide +kernel, rfl, by decide +kernel, by decide +kernel⟩
abbrev s_is_move : Stmt := top 18
abbrev N_is_move : List Str := ["stands", "value"]
theorem sc_is_move : FnScope N_is_move ["stands", "value"] (defScope s_is_move) := ⟨rfl, rfl, rfl, by decide +kernel, rfl, by decide +kernel, by decide +kernel⟩
abbrev s_check_moves : Stmt := top 19
abbrev N_check_moves : List Str := ["stands", "value", "index", "move"]
theorem sc_check_moves : FnScope N_check_moves ["stands", "value"] (defScope s_check_moves) := ⟨rfl, rfl, rfl, by decide +kernel, rfl, by decide +kernel, by decide +kernel⟩
abbrev s_overlap_of : Stmt := top 20
abbrev N_overlap_of : List Str := ["text", "got", "many"]
theorem sc_overlap_of : FnScope N_overlap_of ["text", "got"] (defScope s_overlap_of) := ⟨rfl, rfl, rfl, by decide +kernel, rfl, by decide +kernel, by decide +kernel⟩
abbrev s_Pattern___init__ : Stmt := inClass (top 21) 0
abbrev N_Pattern___init__ : List Str := ["self", "stands", "good", "moves"]
theorem sc_Pattern___init__ : FnScope N_Pattern___init__ ["self", "stands", "good", "moves"] (defScope s_Pattern___init__) := ⟨rfl, rfl, rfl, by decide +kernel, rfl, by decide +kernel, by decide +kernel⟩
abbrev s_Pattern_without : Stmt := inClass (top 21) 1
abbrev N_Pattern_without : List Str := ["text", "moves", "stand", "sign", "good"]
theorem sc_Pattern_without : FnScope N_Pattern_without ["text"] (defScope s_Pattern_without) := ⟨rfl, rfl, rfl, by decide +kernel, rfl, by decide +kernel, by decide +kernel⟩
abbrev s_Pattern_stand_behind : Stmt := inClass (top 21) 2
abbrev N_Pattern_stand_behind : List Str := ["self", "stand", "sign", "own", "signs", "goal"]
theorem sc_Pattern_stand_behind : FnScope N_Pattern_stand_behind ["self", "stand", "sign"] (defScope s_Pattern_stand_behind) := ⟨rfl, rfl, rfl, by decide +kernel, rfl, by decide +kernel, by decide +kernel⟩
abbrev s_Pattern_face : Stmt := inClass (top 21) 3
abbrev N_Pattern_face : List Str := ["self", "text", "found", "sign", "stand"]
theorem sc_Pattern_face : FnScope N_Pattern_face ["self", "text"] (defScope s_Pattern_face) := ⟨rfl, rfl, rfl, by decide +kernel, rfl, by decide +kernel, by decide +kernel⟩
abbrev s_Pattern_keeps : Stmt := inClass (top 21) 4
abbrev N_Pattern_keeps : List Str := ["self", "text"]
theorem sc_Pattern_keeps : FnScope N_Pattern_keeps ["self", "text"] (defScope s_Pattern_keeps) := ⟨rfl, rfl, rfl, by decide +kernel, rfl, by decide +kernel, by decide +kernel⟩
abbrev s_Pattern___invert__ : Stmt := inClass (top 21) 5
abbrev N_Pattern___invert__ : List Str := ["self", "others", "stand"]
theorem sc_Pattern___invert__ : FnScope N_Pattern___invert__ ["self"] (defScope s_Pattern___invert__) := ⟨rfl, rfl, rfl, by decide +kernel, rfl, by decide +kernel, by decide +kernel⟩
abbrev s_Pattern___eq__ : Stmt := inClass (top 21) 6
abbrev N_Pattern___eq__ : List Str := ["self", "other"]
theorem sc_Pattern___eq__ : FnScope N_Pattern___eq__ ["self", "other"] (defScope s_Pattern___eq__) := ⟨rfl, rfl, rfl, by decide +kernel, rfl, by decide +kernel, by decide +kernel⟩
abbrev s_law_cell : Stmt := top 23
abbrev N_law_cell : List Str := ["_law_script", "_law_k", "_law_seed", "_law_mate"]
theorem sc_law_cell : FnScope N_law_cell ["_law_script", "_law_k"] (defScope s_law_cell) := ⟨rfl, rfl, rfl, by decide +kernel, rfl, by decide +kernel, by decide +kernel⟩
abbrev s_law_pool : Stmt := top 24
abbrev N_law_pool : List Str := ["_law_cell_here"]
theorem sc_law_pool : FnScope N_law_pool ["_law_cell_here"] (defScope s_law_pool) := ⟨rfl, rfl, rfl, by decide +kernel, rfl, by decide +kernel, by decide +kernel⟩
abbrev s_law_draw : Stmt := top 25
abbrev N_law_draw : List Str := ["_law_pool_here", "_law_many", "_law_seed", "_law_digit"]
theorem sc_law_draw : FnScope N_law_draw ["_law_pool_here", "_law_many"] (defScope s_law_draw) := ⟨rfl, rfl, rfl, by decide +kernel, rfl, by decide +kernel, by decide +kernel⟩
abbrev s_law_signs : Stmt := top 26
abbrev N_law_signs : List Str := ["_law_few"]
theorem sc_law_signs : FnScope N_law_signs [] (defScope s_law_signs) := ⟨rfl, rfl, rfl, by decide +kernel, rfl, by decide +kernel, by decide +kernel⟩
abbrev s_law_drawn_text : Stmt := top 27
abbrev N_law_drawn_text : List Str := ["_law_pool_here", "_law_signs_here", "_law_least", "_law_most", "_law_found", "_law_k"]
theorem sc_law_drawn_text : FnScope N_law_drawn_text ["_law_pool_here", "_law_signs_here", "_law_least", "_law_most"] (defScope s_law_drawn_text) := ⟨rfl, rfl, rfl, by decide +kernel, rfl, by decide +kernel, by decide +kernel⟩
abbrev s_law_stands_in : Stmt := top 28
abbrev N_law_stands_in : List Str := ["_law_part", "_law_word", "_law_k"]
theorem sc_law_stands_in : FnScope N_law_stands_in ["_law_part", "_law_word"] (defScope s_law_stands_in) := ⟨rfl, rfl, rfl, by decide +kernel, rfl, by decide +kernel, by decide +kernel⟩
abbrev s_law_words : Stmt := top 29
abbrev N_law_words : List Str := ["_law_pool_here", "_law_signs_here", "_law_part", "_law_found", "_law_k", "_law_one", "_law_other", "_law_middle"]
theorem sc_law_words : FnScope N_law_words ["_law_pool_here", "_law_signs_here", "_law_part"] (defScope s_law_words) := ⟨rfl, rfl, rfl, by decide +kernel, rfl, by decide +kernel, by decide +kernel⟩
abbrev s_law_right : Stmt := top 30
abbrev N_law_right : List Str := ["_law_pool_here", "_law_few", "_law_every", "_law_part", "_law_one", "_law_other", "_law_word", "_law_due"]
theorem sc_law_right : FnScope N_law_right ["_law_pool_here"] (defScope s_law_right) := ⟨rfl, rfl, rfl, by decide +kernel, rfl, by decide +kernel, by decide +kernel⟩
abbrev s_law : Stmt := top 31
abbrev N_law : List Str := ["_law_script", "_law_k"]
theorem sc_law : FnScope N_law ["_law_script"] (defScope s_law) := ⟨rfl, rfl, rfl, by decide +kernel, rfl, by decide +kernel, by decide +kernel⟩
structure Txt (K : PySem.W.Frag) (mg : Str → Option Value) (Tb : List (Addr × Str)) : Prop where
  b_abs : mg "abs" = none
  b_all : mg "all" = none
  b_bool : mg "bool" = none
  b_divmod : mg "divmod" = none
  b_enumerate : mg "enumerate" = none
  b_int : mg "int" = none
  b_isinstance : mg "isinstance" = none
  b_len : mg "len" = none
  b_list : mg "list" = none
  b_max : mg "max" = none
  b_min : mg "min" = none
  b_range : mg "range" = none
  b_repr : mg "repr" = none
  b_set : mg "set" = none
  b_sorted : mg "sorted" = none
  b_str : mg "str" = none
  b_tuple : mg "tuple" = none
  m_ALL_SIGNS : Cst mg "ALL_SIGNS" (.int 96)
  m_MOST_MOVES : Cst mg "MOST_MOVES" (.int 30)
  m_MOST_STANDS : Cst mg "MOST_STANDS" (.int 5)
  x_InvalidGood : HasX K mg "InvalidGood" "index"
  x_InvalidMoves : HasX K mg "InvalidMoves" "index"
  x_InvalidNumber : HasX K mg "InvalidNumber" "value"
  x_InvalidString : HasX K mg "InvalidString" "value"
  x_InvalidText : HasX K mg "InvalidText" "value"
  f_Pattern_form : FldAt ⟨K, mg, Tb⟩ "Pattern" "form"
  f_Pattern_good : FldAt ⟨K, mg, Tb⟩ "Pattern" "good"
  f_Pattern_moves : FldAt ⟨K, mg, Tb⟩ "Pattern" "moves"
  f_Pattern_stands : FldAt ⟨K, mg, Tb⟩ "Pattern" "stands"
  eq_Pattern : ∀ C, mg "Pattern" = some (.ref C) → EqFacts K C
  is_Pattern : ∃ C, mg "Pattern" = some (.ref C) ∧ IsFacts K C
end D49

namespace D49
open PySem L2 Ft Dn LamX StX
section
variable {P : Program} {w : World} {K : PySem.W.Frag} {mg : Str → Option Value} {base : Heap} {Tb : List (Addr × Str)}
theorem ok_is_whole (T : Txt K mg Tb)  {f : Addr} {fd : FuncData} (F : Fun K "is_whole" "is_whole" s_is_whole f fd) : FnOk P w K mg base (L2.CX P w) 1 f fd ["value"] (spD ⟨K, mg, Tb⟩ 1 spec_is_whole) := by
  refine okD (T := Tb) true F sc_is_whole fun cdv A outer s H E hr tk px => ?_
  have hu64 := hr.units
  exact ⟨b_is_whole, (dss_one (ds_ret (de_and (de_isT (T := "int") (by decide) (dv 0) rfl T.b_isinstance rfl T.b_int bt_int) (de_one (de_not (de_isT (T := "bool") (by decide) (dv 0) rfl T.b_isinstance rfl T.b_bool bt_bool)))))), r_is_whole⟩
theorem ok_is_between (T : Txt K mg Tb) (F_is_whole : HasF P w K mg base Tb 1 "is_whole" ["value"] spec_is_whole) {f : Addr} {fd : FuncData} (F : Fun K "is_between" "is_between" s_is_between f fd) : FnOk P w K mg base (L2.CX P w) 2 f fd ["value", "least", "most"] (spD ⟨K, mg, Tb⟩ 3 spec_is_between) := by
  refine okD (T := Tb) true F sc_is_between fun cdv A outer s H E hr tk px => ?_
  have hu64 := hr.units
  exact ⟨b_is_between, (dss_one (ds_ret (de_and (de_o F_is_whole (hr.mono (by decide)) tk rfl n_is_whole (da_cons (dv 0) da_nil)) (de_one (de_chain p_le p_le (dv 1) (dv 0) (dv 2)))))), r_is_between⟩
theorem ok_is_sign (T : Txt K mg Tb)  {f : Addr} {fd : FuncData} (F : Fun K "is_sign" "is_sign" s_is_sign f fd) : FnOk P w K mg base (L2.CX P w) 1 f fd ["sign"] (spD ⟨K, mg, Tb⟩ 1 spec_is_sign) := by
  refine okD (T := Tb) true F sc_is_sign fun cdv A outer s H E hr tk px => ?_
  have hu64 := hr.units
  exact ⟨b_is_sign, (dss_one (ds_ret (de_or (de_chain p_le p_le de_str (dv 0) de_str) (de_one (de_cmp (p_eq hu64) (dv 0) de_str (nomark _)))))), r_is_sign⟩
theorem ok_is_string (T : Txt K mg Tb) (F_is_sign : HasF P w K mg base Tb 1 "is_sign" ["sign"] spec_is_sign) {f : Addr} {fd : FuncData} (F : Fun K "is_string" "is_string" s_is_string f fd) : FnOk P w K mg base (L2.CX P w) 2 f fd ["value", "least", "most"] (spD ⟨K, mg, Tb⟩ 3 spec_is_string) := by
  refine okD (T := Tb) true F sc_is_string fun cdv A outer s H E hr tk px => ?_
  have hu64 := hr.units
  exact ⟨b_is_string, (dss_one (ds_ret (de_and (de_isT (T := "str") (by decide) (dv 0) rfl T.b_isinstance rfl T.b_str bt_str) (de_and (de_chain p_le p_le (dv 1) (de_callB c_len rfl T.b_len bt_len (da_cons (dv 0) da_nil)) (dv 2)) (de_one (de_callB (c_all rfl) rfl T.b_all bt_all (da_cons (de_lc (own := [("sign", 3)]) rfl sc_is_string.nd (di_any (dv 0)) (blkOk_by (own := [("sign", 3)]) (N := N_is_string) (sc := defScope s_is_string) (by decide +kernel)) (fun _ _ _ _ _ => (dg_name (i := 3) sc_is_string.nd rfl (Or.inl rfl))) (fun _ _ _ _ _ => dts_nil) (fun _ _ _ _ _ => (de_o F_is_sign (hr.mono (by decide)) takes_WF rfl n_is_sign (da_cons (dv 3) da_nil)))) da_nil))))))), r_is_string⟩
theorem ok_are_unlike (T : Txt K mg Tb)  {f : Addr} {fd : FuncData} (F : Fun K "are_unlike" "are_unlike" s_are_unlike f fd) : FnOk P w K mg base (L2.CX P w) 1 f fd ["values"] (spD ⟨K, mg, Tb⟩ 1 spec_are_unlike) := by
  refine okD (T := Tb) true F sc_are_unlike fun cdv A outer s H E hr tk px => ?_
  have hu64 := hr.units
  exact ⟨b_are_unlike, (dss_one (ds_ret (de_cmp (p_eq hu64) (de_lenTx (dv 0) rfl T.b_len rfl T.b_set) (de_callB c_len rfl T.b_len bt_len (da_cons (dv 0) da_nil)) (nomark _)))), r_are_unlike⟩
theorem ok_check_good (T : Txt K mg Tb) (F_is_between : HasF P w K mg base Tb 2 "is_between" ["value", "least", "most"] spec_is_between) {f : Addr} {fd : FuncData} (F : Fun K "check_good" "check_good" s_check_good f fd) : FnOk P w K mg base (L2.CX P w) 3 f fd ["stands", "value"] (spD ⟨K, mg, Tb⟩ 2 spec_check_good) := by
  refine okD (T := Tb) true F sc_check_good fun cdv A outer s H E hr tk px => ?_
  have hu64 := hr.units
  exact ⟨b_check_good, (dss_cons (ds_if (dt_not (dt_val (de_isT (T := "tuple") (by decide) (dv 1) rfl T.b_isinstance rfl T.b_tuple bt_tuple))) (dss_one (dx_raise T.x_InvalidGood hr tk (da_cons de_non da_nil) rfl rfl)) dss_nil)
    (dss_cons (ds_set (i := 2) sc_check_good.nd rfl (Or.inl rfl) (de_cell da_nil))
    (dss_one (ds_for px rfl (di_enumT rfl T.b_enumerate (da_cons (dv 1) da_nil)) (dg_tup rfl (dgs_cons (dg_name (i := 3) sc_check_good.nd rfl (Or.inl rfl)) (dgs_cons (dg_name (i := 4) sc_check_good.nd rfl (Or.inl rfl)) dgs_nil)) (gs_len (gs_len gs_len0))) (dss_cons (ds_if (DW.dt (dw_or (dt_not (dt_val (de_o F_is_between (hr.mono (by decide)) tk rfl n_is_between (da_cons (dv 4) (da_cons de_int (da_cons (de_op p_sub (dv 0) de_int) da_nil)))))) (dw_or1 (dt_cmp (p_in hu64) (dv 4) (dv 2) rfl)))) (dss_one (dx_raise T.x_InvalidGood hr tk (da_cons (dv 3) da_nil) rfl rfl)) dss_nil)
    (dss_one (ds_expr (de_append (dv 2) (dv 4))))))))), r_check_good⟩
theorem ok_is_move (T : Txt K mg Tb) (F_is_between : HasF P w K mg base Tb 2 "is_between" ["value", "least", "most"] spec_is_between) (F_is_string : HasF P w K mg base Tb 2 "is_string" ["value", "least", "most"] spec_is_string) (F_are_unlike : HasF P w K mg base Tb 1 "are_unlike" ["values"] spec_are_unlike) {f : Addr} {fd : FuncData} (F : Fun K "is_move" "is_move" s_is_move f fd) : FnOk P w K mg base (L2.CX P w) 3 f fd ["stands", "value"] (spD ⟨K, mg, Tb⟩ 2 spec_is_move) := by
  refine okD (T := Tb) true F sc_is_move fun cdv A outer s H E hr tk px => ?_
  have hu64 := hr.units
  exact ⟨b_is_move, (dss_cons (ds_if (DW.dt (dw_or (dt_not (dt_val (de_isT (T := "tuple") (by decide) (dv 1) rfl T.b_isinstance rfl T.b_tuple bt_tuple))) (dw_or1 (dt_cmp (p_ne hu64) (de_callB c_len rfl T.b_len bt_len (da_cons (dv 1) da_nil)) de_int (nomark _))))) (dss_one (ds_ret de_bl)) dss_nil)
    (dss_cons (ds_if (DW.dt (dw_or (dt_not (dt_val (de_o F_is_between (hr.mono (by decide)) tk rfl n_is_between (da_cons (de_ix i_ix (dv 1) de_int (fun _ _ => rfl)) (da_cons de_int (da_cons (de_op p_sub (dv 0) de_int) da_nil)))))) (dw_or1 (dt_not (dt_val (de_o F_is_between (hr.mono (by decide)) tk rfl n_is_between (da_cons (de_ix i_ix (dv 1) de_int (fun _ _ => rfl)) (da_cons de_int (da_cons (de_op p_sub (dv 0) de_int) da_nil))))))))) (dss_one (ds_ret de_bl)) dss_nil)
    (dss_one (ds_ret (de_or (de_cmp p_is (de_ix i_ix (dv 1) de_int (fun _ _ => rfl)) de_non (nomark _)) (de_one (de_and (de_o F_is_string (hr.mono (by decide)) tk rfl n_is_string (da_cons (de_ix i_ix (dv 1) de_int (fun _ _ => rfl)) (da_cons de_int (da_cons (de_cint T.m_ALL_SIGNS rfl) da_nil)))) (de_one (de_o F_are_unlike (hr.mono (by decide)) tk rfl n_are_unlike (da_cons (de_ix i_ix (dv 1) de_int (fun _ _ => rfl)) da_nil)))))))))), r_is_move⟩
theorem ok_check_moves (T : Txt K mg Tb) (F_is_move : HasF P w K mg base Tb 3 "is_move" ["stands", "value"] spec_is_move) {f : Addr} {fd : FuncData} (F : Fun K "check_moves" "check_moves" s_check_moves f fd) : FnOk P w K mg base (L2.CX P w) 4 f fd ["stands", "value"] (spD ⟨K, mg, Tb⟩ 2 spec_check_moves) := by
  refine okD (T := Tb) true F sc_check_moves fun cdv A outer s H E hr tk px => ?_
  have hu64 := hr.units
  exact ⟨b_check_moves, (dss_cons (ds_if (dt_cmp p_gt (de_callB c_len rfl T.b_len bt_len (da_cons (dv 1) da_nil)) (de_cint T.m_MOST_MOVES rfl) (nomark _)) (dss_one (dx_raise T.x_InvalidMoves hr tk (da_cons de_non da_nil) rfl rfl)) dss_nil)
    (dss_one (ds_for px rfl (di_enumT rfl T.b_enumerate (da_cons (dv 1) da_nil)) (dg_tup rfl (dgs_cons (dg_name (i := 2) sc_check_moves.nd rfl (Or.inl rfl)) (dgs_cons (dg_name (i := 3) sc_check_moves.nd rfl (Or.inl rfl)) dgs_nil)) (gs_len (gs_len gs_len0))) (dss_one (ds_if (dt_not (dt_val (de_o F_is_move (hr.mono (by decide)) tk rfl n_is_move (da_cons (dv 0) (da_cons (dv 3) da_nil))))) (dss_one (dx_raise T.x_InvalidMoves hr tk (da_cons (dv 2) da_nil) rfl rfl)) dss_nil))))), r_check_moves⟩
theorem ok_overlap_of (T : Txt K mg Tb)  {f : Addr} {fd : FuncData} (F : Fun K "overlap_of" "overlap_of" s_overlap_of f fd) : FnOk P w K mg base (L2.CX P w) 1 f fd ["text", "got"] (spD ⟨K, mg, Tb⟩ 2 spec_overlap_of) := by
  refine okD (T := Tb) true F sc_overlap_of fun cdv A outer s H E hr tk px => ?_
  have hu64 := hr.units
  exact ⟨b_overlap_of, (dss_cons (ds_for px rfl (di_rangeD rfl T.b_range (da_cons (de_callB c_len rfl T.b_len bt_len (da_cons (dv 1) da_nil)) (da_cons de_int (da_cons (de_un p_neg de_int) da_nil)))) (dg_name (i := 2) sc_overlap_of.nd rfl (Or.inl rfl)) (dss_one (ds_if (dt_cmp (p_eq hu64) (de_slice s_sl (dv 1) (dp_some (de_op p_sub (de_callB c_len rfl T.b_len bt_len (da_cons (dv 1) da_nil)) (dv 2))) dp_none) (de_slice s_sl (dv 0) dp_none (dp_some (dv 2))) (nomark _)) (dss_one (ds_ret (dv 2))) dss_nil)))
    (dss_one (ds_ret de_int))), r_overlap_of⟩
theorem ok_Pattern___init__ (T : Txt K mg Tb) (F_is_between : HasF P w K mg base Tb 2 "is_between" ["value", "least", "most"] spec_is_between) (F_check_good : HasF P w K mg base Tb 3 "check_good" ["stands", "value"] spec_check_good) (F_check_moves : HasF P w K mg base Tb 4 "check_moves" ["stands", "value"] spec_check_moves) {f : Addr} {fd : FuncData} (F : Fun K "__init__" "Pattern.__init__" s_Pattern___init__ f fd) : FnR P w K mg base (L2.CX P w) 5 f (spR ⟨K, mg, Tb⟩ 3 spec_Pattern___init__) := by
  refine okDR (T := Tb) (ps := ["self", "stands", "good"]) (pv := "moves") true F sc_Pattern___init__ (fun _ _ _ _ _ _ => bind_star3 (B := fun l => bindArgs _ { pos := l }) (fun _ _ _ => rfl) (fun _ _ _ _ _ => rfl)) fun cdv A outer s H E hr tk px => ?_
  have hu64 := hr.units
  exact ⟨b_Pattern___init__, (dss_cons (ds_if (dt_not (dt_val (de_o F_is_between (hr.mono (by decide)) tk rfl n_is_between (da_cons (dv 1) (da_cons de_int (da_cons (de_cint T.m_MOST_STANDS rfl) da_nil)))))) (dss_one (dx_raise T.x_InvalidNumber hr tk (da_cons (dv 1) da_nil) rfl rfl)) dss_nil)
    (dss_cons (ds_expr (de_o F_check_good (hr.mono (by decide)) tk rfl n_check_good (da_cons (dv 1) (da_cons (dv 2) da_nil))))
    (dss_cons (ds_expr (de_o F_check_moves (hr.mono (by decide)) tk rfl n_check_moves (da_cons (dv 1) (da_cons (dv 3) da_nil))))
    (dss_cons (ds_fld T.f_Pattern_stands (dv 0) (dv 1) rfl)
    (dss_cons (ds_fld T.f_Pattern_good (dv 0) (de_callTy c_tuple rfl T.b_tuple bt_tuple (da_cons (de_callB c_sorted rfl T.b_sorted bt_sorted (da_cons (dv 2) da_nil)) da_nil)) rfl)
    (dss_cons (ds_fld T.f_Pattern_moves (dv 0) (dv 3) rfl)
    (dss_one (ds_fld T.f_Pattern_form (dv 0) (de_tup (da_cons (dv 1) (da_cons (de_fld (cs := ["Pattern"]) (by intro c hc; simp only [List.mem_cons, List.not_mem_nil, or_false] at hc; rcases hc with rfl; exact T.f_Pattern_good) (dv 0) rfl) (da_cons (dv 3) da_nil)))) rfl)))))))), r_Pattern___init__⟩
theorem ok_Pattern_without (T : Txt K mg Tb) (F_is_string : HasF P w K mg base Tb 2 "is_string" ["value", "least", "most"] spec_is_string) (F_overlap_of : HasF P w K mg base Tb 1 "overlap_of" ["text", "got"] spec_overlap_of) (CR_Pattern : HasCRd P w K mg base Tb 5 "Pattern" spec_Pattern___init__ 2) {f : Addr} {fd : FuncData} (F : Fun K "without" "Pattern.without" s_Pattern_without f fd) : FnOk P w K mg base (L2.CX P w) 7 f fd ["text"] (spD ⟨K, mg, Tb⟩ 1 spec_Pattern_without) := by
  refine okD (T := Tb) true F sc_Pattern_without fun cdv A outer s H E hr tk px => ?_
  have hu64 := hr.units
  exact ⟨b_Pattern_without, (dss_cons (ds_if (dt_not (dt_val (de_o F_is_string (hr.mono (by decide)) tk rfl n_is_string (da_cons (dv 0) (da_cons de_int (da_cons (de_op p_sub (de_cint T.m_MOST_STANDS rfl) de_int) da_nil)))))) (dss_one (dx_raise T.x_InvalidString hr tk (da_cons (dv 0) da_nil) rfl rfl)) dss_nil)
    (dss_cons (ds_set (i := 1) sc_Pattern_without.nd rfl (Or.inl rfl) (de_cell da_nil))
    (dss_cons (ds_for px rfl (di_range1 rfl T.b_range (da_cons (de_callB c_len rfl T.b_len bt_len (da_cons (dv 0) da_nil)) da_nil)) (dg_name (i := 2) sc_Pattern_without.nd rfl (Or.inl rfl)) (dss_cons (ds_for px rfl (di_any (de_sortTx (dv 0) rfl rfl T.b_sorted rfl T.b_set)) (dg_name (i := 3) sc_Pattern_without.nd rfl (Or.inl rfl)) (dss_one (ds_expr (de_append (dv 1) (de_tup (da_cons (dv 2) (da_cons (dv 3) (da_cons (de_o F_overlap_of (hr.mono (by decide)) tk rfl n_overlap_of (da_cons (dv 0) (da_cons (de_op p_add (de_slice s_sl (dv 0) dp_none (dp_some (dv 2))) (dv 3)) da_nil))) da_nil))))))))
    (dss_one (ds_expr (de_append (dv 1) (de_tup (da_cons (dv 2) (da_cons de_non (da_cons de_int da_nil)))))))))
    (dss_cons (ds_set (i := 4) sc_Pattern_without.nd rfl (Or.inl rfl) (de_tupRg (de_callB c_len rfl T.b_len bt_len (da_cons (dv 0) da_nil)) rfl T.b_tuple rfl T.b_range))
    (dss_one (ds_ret (dx_newRS CR_Pattern (hr.mono (by decide)) tk rfl (da_cons (de_op p_add (de_callB c_len rfl T.b_len bt_len (da_cons (dv 0) da_nil)) de_int) (da_cons (dv 4) (da_starL (dv 1) da_nil)))))))))), r_Pattern_without⟩
theorem ok_Pattern_stand_behind (T : Txt K mg Tb)  {f : Addr} {fd : FuncData} (F : Fun K "stand_behind" "Pattern.stand_behind" s_Pattern_stand_behind f fd) : FnOk P w K mg base (L2.CX P w) 1 f fd ["self", "stand", "sign"] (spD ⟨K, mg, Tb⟩ 3 spec_Pattern_stand_behind) := by
  refine okD (T := Tb) true F sc_Pattern_stand_behind fun cdv A outer s H E hr tk px => ?_
  have hu64 := hr.units
  exact ⟨b_Pattern_stand_behind, (dss_cons (ds_for px rfl (di_any (de_fld (cs := ["Pattern"]) (by intro c hc; simp only [List.mem_cons, List.not_mem_nil, or_false] at hc; rcases hc with rfl; exact T.f_Pattern_moves) (dv 0) rfl)) (dg_tup rfl (dgs_cons (dg_name (i := 3) sc_Pattern_stand_behind.nd rfl (Or.inl rfl)) (dgs_cons (dg_name (i := 4) sc_Pattern_stand_behind.nd rfl (Or.inl rfl)) (dgs_cons (dg_name (i := 5) sc_Pattern_stand_behind.nd rfl (Or.inl rfl)) dgs_nil))) (gs_len (gs_len (gs_len gs_len0)))) (dss_one (ds_if (DW.dt (dw_and (dt_cmp (p_eq hu64) (dv 3) (dv 1) (nomark _)) (dw_and1 (DW.dt (dw_or (dt_cmp p_is (dv 4) de_non (nomark _)) (dw_or1 (dt_cmp (p_in hu64) (dv 2) (dv 4) rfl))))))) (dss_one (ds_ret (dv 5))) dss_nil)))
    (dss_one (ds_ret (dv 1)))), r_Pattern_stand_behind⟩
theorem ok_Pattern_face (T : Txt K mg Tb) (M_Pattern_stand_behind : HasMd P w K mg base Tb 1 "Pattern" "stand_behind" ["self", "stand", "sign"] spec_Pattern_stand_behind) {f : Addr} {fd : FuncData} (F : Fun K "face" "Pattern.face" s_Pattern_face f fd) : FnOk P w K mg base (L2.CX P w) 2 f fd ["self", "text"] (spD ⟨K, mg, Tb⟩ 2 spec_Pattern_face) := by
  refine okD (T := Tb) true F sc_Pattern_face fun cdv A outer s H E hr tk px => ?_
  have hu64 := hr.units
  exact ⟨b_Pattern_face, (dss_cons (ds_if (dt_not (dt_val (de_isT (T := "str") (by decide) (dv 1) rfl T.b_isinstance rfl T.b_str bt_str))) (dss_one (dx_raise T.x_InvalidText hr tk (da_cons (dv 1) da_nil) rfl rfl)) dss_nil)
    (dss_cons (ds_set (i := 2) sc_Pattern_face.nd rfl (Or.inl rfl) (de_listRg (de_fld (cs := ["Pattern"]) (by intro c hc; simp only [List.mem_cons, List.not_mem_nil, or_false] at hc; rcases hc with rfl; exact T.f_Pattern_stands) (dv 0) rfl) rfl T.b_list rfl T.b_range))
    (dss_cons (ds_for px rfl (di_any (dv 1)) (dg_name (i := 3) sc_Pattern_face.nd rfl (Or.inr rfl)) (dss_one (ds_setLc (i := 2) (own := [("stand", 4)]) rfl sc_Pattern_face.nd rfl rfl (sw_true rfl rfl rfl (by decide +kernel)) (di_any (dv 2)) (blkOk_by (own := [("stand", 4)]) (N := N_Pattern_face) (sc := defScope s_Pattern_face) (by decide +kernel)) (fun _ _ _ _ _ => (dg_name (i := 4) sc_Pattern_face.nd rfl (Or.inl rfl))) (fun _ _ _ _ _ => dts_nil) (fun _ _ _ _ _ => (dx_m M_Pattern_stand_behind (dv 0) (hr.mono (by decide)) takes_WF n_Pattern_stand_behind (da_cons (dv 4) (da_cons (dv 3) da_nil)))))))
    (dss_one (ds_ret (de_callTy c_tuple rfl T.b_tuple bt_tuple (da_cons (dv 2) da_nil))))))), r_Pattern_face⟩
theorem ok_Pattern_keeps (T : Txt K mg Tb) (M_Pattern_face : HasMd P w K mg base Tb 2 "Pattern" "face" ["self", "text"] spec_Pattern_face) {f : Addr} {fd : FuncData} (F : Fun K "keeps" "Pattern.keeps" s_Pattern_keeps f fd) : FnOk P w K mg base (L2.CX P w) 3 f fd ["self", "text"] (spD ⟨K, mg, Tb⟩ 2 spec_Pattern_keeps) := by
  refine okD (T := Tb) true F sc_Pattern_keeps fun cdv A outer s H E hr tk px => ?_
  have hu64 := hr.units
  exact ⟨b_Pattern_keeps, (dss_one (ds_ret (de_cmp (p_in hu64) (de_ix i_ix (dx_m M_Pattern_face (dv 0) (hr.mono (by decide)) tk n_Pattern_face (da_cons (dv 1) da_nil)) de_int (fun _ _ => rfl)) (de_fld (cs := ["Pattern"]) (by intro c hc; simp only [List.mem_cons, List.not_mem_nil, or_false] at hc; rcases hc with rfl; exact T.f_Pattern_good) (dv 0) rfl) rfl))), r_Pattern_keeps⟩
theorem ok_Pattern___invert__ (T : Txt K mg Tb) (CR_Pattern : HasCRd P w K mg base Tb 5 "Pattern" spec_Pattern___init__ 2) {f : Addr} {fd : FuncData} (F : Fun K "__invert__" "Pattern.__invert__" s_Pattern___invert__ f fd) : FnOk P w K mg base (L2.CX P w) 7 f fd ["self"] (spD ⟨K, mg, Tb⟩ 1 spec_Pattern___invert__) := by
  refine okD (T := Tb) true F sc_Pattern___invert__ fun cdv A outer s H E hr tk px => ?_
  have hu64 := hr.units
  exact ⟨b_Pattern___invert__, (dss_cons (ds_set (i := 1) sc_Pattern___invert__.nd rfl (Or.inl rfl) (de_callTy c_tuple rfl T.b_tuple bt_tuple (da_cons (de_lc (own := [("stand", 2)]) rfl sc_Pattern___invert__.nd (di_range1 rfl T.b_range (da_cons (de_fld (cs := ["Pattern"]) (by intro c hc; simp only [List.mem_cons, List.not_mem_nil, or_false] at hc; rcases hc with rfl; exact T.f_Pattern_stands) (dv 0) rfl) da_nil)) (blkOk_by (own := [("stand", 2)]) (N := N_Pattern___invert__) (sc := defScope s_Pattern___invert__) (by decide +kernel)) (fun _ _ _ _ _ => (dg_name (i := 2) sc_Pattern___invert__.nd rfl (Or.inl rfl))) (fun _ _ _ _ _ => (dts_one (dt_cmp (p_notIn hu64) (dv 2) (de_fld (cs := ["Pattern"]) (by intro c hc; simp only [List.mem_cons, List.not_mem_nil, or_false] at hc; rcases hc with rfl; exact T.f_Pattern_good) (dv 0) rfl) rfl))) (fun _ _ _ _ _ => (dv 2))) da_nil)))
    (dss_one (ds_ret (dx_newRS CR_Pattern (hr.mono (by decide)) tk rfl (da_cons (de_fld (cs := ["Pattern"]) (by intro c hc; simp only [List.mem_cons, List.not_mem_nil, or_false] at hc; rcases hc with rfl; exact T.f_Pattern_stands) (dv 0) rfl) (da_cons (dv 1) (da_star (de_fld (cs := ["Pattern"]) (by intro c hc; simp only [List.mem_cons, List.not_mem_nil, or_false] at hc; rcases hc with rfl; exact T.f_Pattern_moves) (dv 0) rfl) da_nil))))))), r_Pattern___invert__⟩
theorem ok_Pattern___eq__ (T : Txt K mg Tb)  {f : Addr} {fd : FuncData} (F : Fun K "__eq__" "Pattern.__eq__" s_Pattern___eq__ f fd) : FnOk P w K mg base (L2.CX P w) 1 f fd ["self", "other"] (spD ⟨K, mg, Tb⟩ 2 spec_Pattern___eq__) := by
  refine okD (T := Tb) true F sc_Pattern___eq__ fun cdv A outer s H E hr tk px => ?_
  have hu64 := hr.units
  exact ⟨b_Pattern___eq__, (dss_one (ds_ret (de_and (de_isO T.is_Pattern (dv 1) rfl T.b_isinstance rfl) (de_one (de_cmp (p_eq hu64) (de_fld (cs := ["Pattern"]) (by intro c hc; simp only [List.mem_cons, List.not_mem_nil, or_false] at hc; rcases hc with rfl; exact T.f_Pattern_form) (dv 0) rfl) (de_fld (cs := ["Pattern"]) (by intro c hc; simp only [List.mem_cons, List.not_mem_nil, or_false] at hc; rcases hc with rfl; exact T.f_Pattern_form) (dv 1) rfl) (nomark _)))))), r_Pattern___eq__⟩
theorem ok_law_cell (T : Txt K mg Tb)  {f : Addr} {fd : FuncData} (F : Fun K "_law_cell" "_law_cell" s_law_cell f fd) : FnG P w K mg base (L2.CX P w) 1 f fd ["_law_script", "_law_k"] (spD ⟨K, mg, Tb⟩ 2 spec_law_cell) := by
  refine okDG (T := Tb) true F sc_law_cell fun cdv A outer s H E hg hr tk px => ?_
  have hu64 := hr.units
  exact ⟨b_law_cell, (dss_cons (ds_if (dt_cmp p_lt (dv 1) (de_callB c_len rfl T.b_len bt_len (da_cons (dv 0) da_nil)) (nomark _)) (dss_one (ds_ret (de_ix i_ix (dv 0) (dv 1) (fun _ _ => rfl)))) dss_nil)
    (dss_cons (ds_set (i := 2) sc_law_cell.nd rfl (Or.inl rfl) (de_op p_add (de_op p_mul (de_op p_mul de_int (de_op p_add (dv 1) de_int)) (de_op p_add (dv 1) de_int)) de_int))
    (dss_cons (ds_for px rfl (di_any (de_slice s_sl (dv 0) dp_none (dp_some de_int))) (dg_name (i := 3) sc_law_cell.nd rfl (Or.inl rfl)) (dss_one (ds_set (i := 2) sc_law_cell.nd rfl (Or.inl rfl) (de_op p_mod (de_callTy c_int rfl T.b_int bt_int (da_cons (de_op p_add (de_op p_mul (dv 2) de_int) (dv 3)) da_nil)) de_int))))
    (dss_one (ds_ret (dv 2)))))), r_law_cell⟩
theorem ok_law_pool (T : Txt K mg Tb)  {f : Addr} {fd : FuncData} (F : Fun K "_law_pool" "_law_pool" s_law_pool f fd) : FnG P w K mg base (L2.CX P w) 1 f fd ["_law_cell_here"] (spD ⟨K, mg, Tb⟩ 1 spec_law_pool) := by
  refine okDG (T := Tb) false F sc_law_pool fun cdv A outer s H E hg hr tk px => ?_
  have hu64 := hr.units
  exact ⟨b_law_pool, (dss_one (ds_ret (de_cell (da_cons (de_if (DW.dt (dw_or (dt_cmp p_lt (dv 0) de_int (nomark _)) (dw_or1 (dt_cmp p_ge (dv 0) (de_op p_pow de_int de_int) (nomark _))))) (de_callB c_abs rfl T.b_abs bt_abs (da_cons (dv 0) da_nil)) de_int) (da_cons (de_op p_mod (de_callTy c_int rfl T.b_int bt_int (da_cons (dv 0) da_nil)) de_int) (da_cons de_int da_nil)))))), r_law_pool⟩
theorem ok_law_draw (T : Txt K mg Tb)  {f : Addr} {fd : FuncData} (F : Fun K "_law_draw" "_law_draw" s_law_draw f fd) : FnG P w K mg base (L2.CX P w) 1 f fd ["_law_pool_here", "_law_many"] (spD ⟨K, mg, Tb⟩ 2 spec_law_draw) := by
  refine okDG (T := Tb) true F sc_law_draw fun cdv A outer s H E hg hr tk px => ?_
  have hu64 := hr.units
  exact ⟨b_law_draw, (dss_cons (ds_setIx (dv 0) de_int (de_op p_add (de_ix i_ix (dv 0) de_int (fun _ _ => rfl)) de_int))
    (dss_cons (ds_set (i := 2) sc_law_draw.nd rfl (Or.inl rfl) (de_callTy c_int rfl T.b_int bt_int (da_cons (de_ix i_ix (dv 0) de_int (fun _ _ => rfl)) da_nil)))
    (dss_cons (ds_setIx (dv 0) de_int (de_op p_mod (de_callTy c_int rfl T.b_int bt_int (da_cons (de_op p_add (de_op p_add (de_op p_mul (dv 2) (de_op p_add (de_op p_mod (de_callTy c_int rfl T.b_int bt_int (da_cons (dv 2) da_nil)) de_int) de_int)) (de_op p_mul de_int (de_ix i_ix (dv 0) de_int (fun _ _ => rfl)))) de_int) da_nil)) de_int))
    (dss_cons (ds_if (dt_cmp p_gt (de_ix i_ix (dv 0) de_int (fun _ _ => rfl)) de_int (nomark _)) (dss_cons (ds_asgIx (j := 3) rfl sc_law_draw.nd rfl (Or.inl rfl) (dv 0) de_int (de_callB c_divmod rfl T.b_divmod bt_divmod (da_cons (de_ix i_ix (dv 0) de_int (fun _ _ => rfl)) (da_cons (dv 1) da_nil))))
    (dss_one (ds_ret (dv 3)))) dss_nil)
    (dss_one (ds_ret (de_op p_mod (de_callTy c_int rfl T.b_int bt_int (da_cons (de_op p_div (de_ix i_ix (dv 0) de_int (fun _ _ => rfl)) de_int) da_nil)) (dv 1)))))))), r_law_draw⟩
theorem ok_law_signs (T : Txt K mg Tb)  {f : Addr} {fd : FuncData} (F : Fun K "_law_signs" "_law_signs" s_law_signs f fd) : FnG P w K mg base (L2.CX P w) 1 f fd [] (spD ⟨K, mg, Tb⟩ 0 spec_law_signs) := by
  refine okDG (T := Tb) true F sc_law_signs fun cdv A outer s H E hg hr tk px => ?_
  have hu64 := hr.units
  exact ⟨b_law_signs, (dss_cons (ds_set (i := 0) sc_law_signs.nd rfl (Or.inl rfl) (de_op p_add de_str de_str))
    (dss_one (ds_ret (de_op p_add (de_op p_add (dv 0) de_str) de_str)))), r_law_signs⟩
theorem ok_law_drawn_text (T : Txt K mg Tb) (F_law_draw : HasL P w K mg base Tb 1 "_law_draw" ["_law_pool_here", "_law_many"] spec_law_draw) {f : Addr} {fd : FuncData} (F : Fun K "_law_drawn_text" "_law_drawn_text" s_law_drawn_text f fd) : FnG P w K mg base (L2.CX P w) 2 f fd ["_law_pool_here", "_law_signs_here", "_law_least", "_law_most"] (spD ⟨K, mg, Tb⟩ 4 spec_law_drawn_text) := by
  refine okDG (T := Tb) true F sc_law_drawn_text fun cdv A outer s H E hg hr tk px => ?_
  have hu64 := hr.units
  exact ⟨b_law_drawn_text, (dss_cons (ds_set (i := 4) sc_law_drawn_text.nd rfl (Or.inl rfl) de_str)
    (dss_cons (ds_for px rfl (di_range1 rfl T.b_range (da_cons (de_op p_add (dv 2) (de_g F_law_draw hg (hr.mono (by decide)) tk rfl n_law_draw (da_cons (dv 0) (da_cons (de_op p_add (de_op p_sub (dv 3) (dv 2)) de_int) da_nil)))) da_nil)) (dg_name (i := 5) sc_law_drawn_text.nd rfl (Or.inl rfl)) (dss_one (ds_set (i := 4) sc_law_drawn_text.nd rfl (Or.inl rfl) (de_op p_add (dv 4) (de_ix i_ix (dv 1) (de_g F_law_draw hg (hr.mono (by decide)) tk rfl n_law_draw (da_cons (dv 0) (da_cons (de_callB c_len rfl T.b_len bt_len (da_cons (dv 1) da_nil)) da_nil))) (fun _ _ => rfl))))))
    (dss_one (ds_ret (dv 4))))), r_law_drawn_text⟩
theorem ok_law_stands_in (T : Txt K mg Tb)  {f : Addr} {fd : FuncData} (F : Fun K "_law_stands_in" "_law_stands_in" s_law_stands_in f fd) : FnG P w K mg base (L2.CX P w) 1 f fd ["_law_part", "_law_word"] (spD ⟨K, mg, Tb⟩ 2 spec_law_stands_in) := by
  refine okDG (T := Tb) true F sc_law_stands_in fun cdv A outer s H E hg hr tk px => ?_
  have hu64 := hr.units
  exact ⟨b_law_stands_in, (dss_one (ds_ret (de_cmp (p_ne hu64) (de_lc (own := [("_law_k", 2)]) rfl sc_law_stands_in.nd (di_range1 rfl T.b_range (da_cons (de_callB c_len rfl T.b_len bt_len (da_cons (dv 1) da_nil)) da_nil)) (blkOk_by (own := [("_law_k", 2)]) (N := N_law_stands_in) (sc := defScope s_law_stands_in) (by decide +kernel)) (fun _ _ _ _ _ => (dg_name (i := 2) sc_law_stands_in.nd rfl (Or.inl rfl))) (fun _ _ _ _ _ => (dts_one (dt_cmp (p_eq hu64) (de_slice s_sl (dv 1) (dp_some (dv 2)) (dp_some (de_op p_add (dv 2) (de_callB c_len rfl T.b_len bt_len (da_cons (dv 0) da_nil))))) (dv 0) (nomark _)))) (fun _ _ _ _ _ => (dv 2))) (de_lst da_nil) (nomark _)))), r_law_stands_in⟩
theorem ok_law_words (T : Txt K mg Tb) (F_law_drawn_text : HasL P w K mg base Tb 2 "_law_drawn_text" ["_law_pool_here", "_law_signs_here", "_law_least", "_law_most"] spec_law_drawn_text) (F_law_draw : HasL P w K mg base Tb 1 "_law_draw" ["_law_pool_here", "_law_many"] spec_law_draw) {f : Addr} {fd : FuncData} (F : Fun K "_law_words" "_law_words" s_law_words f fd) : FnG P w K mg base (L2.CX P w) 3 f fd ["_law_pool_here", "_law_signs_here", "_law_part"] (spD ⟨K, mg, Tb⟩ 3 spec_law_words) := by
  refine okDG (T := Tb) false F sc_law_words fun cdv A outer s H E hg hr tk px => ?_
  have hu64 := hr.units
  exact ⟨b_law_words, (dss_cons (ds_set (i := 3) sc_law_words.nd rfl (Or.inl rfl) (de_cell (da_cons de_str (da_cons (dv 2) (da_cons (de_slice s_sl (dv 2) (dp_some de_int) dp_none) (da_cons (de_op p_add (de_slice s_sl (dv 2) dp_none (dp_some (de_un p_neg de_int))) (dv 2)) (da_cons (de_op p_add (de_slice s_sl (dv 2) (dp_some de_int) dp_none) (de_slice s_sl (dv 2) dp_none (dp_some (de_un p_neg de_int)))) da_nil)))))))
    (dss_cons (ds_for px rfl (di_range1 rfl T.b_range (da_cons de_int da_nil)) (dg_name (i := 4) sc_law_words.nd rfl (Or.inl rfl)) (dss_cons (ds_par (i := 5) (j := 6) (by rfl) sc_law_words.nd rfl rfl (by decide) rfl rfl (da_cons (de_g F_law_drawn_text hg (hr.mono (by decide)) tk rfl n_law_drawn_text (da_cons (dv 0) (da_cons (dv 1) (da_cons de_int (da_cons de_int da_nil))))) (da_cons (de_g F_law_drawn_text hg (hr.mono (by decide)) tk rfl n_law_drawn_text (da_cons (dv 0) (da_cons (dv 1) (da_cons de_int (da_cons de_int da_nil))))) da_nil)) (by rfl))
    (dss_cons (ds_set (i := 7) sc_law_words.nd rfl (Or.inl rfl) (de_ix i_ix (de_lst (da_cons (dv 2) (da_cons (de_slice s_sl (dv 2) dp_none (dp_some (de_un p_neg de_int))) (da_cons (de_slice s_sl (dv 2) (dp_some de_int) dp_none) (da_cons (de_op p_add (de_slice s_sl (dv 2) dp_none (dp_some (de_un p_neg de_int))) (de_slice s_sl (dv 2) dp_none (dp_some (de_un p_neg de_int)))) (da_cons (de_op p_add (de_ix i_ix (dv 2) de_int (fun _ _ => rfl)) (de_slice s_sl (dv 2) (dp_some de_int) (dp_some de_int))) (da_cons de_str da_nil))))))) (de_g F_law_draw hg (hr.mono (by decide)) tk rfl n_law_draw (da_cons (dv 0) (da_cons de_int da_nil))) (fun _ _ => rfl)))
    (dss_one (ds_expr (de_append (dv 3) (de_op p_add (de_op p_add (dv 5) (dv 7)) (dv 6))))))))
    (dss_one (ds_ret (dv 3))))), r_law_words⟩
theorem ok_law_right (T : Txt K mg Tb) (F_law_draw : HasL P w K mg base Tb 1 "_law_draw" ["_law_pool_here", "_law_many"] spec_law_draw) (F_law_signs : HasL P w K mg base Tb 1 "_law_signs" [] spec_law_signs) (F_law_drawn_text : HasL P w K mg base Tb 2 "_law_drawn_text" ["_law_pool_here", "_law_signs_here", "_law_least", "_law_most"] spec_law_drawn_text) (ST_Pattern_without : HasSt P w K mg base Tb 7 "Pattern" "without" ["text"] spec_Pattern_without) (M_Pattern___invert__ : HasMd P w K mg base Tb 7 "Pattern" "__invert__" ["self"] spec_Pattern___invert__) (STK_Pattern_without_text : HasStK P w K mg base Tb 7 "Pattern" "without" ["text"] ["text"] appG spec_Pattern_without) (M_Pattern___eq__ : HasMd P w K mg base Tb 1 "Pattern" "__eq__" ["self", "other"] spec_Pattern___eq__) (F_law_words : HasL P w K mg base Tb 3 "_law_words" ["_law_pool_here", "_law_signs_here", "_law_part"] spec_law_words) (F_law_stands_in : HasL P w K mg base Tb 1 "_law_stands_in" ["_law_part", "_law_word"] spec_law_stands_in) (M_Pattern_keeps : HasMd P w K mg base Tb 3 "Pattern" "keeps" ["self", "text"] spec_Pattern_keeps) {f : Addr} {fd : FuncData} (F : Fun K "_law_right" "_law_right" s_law_right f fd) : FnG P w K mg base (L2.CX P w) 8 f fd ["_law_pool_here"] (spD ⟨K, mg, Tb⟩ 1 spec_law_right) := by
  refine okDG (T := Tb) true F sc_law_right fun cdv A outer s H E hg hr tk px => ?_
  have hu64 := hr.units
  exact ⟨b_law_right, (dss_cons (ds_par (i := 1) (j := 2) (by rfl) sc_law_right.nd rfl rfl (by decide) rfl rfl (da_cons (de_ix i_ix (de_lst (da_cons de_str (da_cons de_str (da_cons de_str (da_cons de_str da_nil))))) (de_g F_law_draw hg (hr.mono (by decide)) tk rfl n_law_draw (da_cons (dv 0) (da_cons de_int da_nil))) (fun _ _ => rfl)) (da_cons (de_g0 F_law_signs hg (hr.mono (by decide)) tk rfl n_law_signs) da_nil)) (by rfl))
    (dss_cons (ds_set (i := 3) sc_law_right.nd rfl (Or.inl rfl) (de_g F_law_drawn_text hg (hr.mono (by decide)) tk rfl n_law_drawn_text (da_cons (dv 0) (da_cons (de_ix i_ix (de_lst (da_cons (dv 1) (da_cons (dv 2) da_nil))) (de_callTy c_int rfl T.b_int bt_int (da_cons (de_cmp (p_eq hu64) (de_g F_law_draw hg (hr.mono (by decide)) tk rfl n_law_draw (da_cons (dv 0) (da_cons de_int da_nil))) de_int (nomark _)) da_nil)) (fun _ _ => rfl)) (da_cons de_int (da_cons de_int da_nil))))))
    (dss_cons (ds_par (i := 4) (j := 5) (by rfl) sc_law_right.nd rfl rfl (by decide) rfl rfl (da_cons (dx_st ST_Pattern_without (hr.mono (by decide)) tk rfl n_Pattern_without (da_cons (dv 3) da_nil)) (da_cons (dx_inv M_Pattern___invert__ (dx_st ST_Pattern_without (hr.mono (by decide)) tk rfl n_Pattern_without (da_cons (dv 3) da_nil)) (hr.mono (by decide)) tk n_Pattern___invert__) da_nil)) (by rfl))
    (dss_cons (ds_if (DW.dt (dw_or (dt_not (dt_val (de_isO T.is_Pattern (dv 4) rfl T.b_isinstance rfl))) (dw_or (dt_cmpO (neg := true) M_Pattern___eq__ T.eq_Pattern rfl (p_ne hu64) (dv 4) (dx_stK (c := "Pattern") (ks := ["text"]) (F := STK_Pattern_without_text) (hG := relG_app) (hr.mono (by decide)) tk rfl n_Pattern_without (dk_cons (dv 3) dk_nil)) (hr.mono (by decide)) tk n_Pattern___eq__ (nomark _)) (dw_or1 (dt_cmpO (neg := false) M_Pattern___eq__ T.eq_Pattern rfl (p_eq hu64) (dv 4) (dv 5) (hr.mono (by decide)) tk n_Pattern___eq__ (nomark _)))))) (dss_one (ds_ret de_bl)) dss_nil)
    (dss_cons (ds_for px rfl (di_any (de_g F_law_words hg (hr.mono (by decide)) tk rfl n_law_words (da_cons (dv 0) (da_cons (de_op p_add (dv 1) (dv 3)) (da_cons (dv 3) da_nil))))) (dg_name (i := 6) sc_law_right.nd rfl (Or.inl rfl)) (dss_cons (ds_set (i := 7) sc_law_right.nd rfl (Or.inl rfl) (de_not (de_g F_law_stands_in hg (hr.mono (by decide)) tk rfl n_law_stands_in (da_cons (dv 3) (da_cons (dv 6) da_nil)))))
    (dss_one (ds_if (dt_cmp (p_ne hu64) (de_callB (c_repr hg hu64) rfl T.b_repr bt_repr (da_cons (de_lst (da_cons (dx_m M_Pattern_keeps (dv 4) (hr.mono (by decide)) tk n_Pattern_keeps (da_cons (dv 6) da_nil)) (da_cons (dx_m M_Pattern_keeps (dv 5) (hr.mono (by decide)) tk n_Pattern_keeps (da_cons (dv 6) da_nil)) da_nil))) da_nil)) (de_callB (c_repr hg hu64) rfl T.b_repr bt_repr (da_cons (de_lst (da_cons (dv 7) (da_cons (de_not (dv 7)) da_nil))) da_nil)) (nomark _)) (dss_one (ds_ret de_bl)) dss_nil))))
    (dss_one (ds_ret (de_and (dx_cmpO (neg := false) M_Pattern___eq__ T.eq_Pattern rfl (p_eq hu64) (dv 4) (dx_st ST_Pattern_without (hr.mono (by decide)) tk rfl n_Pattern_without (da_cons (dv 3) da_nil)) (hr.mono (by decide)) tk n_Pattern___eq__ (nomark _)) (de_one (de_cmp (p_eq hu64) (de_callB (c_repr hg hu64) rfl T.b_repr bt_repr (da_cons (dx_m M_Pattern_keeps (dv 4) (hr.mono (by decide)) tk n_Pattern_keeps (da_cons (dv 2) da_nil)) da_nil)) (de_callB (c_repr hg hu64) rfl T.b_repr bt_repr (da_cons (de_not (de_g F_law_stands_in hg (hr.mono (by decide)) tk rfl n_law_stands_in (da_cons (dv 3) (da_cons (dv 2) da_nil)))) da_nil)) (nomark _))))))))))), r_law_right⟩
theorem ok_law (T : Txt K mg Tb) (F_law_cell : HasL P w K mg base Tb 1 "_law_cell" ["_law_script", "_law_k"] spec_law_cell) (F_law_pool : HasL P w K mg base Tb 1 "_law_pool" ["_law_cell_here"] spec_law_pool) (F_law_right : HasL P w K mg base Tb 8 "_law_right" ["_law_pool_here"] spec_law_right) {f : Addr} {fd : FuncData} (F : Fun K "law" "law" s_law f fd) : FnG P w K mg base (L2.CX P w) 9 f fd ["_law_script"] (spD ⟨K, mg, Tb⟩ 1 spec_law) := by
  refine okDG (T := Tb) true F sc_law fun cdv A outer s H E hg hr tk px => ?_
  have hu64 := hr.units
  exact ⟨b_law, (dss_one (ds_ret (de_callB (c_all rfl) rfl T.b_all bt_all (da_cons (de_lc (own := [("_law_k", 1)]) rfl sc_law.nd (di_range1 rfl T.b_range (da_cons (de_callB (c_max2 rfl) rfl T.b_max bt_max (da_cons de_int (da_cons (de_callB (c_min2 rfl) rfl T.b_min bt_min (da_cons (de_callB c_len rfl T.b_len bt_len (da_cons (dv 0) da_nil)) (da_cons de_int da_nil))) da_nil))) da_nil)) (blkOk_by (own := [("_law_k", 1)]) (N := N_law) (sc := defScope s_law) (by decide +kernel)) (fun _ _ _ _ _ => (dg_name (i := 1) sc_law.nd rfl (Or.inl rfl))) (fun _ _ _ _ _ => dts_nil) (fun _ _ _ _ _ => (de_g F_law_right hg (hr.mono (by decide)) takes_WF rfl n_law_right (da_cons (de_g F_law_pool hg (hr.mono (by decide)) takes_WF rfl n_law_pool (da_cons (de_g F_law_cell hg (hr.mono (by decide)) takes_WF rfl n_law_cell (da_cons (dv 0) (da_cons (dv 1) da_nil))) da_nil)) da_nil)))) da_nil)))), r_law⟩
end
end D49

namespace D49
open PySem L2 Ft Dn LamX StX
theorem ini_InvalidGood : Init1 (inClass (top 5) 0) "index" := ⟨⟨_, _, _, _, rfl⟩, rfl, rfl, rfl, by decide +kernel, by decide +kernel, by decide, by decide⟩
theorem ini_InvalidMoves : Init1 (inClass (top 6) 0) "index" := ⟨⟨_, _, _, _, rfl⟩, rfl, rfl, rfl, by decide +kernel, by decide +kernel, by decide, by decide⟩
theorem ini_InvalidNumber : Init1 (inClass (top 3) 0) "value" := ⟨⟨_, _, _, _, rfl⟩, rfl, rfl, rfl, by decide +kernel, by decide +kernel, by decide, by decide⟩
theorem ini_InvalidString : Init1 (inClass (top 4) 0) "value" := ⟨⟨_, _, _, _, rfl⟩, rfl, rfl, rfl, by decide +kernel, by decide +kernel, by decide, by decide⟩
theorem ini_InvalidText : Init1 (inClass (top 2) 0) "value" := ⟨⟨_, _, _, _, rfl⟩, rfl, rfl, rfl, by decide +kernel, by decide +kernel, by decide, by decide⟩
theorem all_mk {P : Program} {w : World} {K : PySem.W.Frag} {mg : Str → Option Value} {base : Heap} {EX0 EX1 EX2 EX3 EX4 CC0 fi0 f0 f1 f2 f3 f4 f5 f6 f7 f8 fm10 fq10 fm11 fm12 fm13 fm14 fm15 f16 f17 f18 f19 f20 f21 f22 f23 f24 : Addr} {d0 d1 d2 d3 d4 d5 d6 d7 d8 dm9 dm10 dm11 dm12 dm13 dm14 dm15 d16 d17 d18 d19 d20 d21 d22 d23 d24 : FuncData} (b_abs : mg "abs" = none) (b_all : mg "all" = none) (b_bool : mg "bool" = none) (b_divmod : mg "divmod" = none) (b_enumerate : mg "enumerate" = none) (b_int : mg "int" = none) (b_isinstance : mg "isinstance" = none) (b_len : mg "len" = none) (b_list : mg "list" = none) (b_max : mg "max" = none) (b_min : mg "min" = none) (b_range : mg "range" = none) (b_repr : mg "repr" = none) (b_set : mg "set" = none) (b_sorted : mg "sorted" = none) (b_str : mg "str" = none) (b_tuple : mg "tuple" = none) (m_ALL_SIGNS : Cst mg "ALL_SIGNS" (.int 96)) (m_MOST_MOVES : Cst mg "MOST_MOVES" (.int 30)) (m_MOST_STANDS : Cst mg "MOST_STANDS" (.int 5)) (X_InvalidGood : ExAt K mg "InvalidGood" "index" EX0) (X_InvalidMoves : ExAt K mg "InvalidMoves" "index" EX1) (X_InvalidNumber : ExAt K mg "InvalidNumber" "value" EX2) (X_InvalidString : ExAt K mg "InvalidString" "value" EX3) (X_InvalidText : ExAt K mg "InvalidText" "value" EX4) (g_Pattern : mg "Pattern" = some (.ref CC0)) (cl_Pattern : Cls K CC0) (no_Pattern_form : NoAttr K CC0 "form") (no_Pattern_good : NoAttr K CC0 "good") (no_Pattern_moves : NoAttr K CC0 "moves") (no_Pattern_stands : NoAttr K CC0 "stands") (qe_Pattern : EqFacts K CC0) (qi_Pattern : IsFacts K CC0) (mk_Pattern : Mk K CC0 fi0) (A_is_whole : DefAt K mg "is_whole" s_is_whole f0 d0) (A_is_between : DefAt K mg "is_between" s_is_between f1 d1) (A_is_sign : DefAt K mg "is_sign" s_is_sign f2 d2) (A_is_string : DefAt K mg "is_string" s_is_string f3 d3) (A_are_unlike : DefAt K mg "are_unlike" s_are_unlike f4 d4) (A_check_good : DefAt K mg "check_good" s_check_good f5 d5) (A_is_move : DefAt K mg "is_move" s_is_move f6 d6) (A_check_moves : DefAt K mg "check_moves" s_check_moves f7 d7) (A_overlap_of : DefAt K mg "overlap_of" s_overlap_of f8 d8) (fu_Pattern___init__ : Fun K "__init__" "Pattern.__init__" s_Pattern___init__ fi0 dm9) (sa_Pattern_without : StatAt K CC0 "without" fq10 fm10) (fu_Pattern_without : Fun K "without" "Pattern.without" s_Pattern_without fm10 dm10) (me_Pattern_stand_behind : Meth K CC0 "stand_behind" fm11) (fu_Pattern_stand_behind : Fun K "stand_behind" "Pattern.stand_behind" s_Pattern_stand_behind fm11 dm11) (me_Pattern_face : Meth K CC0 "face" fm12) (fu_Pattern_face : Fun K "face" "Pattern.face" s_Pattern_face fm12 dm12) (me_Pattern_keeps : Meth K CC0 "keeps" fm13) (fu_Pattern_keeps : Fun K "keeps" "Pattern.keeps" s_Pattern_keeps fm13 dm13) (me_Pattern___invert__ : Meth K CC0 "__invert__" fm14) (fu_Pattern___invert__ : Fun K "__invert__" "Pattern.__invert__" s_Pattern___invert__ fm14 dm14) (me_Pattern___eq__ : Meth K CC0 "__eq__" fm15) (fu_Pattern___eq__ : Fun K "__eq__" "Pattern.__eq__" s_Pattern___eq__ fm15 dm15) (A_law_cell : DefAt K mg "_law_cell" s_law_cell f16 d16) (A_law_pool : DefAt K mg "_law_pool" s_law_pool f17 d17) (A_law_draw : DefAt K mg "_law_draw" s_law_draw f18 d18) (A_law_signs : DefAt K mg "_law_signs" s_law_signs f19 d19) (A_law_drawn_text : DefAt K mg "_law_drawn_text" s_law_drawn_text f20 d20) (A_law_stands_in : DefAt K mg "_law_stands_in" s_law_stands_in f21 d21) (A_law_words : DefAt K mg "_law_words" s_law_words f22 d22) (A_law_right : DefAt K mg "_law_right" s_law_right f23 d23) (A_law : DefAt K mg "law" s_law f24 d24)  : FnG P w K mg base CX0 9 f24 d24 ["_law_script"] (lawSp K []) := by
  have T : Txt K mg [] := ⟨b_abs, b_all, b_bool, b_divmod, b_enumerate, b_int, b_isinstance, b_len, b_list, b_max, b_min, b_range, b_repr, b_set, b_sorted, b_str, b_tuple, m_ALL_SIGNS, m_MOST_MOVES, m_MOST_STANDS, ⟨_, X_InvalidGood⟩, ⟨_, X_InvalidMoves⟩, ⟨_, X_InvalidNumber⟩, ⟨_, X_InvalidString⟩, ⟨_, X_InvalidText⟩, fldAt_mk g_Pattern cl_Pattern no_Pattern_form, fldAt_mk g_Pattern cl_Pattern no_Pattern_good, fldAt_mk g_Pattern cl_Pattern no_Pattern_moves, fldAt_mk g_Pattern cl_Pattern no_Pattern_stands, eqf_mk g_Pattern qe_Pattern, ⟨_, g_Pattern, qi_Pattern⟩⟩
  have F_is_whole : HasF P w K mg base [] 1 "is_whole" ["value"] spec_is_whole := A_is_whole.hasO (ok_is_whole T ) (fun _ _ _ _ _ _ us hl => match us, hl with | [_], _ => rfl)
  have F_is_between : HasF P w K mg base [] 2 "is_between" ["value", "least", "most"] spec_is_between := A_is_between.hasO (ok_is_between T F_is_whole) (fun _ _ _ _ _ _ us hl => match us, hl with | [_, _, _], _ => rfl)
  have F_is_sign : HasF P w K mg base [] 1 "is_sign" ["sign"] spec_is_sign := A_is_sign.hasO (ok_is_sign T ) (fun _ _ _ _ _ _ us hl => match us, hl with | [_], _ => rfl)
  have F_is_string : HasF P w K mg base [] 2 "is_string" ["value", "least", "most"] spec_is_string := A_is_string.hasO (ok_is_string T F_is_sign) (fun _ _ _ _ _ _ us hl => match us, hl with | [_, _, _], _ => rfl)
  have F_are_unlike : HasF P w K mg base [] 1 "are_unlike" ["values"] spec_are_unlike := A_are_unlike.hasO (ok_are_unlike T ) (fun _ _ _ _ _ _ us hl => match us, hl with | [_], _ => rfl)
  have F_check_good : HasF P w K mg base [] 3 "check_good" ["stands", "value"] spec_check_good := A_check_good.hasO (ok_check_good T F_is_between) (fun _ _ _ _ _ _ us hl => match us, hl with | [_, _], _ => rfl)
  have F_is_move : HasF P w K mg base [] 3 "is_move" ["stands", "value"] spec_is_move := A_is_move.hasO (ok_is_move T F_is_between F_is_string F_are_unlike) (fun _ _ _ _ _ _ us hl => match us, hl with | [_, _], _ => rfl)
  have F_check_moves : HasF P w K mg base [] 4 "check_moves" ["stands", "value"] spec_check_moves := A_check_moves.hasO (ok_check_moves T F_is_move) (fun _ _ _ _ _ _ us hl => match us, hl with | [_, _], _ => rfl)
  have F_overlap_of : HasF P w K mg base [] 1 "overlap_of" ["text", "got"] spec_overlap_of := A_overlap_of.hasO (ok_overlap_of T ) (fun _ _ _ _ _ _ us hl => match us, hl with | [_, _], _ => rfl)
  have O_Pattern___init__ := ok_Pattern___init__ (P := P) (w := w) (base := base) T F_is_between F_check_good F_check_moves fu_Pattern___init__
  have CR_Pattern : HasCRd P w K mg base [] 5 "Pattern" spec_Pattern___init__ 2 := ⟨_, ⟨_, O_Pattern___init__, g_Pattern, mk_Pattern⟩⟩
  have O_Pattern_without := ok_Pattern_without (P := P) (w := w) (base := base) T F_is_string F_overlap_of CR_Pattern fu_Pattern_without
  have ST_Pattern_without : HasSt P w K mg base [] 7 "Pattern" "without" ["text"] spec_Pattern_without := st_mk g_Pattern sa_Pattern_without fu_Pattern_without O_Pattern_without (fun _ _ _ _ _ _ us hl => match us, hl with | [_], _ => rfl)
  have O_Pattern_stand_behind := ok_Pattern_stand_behind (P := P) (w := w) (base := base) T  fu_Pattern_stand_behind
  have M_Pattern_stand_behind : HasMd P w K mg base [] 1 "Pattern" "stand_behind" ["self", "stand", "sign"] spec_Pattern_stand_behind := md_mk g_Pattern cl_Pattern me_Pattern_stand_behind fu_Pattern_stand_behind O_Pattern_stand_behind (fun _ _ _ _ _ _ us hl => match us, hl with | [_, _, _], _ => rfl)
  have O_Pattern_face := ok_Pattern_face (P := P) (w := w) (base := base) T M_Pattern_stand_behind fu_Pattern_face
  have M_Pattern_face : HasMd P w K mg base [] 2 "Pattern" "face" ["self", "text"] spec_Pattern_face := md_mk g_Pattern cl_Pattern me_Pattern_face fu_Pattern_face O_Pattern_face (fun _ _ _ _ _ _ us hl => match us, hl with | [_, _], _ => rfl)
  have O_Pattern_keeps := ok_Pattern_keeps (P := P) (w := w) (base := base) T M_Pattern_face fu_Pattern_keeps
  have M_Pattern_keeps : HasMd P w K mg base [] 3 "Pattern" "keeps" ["self", "text"] spec_Pattern_keeps := md_mk g_Pattern cl_Pattern me_Pattern_keeps fu_Pattern_keeps O_Pattern_keeps (fun _ _ _ _ _ _ us hl => match us, hl with | [_, _], _ => rfl)
  have O_Pattern___invert__ := ok_Pattern___invert__ (P := P) (w := w) (base := base) T CR_Pattern fu_Pattern___invert__
  have M_Pattern___invert__ : HasMd P w K mg base [] 7 "Pattern" "__invert__" ["self"] spec_Pattern___invert__ := md_mk g_Pattern cl_Pattern me_Pattern___invert__ fu_Pattern___invert__ O_Pattern___invert__ (fun _ _ _ _ _ _ us hl => match us, hl with | [_], _ => rfl)
  have O_Pattern___eq__ := ok_Pattern___eq__ (P := P) (w := w) (base := base) T  fu_Pattern___eq__
  have M_Pattern___eq__ : HasMd P w K mg base [] 1 "Pattern" "__eq__" ["self", "other"] spec_Pattern___eq__ := md_mk g_Pattern cl_Pattern me_Pattern___eq__ fu_Pattern___eq__ O_Pattern___eq__ (fun _ _ _ _ _ _ us hl => match us, hl with | [_, _], _ => rfl)
  have F_law_cell : HasL P w K mg base [] 1 "_law_cell" ["_law_script", "_law_k"] spec_law_cell := A_law_cell.has (ok_law_cell T ) (fun _ _ _ _ _ _ us hl => match us, hl with | [_, _], _ => rfl)
  have F_law_pool : HasL P w K mg base [] 1 "_law_pool" ["_law_cell_here"] spec_law_pool := A_law_pool.has (ok_law_pool T ) (fun _ _ _ _ _ _ us hl => match us, hl with | [_], _ => rfl)
  have F_law_draw : HasL P w K mg base [] 1 "_law_draw" ["_law_pool_here", "_law_many"] spec_law_draw := A_law_draw.has (ok_law_draw T ) (fun _ _ _ _ _ _ us hl => match us, hl with | [_, _], _ => rfl)
  have F_law_signs : HasL P w K mg base [] 1 "_law_signs" [] spec_law_signs := A_law_signs.has (ok_law_signs T ) (fun _ _ _ _ _ _ us hl => match us, hl with | [], _ => rfl)
  have F_law_drawn_text : HasL P w K mg base [] 2 "_law_drawn_text" ["_law_pool_here", "_law_signs_here", "_law_least", "_law_most"] spec_law_drawn_text := A_law_drawn_text.has (ok_law_drawn_text T F_law_draw) (fun _ _ _ _ _ _ us hl => match us, hl with | [_, _, _, _], _ => rfl)
  have F_law_stands_in : HasL P w K mg base [] 1 "_law_stands_in" ["_law_part", "_law_word"] spec_law_stands_in := A_law_stands_in.has (ok_law_stands_in T ) (fun _ _ _ _ _ _ us hl => match us, hl with | [_, _], _ => rfl)
  have F_law_words : HasL P w K mg base [] 3 "_law_words" ["_law_pool_here", "_law_signs_here", "_law_part"] spec_law_words := A_law_words.has (ok_law_words T F_law_drawn_text F_law_draw) (fun _ _ _ _ _ _ us hl => match us, hl with | [_, _, _], _ => rfl)
  have STK_Pattern_without_text : HasStK P w K mg base [] 7 "Pattern" "without" ["text"] ["text"] appG spec_Pattern_without := stk_mk g_Pattern sa_Pattern_without fu_Pattern_without O_Pattern_without (fun _ _ _ _ _ _ us ws h1 h2 => match us, ws, h1, h2 with | [], [_], _, _ => rfl) rel_app
  have F_law_right : HasL P w K mg base [] 8 "_law_right" ["_law_pool_here"] spec_law_right := A_law_right.has (ok_law_right T F_law_draw F_law_signs F_law_drawn_text ST_Pattern_without M_Pattern___invert__ STK_Pattern_without_text M_Pattern___eq__ F_law_words F_law_stands_in M_Pattern_keeps) (fun _ _ _ _ _ _ us hl => match us, hl with | [_], _ => rfl)
  exact lawG (ok_law (P := P) (w := w) (base := base) T F_law_cell F_law_pool F_law_right A_law.fn) law_true
def spT (K : PySem.W.Frag) (cs : List (Addr × Addr)) : Sp := lawSp K (List.zipWith (fun p q => (p.2, q)) cs [])
theorem walk {q : Program} {loose : List Str} {XP : (Str → Option Value) → Heap → Prop} {YP : World → Heap → Prop} {d : DefRec} {K : Params → PySem.W.Frag} {l : PySem.W.OpenLaw} (hn : l.most = some 63) (hdf : d.params.defaults = [])
    (hY : ∀ (w : World) (h : Heap), YP w h → (K w.params).In h)
    (F : ∀ (w : World) (mg : Str → Option Value) (fa : Addr) (h : Heap), (K w.params).In h → h.Ns mainGlobals mg → mg d.name = some (.ref fa) →
      ∃ (fd : FuncData) (cs : List (Addr × Addr)), (∀ c ∈ cs, ∃ (y : Str) (r : PySem.DefRec), (PyProof.Rows.recsOf q).find? (fun e => e.name == y) = some r ∧ PySem.W.tabIn (K w.params) y = some c ∧ (K w.params).lookup c.2 = none) ∧
        (∀ (s : Shared) (u : Value), BindsTo s fd ⟨[u], []⟩ [("_law_script", u)]) ∧
        ∀ base : Heap, (K w.params).In base → base.Ns mainGlobals mg → (∀ p ∈ cs, TabB base mg p.1 p.2) → FnG l.prog w (K w.params) mg base CX0 9 fa fd ["_law_script"] (spT (K w.params) cs)) :
    PySem.W.WalkO q loose XP YP l.row.toRowW d [] (fun f vs => PySem.call f vs) :=
  walkT (n := 63) (k := 9) (x := "_law_script") (sp := spT) hn (by decide) hdf ⟨rfl, by decide, by decide⟩ hY F fun K cs H a ns hl h1 hS => ⟨a, ns, rfl, hS, hl, fun p hp => by
    obtain ⟨i, hi, e⟩ := List.getElem_of_mem hp
    rw [List.getElem_zipWith] at e
    rw [← e]
    exact TabS.nil (h1 _ (List.getElem_mem _)), fun _ => rfl⟩
theorem fin_mk {q : Program} {P : Program} {w : World} {K : PySem.W.Frag} {mg : Str → Option Value} {fa : Addr} {h : Heap} (X : K.In h) (G : h.Ns mainGlobals mg) (hfa : mg "law" = some (.ref fa)) {EX0 EX1 EX2 EX3 EX4 CC0 fi0 f0 f1 f2 f3 f4 f5 f6 f7 f8 fm10 fq10 fm11 fm12 fm13 fm14 fm15 f16 f17 f18 f19 f20 f21 f22 f23 f24 : Addr} {d0 d1 d2 d3 d4 d5 d6 d7 d8 dm9 dm10 dm11 dm12 dm13 dm14 dm15 d16 d17 d18 d19 d20 d21 d22 d23 d24 : FuncData} (b_abs : mg "abs" = none) (b_all : mg "all" = none) (b_bool : mg "bool" = none) (b_divmod : mg "divmod" = none) (b_enumerate : mg "enumerate" = none) (b_int : mg "int" = none) (b_isinstance : mg "isinstance" = none) (b_len : mg "len" = none) (b_list : mg "list" = none) (b_max : mg "max" = none) (b_min : mg "min" = none) (b_range : mg "range" = none) (b_repr : mg "repr" = none) (b_set : mg "set" = none) (b_sorted : mg "sorted" = none) (b_str : mg "str" = none) (b_tuple : mg "tuple" = none) (m_ALL_SIGNS : Cst mg "ALL_SIGNS" (.int 96)) (m_MOST_MOVES : Cst mg "MOST_MOVES" (.int 30)) (m_MOST_STANDS : Cst mg "MOST_STANDS" (.int 5)) (X_InvalidGood : ExAt K mg "InvalidGood" "index" EX0) (X_InvalidMoves : ExAt K mg "InvalidMoves" "index" EX1) (X_InvalidNumber : ExAt K mg "InvalidNumber" "value" EX2) (X_InvalidString : ExAt K mg "InvalidString" "value" EX3) (X_InvalidText : ExAt K mg "InvalidText" "value" EX4) (g_Pattern : mg "Pattern" = some (.ref CC0)) (cl_Pattern : Cls K CC0) (no_Pattern_form : NoAttr K CC0 "form") (no_Pattern_good : NoAttr K CC0 "good") (no_Pattern_moves : NoAttr K CC0 "moves") (no_Pattern_stands : NoAttr K CC0 "stands") (qe_Pattern : EqFacts K CC0) (qi_Pattern : IsFacts K CC0) (mk_Pattern : Mk K CC0 fi0) (A_is_whole : DefAt K mg "is_whole" s_is_whole f0 d0) (A_is_between : DefAt K mg "is_between" s_is_between f1 d1) (A_is_sign : DefAt K mg "is_sign" s_is_sign f2 d2) (A_is_string : DefAt K mg "is_string" s_is_string f3 d3) (A_are_unlike : DefAt K mg "are_unlike" s_are_unlike f4 d4) (A_check_good : DefAt K mg "check_good" s_check_good f5 d5) (A_is_move : DefAt K mg "is_move" s_is_move f6 d6) (A_check_moves : DefAt K mg "check_moves" s_check_moves f7 d7) (A_overlap_of : DefAt K mg "overlap_of" s_overlap_of f8 d8) (fu_Pattern___init__ : Fun K "__init__" "Pattern.__init__" s_Pattern___init__ fi0 dm9) (sa_Pattern_without : StatAt K CC0 "without" fq10 fm10) (fu_Pattern_without : Fun K "without" "Pattern.without" s_Pattern_without fm10 dm10) (me_Pattern_stand_behind : Meth K CC0 "stand_behind" fm11) (fu_Pattern_stand_behind : Fun K "stand_behind" "Pattern.stand_behind" s_Pattern_stand_behind fm11 dm11) (me_Pattern_face : Meth K CC0 "face" fm12) (fu_Pattern_face : Fun K "face" "Pattern.face" s_Pattern_face fm12 dm12) (me_Pattern_keeps : Meth K CC0 "keeps" fm13) (fu_Pattern_keeps : Fun K "keeps" "Pattern.keeps" s_Pattern_keeps fm13 dm13) (me_Pattern___invert__ : Meth K CC0 "__invert__" fm14) (fu_Pattern___invert__ : Fun K "__invert__" "Pattern.__invert__" s_Pattern___invert__ fm14 dm14) (me_Pattern___eq__ : Meth K CC0 "__eq__" fm15) (fu_Pattern___eq__ : Fun K "__eq__" "Pattern.__eq__" s_Pattern___eq__ fm15 dm15) (A_law_cell : DefAt K mg "_law_cell" s_law_cell f16 d16) (A_law_pool : DefAt K mg "_law_pool" s_law_pool f17 d17) (A_law_draw : DefAt K mg "_law_draw" s_law_draw f18 d18) (A_law_signs : DefAt K mg "_law_signs" s_law_signs f19 d19) (A_law_drawn_text : DefAt K mg "_law_drawn_text" s_law_drawn_text f20 d20) (A_law_stands_in : DefAt K mg "_law_stands_in" s_law_stands_in f21 d21) (A_law_words : DefAt K mg "_law_words" s_law_words f22 d22) (A_law_right : DefAt K mg "_law_right" s_law_right f23 d23) (A_law : DefAt K mg "law" s_law f24 d24)  :
    ∃ (fd : FuncData) (cs : List (Addr × Addr)), (∀ c ∈ cs, ∃ (y : Str) (r : PySem.DefRec), (PyProof.Rows.recsOf q).find? (fun e => e.name == y) = some r ∧ PySem.W.tabIn K y = some c ∧ K.lookup c.2 = none) ∧
        (∀ (s : Shared) (u : Value), BindsTo s fd ⟨[u], []⟩ [("_law_script", u)]) ∧
        ∀ base : Heap, K.In base → base.Ns mainGlobals mg → (∀ p ∈ cs, TabB base mg p.1 p.2) → FnG P w K mg base CX0 9 fa fd ["_law_script"] (spT K cs) := by
  have e := hfa.symm.trans A_law.at_
  cases e
  refine ⟨d24, [], fun p hp => ?_, fun s u => ?_, fun base _ _ TB => all_mk b_abs b_all b_bool b_divmod b_enumerate b_int b_isinstance b_len b_list b_max b_min b_range b_repr b_set b_sorted b_str b_tuple m_ALL_SIGNS m_MOST_MOVES m_MOST_STANDS X_InvalidGood X_InvalidMoves X_InvalidNumber X_InvalidString X_InvalidText g_Pattern cl_Pattern no_Pattern_form no_Pattern_good no_Pattern_moves no_Pattern_stands qe_Pattern qi_Pattern mk_Pattern A_is_whole A_is_between A_is_sign A_is_string A_are_unlike A_check_good A_is_move A_check_moves A_overlap_of fu_Pattern___init__ sa_Pattern_without fu_Pattern_without me_Pattern_stand_behind fu_Pattern_stand_behind me_Pattern_face fu_Pattern_face me_Pattern_keeps fu_Pattern_keeps me_Pattern___invert__ fu_Pattern___invert__ me_Pattern___eq__ fu_Pattern___eq__ A_law_cell A_law_pool A_law_draw A_law_signs A_law_drawn_text A_law_stands_in A_law_words A_law_right A_law ⟩
  · cases hp
  · obtain ⟨_, _, kV, doc, pm, an, cdv, ct, _, e, _, _⟩ := A_law.fn.ex
    subst e
    exact .of_eq rfl
end D49
open PySem PySem.W PyProof.Rows in
set_option maxRecDepth 100000 in
set_option maxHeartbeats 0 in
theorem PySem.Challenge.cw_fivetrees_k49_texts_without_holds : PySem.Challenge.rw_fivetrees_k49_texts_without.Holds := by
  w_on; o_law; k_head; (case hw => w_witness2)
  k_fill
  refine D49.walk (l := PySem.Challenge.rw_fivetrees_k49_texts_without) rfl rfl (fun w h Y => PySem.W.kIn_of Y) ?F
  case F =>
    intro w mg fa h KX G hmg0
    have hmg : mg (PySem.Str.ofString "law") = some (.ref fa) := hmg0
    clear hmg0
    refine' D49.fin_mk KX G hmg (PySem.W.mg_none_of KX G ?b0)
      (PySem.W.mg_none_of KX G ?b1)
      (PySem.W.mg_none_of KX G ?b2)
      (PySem.W.mg_none_of KX G ?b3)
      (PySem.W.mg_none_of KX G ?b4)
      (PySem.W.mg_none_of KX G ?b5)
      (PySem.W.mg_none_of KX G ?b6)
      (PySem.W.mg_none_of KX G ?b7)
      (PySem.W.mg_none_of KX G ?b8)
      (PySem.W.mg_none_of KX G ?b9)
      (PySem.W.mg_none_of KX G ?b10)
      (PySem.W.mg_none_of KX G ?b11)
      (PySem.W.mg_none_of KX G ?b12)
      (PySem.W.mg_none_of KX G ?b13)
      (PySem.W.mg_none_of KX G ?b14)
      (PySem.W.mg_none_of KX G ?b15)
      (PySem.W.mg_none_of KX G ?b16)
      (Ft.cst KX G ?c0 ?r0)
      (Ft.cst KX G ?c1 ?r1)
      (Ft.cst KX G ?c2 ?r2)
      (Ft.exAt_mk KX G PySem.F.excBase_ValueError PySem.F.store_ValueError D49.ini_InvalidGood (fun _ _ _ _ _ _ _ _ => rfl) ?x0g ?x0ini ?x0l ?x0c ?x0kf ?x0i1 ?x0i2 ?x0i3 ?x0i4 ?x0e1 ?x0e2 ?x0hd ?x0sa ?x0ga ?x0gg ?x0ex ?x0ty ?x0kp ?x0fn ?x0no)
      (Ft.exAt_mk KX G PySem.F.excBase_ValueError PySem.F.store_ValueError D49.ini_InvalidMoves (fun _ _ _ _ _ _ _ _ => rfl) ?x1g ?x1ini ?x1l ?x1c ?x1kf ?x1i1 ?x1i2 ?x1i3 ?x1i4 ?x1e1 ?x1e2 ?x1hd ?x1sa ?x1ga ?x1gg ?x1ex ?x1ty ?x1kp ?x1fn ?x1no)
      (Ft.exAt_mk KX G PySem.F.excBase_ValueError PySem.F.store_ValueError D49.ini_InvalidNumber (fun _ _ _ _ _ _ _ _ => rfl) ?x2g ?x2ini ?x2l ?x2c ?x2kf ?x2i1 ?x2i2 ?x2i3 ?x2i4 ?x2e1 ?x2e2 ?x2hd ?x2sa ?x2ga ?x2gg ?x2ex ?x2ty ?x2kp ?x2fn ?x2no)
      (Ft.exAt_mk KX G PySem.F.excBase_ValueError PySem.F.store_ValueError D49.ini_InvalidString (fun _ _ _ _ _ _ _ _ => rfl) ?x3g ?x3ini ?x3l ?x3c ?x3kf ?x3i1 ?x3i2 ?x3i3 ?x3i4 ?x3e1 ?x3e2 ?x3hd ?x3sa ?x3ga ?x3gg ?x3ex ?x3ty ?x3kp ?x3fn ?x3no)
      (Ft.exAt_mk KX G PySem.F.excBase_ValueError PySem.F.store_ValueError D49.ini_InvalidText (fun _ _ _ _ _ _ _ _ => rfl) ?x4g ?x4ini ?x4l ?x4c ?x4kf ?x4i1 ?x4i2 ?x4i3 ?x4i4 ?x4e1 ?x4e2 ?x4hd ?x4sa ?x4ga ?x4gg ?x4ex ?x4ty ?x4kp ?x4fn ?x4no)
      (PySem.W.mg_of KX G ?cg0)
      ⟨?s0a, ?s0b, ?s0c, ?s0d⟩
      ?o0_0
      ?o0_1
      ?o0_2
      ?o0_3
      ⟨?qe0a, ?qe0b⟩
      ⟨⟨?yc0a, ?yc0b, ?yc0c, ?yc0d⟩, ?yi0a, ?yi0b, ?yi0c, ?yi0d, ?yi0e, ?yi0f⟩
      ⟨?m0a, ?m0b, ?m0c, ?m0d⟩
      (Ft.defAt KX G ?a0 ?l0 ?e0 ?k0)
      (Ft.defAt KX G ?a1 ?l1 ?e1 ?k1)
      (Ft.defAt KX G ?a2 ?l2 ?e2 ?k2)
      (Ft.defAt KX G ?a3 ?l3 ?e3 ?k3)
      (Ft.defAt KX G ?a4 ?l4 ?e4 ?k4)
      (Ft.defAt KX G ?a5 ?l5 ?e5 ?k5)
      (Ft.defAt KX G ?a6 ?l6 ?e6 ?k6)
      (Ft.defAt KX G ?a7 ?l7 ?e7 ?k7)
      (Ft.defAt KX G ?a8 ?l8 ?e8 ?k8)
      (L2.fun_mk ?l9 ?e9 ?k9)
      (Dn.stat_mk ?n10a ?n10b ?n10c ?n10d)
      (L2.fun_mk ?l10 ?e10 ?k10)
      ⟨?n11a, ?n11b, ?n11c⟩
      (L2.fun_mk ?l11 ?e11 ?k11)
      ⟨?n12a, ?n12b, ?n12c⟩
      (L2.fun_mk ?l12 ?e12 ?k12)
      ⟨?n13a, ?n13b, ?n13c⟩
      (L2.fun_mk ?l13 ?e13 ?k13)
      ⟨?n14a, ?n14b, ?n14c⟩
      (L2.fun_mk ?l14 ?e14 ?k14)
      ⟨?n15a, ?n15b, ?n15c⟩
      (L2.fun_mk ?l15 ?e15 ?k15)
      (Ft.defAt KX G ?a16 ?l16 ?e16 ?k16)
      (Ft.defAt KX G ?a17 ?l17 ?e17 ?k17)
      (Ft.defAt KX G ?a18 ?l18 ?e18 ?k18)
      (Ft.defAt KX G ?a19 ?l19 ?e19 ?k19)
      (Ft.defAt KX G ?a20 ?l20 ?e20 ?k20)
      (Ft.defAt KX G ?a21 ?l21 ?e21 ?k21)
      (Ft.defAt KX G ?a22 ?l22 ?e22 ?k22)
      (Ft.defAt KX G ?a23 ?l23 ?e23 ?k23)
      (Ft.defAt KX G ?a24 ?l24 ?e24 ?k24)
    (case b0 => k_is)
    (case b1 => k_is)
    (case b2 => k_is)
    (case b3 => k_is)
    (case b4 => k_is)
    (case b5 => k_is)
    (case b6 => k_is)
    (case b7 => k_is)
    (case b8 => k_is)
    (case b9 => k_is)
    (case b10 => k_is)
    (case b11 => k_is)
    (case b12 => k_is)
    (case b13 => k_is)
    (case b14 => k_is)
    (case b15 => k_is)
    (case b16 => k_is)
    (case c0 => k_is)
    (case r0 => exact ⟨_, rfl⟩)
    (case c1 => k_is)
    (case r1 => exact ⟨_, rfl⟩)
    (case c2 => k_is)
    (case r2 => exact ⟨_, rfl⟩)
    (case x0g => k_is)
    (case x0ini => k_is)
    (case x0l => k_is)
    (case x0c => k_is)
    (case x0kf => k_is)
    (case x0i1 => k_is)
    (case x0i2 => k_is)
    (case x0i3 => k_is)
    (case x0i4 => k_is)
    (case x0e1 => kx_is)
    (case x0e2 => kx_is)
    (case x0hd => k_is)
    (case x0sa => k_is)
    (case x0ga => k_is)
    (case x0gg => k_is)
    (case x0ex => k_is)
    (case x0ty => k_is)
    (case x0kp => k_is)
    (case x0fn => k_is)
    (case x0no => k_is)
    (case x1g => k_is)
    (case x1ini => k_is)
    (case x1l => k_is)
    (case x1c => k_is)
    (case x1kf => k_is)
    (case x1i1 => k_is)
    (case x1i2 => k_is)
    (case x1i3 => k_is)
    (case x1i4 => k_is)
    (case x1e1 => kx_is)
    (case x1e2 => kx_is)
    (case x1hd => k_is)
    (case x1sa => k_is)
    (case x1ga => k_is)
    (case x1gg => k_is)
    (case x1ex => k_is)
    (case x1ty => k_is)
    (case x1kp => k_is)
    (case x1fn => k_is)
    (case x1no => k_is)
    (case x2g => k_is)
    (case x2ini => k_is)
    (case x2l => k_is)
    (case x2c => k_is)
    (case x2kf => k_is)
    (case x2i1 => k_is)
    (case x2i2 => k_is)
    (case x2i3 => k_is)
    (case x2i4 => k_is)
    (case x2e1 => kx_is)
    (case x2e2 => kx_is)
    (case x2hd => k_is)
    (case x2sa => k_is)
    (case x2ga => k_is)
    (case x2gg => k_is)
    (case x2ex => k_is)
    (case x2ty => k_is)
    (case x2kp => k_is)
    (case x2fn => k_is)
    (case x2no => k_is)
    (case x3g => k_is)
    (case x3ini => k_is)
    (case x3l => k_is)
    (case x3c => k_is)
    (case x3kf => k_is)
    (case x3i1 => k_is)
    (case x3i2 => k_is)
    (case x3i3 => k_is)
    (case x3i4 => k_is)
    (case x3e1 => kx_is)
    (case x3e2 => kx_is)
    (case x3hd => k_is)
    (case x3sa => k_is)
    (case x3ga => k_is)
    (case x3gg => k_is)
    (case x3ex => k_is)
    (case x3ty => k_is)
    (case x3kp => k_is)
    (case x3fn => k_is)
    (case x3no => k_is)
    (case x4g => k_is)
    (case x4ini => k_is)
    (case x4l => k_is)
    (case x4c => k_is)
    (case x4kf => k_is)
    (case x4i1 => k_is)
    (case x4i2 => k_is)
    (case x4i3 => k_is)
    (case x4i4 => k_is)
    (case x4e1 => kx_is)
    (case x4e2 => kx_is)
    (case x4hd => k_is)
    (case x4sa => k_is)
    (case x4ga => k_is)
    (case x4gg => k_is)
    (case x4ex => k_is)
    (case x4ty => k_is)
    (case x4kp => k_is)
    (case x4fn => k_is)
    (case x4no => k_is)
    (case cg0 => k_is)
    (case s0a => k_is)
    (case s0b => k_is)
    (case s0c => k_is)
    (case s0d => k_is)
    (case o0_0 => (show PySem.W.findIn _ _ _ = _); k_is)
    (case o0_1 => (show PySem.W.findIn _ _ _ = _); k_is)
    (case o0_2 => (show PySem.W.findIn _ _ _ = _); k_is)
    (case o0_3 => (show PySem.W.findIn _ _ _ = _); k_is)
    (case qe0a => k_is)
    (case qe0b => k_is)
    (case yc0a => k_is)
    (case yc0b => k_is)
    (case yc0c => k_is)
    (case yc0d => k_is)
    (case yi0a => k_is)
    (case yi0b => k_is)
    (case yi0c => k_is)
    (case yi0d => k_is)
    (case yi0e => kit_is)
    (case yi0f => (intro t ht; simp only [List.mem_cons, List.not_mem_nil, or_false] at ht; rcases ht with rfl | rfl | rfl | rfl | rfl | rfl | rfl <;> kit_is))
    (case m0b => k_is)
    (case m0a => k_is)
    (case m0c => k_is)
    (case m0d => k_is)
    (case a0 => k_is)
    (case l0 => k_is)
    (case e0 => k_is)
    (case k0 => k_is)
    (case a1 => k_is)
    (case l1 => k_is)
    (case e1 => k_is)
    (case k1 => k_is)
    (case a2 => k_is)
    (case l2 => k_is)
    (case e2 => k_is)
    (case k2 => k_is)
    (case a3 => k_is)
    (case l3 => k_is)
    (case e3 => k_is)
    (case k3 => k_is)
    (case a4 => k_is)
    (case l4 => k_is)
    (case e4 => k_is)
    (case k4 => k_is)
    (case a5 => k_is)
    (case l5 => k_is)
    (case e5 => k_is)
    (case k5 => k_is)
    (case a6 => k_is)
    (case l6 => k_is)
    (case e6 => k_is)
    (case k6 => k_is)
    (case a7 => k_is)
    (case l7 => k_is)
    (case e7 => k_is)
    (case k7 => k_is)
    (case a8 => k_is)
    (case l8 => k_is)
    (case e8 => k_is)
    (case k8 => k_is)
    (case l9 => k_is)
    (case e9 => k_is)
    (case k9 => k_is)
    (case n10a => k_is)
    (case n10b => k_is)
    (case n10c => k_is)
    (case n10d => k_is)
    (case l10 => k_is)
    (case e10 => k_is)
    (case k10 => k_is)
    (case n11a => k_is)
    (case n11b => k_is)
    (case n11c => k_is)
    (case l11 => k_is)
    (case e11 => k_is)
    (case k11 => k_is)
    (case n12a => k_is)
    (case n12b => k_is)
    (case n12c => k_is)
    (case l12 => k_is)
    (case e12 => k_is)
    (case k12 => k_is)
    (case n13a => k_is)
    (case n13b => k_is)
    (case n13c => k_is)
    (case l13 => k_is)
    (case e13 => k_is)
    (case k13 => k_is)
    (case n14a => k_is)
    (case n14b => k_is)
    (case n14c => k_is)
    (case l14 => k_is)
    (case e14 => k_is)
    (case k14 => k_is)
    (case n15a => k_is)
    (case n15b => k_is)
    (case n15c => k_is)
    (case l15 => k_is)
    (case e15 => k_is)
    (case k15 => k_is)
    (case a16 => k_is)
    (case l16 => k_is)
    (case e16 => k_is)
    (case k16 => k_is)
    (case a17 => k_is)
    (case l17 => k_is)
    (case e17 => k_is)
    (case k17 => k_is)
    (case a18 => k_is)
    (case l18 => k_is)
    (case e18 => k_is)
    (case k18 => k_is)
    (case a19 => k_is)
    (case l19 => k_is)
    (case e19 => k_is)
    (case k19 => k_is)
    (case a20 => k_is)
    (case l20 => k_is)
    (case e20 => k_is)
    (case k20 => k_is)
    (case a21 => k_is)
    (case l21 => k_is)
    (case e21 => k_is)
    (case k21 => k_is)
    (case a22 => k_is)
    (case l22 => k_is)
    (case e22 => k_is)
    (case k22 => k_is)
    (case a23 => k_is)
    (case l23 => k_is)
    (case e23 => k_is)
    (case k23 => k_is)
    (case a24 => k_is)
    (case l24 => k_is)
    (case e24 => k_is)
    (case k24 => k_is)
#print axioms PySem.Challenge.cw_fivetrees_k49_texts_without_holds

