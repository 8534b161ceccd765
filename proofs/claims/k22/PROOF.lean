import PyProof.Rows.All
import HandS.Head0
import HandS.Head1
import HandS.Head2
import HandS.HeadHook1
import Wide.All
import OpenK.AllK
import Wide.FinOn
import HandS.ForMost
import HandS.WordsExc
import HandS.IsInst
import HandS.Evl
import HandS.Walk
import KE.GoesEnum
import KE.KExcInit
import HandS.ExcInit
import HandS.ExcIs
import HandS.HotCalls
import HandS.ExcField
import KE.KTryMore
import HandS.Lambda
import HandS.EndTab
import HandS.TupAny
import HandS.RaiseMore
import PyProof.StrLawsRepr
import HandS.MakeKwOnly
import HandS.Deep
import HandS.SetTxt0
import HandS.Strs
import HandS.Star
import HandS.DictComp
import KE.KeyNested
import HandS.Flow
import KE.DataEq
import HandS.Conv
import HandS.Style
import HandS.FStr
import HandS.Dict
import HandS.Set
import PyProof.Rows.SortStr
import HandS.Small
import KE.DataFind
import KE.DataMinMax
import HandS.SortKw
import HandS.Zip
import HandS.ClsMeth
import HandS.TupMul
import HandS.RevRange
import OpenK.KMeth
import KE.KExcMake
import KE.KExcIs
import HandS.ExcValue
import HandS.Words
import KE.KExcLine
import KE.RegKIsAll
import KE.RegKTryMore
import PySem.Challenge.RW_fivetrees_k22_errors_and_limits
set_option Elab.async false
set_option maxRecDepth 100000
set_option maxHeartbeats 4000000
set_option linter.all false
set_option maxHeartbeats 2000000
namespace Hf
open PySem PySem.Spec PyProof.Rows L2 He
def refsX (o : Obj) : List Addr := match o.data with
  | .dict es _ => es.toList.flatMap fun e => refV e.val
  | .func fd => refV fd.code
  | .cls cd => [cd.ns]
  | .fields vs => (match o.cls with
    | .type "staticmethod" => vs.toList.flatMap refV
    | .type "classmethod" => vs.toList.flatMap refV
    | _ => [])
  | _ => []
def outG (g : Addr → Option Obj) (as : List Addr) : List Addr := as.flatMap fun a => match g a with
  | some o => refsX o
  | none => []
def asX (g : Addr → Option Obj) : Nat → List Addr → List Addr
  | 0, as => as
  | n + 1, as => as ++ asX g n (outG g as)
def frK {α : Type} : PySem.W.Frag → (PySem.W.Frag → α) → α
  | [], k => k []
  | p :: r, k => match p with
    | (a, o) => HandSHeadRun.frNat a fun a => match o with
      | ⟨c, d, dt, sl⟩ => frK r fun r => k ((a, ⟨c, d, dt, sl⟩) :: r)
theorem frK_eq {α : Type} : ∀ (l : PySem.W.Frag) (k : PySem.W.Frag → α), frK l k = k l
  | [], _ => rfl
  | (a, ⟨c, d, dt, sl⟩) :: r, k => by
    show HandSHeadRun.frNat a (fun a => frK r fun r => k ((a, ⟨c, d, dt, sl⟩) :: r)) = _
    rw [HandSHeadRun.frNat_eq, frK_eq r]
structure FnP where
  at_ : PySem.W.Frag → Addr
  name : Str
  qual : Str
  params : Arguments
  body : List Stmt
  scope : Scope
def fnV (K : PySem.W.Frag) (a : Addr) : FnV := match K.lookup a with
  | some ⟨_, _, .func fd, _⟩ => some (fd.name, fd.qualname, fd.params, fd.body, fd.scope, fd.globals, fd.closure, fd.defaults, fd.builtins)
  | _ => none
def FnP.val (d : FnP) : FnV := some (d.name, d.qual, d.params, .stmts d.body, d.scope, mainGlobals, [], .none, builtinsNs)
def FnP.ok (K : PySem.W.Frag) (d : FnP) : Bool := match K.lookup (d.at_ K) with
  | some ⟨_, _, .func fd, _⟩ => PySem.W.codeIn K fd.code d.qual
  | _ => false
theorem fnP_ok {K : PySem.W.Frag} {d : FnP} (e : fnV K (d.at_ K) = d.val) (c : d.ok K = true) :
    ∃ oc od osl kV doc pm an cdv ct, K.lookup (d.at_ K) = some ⟨oc, od, .func (PySem.W.fnOf d.name d.qual d.params d.body d.scope .none kV doc pm an cdv ct), osl⟩ ∧ PySem.W.codeIn K cdv d.qual = true := by
  have c2 : (match K.lookup (d.at_ K) with
    | some ⟨_, _, .func fd, _⟩ => PySem.W.codeIn K fd.code d.qual
    | _ => false) = true := c
  unfold fnV at e
  cases q : K.lookup (d.at_ K) with
  | none =>
    rw [q] at c2
    cases c2
  | some o =>
    obtain ⟨oc, od, dt, osl⟩ := o
    rw [q] at c2 e
    cases dt with
    | func fd =>
      obtain ⟨n1, n2, n3, n4, n5, n6, n7, n8, n9, n10, n11, n12, n13, n14, n15⟩ := fd
      have e2 : (some (n1, n2, n3, n4, n5, n6, n7, n8, n15) : FnV) = some (d.name, d.qual, d.params, .stmts d.body, d.scope, mainGlobals, [], .none, builtinsNs) := e
      simp only [Option.some.injEq, Prod.mk.injEq] at e2
      obtain ⟨h1, h2, h3, h4, h5, h6, h7, h8, h9⟩ := e2
      subst h1 h2 h3 h4 h5 h6 h7 h8 h9
      exact ⟨oc, od, osl, n9, n10, n11, n12, n13, n14, rfl, c2⟩
    | _ => cases c2
abbrev Al : Type := Bool × List FnV
def obsE (fa : List (List (PySem.W.Frag → Bool))) (fn : List FnP) (K : PySem.W.Frag) : Al := ((fa.all fun l => l.all fun f => f K) && fn.all fun d => d.ok K, fn.map fun d => fnV K (d.at_ K))
def valE (fn : List FnP) : Al := (true, fn.map FnP.val)
def Says (fa : List (List (PySem.W.Frag → Bool))) (fn : List FnP) (K : PySem.W.Frag) : Prop := obsE fa fn K = valE fn
def obsG (n : Nat) (fa : List (List (PySem.W.Frag → Bool))) (fn : List FnP) (g : Addr → Option Obj) : Al := frK (frG g (asX g n [mainGlobals, cStatics])) (obsE fa fn)
def hookX (n : Nat) (fa : List (List (PySem.W.Frag → Bool))) (fn : List FnP) : PySem.W.Hook where
  α := Al
  obs := fun s => obsG n fa fn s.heap.get?
  val := fun _ => valE fn
  says := fun _ h => ∃ K : PySem.W.Frag, K.In h ∧ Says fa fn K
  of := fun _ _ e => by
    unfold obsG at e
    rw [frK_eq] at e
    exact ⟨_, frG_in, e⟩
  keeps := fun _ _ _ ⟨K, hK, c⟩ k => ⟨K, PySem.W.Frag.In.keeps hK k, c⟩
theorem obsG_eq {n : Nat} {fa : List (List (PySem.W.Frag → Bool))} {fn : List FnP} {g : Addr → Option Obj} {s : Shared} (h : ∀ a, g a = s.heap.get? a) : obsG n fa fn g = (hookX n fa fn).obs s := by
  have e : g = s.heap.get? := funext h
  rw [e] <;> rfl
section
variable {fa : List (List (PySem.W.Frag → Bool))} {fn : List FnP} {K : PySem.W.Frag}
theorem Says.fact (c : Says fa fn K) (i j : Nat) {l : List (PySem.W.Frag → Bool)} {f : PySem.W.Frag → Bool} (h : fa[i]? = some l) (h2 : l[j]? = some f) : f K = true := by
  have c1 := (ba (show ((fa.all fun l => l.all fun f => f K) && fn.all fun d => d.ok K) = true from congrArg (fun z : Al => z.1) c)).1
  exact List.all_eq_true.mp (List.all_eq_true.mp c1 l (List.mem_of_getElem? h)) f (List.mem_of_getElem? h2)
theorem Says.val (c : Says fa fn K) (i : Nat) {d : FnP} (h : fn[i]? = some d) : fnV K (d.at_ K) = d.val ∧ d.ok K = true := by
  have c2 := (ba (show ((fa.all fun l => l.all fun f => f K) && fn.all fun d => d.ok K) = true from congrArg (fun z : Al => z.1) c)).2
  have e : fn.map (fun d => fnV K (d.at_ K)) = fn.map FnP.val := congrArg (fun z : Al => z.2) c
  have e2 : (fn.map fun d => fnV K (d.at_ K))[i]? = (fn.map FnP.val)[i]? := by rw [e]
  rw [List.getElem?_map, List.getElem?_map, h] at e2
  exact ⟨Option.some.inj e2, List.all_eq_true.mp c2 d (List.mem_of_getElem? h)⟩
theorem Says.def_ (c : Says fa fn K) (i : Nat) {d : FnP} (h : fn[i]? = some d) :
    ∃ oc od osl kV doc pm an cdv ct, K.lookup (d.at_ K) = some ⟨oc, od, .func (PySem.W.fnOf d.name d.qual d.params d.body d.scope .none kV doc pm an cdv ct), osl⟩ ∧ PySem.W.codeIn K cdv d.qual = true := fnP_ok (c.val i h).1 (c.val i h).2
end
end Hf
namespace Ft
open PySem PySem.Spec PyProof.Rows L2
structure FnG (P : Program) (w : World) (K : PySem.W.Frag) (mg : Str → Option Value) (base : Heap) (CX : CXT) (k : Nat) (f : Addr)
    (fd : FuncData) (ps : List Str) (sp : Sp) : Prop where
  gLen : ∀ vs H Q E, sp vs H Q E → vs.length = ps.length
  gRun : ∀ (A : Around), A.guards = some [] → Room k A → ∀ (outer : List Env) (s : Shared) (H : Hp), Env0 P w K mg base A outer s H →
    ∀ (args : Args) (us : List Value) (vs : List V) (Q : VK) (E : XK), BindsTo s fd args (ps.zip us) → Vals vs us → sp vs H Q E →
      codeAny (model P w) A (.call (.ref f) args) (CR CX outer P w H s Q E) s
section
variable {P : Program} {w : World} {K : PySem.W.Frag} {mg : Str → Option Value} {base : Heap} {CX : CXT} {j k : Nat} {f : Addr} {fd : FuncData} {ps : List Str} {sp sp' : Sp}
theorem ofOk (F : FnOk P w K mg base CX k f fd ps sp) : FnG P w K mg base CX k f fd ps sp :=
  ⟨F.len, fun A _ hr outer s H e0 args us vs Q E hb r h => F.run A outer s H args us vs Q E hr e0 hb r h⟩
theorem FnG.mono (F : FnG P w K mg base CX j f fd ps sp) (h : j ≤ k) : FnG P w K mg base CX k f fd ps sp :=
  ⟨F.gLen, fun A hg hr => F.gRun A hg (hr.mono h)⟩
theorem FnG.imp (F : FnG P w K mg base CX k f fd ps sp) (h : ∀ vs H Q E, sp' vs H Q E → sp vs H Q E) : FnG P w K mg base CX k f fd ps sp' :=
  ⟨fun vs H Q E q => F.gLen vs H Q E (h vs H Q E q), fun A hg hr outer s H e0 args us vs Q E hb r q => F.gRun A hg hr outer s H e0 args us vs Q E hb r (h _ _ _ _ q)⟩
theorem fnG {name qual : Str} {params : Arguments} {body : List Stmt} {scope : Scope} {dV kV doc pm cdv ct oc : Value} {an od : Option Addr} {osl : Array (Option Value)} {N : List Str}
    (lk : K.lookup f = some ⟨oc, od, .func (PySem.W.fnOf name qual params body scope dV kV doc pm an cdv ct), osl⟩) (hcd : PySem.W.codeIn K cdv qual = true)
    (S : FnScope N ps scope) (len : ∀ vs H Q E, sp vs H Q E → vs.length = ps.length)
    (hb : ∀ (A : Around) (outer : List Env) (s : Shared) (H : Hp) (vs : List V) (Q : VK) (E : XK), A.guards = some [] →
      Room k (A.deeper (envOfC qual scope s.heap.objs.size f cdv)) → sp vs H Q E →
      ∃ t, PSs (cxOf CX P w K mg base N qual scope f cdv A outer s H E) body t ∧ t ⟨fun _ H' => Q .non H', Q, fun _ _ => False, fun _ _ => False⟩ (start N vs) H) :
    FnG P w K mg base CX (k + 1) f (PySem.W.fnOf name qual params body scope dV kV doc pm an cdv ct) ps sp := by
  constructor
  · exact len
  intro A hg hr outer s H e0 args us vs Q E bt vv hsp
  have inK : K.In s.heap := e0.mod.kin.keeps fun b o q => (e0.bs b o q).1
  have nolim : s.heap.NoLimit := e0.mod.nolimit.keeps fun b o q => (e0.bs b o q).1
  apply codeAny_call_function hr.depth (inK f _ lk) rfl S.co S.gen rfl (PySem.W.codeRec_of inK hcd)
  apply bt
  apply wpAny_newFunctionEnv_cells S.kind
  · rintro ⟨n, v⟩ hm
    cases S.par n (List.of_mem_zip hm).1 with
    | inl q => exact Or.inl q
    | inr q => exact Or.inr ⟨q, PySem.W.cellsFrom_some _ _ _ (Or.inl q)⟩
  · intro env henv s1 ic
    cases henv
    refine And.intro (nolim.keeps ic.toInCall.keep) (codeAny_func ?_)
    obtain ⟨t, d, rd⟩ := hb A outer s H vs Q E hg (hr.deeper _) hsp
    have J := inv_start (CX := CX) (E := E) S hr.hd e0 (len vs H Q E hsp) vv ic
    apply wpAny_mono (d.run [] s1 (start N vs) H _ J rd)
    · intro fl s2 hfl
      match fl, hfl with
      | .ret u, ⟨v, σ', H', J', rv, q⟩ => exact ⟨v, H', J'.os, J'.bare, J'.base, J'.hok, rv, q⟩
      | .next, ⟨σ', H', J', q⟩ => exact ⟨V.non, H', J'.os, J'.bare, J'.base, J'.hok, rfl, q⟩
      | .brk, ⟨_, _, _, q⟩ => exact q.elim
      | .cont, ⟨_, _, _, q⟩ => exact q.elim
    · intro e s2 q
      exact q
end
section
variable {P : Program} {w : World} {K : PySem.W.Frag} {mg : Str → Option Value} {base : Heap}
theorem okGX {x qual : Str} {st : Stmt} {f : Addr} {fd : FuncData} {N ps : List Str} {k : Nat} {sp : Sp} (F : Fun K x qual st f fd) (S : FnScope N ps (defScope st))
    (len : ∀ vs H Q E, sp vs H Q E → vs.length = ps.length)
    (hb : ∀ (cdv : Value) (A : Around) (outer : List Env) (s : Shared) (H : Hp) (vs : List V) (Q : VK) (E : XK), A.guards = some [] →
      Room k (A.deeper (envOfC qual (defScope st) s.heap.objs.size f cdv)) → sp vs H Q E →
      ∃ t, PSs (cxOf (L2.CX P w) P w K mg base N qual (defScope st) f cdv A outer s H E) (defBody st) t ∧ t ⟨fun _ H' => Q .non H', Q, fun _ _ => False, fun _ _ => False⟩ (start N vs) H) :
    FnG P w K mg base (L2.CX P w) (k + 1) f fd ps sp := by
  obtain ⟨_, _, _, _, _, _, cdv, _, _, e, lk, hcd⟩ := F.ex
  subst e
  exact fnG lk hcd S len (hb cdv)
end
section
variable {X : Cx} {CX : CXT} {k : Nat} {f C : Addr} {fd : FuncData} {ps ks : List Str} {sp : Sp} {E : XK} {x m : Str} {p pos apos : Pos} {e o : Expr} {es : List Expr} {kws : List Keyword} {ta : TE} {t tk : TA}
end
structure Has (P : Program) (w : World) (K : PySem.W.Frag) (mg : Str → Option Value) (base : Heap) (CX : CXT) (k : Nat) (x : Str) (ps : List Str) (sp : Sp) : Prop where
  ex : ∃ (f : Addr) (fd : FuncData), FnG P w K mg base CX k f fd ps sp ∧ mg x = some (.ref f) ∧ PySem.W.keepIn K (.ref f) = true ∧ Binds K fd ps []
section
variable {X : Cx} {CX : CXT} {k : Nat} {ps : List Str} {sp : Sp} {E : XK} {x : Str} {p pos : Pos} {e : Expr} {es : List Expr} {t : TA}
end
theorem call_reprD {X : Cx} (hg : X.A.guards = some []) (hu : X.A.units + 64 < cLine) : CallR X (.builtin "repr") (fun xs H Q => ∃ a d, xs = [.ref a] ∧ Dp X.K H (.ref a) d ∧ d.showable = true ∧ d.hasDict = false ∧ d.depth ≤ 60 ∧ d.shown.length ≤ sizeLine ∧ Q (.str d.shown) H) := by
  rintro pins s σ H xs us Q I r ⟨a, d, rfl, hd, hs, hn, hdp, hz, q⟩
  obtain ⟨u, rfl, ru⟩ := vals1 r
  cases ru
  obtain ⟨as, rd⟩ := Dp.reads I d (.ref a) (.ref a) hd rfl
  refine repr_of_reads' rd hs (PyData.noDict_hsm hn) hg (by omega) (fun _ _ z => z) (fun h' u tk keep => ?_) hz
  exact ⟨.str d.shown, H, I.kept keep, ⟨u, rfl⟩, q⟩
end Ft
namespace Ft
open PySem PySem.Spec PyProof.Rows L2
end Ft
namespace Ft
open PySem PySem.Spec PyProof.Rows L2
theorem bt_len : bootBuiltins "len" = some (.builtin "len") := by decide +kernel
theorem bt_abs : bootBuiltins "abs" = some (.builtin "abs") := by decide +kernel
theorem bt_max : bootBuiltins "max" = some (.builtin "max") := by decide +kernel
theorem bt_min : bootBuiltins "min" = some (.builtin "min") := by decide +kernel
theorem bt_all : bootBuiltins "all" = some (.builtin "all") := by decide +kernel
theorem bt_repr : bootBuiltins "repr" = some (.builtin "repr") := by decide +kernel
theorem bt_isinstance : bootBuiltins "isinstance" = some (.builtin "isinstance") := by decide +kernel
theorem bt_int : bootBuiltins "int" = some (.type "int") := by decide +kernel
theorem bt_str : bootBuiltins "str" = some (.type "str") := by decide +kernel
def Cst (mg : Str → Option Value) (x : Str) (v : V) : Prop := ∃ u, mg x = some u ∧ RelV v u
theorem pe_const {X : Cx} {x : Str} {v : V} {pos : Pos} (h : Cst X.mg x v) (hg : Gl X x) (hd : (x == ("__debug__" : Str)) = false := by decide) : PE X (.Name x pos) (tC v) := by
  obtain ⟨u, hm, r⟩ := h
  exact pe_glob hg hm r hd
structure KwB (K : PySem.W.Frag) (fd : FuncData) (ps : List Str) (n : Nat) (ks : List Str) (g : {α : Type} → List α → List α → List α) : Prop where
  to : ∀ (s : Shared) (us ws : List Value), K.In s.heap → us.length = n → ws.length = ks.length → BindsTo s fd ⟨us, ks.zip ws⟩ (ps.zip (g us ws))
  rel : ∀ {vs zs : List V} {us ws : List Value}, Vals vs us → Vals zs ws → Vals (g vs zs) (g us ws)
structure HasK (P : Program) (w : World) (K : PySem.W.Frag) (mg : Str → Option Value) (base : Heap) (CX : CXT) (k : Nat) (x : Str) (ps : List Str) (n : Nat) (ks : List Str) (g : {α : Type} → List α → List α → List α) (sp : Sp) : Prop where
  ex : ∃ (f : Addr) (fd : FuncData), FnG P w K mg base CX k f fd ps sp ∧ mg x = some (.ref f) ∧ PySem.W.keepIn K (.ref f) = true ∧ KwB K fd ps n ks g
section
variable {X : Cx} {CX : CXT} {k n : Nat} {ps ks : List Str} {sp : Sp} {E : XK} {x : Str} {p pos : Pos} {e : Expr} {es : List Expr} {kws : List Keyword} {t tk : TA} {g : {α : Type} → List α → List α → List α}
end
structure DefAt (K : PySem.W.Frag) (mg : Str → Option Value) (x : Str) (st : Stmt) (f : Addr) (fd : FuncData) : Prop where
  fn : Fun K x x st f fd
  at_ : mg x = some (.ref f)
section
variable {P : Program} {w : World} {K : PySem.W.Frag} {mg : Str → Option Value} {base : Heap} {CX : CXT} {k : Nat} {x : Str} {st : Stmt} {ps : List Str} {sp : Sp} {f : Addr} {fd : FuncData}
theorem DefAt.has (A : DefAt K mg x st f fd) (G : Fun K x x st f fd → FnG P w K mg base CX k f fd ps sp)
    (hb : ∀ (kV doc pm : Value) (an : Option Addr) (cdv ct : Value) (us : List Value), us.length = ps.length → bindArgs (PySem.W.fnOf x x (defArgs st) (defBody st) (defScope st) .none kV doc pm an cdv ct) ⟨us, []⟩ = pure (ps.zip us)) :
    Has P w K mg base CX k x ps sp := ⟨⟨f, fd, G A.fn, A.at_, A.fn.kp, A.fn.binds hb⟩⟩
end
theorem defAt {K : PySem.W.Frag} {mg : Str → Option Value} {h : Heap} {x : Str} {st : Stmt} {f : Addr} {oc : Value} {od an : Option Addr} {osl : Array (Option Value)} {kV doc pm cdv ct : Value} (X : K.In h) (G : h.Ns mainGlobals mg)
    (a : PySem.W.nsIn K mainGlobals x = some (some (.ref f))) (l : K.lookup f = some ⟨oc, od, .func (PySem.W.fnOf x x (defArgs st) (defBody st) (defScope st) .none kV doc pm an cdv ct), osl⟩)
    (c : PySem.W.codeIn K cdv x = true) (k : PySem.W.keepIn K (.ref f) = true) : DefAt K mg x st f (PySem.W.fnOf x x (defArgs st) (defBody st) (defScope st) .none kV doc pm an cdv ct) :=
  ⟨fun_mk l c k, PySem.W.mg_of X G a⟩
def Mv (d : Addr) (H H' : Hp) : Prop := ∀ b o, b ≠ d → H b = some o → H' b = some o
theorem Mv.refl (d : Addr) (H : Hp) : Mv d H H := fun _ _ _ h => h
theorem Mv.trans {d : Addr} {H H1 H2 : Hp} (a : Mv d H H1) (b : Mv d H1 H2) : Mv d H H2 := fun x o n h => b x o n (a x o n h)
theorem Mv.same {d : Addr} {H H' : Hp} (a : Same H H') : Mv d H H' := fun x o _ h => a x o h
theorem Mv.upd {d : Addr} {H H' : Hp} {o : HO} (a : Mv d H H') : Mv d H (upd H' d o) := fun x u n h => by
  rw [upd_ne n]
  exact a x u n h
theorem Mv.new {d p : Addr} {H H' : Hp} {o : HO} (a : Mv d H H') (hp : H' p = none) : Mv d H (L2.upd H' p o) := fun x u n h => by
  rw [upd_ne (ne_of_none (a x u n h) hp)]
  exact a x u n h
theorem Mv.fresh {d D : Addr} {H H' : Hp} {o : HO} (m : Mv d H H') (h : H D = none) : Mv d H (L2.upd H' D o) := fun x u n hx => by
  rw [upd_ne (ne_of_none hx h)]
  exact m x u n hx
theorem same_new {H : Hp} {p : Addr} {o : HO} (hp : H p = none) : Same H (upd H p o) := fun x u h => by
  rw [upd_ne (ne_of_none h hp)]
  exact h
end Ft
namespace Ft
open PySem L2
def Deal (H : Hp) (d : Addr) : Prop := ∃ a b c : Int, H d = some (.lst [.int a, .int b, .int c]) ∧ 0 ≤ a ∧ 0 ≤ b ∧ b < 2147483423 ∧ 0 ≤ c
abbrev tl (x : Str) : List Nat := x.cps.toList
theorem len_tl (x : Str) : x.length = (tl x).length := by
  show x.cps.size = x.cps.toList.length
  simp
theorem tl_app (x y : Str) : tl (x ++ y) = tl x ++ tl y := TL.tl_append x y
theorem Mv.seq {d a : Addr} {H H' : Hp} {xs : List V} {K : PySem.W.Frag} (m : Mv d H H') (n : a ≠ d) (h : SqL K H a xs) : SqL K H' a xs := by
  rcases h with (h | ⟨o, h⟩) | h
  · exact .inl (.inl (m _ _ n h))
  · exact .inl (.inr ⟨o, m _ _ n h⟩)
  · exact .inr h
theorem Mv.tup {d a : Addr} {H H' : Hp} {xs : List V} {K : PySem.W.Frag} (m : Mv d H H') (n : a ≠ d) (h : SqT K H a xs) : SqT K H' a xs := by
  rcases h with (h | ⟨o, h⟩) | h
  · exact .inl (.inl (m _ _ n h))
  · exact .inl (.inr ⟨o, m _ _ n h⟩)
  · exact .inr h
theorem Deal.new {H : Hp} {d p : Addr} {o : HO} (h : Deal H d) (hp : H p = none) : Deal (upd H p o) d := by
  obtain ⟨a, b, c, e, r⟩ := h
  exact ⟨a, b, c, by rw [upd_ne (ne_of_none e hp)]; exact e, r⟩
theorem Deal.put {H : Hp} {d p : Addr} {o : HO} (h : Deal H d) (n : p ≠ d) : Deal (upd H p o) d := by
  obtain ⟨a, b, c, e, r⟩ := h
  exact ⟨a, b, c, by rw [upd_ne n.symm]; exact e, r⟩
theorem Deal.same {H H' : Hp} {d : Addr} (h : Deal H d) (s : Same H H') : Deal H' d := by
  obtain ⟨a, b, c, e, r⟩ := h
  exact ⟨a, b, c, s _ _ e, r⟩
theorem Deal.ne {H : Hp} {d p : Addr} (h : Deal H d) (hp : H p = none) : p ≠ d := by
  obtain ⟨a, b, c, e, r⟩ := h
  exact (ne_of_none e hp).symm
def wk (k : Nat) : Str := ("w" : Str) ++ Str.ofString (toString ((k : Nat) : Int))
end Ft
namespace Ft
open PySem PySem.Spec PyProof.Rows L2
def IteT (K : PySem.W.Frag) (a : Addr) : It where
  go i H := ∃ (xs : List V) (x : V), SqT K H a xs ∧ xs[i]? = some x
  yld i H v H' := ∃ T x, v = .ref T ∧ H T = none ∧ H' = upd H T (.tup [.int (i : Nat), x]) ∧ ∀ xs, SqT K H a xs → xs[i]? = some x
  stop i H := ∃ xs : List V, SqT K H a xs ∧ xs.length = i
def iEnumT (K : PySem.W.Frag) (ta : TA) : TI := fun σ H R => ta σ H fun vs H1 => ∃ a xs, vs = [.ref a] ∧ SqT K H1 a xs ∧ R (IteT K a) H1
end Ft
namespace Ft
open PySem PySem.Spec PyProof.Rows L2
open PySem.HandSPX (excO)
structure XCls (K : PySem.W.Frag) (C fI : Addr) (ns : List Str) : Prop where
  base : ∃ B newId initId bmB, ExcBaseFacts B newId initId bmB ∧ StoreFacts B bmB "object.__setattr__" "object" ∧ PySem.W.excInitIn K C bmB newId = true ∧ PySem.W.excOver K C bmB = true
  hd : PySem.W.hasDictIn K C = true
  sa : PySem.W.findIn K (.ref C) "__setattr__" = some (some (.builtin "object.__setattr__"))
  ga : PySem.W.findIn K (.ref C) "__getattribute__" = some (some (.builtin "BaseException.__getattribute__"))
  gg : PySem.W.findIn K (.ref C) "__getattr__" = some none
  ex : PySem.W.subIn K (.ref C) (.type "BaseException") = some true
  ty : PySem.W.typeIn K (.ref C) = some (.type "type")
  kp : PySem.W.keepIn K (.ref C) = true
  ini : PySem.W.findIn K (.ref C) "__init__" = some (some (.ref fI))
  fn : PySem.W.typeIn K (.ref fI) = some (.type "function")
  no : ∀ n ∈ ns, PySem.W.findIn K (.ref C) n = some none
section
variable {prog : Program} {w : World} {A : Around} {E : Value → Shared → Prop} {K : PySem.W.Frag} {C fI x t : Addr} {ns : List Str} {name : Str} {v : Value} {Q : Unit → Shared → Prop}
theorem XCls.cd (T : XCls K C fI ns) : ∃ cd, PySem.W.clsIn K C = some cd ∧ cd.hasDict = true := by
  have h := T.hd
  unfold PySem.W.hasDictIn at h
  cases e : PySem.W.clsIn K C with
  | none => rw [e] at h; cases h
  | some cd => rw [e] at h; exact ⟨cd, rfl, h⟩
theorem XCls.taker (T : XCls K C fI ns) (hn : name ∈ ns) : PySem.W.takerIn K C name = some none := NoAttr.taker (T.no name hn)
theorem set_first {s : Shared} (T : XCls K C fI ns) (hn : name ∈ ns) (X : K.In s.heap) (hx : s.heap.get? x = some (excO C t))
    (hq : ∀ h' tk dx, (∀ b o, b ≠ x → s.heap.get? b = some o → h'.get? b = some o) → s.heap.objs.size ≤ dx → dx ≠ x →
      h'.get? x = some { cls := .ref C, dict := some dx, data := .fields #[.ref t, .none, .none, .none, .bool false, .none] } → h'.Ns1 dx (fun y => if y = name then some v else none) → Q () { s with heap := h', toks := tk }) :
    wpAny (model prog w) A (setAttr (.ref x) name v) Q E s := by
  obtain ⟨B, newId, initId, bmB, FB, SF, q, ov⟩ := T.base
  obtain ⟨cd, hcd, hh⟩ := T.cd
  obtain ⟨hp, g, d, tk, os⟩ := s
  have I : PySem.W.InstAt hp x (excO C t) C none := ⟨hx, rfl, rfl, trivial⟩
  apply PySem.W.set_plain X I T.sa
  apply PySem.W.osa_openX (s := ⟨hp, g, d, tk + 1, os⟩) SF X I ov (T.taker hn)
  intro b
  have hxs : x ≠ hp.objs.size := Nat.ne_of_lt (Heap.lt_size hx)
  have hcls : PySem.W.Looks (model prog w) hp (classData C) cd := PySem.W.looks_clsIn X hcd
  show wpAny _ _ (Builtin.ObjectAttr.storeInOwnDict (.ref x) (.ref C) _ name v b) _ _ _
  obtain ⟨nm, bs, mro, nss, qn, hdc, sn, sb, ab, col, del⟩ := cd
  dsimp only at hh
  subst hh
  unfold Builtin.ObjectAttr.storeInOwnDict Builtin.ObjectAttr.ownDictForStores
  repeat (first | with_reducible refine PySem.HandSPX.store_in_new ?_ ?_ | with_reducible refine wpAny_loadPart_at hx ?_ | with_reducible refine hcls.at ?_ | wp_step)
  · exact ⟨_, #[], _, (Heap.get?_update_ne _ _ _ _ hxs.symm).trans (Heap.get?_push_at rfl rfl), rfl, fun e he => absurd he (by simp), fun _ => rfl⟩
  · intro h' tk' hn' hs
    have at1 : (hp.push { cls := .type "dict", data := .dict #[] }).get? x = some (excO C t) := Heap.get?_push_of_some _ hx
    apply hq h' tk' hp.objs.size _ (Nat.le_refl _) hxs.symm ((hs.2 x hxs).trans (Heap.get?_update_self _ at1 rfl)) hn'
    intro b o hb ho
    exact (hs.2 b (Nat.ne_of_lt (Heap.lt_size ho))).trans ((Heap.get?_update_ne _ _ _ _ hb).trans (Heap.get?_push_of_some _ ho))
end
structure Init1 (st : Stmt) (fld : Str) : Prop where
  body : ∃ q1 q2 q3 q4 : Pos, defBody st = [.Assign [.Attribute (.Name "self" q1) fld q2] (.Name fld q3) q4]
  kind : (defScope st).kind = .function
  co : (defScope st).isCoroutine = false
  gen : (defScope st).isGenerator = false
  l1 : (defScope st).names.lookup ("self" : Str) = some .local
  l2 : (defScope st).names.lookup fld = some .local
  dbg : (fld == ("__debug__" : Str)) = false
  ne : fld ≠ "self"
structure Made (h h' : Heap) (e C d : Addr) (fld : Str) (v : Value) : Prop where
  keep : ∀ b o, h.get? b = some o → h'.get? b = some o
  new : h.objs.size ≤ e
  obj : ∃ t, h'.get? e = some { cls := .ref C, dict := some d, data := .fields #[.ref t, .none, .none, .none, .bool false, .none] }
  dbig : h.objs.size ≤ d
  dne : d ≠ e
  ns : h'.Ns1 d (fun y => if y = fld then some v else none)
section
variable {prog : Program} {w : World} {A : Around} {E : Value → Shared → Prop} {K : PySem.W.Frag} {C fI x t : Addr} {ns : List Str} {fld qual : Str} {v : Value} {st : Stmt} {fd : FuncData} {R : Result → Shared → Prop}
theorem ld_loc {M : Model} {s : Shared} {name : Str} {scope : Scope} {L a : Addr} {cd : Value} {m : Str → Option Value} {y : Str} {pos : Pos} {u : Value} {Q : Value → Shared → Prop} (hk : scope.kind = .function) (hl : scope.names.lookup y = some .local)
    (hd : (y == ("__debug__" : Str)) = false) (hn : s.heap.Ns L m) (hv : m y = some u) (h : Q u s) : wpAny M A (eval (.Name y pos) (envOfC name scope L a cd)) Q E s :=
  wpAny_Name (wpAny_loadName_local hk hl hn hv h) hd
theorem init_one {s : Shared} {args : Args} (T : XCls K C fI ns) (hf : fld ∈ ns) (S : Init1 st fld) (F : Fun K "__init__" qual st fI fd) (X : K.In s.heap) (nolim : s.heap.NoLimit) (hx : s.heap.get? x = some (excO C t)) (room : A.depth < recursionLimit)
    (bt : BindsTo s fd args [("self", .ref x), (fld, v)])
    (hq : ∀ h' tk dx, (∀ b o, b ≠ x → s.heap.get? b = some o → h'.get? b = some o) → s.heap.objs.size ≤ dx → dx ≠ x →
      h'.get? x = some { cls := .ref C, dict := some dx, data := .fields #[.ref t, .none, .none, .none, .bool false, .none] } → h'.Ns1 dx (fun y => if y = fld then some v else none) → R (.ok (.ret .none)) { s with heap := h', toks := tk }) :
    codeAny (model prog w) A (.call (.ref fI) args) R s := by
  obtain ⟨oc, od, kV, doc, pm, an, cdv, ct, osl, e, lk, hcd⟩ := F.ex
  subst e
  obtain ⟨q1, q2, q3, q4, hb⟩ := S.body
  have kinds : (([("self", Value.ref x), (fld, v)] : List (Str × Value)).all fun y => (defScope st).names.lookup y.1 == some .local || (defScope st).names.lookup y.1 == some .cell) = true := by
    simp only [List.all_cons, List.all_nil, S.l1, S.l2]
    rfl
  refine Att.call_fn X nolim lk hcd room bt kinds (fun s1 ic => ?_) S.co S.gen S.kind
  obtain ⟨h1, tk1, rfl⟩ := ic.toInCall.same
  have keep := ic.toInCall.keep
  have nsL := ic.toInCall.ns
  have X1 : K.In h1 := X.keeps keep
  have b1 : bindL (envOfC qual (defScope st) s.heap.objs.size fI cdv).kindOf [("self", Value.ref x), (fld, v)] (fun _ => none) fld = some v :=
    bindL_get (P := ["self", fld]) (vs := [Value.ref x, v]) (i := 1) (by simp [List.nodup_cons, Ne.symm S.ne]) rfl rfl S.l2
  have b0 : bindL (envOfC qual (defScope st) s.heap.objs.size fI cdv).kindOf [("self", Value.ref x), (fld, v)] (fun _ => none) "self" = some (.ref x) :=
    bindL_get (P := ["self", fld]) (vs := [Value.ref x, v]) (i := 0) (by simp [List.nodup_cons, Ne.symm S.ne]) rfl rfl S.l1
  rw [hb]
  show wpAny _ _ (execs _ _) _ _ _
  refine wpAny_execs_cons (plainObj_wpAny_Assign_Attribute ?_)
  refine ld_loc S.kind S.l2 S.dbg nsL b1 (ld_loc S.kind S.l1 (by decide) nsL b0 ?_)
  apply set_first T hf X1 (keep _ _ hx)
  intro h3 tk3 dx k3 dn dne hx3 hn3
  have z : s.heap.objs.size < h1.objs.size := nsL.lt
  show wpAny _ _ (execs _ _) _ _ _
  apply wpAny_execs_nil
  exact hq h3 tk3 dx (fun b o hb e => k3 b o hb (keep b o e)) (Nat.le_of_lt (Nat.lt_of_lt_of_le z dn)) dne hx3 hn3
end
end Ft
namespace Ft
open PySem PySem.Spec PyProof.Rows L2
open PySem.HandSPX (excO)
structure XIs (K : PySem.W.Frag) (D : Addr) : Prop where
  ha : PySem.W.findIn K (.ref D) "__class__" = some (some (.builtin "object.__class__"))
  hn : PySem.W.specialIn K (.builtin "object.__class__") "__get__" = some (some (.builtin "getset_descriptor.__get__"))
  ht : PySem.W.takesIn K (.builtin "object.__class__") = some true
  hm : PySem.W.mroIn K D (.type "object") = some true
section
open PySem.W PySem.Calls
variable {prog : Program} {w : World} {A : Around} {E : Value → Shared → Prop} {s : Shared} {K : Frag} {x D fI : Addr} {ox od : Obj} {ns : List Str}
end
end Ft
namespace Ft
open PySem PySem.Spec PyProof.Rows L2
open PySem.HandSPX (excO)
structure ExAt (K : PySem.W.Frag) (mg : Str → Option Value) (x fld : Str) (C : Addr) : Prop where
  gC : mg x = some (.ref C)
  is : XIs K C
  ex : ∃ (fI : Addr) (st : Stmt) (qual : Str) (fd : FuncData), XCls K C fI [fld] ∧ Init1 st fld ∧ Fun K "__init__" qual st fI fd ∧ ∀ (v : Value) (s : Shared) (y : Addr), BindsTo s fd ⟨[.ref y, v], []⟩ [("self", .ref y), (fld, v)]
section
variable {X : Cx} {C : Addr} {x fld : Str}
end
structure FnHot (P : Program) (w : World) (K : PySem.W.Frag) (mg : Str → Option Value) (base : Heap) (k : Nat) (f : Addr) (fd : FuncData) (ps : List Str) (sp : Addr → Value → Option Addr → Sp) : Prop where
  hLen : ∀ a cls d vs H Q E, sp a cls d vs H Q E → vs.length = ps.length
  hRun : ∀ (A : Around), A.guards = some [] → L2H.RoomH k A → ∀ (outer : List Env) (s : Shared) (H : Hp) (p : Addr × Obj) (cls : Value) (d : Option Addr), L2H.PinOk outer H s p → Zc cls d p.2 → (∃ vs, p.2.data = .fields vs) → Env0 P w K mg base A outer s H →
    ∀ (args : Args) (us : List Value) (vs : List V) (Q : VK), BindsTo s fd args (ps.zip us) → Vals vs us → sp p.1 cls d vs H Q E0 → codeAny (model P w) A (.call (.ref f) args) (CR CX0 outer P w H s Q E0) s
structure HasHot (P : Program) (w : World) (K : PySem.W.Frag) (mg : Str → Option Value) (base : Heap) (k : Nat) (x : Str) (ps : List Str) (sp : Addr → Value → Option Addr → Sp) : Prop where
  ex : ∃ (f : Addr) (fd : FuncData), FnHot P w K mg base k f fd ps sp ∧ mg x = some (.ref f) ∧ PySem.W.keepIn K (.ref f) = true ∧ Binds K fd ps []
section
variable {X : Cx} {C : Addr} {x fld : Str} {q : Addr × Obj} {cls : Value} {d : Option Addr}
end
section
variable {X : Cx} {x1 x2 x3 n : Str} {c1 c2 c3 : Value} {i : Nat} {body suite : List Stmt} {b₀ : Stmt} {np1 np2 np3 tp pos pos' : Pos} {kk : Nat} {tb : WX → TS} {ts : Addr → Value → Option Addr → TS}
end
end Ft
namespace Ft
open PySem PySem.Spec PyProof.Rows L2 LamX
def toldBody (a t e srt x1 x2 x3 word : Str) (p1 p2 p3 p4 p5 p6 p7 p8 p9 p10 p11 p12 p13 p14 p15 p16 p17 p18 : Pos) (kk j : Nat) : List Stmt :=
  [.Try [.Assign [.Name t p1] (.Call (.Name a p2) [] [] p3) p4] [.ExceptHandler (some (.Tuple [.Name x1 p5, .Name x2 p6, .Name x3 p7] kk p8)) (some e) [.Return (some (.Call (.Name srt p9) [.Name e p10] [] p11)) p12] p13] [] [] p14,
    .Return (some (.List [.Constant (.str word) j p15, .Name t p16] p17)) p18]
end Ft
namespace Ft
open PySem PySem.Spec PyProof.Rows L2 LamX
structure HasO (P : Program) (w : World) (K : PySem.W.Frag) (mg : Str → Option Value) (base : Heap) (CX : CXT) (k : Nat) (x : Str) (ps : List Str) (sp : Sp) : Prop where
  ex : ∃ (f : Addr) (fd : FuncData), FnOk P w K mg base CX k f fd ps sp ∧ mg x = some (.ref f) ∧ PySem.W.keepIn K (.ref f) = true ∧ Binds K fd ps []
section
variable {P : Program} {w : World} {K : PySem.W.Frag} {mg : Str → Option Value} {base : Heap}
theorem HasO.has {CX : CXT} {k : Nat} {x : Str} {ps : List Str} {sp : Sp} (F : HasO P w K mg base CX k x ps sp) : Has P w K mg base CX k x ps sp := by
  obtain ⟨f, fd, h, r⟩ := F.ex
  exact ⟨⟨f, fd, ofOk h, r⟩⟩
end
section
variable {X : Cx} {CX : CXT} {k : Nat} {f C : Addr} {fd : FuncData} {ps : List Str} {sp : Sp} {E : XK} {x : Str} {p pos : Pos} {e : Expr} {es : List Expr} {t : TA}
structure ClsO (P : Program) (w : World) (K : PySem.W.Frag) (mg : Str → Option Value) (base : Heap) (CX : CXT) (k : Nat) (x : Str) (C : Addr) (ps : List Str) (sp : Sp) : Prop where
  ex : ∃ (f : Addr) (fd : FuncData), FnOk P w K mg base CX k f fd ps sp ∧ mg x = some (.ref C) ∧ Mk K C f ∧ Binds K fd ps []
end
theorem lawEndT {P : Program} {w : World} {K : PySem.W.Frag} {mg mb : Str → Option Value} {k : Nat} {fa a : Addr} {cs : List (Addr × Addr)} {fd : FuncData} {x : Str} {sp : Sp} {s : Shared} {vs : List Value} {ns : List Int}
    (inK : K.In s.heap) (hG : s.heap.Ns mainGlobals mg) (hB : s.heap.Ns builtinsNs mb) (hBB : ∀ y : Str, y ≠ "__name__" → mb y = bootBuiltins y) (nolim : s.heap.NoLimit) (nogen : s.gens = #[])
    (tabO : ∀ p ∈ cs, s.heap.get? p.2 = some { cls := .none, data := .fields #[] }) (tabK : ∀ p ∈ cs, K.lookup p.2 = none) (tabC : ∀ p ∈ cs, PySem.W.CodeHd s.heap p.1 p.2)
    (hbm : ∃ (bm : Addr) (ob : Obj), mg "__builtins__" = some (.ref bm) ∧ bm ≠ builtinsNs ∧ s.heap.get? bm = some ob ∧ ob.cls = .type "module" ∧ ob.dict = some builtinsNs ∧ ob.data = .plain)
    (ha : s.heap.get? a = some { cls := .type "list", data := .seq vs.toArray }) (hints : IntsAre vs ns) (hlen : ns.length ≤ sizeLine) (room : Room k callerA)
    (F : ∀ base : Heap, K.In base → base.Ns mainGlobals mg → (∀ p ∈ cs, TabB base mg p.1 p.2) → FnG P w K mg base CX0 k fa fd [x] sp)
    (bt : ∀ (s : Shared) (u : Value), BindsTo s fd ⟨[u], []⟩ [(x, u)])
    (hsp : ∀ H : Hp, (∀ p ∈ cs, H p.2 = some (.tbl #[])) → SqL K H a (ns.map V.int) → sp [.ref a] H (fun v _ => v = .bl true) E0) :
    codeAny (model P w) callerA (.call (.ref fa) ⟨[.ref a], []⟩) (fun r s' => r = .ok (.ret (.bool true)) ∧ OldK s.heap s'.heap ∧ s'.os = s.os ∧ AllBare s'.gens) s := by
  have rel := vals_ints hints
  let ob : Obj := { cls := .type "list", data := .seq vs.toArray }
  let T : Addr → Prop := fun b => ∃ p ∈ cs, p.2 = b
  have objT : ∀ {b}, T b → s.heap.get? b = some { cls := .none, data := .fields #[] } := by
    rintro b ⟨p, hp, rfl⟩
    exact tabO p hp
  have aT : ¬ T a := fun z => by
    have q := objT z
    rw [ha] at q
    cases q
  let H : Hp := fun b => open Classical in if T b then some (.tbl #[]) else if b = a ∧ K.lookup a = none then some (.frz ob (.lst (ns.map V.int))) else none
  have HT : ∀ {b}, T b → H b = some (.tbl #[]) := fun z => if_pos z
  have Hel : ∀ {b}, ¬ T b → H b = if b = a ∧ K.lookup a = none then some (.frz ob (.lst (ns.map V.int))) else none := fun z => if_neg z
  have Hsome : ∀ {b : Addr} {u : HO}, H b = some u → (T b ∧ u = .tbl #[]) ∨ (b = a ∧ K.lookup a = none ∧ u = .frz ob (.lst (ns.map V.int))) := by
    intro b u q
    by_cases t : T b
    · rw [HT t] at q
      exact .inl ⟨t, (Option.some.inj q).symm⟩
    · rw [Hel t] at q
      by_cases c : b = a ∧ K.lookup a = none
      · rw [if_pos c] at q
        exact .inr ⟨c.1, c.2, (Option.some.inj q).symm⟩
      · rw [if_neg c] at q
        cases q
  have Hnone : ∀ {b : Addr} {o : Obj}, s.heap.get? b = some o → (∀ us n, o.data ≠ .seq us n) → o.data ≠ .fields #[] → H b = none := by
    intro b o e1 e2 e3
    cases c : H b with
    | none => rfl
    | some u =>
      rcases Hsome c with ⟨t, _⟩ | ⟨rfl, -, -⟩
      · rw [objT t] at e1
        cases e1
        exact absurd rfl e3
      · rw [ha] at e1
        cases e1
        exact absurd rfl (e2 _ _)
  let base := hidT s.heap H
  have onto : ∀ {b : Addr} {m : Str → Option Value}, s.heap.Ns b m → base.Ns b m := by
    rintro b m ⟨o, es, ep, e1, e2, r⟩
    refine ⟨o, es, ep, hidT_get e1 (Hnone e1 (fun us n z => ?_) (fun z => ?_)), e2, r⟩ <;> (rw [e2] at z; cases z)
  have inB : K.In base := by
    intro b o e
    apply hidT_get (inK b o e)
    cases c : H b with
    | none => rfl
    | some u =>
      rcases Hsome c with ⟨⟨p, hp, rfl⟩, _⟩ | ⟨rfl, z, -⟩
      · exact absurd ((tabK p hp).symm.trans e) (by intro y; cases y)
      · exact absurd (z.symm.trans e) (by intro y; cases y)
  have sq : SqL K H a (ns.map V.int) := by
    cases c : K.lookup a with
    | none => exact .inl (.inr ⟨ob, (Hel aT).trans (if_pos ⟨rfl, c⟩)⟩)
    | some o =>
      have e := inK a o c
      rw [ha] at e
      cases e
      refine .inr ⟨_, vs.toArray, _, c, rfl, rfl, rfl, ?_, ?_⟩
      · rw [List.size_toArray, ← rel.length, List.length_map]
        exact hlen
      · rw [List.toList_toArray]
        exact rel
  have hok : HOk P w H s.heap := by
    intro b u q
    rcases Hsome q with ⟨t, rfl⟩ | ⟨rfl, -, rfl⟩
    · exact objT t
    · exact ⟨ha, by rw [List.length_map]; exact hlen, vs, _, rel, ha⟩
  have nomem : ∀ b : Addr, b ∉ frs ([] : List Env) := fun b z => by
    cases z
  have tabs : ∀ p ∈ cs, TabB base mg p.1 p.2 := by
    intro p hp
    have ht := tabO p hp
    constructor
    · obtain ⟨o, us, file, tf, flags, tg, inF, text, tt, e1, r1, r2, r3, r⟩ := tabC p hp
      refine ⟨o, us, file, tf, flags, tg, inF, text, tt, hidT_get e1 (Hnone e1 (fun _ _ z => ?_) (fun z => ?_)), r1, r2, r3, r⟩
      · rw [r2] at z
        cases z
      · rw [r2] at z
        cases z
        exact absurd r3 (by simp)
    · obtain ⟨bm, o, b1, b2, b3, b4, b5, b6⟩ := hbm
      refine ⟨bm, o, b1, b2, fun q => ?_, fun q => ?_, hidT_get b3 (Hnone b3 (fun _ _ z => ?_) (fun z => ?_)), b4, b5, b6⟩
      · obtain ⟨o', es, ep, e, hd, _⟩ := hG
        rw [q, e] at b3
        cases b3
        rw [hd] at b6
        cases b6
      · rw [q, ht] at b3
        cases b3
        cases b6
      · rw [b6] at z
        cases z
      · rw [b6] at z
        cases z
    · intro z
      obtain ⟨o, es, ep, e, hd, _⟩ := hG
      rw [z, ht] at e
      cases e
      cases hd
  have e0 : Env0 P w K mg base callerA [] s H :=
    { frames := rfl, mod := ⟨inB, onto hG, ⟨mb, onto hB, hBB⟩, ?lim⟩, bs := fun b o e => of_hidT e, bsz := Nat.le_of_eq (hidT_size s.heap H), funs := trivial, frf := fun b z => absurd z (nomem b), hok := hok, bare := .of_eq nogen }
  case lim =>
    obtain ⟨mc, h1, h2⟩ := nolim
    exact ⟨mc, onto h1, h2⟩
  apply codeAny_mono ((F base inB (onto hG) tabs).gRun callerA rfl room [] s H e0 ⟨[.ref a], []⟩ [.ref a] [.ref a] _ _ (bt s (.ref a)) (.cons rfl .nil) (hsp H (fun p hp => HT ⟨p, hp, rfl⟩) sq))
  intro r s2 q
  match r, q with
  | .error e, q => exact False.elim q
  | .ok .next, q => exact False.elim q
  | .ok .brk, q => exact False.elim q
  | .ok .cont, q => exact False.elim q
  | .ok (.ret u), ⟨v, H2, hos, hbare, un, hok2, rv, hv⟩ =>
    cases (show v = .bl true from hv)
    cases (show u = Value.bool true from rv)
    have old : ∀ b o, ¬ T b → s.heap.get? b = some o → s2.heap.get? b = some o := by
      intro b o nt e
      cases c : H b with
      | none => exact un.keep b o e c (nomem b) (by intro z; cases z)
      | some y =>
        rcases Hsome c with ⟨t, _⟩ | ⟨rfl, -, rfl⟩
        · exact absurd t nt
        · rw [ha] at e
          cases e
          exact (hok2 _ _ (un.frzs _ _ _ c)).1
    have grown : ∀ {b}, T b → ∃ more : Array Value, s2.heap.get? b = some { cls := .none, data := .fields more } := by
      intro b t
      obtain ⟨more, z⟩ := un.tbls b #[] (HT t)
      exact ⟨_, hok2 b _ z⟩
    refine ⟨rfl, ⟨fun b o e => ?_, fun b o e => ?_⟩, hos, hbare⟩
    · by_cases t : T b
      · obtain ⟨more, hm⟩ := grown t
        obtain ⟨p, hp, rfl⟩ := t
        rw [tabO p hp] at e
        cases e
        exact .inr (.inl ⟨((tabC p hp).tab (tabO p hp)).isCodeTable, rfl, #[], more, rfl, by rw [Array.empty_append]; exact hm⟩)
      · exact .inl (old b o t e)
    · by_cases t : T b
      · obtain ⟨more, hm⟩ := grown t
        exact ⟨_, hm⟩
      · exact ⟨o, old b o t e⟩
end Ft
namespace Ft
open PySem PySem.Spec PyProof.Rows L2
mutual
inductive Dt (z : Addr) (H : Hp) : V → PyData → Prop
  | non : Dt z H .non .none
  | bl (b : Bool) : Dt z H (.bl b) (.bool b)
  | int (i : Int) : Dt z H (.int i) (.int i)
  | str (x : Str) : Dt z H (.str x) (.str x)
  | lst {a : Addr} {xs : List V} {ds : List PyData} : a ≠ z → H a = some (.lst xs) → DtAll z H xs ds → Dt z H (.ref a) (.list ds)
  | tup {a : Addr} {xs : List V} {ds : List PyData} : H a = some (.tup xs) → DtAll z H xs ds → Dt z H (.ref a) (.tuple ds)
inductive DtAll (z : Addr) (H : Hp) : List V → List PyData → Prop
  | nil : DtAll z H [] []
  | cons {v : V} {vs : List V} {d : PyData} {ds : List PyData} : Dt z H v d → DtAll z H vs ds → DtAll z H (v :: vs) (d :: ds)
end
section
variable {z : Addr} {H H' : Hp} {K : PySem.W.Frag}
theorem DtAll.len {xs : List V} {ds : List PyData} (h : DtAll z H xs ds) : xs.length = ds.length := by
  induction ds generalizing xs with
  | nil => cases h; rfl
  | cons d ds ih => cases h with | cons h1 h2 => rw [List.length_cons, List.length_cons, ih h2]
theorem DtAll.get {xs : List V} {ds : List PyData} {i : Nat} {x : V} (h : DtAll z H xs ds) (e : xs[i]? = some x) : ∃ d, ds[i]? = some d ∧ Dt z H x d := by
  induction ds generalizing xs i with
  | nil => cases h; simp at e
  | cons d ds ih =>
    cases h with
    | cons h1 h2 =>
      cases i with
      | zero => cases Option.some.inj e; exact ⟨d, rfl, h1⟩
      | succ i => exact ih h2 e
theorem DtAll.at {xs : List V} {ds : List PyData} {i : Nat} {d : PyData} (h : DtAll z H xs ds) (e : ds[i]? = some d) : ∃ x, xs[i]? = some x ∧ Dt z H x d := by
  obtain ⟨x, hx⟩ : ∃ x, xs[i]? = some x := by
    have hl := (List.getElem?_eq_some_iff.mp e).1
    rw [← h.len] at hl
    exact ⟨_, List.getElem?_eq_getElem hl⟩
  obtain ⟨d', e', h'⟩ := h.get hx
  rw [e] at e'
  cases e'
  exact ⟨x, hx, h'⟩
theorem DtAll.app {xs ys : List V} {ds es : List PyData} (h : DtAll z H xs ds) (k : DtAll z H ys es) : DtAll z H (xs ++ ys) (ds ++ es) := by
  induction ds generalizing xs with
  | nil => cases h; exact k
  | cons d ds ih =>
    cases h with
    | cons h1 h2 => exact .cons h1 (ih h2)
mutual
theorem Dt.move (hl : ∀ a xs, a ≠ z → H a = some (.lst xs) → H' a = some (.lst xs)) (ht : ∀ a xs, H a = some (.tup xs) → H' a = some (.tup xs)) : ∀ {v : V} {d : PyData}, Dt z H v d → Dt z H' v d
  | _, _, .non => .non
  | _, _, .bl b => .bl b
  | _, _, .int i => .int i
  | _, _, .str x => .str x
  | _, _, .lst n e h => .lst n (hl _ _ n e) (DtAll.move hl ht h)
  | _, _, .tup e h => .tup (ht _ _ e) (DtAll.move hl ht h)
theorem DtAll.move (hl : ∀ a xs, a ≠ z → H a = some (.lst xs) → H' a = some (.lst xs)) (ht : ∀ a xs, H a = some (.tup xs) → H' a = some (.tup xs)) : ∀ {vs : List V} {ds : List PyData}, DtAll z H vs ds → DtAll z H' vs ds
  | _, _, .nil => .nil
  | _, _, .cons h1 h2 => .cons (Dt.move hl ht h1) (DtAll.move hl ht h2)
end
theorem Dt.same {v : V} {d : PyData} (h : Dt z H v d) (s : Same H H') : Dt z H' v d := h.move (fun a xs _ e => s _ _ e) (fun a xs e => s _ _ e)
theorem DtAll.same {v : List V} {d : List PyData} (h : DtAll z H v d) (s : Same H H') : DtAll z H' v d := h.move (fun a xs _ e => s _ _ e) (fun a xs e => s _ _ e)
theorem Dt.mv {v : V} {d : PyData} (h : Dt z H v d) (hz : ∀ xs, H z ≠ some (.tup xs)) (s : Mv z H H') : Dt z H' v d :=
  h.move (fun a xs n e => s _ _ n e) (fun a xs e => s _ _ (fun q => hz xs (q ▸ e)) e)
theorem DtAll.mv {v : List V} {d : List PyData} (h : DtAll z H v d) (hz : ∀ xs, H z ≠ some (.tup xs)) (s : Mv z H H') : DtAll z H' v d :=
  h.move (fun a xs n e => s _ _ n e) (fun a xs e => s _ _ (fun q => hz xs (q ▸ e)) e)
mutual
theorem Dt.dp : ∀ {v : V} {d : PyData}, Dt z H v d → Dp K H v d
  | _, _, .non => .non
  | _, _, .bl b => .bl b
  | _, _, .int i => .int i
  | _, _, .str x => .str x
  | _, _, .lst n e h => .lst (SqL.of e) (DtAll.dp h)
  | _, _, .tup e h => .tup (.inl (.inl e)) (DtAll.dp h)
theorem DtAll.dp : ∀ {vs : List V} {ds : List PyData}, DtAll z H vs ds → DpAll K H vs ds
  | _, _, .nil => .nil
  | _, _, .cons h1 h2 => .cons (Dt.dp h1) (DtAll.dp h2)
end
def tyD : PyData → String
  | .none => "NoneType" | .bool _ => "bool" | .int _ => "int" | .str _ => "str" | .list _ => "list" | .tuple _ => "tuple" | .dict _ => "dict"
theorem Dt.ty {v : V} {d : PyData} (h : Dt z H v d) : TyOf K H v (.type (tyD d)) := by
  cases h with
  | non => exact .non
  | bl b => exact .bl b
  | int i => exact .int i
  | str x => exact .str x
  | lst n e h => exact .lst e
  | tup e h => exact .tup e
theorem SqT.of {a : Addr} {xs : List V} (h : H a = some (.tup xs)) : SqT K H a xs := .inl (.inl h)
end
section
variable {X : Cx} {K : PySem.W.Frag}
end
def Acc (H : Hp) (D : Addr) (ys : List V) (i : Nat) (H1 : Hp) : Prop := Same H H1 ∧ H1 D = some (.lst (ys.take i))
theorem Acc.zero {H : Hp} {D : Addr} {ys : List V} (nD : H D = none) : Acc H D ys 0 (upd H D (.lst [])) := ⟨same_new nD, upd_same⟩
theorem Acc.done {H H1 : Hp} {D : Addr} {ys : List V} {n : Nat} (h : Acc H D ys n H1) (hn : n = ys.length) : Same H H1 ∧ H1 D = some (.lst ys) := by
  refine ⟨h.1, ?_⟩
  rw [h.2, hn, List.take_length]
end Ft
namespace Ft
open PySem PySem.Spec PyProof.Rows L2 LamX
section
variable {X : Cx}
theorem call_repr_str : CallR X (.builtin "repr") (fun xs H Q => ∃ x : Str, xs = [.str x] ∧ (reprText x).length ≤ sizeLine ∧ Q (.str (reprText x)) H) := by
  rintro pins s σ H xs us Q I r ⟨x, rfl, hz, q⟩
  obtain ⟨u, rfl, t, rfl⟩ := vals1 r
  exact PySem.P.repr_of_str ⟨.str _, H, I.tok _, ⟨_, rfl⟩, q⟩ hz
theorem call_repr_none : CallR X (.builtin "repr") (fun xs H Q => xs = [.non] ∧ Q (.str "None") H) := by
  rintro pins s σ H xs us Q I r ⟨rfl, q⟩
  obtain ⟨u, rfl, ru⟩ := vals1 r
  cases ru
  exact PySem.P.repr_of_none ⟨.str _, H, I.tok _, ⟨_, rfl⟩, q⟩
theorem call_repr_bool : CallR X (.builtin "repr") (fun xs H Q => ∃ b : Bool, xs = [.bl b] ∧ Q (.str (if b then "True" else "False")) H) := by
  rintro pins s σ H xs us Q I r ⟨b, rfl, q⟩
  obtain ⟨u, rfl, ru⟩ := vals1 r
  cases ru
  exact PySem.P.repr_of_bool ⟨.str _, H, I.tok _, ⟨_, rfl⟩, q⟩
end
structure FunC (K : PySem.W.Frag) (x qual : Str) (st : Stmt) (f : Addr) (fd : FuncData) (c : Addr) : Prop where
  ex : ∃ (oc : Value) (od : Option Addr) (kV doc pm : Value) (an : Option Addr) (ct : Value) (osl : Array (Option Value)),
    fd = PySem.W.fnOf x qual (defArgs st) (defBody st) (defScope st) .none kV doc pm an (.ref c) ct ∧ K.lookup f = some ⟨oc, od, .func fd, osl⟩ ∧ PySem.W.codeIn K (.ref c) qual = true
  kp : PySem.W.keepIn K (.ref f) = true
theorem FunC.fn {K : PySem.W.Frag} {x qual : Str} {st : Stmt} {f : Addr} {fd : FuncData} {c : Addr} (F : FunC K x qual st f fd c) : Fun K x qual st f fd := by
  obtain ⟨oc, od, kV, doc, pm, an, ct, osl, h⟩ := F.ex
  exact ⟨⟨oc, od, kV, doc, pm, an, .ref c, ct, osl, h⟩, F.kp⟩
structure DefC (K : PySem.W.Frag) (mg : Str → Option Value) (x : Str) (st : Stmt) (f : Addr) (fd : FuncData) (c : Addr) : Prop where
  fn : FunC K x x st f fd c
  at_ : mg x = some (.ref f)
theorem DefC.def {K : PySem.W.Frag} {mg : Str → Option Value} {x : Str} {st : Stmt} {f : Addr} {fd : FuncData} {c : Addr} (D : DefC K mg x st f fd c) : DefAt K mg x st f fd := ⟨D.fn.fn, D.at_⟩
section
variable {P : Program} {w : World} {K : PySem.W.Frag} {mg : Str → Option Value} {base : Heap}
end
def Nv (d : Addr) (H H' : Hp) : Prop := ∀ b o, b ≠ d → H b = some o → (∀ ps, o ≠ .tbl ps) → H' b = some o
theorem Nv.refl (d : Addr) (H : Hp) : Nv d H H := fun _ _ _ h _ => h
theorem Nv.trans {d : Addr} {H H1 H2 : Hp} (a : Nv d H H1) (b : Nv d H1 H2) : Nv d H H2 := fun x o n h t => b x o n (a x o n h t) t
theorem Nv.fresh {d D : Addr} {H H' : Hp} {o : HO} (m : Nv d H H') (h : H D = none) : Nv d H (L2.upd H' D o) := fun x u n hx t => by
  rw [upd_ne (ne_of_none hx h)]
  exact m x u n hx t
theorem Nv.seq {d a : Addr} {H H' : Hp} {xs : List V} {K : PySem.W.Frag} (m : Nv d H H') (n : a ≠ d) (h : SqL K H a xs) : SqL K H' a xs := by
  rcases h with (h | ⟨o, h⟩) | h
  · exact .inl (.inl (m _ _ n h (fun _ q => nomatch q)))
  · exact .inl (.inr ⟨o, m _ _ n h (fun _ q => nomatch q)⟩)
  · exact .inr h
end Ft
namespace Ft
open PySem PySem.Spec PyProof.Rows L2 PySem.Builtin PySem.Builtin.Str
def Okd (n : Nat) (d : PyData) : Prop := d.canLay0 = true ∧ d.depth ≤ n
theorem Okd.all {n : Nat} : ∀ {ds : List PyData}, (∀ d ∈ ds, Okd n d) → PyData.canLayAll0 ds = true ∧ PyData.depthAll ds ≤ n
  | [], _ => ⟨rfl, Nat.zero_le _⟩
  | d :: ds, h => by
    have h1 := h d List.mem_cons_self
    have h2 := Okd.all (ds := ds) fun e he => h e (List.mem_cons_of_mem _ he)
    refine ⟨?_, ?_⟩
    · rw [PyData.canLayAll0, h1.1, h2.1]
      rfl
    · rw [PyData.depthAll]
      exact Nat.max_le.mpr ⟨h1.2, h2.2⟩
theorem Okd.list {n : Nat} {ds : List PyData} (h : ∀ d ∈ ds, Okd n d) : Okd (n + 1) (.list ds) := by
  have := Okd.all h
  refine ⟨by rw [PyData.canLay0]; exact this.1, by rw [PyData.depth]; omega⟩
theorem Okd.tuple {n : Nat} {ds : List PyData} (h : ∀ d ∈ ds, Okd n d) : Okd (n + 1) (.tuple ds) := by
  have := Okd.all h
  refine ⟨by rw [PyData.canLay0]; exact this.1, by rw [PyData.depth]; omega⟩
theorem Okd.str {n : Nat} {x : Str} (h : PyData.strOk x = true) : Okd n (.str x) := ⟨by rw [PyData.canLay0]; exact h, by rw [PyData.depth]; exact Nat.zero_le _⟩
theorem Okd.int {n : Nat} {i : Int} : Okd n (.int i) := ⟨rfl, by rw [PyData.depth]; exact Nat.zero_le _⟩
theorem Okd.non {n : Nat} : Okd n .none := ⟨rfl, by rw [PyData.depth]; exact Nat.zero_le _⟩
theorem Okd.bool {n : Nat} {b : Bool} : Okd n (.bool b) := ⟨rfl, by rw [PyData.depth]; exact Nat.zero_le _⟩
theorem Okd.mono {m n : Nat} {d : PyData} (h : Okd m d) (l : m ≤ n) : Okd n d := ⟨h.1, Nat.le_trans h.2 l⟩
theorem Okd.refl {n : Nat} {d : PyData} (h : Okd n d) : PyData.eqv d d = true := PySem.SeqAt.eqv_refl d h.1
end Ft
namespace Ft
open PySem PySem.Spec PyProof.Rows L2 LamX
abbrev toldN : List Str := ["_law_act", "_law_told_here", "_law_e"]
structure ToldAt (P : Program) (w : World) (K : PySem.W.Frag) (mg : Str → Option Value) (base : Heap) (k : Nat) (cs : List Value) (sp : Addr → Value → Option Addr → Sp) : Prop where
  hot : HasHot P w K mg base k "_law_sort" ["_law_e"] sp
  cls : ∃ c1 c2 c3, cs = [c1, c2, c3] ∧ mg "TreeError" = some c1 ∧ mg "StateError" = some c2 ∧ mg "LimitError" = some c3
  def_ : ∃ (g : Addr) (fd : FuncData) (st : Stmt), DefAt K mg "_law_told" st g fd ∧ FnScope toldN ["_law_act"] (defScope st) ∧ (defScope st).names.lookup ("_law_told_here" : Str) = some .local ∧ (defScope st).names.lookup ("_law_e" : Str) = some .local ∧ (defScope st).names.lookup ("_law_act" : Str) = some .local ∧
    (defScope st).names.lookup ("_law_sort" : Str) = some .globalImplicit ∧ (defScope st).names.lookup ("TreeError" : Str) = some .globalImplicit ∧ (defScope st).names.lookup ("StateError" : Str) = some .globalImplicit ∧ (defScope st).names.lookup ("LimitError" : Str) = some .globalImplicit ∧
    (∃ p1 p2 p3 p4 p5 p6 p7 p8 p9 p10 p11 p12 p13 p14 p15 p16 p17 p18 kk j, defBody st = toldBody "_law_act" "_law_told_here" "_law_e" "_law_sort" "TreeError" "StateError" "LimitError" "given" p1 p2 p3 p4 p5 p6 p7 p8 p9 p10 p11 p12 p13 p14 p15 p16 p17 p18 kk j) ∧
    ∀ (kV doc pm : Value) (an : Option Addr) (cdv ct : Value) (us : List Value), us.length = 1 → bindArgs (PySem.W.fnOf "_law_told" "_law_told" (defArgs st) (defBody st) (defScope st) .none kV doc pm an cdv ct) ⟨us, []⟩ = pure ((["_law_act"] : List Str).zip us)
end Ft
namespace Ft
open PySem PySem.Spec PyProof.Rows L2
structure HasM (P : Program) (w : World) (K : PySem.W.Frag) (mg : Str → Option Value) (base : Heap) (CX : CXT) (k : Nat) (C : Addr) (m : Str) (ps : List Str) (sp : Sp) : Prop where
  cl : Cls K C
  ex : ∃ (f : Addr) (fd : FuncData), FnOk P w K mg base CX k f fd ps sp ∧ Meth K C m f ∧ Binds K fd ps []
structure HasMK (P : Program) (w : World) (K : PySem.W.Frag) (mg : Str → Option Value) (base : Heap) (CX : CXT) (k : Nat) (C : Addr) (m : Str) (ps : List Str) (ks : List Str) (g : {α : Type} → List α → List α → List α) (sp : Sp) : Prop where
  cl : Cls K C
  ex : ∃ (f : Addr) (fd : FuncData), FnOk P w K mg base CX k f fd ps sp ∧ Meth K C m f ∧ KwB K fd ps 1 ks g
section
variable {X : Cx} {CX : CXT} {k : Nat} {C : Addr} {ps ks : List Str} {sp : Sp} {E : XK} {x m : Str} {p pos apos : Pos} {e o : Expr} {es : List Expr} {kws : List Keyword} {ta : TE} {t tk : TA} {g : {α : Type} → List α → List α → List α}
structure ClsK (P : Program) (w : World) (K : PySem.W.Frag) (mg : Str → Option Value) (base : Heap) (CX : CXT) (k : Nat) (x : Str) (C : Addr) (ps : List Str) (ks : List Str) (g : {α : Type} → List α → List α → List α) (sp : Sp) : Prop where
  ex : ∃ (f : Addr) (fd : FuncData), FnOk P w K mg base CX k f fd ps sp ∧ mg x = some (.ref C) ∧ Mk K C f ∧ KBn K fd ps 1 ks (fun a b => g a b) (fun a b => g a b)
end
theorem call_reprV {X : Cx} (hg : X.A.guards = some []) (hu : X.A.units + 64 < cLine) : CallR X (.builtin "repr") (fun xs H Q => ∃ v d, xs = [v] ∧ Dp X.K H v d ∧ d.showable = true ∧ d.hasDict = false ∧ d.depth ≤ 60 ∧ d.shown.length ≤ sizeLine ∧ Q (.str d.shown) H) := by
  rintro pins s σ H xs us Q I r ⟨v, d, rfl, hd, hs, hn, hdp, hz, q⟩
  cases hd with
  | non => exact call_repr_none pins s σ H _ us Q I r ⟨rfl, q⟩
  | bl b =>
    refine call_repr_bool pins s σ H _ us Q I r ⟨b, rfl, ?_⟩
    cases b <;> exact q
  | int i => exact SkE.call_repr_int pins s σ H _ us Q I r ⟨i, rfl, of_decide_eq_true hs, q⟩
  | str x => exact call_repr_str pins s σ H _ us Q I r ⟨x, rfl, hz, q⟩
  | lst h1 h2 => exact call_reprD hg hu pins s σ H _ us Q I r ⟨_, _, rfl, .lst h1 h2, hs, hn, hdp, hz, q⟩
  | tup h1 h2 => exact call_reprD hg hu pins s σ H _ us Q I r ⟨_, _, rfl, .tup h1 h2, hs, hn, hdp, hz, q⟩
end Ft
namespace Ft
open PySem PySem.Spec PyProof.Rows L2
section
variable {X : Cx}
end
end Ft
namespace Ft
open PySem PySem.Spec PyProof.Rows L2 PySem.Froz
section
variable {P : Program} {prog : Program} {w : World} {A : Around} {E : Value → Shared → Prop} {s : Shared}
end
section
variable {X : Cx} {a : Expr} {ta : TE}
end
end Ft
namespace PyProof.Rows
open PySem
section
variable {prog : Program} {w : World} {A : Around} {E : Value → Shared → Prop} {s : Shared}
end
end PyProof.Rows
namespace Ft
open PySem PySem.Spec PyProof.Rows L2
section
variable {X : Cx}
end
end Ft
namespace Ft
open PySem PySem.Spec PyProof.Rows L2
abbrev Put := Addr → V → V → Hp → (Hp → Prop) → Prop
structure DKd (X : Cx) (nu : Addr → HO) (put : Put) : Prop where
  born : ∀ (H : Hp) (h : Heap), sysModules < h.objs.size → ObjOk X.prog X.w H (h.push { cls := .type "dict", data := .dict #[] }) h.objs.size (nu h.objs.size)
  store : ∀ (Y : Cx), Y.prog = X.prog → Y.w = X.w → Y.K = X.K → Y.A = X.A → ∀ (pins : List (Addr × Obj)) (s : Shared) (σ : L2.St) (H : Hp) (D : Addr) (y z : V) (u r : Value) (R : Hp → Prop) (E : Value → Shared → Prop), Inv Y pins σ H s → RelV y u → RelV z r → put D y z H R →
    wpAny (model X.prog X.w) X.A (dictSet D u r) (fun _ s' => ∃ H', Inv Y pins σ H' s' ∧ R H') E s
section
variable {X : Cx} {pins : List (Addr × Obj)} {s : Shared} {σ : L2.St} {H : Hp} {Q : VK} {kx vx tg iter : Expr} {ifs : List Expr} {scope : Scope} {own : List (Str × Nat)} {pos pos' : Pos} {wi : TI} {g : TG} {tt : TT} {tk tv : TE} {use : Option (Value → Sem Unit)} {Qf : Value → Shared → Prop}
variable {nu : Addr → HO} {put : Put}
end
end Ft
namespace Dn
open PySem PySem.Spec PyProof.Rows L2 Ft LamX
inductive D where
  | non | bl (b : Bool) | int (i : Int) | str (x : Str) | tup (ds : List D) | lst (ds : List D) | obj (c : Str) (fs : List (Str × D)) | emp | exn (c : Str) (fs : List (Str × D))
inductive Wi where
  | d (x : D) | c (n : Nat)
inductive W where
  | d (x : D) | c (n : Nat) | scr (ns : List Int) | t (l : List Wi)
inductive Cell where
  | lst (ds : List D) | ins (c : Str) (fs : List (Str × D)) | dn (kvs : List (D × D)) | dk (kvs : List (Key × D))
inductive O (α : Type) where
  | ok (a : α) | exc (c : Str) (fs : List (Str × D))
abbrev Sto := List Cell
abbrev Slo := List (Option W)
abbrev R (α : Type) := Option (O α × Sto)
abbrev Ex := Slo → Sto → R W
abbrev Ax := Slo → Sto → R (List W)
abbrev Tx := Slo → Sto → R Bool
structure Gx where
  K : PySem.W.Frag
  mg : Str → Option Value
  T : List (Addr × Str)
  w : World
structure M where
  c : List Addr
  g : List Addr
def M.add (m : M) (p : Addr) : M := ⟨m.c ++ [p], m.g⟩
abbrev M.all (m : M) : List Addr := m.c ++ m.g
def lim : Nat := 100000
theorem lim_le {n : Nat} (h : n ≤ lim) : n ≤ sizeLine := by
  rw [sizeLine_eq]; unfold lim at h; omega
theorem lim_lt {n : Nat} (h : n ≤ lim) : n < sizeLine := by
  rw [sizeLine_eq]; unfold lim at h; omega
def XD (m : M) (H : Hp) (od : Option Addr) (fs : List (Str × V)) : Prop := match od with
  | none => fs = []
  | some d => H d = some (exd d fs) ∧ d ∉ m.all
mutual
inductive Rp (G : Gx) (m : M) (H : Hp) : V → D → Prop
  | non : Rp G m H .non .non
  | bl (b : Bool) : Rp G m H (.bl b) (.bl b)
  | int (i : Int) : Rp G m H (.int i) (.int i)
  | str (x : Str) (hl : x.length ≤ lim) : Rp G m H (.str x) (.str x)
  | tup {a : Addr} {xs : List V} {ds : List D} : ds.length ≤ lim → H a = some (.tup xs) → RpA G m H xs ds → Rp G m H (.ref a) (.tup ds)
  | lst {a : Addr} {xs : List V} {ds : List D} : ds.length ≤ lim → H a = some (.lst xs) → a ∉ m.all → RpA G m H xs ds → Rp G m H (.ref a) (.lst ds)
  | obj {a C dx : Addr} {c : Str} {fs : List (Str × V)} {gs : List (Str × D)} : G.mg c = some (.ref C) → H a = some (.ins C dx fs) → a ∉ m.all → RpF G m H fs gs → Rp G m H (.ref a) (.obj c gs)
  | emp {a : Addr} : H a = some (.dK []) → a ∉ m.all → Rp G m H (.ref a) .emp
  | exn {a C : Addr} {od : Option Addr} {c : Str} {fs : List (Str × V)} {gs : List (Str × D)} : c ≠ "type" → G.mg c = some (.ref C) → H a = some (exo a C od) → a ∉ m.all → XD m H od fs → RpF G m H fs gs → Rp G m H (.ref a) (.exn c gs)
  | cls {C : Addr} {c : Str} : G.mg c = some (.ref C) → Rp G m H (.ref C) (.exn "type" [(c, .non)])
inductive RpA (G : Gx) (m : M) (H : Hp) : List V → List D → Prop
  | nil : RpA G m H [] []
  | cons {v : V} {vs : List V} {d : D} {ds : List D} : Rp G m H v d → RpA G m H vs ds → RpA G m H (v :: vs) (d :: ds)
inductive RpF (G : Gx) (m : M) (H : Hp) : List (Str × V) → List (Str × D) → Prop
  | nil : RpF G m H [] []
  | cons {n : Str} {v : V} {d : D} {fs : List (Str × V)} {gs : List (Str × D)} : Rp G m H v d → RpF G m H fs gs → RpF G m H ((n, v) :: fs) ((n, d) :: gs)
end
def ScrA (K : PySem.W.Frag) (m : M) (H : Hp) (a : Addr) (xs : List V) : Prop :=
  (H a = some (.lst xs) ∧ a ∉ m.all) ∨ (∃ o, H a = some (.frz o (.lst xs))) ∨ ∃ (o : Obj) (its : Array Value) (n : Nat), K.lookup a = some o ∧ o.cls = .type "list" ∧ o.dict = none ∧ o.data = .seq its n ∧ its.size ≤ sizeLine ∧ Vals xs its.toList
def RpI (G : Gx) (m : M) (H : Hp) (v : V) : Wi → Prop
  | .d x => Rp G m H v x
  | .c n => ∃ a, m.c[n]? = some a ∧ v = .ref a
inductive RpIs (G : Gx) (m : M) (H : Hp) : List V → List Wi → Prop
  | nil : RpIs G m H [] []
  | cons {v : V} {vs : List V} {w : Wi} {ws : List Wi} : RpI G m H v w → RpIs G m H vs ws → RpIs G m H (v :: vs) (w :: ws)
def RpW (G : Gx) (m : M) (H : Hp) (v : V) : W → Prop
  | .d x => Rp G m H v x
  | .c n => ∃ a, m.c[n]? = some a ∧ v = .ref a
  | .scr ns => ∃ a, v = .ref a ∧ ns.length ≤ lim ∧ ScrA G.K m H a (ns.map V.int)
  | .t l => ∃ a xs, v = .ref a ∧ l.length ≤ lim ∧ H a = some (.tup xs) ∧ RpIs G m H xs l
inductive RpWs (G : Gx) (m : M) (H : Hp) : List V → List W → Prop
  | nil : RpWs G m H [] []
  | cons {v : V} {vs : List V} {w : W} {ws : List W} : RpW G m H v w → RpWs G m H vs ws → RpWs G m H (v :: vs) (w :: ws)
def Fr (H : Hp) (a : Addr) : Prop := ∀ o, H a = some o → ∃ ps, o = HO.tbl ps
theorem Fr.none {H : Hp} {a : Addr} (h : H a = none) : Fr H a := fun o e => by rw [h] at e; cases e
theorem Fr.no {H : Hp} {a : Addr} {o : HO} (f : Fr H a) (h : H a = some o) (t : ∀ ps, o ≠ .tbl ps) : False := by
  obtain ⟨ps, e⟩ := f o h
  exact t ps e
structure Ext (m : M) (H : Hp) (m' : M) (H' : Hp) : Prop where
  new : ∃ l, m'.c = m.c ++ l ∧ ∀ a ∈ l, Fr H a
  gh : (∀ a ∈ m.g, a ∈ m'.g) ∧ ∀ a ∈ m'.g, a ∈ m.g ∨ Fr H a
  keep : ∀ a o, a ∉ m.c → (∀ ps, o ≠ .tbl ps) → H a = some o → H' a = some o
  dom : ∀ a, Fr H' a → Fr H a
section
variable {G : Gx} {m m' m'' : M} {H H' H'' : Hp}
theorem nall {a : Addr} (h : a ∉ m.all) : a ∉ m.c := fun z => h (List.mem_append_left _ z)
theorem Ext.refl : Ext m H m H := ⟨⟨[], (List.append_nil _).symm, fun _ h => nomatch h⟩, ⟨fun _ h => h, fun _ h => .inl h⟩, fun _ _ _ _ h => h, fun _ h => h⟩
theorem Ext.nm (e : Ext m H m' H') {a : Addr} {o : HO} (n : a ∉ m.all) (h : H a = some o) (t : ∀ ps, o ≠ .tbl ps) : a ∉ m'.all := by
  obtain ⟨l, el, hl⟩ := e.new
  intro z
  rcases List.mem_append.mp z with z | z
  · rw [el] at z
    rcases List.mem_append.mp z with z | z
    · exact nall n z
    · exact (hl a z).no h t
  · rcases e.gh.2 a z with z | z
    · exact n (List.mem_append_right _ z)
    · exact z.no h t
theorem Ext.nmc (e : Ext m H m' H') {a : Addr} {o : HO} (n : a ∉ m.c) (h : H a = some o) (t : ∀ ps, o ≠ .tbl ps) : a ∉ m'.c := by
  obtain ⟨l, el, hl⟩ := e.new
  intro z
  rw [el] at z
  rcases List.mem_append.mp z with z | z
  · exact n z
  · exact (hl a z).no h t
theorem Ext.trans (e : Ext m H m' H') (f : Ext m' H' m'' H'') : Ext m H m'' H'' := by
  obtain ⟨l, el, hl⟩ := e.new
  obtain ⟨k, ek, hk⟩ := f.new
  refine ⟨⟨l ++ k, by rw [ek, el, List.append_assoc], fun a ha => ?_⟩, ⟨fun a h => f.gh.1 a (e.gh.1 a h), fun a h => (f.gh.2 a h).elim (e.gh.2 a) fun z => .inr (e.dom a z)⟩, fun a o n t h => f.keep a o (e.nmc n h t) t (e.keep a o n t h), fun a h => e.dom a (f.dom a h)⟩
  rcases List.mem_append.mp ha with z | z
  · exact hl a z
  · exact e.dom a (hk a z)
theorem Ext.of_same (s : Same H H') : Ext m H m H' := ⟨⟨[], (List.append_nil _).symm, fun _ h => nomatch h⟩, ⟨fun _ h => h, fun _ h => .inl h⟩, fun _ _ _ _ h => s _ _ h, fun a h o e => h o (s a o e)⟩
theorem nt_lst {xs : List V} : ∀ ps, HO.lst xs ≠ .tbl ps := by intro _ z; cases z
theorem nt_dk {xs : List (Key × V)} : ∀ ps, HO.dK xs ≠ .tbl ps := by intro _ z; cases z
theorem nt_ins {C dx : Addr} {fs : List (Str × V)} : ∀ ps, HO.ins C dx fs ≠ .tbl ps := by intro _ z; cases z
theorem nt_exo {e C : Addr} {d : Option Addr} : ∀ ps, exo e C d ≠ .tbl ps := fun _ => exo_tbl
theorem nt_exd {e : Addr} {fs : List (Str × V)} : ∀ ps, exd e fs ≠ .tbl ps := fun _ z => by
  have z' : HO.ext _ = HO.tbl _ := z
  cases z'
section
variable (h : ∀ a o, a ∉ m.all → (∀ ps, o ≠ .tbl ps) → H a = some o → H' a = some o) (hm : ∀ a o, a ∉ m.all → (∀ ps, o ≠ .tbl ps) → H a = some o → a ∉ m'.all) (ht : ∀ a xs, H a = some (.tup xs) → H' a = some (.tup xs))
include h hm in
theorem XD.move {od : Option Addr} {fs : List (Str × V)} (x : XD m H od fs) : XD m' H' od fs := by
  cases od with
  | none => exact x
  | some d => exact ⟨h _ _ x.2 nt_exd x.1, hm _ _ x.2 nt_exd x.1⟩
include h hm ht
theorem Rp.move {v : V} {d : D} (r : Rp G m H v d) : Rp G m' H' v d :=
  Rp.rec (motive_1 := fun v d _ => Rp G m' H' v d) (motive_2 := fun v d _ => RpA G m' H' v d) (motive_3 := fun v d _ => RpF G m' H' v d)
    .non (fun b => .bl b) (fun i => .int i) (fun x l => .str x l) (fun l e _ r => .tup l (ht _ _ e) r) (fun l e n _ r => .lst l (h _ _ n nt_lst e) (hm _ _ n (by first | exact nt_lst | exact nt_ins) e) r)
    (fun g e n _ r => .obj g (h _ _ n nt_ins e) (hm _ _ n (by first | exact nt_lst | exact nt_ins) e) r) (fun e n => .emp (h _ _ n nt_dk e) (hm _ _ n nt_dk e)) (fun nt g e n x _ r => .exn nt g (h _ _ n nt_exo e) (hm _ _ n nt_exo e) (XD.move h hm x) r) (fun e => .cls e) .nil (fun _ _ r t => .cons r t) .nil (fun _ _ r t => .cons r t) r
theorem RpA.move {v : List V} {d : List D} (r : RpA G m H v d) : RpA G m' H' v d :=
  RpA.rec (motive_1 := fun v d _ => Rp G m' H' v d) (motive_2 := fun v d _ => RpA G m' H' v d) (motive_3 := fun v d _ => RpF G m' H' v d)
    .non (fun b => .bl b) (fun i => .int i) (fun x l => .str x l) (fun l e _ r => .tup l (ht _ _ e) r) (fun l e n _ r => .lst l (h _ _ n nt_lst e) (hm _ _ n (by first | exact nt_lst | exact nt_ins) e) r)
    (fun g e n _ r => .obj g (h _ _ n nt_ins e) (hm _ _ n (by first | exact nt_lst | exact nt_ins) e) r) (fun e n => .emp (h _ _ n nt_dk e) (hm _ _ n nt_dk e)) (fun nt g e n x _ r => .exn nt g (h _ _ n nt_exo e) (hm _ _ n nt_exo e) (XD.move h hm x) r) (fun e => .cls e) .nil (fun _ _ r t => .cons r t) .nil (fun _ _ r t => .cons r t) r
theorem RpF.move {v : List (Str × V)} {d : List (Str × D)} (r : RpF G m H v d) : RpF G m' H' v d :=
  RpF.rec (motive_1 := fun v d _ => Rp G m' H' v d) (motive_2 := fun v d _ => RpA G m' H' v d) (motive_3 := fun v d _ => RpF G m' H' v d)
    .non (fun b => .bl b) (fun i => .int i) (fun x l => .str x l) (fun l e _ r => .tup l (ht _ _ e) r) (fun l e n _ r => .lst l (h _ _ n nt_lst e) (hm _ _ n (by first | exact nt_lst | exact nt_ins) e) r)
    (fun g e n _ r => .obj g (h _ _ n nt_ins e) (hm _ _ n (by first | exact nt_lst | exact nt_ins) e) r) (fun e n => .emp (h _ _ n nt_dk e) (hm _ _ n nt_dk e)) (fun nt g e n x _ r => .exn nt g (h _ _ n nt_exo e) (hm _ _ n nt_exo e) (XD.move h hm x) r) (fun e => .cls e) .nil (fun _ _ r t => .cons r t) .nil (fun _ _ r t => .cons r t) r
end
mutual
def keyD : D → Option NestedKey
  | .non => some .none
  | .bl b => some (.num (if b = true then 1 else 0))
  | .int i => some (.num i)
  | .str x => some (.text x)
  | .tup ds => (keysD ds).map .tup
  | .lst _ => none
  | .obj _ _ => none
  | .emp => none
  | .exn _ _ => none
def keysD : List D → Option (List NestedKey)
  | [] => some []
  | d :: ds => (keyD d).bind fun k => (keysD ds).map (k :: ·)
end
def dnO (w : World) (d : Addr) (xs : List (NestedKey × Addr × Value)) : HO := .ext fun h => ∃ o es ep, h.get? d = some o ∧ o.ExactDict ∧ o.data = .dict es ep ∧ es.toList = xs.map (fun x => (⟨x.1.hash w, .ref x.2.1, x.2.2⟩ : DictEntry)) ∧ (xs.map (·.1)).Nodup
theorem nt_dn {w : World} {d : Addr} {xs : List (NestedKey × Addr × Value)} : ∀ ps, dnO w d xs ≠ .tbl ps := fun _ z => by
  have z' : HO.ext _ = HO.tbl _ := z
  cases z'
def CellAt (G : Gx) (m : M) (H : Hp) (a : Addr) : Cell → Prop
  | .lst ds => ds.length ≤ lim ∧ ∃ xs, H a = some (.lst xs) ∧ RpA G m H xs ds
  | .ins c gs => ∃ C dx fs, G.mg c = some (.ref C) ∧ H a = some (.ins C dx fs) ∧ RpF G m H fs gs
  | .dn kvs => kvs.length ≤ lim ∧ (a == sysModules) = false ∧ ∃ (xs : List (NestedKey × Addr × Value)) (vs : List V), H a = some (dnO G.w a xs) ∧ (xs.map (·.1)).Nodup ∧ (∀ x ∈ xs, x.1.depth ≤ 8) ∧ keysD (kvs.map (·.1)) = some (xs.map (·.1)) ∧ Vals vs (xs.map (·.2.2)) ∧ RpA G m H (xs.map fun x => V.ref x.2.1) (kvs.map (·.1)) ∧ RpA G m H vs (kvs.map (·.2))
  | .dk kvs => kvs.length ≤ lim ∧ ∃ vs : List V, H a = some (.dK ((kvs.map (·.1)).zip vs)) ∧ RpA G m H vs (kvs.map (·.2))
theorem dn_code {w : World} {d c : Addr} {q : Str} {xs : List (NestedKey × Addr × Value)} (hn : (xs.map (·.1)).Nodup) : dnO w d xs ≠ CodeO c q := fun z => by
  unfold dnO CodeO at z
  injection z with z
  let o : Obj := { cls := .type "dict", data := .dict (xs.map (fun x => (⟨x.1.hash w, .ref x.2.1, x.2.2⟩ : DictEntry))).toArray 0 }
  let h : Heap := ⟨Array.replicate (d + 1) o, {}⟩
  have e : h.get? d = some o := by
    have e1 : h.objs[d]? = some o := by
      show (Array.replicate (d + 1) o)[d]? = some o
      rw [Array.getElem?_replicate, if_pos (Nat.lt_succ_self d)]
    unfold Heap.get?
    rw [e1]
  have key := (congrFun z h).mp ⟨o, _, 0, e, ⟨rfl, rfl, rfl⟩, rfl, by simp, hn⟩
  obtain ⟨oc, vs, t, h1, h2, _⟩ := key
  have e2 : h.objs[c]? = (if c < d + 1 then some o else none) := by
    show (Array.replicate (d + 1) o)[c]? = _
    rw [Array.getElem?_replicate]
  unfold Heap.get? at h1
  rw [e2] at h1
  by_cases hc : c < d + 1
  · rw [if_pos hc] at h1
    cases h1
    cases h2
  · rw [if_neg hc] at h1
    cases h1
theorem CellAt.got {a : Addr} {c : Cell} (h : CellAt G m H a c) : ∃ o, H a = some o ∧ (∀ xs, o ≠ .tup xs) ∧ (∀ xs, o ≠ .tbl xs) ∧ (∀ x y, o ≠ .frz x y) ∧ ∀ c q, o ≠ CodeO c q := by
  cases c with
  | lst ds => obtain ⟨_, xs, e, _⟩ := h; exact ⟨_, e, (by intro _ z; cases z), (by intro _ z; cases z), (by intro _ _ z; cases z), (by intro _ _ z; cases z)⟩
  | ins c gs => obtain ⟨_, _, xs, _, e, _⟩ := h; exact ⟨_, e, (by intro _ z; cases z), (by intro _ z; cases z), (by intro _ _ z; cases z), (by intro _ _ z; cases z)⟩
  | dn kvs => obtain ⟨_, _, xs, vs, e, hn, _⟩ := h; exact ⟨_, e, (by intro _ z; have z' : HO.ext _ = HO.tup _ := z; cases z'), nt_dn, (by intro _ _ z; have z' : HO.ext _ = HO.frz _ _ := z; cases z'), fun _ _ => dn_code hn⟩
  | dk kvs => obtain ⟨_, vs, e, _⟩ := h; exact ⟨_, e, (by intro _ z; cases z), (by intro _ z; cases z), (by intro _ _ z; cases z), (by intro _ _ z; cases z)⟩
theorem nodup_ixA {l : List Addr} (hN : l.Nodup) {i j : Nat} {x : Addr} (a : l[i]? = some x) (b : l[j]? = some x) : i = j := by
  obtain ⟨h1, e1⟩ := List.getElem?_eq_some_iff.mp a
  obtain ⟨h2, e2⟩ := List.getElem?_eq_some_iff.mp b
  exact (List.getElem_inj hN).mp (e1.trans e2.symm)
structure CO (G : Gx) (m : M) (H : Hp) (st : Sto) : Prop where
  len : m.c.length = st.length
  nd : m.c.Nodup
  at_ : ∀ (i : Nat) (a : Addr) (c : Cell), m.c[i]? = some a → st[i]? = some c → CellAt G m H a c
  tabs : Tabs G.T H
  gh : ∀ a ∈ m.g, ¬ Fr H a
theorem CO.got {st : Sto} (c : CO G m H st) {a : Addr} (h : a ∈ m.c) : ∃ o, H a = some o ∧ (∀ xs, o ≠ .tup xs) ∧ (∀ xs, o ≠ .tbl xs) ∧ (∀ x y, o ≠ .frz x y) ∧ ∀ c q, o ≠ CodeO c q := by
  obtain ⟨i, hi, e⟩ := List.getElem_of_mem h
  have hi' : i < st.length := by rw [← c.len]; exact hi
  exact (c.at_ i a st[i] (by rw [List.getElem?_eq_getElem hi, e]) (List.getElem?_eq_getElem hi')).got
theorem CO.new_nm {st : Sto} (c : CO G m H st) {p : Addr} (h : Fr H p) : p ∉ m.c := fun z => by
  obtain ⟨o, e, _, t, _⟩ := c.got z
  exact h.no e t
theorem CO.new_na {st : Sto} (c : CO G m H st) {p : Addr} (h : Fr H p) : p ∉ m.all := fun z => by
  rcases List.mem_append.mp z with z | z
  · exact c.new_nm h z
  · exact c.gh p z h
theorem CO.tup_nm {st : Sto} (c : CO G m H st) {p : Addr} {xs : List V} (h : H p = some (.tup xs)) : p ∉ m.c := fun z => by
  obtain ⟨o, e, n, _⟩ := c.got z
  rw [h] at e
  cases e
  exact n _ rfl
theorem Rp.ext {st : Sto} (c : CO G m H st) (e : Ext m H m' H') {v : V} {d : D} (r : Rp G m H v d) : Rp G m' H' v d :=
  r.move (fun a o n => e.keep a o (nall n)) (fun _ _ n t h => e.nm n h t) fun a xs h => e.keep a _ (c.tup_nm h) (by intro _ z; cases z) h
theorem RpA.ext {st : Sto} (c : CO G m H st) (e : Ext m H m' H') {v : List V} {d : List D} (r : RpA G m H v d) : RpA G m' H' v d :=
  r.move (fun a o n => e.keep a o (nall n)) (fun _ _ n t h => e.nm n h t) fun a xs h => e.keep a _ (c.tup_nm h) (by intro _ z; cases z) h
theorem RpF.ext {st : Sto} (c : CO G m H st) (e : Ext m H m' H') {v : List (Str × V)} {d : List (Str × D)} (r : RpF G m H v d) : RpF G m' H' v d :=
  r.move (fun a o n => e.keep a o (nall n)) (fun _ _ n t h => e.nm n h t) fun a xs h => e.keep a _ (c.tup_nm h) (by intro _ z; cases z) h
theorem Rp.same (s : Same H H') {v : V} {d : D} (r : Rp G m H v d) : Rp G m H' v d := r.move (fun _ _ _ _ h => s _ _ h) (fun _ _ n _ _ => n) fun _ _ h => s _ _ h
theorem RpA.same (s : Same H H') {v : List V} {d : List D} (r : RpA G m H v d) : RpA G m H' v d := r.move (fun _ _ _ _ h => s _ _ h) (fun _ _ n _ _ => n) fun _ _ h => s _ _ h
theorem RpF.same (s : Same H H') {v : List (Str × V)} {d : List (Str × D)} (r : RpF G m H v d) : RpF G m H' v d := r.move (fun _ _ _ _ h => s _ _ h) (fun _ _ n _ _ => n) fun _ _ h => s _ _ h
theorem ScrA.sq {K : PySem.W.Frag} {a : Addr} {xs : List V} (h : ScrA K m H a xs) : SqL K H a xs := by
  rcases h with ⟨h, _⟩ | h | h
  · exact .inl (.inl h)
  · exact .inl (.inr h)
  · exact .inr h
theorem ScrA.ext {K : PySem.W.Frag} {st : Sto} {a : Addr} {xs : List V} (c : CO G m H st) (e : Ext m H m' H') (h : ScrA K m H a xs) : ScrA K m' H' a xs := by
  rcases h with ⟨h, n⟩ | ⟨o, h⟩ | h
  · exact .inl ⟨e.keep _ _ (nall n) (by intro _ z; cases z) h, e.nm n h nt_lst⟩
  · refine .inr (.inl ⟨o, e.keep _ _ (fun z => ?_) (by intro _ z; cases z) h⟩)
    obtain ⟨o', e', _, _, n, _⟩ := c.got z
    rw [h] at e'
    cases e'
    exact n _ _ rfl
  · exact .inr (.inr h)
theorem RpIs.mono {vs : List V} {ws : List Wi} (hd : ∀ v x, Rp G m H v x → Rp G m' H' v x) (hc : ∀ (n : Nat) (a : Addr), m.c[n]? = some a → m'.c[n]? = some a) (r : RpIs G m H vs ws) : RpIs G m' H' vs ws := by
  induction r with
  | nil => exact .nil
  | @cons v vs w ws r1 _ ih =>
    refine .cons ?_ ih
    cases w with
    | d x => exact hd v x r1
    | c n =>
      obtain ⟨a, h, e⟩ := r1
      exact ⟨a, hc n a h, e⟩
theorem RpI.ext {st : Sto} (c : CO G m H st) (e : Ext m H m' H') {v : V} {w : Wi} (r : RpI G m H v w) : RpI G m' H' v w := by
  cases w with
  | d x => exact Rp.ext c e r
  | c n =>
    obtain ⟨a, h, rfl⟩ := r
    obtain ⟨l, el, _⟩ := e.new
    exact ⟨a, by rw [el, List.getElem?_append_left (List.getElem?_eq_some_iff.mp h).1]; exact h, rfl⟩
theorem RpIs.ext {st : Sto} (c : CO G m H st) (e : Ext m H m' H') {vs : List V} {ws : List Wi} (r : RpIs G m H vs ws) : RpIs G m' H' vs ws := by
  induction r with
  | nil => exact .nil
  | cons r _ ih => exact .cons (RpI.ext c e r) ih
theorem RpW.ext {st : Sto} (c : CO G m H st) (e : Ext m H m' H') {v : V} {w : W} (r : RpW G m H v w) : RpW G m' H' v w := by
  cases w with
  | d x => exact Rp.ext c e r
  | c n =>
    obtain ⟨a, h, rfl⟩ := r
    obtain ⟨l, el, _⟩ := e.new
    exact ⟨a, by rw [el, List.getElem?_append_left (List.getElem?_eq_some_iff.mp h).1]; exact h, rfl⟩
  | scr ns =>
    obtain ⟨a, rfl, l, h⟩ := r
    exact ⟨a, rfl, l, h.ext c e⟩
  | t l =>
    obtain ⟨a, xs, rfl, hl, h, r⟩ := r
    exact ⟨a, xs, rfl, hl, e.keep _ _ (c.tup_nm h) (by intro _ z; cases z) h, r.ext c e⟩
theorem RpWs.ext {st : Sto} (c : CO G m H st) (e : Ext m H m' H') {vs : List V} {ws : List W} (r : RpWs G m H vs ws) : RpWs G m' H' vs ws := by
  induction r with
  | nil => exact .nil
  | cons r _ ih => exact .cons (RpW.ext c e r) ih
structure SL (G : Gx) (m : M) (H : Hp) (σ : L2.St) (sl : Slo) : Prop where
  len : σ.length = sl.length
  at_ : ∀ (i : Nat) (w : W), sl[i]? = some (some w) → ∃ v, σ[i]? = some (some v) ∧ RpW G m H v w
theorem SL.ext {st : Sto} {σ : L2.St} {sl : Slo} (c : CO G m H st) (e : Ext m H m' H') (r : SL G m H σ sl) : SL G m' H' σ sl :=
  ⟨r.len, fun i w h => let ⟨v, h1, h2⟩ := r.at_ i w h; ⟨v, h1, RpW.ext c e h2⟩⟩
theorem SL.set {σ : L2.St} {sl : Slo} {i : Nat} {v : V} {w : W} (r : SL G m H σ sl) (h : RpW G m H v w) : SL G m H (σ.set i (some v)) (sl.set i (some w)) := by
  refine ⟨by rw [List.length_set, List.length_set]; exact r.len, fun j w' e => ?_⟩
  by_cases c : i = j
  · subst c
    have hl : i < sl.length := by
      have := (List.getElem?_eq_some_iff.mp e).1
      rwa [List.length_set] at this
    rw [List.getElem?_set_self hl] at e
    cases e
    exact ⟨v, List.getElem?_set_self (by rw [r.len]; exact hl), h⟩
  · rw [List.getElem?_set_ne c] at e
    obtain ⟨v', h1, h2⟩ := r.at_ j w' e
    exact ⟨v', by rw [List.getElem?_set_ne c]; exact h1, h2⟩
theorem CellAt.ext {st : Sto} {a : Addr} {c : Cell} (co : CO G m H st) (e : Ext m H m' H') (ha : H' a = H a) (h : CellAt G m H a c) : CellAt G m' H' a c := by
  cases c with
  | lst ds => obtain ⟨l, xs, h1, h2⟩ := h; exact ⟨l, xs, ha.trans h1, h2.ext co e⟩
  | ins c gs => obtain ⟨C, dx, fs, h1, h2, h3⟩ := h; exact ⟨C, dx, fs, h1, ha.trans h2, h3.ext co e⟩
  | dn kvs => obtain ⟨l, l2, xs, vs, h1, h2, h3, h4, h5, h6, h7⟩ := h; exact ⟨l, l2, xs, vs, ha.trans h1, h2, h3, h4, h5, h6.ext co e, h7.ext co e⟩
  | dk kvs => obtain ⟨l, vs, h1, h2⟩ := h; exact ⟨l, vs, ha.trans h1, h2.ext co e⟩
theorem CO.same {st : Sto} (c : CO G m H st) (s : Same H H') : CO G m H' st := by
  refine ⟨c.len, c.nd, fun i a cl h1 h2 => ?_, c.tabs.ext fun b o h => s b o h, fun a ha h => c.gh a ha ((Ext.of_same (m := m) s).dom a h)⟩
  have q := c.at_ i a cl h1 h2
  obtain ⟨o, ho, _⟩ := q.got
  exact q.ext c (Ext.of_same s) ((s a o ho).trans ho.symm)
theorem ext_cell {st : Sto} {p : Addr} {o : HO} (c : CO G m H st) (hp : H p = none) : Ext m H (m.add p) (upd H p o) :=
  ⟨⟨[p], rfl, fun a h => by rw [List.mem_singleton.mp h]; exact .none hp⟩, ⟨fun _ h => h, fun _ h => .inl h⟩, fun a u _ _ h => (same_new hp) a u h, fun a h o' e => h o' ((same_new hp) a o' e)⟩
theorem CO.cell {st : Sto} {p : Addr} {o : HO} {cl : Cell} (c : CO G m H st) (hp : H p = none) (h : CellAt G (m.add p) (upd H p o) p cl) : CO G (m.add p) (upd H p o) (st ++ [cl]) := by
  have e := ext_cell (o := o) c hp
  refine ⟨by show (m.c ++ [p]).length = _; rw [List.length_append, List.length_append, c.len]; rfl, ?_, fun i a cl' h1 h2 => ?_, c.tabs.ext fun b u q => same_new hp b u q, fun a ha h => c.gh a ha (e.dom a h)⟩
  · exact List.nodup_append.mpr ⟨c.nd, List.nodup_cons.mpr ⟨List.not_mem_nil, List.nodup_nil⟩, fun a ha b hb => by
      rw [List.mem_singleton.mp hb]
      rintro rfl
      exact c.new_nm (.none hp) ha⟩
  · have h1 : (m.c ++ [p])[i]? = some a := h1
    rcases Nat.lt_trichotomy i m.c.length with hi | hi | hi
    · rw [List.getElem?_append_left hi] at h1
      rw [List.getElem?_append_left (by rw [← c.len]; exact hi)] at h2
      have q := c.at_ i a cl' h1 h2
      obtain ⟨u, hu, _⟩ := q.got
      exact q.ext c e (by rw [upd_ne (ne_of_none hu hp)])
    · subst hi
      rw [List.getElem?_append_right (Nat.le_refl _), Nat.sub_self] at h1
      rw [c.len, List.getElem?_append_right (Nat.le_refl _), Nat.sub_self] at h2
      cases h1
      cases h2
      exact h
    · rw [List.getElem?_append_right (Nat.le_of_lt hi), List.getElem?_eq_none (by simp only [List.length_singleton]; omega)] at h1
      cases h1
theorem ext_write {st : Sto} {i : Nat} {a : Addr} {o : HO} (c : CO G m H st) (ho : ∀ ps, o ≠ .tbl ps) (hi : m.c[i]? = some a) : Ext m H m (upd H a o) :=
  ⟨⟨[], (List.append_nil _).symm, fun _ h => nomatch h⟩, ⟨fun _ h => h, fun _ h => .inl h⟩, fun b u n _ h => by
    have z : b ≠ a := fun z => n (z ▸ List.mem_of_getElem? hi)
    rw [upd_ne z]; exact h, fun b h o' e => by
    by_cases z : b = a
    · rw [z] at h; exact (h.no upd_same ho).elim
    · exact h o' (by rw [upd_ne z]; exact e)⟩
theorem CO.write {st : Sto} {i : Nat} {a : Addr} {o : HO} {cl : Cell} (c : CO G m H st) (hi : m.c[i]? = some a) (h : CellAt G m (upd H a o) a cl) : CO G m (upd H a o) (st.set i cl) := by
  have ho : ∀ ps, o ≠ .tbl ps := by
    obtain ⟨u, hu, _, t, _⟩ := h.got
    rw [upd_same] at hu
    cases hu
    exact t
  have e := ext_write (o := o) c ho hi
  refine ⟨by rw [List.length_set]; exact c.len, c.nd, fun j b cl' h1 h2 => ?_, fun p hp => ?_, fun b hb h => c.gh b hb (e.dom b h)⟩
  · by_cases z : i = j
    · subst z
      rw [hi] at h1
      cases h1
      have hl : i < st.length := by rw [← c.len]; exact (List.getElem?_eq_some_iff.mp hi).1
      rw [List.getElem?_set_self hl] at h2
      cases h2
      exact h
    · rw [List.getElem?_set_ne z] at h2
      have q := c.at_ j b cl' h1 h2
      refine q.ext c e (upd_ne fun y => z ?_)
      subst y
      exact nodup_ixA c.nd hi h1
  · obtain ⟨ps, q, r1, r2⟩ := c.tabs p hp
    obtain ⟨u, hu, _, nt, _, nx⟩ := c.got (List.mem_of_getElem? hi)
    have n : p.1 ≠ a := fun z => by
      rw [z, hu] at q
      cases q
      exact nt _ rfl
    refine ⟨ps, by rw [upd_ne n]; exact q, r1, fun pos cv h => ?_⟩
    obtain ⟨c', e1, e2⟩ := r2 pos cv h
    refine ⟨c', e1, ?_⟩
    rw [upd_ne fun z => ?_]
    · exact e2
    · rw [z, hu] at e2
      cases e2
      exact nx _ _ rfl
theorem mv_of {m m' : M} (h : ∀ a, a ∈ m'.all → a ∈ m.all) : ∀ a (o : HO), a ∉ m.all → (∀ ps, o ≠ .tbl ps) → H a = some o → a ∉ m'.all := fun a _ n _ _ z => n (h a z)
theorem Rp.fewer (h : ∀ a, a ∈ m'.all → a ∈ m.all) {v : V} {d : D} (r : Rp G m H v d) : Rp G m' H v d := r.move (fun _ _ _ _ h => h) (mv_of h) fun _ _ h => h
theorem RpA.fewer (h : ∀ a, a ∈ m'.all → a ∈ m.all) {v : List V} {d : List D} (r : RpA G m H v d) : RpA G m' H v d := r.move (fun _ _ _ _ h => h) (mv_of h) fun _ _ h => h
theorem RpF.fewer (h : ∀ a, a ∈ m'.all → a ∈ m.all) {v : List (Str × V)} {d : List (Str × D)} (r : RpF G m H v d) : RpF G m' H v d := r.move (fun _ _ _ _ h => h) (mv_of h) fun _ _ h => h
theorem CellAt.fewer (h : ∀ a, a ∈ m'.all → a ∈ m.all) {a : Addr} {c : Cell} (r : CellAt G m H a c) : CellAt G m' H a c := by
  cases c with
  | lst ds => obtain ⟨l, xs, h1, h2⟩ := r; exact ⟨l, xs, h1, h2.fewer h⟩
  | ins c gs => obtain ⟨C, dx, fs, h1, h2, h3⟩ := r; exact ⟨C, dx, fs, h1, h2, h3.fewer h⟩
  | dn kvs => obtain ⟨l, l2, xs, vs, h1, h2, h3, h4, h5, h6, h7⟩ := r; exact ⟨l, l2, xs, vs, h1, h2, h3, h4, h5, h6.fewer h, h7.fewer h⟩
  | dk kvs => obtain ⟨l, vs, h1, h2⟩ := r; exact ⟨l, vs, h1, h2.fewer h⟩
def M.tk (m : M) (n : Nat) : M := ⟨m.c.take n, m.g⟩
theorem tk_all {n : Nat} : ∀ a, a ∈ (m.tk n).all → a ∈ m.all := fun a z => by
  rcases List.mem_append.mp z with z | z
  · exact List.mem_append_left _ (List.mem_of_mem_take z)
  · exact List.mem_append_right _ z
theorem CO.take {st : Sto} (c : CO G m H st) (n : Nat) : CO G (m.tk n) H (st.take n) := by
  refine ⟨by show (m.c.take n).length = _; rw [List.length_take, List.length_take, c.len], c.nd.sublist (List.take_sublist _ _), fun i a cl h1 h2 => ?_, c.tabs, c.gh⟩
  have h1 : (m.c.take n)[i]? = some a := h1
  rw [List.getElem?_take] at h1 h2
  split at h1
  · rename_i hi
    rw [if_pos hi] at h2
    exact (c.at_ i a cl h1 h2).fewer tk_all
  · cases h1
theorem Ext.cut {st : Sto} (e : Ext m H m' H') (c : CO G m' H' st) : Ext m H m H' ∧ CO G m H' (st.take m.c.length) ∧ ∀ a, a ∈ m.all → a ∈ m'.all := by
  obtain ⟨l, el, hl⟩ := e.new
  have sub : ∀ a, a ∈ m.all → a ∈ m'.all := fun a z => by
    rcases List.mem_append.mp z with z | z
    · exact List.mem_append_left _ (by rw [el]; exact List.mem_append_left _ z)
    · exact List.mem_append_right _ (e.gh.1 a z)
  refine ⟨⟨⟨[], (List.append_nil _).symm, fun _ h => nomatch h⟩, ⟨fun _ h => h, fun _ h => .inl h⟩, e.keep, e.dom⟩, ?_, sub⟩
  have q := c.take m.c.length
  have ek : m'.c.take m.c.length = m.c := by rw [el, List.take_left']; rfl
  refine ⟨by rw [← q.len]; exact (congrArg List.length ek).symm, by rw [← ek]; exact q.nd, fun i a cl h1 h2 => ?_, q.tabs, fun a ha => q.gh a (e.gh.1 a ha)⟩
  refine (q.at_ i a cl ?_ h2).fewer fun b hb => ?_
  · show (m'.c.take m.c.length)[i]? = some a
    rw [ek]
    exact h1
  · show b ∈ m'.c.take m.c.length ++ m'.g
    rw [ek]
    rcases List.mem_append.mp hb with z | z
    · exact List.mem_append_left _ z
    · exact List.mem_append_right _ (e.gh.1 b z)
end
end Dn
namespace Dn
open PySem PySem.Spec PyProof.Rows L2 Ft LamX
def bnd {α β : Type} (r : R α) (k : α → Sto → R β) : R β :=
  match r with
  | none => none
  | some (.exc c fs, st) => some (.exc c fs, st)
  | some (.ok a, st) => k a st
@[simp] theorem bnd_none {α β : Type} (k : α → Sto → R β) : bnd none k = none := rfl
@[simp] theorem bnd_ok {α β : Type} (a : α) (st : Sto) (k : α → Sto → R β) : bnd (some (.ok a, st)) k = k a st := rfl
@[simp] theorem bnd_exc {α β : Type} (c : Str) (fs : List (Str × D)) (st : Sto) (k : α → Sto → R β) : bnd (some (.exc c fs, st)) k = some (.exc c fs, st) := rfl
def XAt (G : Gx) (E : XK) (m : M) (H : Hp) (c : Str) (fs : List (Str × D)) (st : Sto) : Prop :=
  ∀ C d gs H' m', Ext m H m' H' → CO G m' H' st → G.mg c = some (.ref C) → H' d = some (.xd gs) → RpF G m' H' gs fs → E (.ref C) (some d) H'
def aft (G : Gx) (E : XK) {α ν : Type} (rel : M → Hp → ν → α → Prop) (m : M) (H : Hp) (r : R α) (Q : ν → Hp → Prop) : Prop :=
  match r with
  | none => False
  | some (.ok w, st) => ∀ v H' m', Ext m H m' H' → CO G m' H' st → rel m' H' v w → Q v H'
  | some (.exc c fs, st) => XAt G E m H c fs st
abbrev relB : M → Hp → Bool → Bool → Prop := fun _ _ v w => v = w
section
variable {G : Gx} {E : XK} {α β ν μ : Type} {rel : M → Hp → ν → α → Prop} {rel' : M → Hp → μ → β → Prop} {m m1 : M} {H H1 : Hp}
theorem XAt.ext {c : Str} {fs : List (Str × D)} {st : Sto} (e : Ext m H m1 H1) (h : XAt G E m H c fs st) : XAt G E m1 H1 c fs st := fun C d gs H' m' e' => h C d gs H' m' (e.trans e')
theorem aft.ext {r : R α} {Q : ν → Hp → Prop} (e : Ext m H m1 H1) (h : aft G E rel m H r Q) : aft G E rel m1 H1 r Q := by
  match r, h with
  | some (.ok w, st), h => exact fun v H' m' e' => h v H' m' (e.trans e')
  | some (.exc c fs, st), h => exact XAt.ext e h
theorem aft_bnd {r : R α} {k : α → Sto → R β} {Q : μ → Hp → Prop} {Q' : ν → Hp → Prop} (h : aft G E rel' m H (bnd r k) Q)
    (hk : ∀ w st1 v H1 m1, Ext m H m1 H1 → CO G m1 H1 st1 → rel m1 H1 v w → aft G E rel' m1 H1 (k w st1) Q → Q' v H1) : aft G E rel m H r Q' := by
  match r, h with
  | some (.ok w, st), h => exact fun v H' m' e' c' r' => hk w st v H' m' e' c' r' (aft.ext e' h)
  | some (.exc c fs, st), h => exact h
theorem aft_ok {w : α} {st : Sto} {Q : ν → Hp → Prop} {v : ν} (h : aft G E rel m H (some (.ok w, st)) Q) (c : CO G m H st) (r : rel m H v w) : Q v H := h v H m .refl c r
end
def rE (G : Gx) (E : WX) (f : Ex) : TE := fun σ H Q => ∃ m sl st, SL G m H σ sl ∧ CO G m H st ∧ aft G (WE E σ) (RpW G) m H (f sl st) Q
def rA (G : Gx) (E : WX) (f : Ax) : TA := fun σ H Q => ∃ m sl st, SL G m H σ sl ∧ CO G m H st ∧ aft G (WE E σ) (RpWs G) m H (f sl st) Q
def rT (G : Gx) (E : WX) (f : Tx) : TT := fun σ H Q => ∃ m sl st, SL G m H σ sl ∧ CO G m H st ∧ aft G (WE E σ) relB m H (f sl st) Q
abbrev DE (G : Gx) (X : Cx) (E : WX) (e : Expr) (f : Ex) : Prop := PE X e (rE G E f)
abbrev DA (G : Gx) (X : Cx) (E : WX) (es : List Expr) (f : Ax) : Prop := PA X es (rA G E f)
abbrev DT (G : Gx) (X : Cx) (E : WX) (e : Expr) (f : Tx) : Prop := PT X e (rT G E f)
abbrev DW (G : Gx) (X : Cx) (E : WX) (e : Expr) (f : Tx) : Prop := PW X e (rT G E f)
theorem PE.imp {X : Cx} {e : Expr} {t t' : TE} (h : PE X e t) (hi : ∀ σ H Q, t' σ H Q → t σ H Q) : PE X e t' := ⟨fun pins s σ H Q I q => h.run pins s σ H Q I (hi σ H Q q)⟩
theorem PT.imp {X : Cx} {e : Expr} {t t' : TT} (h : PT X e t) (hi : ∀ σ H Q, t' σ H Q → t σ H Q) : PT X e t' := ⟨fun pins s σ H Q I q => h.run pins s σ H Q I (hi σ H Q q)⟩
theorem PW.imp {X : Cx} {e : Expr} {t t' : TT} (h : PW X e t) (hi : ∀ σ H Q, t' σ H Q → t σ H Q) : PW X e t' := ⟨fun wh pins s σ H Q I q => h.run wh pins s σ H Q I (hi σ H Q q)⟩
theorem PA.imp {X : Cx} {es : List Expr} {t t' : TA} (h : PA X es t) (hi : ∀ σ H Q, t' σ H Q → t σ H Q) : PA X es t' := ⟨fun pos pins s σ H Q I q => h.run pos pins s σ H Q I (hi σ H Q q)⟩
theorem PS.imp {X : Cx} {e : Stmt} {t t' : TS} (h : PS X e t) (hi : ∀ D σ H, t' D σ H → t D σ H) : PS X e t' := ⟨fun pins s σ H D I q => h.run pins s σ H D I (hi D σ H q)⟩
theorem PSs.imp {X : Cx} {e : List Stmt} {t t' : TS} (h : PSs X e t) (hi : ∀ D σ H, t' D σ H → t D σ H) : PSs X e t' := ⟨fun pins s σ H D I q => h.run pins s σ H D I (hi D σ H q)⟩
def view (st : Sto) : W → Option D
  | .d x => some x
  | .c n => match st[n]? with
    | some (.lst ds) => some (.lst ds)
    | some (.ins c fs) => some (.obj c fs)
    | _ => none
  | _ => none
def viewL (st : Sto) : W → Option D
  | .scr ns => some (.lst (ns.map D.int))
  | w => view st w
def views (st : Sto) : List W → Option (List D)
  | [] => some []
  | w :: ws => match viewL st w, views st ws with
    | some d, some ds => some (d :: ds)
    | _, _ => none
def RpX (G : Gx) (m : M) (H : Hp) (v : V) (d : D) : Prop :=
  Rp G m H v d ∨ (∃ a xs ds, v = .ref a ∧ d = .lst ds ∧ ds.length ≤ lim ∧ H a = some (.lst xs) ∧ RpA G m H xs ds) ∨ (∃ a C dx c fs gs, v = .ref a ∧ d = .obj c gs ∧ G.mg c = some (.ref C) ∧ H a = some (.ins C dx fs) ∧ RpF G m H fs gs)
def RpY (G : Gx) (m : M) (H : Hp) (v : V) (d : D) : Prop := RpX G m H v d ∨ ∃ (a : Addr) (ns : List Int), v = .ref a ∧ d = .lst (ns.map D.int) ∧ ns.length ≤ lim ∧ SqL G.K H a (ns.map V.int)
inductive RpXs (G : Gx) (m : M) (H : Hp) : List V → List D → Prop
  | nil : RpXs G m H [] []
  | cons {v : V} {vs : List V} {d : D} {ds : List D} : RpY G m H v d → RpXs G m H vs ds → RpXs G m H (v :: vs) (d :: ds)
section
variable {G : Gx} {m : M} {H : Hp} {st : Sto}
theorem RpA.ints (ns : List Int) : RpA G m H (ns.map V.int) (ns.map D.int) := by
  induction ns with
  | nil => exact .nil
  | cons n ns ih => exact .cons (.int n) ih
theorem view_ok (c : CO G m H st) {v : V} {w : W} {d : D} (r : RpW G m H v w) (h : view st w = some d) : RpX G m H v d := by
  cases w with
  | d x => cases h; exact .inl r
  | c n =>
    obtain ⟨a, ha, rfl⟩ := r
    cases hs : st[n]? with
    | none => simp only [view, hs] at h; cases h
    | some cl =>
      simp only [view, hs] at h
      have q := c.at_ n a cl ha hs
      cases cl with
      | lst ds =>
        cases h
        obtain ⟨l, xs, h1, h2⟩ := q
        exact .inr (.inl ⟨a, xs, ds, rfl, rfl, l, h1, h2⟩)
      | ins cc fs =>
        cases h
        obtain ⟨C, dx, gs, h1, h2, h3⟩ := q
        exact .inr (.inr ⟨a, C, dx, cc, gs, fs, rfl, rfl, h1, h2, h3⟩)
      | dn _ => cases h
      | dk _ => cases h
  | scr ns => cases h
  | t l => cases h
theorem viewL_ok (c : CO G m H st) {v : V} {w : W} {d : D} (r : RpW G m H v w) (h : viewL st w = some d) : RpY G m H v d := by
  cases w with
  | d x => exact .inl (view_ok c r h)
  | c n => exact .inl (view_ok c r h)
  | scr ns =>
    obtain ⟨a, rfl, l, h1⟩ := r
    cases h
    exact .inr ⟨a, ns, rfl, rfl, l, h1.sq⟩
  | t l => cases h
theorem views_ok (c : CO G m H st) {vs : List V} {ws : List W} {ds : List D} (r : RpWs G m H vs ws) (h : views st ws = some ds) : RpXs G m H vs ds := by
  induction r generalizing ds with
  | nil => cases h; exact .nil
  | @cons v vs w ws r _ ih =>
    unfold views at h
    cases h1 : viewL st w with
    | none => rw [h1] at h; cases h
    | some d =>
      cases h2 : views st ws with
      | none => rw [h1, h2] at h; cases h
      | some ds' =>
        rw [h1, h2] at h
        cases h
        exact .cons (viewL_ok c r h1) (ih h2)
end
def pr (st : Sto) : Option D → R W
  | none => none
  | some d => some (.ok (.d d), st)
@[simp] theorem pr_some (st : Sto) (d : D) : pr st (some d) = some (.ok (.d d), st) := rfl
def Gives (G : Gx) (m : M) (H : Hp) (d : D) (Q : VK) : Prop := ∀ v H', Same H H' → Rp G m H' v d → Q v H'
theorem aft_pr {G : Gx} {E : XK} {m : M} {H : Hp} {st : Sto} {o : Option D} {Q : VK} (c : CO G m H st) (h : aft G E (RpW G) m H (pr st o) Q) : ∃ d, o = some d ∧ Gives G m H d Q := by
  cases o with
  | none => exact h.elim
  | some d => exact ⟨d, rfl, fun v H' s r => h v H' m (Ext.of_same s) (c.same s) r⟩
def OpP (G : Gx) (X : Cx) (f : Value → Value → Sem Value) (g : D → D → Option D) : Prop :=
  OpR X f (fun x y H Q => ∃ m st d1 d2 d, CO G m H st ∧ RpX G m H x d1 ∧ RpX G m H y d2 ∧ g d1 d2 = some d ∧ Gives G m H d Q)
def UnP (G : Gx) (X : Cx) (f : Value → Sem Value) (g : D → Option D) : Prop :=
  UnR X f (fun x H Q => ∃ m st d1 d, CO G m H st ∧ RpX G m H x d1 ∧ g d1 = some d ∧ Gives G m H d Q)
def CallP (G : Gx) (X : Cx) (f : Value) (g : List D → Option D) : Prop :=
  CallR X f (fun xs H Q => ∃ m st ds d, CO G m H st ∧ RpXs G m H xs ds ∧ g ds = some d ∧ Gives G m H d Q)
def IxP (G : Gx) (X : Cx) (g : D → D → Option D) : Prop :=
  IxR X (fun x y H Q => ∃ m st d1 d2 d, CO G m H st ∧ RpY G m H x d1 ∧ RpX G m H y d2 ∧ g d1 d2 = some d ∧ Gives G m H d Q)
def SlP (G : Gx) (X : Cx) (g : D → Option Int → Option Int → Option D) : Prop :=
  SlR X (fun x lo hi H Q => ∃ m st d1 d, CO G m H st ∧ RpY G m H x d1 ∧ g d1 lo hi = some d ∧ Gives G m H d Q)
def eVar (i : Nat) : Ex := fun sl st => match sl[i]? with
  | some (some w) => some (.ok w, st)
  | _ => none
def eC (d : D) : Ex := fun _ st => some (.ok (.d d), st)
def lift2 (g : D → D → Option D) (w1 w2 : W) (st : Sto) : R W := match view st w1, view st w2 with
  | some d1, some d2 => pr st (g d1 d2)
  | _, _ => none
def eOp (g : D → D → Option D) (fa fb : Ex) : Ex := fun sl st => bnd (fa sl st) fun w1 st1 => bnd (fb sl st1) fun w2 st2 => lift2 g w1 w2 st2
def eIx (g : D → D → Option D) (fa fb : Ex) : Ex := fun sl st => bnd (fa sl st) fun w1 st1 => bnd (fb sl st1) fun w2 st2 => match viewL st2 w1, view st2 w2 with
  | some d1, some d2 => pr st2 (g d1 d2)
  | _, _ => none
def lift1 (g : D → Option D) (w : W) (st : Sto) : R W := match view st w with
  | some d => pr st (g d)
  | none => none
def eUn (g : D → Option D) (fa : Ex) : Ex := fun sl st => bnd (fa sl st) fun w1 st1 => lift1 g w1 st1
def aNil : Ax := fun _ st => some (.ok [], st)
def aCons (fa : Ex) (fr : Ax) : Ax := fun sl st => bnd (fa sl st) fun w st1 => bnd (fr sl st1) fun ws st2 => some (.ok (w :: ws), st2)
def liftN (g : List D → Option D) (ws : List W) (st : Sto) : R W := match views st ws with
  | some ds => pr st (g ds)
  | none => none
def eCall (g : List D → Option D) (fa : Ax) : Ex := fun sl st => bnd (fa sl st) fun ws st1 => liftN g ws st1
section
variable {G : Gx} {X : Cx} {E : WX} {E' : XK} {a b e : Expr} {es : List Expr} {fa fb : Ex} {fr : Ax} {pos p : Pos}
theorem de_var {i : Nat} {x : Str} (hN : X.N[i]? = some x) (hv : Vis X.env.scope x) (hd : (x == ("__debug__" : Str)) = false := by decide) (hcd : (x == ("__classdict__" : Str)) = false := by decide) : DE G X E (.Name x pos) (eVar i) := by
  refine PE.imp (pe_var hN hv hd hcd) ?_
  rintro σ H Q ⟨m, sl, st, hs, hc, h⟩
  unfold eVar at h
  split at h
  · rename_i w hw
    obtain ⟨v, h1, h2⟩ := hs.at_ i w hw
    exact ⟨v, h1, aft_ok h hc h2⟩
  · exact h.elim
theorem rE_c {v : V} {d : D} (r : ∀ m H, Rp G m H v d) {σ : L2.St} {H : Hp} {Q : VK} (h : rE G E (eC d) σ H Q) : tC v σ H Q := by
  obtain ⟨m, sl, st, hs, hc, h⟩ := h
  exact aft_ok h hc (show RpW G m H v (.d d) from r m H)
theorem de_int {i j pos} : DE G X E (.Constant (.int i) j pos) (eC (.int i)) := PE.imp pe_int fun _ _ _ h => rE_c (fun _ _ => .int i) h
theorem de_bl {b j pos} : DE G X E (.Constant (.bool b) j pos) (eC (.bl b)) := PE.imp pe_bl fun _ _ _ h => rE_c (fun _ _ => .bl b) h
theorem de_non {j pos} : DE G X E (.Constant .none j pos) (eC .non) := PE.imp pe_non fun _ _ _ h => rE_c (fun _ _ => .non) h
theorem de_str {x j pos} (hl : x.length ≤ lim := by decide +kernel) : DE G X E (.Constant (.str x) j pos) (eC (.str x)) := PE.imp pe_str fun _ _ _ h => rE_c (fun _ _ => .str x hl) h
theorem de_cint {x : Str} {i : Int} (h : Cst X.mg x (.int i)) (hg : Gl X x) (hd : (x == ("__debug__" : Str)) = false := by decide) : DE G X E (.Name x pos) (eC (.int i)) := PE.imp (pe_const h hg hd) fun _ _ _ h => rE_c (fun _ _ => .int i) h
theorem lift2_ok {g : D → D → Option D} {m : M} {H : Hp} {st : Sto} {w1 w2 : W} {v1 v2 : V} {Q : VK} (c : CO G m H st) (r1 : RpW G m H v1 w1) (r2 : RpW G m H v2 w2) (h : aft G E' (RpW G) m H (lift2 g w1 w2 st) Q) :
    ∃ m st d1 d2 d, CO G m H st ∧ RpX G m H v1 d1 ∧ RpX G m H v2 d2 ∧ g d1 d2 = some d ∧ Gives G m H d Q := by
  unfold lift2 at h
  split at h
  · rename_i d1 d2 e1 e2
    obtain ⟨d, e3, q⟩ := aft_pr c h
    exact ⟨m, st, d1, d2, d, c, view_ok c r1 e1, view_ok c r2 e2, e3, q⟩
  · exact h.elim
theorem eOp_ok {g : D → D → Option D} {r : R2} (hr : ∀ x y H Q, (∃ m st d1 d2 d, CO G m H st ∧ RpX G m H x d1 ∧ RpX G m H y d2 ∧ g d1 d2 = some d ∧ Gives G m H d Q) → r x y H Q) {σ : L2.St} {H : Hp} {Q : VK} (h : rE G E (eOp g fa fb) σ H Q) : tOp r (rE G E fa) (rE G E fb) σ H Q := by
  obtain ⟨m, sl, st, hs, hc, h⟩ := h
  refine ⟨m, sl, st, hs, hc, aft_bnd h fun w1 st1 x H1 m1 e1 c1 r1 h1 => ⟨m1, sl, st1, hs.ext hc e1, c1, aft_bnd h1 fun w2 st2 y H2 m2 e2 c2 r2 h2 => hr _ _ _ _ (lift2_ok c2 (RpW.ext c1 e2 r1) r2 h2)⟩⟩
theorem de_op {op : Operator} {g : D → D → Option D} (ho : OpP G X (binaryOp op) g) (ha : DE G X E a fa) (hb : DE G X E b fb) : DE G X E (.BinOp a op b pos) (eOp g fa fb) :=
  PE.imp (pe_op ho ha hb) fun σ H Q h => eOp_ok (fun _ _ _ _ q => q) h
theorem de_cmp {op : CmpOp} {g : D → D → Option D} (ho : OpP G X (compareOp op) g) (ha : DE G X E a fa) (hb : DE G X E b fb) (hm : behindInMarks op b = false) : DE G X E (.Compare a [op] [b] pos) (eOp g fa fb) :=
  PE.imp (pe_cmpR ho ha hb hm) fun σ H Q h => eOp_ok (fun _ _ _ _ q => q) h
theorem de_un {op : UnaryOp} {g : D → Option D} (ho : UnP G X (unaryOp op) g) (ha : DE G X E a fa) : DE G X E (.UnaryOp op a pos) (eUn g fa) := by
  refine PE.imp (pe_un ho ha) ?_
  rintro σ H Q ⟨m, sl, st, hs, hc, h⟩
  refine ⟨m, sl, st, hs, hc, aft_bnd h fun w1 st1 x H1 m1 e1 c1 r1 h1 => ?_⟩
  unfold lift1 at h1
  split at h1
  · rename_i d1 e2
    obtain ⟨d, e3, q⟩ := aft_pr c1 h1
    exact ⟨m1, st1, d1, d, c1, view_ok c1 r1 e2, e3, q⟩
  · exact h1.elim
theorem de_ix {g : D → D → Option D} (ho : IxP G X g) (ha : DE G X E a fa) (hb : DE G X E b fb) (hs : PlainIx b) : DE G X E (.Subscript a b pos) (eIx g fa fb) := by
  refine PE.imp (pe_ix ho ha hb hs) ?_
  rintro σ H Q ⟨m, sl, st, hs, hc, h⟩
  refine ⟨m, sl, st, hs, hc, aft_bnd h fun w1 st1 x H1 m1 e1 c1 r1 h1 => ⟨m1, sl, st1, hs.ext hc e1, c1, aft_bnd h1 fun w2 st2 y H2 m2 e2 c2 r2 h2 => ?_⟩⟩
  split at h2
  · rename_i d1 d2 z1 z2
    obtain ⟨d, e3, q⟩ := aft_pr c2 h2
    exact ⟨m2, st2, d1, d2, d, c2, viewL_ok c2 (RpW.ext c1 e2 r1) z1, view_ok c2 r2 z2, e3, q⟩
  · exact h2.elim
theorem da_nil : DA G X E [] aNil := by
  refine PA.imp pa_nil ?_
  rintro σ H Q ⟨m, sl, st, hs, hc, h⟩
  exact aft_ok h hc .nil
theorem da_cons (ha : DE G X E e fa) (hr : DA G X E es fr) (hs : starEach (e :: es) X.env = (false, eval e X.env) :: starEach es X.env := by rfl) : DA G X E (e :: es) (aCons fa fr) := by
  refine PA.imp (pa_cons ha hr hs) ?_
  rintro σ H Q ⟨m, sl, st, hs, hc, h⟩
  refine ⟨m, sl, st, hs, hc, aft_bnd h fun w1 st1 x H1 m1 e1 c1 r1 h1 => ⟨m1, sl, st1, hs.ext hc e1, c1, aft_bnd h1 fun ws st2 xs H2 m2 e2 c2 r2 h2 => aft_ok h2 c2 (.cons (RpW.ext c1 e2 r1) r2)⟩⟩
theorem liftN_ok {g : List D → Option D} {m : M} {H : Hp} {st : Sto} {ws : List W} {vs : List V} {Q : VK} (c : CO G m H st) (r : RpWs G m H vs ws) (h : aft G E' (RpW G) m H (liftN g ws st) Q) :
    ∃ m st ds d, CO G m H st ∧ RpXs G m H vs ds ∧ g ds = some d ∧ Gives G m H d Q := by
  unfold liftN at h
  split at h
  · rename_i ds e1
    obtain ⟨d, e3, q⟩ := aft_pr c h
    exact ⟨m, st, ds, d, c, views_ok c r e1, e3, q⟩
  · exact h.elim
end
end Dn
namespace Dn
open PySem PySem.Spec PyProof.Rows L2 Ft LamX
section
variable {G : Gx} {X : Cx} {E : WX} {E' : XK} {a b c e : Expr} {es rest : List Expr} {fa fb fc : Ex} {fr : Ax} {pos p : Pos}
theorem rpd {m : M} {H : Hp} {v : V} {d : D} (r : Rp G m H v d) : RpW G m H v (.d d) := r
theorem de_callB {x : Str} {id : String} {g : List D → Option D} (hc : CallP G X (.builtin id) g) (hg : Gl X x) (hm : X.mg x = none) (hv : bootBuiltins x = some (.builtin id)) (ha : DA G X E (e :: es) fr) (hn : x ≠ "__name__" := by decide) (hdb : (x == ("__debug__" : Str)) = false := by decide)
    (he : starEach (e :: es) X.env = (false, eval e X.env) :: starEach es X.env := by rfl) (hpl : (backTo pos (starEach es X.env)).any (·.1) = false := by rfl) : DE G X E (.Call (.Name x p) (e :: es) [] pos) (eCall g fr) := by
  refine PE.imp (pe_callB hc hg hm hv ha hn hdb he hpl) ?_
  rintro σ H Q ⟨m, sl, st, hs, hc, h⟩
  exact ⟨m, sl, st, hs, hc, aft_bnd h fun ws st1 x H1 m1 e1 c1 r1 h1 => liftN_ok c1 r1 h1⟩
theorem de_callTy {x : Str} {T : String} {g : List D → Option D} (hc : CallP G X (.type T) g) (hg : Gl X x) (hm : X.mg x = none) (hv : bootBuiltins x = some (.type T)) (ha : DA G X E (e :: es) fr) (hn : x ≠ "__name__" := by decide) (hdb : (x == ("__debug__" : Str)) = false := by decide)
    (he : starEach (e :: es) X.env = (false, eval e X.env) :: starEach es X.env := by rfl) (hpl : (backTo pos (starEach es X.env)).any (·.1) = false := by rfl) : DE G X E (.Call (.Name x p) (e :: es) [] pos) (eCall g fr) := by
  refine PE.imp (pe_callTy hc hg hm hv ha hn hdb he hpl) ?_
  rintro σ H Q ⟨m, sl, st, hs, hc, h⟩
  exact ⟨m, sl, st, hs, hc, aft_bnd h fun ws st1 x H1 m1 e1 c1 r1 h1 => liftN_ok c1 r1 h1⟩
def pures : List W → Option (List D)
  | [] => some []
  | .d x :: ws => (pures ws).map (x :: ·)
  | _ :: _ => none
theorem pures_ok {m : M} {H : Hp} {vs : List V} {ws : List W} {ds : List D} (r : RpWs G m H vs ws) (h : pures ws = some ds) : RpA G m H vs ds := by
  induction r generalizing ds with
  | nil => cases h; exact .nil
  | @cons v vs w ws r _ ih =>
    cases w with
    | d x =>
      simp only [pures, Option.map_eq_some_iff] at h
      obtain ⟨l, h1, rfl⟩ := h
      exact .cons r (ih h1)
    | c n => cases h
    | scr n => cases h
    | t n => cases h
theorem RpA.len {m : M} {H : Hp} : ∀ {vs : List V} {ds : List D}, RpA G m H vs ds → vs.length = ds.length := by
  intro vs ds h
  induction ds generalizing vs with
  | nil => cases h; rfl
  | cons d ds ih => cases h with | cons h1 h2 => rw [List.length_cons, List.length_cons, ih h2]
theorem RpWs.len {m : M} {H : Hp} {vs : List V} {ws : List W} (h : RpWs G m H vs ws) : vs.length = ws.length := by
  induction h with
  | nil => rfl
  | cons _ _ ih => simp only [List.length_cons, ih]
def mk (k : List D → D) (ws : List W) (st : Sto) : R W := match pures ws with
  | some ds => if ds.length ≤ lim then some (.ok (.d (k ds)), st) else none
  | none => none
def eTup (fa : Ax) : Ex := fun sl st => bnd (fa sl st) fun ws st1 => mk .tup ws st1
def eLst (fa : Ax) : Ex := fun sl st => bnd (fa sl st) fun ws st1 => mk .lst ws st1
def eCell (fa : Ax) : Ex := fun sl st => bnd (fa sl st) fun ws st1 => match pures ws with
  | some ds => if ds.length ≤ lim then some (.ok (.c st1.length), st1 ++ [.lst ds]) else none
  | none => none
theorem rp_tup {m : M} {H : Hp} {p : Addr} {xs : List V} {ds : List D} (hp : H p = none) (hl : ds.length ≤ lim) (r : RpA G m H xs ds) : Rp G m (upd H p (.tup xs)) (.ref p) (.tup ds) := .tup hl upd_same (r.same (same_new hp))
theorem rp_lst {m : M} {H : Hp} {st : Sto} {p : Addr} {xs : List V} {ds : List D} (c : CO G m H st) (hp : H p = none) (hl : ds.length ≤ lim) (r : RpA G m H xs ds) : Rp G m (upd H p (.lst xs)) (.ref p) (.lst ds) := .lst hl upd_same (c.new_na (.none hp)) (r.same (same_new hp))
theorem de_tup {x1} (h : DA G X E es fr) : DE G X E (.Tuple es x1 pos) (eTup fr) := by
  refine PE.imp (pe_tup h) ?_
  rintro σ H Q ⟨m, sl, st, hs, hc, h⟩
  refine ⟨m, sl, st, hs, hc, aft_bnd h fun ws st1 xs H1 m1 e1 c1 r1 h1 => ?_⟩
  unfold mk at h1
  split at h1
  · rename_i ds hd
    split at h1
    · rename_i hl
      have ra := pures_ok r1 hd
      exact ⟨by rw [ra.len]; exact lim_le hl, fun p hp => h1 _ _ m1 (Ext.of_same (same_new hp)) (c1.same (same_new hp)) (rp_tup hp hl ra)⟩
    · exact h1.elim
  · exact h1.elim
theorem de_lst (h : DA G X E es fr) : DE G X E (.List es pos) (eLst fr) := by
  refine PE.imp (pe_lst h) ?_
  rintro σ H Q ⟨m, sl, st, hs, hc, h⟩
  refine ⟨m, sl, st, hs, hc, aft_bnd h fun ws st1 xs H1 m1 e1 c1 r1 h1 => ?_⟩
  unfold mk at h1
  split at h1
  · rename_i ds hd
    split at h1
    · rename_i hl
      have ra := pures_ok r1 hd
      exact ⟨by rw [ra.len]; exact lim_le hl, fun p hp => h1 _ _ m1 (Ext.of_same (same_new hp)) (c1.same (same_new hp)) (rp_lst c1 hp hl ra)⟩
    · exact h1.elim
  · exact h1.elim
theorem new_cell {m : M} {H : Hp} {st : Sto} {p : Addr} {xs : List V} {ds : List D} (c : CO G m H st) (hp : H p = none) (hl : ds.length ≤ lim) (r : RpA G m H xs ds) :
    Ext m H (m.add p) (upd H p (.lst xs)) ∧ CO G (m.add p) (upd H p (.lst xs)) (st ++ [.lst ds]) ∧ RpW G (m.add p) (upd H p (.lst xs)) (.ref p) (.c st.length) := by
  have e := ext_cell (o := .lst xs) c hp
  refine ⟨e, c.cell hp ⟨hl, xs, upd_same, r.ext c e⟩, p, ?_, rfl⟩
  show (m.c ++ [p])[_]? = _
  rw [← c.len, List.getElem?_append_right (Nat.le_refl _), Nat.sub_self]
  rfl
theorem de_cell (h : DA G X E es fr) : DE G X E (.List es pos) (eCell fr) := by
  refine PE.imp (pe_lst h) ?_
  rintro σ H Q ⟨m, sl, st, hs, hc, h⟩
  refine ⟨m, sl, st, hs, hc, aft_bnd h fun ws st1 xs H1 m1 e1 c1 r1 h1 => ?_⟩
  split at h1
  · rename_i ds hd
    split at h1
    · rename_i hl
      have ra := pures_ok r1 hd
      refine ⟨by rw [ra.len]; exact lim_le hl, fun p hp => ?_⟩
      obtain ⟨q1, q2, q3⟩ := new_cell c1 hp hl ra
      exact h1 _ _ _ q1 q2 q3
    · exact h1.elim
  · exact h1.elim
def truD : D → Option Bool
  | .non => some false
  | .bl b => some b
  | .int i => some (i != 0)
  | .str x => some (x.length != 0)
  | .tup ds => some (!ds.isEmpty)
  | .lst ds => some (!ds.isEmpty)
  | .obj _ _ => none
  | .emp => none
  | .exn _ _ => none
theorem isEmpty_rp {m : M} {H : Hp} {vs : List V} {ds : List D} (h : RpA G m H vs ds) : vs.isEmpty = ds.isEmpty := by
  cases h <;> rfl
theorem truD_ok {m : M} {H : Hp} {v : V} {d : D} {k : Bool} (r : RpX G m H v d) (h : truD d = some k) (hK : X.K = G.K) : TruV X.K v H k := by
  rcases r with r | ⟨a, xs, ds, rfl, rfl, _, h1, h2⟩ | ⟨a, C, dx, c, fs, gs, rfl, rfl, _⟩
  · cases r with
    | non => cases h; rfl
    | bl b => cases h; rfl
    | int i => cases h; rfl
    | str x hl =>
      cases h
      refine ⟨lim_le hl, ?_⟩
      by_cases z : x.length = 0
      · rw [z]; rfl
      · have z' : (x.length : Int) ≠ 0 := by omega
        simp only [bne, beq_eq_false_iff_ne.mpr z, beq_eq_false_iff_ne.mpr z']
    | tup _ e q => cases h; exact .inr (.inl ⟨_, .inl (.inl e), by rw [isEmpty_rp q]⟩)
    | lst _ e n q => cases h; exact .inl ⟨_, .inl (.inl e), by rw [isEmpty_rp q]⟩
    | obj _ _ _ _ => cases h
    | emp _ _ => cases h
    | exn _ _ _ _ _ _ => cases h
    | cls _ => cases h
  · cases h
    exact .inl ⟨xs, .inl (.inl h1), by rw [isEmpty_rp h2]⟩
  · cases h
def tru (w : W) (st : Sto) : Option Bool := (view st w).bind truD
theorem tru_okD {m : M} {H : Hp} {st : Sto} {v : V} {w : W} {k : Bool} (c : CO G m H st) (r : RpW G m H v w) (h : tru w st = some k) (hK : X.K = G.K) : TruV X.K v H k := by
  unfold tru at h
  obtain ⟨d, h1, h2⟩ := Option.bind_eq_some_iff.mp h
  exact truD_ok (view_ok c r h1) h2 hK
def tOf (f : Ex) : Tx := fun sl st => bnd (f sl st) fun w st1 => match tru w st1 with
  | some k => some (.ok k, st1)
  | none => none
def tCmp (g : D → D → Option D) (fa fb : Ex) : Tx := fun sl st => bnd (eOp g fa fb sl st) fun w st1 => match w with
  | .d (.bl k) => some (.ok k, st1)
  | _ => none
theorem rp_bl {m : M} {H : Hp} {v : V} {k : Bool} (r : Rp G m H v (.bl k)) : v = .bl k := by cases r; rfl
theorem dt_cmp {op : CmpOp} {g : D → D → Option D} (ho : OpP G X (compareOp op) g) (ha : DE G X E a fa) (hb : DE G X E b fb) (hm : behindInMarks op b = false) : DT G X E (.Compare a [op] [b] pos) (tCmp g fa fb) := by
  refine PT.imp (pt_cmpR ho ha hb hm) ?_
  rintro σ H Q ⟨m, sl, st, hs, hc, h⟩
  refine eOp_ok (E := E) (fun _ _ _ _ q => q) ⟨m, sl, st, hs, hc, aft_bnd h fun w st1 x H1 m1 e1 c1 r1 h1 => ?_⟩
  split at h1
  · rename_i k
    exact ⟨k, rp_bl r1, aft_ok h1 c1 rfl⟩
  · exact h1.elim
def tNotX (f : Tx) : Tx := fun sl st => bnd (f sl st) fun k st1 => some (.ok (!k), st1)
def tAndX (f g : Tx) : Tx := fun sl st => bnd (f sl st) fun k st1 => if k = true then g sl st1 else some (.ok false, st1)
def tOrX (f g : Tx) : Tx := fun sl st => bnd (f sl st) fun k st1 => if k = true then some (.ok true, st1) else g sl st1
variable {f g : Tx}
theorem dt_not (h : DT G X E a f) : DT G X E (.UnaryOp .Not a pos) (tNotX f) := by
  refine PT.imp (pt_not h) ?_
  rintro σ H Q ⟨m, sl, st, hs, hc, h⟩
  exact ⟨m, sl, st, hs, hc, aft_bnd h fun w st1 x H1 m1 e1 c1 r1 h1 => by cases r1; exact aft_ok h1 c1 rfl⟩
theorem dw_or1 (ha : DT G X E a f) : DW G X E (.BoolOp .Or [a] pos) f := pw_or1 ha
theorem dw_or (ha : DT G X E a f) (hb : DW G X E (.BoolOp .Or (b :: rest) pos) g) : DW G X E (.BoolOp .Or (a :: b :: rest) pos) (tOrX f g) := by
  refine PW.imp (pw_or ha hb) ?_
  rintro σ H Q ⟨m, sl, st, hs, hc, h⟩
  refine ⟨m, sl, st, hs, hc, aft_bnd h fun w st1 x H1 m1 e1 c1 r1 h1 => ?_⟩
  cases r1
  cases w with
  | true => exact aft_ok (v := true) h1 c1 rfl
  | false => exact ⟨m1, sl, st1, hs.ext hc e1, c1, h1⟩
theorem DW.dt (h : DW G X E a f) : DT G X E a f := h.pt
def eChain (g g' : D → D → Option D) (fa fb fc : Ex) : Ex := fun sl st => bnd (fa sl st) fun w1 st1 => bnd (fb sl st1) fun w2 st2 => bnd (lift2 g w1 w2 st2) fun k st3 => match k with
  | .d (.bl b) => if b = true then bnd (fc sl st3) fun w3 st4 => lift2 g' w2 w3 st4 else some (.ok (.d (.bl false)), st3)
  | _ => none
def tBl (f : Ex) : Tx := fun sl st => bnd (f sl st) fun w st1 => match w with
  | .d (.bl k) => some (.ok k, st1)
  | _ => none
theorem dt_val (h : DE G X E e fa) (he : ∀ whole, isTrue e X.env whole = (do let v ← whole; standAt e.pos; holding [v] (truthy v)) := by intro _; rfl) : DT G X E e (tBl fa) := by
  refine PT.imp (pt_val h he) ?_
  rintro σ H Q ⟨m, sl, st, hs, hc, h⟩
  refine ⟨m, sl, st, hs, hc, aft_bnd h fun w st1 x H1 m1 e1 c1 r1 h1 => ?_⟩
  split at h1
  · rename_i k
    exact ⟨k, rp_bl r1, aft_ok h1 c1 rfl⟩
  · exact h1.elim
def eAnd (f g : Ex) : Ex := fun sl st => bnd (f sl st) fun w st1 => match tru w st1 with
  | some b => if b = true then g sl st1 else some (.ok w, st1)
  | none => none
def eOr (f g : Ex) : Ex := fun sl st => bnd (f sl st) fun w st1 => match tru w st1 with
  | some b => if b = true then some (.ok w, st1) else g sl st1
  | none => none
def eNot (f : Ex) : Ex := fun sl st => bnd (f sl st) fun w st1 => match tru w st1 with
  | some k => some (.ok (.d (.bl (!k))), st1)
  | none => none
def eIf (c : Tx) (f g : Ex) : Ex := fun sl st => bnd (c sl st) fun k st1 => if k = true then f sl st1 else g sl st1
theorem de_and (ha : DE G X E a fa) (hb : DE G X E (.BoolOp .And (b :: rest) pos) fb) (hK : X.K = G.K := by rfl) : DE G X E (.BoolOp .And (a :: b :: rest) pos) (eAnd fa fb) := by
  refine PE.imp (pe_andT ha hb) ?_
  rintro σ H Q ⟨m, sl, st, hs, hc, h⟩
  refine ⟨m, sl, st, hs, hc, aft_bnd h fun w st1 x H1 m1 e1 c1 r1 h1 => ?_⟩
  split at h1
  · rename_i b hk
    cases b with
    | true => exact ⟨true, tru_okD c1 r1 hk hK, ⟨m1, sl, st1, hs.ext hc e1, c1, h1⟩⟩
    | false => exact ⟨false, tru_okD c1 r1 hk hK, aft_ok h1 c1 r1⟩
  · exact h1.elim
theorem de_if {t : Tx} (hc : DT G X E c t) (ha : DE G X E a fa) (hb : DE G X E b fb) : DE G X E (.IfExp c a b pos) (eIf t fa fb) := by
  refine PE.imp (pe_ifExp hc ha hb) ?_
  rintro σ H Q ⟨m, sl, st, hs, hc, h⟩
  refine ⟨m, sl, st, hs, hc, aft_bnd h fun w st1 x H1 m1 e1 c1 r1 h1 => ?_⟩
  cases r1
  cases w with
  | true => exact ⟨m1, sl, st1, hs.ext hc e1, c1, h1⟩
  | false => exact ⟨m1, sl, st1, hs.ext hc e1, c1, h1⟩
abbrev Px := Slo → Sto → R (Option Int)
def pNone : Px := fun _ st => some (.ok none, st)
def pSome (f : Ex) : Px := fun sl st => bnd (f sl st) fun w st1 => match w with
  | .d (.int i) => some (.ok (some i), st1)
  | _ => none
abbrev relO : M → Hp → Option Int → Option Int → Prop := fun _ _ v w => v = w
def rP (G : Gx) (E : WX) (f : Px) : TO := fun σ H Q => ∃ m sl st, SL G m H σ sl ∧ CO G m H st ∧ aft G (WE E σ) relO m H (f sl st) Q
theorem PO.imp {X : Cx} {e : Option Expr} {t t' : TO} (h : PO X e t) (hi : ∀ σ H Q, t' σ H Q → t σ H Q) : PO X e t' := ⟨fun pins s σ H Q I q => h.run pins s σ H Q I (hi σ H Q q)⟩
theorem dp_none : PO X none (rP G E pNone) := by
  refine PO.imp po_none ?_
  rintro σ H Q ⟨m, sl, st, hs, hc, h⟩
  exact aft_ok h hc rfl
theorem dp_some (h : DE G X E e fa) : PO X (some e) (rP G E (pSome fa)) := by
  refine PO.imp (po_some h) ?_
  rintro σ H Q ⟨m, sl, st, hs, hc, h⟩
  refine ⟨m, sl, st, hs, hc, aft_bnd h fun w st1 x H1 m1 e1 c1 r1 h1 => ?_⟩
  split at h1
  · rename_i i
    cases r1
    exact ⟨i, rfl, aft_ok h1 c1 rfl⟩
  · exact h1.elim
def eSl (g : D → Option Int → Option Int → Option D) (fa : Ex) (fl fh : Px) : Ex := fun sl st => bnd (fa sl st) fun w st1 => bnd (fl sl st1) fun l st2 => bnd (fh sl st2) fun u st3 => match viewL st3 w with
  | some d => pr st3 (g d l u)
  | none => none
theorem de_slice {g : D → Option Int → Option Int → Option D} {lo hi : Option Expr} {fl fh : Px} {p2 : Pos} (hr : SlP G X g) (he : DE G X E e fa) (hl : PO X lo (rP G E fl)) (hu : PO X hi (rP G E fh)) : DE G X E (.Subscript e (.Slice lo hi none p2) pos) (eSl g fa fl fh) := by
  refine PE.imp (pe_slice hr he hl hu) ?_
  rintro σ H Q ⟨m, sl, st, hs, hc, h⟩
  refine ⟨m, sl, st, hs, hc, aft_bnd h fun w st1 x H1 m1 e1 c1 r1 h1 => ⟨m1, sl, st1, hs.ext hc e1, c1, aft_bnd h1 fun l st2 l' H2 m2 e2 c2 r2 h2 => ?_⟩⟩
  cases r2
  have hs2 := (hs.ext hc e1).ext c1 e2
  refine ⟨m2, sl, st2, hs2, c2, aft_bnd h2 fun u st3 u' H3 m3 e3 c3 r3 h3 => ?_⟩
  cases r3
  split at h3
  · rename_i d hd
    obtain ⟨d', e4, q⟩ := aft_pr c3 h3
    exact ⟨m3, st3, d, d', c3, viewL_ok c3 (RpW.ext c2 e3 (RpW.ext c1 e2 r1)) hd, e4, q⟩
  · exact h3.elim
end
end Dn
namespace Dn
open PySem PySem.Spec PyProof.Rows L2 Ft LamX
inductive Fl where
  | nx | rt (w : W) | bk | ct | ex (c : Str) (fs : List (Str × D))
abbrev RS := Option (Fl × Slo × Sto)
abbrev Sm := Slo → Sto → RS
def aftS (G : Gx) (E : WX) (Z : Ends) (m : M) (H : Hp) (r : RS) : Prop :=
  match r with
  | none => False
  | some (.nx, sl, st) => ∀ σ H' m', Ext m H m' H' → SL G m' H' σ sl → CO G m' H' st → Z.nx σ H'
  | some (.bk, sl, st) => ∀ σ H' m', Ext m H m' H' → SL G m' H' σ sl → CO G m' H' st → Z.bk σ H'
  | some (.ct, sl, st) => ∀ σ H' m', Ext m H m' H' → SL G m' H' σ sl → CO G m' H' st → Z.ct σ H'
  | some (.rt w, _, st) => ∀ v H' m', Ext m H m' H' → CO G m' H' st → RpW G m' H' v w → Z.rt v H'
  | some (.ex c fs, sl, st) => ∀ σ H' m' C d gs, Ext m H m' H' → SL G m' H' σ sl → CO G m' H' st → G.mg c = some (.ref C) → H' d = some (.xd gs) → RpF G m' H' gs fs → E (.ref C) (some d) σ H'
def rS (G : Gx) (E : WX) (f : Sm) : TS := fun Z σ H => ∃ m sl st, SL G m H σ sl ∧ CO G m H st ∧ aftS G E Z m H (f sl st)
abbrev DS (G : Gx) (X : Cx) (E : WX) (s : Stmt) (f : Sm) : Prop := PS X s (rS G E f)
abbrev DSs (G : Gx) (X : Cx) (E : WX) (s : List Stmt) (f : Sm) : Prop := PSs X s (rS G E f)
def stm {α : Type} (r : R α) (sl : Slo) (k : α → Sto → RS) : RS :=
  match r with
  | none => none
  | some (.exc c fs, st) => some (.ex c fs, sl, st)
  | some (.ok a, st) => k a st
@[simp] theorem stm_none {α : Type} (sl : Slo) (k : α → Sto → RS) : stm none sl k = none := rfl
@[simp] theorem stm_ok {α : Type} (a : α) (st : Sto) (sl : Slo) (k : α → Sto → RS) : stm (some (.ok a, st)) sl k = k a st := rfl
@[simp] theorem stm_exc {α : Type} (c : Str) (fs : List (Str × D)) (st : Sto) (sl : Slo) (k : α → Sto → RS) : stm (some (.exc c fs, st)) sl k = some (.ex c fs, sl, st) := rfl
section
variable {G : Gx} {X : Cx} {E : WX} {Z : Ends} {m m1 : M} {H H1 : Hp} {α ν : Type} {rel : M → Hp → ν → α → Prop}
theorem aftS.ext {r : RS} (e : Ext m H m1 H1) (h : aftS G E Z m H r) : aftS G E Z m1 H1 r := by
  match r, h with
  | some (.nx, sl, st), h => exact fun σ H' m' e' => h σ H' m' (e.trans e')
  | some (.bk, sl, st), h => exact fun σ H' m' e' => h σ H' m' (e.trans e')
  | some (.ct, sl, st), h => exact fun σ H' m' e' => h σ H' m' (e.trans e')
  | some (.rt w, sl, st), h => exact fun v H' m' e' => h v H' m' (e.trans e')
  | some (.ex c fs, sl, st), h => exact fun σ H' m' C d gs e' => h σ H' m' C d gs (e.trans e')
theorem aftS_stm {r : R α} {σ : L2.St} {sl : Slo} {st0 : Sto} {k : α → Sto → RS} {Q' : ν → Hp → Prop} (hs : SL G m H σ sl) (hc : CO G m H st0) (h : aftS G E Z m H (stm r sl k))
    (hk : ∀ w st1 v H1 m1, Ext m H m1 H1 → CO G m1 H1 st1 → rel m1 H1 v w → aftS G E Z m1 H1 (k w st1) → Q' v H1) : aft G (WE E σ) rel m H r Q' := by
  match r, h with
  | some (.ok w, st), h => exact fun v H' m' e' c' r' => hk w st v H' m' e' c' r' (aftS.ext e' h)
  | some (.exc c fs, st), h => exact fun C d gs H' m' e' c' g d' f' => h σ H' m' C d gs e' (hs.ext hc e') c' g d' f'
theorem aftS_nx {sl : Slo} {st : Sto} {σ : L2.St} (h : aftS G E Z m H (some (.nx, sl, st))) (s : SL G m H σ sl) (c : CO G m H st) : Z.nx σ H := h σ H m .refl s c
theorem aftS_rt {w : W} {sl : Slo} {st : Sto} {v : V} (h : aftS G E Z m H (some (.rt w, sl, st))) (c : CO G m H st) (r : RpW G m H v w) : Z.rt v H := h v H m .refl c r
def fall (r : RS) (g : Slo → Sto → RS) : RS := match r with
  | some (.nx, sl, st) => g sl st
  | r => r
theorem aftS_fall {r : RS} {g : Sm} {N : L2.St → Hp → Prop} (h : aftS G E Z m H (fall r g)) (hn : ∀ sl st σ H' m', Ext m H m' H' → SL G m' H' σ sl → CO G m' H' st → aftS G E Z m' H' (g sl st) → N σ H') : aftS G E { Z with nx := N } m H r := by
  match r, h with
  | some (.nx, sl, st), h => exact fun σ H' m' e s c => hn sl st σ H' m' e s c (aftS.ext e h)
  | some (.bk, sl, st), h => exact h
  | some (.ct, sl, st), h => exact h
  | some (.rt w, sl, st), h => exact h
  | some (.ex c fs, sl, st), h => exact h
def sSkip : Sm := fun sl st => some (.nx, sl, st)
def sSeq (f g : Sm) : Sm := fun sl st => fall (f sl st) g
def sBreak : Sm := fun sl st => some (.bk, sl, st)
def sCont : Sm := fun sl st => some (.ct, sl, st)
def sExpr (f : Ex) : Sm := fun sl st => stm (f sl st) sl fun _ st1 => some (.nx, sl, st1)
def sRet (f : Ex) : Sm := fun sl st => stm (f sl st) sl fun w st1 => some (.rt w, sl, st1)
def sRetN : Sm := fun sl st => some (.rt (.d .non), sl, st)
def sIf (c : Tx) (f g : Sm) : Sm := fun sl st => stm (c sl st) sl fun k st1 => if k = true then f sl st1 else g sl st1
def sSet (i : Nat) (f : Ex) : Sm := fun sl st => stm (f sl st) sl fun w st1 => some (.nx, sl.set i (some w), st1)
def sPar (i j : Nat) (f : Ax) : Sm := fun sl st => stm (f sl st) sl fun ws st1 => match ws with
  | [a, b] => some (.nx, (sl.set i (some a)).set j (some b), st1)
  | _ => none
variable {st : Stmt} {rest : List Stmt} {f g : Sm} {fe : Ex} {fr : Ax} {e : Expr} {pos : Pos}
theorem dss_nil : DSs G X E [] sSkip := by
  refine PSs.imp pss_nil ?_
  rintro D σ H ⟨m, sl, st, hs, hc, h⟩
  exact aftS_nx h hs hc
theorem dss_cons (h1 : DS G X E st f) (h2 : DSs G X E rest g) : DSs G X E (st :: rest) (sSeq f g) := by
  refine PSs.imp (pss_cons h1 h2) ?_
  rintro D σ H ⟨m, sl, st, hs, hc, h⟩
  exact ⟨m, sl, st, hs, hc, aftS_fall h fun sl' st' σ' H' m' e s c q => ⟨m', sl', st', s, c, q⟩⟩
theorem dss_one (h1 : DS G X E st f) : DSs G X E [st] f := pss_one h1
theorem ds_ret (he : DE G X E e fe) : DS G X E (.Return (some e) pos) (sRet fe) := by
  refine PS.imp (ps_ret he) ?_
  rintro D σ H ⟨m, sl, st, hs, hc, h⟩
  exact ⟨m, sl, st, hs, hc, aftS_stm hs hc h fun w st1 v H1 m1 e1 c1 r1 h1 => aftS_rt h1 c1 r1⟩
theorem ds_if {c : Expr} {a b : List Stmt} {tc : Tx} (hc : DT G X E c tc) (ha : DSs G X E a f) (hb : DSs G X E b g) : DS G X E (.If c a b pos) (sIf tc f g) := by
  refine PS.imp (ps_if hc ha hb) ?_
  rintro D σ H ⟨m, sl, st, hs, hc, h⟩
  refine ⟨m, sl, st, hs, hc, aftS_stm hs hc h fun w st1 v H1 m1 e1 c1 r1 h1 => ?_⟩
  cases r1
  cases w with
  | true => exact ⟨m1, sl, st1, hs.ext hc e1, c1, h1⟩
  | false => exact ⟨m1, sl, st1, hs.ext hc e1, c1, h1⟩
theorem asg_name {i : Nat} {D : Ends} {σ : L2.St} {H : Hp} (h : rS G E (sSet i fe) D σ H) : tAsg (rE G E fe) (gName i) D σ H := by
  obtain ⟨m, sl, st, hs, hc, h⟩ := h
  exact ⟨m, sl, st, hs, hc, aftS_stm hs hc h fun w st1 v H1 m1 e1 c1 r1 h1 => aftS_nx h1 ((hs.ext hc e1).set r1) c1⟩
theorem ds_set {i : Nat} {x : Str} {pos' : Pos} (hN : X.N.Nodup) (hi : X.N[i]? = some x) (hx : Loc X.env.scope x) (he : DE G X E e fe) (hs : swapsWith e (some (.Name x pos')) pos.line X.env = pure false := by rfl)
    (hf : X.fn x = true ∨ X.env.scope.names.lookup x = some .local := by first | exact .inl rfl | exact .inr rfl | assumption) : DS G X E (.Assign [.Name x pos'] e pos) (sSet i fe) :=
  PS.imp (ps_set hN hi hx he hs hf) fun D σ H h => asg_name h
theorem ds_par {i j : Nat} {x y : Str} {a b : Expr} {px py pt : Pos} {kt k2 pt2} (hc : X.calm = true) (hN : X.N.Nodup) (hi : X.N[i]? = some x) (hj : X.N[j]? = some y) (hij : i ≠ j)
    (hx : X.env.scope.names.lookup x = some .local) (hy : X.env.scope.names.lookup y = some .local) (ha : DA G X E [a, b] fr)
    (hw : swappedStores [.Tuple [.Name x px, .Name y py] kt pt] (.Tuple [a, b] k2 pt2) X.env = pure (some [x, y]))
    (hs : swapsWithSole [.Tuple [.Name x px, .Name y py] kt pt] (.Tuple [a, b] k2 pt2) pos.line X.env = pure false := by rfl) :
    DS G X E (.Assign [.Tuple [.Name x px, .Name y py] kt pt] (.Tuple [a, b] k2 pt2) pos) (sPar i j fr) := by
  refine PS.imp (ps_par hc hN hi hj hij hx hy ha hw hs) ?_
  rintro D σ H ⟨m, sl, st, hs, hc, h⟩
  refine ⟨m, sl, st, hs, hc, aftS_stm hs hc h fun ws st1 vs H1 m1 e1 c1 r1 h1 => ?_⟩
  split at h1
  · rename_i a b
    cases r1 with
    | @cons v1 vr _ _ q1 r2 =>
      cases r2 with
      | @cons v2 _ _ _ q2 r3 =>
        cases r3
        exact ⟨v1, v2, rfl, aftS_nx h1 (((hs.ext hc e1).set q1).set q2) c1⟩
  · exact h1.elim
abbrev Tg := W → Slo → Option Slo
def Off (vs : List Nat) (σ σ' : L2.St) : Prop := σ'.length = σ.length ∧ ∀ j, j ∉ vs → σ'[j]? = σ[j]?
def rG (G : Gx) (vs : List Nat) (g : Tg) : TG := fun v σ H Q => ∃ m sl st w sl', SL G m H σ sl ∧ CO G m H st ∧ RpW G m H v w ∧ g w sl = some sl' ∧ ∀ σ', SL G m H σ' sl' → Off vs σ σ' → Q σ' H
abbrev DG (G : Gx) (X : Cx) (e : Expr) (vs : List Nat) (g : Tg) : Prop := PG X e (rG G vs g)
theorem PG.imp {X : Cx} {e : Expr} {t t' : TG} (h : PG X e t) (hi : ∀ v σ H Q, t' v σ H Q → t v σ H Q) : PG X e t' := ⟨fun pins s σ H v u Q I r q => h.run pins s σ H v u Q I r (hi v σ H Q q)⟩
theorem PGs.imp {X : Cx} {e : List Expr} {t t' : TGs} (h : PGs X e t) (hi : ∀ v σ H Q, t' v σ H Q → t v σ H Q) : PGs X e t' := ⟨fun pins s σ H v u Q I r q => h.run pins s σ H v u Q I r (hi v σ H Q q)⟩
def gN (i : Nat) : Tg := fun w sl => some (sl.set i (some w))
theorem dg_name {i : Nat} {x : Str} (hN : X.N.Nodup) (hi : X.N[i]? = some x) (hx : Loc X.env.scope x) (hf : X.fn x = true ∨ X.env.scope.names.lookup x = some .local := by first | exact .inl rfl | exact .inr rfl | assumption) : DG G X (.Name x pos) [i] (gN i) := by
  refine PG.imp (pg_name hN hi hx hf) ?_
  rintro v σ H Q ⟨m, sl, st, w, sl', hs, hc, r, e, h⟩
  cases e
  exact h _ (hs.set r) ⟨List.length_set, fun j hj => List.getElem?_set_ne fun z => hj (by rw [z]; exact List.mem_singleton.mpr rfl)⟩
abbrev Tgs := List D → Slo → Option Slo
def gsNil : Tgs := fun ds sl => match ds with
  | [] => some sl
  | _ => none
def gsCons (g : Tg) (r : Tgs) : Tgs := fun ds sl => match ds with
  | d :: ds => (g (.d d) sl).bind fun sl1 => r ds sl1
  | [] => none
def gT (r : Tgs) : Tg := fun w sl => match w with
  | .d (.tup ds) => r ds sl
  | _ => none
def sAsg (g : Tg) (f : Ex) : Sm := fun sl st => stm (f sl st) sl fun w st1 => match g w sl with
  | some sl1 => some (.nx, sl1, st1)
  | none => none
def lop (r : RS) (g : Slo → Sto → RS) : RS := match r with
  | some (.nx, sl, st) => g sl st
  | some (.ct, sl, st) => g sl st
  | some (.bk, sl, st) => some (.nx, sl, st)
  | r => r
theorem aftS_lop {r : RS} {g : Sm} {N : L2.St → Hp → Prop} (h : aftS G E Z m H (lop r g)) (hn : ∀ sl st σ H' m', Ext m H m' H' → SL G m' H' σ sl → CO G m' H' st → aftS G E Z m' H' (g sl st) → N σ H') : aftS G E { Z with nx := N, ct := N, bk := Z.nx } m H r := by
  match r, h with
  | some (.nx, sl, st), h => exact fun σ H' m' e s c => hn sl st σ H' m' e s c (aftS.ext e h)
  | some (.ct, sl, st), h => exact fun σ H' m' e s c => hn sl st σ H' m' e s c (aftS.ext e h)
  | some (.bk, sl, st), h => exact h
  | some (.rt w, sl, st), h => exact h
  | some (.ex c fs, sl, st), h => exact h
def chkOk : Option (Nat × List D) → Sto → Prop
  | none, _ => True
  | some (n, ds), st => st[n]? = some (.lst ds)
def Walks (G : Gx) (J : It) (m : M) (H : Hp) (items : List D) (chk : Option (Nat × List D)) : Prop :=
  ∀ m' H' st' i, Ext m H m' H' → CO G m' H' st' → chkOk chk st' → (items.length = i → J.stop i H') ∧ ∀ d, items[i]? = some d → J.go i H' ∧ ∀ x H'', J.yld i H' x H'' → Same H' H'' ∧ Rp G m' H'' x d
abbrev Ix := Slo → Sto → R (List D × Option (Nat × List D))
abbrev relI (G : Gx) : M → Hp → It → (List D × Option (Nat × List D)) → Prop := fun m H J w => Walks G J m H w.1 w.2 ∧ w.1.length ≤ lim
def rI (G : Gx) (E : WX) (f : Ix) : TI := fun σ H Q => ∃ m sl st, SL G m H σ sl ∧ CO G m H st ∧ aft G (WE E σ) (relI G) m H (f sl st) Q
abbrev DI (G : Gx) (X : Cx) (E : WX) (tg e : Expr) (f : Ix) : Prop := PI X tg e (rI G E f)
theorem PI.imp {X : Cx} {tg e : Expr} {t t' : TI} (h : PI X tg e t) (hi : ∀ σ H Q, t' σ H Q → t σ H Q) : PI X tg e t' := ⟨fun pins s σ H Q I q => h.run pins s σ H Q I (hi σ H Q q)⟩
open Classical in
noncomputable def forL (chk : Option (Nat × List D)) (g : Tg) (body : Sm) : List D → Sm
  | [] => fun sl st => if chkOk chk st then some (.nx, sl, st) else none
  | d :: ds => fun sl st => if chkOk chk st then (match g (.d d) sl with
    | some sl1 => lop (body sl1 st) (forL chk g body ds)
    | none => none) else none
noncomputable def sFor (it : Ix) (g : Tg) (body : Sm) : Sm := fun sl st => stm (it sl st) sl fun w st1 => forL w.2 g body w.1 sl st1
theorem ds_for {tg iter : Expr} {body : List Stmt} {wi : Ix} {gt : Tg} {tb : Sm} (hp : PassesOwn (model X.prog X.w) X.A X.env X.xe) (hc : X.calm = true) {vs : List Nat} (hi : DI G X E tg iter wi) (hg : DG G X tg vs gt) (hb : DSs G X E body tb)
    (hs : ∀ x, foldedSetIterable iter X.env x = pure x := by intro _; rfl) : DS G X E (.For tg iter body [] pos) (sFor wi gt tb) := by
  refine PS.imp (ps_for hp hc hi hg hb hs) ?_
  rintro D σ H ⟨m, sl, st, hs, hc, h⟩
  refine ⟨m, sl, st, hs, hc, aftS_stm hs hc h fun w st1 J H1 m1 e1 c1 wk h1 => ?_⟩
  obtain ⟨items, chk⟩ := w
  replace wk := wk.1
  refine ⟨fun i k σ H => k = items.length - i ∧ i ≤ items.length ∧ ∃ m sl st, Ext m1 H1 m H ∧ SL G m H σ sl ∧ CO G m H st ∧ aftS G E D m H (forL chk gt tb (items.drop i) sl st), ⟨items.length, by simp, Nat.zero_le _, m1, sl, st1, .refl, hs.ext hc e1, c1, h1⟩, ?_⟩
  rintro i k σ2 H2 ⟨rfl, hi, m2, sl2, st2, e2, s2, c2, h2⟩
  by_cases hlt : i < items.length
  · rw [List.drop_eq_getElem_cons hlt] at h2
    simp only [forL] at h2
    split at h2
    · rename_i hchk
      obtain ⟨go, yl⟩ := (wk m2 H2 st2 i e2 c2 hchk).2 items[i] (List.getElem?_eq_getElem hlt)
      refine .inr ⟨go, fun σ H => ∃ m sl st, Ext m1 H1 m H ∧ SL G m H σ sl ∧ CO G m H st ∧ aftS G E D m H (forL chk gt tb (items.drop (i + 1)) sl st), fun σ' H' q => ⟨items.length - (i + 1), by omega, rfl, hlt, q⟩, fun x H3 y => ?_⟩
      obtain ⟨sm, rp⟩ := yl x H3 y
      have e3 := Ext.of_same (m := m2) sm
      split at h2
      · rename_i sl3 hg3
        refine ⟨m2, sl2, st2, .d items[i], sl3, s2.ext c2 e3, c2.same sm, rp, hg3, fun σ' hs' _ => ?_⟩
        refine ⟨m2, sl3, st2, hs', c2.same sm, aftS_lop (aftS.ext e3 h2) fun sl' st' σ' H' m' e s c q => ⟨m', sl', st', (e2.trans e3).trans e, s, c, q⟩⟩
      · exact h2.elim
    · exact h2.elim
  · have e : i = items.length := by omega
    subst e
    rw [List.drop_length] at h2
    simp only [forL] at h2
    split at h2
    · rename_i hchk
      exact .inl ⟨(wk m2 H2 st2 _ e2 c2 hchk).1 rfl, aftS_nx h2 s2 c2⟩
    · exact h2.elim
end
end Dn
namespace Dn
open PySem PySem.Spec PyProof.Rows L2 Ft LamX
section
variable {G : Gx} {X : Cx} {E : WX} {m m' : M} {H H' : Hp} {e a b : Expr} {es : List Expr} {fe fa : Ex} {fr : Ax} {pos p tpos : Pos} {tg : Expr}
theorem RpA.get {vs : List V} {ds : List D} {i : Nat} {x : V} (h : RpA G m H vs ds) (e : vs[i]? = some x) : ∃ d, ds[i]? = some d ∧ Rp G m H x d := by
  induction ds generalizing vs i with
  | nil => cases h; simp at e
  | cons d ds ih =>
    cases h with
    | cons h1 h2 =>
      cases i with
      | zero => cases Option.some.inj e; exact ⟨d, rfl, h1⟩
      | succ i => exact ih h2 e
theorem RpA.at {vs : List V} {ds : List D} {i : Nat} {d : D} (h : RpA G m H vs ds) (e : ds[i]? = some d) : ∃ x, vs[i]? = some x ∧ Rp G m H x d := by
  have hl : i < vs.length := by rw [h.len]; exact (List.getElem?_eq_some_iff.mp e).1
  obtain ⟨d', e', h'⟩ := h.get (List.getElem?_eq_getElem hl)
  rw [e] at e'
  cases e'
  exact ⟨_, List.getElem?_eq_getElem hl, h'⟩
def itL (w : W) (st : Sto) : R (List D × Option (Nat × List D)) := match w with
  | .d (.lst ds) => some (.ok (ds, none), st)
  | .scr ns => some (.ok (ns.map D.int, none), st)
  | .c n => match st[n]? with
    | some (.lst ds) => some (.ok (ds, some (n, ds)), st)
    | _ => none
  | _ => none
def itT (w : W) (st : Sto) : R (List D × Option (Nat × List D)) := match w with
  | .d (.tup ds) => some (.ok (ds, none), st)
  | _ => none
def signs (x : Str) : List D := x.cps.toList.map fun c => D.str ⟨#[c]⟩
def itS (w : W) (st : Sto) : R (List D × Option (Nat × List D)) := match w with
  | .d (.str x) => some (.ok (signs x, none), st)
  | _ => none
def iOf (k : W → Sto → R (List D × Option (Nat × List D))) (f : Ex) : Ix := fun sl st => bnd (f sl st) k
theorem walk_L {K : PySem.W.Frag} {ad : Addr} {ds : List D} {chk : Option (Nat × List D)} (h : ∀ m' H' st', Ext m H m' H' → CO G m' H' st' → chkOk chk st' → ∃ xs, SqL K H' ad xs ∧ RpA G m' H' xs ds) : Walks G (Itl K ad) m H ds chk := by
  intro m' H' st' i e c hk
  obtain ⟨xs, h1, h2⟩ := h m' H' st' e c hk
  refine ⟨fun hi => ⟨xs, h1, by rw [h2.len, hi]; exact Nat.le_refl _⟩, fun d hd => ?_⟩
  obtain ⟨x, hx, rx⟩ := h2.at hd
  refine ⟨⟨xs, x, h1, hx⟩, fun y H'' q => ?_⟩
  obtain ⟨rfl, q⟩ := q
  have z := q xs h1
  rw [hx] at z
  cases z
  exact ⟨fun _ _ h => h, rx⟩
theorem walk_T {K : PySem.W.Frag} {ad : Addr} {xs : List V} {ds : List D} {st : Sto} (c : CO G m H st) (h : H ad = some (.tup xs)) (r : RpA G m H xs ds) : Walks G (Itt K ad) m H ds none := by
  intro m' H' st' i e c' hk
  have h' : H' ad = some (.tup xs) := e.keep _ _ (c.tup_nm h) (by intro _ z; cases z) h
  have r' := r.ext c e
  refine ⟨fun hi => ⟨xs, .inl (.inl h'), by rw [r.len, hi]; exact Nat.le_refl _⟩, fun d hd => ?_⟩
  obtain ⟨x, hx, rx⟩ := r'.at hd
  refine ⟨⟨xs, x, .inl (.inl h'), hx⟩, fun y H'' q => ?_⟩
  obtain ⟨rfl, q⟩ := q
  have z := q xs (.inl (.inl h'))
  rw [hx] at z
  cases z
  exact ⟨fun _ _ h => h, rx⟩
theorem di_tup (he : DE G X E e fe) : DI G X E tg e (iOf itT fe) := by
  refine PI.imp (pi_tup he) ?_
  rintro σ H Q ⟨m, sl, st, hs, hc, h⟩
  refine ⟨m, sl, st, hs, hc, aft_bnd h fun w st1 v H1 m1 e1 c1 r1 h1 => ?_⟩
  unfold itT at h1
  split at h1
  · rename_i ds
    cases r1 with
    | @tup ad xs _ q0 q1 q2 => exact ⟨ad, rfl, ⟨xs, .inl (.inl q1)⟩, aft_ok (v := Itt X.K ad) h1 c1 ⟨walk_T c1 q1 q2, q0⟩⟩
  · exact h1.elim
theorem cell_at {st : Sto} {n : Nat} {ad : Addr} {ds : List D} (c : CO G m H st) (ha : m.c[n]? = some ad) (hs : st[n]? = some (.lst ds)) : ∃ xs, H ad = some (.lst xs) ∧ RpA G m H xs ds := (c.at_ n ad _ ha hs).2
theorem cell_len {st : Sto} {n : Nat} {ad : Addr} {ds : List D} (c : CO G m H st) (ha : m.c[n]? = some ad) (hs : st[n]? = some (.lst ds)) : ds.length ≤ lim := (c.at_ n ad _ ha hs).1
theorem ext_ix {n : Nat} {ad : Addr} (e : Ext m H m' H') (ha : m.c[n]? = some ad) : m'.c[n]? = some ad := by
  obtain ⟨l, el, _⟩ := e.new
  rw [el, List.getElem?_append_left (List.getElem?_eq_some_iff.mp ha).1]
  exact ha
theorem itL_ok {st : Sto} {v : V} {w : W} {E' : XK} {Q : It → Hp → Prop} (hK : X.K = G.K) (c : CO G m H st) (r : RpW G m H v w) (h : aft G E' (relI G) m H (itL w st) Q) : ∃ ad, v = .ref ad ∧ (∃ xs, SqL X.K H ad xs) ∧ Q (Itl X.K ad) H ∧ Walks G (Itl X.K ad) m H ((itL w st).elim [] fun z => match z.1 with | .ok q => q.1 | _ => []) ((itL w st).elim none fun z => match z.1 with | .ok q => q.2 | _ => none) := by
  rw [hK]
  unfold itL at h ⊢
  split at h
  · rename_i ds
    cases r with
    | @lst ad xs _ q0 q1 q2 q3 =>
      have wk : Walks G (Itl G.K ad) m H ds none := walk_L fun m' H' st' e c' _ => ⟨xs, .inl (.inl (e.keep _ _ (nall q2) nt_lst q1)), q3.ext c e⟩
      exact ⟨ad, rfl, ⟨xs, .inl (.inl q1)⟩, aft_ok (v := Itl G.K ad) h c ⟨wk, q0⟩, wk⟩
  · rename_i ns
    obtain ⟨ad, rfl, q0, q1⟩ := r
    have wk : Walks G (Itl G.K ad) m H (ns.map D.int) none := walk_L fun m' H' st' e c' _ => ⟨ns.map V.int, (q1.ext c e).sq, RpA.ints ns⟩
    exact ⟨ad, rfl, ⟨_, q1.sq⟩, aft_ok (v := Itl G.K ad) h c ⟨wk, by rw [List.length_map]; exact q0⟩, wk⟩
  · rename_i n
    obtain ⟨ad, q1, rfl⟩ := r
    split at h
    · rename_i ds hs
      have wk : Walks G (Itl G.K ad) m H ds (some (n, ds)) := walk_L fun m' H' st' e c' hk => by
        obtain ⟨xs, z1, z2⟩ := cell_at c' (ext_ix e q1) hk
        exact ⟨xs, .inl (.inl z1), z2⟩
      obtain ⟨xs, z1, z2⟩ := cell_at c q1 hs
      exact ⟨ad, rfl, ⟨xs, .inl (.inl z1)⟩, aft_ok (v := Itl G.K ad) h c ⟨wk, cell_len c q1 hs⟩, wk⟩
    · exact h.elim
  · exact h.elim
theorem di_list (he : DE G X E e fe) (hK : X.K = G.K := by rfl) : DI G X E tg e (iOf itL fe) := by
  refine PI.imp (pi_list he) ?_
  rintro σ H Q ⟨m, sl, st, hs, hc, h⟩
  refine ⟨m, sl, st, hs, hc, aft_bnd h fun w st1 v H1 m1 e1 c1 r1 h1 => ?_⟩
  obtain ⟨ad, h2, h3, h4, _⟩ := itL_ok hK c1 r1 h1
  exact ⟨ad, h2, h3, h4⟩
theorem di_str (he : DE G X E e fe) : DI G X E tg e (iOf itS fe) := by
  refine PI.imp (pi_str he) ?_
  rintro σ H Q ⟨m, sl, st, hs, hc, h⟩
  refine ⟨m, sl, st, hs, hc, aft_bnd h fun w st1 v H1 m1 e1 c1 r1 h1 => ?_⟩
  unfold itS at h1
  split at h1
  · rename_i x
    obtain _ | _ | _ | ⟨_, hxl⟩ := r1
    refine ⟨x, rfl, aft_ok (v := Its x) h1 c1 ⟨fun m' H' st' i e c hk => ⟨fun hi => ?_, fun d hd => ?_⟩, by unfold signs; rw [List.length_map, Array.length_toList]; exact hxl⟩⟩
    · have z : (signs x).length = i := hi
      unfold signs at z
      rw [List.length_map, Array.length_toList] at z
      exact Nat.le_of_eq z
    · unfold signs at hd
      rw [List.getElem?_map, Option.map_eq_some_iff] at hd
      obtain ⟨c0, h2, rfl⟩ := hd
      have h3 : x.cps[i]? = some c0 := by rw [← h2]; simp
      refine ⟨(Array.getElem?_eq_some_iff.mp h3).1, fun y H'' q => ?_⟩
      obtain ⟨rfl, c2, h4, rfl⟩ := q
      rw [h3] at h4
      cases h4
      exact ⟨fun _ _ h => h, .str _ (by show 1 ≤ lim; decide)⟩
  · exact h1.elim
def rng (lo : Int) (n : Nat) : List D := (List.range n).map fun (i : Nat) => D.int (lo + (i : Int))
def iRange1 (f : Ax) : Ix := fun sl st => bnd (f sl st) fun ws st1 => match ws with
  | [.d (.int j)] => if -(2 ^ 62) ≤ j ∧ j ≤ 100000 then some (.ok (rng 0 j.toNat, none), st1) else none
  | _ => none
def iRange2 (f : Ax) : Ix := fun sl st => bnd (f sl st) fun ws st1 => match ws with
  | [.d (.int i), .d (.int j)] => if -(2 ^ 62) ≤ i ∧ i < 2 ^ 62 ∧ -(2 ^ 62) ≤ j ∧ j < 2 ^ 62 ∧ j - i ≤ 100000 then some (.ok (rng i (j - i).toNat, none), st1) else none
  | _ => none
theorem rng_len (lo : Int) (n : Nat) : (rng lo n).length = n := by unfold rng; rw [List.length_map, List.length_range]
theorem walk_rng {lo : Int} {n : Nat} : Walks G (Itr lo n) m H (rng lo n) none := by
  intro m' H' st' i e c hk
  refine ⟨fun hi => ?_, fun d hd => ?_⟩
  · rw [rng_len] at hi
    exact Nat.le_of_eq hi
  · unfold rng at hd
    rw [List.getElem?_map, Option.map_eq_some_iff] at hd
    obtain ⟨j, h2, rfl⟩ := hd
    have hl : i < n := by
      have := (List.getElem?_eq_some_iff.mp h2).1
      rwa [List.length_range] at this
    rw [List.getElem?_range hl] at h2
    cases h2
    refine ⟨hl, fun y H'' q => ?_⟩
    obtain ⟨rfl, rfl⟩ := q
    exact ⟨fun _ _ h => h, .int _⟩
theorem di_range1 (hg : Gl X "range") (hm : X.mg "range" = none) (ha : DA G X E [a] fr) (hs : starEach [a] X.env = [(false, eval a X.env)] := by rfl) : DI G X E tg (.Call (.Name "range" p) [a] [] pos) (iRange1 fr) := by
  refine PI.imp (pi_range1 hg hm ha hs) ?_
  rintro σ H Q ⟨m, sl, st, hs, hc, h⟩
  refine ⟨m, sl, st, hs, hc, aft_bnd h fun w st1 v H1 m1 e1 c1 r1 h1 => ?_⟩
  split at h1
  · rename_i j
    split at h1
    · rename_i hj
      cases r1 with
      | cons q1 q2 =>
        cases q1
        cases q2
        exact ⟨j, rfl, hj.1, by omega, aft_ok (v := Itr 0 j.toNat) h1 c1 ⟨walk_rng, by rw [rng_len]; unfold lim; omega⟩⟩
    · exact h1.elim
  · exact h1.elim
def enum (ds : List D) : List D := ds.zipIdx.map fun p => D.tup [.int (p.2 : Nat), p.1]
def iEnumT (f : Ax) : Ix := fun sl st => bnd (f sl st) fun ws st1 => match ws with
  | [.d (.tup ds)] => some (.ok (enum ds, none), st1)
  | _ => none
end
end Dn
namespace Dn
open PySem PySem.Spec PyProof.Rows L2 Ft LamX
def wipeW (sl : Slo) : List Nat → Slo
  | [] => sl
  | v :: vs => (wipeW sl vs).set v none
section
variable {G : Gx} {X : Cx} {E : WX} {m m' : M} {H H' : Hp}
theorem SL.wipe {σ : L2.St} {sl : Slo} (h : SL G m H σ sl) : ∀ vs, SL G m H (wipe σ vs) (wipeW sl vs)
  | [] => h
  | v :: vs => by
    have ih := SL.wipe h vs
    refine ⟨by rw [L2.wipe, wipeW, List.length_set, List.length_set]; exact ih.len, fun i w e => ?_⟩
    rw [wipeW] at e
    by_cases c : v = i
    · subst c
      have hl : v < (wipeW sl vs).length := by
        have := (List.getElem?_eq_some_iff.mp e).1
        rwa [List.length_set] at this
      rw [List.getElem?_set_self hl] at e
      cases e
    · rw [List.getElem?_set_ne c] at e
      obtain ⟨v', h1, h2⟩ := ih.at_ i w e
      exact ⟨v', by rw [L2.wipe, List.getElem?_set_ne c]; exact h1, h2⟩
theorem wipe_at {σ : L2.St} {i : Nat} : ∀ {vs : List Nat}, (wipe σ vs)[i]? = if i ∈ vs then σ[i]?.map fun _ => none else σ[i]?
  | [] => by simp [wipe]
  | v :: vs => by
    rw [wipe]
    by_cases c : v = i
    · subst c
      rw [if_pos List.mem_cons_self]
      by_cases hl : v < (wipe σ vs).length
      · rw [List.getElem?_set_self hl]
        rw [wipe_length] at hl
        rw [List.getElem?_eq_getElem hl]
        rfl
      · rw [List.getElem?_eq_none (by rw [List.length_set]; omega)]
        rw [wipe_length] at hl
        rw [List.getElem?_eq_none (by omega)]
        rfl
    · rw [List.getElem?_set_ne c, wipe_at]
      by_cases z : i ∈ vs
      · rw [if_pos z, if_pos (List.mem_cons_of_mem _ z)]
      · rw [if_neg z, if_neg fun y => (List.mem_cons.mp y).elim (fun e => c e.symm) z]
theorem wipe_off {σ σ' : L2.St} {vs ws : List Nat} (o : Off ws (wipe σ vs) σ') (h : ∀ i ∈ ws, i ∈ vs) : wipe σ' vs = wipe σ vs := by
  apply List.ext_getElem?
  intro i
  rw [wipe_at]
  by_cases z : i ∈ vs
  · rw [if_pos z, wipe_at, if_pos z]
    have l := o.1
    rw [wipe_length] at l
    by_cases hl : i < σ.length
    · rw [List.getElem?_eq_getElem (by omega), List.getElem?_eq_getElem hl]
      rfl
    · rw [List.getElem?_eq_none (by omega), List.getElem?_eq_none (by omega)]
  · rw [if_neg z]
    exact o.2 i fun y => z (h i y)
abbrev WF : WX := fun _ _ _ _ => False
def noX {α β : Type} (r : R α) (k : α → Sto → R β) : R β := match r with
  | some (.ok a, st) => k a st
  | _ => none
@[simp] theorem noX_ok {α β : Type} (a : α) (st : Sto) (k : α → Sto → R β) : noX (some (.ok a, st)) k = k a st := rfl
open Classical in
noncomputable def lcL (chk : Option (Nat × List D)) (g : Tg) (tt : Tx) (fe : Ex) (sl : Slo) : List D → List D → Sto → R (List D)
  | [], acc, st => if chkOk chk st then some (.ok acc, st) else none
  | d :: ds, acc, st => if chkOk chk st then (match g (.d d) sl with
    | some sl1 => noX (tt sl1 st) fun b st1 => if b = true then noX (fe sl1 st1) fun w st2 => (match w with
        | .d x => lcL chk g tt fe sl ds (acc ++ [x]) st2
        | _ => none) else lcL chk g tt fe sl ds acc st1
    | none => none) else none
noncomputable def lcRun (it : Ix) (g : Tg) (tt : Tx) (fe : Ex) (vs : List Nat) (sl : Slo) (st : Sto) : R (List D) :=
  bnd (it sl st) fun w st1 => lcL w.2 g tt fe (wipeW sl vs) w.1 [] st1
noncomputable def eLc (it : Ix) (g : Tg) (tt : Tx) (fe : Ex) (vs : List Nat) : Ex := fun sl st => bnd (lcRun it g tt fe vs sl st) fun acc st2 => some (.ok (.d (.lst acc)), st2)
noncomputable def eLcC (it : Ix) (g : Tg) (tt : Tx) (fe : Ex) (vs : List Nat) : Ex := fun sl st => bnd (lcRun it g tt fe vs sl st) fun acc st2 => some (.ok (.c st2.length), st2 ++ [.lst acc])
theorem lcL_exc {chk : Option (Nat × List D)} {g : Tg} {tt : Tx} {fe : Ex} {sl : Slo} {c : Str} {fs : List (Str × D)} {st' : Sto} : ∀ {ds acc : List D} {st : Sto}, lcL chk g tt fe sl ds acc st ≠ some (.exc c fs, st')
  | [], acc, st => by
    rw [lcL]
    split <;> intro z <;> cases z
  | d :: ds, acc, st => by
    rw [lcL]
    split
    · split
      · rename_i sl1 _
        cases h1 : tt sl1 st with
        | none => intro z; cases z
        | some r1 =>
          obtain ⟨o1, st1⟩ := r1
          cases o1 with
          | exc _ _ => intro z; cases z
          | ok b =>
            rw [noX_ok]
            split
            · cases h2 : fe sl1 st1 with
              | none => intro z; cases z
              | some r2 =>
                obtain ⟨o2, st2⟩ := r2
                cases o2 with
                | exc _ _ => intro z; cases z
                | ok w =>
                  rw [noX_ok]
                  split
                  · exact lcL_exc
                  · intro z; cases z
            · exact lcL_exc
      · intro z; cases z
    · intro z; cases z
theorem ghost_move {Da : Addr} {o : HO} (hD : Da ∈ m.g) {xs : List V} (hx : H Da = some (.lst xs)) :
    (∀ a o', a ∉ m.all → (∀ ps, o' ≠ .tbl ps) → H a = some o' → upd H Da o a = some o') ∧ (∀ a ys, H a = some (.tup ys) → upd H Da o a = some (.tup ys)) := by
  constructor
  · intro a o' n _ h
    rw [upd_ne fun z => n (List.mem_append_right _ (by rw [z]; exact hD))]
    exact h
  · intro a ys h
    rw [upd_ne fun z => by rw [z, hx] at h; cases h]
    exact h
theorem Rp.ghost {Da : Addr} {o : HO} (hD : Da ∈ m.g) {xs : List V} (hx : H Da = some (.lst xs)) {v : V} {d : D} (r : Rp G m H v d) : Rp G m (upd H Da o) v d :=
  r.move (ghost_move hD hx).1 (fun _ _ n _ _ => n) (ghost_move hD hx).2
theorem RpA.ghost {Da : Addr} {o : HO} (hD : Da ∈ m.g) {xs : List V} (hx : H Da = some (.lst xs)) {v : List V} {d : List D} (r : RpA G m H v d) : RpA G m (upd H Da o) v d :=
  r.move (ghost_move hD hx).1 (fun _ _ n _ _ => n) (ghost_move hD hx).2
theorem RpW.ghost {Da : Addr} {o : HO} {st : Sto} (c : CO G m H st) (hD : Da ∈ m.g) {xs : List V} (hx : H Da = some (.lst xs)) {v : V} {w : W} (r : RpW G m H v w) : RpW G m (upd H Da o) v w := by
  cases w with
  | d x => exact Rp.ghost hD hx r
  | c n => exact r
  | scr ns =>
    obtain ⟨a, rfl, l, h⟩ := r
    refine ⟨a, rfl, l, ?_⟩
    rcases h with ⟨h, n⟩ | ⟨o', h⟩ | h
    · exact .inl ⟨(ghost_move hD hx).1 a _ n nt_lst h, n⟩
    · refine .inr (.inl ⟨o', ?_⟩)
      rw [upd_ne fun z => by rw [z, hx] at h; cases h]
      exact h
    · exact .inr (.inr h)
  | t l =>
    obtain ⟨a, xs', rfl, hl, h, r⟩ := r
    refine ⟨a, xs', rfl, hl, (ghost_move hD hx).2 a xs' h, ?_⟩
    clear h hl
    induction r with
    | nil => exact .nil
    | @cons v vs w ws r1 _ ih =>
      refine .cons ?_ ih
      cases w with
      | d x => exact Rp.ghost hD hx r1
      | c n => exact r1
theorem CO.ghost {Da : Addr} {st : Sto} {ys : List V} (c : CO G m H st) (hD : Da ∈ m.g) (hc : Da ∉ m.c) {xs : List V} (hx : H Da = some (.lst xs)) : CO G m (upd H Da (.lst ys)) st := by
  refine ⟨c.len, c.nd, fun i a cl h1 h2 => ?_, fun p hp => ?_, fun a ha => ?_⟩
  · have q := c.at_ i a cl h1 h2
    have ne : a ≠ Da := fun z => hc (z ▸ List.mem_of_getElem? h1)
    cases cl with
    | lst ds => obtain ⟨l, xs, q1, q2⟩ := q; exact ⟨l, xs, by rw [upd_ne ne]; exact q1, q2.ghost hD hx⟩
    | ins cc gs => obtain ⟨C, dx, fs, q1, q2, q3⟩ := q; exact ⟨C, dx, fs, q1, by rw [upd_ne ne]; exact q2, q3.move (ghost_move hD hx).1 (fun _ _ n _ _ => n) (ghost_move hD hx).2⟩
    | dn kvs => obtain ⟨l, l2, xs, vs, q1, q2, q3, q4, q5, q6, q7⟩ := q; exact ⟨l, l2, xs, vs, by rw [upd_ne ne]; exact q1, q2, q3, q4, q5, q6.ghost hD hx, q7.ghost hD hx⟩
    | dk kvs => obtain ⟨l, vs, q1, q2⟩ := q; exact ⟨l, vs, by rw [upd_ne ne]; exact q1, q2.ghost hD hx⟩
  · obtain ⟨ps, q, r1, r2⟩ := c.tabs p hp
    refine ⟨ps, ?_, r1, fun pos cv h => ?_⟩
    · rw [upd_ne fun z => by rw [z, hx] at q; cases q]; exact q
    · obtain ⟨c', e1, e2⟩ := r2 pos cv h
      refine ⟨c', e1, ?_⟩
      rw [upd_ne fun z => by rw [z, hx] at e2; cases e2]; exact e2
  · by_cases z : a = Da
    · rw [z]; intro y; exact y.no upd_same nt_lst
    · intro y; exact c.gh a ha fun o e => y o (by rw [upd_ne z]; exact e)
theorem SL.ghost {Da : Addr} {o : HO} {st : Sto} {σ : L2.St} {sl : Slo} (c : CO G m H st) (s : SL G m H σ sl) (hD : Da ∈ m.g) {xs : List V} (hx : H Da = some (.lst xs)) : SL G m (upd H Da o) σ sl :=
  ⟨s.len, fun i w e => let ⟨v, h1, h2⟩ := s.at_ i w e; ⟨v, h1, RpW.ghost c hD hx h2⟩⟩
theorem RpA.snoc {vs : List V} {ds : List D} {v : V} {d : D} (h : RpA G m H vs ds) (r : Rp G m H v d) : RpA G m H (vs ++ [v]) (ds ++ [d]) := by
  induction ds generalizing vs with
  | nil => cases h; exact .cons r .nil
  | cons x ds ih => cases h with | cons h1 h2 => exact .cons h1 (ih h2)
def relG (G : Gx) (m : M) (H : Hp) : M → Hp → V → List D → Prop := fun m' H' v acc => ∃ a xs, v = V.ref a ∧ H' a = some (.lst xs) ∧ a ∈ m'.g ∧ a ∉ m'.c ∧ Fr H a ∧ acc.length ≤ lim ∧ RpA G m' H' xs acc
theorem lc_ok {it : Ix} {g : Tg} {tt : Tx} {fe : Ex} {vs ws : List Nat} (hv : ∀ i ∈ ws, i ∈ vs) {σ : L2.St} {H : Hp} {Q : VK} {m : M} {sl : Slo} {st : Sto} (hs : SL G m H σ sl) (hc : CO G m H st)
    (h : aft G (WE E σ) (relG G m H) m H (lcRun it g tt fe vs sl st) Q) :
    tLc (rI G E it) (rG G ws g) (rT G WF tt) (rE G WF fe) vs σ H Q := by
  refine ⟨m, sl, st, hs, hc, aft_bnd h fun w st1 J H1 m1 e1 c1 wk h1 Da nD => ?_⟩
  obtain ⟨items, chk⟩ := w
  obtain ⟨wk, hl⟩ := wk
  have hl : items.length ≤ lim := hl
  ·
    cases hr : lcL chk g tt fe (wipeW sl vs) items [] st1 with
    | none => rw [hr] at h1; exact h1.elim
    | some r =>
      obtain ⟨r, stF⟩ := r
      cases r with
      | exc c fs => exact absurd hr lcL_exc
      | ok accF =>
        rw [hr] at h1
        have nDa := c1.new_na (.none nD)
        have hs1 := hs.ext hc e1
        refine ⟨fun i k H2 => k = items.length - i ∧ i ≤ items.length ∧ ∃ (c2 : List Addr) (st2 : Sto) (acc : List D) (xs : List V), Ext m1 H1 ⟨c2, Da :: m1.g⟩ H2 ∧ Da ∉ c2 ∧ CO G ⟨c2, Da :: m1.g⟩ H2 st2 ∧ SL G ⟨c2, Da :: m1.g⟩ H2 (wipe σ vs) (wipeW sl vs) ∧
          H2 Da = some (.lst xs) ∧ RpA G ⟨c2, Da :: m1.g⟩ H2 xs acc ∧ acc.length ≤ i ∧ lcL chk g tt fe (wipeW sl vs) (items.drop i) acc st2 = some (.ok accF, stF), ⟨items.length, by simp, Nat.zero_le _, m1.c, st1, [], [], ?_⟩, ?_⟩
        · have sm := same_new (o := .lst []) nD
          have mv : ∀ a (o : HO), a ∉ m1.all → (∀ ps, o ≠ .tbl ps) → H1 a = some o → a ∉ (M.mk m1.c (Da :: m1.g)).all := fun a o n _ ho z => by
            rcases List.mem_append.mp z with z | z
            · exact n (List.mem_append_left _ z)
            · rcases List.mem_cons.mp z with z | z
              · rw [z, nD] at ho; cases ho
              · exact n (List.mem_append_right _ z)
          refine ⟨⟨⟨[], (List.append_nil _).symm, fun _ h => nomatch h⟩, ⟨fun a h => List.mem_cons_of_mem _ h, fun a h => (List.mem_cons.mp h).elim (fun z => .inr (z ▸ .none nD)) .inl⟩, fun a o n t h => sm a o h, (Ext.of_same (m := m1) sm).dom⟩, fun z => nDa (List.mem_append_left _ z), ⟨c1.len, c1.nd, fun i a cl h1 h2 => ?_, c1.tabs.ext fun b o h => sm b o h, fun a ha => ?_⟩, ?_, upd_same, .nil, Nat.le_refl _, hr⟩
          · have q := c1.at_ i a cl h1 h2
            cases cl with
            | lst ds => obtain ⟨l, xs, q1, q2⟩ := q; exact ⟨l, xs, sm _ _ q1, q2.move (fun _ _ _ _ h => sm _ _ h) mv fun _ _ h => sm _ _ h⟩
            | ins cc gs => obtain ⟨C, dx, fs, q1, q2, q3⟩ := q; exact ⟨C, dx, fs, q1, sm _ _ q2, q3.move (fun _ _ _ _ h => sm _ _ h) mv fun _ _ h => sm _ _ h⟩
            | dn kvs => obtain ⟨l, l2, xs, vs, q1, q2, q3, q4, q5, q6, q7⟩ := q; exact ⟨l, l2, xs, vs, sm _ _ q1, q2, q3, q4, q5, q6.move (fun _ _ _ _ h => sm _ _ h) mv fun _ _ h => sm _ _ h, q7.move (fun _ _ _ _ h => sm _ _ h) mv fun _ _ h => sm _ _ h⟩
            | dk kvs => obtain ⟨l, vs, q1, q2⟩ := q; exact ⟨l, vs, sm _ _ q1, q2.move (fun _ _ _ _ h => sm _ _ h) mv fun _ _ h => sm _ _ h⟩
          · rcases List.mem_cons.mp ha with z | z
            · rw [z]; intro y; exact y.no upd_same nt_lst
            · intro y
              exact c1.gh a z ((Ext.of_same (m := m1) sm).dom a y)
          · have hw := hs1.wipe vs
            refine ⟨hw.len, fun i w e => ?_⟩
            obtain ⟨v, q1, q2⟩ := hw.at_ i w e
            refine ⟨v, q1, ?_⟩
            cases w with
            | d x => exact Rp.move (fun _ _ _ _ h => sm _ _ h) mv (fun _ _ h => sm _ _ h) q2
            | c n => exact q2
            | scr ns =>
              obtain ⟨a, rfl, l, q⟩ := q2
              refine ⟨a, rfl, l, ?_⟩
              rcases q with ⟨q, n⟩ | ⟨o', q⟩ | q
              · exact .inl ⟨sm _ _ q, mv _ _ n nt_lst q⟩
              · exact .inr (.inl ⟨o', sm _ _ q⟩)
              · exact .inr (.inr q)
            | t l =>
              obtain ⟨a, xs, rfl, hl, q, r⟩ := q2
              exact ⟨a, xs, rfl, hl, sm _ _ q, r.mono (fun _ _ r => Rp.move (fun _ _ _ _ h => sm _ _ h) mv (fun _ _ h => sm _ _ h) r) fun _ _ h => h⟩
        · rintro i k H2 ⟨rfl, hi, c2, st2, acc, xs, x2, nc2, co2, s2, hx2, ra2, la2, run2⟩
          by_cases hlt : i < items.length
          · rw [List.drop_eq_getElem_cons hlt] at run2
            simp only [lcL] at run2
            split at run2
            · rename_i hchk
              obtain ⟨go, yl⟩ := (wk _ H2 st2 i x2 co2 hchk).2 items[i] (List.getElem?_eq_getElem hlt)
              refine .inr ⟨go, fun H3 => ∃ (c2 : List Addr) (st2 : Sto) (acc : List D) (xs : List V), Ext m1 H1 ⟨c2, Da :: m1.g⟩ H3 ∧ Da ∉ c2 ∧ CO G ⟨c2, Da :: m1.g⟩ H3 st2 ∧ SL G ⟨c2, Da :: m1.g⟩ H3 (wipe σ vs) (wipeW sl vs) ∧
                H3 Da = some (.lst xs) ∧ RpA G ⟨c2, Da :: m1.g⟩ H3 xs acc ∧ acc.length ≤ i + 1 ∧ lcL chk g tt fe (wipeW sl vs) (items.drop (i + 1)) acc st2 = some (.ok accF, stF), fun H' q => ⟨items.length - (i + 1), by omega, rfl, hlt, q⟩, fun x H3 y => ?_⟩
              obtain ⟨sm, rx⟩ := yl x H3 y
              split at run2
              · rename_i sl1 hg1
                have x3 := Ext.of_same (m := ⟨c2, Da :: m1.g⟩) sm
                refine ⟨⟨c2, Da :: m1.g⟩, wipeW sl vs, st2, .d items[i], sl1, s2.ext co2 x3, co2.same sm, rx, hg1, fun σ2 hs2 off => ⟨wipe_off off hv, ?_⟩⟩
                have co3 := co2.same sm
                have hx3 := sm _ _ hx2
                have ra3 := ra2.same sm
                cases h2 : tt sl1 st2 with
                | none => rw [h2] at run2; cases run2
                | some r2 =>
                  obtain ⟨o2, st3⟩ := r2
                  cases o2 with
                  | exc _ _ => rw [h2] at run2; cases run2
                  | ok b =>
                    rw [h2, noX_ok] at run2
                    refine ⟨⟨c2, Da :: m1.g⟩, sl1, st2, hs2, co3, ?_⟩
                    rw [h2]
                    rintro b' H4 m4 x4 co4 rfl
                    have nd4 : Da ∉ m4.c := x4.nmc nc2 hx3 nt_lst
                    have hx4 := x4.keep _ _ nc2 nt_lst hx3
                    have g4 : Da ∈ m4.g := x4.gh.1 _ List.mem_cons_self
                    have go4 : ∀ {H5 : Hp} {m5 : M}, Ext ⟨c2, Da :: m1.g⟩ H3 m5 H5 → Ext m1 H1 ⟨m5.c, Da :: m1.g⟩ H5 ∧ ∀ a, a ∈ (M.mk m5.c (Da :: m1.g)).all → a ∈ m5.all := fun {H5 m5} x5 => by
                      have xx := (x2.trans x3).trans x5
                      refine ⟨⟨xx.new, ⟨fun a h => List.mem_cons_of_mem _ h, fun a h => (List.mem_cons.mp h).elim (fun z => .inr (z ▸ .none nD)) .inl⟩, xx.keep, xx.dom⟩, fun a z => ?_⟩
                      rcases List.mem_append.mp z with z | z
                      · exact List.mem_append_left _ z
                      · exact List.mem_append_right _ (x5.gh.1 a z)
                    have back : ∀ {H5 : Hp} {m5 : M} {st5 : Sto}, Ext ⟨c2, Da :: m1.g⟩ H3 m5 H5 → CO G m5 H5 st5 → CO G ⟨m5.c, Da :: m1.g⟩ H5 st5 := fun {H5 m5 st5} x5 c5 =>
                      ⟨c5.len, c5.nd, fun i a cl h1 h2 => (c5.at_ i a cl h1 h2).fewer (go4 x5).2, c5.tabs, fun a ha => c5.gh a (x5.gh.1 a ha)⟩
                    have backS : ∀ {H5 : Hp} {m5 : M}, Ext ⟨c2, Da :: m1.g⟩ H3 m5 H5 → SL G ⟨m5.c, Da :: m1.g⟩ H5 (wipe σ vs) (wipeW sl vs) := fun {H5 m5} x5 => by
                      have q := (s2.ext co2 x3).ext co3 x5
                      refine ⟨q.len, fun i w e => ?_⟩
                      obtain ⟨v, q1, q2⟩ := q.at_ i w e
                      refine ⟨v, q1, ?_⟩
                      cases w with
                      | d x => exact Rp.fewer (go4 x5).2 q2
                      | c n => exact q2
                      | scr ns =>
                        obtain ⟨a, rfl, l, q⟩ := q2
                        refine ⟨a, rfl, l, ?_⟩
                        rcases q with ⟨q, n⟩ | q
                        · exact .inl ⟨q, fun z => n ((go4 x5).2 a z)⟩
                        · exact .inr q
                      | t l =>
                        obtain ⟨a, xs, rfl, hl, q, r⟩ := q2
                        exact ⟨a, xs, rfl, hl, q, r.mono (fun _ _ r => Rp.fewer (go4 x5).2 r) fun _ _ h => h⟩
                    cases b' with
                    | false =>
                      rw [if_neg (by decide)] at run2 ⊢
                      exact ⟨m4.c, st3, acc, xs, (go4 x4).1, nd4, back x4 co4, backS x4, hx4, (ra3.ext co3 x4).fewer (go4 x4).2, Nat.le_succ_of_le la2, run2⟩
                    | true =>
                      rw [if_pos rfl] at run2 ⊢
                      cases h5 : fe sl1 st3 with
                      | none => rw [h5] at run2; cases run2
                      | some r5 =>
                        obtain ⟨o5, st5⟩ := r5
                        cases o5 with
                        | exc _ _ => rw [h5] at run2; cases run2
                        | ok w =>
                          rw [h5, noX_ok] at run2
                          refine ⟨m4, sl1, st3, hs2.ext co3 x4, co4, ?_⟩
                          rw [h5]
                          intro y H5 m5 x5 co5 ry
                          have x45 := x4.trans x5
                          have nd5 : Da ∉ m5.c := x5.nmc nd4 hx4 nt_lst
                          have hx5 := x5.keep _ _ nd4 nt_lst hx4
                          have ra5 := (ra3.ext co3 x45).fewer (go4 x45).2
                          split at run2
                          · rename_i xd
                            refine ⟨xs, hx5, ?_, m5.c, st5, acc ++ [xd], xs ++ [y], ?_, nd5, (back x45 co5).ghost List.mem_cons_self nd5 hx5, (backS x45).ghost (back x45 co5) List.mem_cons_self hx5, upd_same, (ra5.snoc (Rp.fewer (go4 x45).2 ry)).ghost List.mem_cons_self hx5, ?_, run2⟩
                            · rw [ra5.len]
                              exact lim_lt (Nat.le_trans la2 (Nat.le_trans (Nat.le_of_lt hlt) hl))
                            · have q := (go4 x45).1
                              refine ⟨q.new, q.gh, fun a o n t h => ?_, fun a h => ?_⟩
                              · rw [upd_ne fun z => by rw [z, nD] at h; cases h]
                                exact q.keep a o n t h
                              · by_cases z : a = Da
                                · rw [z]; exact .none nD
                                · exact q.dom a fun o e => h o (by rw [upd_ne z]; exact e)
                            · rw [List.length_append, List.length_singleton]
                              omega
                          · cases run2
              · cases run2
            · cases run2
          · have e : i = items.length := by omega
            subst e
            rw [List.drop_length] at run2
            simp only [lcL] at run2
            split at run2
            · rename_i hchk
              cases run2
              refine .inl ⟨(wk _ H2 _ _ x2 co2 hchk).1 rfl, ?_⟩
              exact h1 (.ref Da) H2 ⟨c2, Da :: m1.g⟩ x2 co2 ⟨Da, xs, rfl, hx2, List.mem_cons_self, nc2, e1.dom _ (.none nD), Nat.le_trans la2 hl, ra2⟩
            · cases run2
def tYesX : Tx := fun _ st => some (.ok true, st)
theorem PTs.imp {X : Cx} {es : List Expr} {t t' : TT} (h : PTs X es t) (hi : ∀ σ H Q, t' σ H Q → t σ H Q) : PTs X es t' := ⟨fun pins s σ H Q I q => h.run pins s σ H Q I (hi σ H Q q)⟩
theorem dts_nil : PTs X [] (rT G E tYesX) := by
  refine PTs.imp pts_nil ?_
  rintro σ H Q ⟨m, sl, st, hs, hc, h⟩
  exact aft_ok (v := true) h hc rfl
variable {elt tg iter : Expr} {ifs : List Expr} {scope : Scope} {own : List (Str × Nat)} {pos : Pos} {wi : Ix} {g : Tg} {tt : Tx} {te : Ex} {ws : List Nat}
theorem co_sub {m1 m2 : M} {H1 : Hp} {st : Sto} (c : CO G m1 H1 st) (hc : m2.c = m1.c) (hg : ∀ a ∈ m2.g, a ∈ m1.g) : CO G m2 H1 st := by
  refine ⟨by rw [hc]; exact c.len, by rw [hc]; exact c.nd, fun i a cl h1 h2 => (c.at_ i a cl (by rw [← hc]; exact h1) h2).fewer fun b hb => ?_, c.tabs, fun a ha => c.gh a (hg a ha)⟩
  rcases List.mem_append.mp hb with z | z
  · exact List.mem_append_left _ (by rw [← hc]; exact z)
  · exact List.mem_append_right _ (hg b z)
theorem lc_pure {vs : List Nat} {σ : L2.St} {H : Hp} {Q : VK} (hv : ∀ i ∈ ws, i ∈ vs) (h : rE G E (eLc wi g tt te vs) σ H Q) : tLc (rI G E wi) (rG G ws g) (rT G WF tt) (rE G WF te) vs σ H Q := by
  obtain ⟨m, sl, st, hs, hc, h⟩ := h
  unfold eLc at h
  cases hr : lcRun wi g tt te vs sl st with
  | none => rw [hr] at h; exact h.elim
  | some r =>
    obtain ⟨o, stF⟩ := r
    refine lc_ok hv hs hc ?_
    rw [hr] at h ⊢
    cases o with
    | exc c fs => exact h
    | ok acc =>
      rintro v H1 m1 e1 c1 ⟨a, xs, rfl, h2, h3, h4, h5, h0, h6⟩
      have hg : ∀ b ∈ m.g, b ∈ m1.g := e1.gh.1
      have fw : ∀ b, b ∈ (M.mk m1.c m.g).all → b ∈ m1.all := fun b z => (List.mem_append.mp z).elim (List.mem_append_left _) fun z => List.mem_append_right _ (hg b z)
      refine h (.ref a) H1 ⟨m1.c, m.g⟩ ⟨e1.new, ⟨fun _ h => h, fun _ h => .inl h⟩, e1.keep, e1.dom⟩ (co_sub c1 rfl hg) (rpd (.lst h0 h2 (fun z => ?_) (h6.fewer fw)))
      rcases List.mem_append.mp z with z | z
      · exact h4 z
      · exact hc.gh a z h5
theorem de_lc (hc : X.calm = true) (hN : X.N.Nodup) (hi : DI G X E tg iter wi) (ok : BlkOk X.N X.env.scope scope own)
    (hg : ∀ (s : Shared) (H : Hp) (C : Addr) (cl : List (Str × Addr)) (fp : List Addr), DG G (X.blk s H scope (compEnvC scope cl C X.env) fp) tg ws g) (ht : ∀ (s : Shared) (H : Hp) (C : Addr) (cl : List (Str × Addr)) (fp : List Addr), PTs (X.blk s H scope (compEnvC scope cl C X.env) fp) ifs (rT G WF tt))
    (he : ∀ (s : Shared) (H : Hp) (C : Addr) (cl : List (Str × Addr)) (fp : List Addr), DE G (X.blk s H scope (compEnvC scope cl C X.env) fp) WF elt te) (hv : ∀ i ∈ ws, i ∈ own.map (·.2) := by decide) (hs : ∀ x, foldedSetIterable iter X.env x = pure x := by intro _; rfl) :
    DE G X E (.ListComp elt [⟨tg, iter, ifs, 0⟩] scope pos) (eLc wi g tt te (own.map (·.2))) := PE.imp (pe_lc hc hN hi ok hg ht he hs) fun σ H Q h => lc_pure hv h
end
end Dn
namespace Dn
open PySem PySem.Spec PyProof.Rows L2 Ft LamX
abbrev Spec := List W → Sto → R W
def spD (G : Gx) (n : Nat) (spec : Spec) : Sp := fun vs H Q E => ∃ m ws st, RpWs G m H vs ws ∧ CO G m H st ∧ ws.length = n ∧ aft G E (RpW G) m H (spec ws st) Q
def startW (n : Nat) (ws : List W) : Slo := ws.map some ++ List.replicate (n - ws.length) none
def frzI (n : Nat) (st : Sto) : Wi → Option D
  | .d x => some x
  | .c i => if i < n then none else match st[i]? with
    | some (.lst ds) => some (.lst ds)
    | _ => none
def frzL (n : Nat) (st : Sto) : List Wi → Option (List D)
  | [] => some []
  | w :: ws => match frzI n st w, frzL n st ws with
    | some d, some ds => some (d :: ds)
    | _, _ => none
def fin (fr : Bool) (n : Nat) (w : W) (st : Sto) : R W := match w with
  | .d x => some (.ok (.d x), st.take n)
  | .scr ns => some (.ok (.scr ns), st.take n)
  | .c i => if i < n then some (.ok (.c i), st.take n) else match st[i]? with
    | some (.lst ds) => if fr = true then some (.ok (.d (.lst ds)), st.take n) else some (.ok (.c n), st.take n ++ [.lst ds])
    | _ => none
  | .t l => match frzL n st l with
    | some ds => some (.ok (.d (.tup ds)), st.take n)
    | none => none
def runB (fr : Bool) (N : Nat) (f : Sm) (ws : List W) (st : Sto) : R W := match f (startW N ws) st with
  | some (.nx, _, st') => some (.ok (.d .non), st'.take st.length)
  | some (.rt w, _, st') => fin fr st.length w st'
  | some (.ex c fs, _, st') => some (.exc c fs, st'.take st.length)
  | _ => none
section
variable {G : Gx} {m m' : M} {H H' : Hp}
theorem SL.start {vs : List V} {ws : List W} {N : List Str} (h : RpWs G m H vs ws) : SL G m H (L2.start N vs) (startW N.length ws) := by
  refine ⟨?_, fun i w e => ?_⟩
  · unfold L2.start startW
    rw [List.length_append, List.length_append, List.length_map, List.length_map, List.length_replicate, List.length_replicate, h.len]
  · unfold startW at e
    by_cases hi : i < ws.length
    · rw [List.getElem?_append_left (by rw [List.length_map]; exact hi), List.getElem?_map, Option.map_eq_some_iff] at e
      obtain ⟨w', e1, e2⟩ := e
      cases e2
      have : ∀ {vs : List V} {ws : List W} {i : Nat}, RpWs G m H vs ws → ws[i]? = some w → ∃ v, vs[i]? = some v ∧ RpW G m H v w := by
        intro vs ws i h e
        induction h generalizing i with
        | nil => simp at e
        | cons r _ ih =>
          cases i with
          | zero => cases Option.some.inj e; exact ⟨_, rfl, r⟩
          | succ i => exact ih e
      obtain ⟨v, e3, r⟩ := this h e1
      refine ⟨v, ?_, r⟩
      unfold L2.start
      rw [List.getElem?_append_left (by rw [List.length_map, h.len]; exact hi), List.getElem?_map, e3]
      rfl
    · rw [List.getElem?_append_right (by rw [List.length_map]; omega)] at e
      have := List.mem_of_getElem? e
      rw [List.mem_replicate] at this
      exact absurd this.2 (by intro z; cases z)
theorem RpW.fewer (hc : m.c = m'.c.take m.c.length) (h : ∀ a, a ∈ m.all → a ∈ m'.all) {v : V} {w : W} (hw : ∀ n, w ≠ .c n) (ht : ∀ l, w ≠ .t l) (r : RpW G m' H v w) : RpW G m H v w := by
  cases w with
  | d x => exact Rp.fewer h r
  | c n => exact absurd rfl (hw n)
  | scr ns =>
    obtain ⟨a, rfl, l, q⟩ := r
    refine ⟨a, rfl, l, ?_⟩
    rcases q with ⟨q, n⟩ | q
    · exact .inl ⟨q, fun z => n (h a z)⟩
    · exact .inr q
  | t l => exact absurd rfl (ht l)
theorem body_ok {E : XK} {fr : Bool} {N : List Str} {f : Sm} {spec : Spec} {n : Nat} (hb : ∀ ws st r, ws.length = n → spec ws st = some r → runB fr N.length f ws st = some r) {vs : List V} {Q : VK} (h : spD G n spec vs H Q E) :
    rS G (fun cls d _ H => E cls d H) f ⟨fun _ H' => Q .non H', Q, fun _ _ => False, fun _ _ => False⟩ (L2.start N vs) H := by
  obtain ⟨m, ws, st, rw_, hc, hl, h⟩ := h
  cases hr : spec ws st with
  | none => rw [hr] at h; exact h.elim
  | some r =>
    have hb := hb ws st r hl hr
    rw [hr] at h
    refine ⟨m, startW N.length ws, st, SL.start rw_, hc, ?_⟩
    unfold runB at hb
    split at hb
    · rename_i sl st' hf
      rw [hf]
      cases hb
      intro σ H1 m1 e1 s1 c1
      obtain ⟨x1, c2, sub⟩ := e1.cut c1
      rw [hc.len] at c2
      exact h .non H1 m x1 c2 (rpd .non)
    · rename_i w sl st' hf
      rw [hf]
      intro v H1 m1 e1 c1 r1
      obtain ⟨x1, c2, sub⟩ := e1.cut c1
      rw [hc.len] at c2
      cases w with
      | d x => cases hb; exact h v H1 m x1 c2 (rpd (Rp.fewer sub r1))
      | scr ns =>
        cases hb
        obtain ⟨a, rfl, l, q⟩ := r1
        refine h _ H1 m x1 c2 ⟨a, rfl, l, ?_⟩
        rcases q with ⟨q, n⟩ | q
        · exact .inl ⟨q, fun z => n (sub a z)⟩
        · exact .inr q
      | t l =>
        obtain ⟨a, xs, rfl, hll, ha, ri⟩ := r1
        simp only [fin] at hb
        split at hb
        · rename_i ds hs
          cases hb
          have key : ∀ {xs : List V} {l : List Wi} {ds : List D}, RpIs G m1 H1 xs l → frzL st.length st' l = some ds → RpA G m H1 xs ds ∧ ds.length = l.length := by
            intro xs l
            induction l generalizing xs with
            | nil => intro ds r e; cases r; cases e; exact ⟨.nil, rfl⟩
            | cons w l ih =>
              intro ds r e
              cases r with
              | @cons v vs _ _ r1 r2 =>
                unfold frzL at e
                split at e
                · rename_i d ds' e1' e2'
                  cases e
                  obtain ⟨q2, q3⟩ := ih r2 e2'
                  refine ⟨.cons ?_ q2, by simp only [List.length_cons, q3]⟩
                  cases w with
                  | d x => cases e1'; exact Rp.fewer sub r1
                  | c i =>
                    obtain ⟨b, hb, rfl⟩ := r1
                    simp only [frzI] at e1'
                    split at e1'
                    · cases e1'
                    · rename_i hi
                      split at e1'
                      · rename_i es hs2
                        cases e1'
                        obtain ⟨ys, q4, q5⟩ := cell_at c1 hb hs2
                        have q0 := cell_len c1 hb hs2
                        obtain ⟨l2, el, hl'⟩ := e1.new
                        have hni : b ∉ m.c := fun z => by
                          obtain ⟨j, hj, ej⟩ := List.getElem_of_mem z
                          have e2 : m1.c[j]? = some b := by rw [el, List.getElem?_append_left hj, List.getElem?_eq_getElem hj, ej]
                          have := nodup_ixA c1.nd hb e2
                          rw [hc.len] at hj
                          omega
                        have hfr : Fr H b := by
                          have hm : b ∈ m1.c := List.mem_of_getElem? hb
                          rw [el] at hm
                          rcases List.mem_append.mp hm with z | z
                          · exact absurd z hni
                          · exact hl' b z
                        have hna : b ∉ m.all := fun z => by
                          rcases List.mem_append.mp z with z | z
                          · exact hni z
                          · exact hc.gh b z hfr
                        exact .lst q0 q4 hna (q5.fewer sub)
                      · cases e1'
                · cases e
          obtain ⟨q1, q2⟩ := key ri hs
          exact h _ H1 m x1 c2 (rpd (.tup (by omega) ha q1))
        · cases hb
      | c i =>
        obtain ⟨a, ha, rfl⟩ := r1
        obtain ⟨l, el, hl'⟩ := e1.new
        simp only [fin] at hb
        split at hb
        · rename_i hi
          cases hb
          refine h _ H1 m x1 c2 ⟨a, ?_, rfl⟩
          rw [el, List.getElem?_append_left (by rw [hc.len]; exact hi)] at ha
          exact ha
        · rename_i hi
          split at hb
          · rename_i ds hs
            obtain ⟨xs, q1, q2⟩ := cell_at c1 ha hs
            have q0 := cell_len c1 ha hs
            have hni : a ∉ m.c := fun z => by
              obtain ⟨j, hj, ej⟩ := List.getElem_of_mem z
              have e2 : m1.c[j]? = some a := by rw [el, List.getElem?_append_left hj, List.getElem?_eq_getElem hj, ej]
              have := nodup_ixA c1.nd ha e2
              rw [hc.len] at hj
              omega
            have hfr : Fr H a := by
              have hm : a ∈ m1.c := List.mem_of_getElem? ha
              rw [el] at hm
              rcases List.mem_append.mp hm with z | z
              · exact absurd z hni
              · exact hl' a z
            have hna : a ∉ m.all := fun z => by
              rcases List.mem_append.mp z with z | z
              · exact hni z
              · exact hc.gh a z hfr
            split at hb
            · cases hb
              exact h _ H1 m x1 c2 (rpd (.lst q0 q1 hna (q2.fewer sub)))
            · cases hb
              have fw : ∀ b, b ∈ (m.add a).all → b ∈ m1.all := fun b z => by
                rcases List.mem_append.mp z with z | z
                · have z : b ∈ m.c ++ [a] := z
                  rcases List.mem_append.mp z with z | z
                  · exact sub b (List.mem_append_left _ z)
                  · rw [List.mem_singleton.mp z]; exact List.mem_append_left _ (List.mem_of_getElem? ha)
                · exact List.mem_append_right _ (e1.gh.1 b z)
              refine h (.ref a) H1 (m.add a) ⟨⟨[a], rfl, fun b hb => by rw [List.mem_singleton.mp hb]; exact hfr⟩, ⟨fun _ h => h, fun _ h => .inl h⟩, e1.keep, e1.dom⟩ ?_ ⟨a, ?_, rfl⟩
              · refine ⟨by show (m.c ++ [a]).length = _; rw [List.length_append, List.length_append, c2.len]; rfl, ?_, fun j b cl z1 z2 => ?_, c2.tabs, c2.gh⟩
                · exact List.nodup_append.mpr ⟨c2.nd, List.nodup_cons.mpr ⟨List.not_mem_nil, List.nodup_nil⟩, fun x hx y hy => by
                    rw [List.mem_singleton.mp hy]
                    rintro rfl
                    exact hni hx⟩
                · have z1 : (m.c ++ [a])[j]? = some b := z1
                  have lt' : (st'.take st.length).length = m.c.length := c2.len.symm
                  rcases Nat.lt_trichotomy j m.c.length with hj | hj | hj
                  · rw [List.getElem?_append_left hj] at z1
                    rw [List.getElem?_append_left (by omega)] at z2
                    have hjs : j < st.length := by rw [← hc.len]; exact hj
                    rw [List.getElem?_take, if_pos hjs] at z2
                    exact (c1.at_ j b cl (by rw [el, List.getElem?_append_left hj]; exact z1) z2).fewer fw
                  · subst hj
                    rw [List.getElem?_append_right (Nat.le_refl _), Nat.sub_self] at z1
                    rw [List.getElem?_append_right (by omega), lt', Nat.sub_self] at z2
                    cases z1
                    cases z2
                    exact ⟨q0, xs, q1, q2.fewer fw⟩
                  · rw [List.getElem?_append_right (Nat.le_of_lt hj), List.getElem?_eq_none (by simp only [List.length_singleton]; omega)] at z1
                    cases z1
              · show (m.c ++ [a])[_]? = _
                rw [← hc.len, List.getElem?_append_right (Nat.le_refl _), Nat.sub_self]
                rfl
          · cases hb
    · rename_i c fs sl st' hf
      rw [hf]
      cases hb
      intro σ H1 m1 C d gs e1 s1 c1 hg hd hf'
      obtain ⟨x1, c2, sub⟩ := e1.cut c1
      rw [hc.len] at c2
      exact h C d gs H1 m x1 c2 hg hd (hf'.fewer sub)
    · cases hb
end
section
variable {P : Program} {w : World} {K : PySem.W.Frag} {mg : Str → Option Value} {T : List (Addr × Str)} {base : Heap} {x qual : Str} {st : Stmt} {f : Addr} {fd : FuncData} {N ps : List Str} {k : Nat} {spec : Spec}
abbrev cxD (P : Program) (w : World) (K : PySem.W.Frag) (mg : Str → Option Value) (base : Heap) (N : List Str) (qual : Str) (sc : Scope) (f : Addr) (cdv : Value) (A : Around) (outer : List Env) (s : Shared) (H : Hp) (E : XK) : Cx := cxOf (L2.CX P w) P w K mg base N qual sc f cdv A outer s H E
abbrev wx (E : XK) : WX := fun cls d _ H => E cls d H
theorem okDG (fr : Bool) (F : Fun K x qual st f fd) (S : FnScope N ps (defScope st))
    (hb : ∀ (cdv : Value) (A : Around) (outer : List Env) (s : Shared) (H : Hp) (E : XK), A.guards = some [] → Room k (A.deeper (envOfC qual (defScope st) s.heap.objs.size f cdv)) →
      Takes (cxD P w K mg base N qual (defScope st) f cdv A outer s H E) (wx E) →
      PassesOwn (model P w) (cxD P w K mg base N qual (defScope st) f cdv A outer s H E).A (cxD P w K mg base N qual (defScope st) f cdv A outer s H E).env (cxD P w K mg base N qual (defScope st) f cdv A outer s H E).xe →
      ∃ b : Sm, DSs ⟨K, mg, T, w⟩ (cxD P w K mg base N qual (defScope st) f cdv A outer s H E) (wx E) (defBody st) b ∧ ∀ ws st r, ws.length = ps.length → spec ws st = some r → runB fr N.length b ws st = some r) :
    FnG P w K mg base (L2.CX P w) (k + 1) f fd ps (spD ⟨K, mg, T, w⟩ ps.length spec) := by
  refine okGX F S (fun vs H Q E h => ?_) fun cdv A outer s H vs Q E hg hr h => ?_
  · obtain ⟨m, ws, st, r, _, hl, _⟩ := h
    rw [r.len, hl]
  · have tk : Takes (cxD P w K mg base N qual (defScope st) f cdv A outer s H E) (wx E) := takes_of rfl rfl rfl rfl
    obtain ⟨b, d, e⟩ := hb cdv A outer s H E hg hr tk (passes_of rfl)
    exact ⟨_, d, body_ok e h⟩
end
def eFn (spec : Spec) (fa : Ax) : Ex := fun sl st => bnd (fa sl st) fun ws st1 => spec ws st1
section
variable {G : Gx} {X : Cx} {E : WX} {k : Nat} {x : Str} {ps : List Str} {n : Nat} {spec : Spec} {p pos : Pos} {e : Expr} {es : List Expr} {fr : Ax}
theorem spD_ok {σ : L2.St} {H : Hp} {Q : VK} (hn : ∀ ws st r, spec ws st = some r → ws.length = n) (h : rE G E (eFn spec fr) σ H Q) : rA G E fr σ H fun vs H1 => spD G n spec vs H1 Q (WE E σ) := by
  obtain ⟨m, sl, st, hs, hc, h⟩ := h
  refine ⟨m, sl, st, hs, hc, aft_bnd h fun ws st1 vs H1 m1 e1 c1 r1 h1 => ⟨m1, ws, st1, r1, c1, ?_, h1⟩⟩
  cases hr : spec ws st1 with
  | none => rw [hr] at h1; exact h1.elim
  | some r => exact hn _ _ _ hr
theorem de_g (F : Has X.prog X.w X.K X.mg X.base (L2.CX X.prog X.w) k x ps (spD G n spec)) (hg : X.A.guards = some []) (hr : Room k X.A) (tk : Takes X E) (gl : Gl X x) (hn : ∀ ws st r, spec ws st = some r → ws.length = n) (ha : DA G X E (e :: es) fr) (hdb : (x == ("__debug__" : Str)) = false := by decide)
    (he : starEach (e :: es) X.env = (false, eval e X.env) :: starEach es X.env := by rfl) (hpl : (backTo pos (starEach es X.env)).any (·.1) = false := by rfl) : DE G X E (.Call (.Name x p) (e :: es) [] pos) (eFn spec fr) := by
  obtain ⟨f, fd, g, hm, hk, hb⟩ := F.ex
  refine PE.imp (t := fun σ H Q => rA G E fr σ H fun vs H1 => spD G n spec vs H1 Q (WE E σ)) ⟨fun pins s σ H Q I h => ?_⟩ fun σ H Q h => spD_ok hn h
  apply wpAny_Call_Name_kw
  apply ld_glob I gl hm _ hdb
  apply PySem.W.callWith_K (h₀ := X.base) I.ok.mod.kin hk _ he hpl
  apply thn (ha.run pos pins s σ H _ I h)
  rintro us s1 ⟨vs, H1, I1, r, q⟩
  refine ⟨I1.kIn, ?_⟩
  have hl : us.length = ps.length := r.length.symm.trans (g.gLen vs H1 Q _ q)
  have bt := hb s1 us I1.kIn (by rw [List.append_nil]; exact hl)
  rw [List.append_nil] at bt
  apply wpAny_call
  apply codeAny_mono (g.gRun X.A hg hr X.stack s1 H1 I1.env0 ⟨us, []⟩ us vs Q (WE E σ) bt r q)
  intro res s2 q
  match res, q with
  | .ok (.ret u), q => exact I1.after q
  | .ok .next, q => exact False.elim q
  | .ok .brk, q => exact False.elim q
  | .ok .cont, q => exact False.elim q
  | .error e, q => exact passAt tk σ pins H1 s1 e s2 I1 q
end
end Dn
namespace Dn
open PySem PySem.Spec PyProof.Rows L2 Ft LamX
mutual
def toP : D → PyData
  | .non => .none
  | .bl b => .bool b
  | .int i => .int i
  | .str x => .str x
  | .tup ds => .tuple (toPs ds)
  | .lst ds => .list (toPs ds)
  | .obj _ _ => .none
  | .emp => .none
  | .exn _ _ => .none
def toPs : List D → List PyData
  | [] => []
  | d :: ds => toP d :: toPs ds
end
def dok : Nat → D → Bool
  | _, .non => true
  | _, .bl _ => true
  | _, .int _ => true
  | _, .str _ => true
  | 0, .tup _ => false
  | 0, .lst _ => false
  | n + 1, .tup ds => ds.all (dok n)
  | n + 1, .lst ds => ds.all (dok n)
  | _, .obj _ _ => false
  | _, .emp => false
  | _, .exn _ _ => false
def eqD (d e : D) : Bool := PyData.eqv (toP d) (toP e)
section
variable {G : Gx} {m : M} {H : Hp}
theorem dok_ok : ∀ (n : Nat) {v : V} {d : D}, Rp G m H v d → dok n d = true → Dp G.K H v (toP d) ∧ (toP d).plain = true ∧ (toP d).depth ≤ n := by
  intro n
  induction n with
  | zero =>
    intro v d r h
    cases r with
    | non => exact ⟨.non, rfl, Nat.le_refl _⟩
    | bl b => exact ⟨.bl b, rfl, Nat.le_refl _⟩
    | int i => exact ⟨.int i, rfl, Nat.le_refl _⟩
    | str x _ => exact ⟨.str x, rfl, Nat.le_refl _⟩
    | tup _ _ _ => cases h
    | lst _ _ _ _ => cases h
    | obj _ _ _ _ => cases h
    | emp _ _ => cases h
    | exn _ _ _ _ _ _ => cases h
    | cls _ => cases h
  | succ n ih =>
    have all : ∀ {vs : List V} {ds : List D}, RpA G m H vs ds → ds.all (dok n) = true → DpAll G.K H vs (toPs ds) ∧ PyData.plainAll (toPs ds) = true ∧ PyData.depthAll (toPs ds) ≤ n := by
      intro vs ds r h
      induction ds generalizing vs with
      | nil => cases r; exact ⟨.nil, rfl, Nat.zero_le _⟩
      | cons d ds ih2 =>
        cases r with
        | cons r1 r2 =>
          rw [List.all_cons, Bool.and_eq_true] at h
          obtain ⟨a1, a2, a3⟩ := ih r1 h.1
          obtain ⟨b1, b2, b3⟩ := ih2 r2 h.2
          refine ⟨.cons a1 b1, ?_, ?_⟩
          · simp only [toPs, PyData.plainAll, a2, b2, Bool.and_self]
          · simp only [toPs, PyData.depthAll]
            omega
    intro v d r h
    cases r with
    | non => exact ⟨.non, rfl, Nat.zero_le _⟩
    | bl b => exact ⟨.bl b, rfl, Nat.zero_le _⟩
    | int i => exact ⟨.int i, rfl, Nat.zero_le _⟩
    | str x _ => exact ⟨.str x, rfl, Nat.zero_le _⟩
    | tup _ e q =>
      obtain ⟨a1, a2, a3⟩ := all q h
      refine ⟨.tup (.inl (.inl e)) a1, by simp only [toP, PyData.plain]; exact a2, ?_⟩
      simp only [toP, PyData.depth]
      omega
    | lst _ e _ q =>
      obtain ⟨a1, a2, a3⟩ := all q h
      refine ⟨.lst (.inl (.inl e)) a1, by simp only [toP, PyData.plain]; exact a2, ?_⟩
      simp only [toP, PyData.depth]
      omega
    | obj _ _ _ _ => cases h
    | emp _ _ => cases h
    | exn _ _ _ _ _ _ => cases h
    | cls _ => cases h
theorem dokAll_ok (n : Nat) : ∀ {vs : List V} {ds : List D}, RpA G m H vs ds → ds.all (dok n) = true → DpAll G.K H vs (toPs ds) ∧ PyData.plainAll (toPs ds) = true ∧ PyData.depthAll (toPs ds) ≤ n := by
  intro vs ds r h
  induction ds generalizing vs with
  | nil => cases r; exact ⟨.nil, rfl, Nat.zero_le _⟩
  | cons d ds ih2 =>
    cases r with
    | cons r1 r2 =>
      rw [List.all_cons, Bool.and_eq_true] at h
      obtain ⟨a1, a2, a3⟩ := dok_ok n r1 h.1
      obtain ⟨b1, b2, b3⟩ := ih2 r2 h.2
      refine ⟨.cons a1 b1, ?_, ?_⟩
      · simp only [toPs, PyData.plainAll, a2, b2, Bool.and_self]
      · simp only [toPs, PyData.depthAll]
        omega
theorem dokX_ok (n : Nat) {v : V} {d : D} (r : RpX G m H v d) (h : dok n d = true) : Dp G.K H v (toP d) ∧ (toP d).plain = true ∧ (toP d).depth ≤ n := by
  rcases r with r | ⟨a, xs, ds, rfl, rfl, _, h1, h2⟩ | ⟨a, C, dx, c, fs, gs, rfl, rfl, _⟩
  · exact dok_ok n r h
  · cases n with
    | zero => cases h
    | succ n =>
      obtain ⟨a1, a2, a3⟩ := dokAll_ok n h2 h
      refine ⟨.lst (.inl (.inl h1)) a1, by simp only [toP, PyData.plain]; exact a2, ?_⟩
      simp only [toP, PyData.depth]
      omega
  · cases n <;> cases h
end
def gAdd : D → D → Option D
  | .int i, .int j => some (.int (i + j))
  | .str x, .str y => if x.length + y.length ≤ lim then some (.str (x ++ y)) else none
  | .tup ds, .tup es => if ds.length + es.length ≤ lim then some (.tup (ds ++ es)) else none
  | .lst ds, .lst es => if ds.length + es.length ≤ lim then some (.lst (ds ++ es)) else none
  | _, _ => none
def gSub : D → D → Option D
  | .int i, .int j => some (.int (i - j))
  | _, _ => none
def gMul : D → D → Option D
  | .int i, .int j => if (-(2 ^ 64) < i ∧ i < 2 ^ 64) ∨ (-(2 ^ 64) < j ∧ j < 2 ^ 64) then some (.int (i * j)) else none
  | _, _ => none
def gDiv : D → D → Option D
  | .int i, .int j => if 0 < j ∧ j < 1073741824 then some (.int (i / j)) else none
  | _, _ => none
def gMod : D → D → Option D
  | .int i, .int j => if 0 < j then some (.int (i % j)) else none
  | _, _ => none
def gPow : D → D → Option D
  | .int i, .int j => if 0 ≤ j ∧ j ≤ 1000000 ∧ i.natAbs < 2 ^ 64 then some (.int (i ^ j.toNat)) else none
  | _, _ => none
def gEq (d e : D) : Option D := if dok 60 d = true ∧ dok 60 e = true then some (.bl (eqD d e)) else none
def gNe (d e : D) : Option D := if dok 60 d = true ∧ dok 60 e = true then some (.bl (!eqD d e)) else none
def gLt : D → D → Option D
  | .int i, .int j => some (.bl (decide (i < j)))
  | .str x, .str y => some (.bl (decide (x.cps.toList < y.cps.toList)))
  | _, _ => none
def gLe : D → D → Option D
  | .int i, .int j => some (.bl (decide (i ≤ j)))
  | .str x, .str y => some (.bl (!decide (y.cps.toList < x.cps.toList)))
  | _, _ => none
def gGt : D → D → Option D
  | .int i, .int j => some (.bl (decide (j < i)))
  | _, _ => none
def gGe : D → D → Option D
  | .int i, .int j => some (.bl (decide (j ≤ i)))
  | _, _ => none
def inD (d : D) (ds : List D) : Bool := ds.any fun e => eqD e d
def inS (x y : Str) : Bool := !(Builtin.Str.occurrences y x 0 y.length 1).isEmpty
def gIn : D → D → Option D
  | d, .tup ds => if dok 60 d = true ∧ ds.all (dok 60) = true then some (.bl (inD d ds)) else none
  | d, .lst ds => if dok 60 d = true ∧ ds.all (dok 60) = true then some (.bl (inD d ds)) else none
  | .str x, .str y => some (.bl (inS x y))
  | _, _ => none
def gNotIn : D → D → Option D
  | d, .tup ds => if dok 60 d = true ∧ ds.all (dok 60) = true then some (.bl (!inD d ds)) else none
  | d, .lst ds => if dok 60 d = true ∧ ds.all (dok 60) = true then some (.bl (!inD d ds)) else none
  | .str x, .str y => some (.bl (!inS x y))
  | _, _ => none
def isN : D → Bool
  | .non => true
  | _ => false
def gIsN : D → D → Option D
  | d, .non => some (.bl (isN d))
  | _, _ => none
def gNotN : D → D → Option D
  | d, .non => some (.bl (!isN d))
  | _, _ => none
def gNeg : D → Option D
  | .int i => some (.int (-i))
  | _ => none
section
variable {G : Gx} {X : Cx} {m : M} {H : Hp}
theorem RpX.int {v : V} {i : Int} (r : RpX G m H v (.int i)) : v = .int i := by
  rcases r with r | ⟨_, _, _, _, z, _⟩ | ⟨_, _, _, _, _, _, _, z, _⟩
  · cases r; rfl
  · cases z
  · cases z
theorem RpX.str {v : V} {i : Str} (r : RpX G m H v (.str i)) : v = .str i := by
  rcases r with r | ⟨_, _, _, _, z, _⟩ | ⟨_, _, _, _, _, _, _, z, _⟩
  · cases r; rfl
  · cases z
  · cases z
theorem RpX.non {v : V} (r : RpX G m H v .non) : v = .non := by
  rcases r with r | ⟨_, _, _, _, z, _⟩ | ⟨_, _, _, _, _, _, _, z, _⟩
  · cases r; rfl
  · cases z
  · cases z
theorem RpX.bl {v : V} {b : Bool} (r : RpX G m H v (.bl b)) : v = .bl b := by
  rcases r with r | ⟨_, _, _, _, z, _⟩ | ⟨_, _, _, _, _, _, _, z, _⟩
  · cases r; rfl
  · cases z
  · cases z
theorem RpX.tup {v : V} {ds : List D} (r : RpX G m H v (.tup ds)) : ∃ a xs, v = .ref a ∧ H a = some (.tup xs) ∧ RpA G m H xs ds := by
  rcases r with r | ⟨_, _, _, _, z, _⟩ | ⟨_, _, _, _, _, _, _, z, _⟩
  · cases r with | tup _ e q => exact ⟨_, _, rfl, e, q⟩
  · cases z
  · cases z
theorem RpX.lst {v : V} {ds : List D} (r : RpX G m H v (.lst ds)) : ∃ a xs, v = .ref a ∧ H a = some (.lst xs) ∧ RpA G m H xs ds := by
  rcases r with r | ⟨a, xs, es, rfl, z, _, q, q2⟩ | ⟨_, _, _, _, _, _, _, z, _⟩
  · cases r with | lst _ e _ q => exact ⟨_, _, rfl, e, q⟩
  · cases z; exact ⟨a, xs, rfl, q, q2⟩
  · cases z
theorem RpX.slen {v : V} {x : Str} (r : RpX G m H v (.str x)) : x.length ≤ lim := by
  rcases r with r | ⟨_, _, _, _, z, _⟩ | ⟨_, _, _, _, _, _, _, z, _⟩
  · cases r with | str _ h => exact h
  · cases z
  · cases z
theorem RpX.tlen {v : V} {ds : List D} (r : RpX G m H v (.tup ds)) : ds.length ≤ lim := by
  rcases r with r | ⟨_, _, _, _, z, _⟩ | ⟨_, _, _, _, _, _, _, z, _⟩
  · cases r with | tup h _ _ => exact h
  · cases z
  · cases z
theorem RpX.llen {v : V} {ds : List D} (r : RpX G m H v (.lst ds)) : ds.length ≤ lim := by
  rcases r with r | ⟨_, _, _, _, z, h, _⟩ | ⟨_, _, _, _, _, _, _, z, _⟩
  · cases r with | lst h _ _ _ => exact h
  · cases z; exact h
  · cases z
theorem gv {d : D} {v : V} {Q : VK} (h : Gives G m H d Q) (r : Rp G m H v d) : Q v H := h v H (fun _ _ h => h) r
theorem RpA.app {vs us : List V} {ds es : List D} (h : RpA G m H vs ds) (k : RpA G m H us es) : RpA G m H (vs ++ us) (ds ++ es) := by
  induction ds generalizing vs with
  | nil => cases h; exact k
  | cons d ds ih => cases h with | cons h1 h2 => exact .cons h1 (ih h2)
theorem app_len (x y : Str) : (x ++ y).length = x.length + y.length := by
  show (x.cps ++ y.cps).size = x.cps.size + y.cps.size
  exact Array.size_append
theorem p_add (hK : X.K = G.K := by rfl) : OpP G X (binaryOp .Add) gAdd := by
  rintro pins s σ H x y v u Q I rx ry ⟨m, st, d1, d2, d, co, r1, r2, e, q⟩
  unfold gAdd at e
  split at e
  · cases e
    cases r1.int; cases r2.int
    exact op_add pins s σ H _ _ v u Q I rx ry ⟨_, _, rfl, rfl, gv q (.int _)⟩
  · split at e
    · rename_i hl
      cases e
      cases r1.str; cases r2.str
      exact op_add_str pins s σ H _ _ v u Q I rx ry ⟨_, _, rfl, rfl, lim_le hl, gv q (.str _ (by rw [app_len]; exact hl))⟩
    · cases e
  · split at e
    · rename_i hl
      cases e
      obtain ⟨a, xs, rfl, h1, q1⟩ := r1.tup
      obtain ⟨b, ys, rfl, h2, q2⟩ := r2.tup
      refine op_catA pins s σ H _ _ v u Q I rx ry ⟨a, b, xs, ys, rfl, rfl, .inl (.inl h1), .inl (.inl h2), by rw [q1.len, q2.len]; exact lim_le hl, fun z => ?_, fun _ z => ?_, fun _ _ p hp => q _ _ (same_new hp) (rp_tup hp (by rw [List.length_append]; exact hl) (q1.app q2))⟩
      · subst z
        cases q1
        exact gv q (.tup r2.tlen h2 q2)
      · subst z
        cases q2
        rw [List.append_nil] at q
        exact gv q (.tup r1.tlen h1 q1)
    · cases e
  · split at e
    · rename_i ds es hl
      cases e
      obtain ⟨a, xs, rfl, h1, q1⟩ := r1.lst
      obtain ⟨b, ys, rfl, h2, q2⟩ := r2.lst
      exact op_cat pins s σ H _ _ v u Q I rx ry ⟨a, b, xs, ys, rfl, rfl, h1, h2, by rw [q1.len, q2.len]; exact lim_le hl, fun p hp => q _ _ (same_new hp) (rp_lst co hp (by rw [List.length_append]; exact hl) (q1.app q2))⟩
    · cases e
  · cases e
theorem p_mul : OpP G X (binaryOp .Mult) gMul := by
  rintro pins s σ H x y v u Q I rx ry ⟨m, st, d1, d2, d, co, r1, r2, e, q⟩
  unfold gMul at e
  split at e
  · split at e
    · rename_i hl
      cases e
      cases r1.int; cases r2.int
      exact op_mul pins s σ H _ _ v u Q I rx ry ⟨_, _, rfl, rfl, hl, gv q (.int _)⟩
    · cases e
  · cases e
theorem p_div : OpP G X (binaryOp .FloorDiv) gDiv := by
  rintro pins s σ H x y v u Q I rx ry ⟨m, st, d1, d2, d, co, r1, r2, e, q⟩
  unfold gDiv at e
  split at e
  · split at e
    · rename_i hl
      cases e
      cases r1.int; cases r2.int
      exact op_fdiv pins s σ H _ _ v u Q I rx ry ⟨_, _, rfl, rfl, hl, gv q (.int _)⟩
    · cases e
  · cases e
theorem p_mod : OpP G X (binaryOp .Mod) gMod := by
  rintro pins s σ H x y v u Q I rx ry ⟨m, st, d1, d2, d, co, r1, r2, e, q⟩
  unfold gMod at e
  split at e
  · split at e
    · rename_i hl
      cases e
      cases r1.int; cases r2.int
      exact op_mod pins s σ H _ _ v u Q I rx ry ⟨_, _, rfl, rfl, hl, gv q (.int _)⟩
    · cases e
  · cases e
theorem p_pow : OpP G X (binaryOp .Pow) gPow := by
  rintro pins s σ H x y v u Q I rx ry ⟨m, st, d1, d2, d, co, r1, r2, e, q⟩
  unfold gPow at e
  split at e
  · split at e
    · rename_i hl
      cases e
      cases r1.int; cases r2.int
      exact op_pow pins s σ H _ _ v u Q I rx ry ⟨_, _, rfl, rfl, hl, gv q (.int _)⟩
    · cases e
  · cases e
theorem p_eq (hu : X.A.units + 64 < cLine) (hK : X.K = G.K := by rfl) : OpP G X (compareOp .Eq) gEq := by
  rintro pins s σ H x y v u Q I rx ry ⟨m, st, d1, d2, d, co, r1, r2, e, q⟩
  unfold gEq at e
  split at e
  · rename_i hd
    cases e
    obtain ⟨a1, a2, a3⟩ := dokX_ok 60 r1 hd.1
    obtain ⟨b1, b2, b3⟩ := dokX_ok 60 r2 hd.2
    rw [← hK] at a1 b1
    obtain ⟨as, q1⟩ := Dp.reads I _ x v a1 rx
    obtain ⟨bs, q2⟩ := Dp.reads I _ y u b1 ry
    exact SeqAt.eq_plain q1 q2 a2 b2 (by omega) ⟨.bl _, H, I, rfl, gv q (.bl _)⟩
  · cases e
theorem p_ne (hu : X.A.units + 64 < cLine) (hK : X.K = G.K := by rfl) : OpP G X (compareOp .NotEq) gNe := by
  rintro pins s σ H x y v u Q I rx ry ⟨m, st, d1, d2, d, co, r1, r2, e, q⟩
  unfold gNe at e
  split at e
  · rename_i hd
    cases e
    obtain ⟨a1, a2, a3⟩ := dokX_ok 60 r1 hd.1
    obtain ⟨b1, b2, b3⟩ := dokX_ok 60 r2 hd.2
    rw [← hK] at a1 b1
    obtain ⟨as, q1⟩ := Dp.reads I _ x v a1 rx
    obtain ⟨bs, q2⟩ := Dp.reads I _ y u b1 ry
    exact SeqAt.ne_plain q1 q2 a2 b2 (by omega) ⟨.bl _, H, I, rfl, gv q (.bl _)⟩
  · cases e
theorem p_lt : OpP G X (compareOp .Lt) gLt := by
  rintro pins s σ H x y v u Q I rx ry ⟨m, st, d1, d2, d, co, r1, r2, e, q⟩
  unfold gLt at e
  split at e
  · cases e
    cases r1.int; cases r2.int
    exact op_lt pins s σ H _ _ v u Q I rx ry ⟨_, _, rfl, rfl, gv q (.bl _)⟩
  · cases e
    cases r1.str; cases r2.str
    exact op_lt_str pins s σ H _ _ v u Q I rx ry ⟨_, _, rfl, rfl, gv q (.bl _)⟩
  · cases e
theorem p_gt : OpP G X (compareOp .Gt) gGt := by
  rintro pins s σ H x y v u Q I rx ry ⟨m, st, d1, d2, d, co, r1, r2, e, q⟩
  unfold gGt at e
  split at e
  · cases e
    cases r1.int; cases r2.int
    exact op_gt pins s σ H _ _ v u Q I rx ry ⟨_, _, rfl, rfl, gv q (.bl _)⟩
  · cases e
theorem p_ge : OpP G X (compareOp .GtE) gGe := by
  rintro pins s σ H x y v u Q I rx ry ⟨m, st, d1, d2, d, co, r1, r2, e, q⟩
  unfold gGe at e
  split at e
  · cases e
    cases r1.int; cases r2.int
    exact op_ge pins s σ H _ _ v u Q I rx ry ⟨_, _, rfl, rfl, gv q (.bl _)⟩
  · cases e
theorem p_neg : UnP G X (unaryOp .USub) gNeg := by
  rintro pins s σ H x v Q I rx ⟨m, st, d1, d, co, r1, e, q⟩
  unfold gNeg at e
  split at e
  · cases e
    cases r1.int
    exact un_neg pins s σ H _ v Q I rx ⟨_, rfl, gv q (.int _)⟩
  · cases e
end
end Dn
namespace Dn
open PySem PySem.Spec PyProof.Rows L2 Ft LamX
def gLen : List D → Option D
  | [.str x] => some (.int x.length)
  | [.tup ds] => some (.int ds.length)
  | [.lst ds] => some (.int ds.length)
  | _ => none
def gAbs : List D → Option D
  | [.int i] => some (.int (if i < 0 then -i else i))
  | _ => none
def gMax2 : List D → Option D
  | [.int i, .int j] => some (.int (if j > i then j else i))
  | _ => none
def gMin2 : List D → Option D
  | [.int i, .int j] => some (.int (if j < i then j else i))
  | _ => none
def gInt : List D → Option D
  | [.int i] => some (.int i)
  | [.bl k] => some (.int (if k then 1 else 0))
  | _ => none
def gStr : List D → Option D
  | [.int i] => if i.natAbs.log2 < 1920 ∧ (Str.ofString (toString i)).length ≤ lim then some (.str (Str.ofString (toString i))) else none
  | _ => none
def gTuple : List D → Option D
  | [.tup ds] => some (.tup ds)
  | [.lst ds] => some (.tup ds)
  | _ => none
def gList : List D → Option D
  | [.tup ds] => some (.lst ds)
  | [.lst ds] => some (.lst ds)
  | _ => none
def bools : List D → Option (List Bool)
  | [] => some []
  | .bl b :: ds => (bools ds).map (b :: ·)
  | _ => none
def gAll : List D → Option D
  | [.lst ds] => (bools ds).map fun bs => .bl (bs.all id)
  | _ => none
def gAny : List D → Option D
  | [.lst ds] => (bools ds).map fun bs => .bl (bs.any id)
  | _ => none
def gRepr : List D → Option D
  | [d] => if dok 60 d = true ∧ (toP d).showable = true ∧ (toP d).shown.length ≤ lim then some (.str (toP d).shown) else none
  | _ => none
section
variable {G : Gx} {X : Cx} {m : M} {H : Hp}
theorem xs1 {vs : List V} {d : D} (r : RpXs G m H vs [d]) : ∃ v, vs = [v] ∧ RpY G m H v d := by
  cases r with | cons a b => cases b; exact ⟨_, rfl, a⟩
theorem xs2 {vs : List V} {d e : D} (r : RpXs G m H vs [d, e]) : ∃ v u, vs = [v, u] ∧ RpY G m H v d ∧ RpY G m H u e := by
  cases r with | cons a b => cases b with | cons c z => cases z; exact ⟨_, _, rfl, a, c⟩
theorem RpY.x {v : V} {d : D} (r : RpY G m H v d) (h : ∀ ds, d ≠ .lst ds) : RpX G m H v d := by
  rcases r with r | ⟨_, ns, _, z, _, _⟩
  · exact r
  · exact absurd z (h _)
theorem RpY.lst {v : V} {ds : List D} (r : RpY G m H v (.lst ds)) : ∃ a xs, v = .ref a ∧ SqL G.K H a xs ∧ RpA G m H xs ds := by
  rcases r with r | ⟨a, ns, rfl, z, _, h⟩
  · obtain ⟨a, xs, h1, h2, h3⟩ := r.lst
    exact ⟨a, xs, h1, .inl (.inl h2), h3⟩
  · cases z
    exact ⟨a, _, rfl, h, RpA.ints ns⟩
theorem RpY.int {v : V} {i : Int} (r : RpY G m H v (.int i)) : v = .int i := (r.x (by intro _ z; cases z)).int
theorem RpY.str {v : V} {i : Str} (r : RpY G m H v (.str i)) : v = .str i := (r.x (by intro _ z; cases z)).str
theorem RpY.bl {v : V} {i : Bool} (r : RpY G m H v (.bl i)) : v = .bl i := (r.x (by intro _ z; cases z)).bl
theorem RpY.tup {v : V} {ds : List D} (r : RpY G m H v (.tup ds)) : ∃ a xs, v = .ref a ∧ H a = some (.tup xs) ∧ RpA G m H xs ds := (r.x (by intro _ z; cases z)).tup
theorem RpY.slen {v : V} {x : Str} (r : RpY G m H v (.str x)) : x.length ≤ lim := (r.x (by intro _ z; cases z)).slen
theorem RpY.tlen {v : V} {ds : List D} (r : RpY G m H v (.tup ds)) : ds.length ≤ lim := (r.x (by intro _ z; cases z)).tlen
theorem RpY.llen {v : V} {ds : List D} (r : RpY G m H v (.lst ds)) : ds.length ≤ lim := by
  rcases r with r | ⟨a, ns, rfl, z, l, h⟩
  · exact r.llen
  · cases z
    rw [List.length_map]
    exact l
theorem c_len (hK : X.K = G.K := by rfl) : CallP G X (.builtin "len") gLen := by
  rintro pins s σ H xs us Q I r ⟨m, st, ds, d, co, rs, e, q⟩
  unfold gLen at e
  split at e
  · cases e
    obtain ⟨v, rfl, r1⟩ := xs1 rs
    have hl := r1.slen
    cases r1.str
    exact call_len_str pins s σ H _ us Q I r ⟨_, rfl, lim_le hl, gv q (.int _)⟩
  · cases e
    obtain ⟨v, rfl, r1⟩ := xs1 rs
    obtain ⟨a, ys, rfl, h1, h2⟩ := r1.tup
    exact call_len_seq pins s σ H _ us Q I r ⟨a, ys, rfl, .inr (.inl (.inl h1)), by rw [h2.len]; exact gv q (.int _)⟩
  · cases e
    obtain ⟨v, rfl, r1⟩ := xs1 rs
    obtain ⟨a, ys, rfl, h1, h2⟩ := r1.lst
    exact call_len_seq pins s σ H _ us Q I r ⟨a, ys, rfl, .inl (by rw [hK]; exact h1), by rw [h2.len]; exact gv q (.int _)⟩
  · cases e
theorem c_abs : CallP G X (.builtin "abs") gAbs := by
  rintro pins s σ H xs us Q I r ⟨m, st, ds, d, co, rs, e, q⟩
  unfold gAbs at e
  split at e
  · cases e
    obtain ⟨v, rfl, r1⟩ := xs1 rs
    cases r1.int
    exact call_abs pins s σ H _ us Q I r ⟨_, rfl, gv q (.int _)⟩
  · cases e
theorem c_max2 (hc : X.calm = true) : CallP G X (.builtin "max") gMax2 := by
  rintro pins s σ H xs us Q I r ⟨m, st, ds, d, co, rs, e, q⟩
  unfold gMax2 at e
  split at e
  · cases e
    obtain ⟨v, u, rfl, r1, r2⟩ := xs2 rs
    cases r1.int; cases r2.int
    exact call_max2 hc pins s σ H _ us Q I r ⟨_, _, rfl, gv q (.int _)⟩
  · cases e
theorem c_min2 (hc : X.calm = true) : CallP G X (.builtin "min") gMin2 := by
  rintro pins s σ H xs us Q I r ⟨m, st, ds, d, co, rs, e, q⟩
  unfold gMin2 at e
  split at e
  · cases e
    obtain ⟨v, u, rfl, r1, r2⟩ := xs2 rs
    cases r1.int; cases r2.int
    exact call_min2 hc pins s σ H _ us Q I r ⟨_, _, rfl, gv q (.int _)⟩
  · cases e
theorem c_int : CallP G X (.type "int") gInt := by
  rintro pins s σ H xs us Q I r ⟨m, st, ds, d, co, rs, e, q⟩
  unfold gInt at e
  split at e
  · cases e
    obtain ⟨v, rfl, r1⟩ := xs1 rs
    cases r1.int
    exact call_int1 pins s σ H _ us Q I r (.inl ⟨_, rfl, gv q (.int _)⟩)
  · cases e
    obtain ⟨v, rfl, r1⟩ := xs1 rs
    cases r1.bl
    exact call_int1 pins s σ H _ us Q I r (.inr ⟨_, rfl, gv q (.int _)⟩)
  · cases e
theorem c_str : CallP G X (.type "str") gStr := by
  rintro pins s σ H xs us Q I r ⟨m, st, ds, d, co, rs, e, q⟩
  unfold gStr at e
  split at e
  · split at e
    · rename_i hl
      cases e
      obtain ⟨v, rfl, r1⟩ := xs1 rs
      cases r1.int
      exact call_str_int pins s σ H _ us Q I r ⟨_, rfl, hl.1, gv q (.str _ hl.2)⟩
    · cases e
  · cases e
theorem bools_ok {vs : List V} {ds : List D} {bs : List Bool} (r : RpA G m H vs ds) (h : bools ds = some bs) : vs = bs.map V.bl := by
  induction ds generalizing vs bs with
  | nil => cases r; cases h; rfl
  | cons d ds ih =>
    cases r with
    | cons r1 r2 =>
      cases d with
      | bl b =>
        simp only [bools, Option.map_eq_some_iff] at h
        obtain ⟨l, h1, rfl⟩ := h
        cases r1
        rw [ih r2 h1]
        rfl
      | non => cases h
      | int _ => cases h
      | str _ => cases h
      | tup _ => cases h
      | lst _ => cases h
      | obj _ _ => cases h
      | emp => cases h
      | exn _ _ => cases h
theorem c_all (hc : X.calm = true) (hK : X.K = G.K := by rfl) : CallP G X (.builtin "all") gAll := by
  rintro pins s σ H xs us Q I r ⟨m, st, ds, d, co, rs, e, q⟩
  unfold gAll at e
  split at e
  · rw [Option.map_eq_some_iff] at e
    obtain ⟨bs, e1, rfl⟩ := e
    obtain ⟨v, rfl, r1⟩ := xs1 rs
    obtain ⟨a, ys, rfl, h1, h2⟩ := r1.lst
    rw [bools_ok h2 e1, ← hK] at h1
    exact cr_all hc pins s σ H _ us Q I r ⟨a, bs, rfl, h1, gv q (.bl _)⟩
  · cases e
theorem dokY_ok (n : Nat) {v : V} {d : D} (r : RpY G m H v d) (h : dok n d = true) : Dp G.K H v (toP d) ∧ (toP d).plain = true ∧ (toP d).depth ≤ n := by
  rcases r with r | ⟨a, ns, rfl, rfl, _, h1⟩
  · exact dokX_ok n r h
  · cases n with
    | zero => cases h
    | succ n =>
      obtain ⟨a1, a2, a3⟩ := dokAll_ok n (RpA.ints (G := G) (m := m) (H := H) ns) h
      refine ⟨.lst h1 a1, by simp only [toP, PyData.plain]; exact a2, ?_⟩
      simp only [toP, PyData.depth]
      omega
mutual
theorem toP_nodict : ∀ d : D, (toP d).hasDict = false
  | .non => rfl
  | .bl _ => rfl
  | .int _ => rfl
  | .str _ => rfl
  | .tup ds => by simp only [toP, PyData.hasDict]; exact toPs_nodict ds
  | .lst ds => by simp only [toP, PyData.hasDict]; exact toPs_nodict ds
  | .obj _ _ => rfl
  | .emp => rfl
  | .exn _ _ => rfl
theorem toPs_nodict : ∀ ds : List D, PyData.hasDictAll (toPs ds) = false
  | [] => rfl
  | d :: ds => by simp only [toPs, PyData.hasDictAll, toP_nodict d, toPs_nodict ds, Bool.or_self]
end
theorem c_repr (hg : X.A.guards = some []) (hu : X.A.units + 64 < cLine) (hK : X.K = G.K := by rfl) : CallP G X (.builtin "repr") gRepr := by
  rintro pins s σ H xs us Q I r ⟨m, st, ds, d, co, rs, e, q⟩
  unfold gRepr at e
  split at e
  · split at e
    · rename_i hd
      cases e
      obtain ⟨v, rfl, r1⟩ := xs1 rs
      obtain ⟨a1, a2, a3⟩ := dokY_ok 60 r1 hd.1
      rw [← hK] at a1
      exact call_reprV hg hu pins s σ H _ us Q I r ⟨v, _, rfl, a1, hd.2.1, toP_nodict _, a3, lim_le hd.2.2, gv q (.str _ hd.2.2)⟩
    · cases e
  · cases e
def gIx : D → D → Option D
  | .lst ds, .int i => atI ds i
  | .tup ds, .int i => atI ds i
  | .str z, .int i => (atI z.cps.toList i).map fun c => .str ⟨#[c]⟩
  | _, _ => none
theorem at_ok {vs : List V} {ds : List D} {i : Int} {d : D} (r : RpA G m H vs ds) (h : atI ds i = some d) : ∃ v, atI vs i = some v ∧ Rp G m H v d := by
  unfold atI at h ⊢
  obtain ⟨j, h1, h2⟩ := Option.bind_eq_some_iff.mp h
  obtain ⟨v, h3, h4⟩ := r.at h2
  exact ⟨v, by rw [r.len, h1]; exact h3, h4⟩
theorem i_ix (hK : X.K = G.K := by rfl) : IxP G X gIx := by
  rintro value slice pins s σ H x y v u Q I rx ry ⟨m, st, d1, d2, d, co, r1, r2, e, q⟩ hs
  unfold gIx at e
  split at e
  · obtain ⟨a, xs, rfl, h1, h2⟩ := r1.lst
    cases r2.int
    obtain ⟨w, h3, h4⟩ := at_ok h2 e
    exact ix_list value slice pins s σ H _ _ v u Q I rx ry ⟨a, xs, _, w, rfl, rfl, by rw [hK]; exact h1, h3, gv q h4⟩ hs
  · obtain ⟨a, xs, rfl, h1, h2⟩ := r1.tup
    cases r2.int
    obtain ⟨w, h3, h4⟩ := at_ok h2 e
    exact ix_tup value slice pins s σ H _ _ v u Q I rx ry ⟨a, xs, _, w, rfl, rfl, .inl (.inl h1), h3, gv q h4⟩ hs
  · rw [Option.map_eq_some_iff] at e
    obtain ⟨c, e1, rfl⟩ := e
    have hl := r1.slen
    cases r1.str
    cases r2.int
    exact ix_str value slice pins s σ H _ _ v u Q I rx ry ⟨_, _, c, rfl, rfl, lim_le hl, e1, gv q (.str _ (by show 1 ≤ lim; decide))⟩ hs
  · cases e
def cutL {α : Type} (xs : List α) (lo hi : Option Int) : List α := (xs.drop (HT.sIx xs.length 0 lo)).take (HT.sIx xs.length xs.length hi - HT.sIx xs.length 0 lo)
def gSl : D → Option Int → Option Int → Option D
  | .lst ds, lo, hi => some (.lst (cutL ds lo hi))
  | .tup ds, lo, hi => some (.tup (cutL ds lo hi))
  | .str z, lo, hi => some (.str (cutS z lo hi))
  | _, _, _ => none
theorem RpA.take {vs : List V} {ds : List D} (r : RpA G m H vs ds) (n : Nat) : RpA G m H (vs.take n) (ds.take n) := by
  induction ds generalizing vs n with
  | nil => cases r; cases n <;> exact .nil
  | cons d ds ih =>
    cases r with
    | cons r1 r2 =>
      cases n with
      | zero => exact .nil
      | succ n => exact .cons r1 (ih r2 n)
theorem RpA.drop {vs : List V} {ds : List D} (r : RpA G m H vs ds) (n : Nat) : RpA G m H (vs.drop n) (ds.drop n) := by
  induction ds generalizing vs n with
  | nil => cases r; cases n <;> exact .nil
  | cons d ds ih =>
    cases r with
    | cons r1 r2 =>
      cases n with
      | zero => exact .cons r1 r2
      | succ n => exact ih r2 n
theorem RpA.cut {vs : List V} {ds : List D} (r : RpA G m H vs ds) (lo hi : Option Int) : RpA G m H (cutV vs lo hi) (cutL ds lo hi) := by
  unfold cutV cutL
  rw [r.len]
  exact (r.drop _).take _
theorem cut_all {α : Type} {xs : List α} {lo hi : Option Int} (h : HT.sIx xs.length 0 lo = 0 ∧ HT.sIx xs.length xs.length hi = xs.length) : cutL xs lo hi = xs := by
  unfold cutL
  rw [h.1, h.2, List.drop_zero, Nat.sub_zero, List.take_length]
theorem cutL_len {α : Type} (xs : List α) (lo hi : Option Int) : (cutL xs lo hi).length ≤ xs.length := by
  unfold cutL
  rw [List.length_take, List.length_drop]
  omega
theorem cutS_len (z : Str) (lo hi : Option Int) : (cutS z lo hi).length ≤ z.length := by
  unfold cutS
  show (List.toArray _).size ≤ _
  rw [List.size_toArray, List.length_take, List.length_drop, Array.length_toList]
  show _ ≤ z.cps.size
  omega
theorem s_sl (hK : X.K = G.K := by rfl) : SlP G X gSl := by
  rintro pins s σ H x v vl vu lo hi sl Q I rx hs pl pu ⟨m, st, d1, d, co, r1, e, q⟩
  unfold gSl at e
  split at e
  · cases e
    obtain ⟨a, xs, rfl, h1, h2⟩ := r1.lst
    exact sl_list pins s σ H _ v vl vu lo hi sl Q I rx hs pl pu ⟨a, xs, rfl, by rw [hK]; exact h1, fun p hp => q _ _ (same_new hp) (rp_lst co hp (Nat.le_trans (cutL_len _ _ _) r1.llen) (h2.cut lo hi))⟩
  · cases e
    obtain ⟨a, xs, rfl, h1, h2⟩ := r1.tup
    refine sl_tupA pins s σ H _ v vl vu lo hi sl Q I rx hs pl pu ⟨a, xs, rfl, .inl (.inl h1), fun z => ?_, fun _ p hp => q _ _ (same_new hp) (rp_tup hp (Nat.le_trans (cutL_len _ _ _) r1.tlen) (h2.cut lo hi))⟩
    rw [h2.len] at z
    rw [cut_all z] at q
    exact gv q (.tup r1.tlen h1 h2)
  · cases e
    have hl := r1.slen
    cases r1.str
    exact sl_str pins s σ H _ v vl vu lo hi sl Q I rx hs pl pu ⟨_, rfl, lim_le hl, gv q (.str _ (Nat.le_trans (cutS_len _ _ _) hl))⟩
  · cases e
def isT (T : String) : D → Option Bool
  | .non => some (T == "NoneType")
  | .bl _ => some (T == "bool" || T == "int")
  | .int _ => some (T == "int")
  | .str _ => some (T == "str")
  | .tup _ => some (T == "tuple")
  | .lst _ => some (T == "list")
  | .obj _ _ => none
  | .emp => some (T == "dict")
  | .exn _ _ => none
def gIs (T : String) (d : D) : Option D := (isT T d).map D.bl
end
end Dn
namespace Dn
open PySem PySem.Spec PyProof.Rows L2 Ft LamX
section
variable {G : Gx} {X : Cx} {E : WX} {m m' : M} {H H' : Hp} {e o i v : Expr} {es : List Expr} {fe fo fi fv : Ex} {fr : Ax} {pos p apos : Pos}
theorem takes_WF : Takes X WF := fun u s' ⟨_, _, _, _, _, _, _, _, _, _, _, _, _, _, _, _, w⟩ => w.elim
theorem list_tyV {K : PySem.W.Frag} {a : Addr} {xs : List V} (h : H a = some (.lst xs)) : tyV K "list" (.ref a) H := .inl ⟨rfl, xs, .inl (.inl h)⟩
def eAppend (fo fe : Ex) : Ex := fun sl st => bnd (fo sl st) fun w st1 => bnd (fe sl st1) fun x st2 => match w, x with
  | .c n, .d x => (match st2[n]? with
    | some (.lst ds) => if ds.length < lim then some (.ok (.d .non), st2.set n (.lst (ds ++ [x]))) else none
    | _ => none)
  | _, _ => none
def isCell (f : Ex) : Ex := fun sl st => bnd (f sl st) fun w st1 => match w with
  | .c n => (match st1[n]? with
    | some (.lst _) => some (.ok (.c n), st1)
    | _ => none)
  | _ => none
def sSetIx (fo fi fv : Ex) : Sm := fun sl st => stm (fv sl st) sl fun wv st1 => stm (fo sl st1) sl fun wo st2 => stm (fi sl st2) sl fun wi st3 => match wo, wi, wv with
  | .c n, .d (.int k), .d x => (match st3[n]? with
    | some (.lst ds) => (match ixN ds.length k with
      | some j => some (.nx, sl, st3.set n (.lst (ds.set j x)))
      | none => none)
    | _ => none)
  | _, _, _ => none
theorem RpA.set {vs : List V} {ds : List D} {v : V} {d : D} (h : RpA G m H vs ds) (r : Rp G m H v d) (j : Nat) : RpA G m H (vs.set j v) (ds.set j d) := by
  induction ds generalizing vs j with
  | nil => cases h; exact .nil
  | cons x ds ih =>
    cases h with
    | cons h1 h2 =>
      cases j with
      | zero => exact .cons r h2
      | succ j => exact .cons h1 (ih h2 j)
theorem ds_setIx (ho : DE G X E o fo) (hi : DE G X E i fi) (hv : DE G X E v fv) (hs : swapsWithSole [.Subscript o i p] v pos.line X.env = pure false := by rfl) (hw : swappedStores [.Subscript o i p] v X.env = pure none := by rfl)
    (h1 : (assignEach [.Subscript o i p] X.env).map (·.2) = [assign (.Subscript o i p) X.env] := by rfl)
    (ha : ∀ u, assign (.Subscript o i p) X.env u = (do
      let ov ← holding [u] (eval o X.env)
      let iv ← holding [u, ov] (eval i X.env)
      standAt p
      holding [u, ov, iv] (setItem ov iv u)
      release [u, ov, iv] []) := by intro _; rfl) : DS G X E (.Assign [.Subscript o i p] v pos) (sSetIx fo fi fv) := by
  refine PS.imp (ps_asg hv (pg_sub ho hi set_list ha) hs hw h1) ?_
  rintro Z σ H ⟨m, sl, st, hs, hc, h⟩
  refine ⟨m, sl, st, hs, hc, aftS_stm hs hc h fun wv st1 y H1 m1 e1 c1 r1 h1 => ⟨m1, sl, st1, hs.ext hc e1, c1, aftS_stm (hs.ext hc e1) c1 h1 fun wo st2 x H2 m2 e2 c2 r2 h2 => ?_⟩⟩
  have hs2 := (hs.ext hc e1).ext c1 e2
  refine ⟨m2, sl, st2, hs2, c2, aftS_stm hs2 c2 h2 fun wi st3 z H3 m3 e3 c3 r3 h3 => ?_⟩
  split at h3
  · rename_i n k x
    split at h3
    · rename_i ds hd
      split at h3
      · rename_i j hj
        obtain ⟨a, ha, rfl⟩ := RpW.ext c2 e3 r2
        obtain ⟨xs, q1, q2⟩ := cell_at c3 ha hd
        have rz : z = .int k := by cases r3; rfl
        have ry := RpW.ext c2 e3 (RpW.ext c1 e2 r1)
        refine ⟨a, xs, k, j, rfl, rz, q1, by rw [q2.len]; exact hj, ?_⟩
        have x3 := ext_write (o := .lst (xs.set j y)) c3 nt_lst ha
        exact h3 σ _ m3 x3 ((hs2.ext c2 e3).ext c3 x3) (c3.write ha ⟨by rw [List.length_set]; exact cell_len c3 ha hd, _, upd_same, (q2.ext c3 x3).set (Rp.ext c3 x3 ry) j⟩)
      · exact h3.elim
    · exact h3.elim
  · exact h3.elim
def sRaise (c fld : Str) (fa : Ax) : Sm := fun sl st => stm (fa sl st) sl fun ws st1 => match ws with
  | [.d x] => some (.ex c [(fld, x)], sl, st1)
  | _ => none
theorem RpF.look {fs : List (Str × V)} {gs : List (Str × D)} (r : RpF G m H fs gs) {f : Str} {d : D} (h : gs.lookup f = some d) : ∃ v, fs.lookup f = some v ∧ Rp G m H v d := by
  induction gs generalizing fs with
  | nil => cases h
  | cons g gs ih =>
    cases r with
    | @cons n v d' fs' _ r1 r2 =>
      rw [List.lookup_cons] at h ⊢
      cases hb : (f == n) with
      | true => rw [hb] at h; cases h; exact ⟨v, rfl, r1⟩
      | false => rw [hb] at h; exact ih r2 h
theorem RpX.obj {v : V} {c : Str} {gs : List (Str × D)} (r : RpX G m H v (.obj c gs)) : ∃ a C dx fs, v = .ref a ∧ G.mg c = some (.ref C) ∧ H a = some (.ins C dx fs) ∧ RpF G m H fs gs := by
  rcases r with r | ⟨_, _, _, _, z, _⟩ | ⟨a, C, dx, c', fs, gs', rfl, z, h1, h2, h3⟩
  · cases r with | obj h1 h2 _ h3 => exact ⟨_, _, _, _, rfl, h1, h2, h3⟩
  · cases z
  · cases z; exact ⟨a, C, dx, fs, rfl, h1, h2, h3⟩
def putD (f : Str) (v : D) : List (Str × D) → List (Str × D)
  | [] => [(f, v)]
  | (g, x) :: r => if g = f then (g, v) :: r else (g, x) :: putD f v r
theorem RpF.put {fs : List (Str × V)} {gs : List (Str × D)} (r : RpF G m H fs gs) {f : Str} {v : V} {d : D} (h : Rp G m H v d) : RpF G m H (putF f v fs) (putD f d gs) := by
  induction gs generalizing fs with
  | nil => cases r; exact .cons h .nil
  | cons g gs ih =>
    cases r with
    | @cons n v' d' fs' _ r1 r2 =>
      unfold putF putD
      split
      · exact .cons h r2
      · exact .cons r1 (ih r2)
theorem RpF.len {fs : List (Str × V)} {gs : List (Str × D)} (r : RpF G m H fs gs) : fs.length = gs.length := by
  induction gs generalizing fs with
  | nil => cases r; rfl
  | cons g gs ih => cases r with | cons r1 r2 => rw [List.length_cons, List.length_cons, ih r2]
def sFldSet (c f : Str) (fo fv : Ex) : Sm := fun sl st => stm (fv sl st) sl fun wv st1 => stm (fo sl st1) sl fun wo st2 => match wo, wv with
  | .c n, .d x => (match st2[n]? with
    | some (.ins c' gs) => if c' = c ∧ gs.length < 1000 then some (.nx, sl, st2.set n (.ins c (putD f x gs))) else none
    | _ => none)
  | _, _ => none
end
end Dn
namespace Dn
open PySem PySem.Spec PyProof.Rows L2 Ft LamX
section
variable {G : Gx} {X : Cx} {E : WX} {k : Nat} {f C : Addr} {fd : FuncData} {x c mth : Str} {ps ks : List Str} {n : Nat} {spec : Spec} {p pos apos : Pos} {e o : Expr} {es : List Expr} {kws : List Keyword} {fo : Ex} {fr fk : Ax} {g : {α : Type} → List α → List α → List α}
theorem PK.imp {t t' : TA} (h : PK X kws t) (hi : ∀ σ H Q, t' σ H Q → t σ H Q) : PK X kws t' := ⟨fun pos pins s σ H Q I q => h.run pos pins s σ H Q I (hi σ H Q q)⟩
abbrev DK (G : Gx) (X : Cx) (E : WX) (kws : List Keyword) (f : Ax) : Prop := PK X kws (rA G E f)
theorem dk_nil : DK G X E [] aNil := by
  refine PK.imp pk_nil ?_
  rintro σ H Q ⟨m, sl, st, hs, hc, h⟩
  exact aft_ok h hc .nil
theorem dk_cons {nm : Option Str} {kpos : Pos} {fa : Ex} (ha : DE G X E e fa) (hr : DK G X E kws fr) : DK G X E (⟨nm, e, kpos⟩ :: kws) (aCons fa fr) := by
  refine PK.imp (pk_cons ha hr) ?_
  rintro σ H Q ⟨m, sl, st, hs, hc, h⟩
  refine ⟨m, sl, st, hs, hc, aft_bnd h fun w1 st1 x H1 m1 e1 c1 r1 h1 => ⟨m1, sl, st1, hs.ext hc e1, c1, aft_bnd h1 fun ws st2 xs H2 m2 e2 c2 r2 h2 => aft_ok h2 c2 (.cons (RpW.ext c1 e2 r1) r2)⟩⟩
def eFnK (spec : Spec) (g : List W → List W → List W) (n l : Nat) (fa fk : Ax) : Ex := fun sl st => bnd (fa sl st) fun ws st1 => bnd (fk sl st1) fun zs st2 => if ws.length = n ∧ zs.length = l then spec (g ws zs) st2 else none
def eMeth (c mth : Str) (spec : Spec) (fo : Ex) (fa : Ax) : Ex := fun sl st => bnd (fo sl st) fun w st1 => match view st1 w with
  | some (.obj c' gs) => if c' = c ∧ gs.lookup mth = none then bnd (fa sl st1) fun ws st2 => spec (w :: ws) st2 else none
  | _ => none
def eMethK (c mth : Str) (spec : Spec) (g : List W → List W → List W) (l : Nat) (fo : Ex) (fk : Ax) : Ex := fun sl st => bnd (fo sl st) fun w st1 => match view st1 w with
  | some (.obj c' gs) => if c' = c ∧ gs.lookup mth = none then bnd (fk sl st1) fun zs st2 => if zs.length = l then spec (g [w] zs) st2 else none else none
  | _ => none
def made (c : Str) (n : Nat) (r : R W) : R W := match r with
  | some (.ok (.d .non), st2) => (match st2[n]? with
    | some (.ins c' fs) => if c' = c then some (.ok (.d (.obj c fs)), st2.take n) else none
    | _ => none)
  | some (.exc e fs, st2) => some (.exc e fs, st2.take n)
  | _ => none
def eNew (c : Str) (spec : Spec) (fa : Ax) : Ex := fun sl st => bnd (fa sl st) fun ws st1 => made c st1.length (spec (.c st1.length :: ws) (st1 ++ [.ins c []]))
structure ClsKw (P : Program) (w : World) (K : PySem.W.Frag) (mg : Str → Option Value) (base : Heap) (k : Nat) (x : Str) (C : Addr) (ps : List Str) (q : Nat) (ks : List Str) (g : {α : Type} → List α → List α → List α) (sp : Sp) : Prop where
  ex : ∃ (f : Addr) (fd : FuncData), FnOk P w K mg base (L2.CX P w) k f fd ps sp ∧ mg x = some (.ref C) ∧ Mk K C f ∧ (∀ (s : Shared) (y : Addr) (us ws : List Value), K.In s.heap → us.length = q → ws.length = ks.length → BindsTo s fd ⟨.ref y :: us, ks.zip ws⟩ (ps.zip (.ref y :: g us ws))) ∧
    ∀ {vs zs : List V} {us ws : List Value}, Vals vs us → Vals zs ws → Vals (g vs zs) (g us ws)
def eNewK (c : Str) (spec : Spec) (g : List W → List W → List W) (q l : Nat) (fa fk : Ax) : Ex := fun sl st => bnd (fa sl st) fun ws st1 => bnd (fk sl st1) fun zs st2 => if ws.length = q ∧ zs.length = l then made c st2.length (spec (.c st2.length :: g ws zs) (st2 ++ [.ins c []])) else none
end
end Dn
namespace Dn
open PySem PySem.Spec PyProof.Rows L2 Ft LamX
section
variable {G : Gx} {X : Cx} {E : WX} {m m' : M} {H H' : Hp} {e : Expr} {fe : Ex} {pos p : Pos} {tg : Expr}
theorem dv (i : Nat) {x : Str} (hN : X.N[i]? = some x := by rfl) (hv : Vis X.env.scope x := by first | exact Or.inl rfl | exact Or.inr (Or.inl rfl) | exact Or.inr (Or.inr rfl)) (hd : (x == ("__debug__" : Str)) = false := by decide)
    (hcd : (x == ("__classdict__" : Str)) = false := by decide) : DE G X E (.Name x pos) (eVar i) := de_var hN hv hd hcd
theorem de_one {op : BoolOp} {a : Expr} {fa : Ex} (h : DE G X E a fa) : DE G X E (.BoolOp op [a] pos) fa := pe_one h
def itAny (w : W) (st : Sto) : R (List D × Option (Nat × List D)) := match w with
  | .d (.tup ds) => some (.ok (ds, none), st)
  | .d (.str x) => some (.ok (signs x, none), st)
  | w => itL w st
theorem di_any (he : DE G X E e fe) (hK : X.K = G.K := by rfl) : DI G X E tg e (iOf itAny fe) := by
  refine ⟨fun pins s σ H R I ⟨m, sl, st, hs, hc, h⟩ => ?_⟩
  unfold iOf at h
  cases hf : fe sl st with
  | none => rw [hf] at h; exact h.elim
  | some r =>
    obtain ⟨o, st1⟩ := r
    rw [hf] at h
    have viaL : aft G (WE E σ) (relI G) m H (iOf itL fe sl st) R → _ := fun h => (di_list (tg := tg) he hK).run pins s σ H R I ⟨m, sl, st, hs, hc, h⟩
    cases o with
    | exc c fs => exact viaL (by unfold iOf; rw [hf]; exact h)
    | ok w =>
      cases w with
      | c n => exact viaL (by unfold iOf; rw [hf]; exact h)
      | scr ns => exact viaL (by unfold iOf; rw [hf]; exact h)
      | t l => exact h.elim
      | d x =>
        cases x with
        | tup ds => exact (di_tup (tg := tg) he).run pins s σ H R I ⟨m, sl, st, hs, hc, by unfold iOf; rw [hf]; exact h⟩
        | str x => exact (di_str (tg := tg) he).run pins s σ H R I ⟨m, sl, st, hs, hc, by unfold iOf; rw [hf]; exact h⟩
        | lst ds => exact viaL (by unfold iOf; rw [hf]; exact h)
        | non => exact h.elim
        | bl _ => exact h.elim
        | int _ => exact h.elim
        | obj _ _ => exact h.elim
        | emp => exact h.elim
        | exn _ _ => exact h.elim
def eTold (sort : Str → List (Str × D) → Option D) (fb : Ex) : Ex := fun sl st => match fb sl st with
  | some (.ok (.d x), st1) => some (.ok (.d (.lst [.str "given", x])), st1)
  | some (.exc c fs, st1) => (match sort c fs with
    | some r => some (.ok (.d r), st1)
    | none => none)
  | _ => none
end
def lawSp (K : PySem.W.Frag) (Tb : List (Addr × Str)) : Sp := fun vs H Q _ => ∃ (a : Addr) (ns : List Int), vs = [.ref a] ∧ SqL K H a (ns.map V.int) ∧ ns.length ≤ 63 ∧ Tabs Tb H ∧ ∀ H', Q (.bl true) H'
theorem lawG {P : Program} {w : World} {K : PySem.W.Frag} {mg : Str → Option Value} {T : List (Addr × Str)} {base : Heap} {k : Nat} {f : Addr} {fd : FuncData} {x : Str} {spec : Spec}
    (F : FnG P w K mg base (L2.CX P w) k f fd [x] (spD ⟨K, mg, T, w⟩ 1 spec)) (h : ∀ ns : List Int, ns.length ≤ 63 → ∃ st, spec [.scr ns] [] = some (.ok (.d (.bl true)), st)) : FnG P w K mg base CX0 k f fd [x] (lawSp K T) := by
  refine ⟨fun vs H Q E q => ?_, fun A hg hr outer s H e0 args us vs Q E bt r q => ?_⟩
  · obtain ⟨a, ns, rfl, _⟩ := q
    rfl
  · obtain ⟨a, ns, rfl, sq, hl, tb, q⟩ := q
    obtain ⟨st, hs⟩ := h ns hl
    have hsp : spD ⟨K, mg, T, w⟩ 1 spec [.ref a] H Q E0 := by
      refine ⟨⟨[], []⟩, [.scr ns], [], .cons ⟨a, rfl, Nat.le_trans hl (by decide), ?_⟩ .nil, ⟨rfl, List.nodup_nil, fun i a c h1 _ => ?_, tb, fun a ha => nomatch ha⟩, rfl, ?_⟩
      · rcases sq with (sq | sq) | sq
        · exact .inl ⟨sq, fun z => nomatch z⟩
        · exact .inr (.inl sq)
        · exact .inr (.inr sq)
      · have h1 : ([] : List Addr)[i]? = some a := h1
        rw [List.getElem?_nil] at h1
        cases h1
      · rw [hs]
        intro v H' m' _ _ rv
        have rv : Rp _ _ _ v (.bl true) := rv
        cases rv
        exact q H'
    apply codeAny_mono (F.gRun A hg hr outer s H e0 args us [.ref a] Q E0 bt r hsp)
    intro res s2 z
    match res, z with
    | .ok (.ret u), z => exact z
    | .ok .next, z => exact z
    | .ok .brk, z => exact z
    | .ok .cont, z => exact z
    | .error e, z =>
      obtain ⟨_, _, _, _, _, _, _, _, _, _, _, _, no⟩ := z
      exact no
end Dn
namespace Dn
open PySem PySem.Spec PyProof.Rows L2 Ft LamX
abbrev HasL (P : Program) (w : World) (K : PySem.W.Frag) (mg : Str → Option Value) (base : Heap) (T : List (Addr × Str)) (k : Nat) (x : Str) (ps : List Str) (spec : Spec) : Prop := Has P w K mg base (L2.CX P w) k x ps (spD ⟨K, mg, T, w⟩ ps.length spec)
section
variable {X : Cx} {T : List (Addr × Str)} {E : WX} {k : Nat} {x c mth fld : Str} {ps ks : List Str} {spec : Spec} {p pos apos : Pos} {e o : Expr} {es : List Expr} {kws : List Keyword} {fo : Ex} {fr fk : Ax} {g : {α : Type} → List α → List α → List α}
end
def txts : List D → Option (List Str)
  | [] => some []
  | .str x :: ds => (txts ds).map (x :: ·)
  | _ => none
def eS1 (g : Str → D → Option D) (fo fe : Ex) : Ex := fun sl st => bnd (fo sl st) fun w st1 => match w with
  | .d (.str a) => bnd (fe sl st1) fun w2 st2 => (match viewL st2 w2 with
    | some d => pr st2 (g a d)
    | none => none)
  | _ => none
def swapG {α : Type} (us ws : List α) : List α := match us, ws with
  | [], [a, b] => [b, a]
  | _, _ => []
def appG {α : Type} (us ws : List α) : List α := us ++ ws
end Dn
namespace Dn
open PySem PySem.Spec PyProof.Rows L2 Ft LamX
section
variable {P : Program} {w : World} {K : PySem.W.Frag} {mg : Str → Option Value} {base : Heap} {T : List (Addr × Str)} {x qual c mth : Str} {st : Stmt} {f C : Addr} {fd : FuncData} {ps ks : List Str} {k n : Nat} {spec : Spec} {g : {α : Type} → List α → List α → List α}
end
theorem lookup_mem {α : Type} [BEq α] [LawfulBEq α] {β : Type} {l : List (α × β)} {a : α} {b : β} (h : l.lookup a = some b) : (a, b) ∈ l := by
  induction l with
  | nil => cases h
  | cons p l ih =>
    obtain ⟨x, y⟩ := p
    rw [List.lookup_cons] at h
    cases hb : (a == x) with
    | true => rw [hb] at h; cases h; rw [eq_of_beq hb]; exact List.mem_cons_self
    | false => rw [hb] at h; exact List.mem_cons_of_mem _ (ih h)
end Dn
namespace Dn
open PySem L2
abbrev XP := Str → List (Str × D) → Sto → Prop
def wp {α : Type} (r : R α) (Q : α → Sto → Prop) (X : XP) : Prop := match r with
  | some (.ok a, st) => Q a st
  | some (.exc c fs, st) => X c fs st
  | none => False
structure En where
  rt : W → Sto → Prop
  ex : Str → List (Str × D) → Slo → Sto → Prop
  bk : Slo → Sto → Prop
  ct : Slo → Sto → Prop
def wps (r : RS) (N : Slo → Sto → Prop) (E : En) : Prop := match r with
  | none => False
  | some (.nx, sl, st) => N sl st
  | some (.rt w, _, st) => E.rt w st
  | some (.ex c fs, sl, st) => E.ex c fs sl st
  | some (.bk, sl, st) => E.bk sl st
  | some (.ct, sl, st) => E.ct sl st
def wpo {α : Type} (o : Option α) (k : α → Prop) : Prop := match o with
  | some a => k a
  | none => False
def wpd (w : W) (k : D → Prop) : Prop := match w with
  | .d x => k x
  | _ => False
def wpc (w : W) (k : Nat → Prop) : Prop := match w with
  | .c x => k x
  | _ => False
def wpi (d : D) (k : Int → Prop) : Prop := match d with
  | .int x => k x
  | _ => False
def wpb (d : D) (k : Bool → Prop) : Prop := match d with
  | .bl x => k x
  | _ => False
def wpt (d : D) (k : List D → Prop) : Prop := match d with
  | .tup x => k x
  | _ => False
def wpj (d : D) (k : Str → List (Str × D) → Prop) : Prop := match d with
  | .obj c x => k c x
  | _ => False
def wps1 (d : D) (k : Str → Prop) : Prop := match d with
  | .str x => k x
  | _ => False
def wpl (c : Cell) (k : List D → Prop) : Prop := match c with
  | .lst x => k x
  | _ => False
def wpn (c : Cell) (k : Str → List (Str × D) → Prop) : Prop := match c with
  | .ins c x => k c x
  | _ => False
section
variable {α β : Type} {Q Q' : α → Sto → Prop} {X X' : XP} {N N' : Slo → Sto → Prop} {En1 : En}
theorem wp_ok {a : α} {st : Sto} : wp (some (.ok a, st)) Q X = Q a st := rfl
theorem wp_exc {c : Str} {fs : List (Str × D)} {st : Sto} : wp (α := α) (some (.exc c fs, st)) Q X = X c fs st := rfl
theorem wp_none : wp (α := α) none Q X = False := rfl
theorem wpo_some {a : α} {k : α → Prop} : wpo (some a) k = k a := rfl
theorem wpo_none {k : α → Prop} : wpo none k = False := rfl
theorem wpo_ite {p : Prop} [Decidable p] {a : α} {k : α → Prop} : wpo (if p then some a else none) k = (p ∧ k a) := by
  by_cases h : p
  · rw [if_pos h]; simp only [h, true_and]; rfl
  · rw [if_neg h]; simp only [h, false_and]; rfl
theorem wpo_map {f : β → α} {o : Option β} {k : α → Prop} : wpo (o.map f) k = wpo o fun b => k (f b) := by cases o <;> rfl
theorem wpo_bind {f : β → Option α} {o : Option β} {k : α → Prop} : wpo (o.bind f) k = wpo o fun b => wpo (f b) k := by cases o <;> rfl
theorem wpd_d {x : D} {k : D → Prop} : wpd (.d x) k = k x := rfl
theorem wpd_c {x : Nat} {k : D → Prop} : wpd (.c x) k = False := rfl
theorem wpc_c {x : Nat} {k : Nat → Prop} : wpc (.c x) k = k x := rfl
theorem wpi_int {x : Int} {k : Int → Prop} : wpi (.int x) k = k x := rfl
theorem wpb_bl {x : Bool} {k : Bool → Prop} : wpb (.bl x) k = k x := rfl
theorem wpt_tup {x : List D} {k : List D → Prop} : wpt (.tup x) k = k x := rfl
theorem wpj_obj {c : Str} {x : List (Str × D)} {k : Str → List (Str × D) → Prop} : wpj (.obj c x) k = k c x := rfl
theorem wpl_lst {x : List D} {k : List D → Prop} : wpl (.lst x) k = k x := rfl
theorem wpn_ins {c : Str} {x : List (Str × D)} {k : Str → List (Str × D) → Prop} : wpn (.ins c x) k = k c x := rfl
theorem wp_imp {r : R α} (h : wp r Q X) (hq : ∀ a st, Q a st → Q' a st) (hx : ∀ c fs st, X c fs st → X' c fs st) : wp r Q' X' := by
  unfold wp at h ⊢
  split at h
  · exact hq _ _ h
  · exact hx _ _ _ h
  · cases h
theorem wp_of {r : R α} (h : wp r Q X) : (∃ a st, r = some (.ok a, st) ∧ Q a st) ∨ ∃ c fs st, r = some (.exc c fs, st) ∧ X c fs st := by
  unfold wp at h
  split at h
  · exact .inl ⟨_, _, rfl, h⟩
  · exact .inr ⟨_, _, _, rfl, h⟩
  · cases h
theorem wp_bnd {r : R β} {k : β → Sto → R α} : wp (bnd r k) Q X = wp r (fun a st => wp (k a st) Q X) X := by
  unfold bnd wp; cases r with
  | none => rfl
  | some z => obtain ⟨o, st⟩ := z; cases o <;> rfl
theorem wp_noX {r : R β} {k : β → Sto → R α} : wp (noX r k) Q X = wp r (fun a st => wp (k a st) Q X) (fun _ _ _ => False) := by
  unfold noX wp; cases r with
  | none => rfl
  | some z => obtain ⟨o, st⟩ := z; cases o <;> rfl
theorem wps_stm {r : R β} {sl : Slo} {k : β → Sto → RS} : wps (stm r sl k) N En1 = wp r (fun a st => wps (k a st) N En1) (fun c fs st => En1.ex c fs sl st) := by
  unfold stm wp wps; cases r with
  | none => rfl
  | some z => obtain ⟨o, st⟩ := z; cases o <;> rfl
variable {sl : Slo} {st : Sto} {fa fb fc : Ex} {fr fk : Ax} {tt tu : Tx} {f g : Sm} {QW : W → Sto → Prop} {QA : List W → Sto → Prop} {QB : Bool → Sto → Prop}
end
def kOp2 (g : D → D → Option D) (w1 : W) (QW : W → Sto → Prop) (w2 : W) (st2 : Sto) : Prop := wpo (view st2 w1) fun a => wpo (view st2 w2) fun b => wpo (g a b) fun d => QW (.d d) st2
theorem kOp2_ap (g : D → D → Option D) (w1 : W) (QW : W → Sto → Prop) (w2 : W) (st2 : Sto) : kOp2 g w1 QW w2 st2 = (wpo (view st2 w1) fun a => wpo (view st2 w2) fun b => wpo (g a b) fun d => QW (.d d) st2) := rfl
def kIx2 (g : D → D → Option D) (w1 : W) (QW : W → Sto → Prop) (w2 : W) (st2 : Sto) : Prop := wpo (viewL st2 w1) fun a => wpo (view st2 w2) fun b => wpo (g a b) fun d => QW (.d d) st2
theorem kIx2_ap (g : D → D → Option D) (w1 : W) (QW : W → Sto → Prop) (w2 : W) (st2 : Sto) : kIx2 g w1 QW w2 st2 = (wpo (viewL st2 w1) fun a => wpo (view st2 w2) fun b => wpo (g a b) fun d => QW (.d d) st2) := rfl
def kCons2 (w : W) (QA : List W → Sto → Prop) (ws : List W) (st2 : Sto) : Prop := QA (w :: ws) st2
theorem kCons2_ap (w : W) (QA : List W → Sto → Prop) (ws : List W) (st2 : Sto) : kCons2 w QA ws st2 = (QA (w :: ws) st2) := rfl
def kCmp2 (g : D → D → Option D) (w1 : W) (QB : Bool → Sto → Prop) (w2 : W) (st2 : Sto) : Prop := wpo (view st2 w1) fun a => wpo (view st2 w2) fun b => wpo (g a b) fun d => wpb d fun k => QB k st2
theorem kCmp2_ap (g : D → D → Option D) (w1 : W) (QB : Bool → Sto → Prop) (w2 : W) (st2 : Sto) : kCmp2 g w1 QB w2 st2 = (wpo (view st2 w1) fun a => wpo (view st2 w2) fun b => wpo (g a b) fun d => wpb d fun k => QB k st2) := rfl
def kChain3 (g' : D → D → Option D) (w2 : W) (QW : W → Sto → Prop) (w3 : W) (st4 : Sto) : Prop := wpo (view st4 w2) fun b' => wpo (view st4 w3) fun c => wpo (g' b' c) fun d => QW (.d d) st4
theorem kChain3_ap (g' : D → D → Option D) (w2 : W) (QW : W → Sto → Prop) (w3 : W) (st4 : Sto) : kChain3 g' w2 QW w3 st4 = (wpo (view st4 w2) fun b' => wpo (view st4 w3) fun c => wpo (g' b' c) fun d => QW (.d d) st4) := rfl
def kChain2 (g g' : D → D → Option D) (fc : Ex) (sl : Slo) (w1 : W) (QW : W → Sto → Prop) (X : XP) (w2 : W) (st2 : Sto) : Prop := wpo (view st2 w1) fun a => wpo (view st2 w2) fun b => wpo (g a b) fun d => wpb d fun k => if k = true then wp (fc sl st2) (kChain3 g' w2 QW) X else QW (.d (.bl false)) st2
theorem kChain2_ap (g g' : D → D → Option D) (fc : Ex) (sl : Slo) (w1 : W) (QW : W → Sto → Prop) (X : XP) (w2 : W) (st2 : Sto) : kChain2 g g' fc sl w1 QW X w2 st2 = (wpo (view st2 w1) fun a => wpo (view st2 w2) fun b => wpo (g a b) fun d => wpb d fun k => if k = true then wp (fc sl st2) (kChain3 g' w2 QW) X else QW (.d (.bl false)) st2) := rfl
def kSl3 (g : D → Option Int → Option Int → Option D) (w : W) (l : Option Int) (QW : W → Sto → Prop) (u : Option Int) (st3 : Sto) : Prop := wpo (viewL st3 w) fun d => wpo (g d l u) fun r => QW (.d r) st3
theorem kSl3_ap (g : D → Option Int → Option Int → Option D) (w : W) (l : Option Int) (QW : W → Sto → Prop) (u : Option Int) (st3 : Sto) : kSl3 g w l QW u st3 = (wpo (viewL st3 w) fun d => wpo (g d l u) fun r => QW (.d r) st3) := rfl
def kSl2 (g : D → Option Int → Option Int → Option D) (fh : Px) (sl : Slo) (w : W) (QW : W → Sto → Prop) (X : XP) (l : Option Int) (st2 : Sto) : Prop := wp (fh sl st2) (kSl3 g w l QW) X
theorem kSl2_ap (g : D → Option Int → Option Int → Option D) (fh : Px) (sl : Slo) (w : W) (QW : W → Sto → Prop) (X : XP) (l : Option Int) (st2 : Sto) : kSl2 g fh sl w QW X l st2 = (wp (fh sl st2) (kSl3 g w l QW) X) := rfl
def kApp2 (w : W) (QW : W → Sto → Prop) (x : W) (st2 : Sto) : Prop := wpc w fun n => wpd x fun d => wpo st2[n]? fun c => wpl c fun ds => ds.length < lim ∧ QW (.d .non) (st2.set n (.lst (ds ++ [d])))
theorem kApp2_ap (w : W) (QW : W → Sto → Prop) (x : W) (st2 : Sto) : kApp2 w QW x st2 = (wpc w fun n => wpd x fun d => wpo st2[n]? fun c => wpl c fun ds => ds.length < lim ∧ QW (.d .non) (st2.set n (.lst (ds ++ [d])))) := rfl
def kMeth2 (spec : Spec) (w : W) (QW : W → Sto → Prop) (X : XP) (ws : List W) (st2 : Sto) : Prop := wp (spec (w :: ws) st2) QW X
theorem kMeth2_ap (spec : Spec) (w : W) (QW : W → Sto → Prop) (X : XP) (ws : List W) (st2 : Sto) : kMeth2 spec w QW X ws st2 = (wp (spec (w :: ws) st2) QW X) := rfl
def kMethK2 (spec : Spec) (gg : List W → List W → List W) (l : Nat) (w : W) (QW : W → Sto → Prop) (X : XP) (zs : List W) (st2 : Sto) : Prop := zs.length = l ∧ wp (spec (gg [w] zs) st2) QW X
theorem kMethK2_ap (spec : Spec) (gg : List W → List W → List W) (l : Nat) (w : W) (QW : W → Sto → Prop) (X : XP) (zs : List W) (st2 : Sto) : kMethK2 spec gg l w QW X zs st2 = (zs.length = l ∧ wp (spec (gg [w] zs) st2) QW X) := rfl
def kFnK2 (spec : Spec) (gg : List W → List W → List W) (n l : Nat) (ws : List W) (QW : W → Sto → Prop) (X : XP) (zs : List W) (st2 : Sto) : Prop := (ws.length = n ∧ zs.length = l) ∧ wp (spec (gg ws zs) st2) QW X
theorem kFnK2_ap (spec : Spec) (gg : List W → List W → List W) (n l : Nat) (ws : List W) (QW : W → Sto → Prop) (X : XP) (zs : List W) (st2 : Sto) : kFnK2 spec gg n l ws QW X zs st2 = ((ws.length = n ∧ zs.length = l) ∧ wp (spec (gg ws zs) st2) QW X) := rfl
def kNewK2 (c : Str) (spec : Spec) (gg : List W → List W → List W) (n l : Nat) (ws : List W) (QW : W → Sto → Prop) (X : XP) (zs : List W) (st2 : Sto) : Prop := (ws.length = n ∧ zs.length = l) ∧ wp (made c st2.length (spec (.c st2.length :: gg ws zs) (st2 ++ [.ins c []]))) QW X
theorem kNewK2_ap (c : Str) (spec : Spec) (gg : List W → List W → List W) (n l : Nat) (ws : List W) (QW : W → Sto → Prop) (X : XP) (zs : List W) (st2 : Sto) : kNewK2 c spec gg n l ws QW X zs st2 = ((ws.length = n ∧ zs.length = l) ∧ wp (made c st2.length (spec (.c st2.length :: gg ws zs) (st2 ++ [.ins c []]))) QW X) := rfl
def kS12 (g : Str → D → Option D) (a : Str) (QW : W → Sto → Prop) (w2 : W) (st2 : Sto) : Prop := wpo (viewL st2 w2) fun e => wpo (g a e) fun r => QW (.d r) st2
theorem kS12_ap (g : Str → D → Option D) (a : Str) (QW : W → Sto → Prop) (w2 : W) (st2 : Sto) : kS12 g a QW w2 st2 = (wpo (viewL st2 w2) fun e => wpo (g a e) fun r => QW (.d r) st2) := rfl
def kOp (g : D → D → Option D) (fb : Ex) (sl : Slo) (QW : W → Sto → Prop) (X : XP) (w1 : W) (st1 : Sto) : Prop := wp (fb sl st1) (kOp2 g w1 QW) X
theorem kOp_ap (g : D → D → Option D) (fb : Ex) (sl : Slo) (QW : W → Sto → Prop) (X : XP) (w1 : W) (st1 : Sto) : kOp g fb sl QW X w1 st1 = (wp (fb sl st1) (kOp2 g w1 QW) X) := rfl
def kIx (g : D → D → Option D) (fb : Ex) (sl : Slo) (QW : W → Sto → Prop) (X : XP) (w1 : W) (st1 : Sto) : Prop := wp (fb sl st1) (kIx2 g w1 QW) X
theorem kIx_ap (g : D → D → Option D) (fb : Ex) (sl : Slo) (QW : W → Sto → Prop) (X : XP) (w1 : W) (st1 : Sto) : kIx g fb sl QW X w1 st1 = (wp (fb sl st1) (kIx2 g w1 QW) X) := rfl
def kUn (g : D → Option D) (QW : W → Sto → Prop) (X : XP) (w1 : W) (st1 : Sto) : Prop := wpo (view st1 w1) fun a => wpo (g a) fun d => QW (.d d) st1
theorem kUn_ap (g : D → Option D) (QW : W → Sto → Prop) (X : XP) (w1 : W) (st1 : Sto) : kUn g QW X w1 st1 = (wpo (view st1 w1) fun a => wpo (g a) fun d => QW (.d d) st1) := rfl
def kCons (fr : Ax) (sl : Slo) (QA : List W → Sto → Prop) (X : XP) (w : W) (st1 : Sto) : Prop := wp (fr sl st1) (kCons2 w QA) X
theorem kCons_ap (fr : Ax) (sl : Slo) (QA : List W → Sto → Prop) (X : XP) (w : W) (st1 : Sto) : kCons fr sl QA X w st1 = (wp (fr sl st1) (kCons2 w QA) X) := rfl
def kCall (g : List D → Option D) (QW : W → Sto → Prop) (X : XP) (ws : List W) (st1 : Sto) : Prop := wpo (views st1 ws) fun ds => wpo (g ds) fun d => QW (.d d) st1
theorem kCall_ap (g : List D → Option D) (QW : W → Sto → Prop) (X : XP) (ws : List W) (st1 : Sto) : kCall g QW X ws st1 = (wpo (views st1 ws) fun ds => wpo (g ds) fun d => QW (.d d) st1) := rfl
def kTup (QW : W → Sto → Prop) (X : XP) (ws : List W) (st1 : Sto) : Prop := wpo (pures ws) fun ds => ds.length ≤ lim ∧ QW (.d (.tup ds)) st1
theorem kTup_ap (QW : W → Sto → Prop) (X : XP) (ws : List W) (st1 : Sto) : kTup QW X ws st1 = (wpo (pures ws) fun ds => ds.length ≤ lim ∧ QW (.d (.tup ds)) st1) := rfl
def kLst (QW : W → Sto → Prop) (X : XP) (ws : List W) (st1 : Sto) : Prop := wpo (pures ws) fun ds => ds.length ≤ lim ∧ QW (.d (.lst ds)) st1
theorem kLst_ap (QW : W → Sto → Prop) (X : XP) (ws : List W) (st1 : Sto) : kLst QW X ws st1 = (wpo (pures ws) fun ds => ds.length ≤ lim ∧ QW (.d (.lst ds)) st1) := rfl
def kCell (QW : W → Sto → Prop) (X : XP) (ws : List W) (st1 : Sto) : Prop := wpo (pures ws) fun ds => ds.length ≤ lim ∧ QW (.c st1.length) (st1 ++ [.lst ds])
theorem kCell_ap (QW : W → Sto → Prop) (X : XP) (ws : List W) (st1 : Sto) : kCell QW X ws st1 = (wpo (pures ws) fun ds => ds.length ≤ lim ∧ QW (.c st1.length) (st1 ++ [.lst ds])) := rfl
def kTOf (QB : Bool → Sto → Prop) (X : XP) (w : W) (st1 : Sto) : Prop := wpo (view st1 w) fun d => wpo (truD d) fun k => QB k st1
theorem kTOf_ap (QB : Bool → Sto → Prop) (X : XP) (w : W) (st1 : Sto) : kTOf QB X w st1 = (wpo (view st1 w) fun d => wpo (truD d) fun k => QB k st1) := rfl
def kTBl (QB : Bool → Sto → Prop) (X : XP) (w : W) (st1 : Sto) : Prop := wpd w fun d => wpb d fun k => QB k st1
theorem kTBl_ap (QB : Bool → Sto → Prop) (X : XP) (w : W) (st1 : Sto) : kTBl QB X w st1 = (wpd w fun d => wpb d fun k => QB k st1) := rfl
def kCmp (g : D → D → Option D) (fb : Ex) (sl : Slo) (QB : Bool → Sto → Prop) (X : XP) (w1 : W) (st1 : Sto) : Prop := wp (fb sl st1) (kCmp2 g w1 QB) X
theorem kCmp_ap (g : D → D → Option D) (fb : Ex) (sl : Slo) (QB : Bool → Sto → Prop) (X : XP) (w1 : W) (st1 : Sto) : kCmp g fb sl QB X w1 st1 = (wp (fb sl st1) (kCmp2 g w1 QB) X) := rfl
def kNot (QB : Bool → Sto → Prop) (X : XP) (k : Bool) (st1 : Sto) : Prop := QB (!k) st1
theorem kNot_ap (QB : Bool → Sto → Prop) (X : XP) (k : Bool) (st1 : Sto) : kNot QB X k st1 = (QB (!k) st1) := rfl
def kAnd (tu : Tx) (sl : Slo) (QB : Bool → Sto → Prop) (X : XP) (k : Bool) (st1 : Sto) : Prop := if k = true then wp (tu sl st1) QB X else QB false st1
theorem kAnd_ap (tu : Tx) (sl : Slo) (QB : Bool → Sto → Prop) (X : XP) (k : Bool) (st1 : Sto) : kAnd tu sl QB X k st1 = (if k = true then wp (tu sl st1) QB X else QB false st1) := rfl
def kOr (tu : Tx) (sl : Slo) (QB : Bool → Sto → Prop) (X : XP) (k : Bool) (st1 : Sto) : Prop := if k = true then QB true st1 else wp (tu sl st1) QB X
theorem kOr_ap (tu : Tx) (sl : Slo) (QB : Bool → Sto → Prop) (X : XP) (k : Bool) (st1 : Sto) : kOr tu sl QB X k st1 = (if k = true then QB true st1 else wp (tu sl st1) QB X) := rfl
def kEIf (fa fb : Ex) (sl : Slo) (QW : W → Sto → Prop) (X : XP) (k : Bool) (st1 : Sto) : Prop := if k = true then wp (fa sl st1) QW X else wp (fb sl st1) QW X
theorem kEIf_ap (fa fb : Ex) (sl : Slo) (QW : W → Sto → Prop) (X : XP) (k : Bool) (st1 : Sto) : kEIf fa fb sl QW X k st1 = (if k = true then wp (fa sl st1) QW X else wp (fb sl st1) QW X) := rfl
def kENot (QW : W → Sto → Prop) (X : XP) (w : W) (st1 : Sto) : Prop := wpo (view st1 w) fun d => wpo (truD d) fun k => QW (.d (.bl (!k))) st1
theorem kENot_ap (QW : W → Sto → Prop) (X : XP) (w : W) (st1 : Sto) : kENot QW X w st1 = (wpo (view st1 w) fun d => wpo (truD d) fun k => QW (.d (.bl (!k))) st1) := rfl
def kEAnd (fb : Ex) (sl : Slo) (QW : W → Sto → Prop) (X : XP) (w : W) (st1 : Sto) : Prop := wpo (view st1 w) fun d => wpo (truD d) fun k => if k = true then wp (fb sl st1) QW X else QW w st1
theorem kEAnd_ap (fb : Ex) (sl : Slo) (QW : W → Sto → Prop) (X : XP) (w : W) (st1 : Sto) : kEAnd fb sl QW X w st1 = (wpo (view st1 w) fun d => wpo (truD d) fun k => if k = true then wp (fb sl st1) QW X else QW w st1) := rfl
def kEOr (fb : Ex) (sl : Slo) (QW : W → Sto → Prop) (X : XP) (w : W) (st1 : Sto) : Prop := wpo (view st1 w) fun d => wpo (truD d) fun k => if k = true then QW w st1 else wp (fb sl st1) QW X
theorem kEOr_ap (fb : Ex) (sl : Slo) (QW : W → Sto → Prop) (X : XP) (w : W) (st1 : Sto) : kEOr fb sl QW X w st1 = (wpo (view st1 w) fun d => wpo (truD d) fun k => if k = true then QW w st1 else wp (fb sl st1) QW X) := rfl
def kChain (g g' : D → D → Option D) (fb fc : Ex) (sl : Slo) (QW : W → Sto → Prop) (X : XP) (w1 : W) (st1 : Sto) : Prop := wp (fb sl st1) (kChain2 g g' fc sl w1 QW X) X
theorem kChain_ap (g g' : D → D → Option D) (fb fc : Ex) (sl : Slo) (QW : W → Sto → Prop) (X : XP) (w1 : W) (st1 : Sto) : kChain g g' fb fc sl QW X w1 st1 = (wp (fb sl st1) (kChain2 g g' fc sl w1 QW X) X) := rfl
def kPSome (QP : Option Int → Sto → Prop) (X : XP) (w : W) (st1 : Sto) : Prop := wpd w fun d => wpi d fun i => QP (some i) st1
theorem kPSome_ap (QP : Option Int → Sto → Prop) (X : XP) (w : W) (st1 : Sto) : kPSome QP X w st1 = (wpd w fun d => wpi d fun i => QP (some i) st1) := rfl
def kSl (g : D → Option Int → Option Int → Option D) (fl fh : Px) (sl : Slo) (QW : W → Sto → Prop) (X : XP) (w : W) (st1 : Sto) : Prop := wp (fl sl st1) (kSl2 g fh sl w QW X) X
theorem kSl_ap (g : D → Option Int → Option Int → Option D) (fl fh : Px) (sl : Slo) (QW : W → Sto → Prop) (X : XP) (w : W) (st1 : Sto) : kSl g fl fh sl QW X w st1 = (wp (fl sl st1) (kSl2 g fh sl w QW X) X) := rfl
def kFn (spec : Spec) (QW : W → Sto → Prop) (X : XP) (ws : List W) (st1 : Sto) : Prop := wp (spec ws st1) QW X
theorem kFn_ap (spec : Spec) (QW : W → Sto → Prop) (X : XP) (ws : List W) (st1 : Sto) : kFn spec QW X ws st1 = (wp (spec ws st1) QW X) := rfl
def kApp (fb : Ex) (sl : Slo) (QW : W → Sto → Prop) (X : XP) (w : W) (st1 : Sto) : Prop := wp (fb sl st1) (kApp2 w QW) X
theorem kApp_ap (fb : Ex) (sl : Slo) (QW : W → Sto → Prop) (X : XP) (w : W) (st1 : Sto) : kApp fb sl QW X w st1 = (wp (fb sl st1) (kApp2 w QW) X) := rfl
def kIsCell (QW : W → Sto → Prop) (X : XP) (w : W) (st1 : Sto) : Prop := wpc w fun n => wpo st1[n]? fun c => wpl c fun _ => QW (.c n) st1
theorem kIsCell_ap (QW : W → Sto → Prop) (X : XP) (w : W) (st1 : Sto) : kIsCell QW X w st1 = (wpc w fun n => wpo st1[n]? fun c => wpl c fun _ => QW (.c n) st1) := rfl
def kMeth (c m : Str) (spec : Spec) (fr : Ax) (sl : Slo) (QW : W → Sto → Prop) (X : XP) (w : W) (st1 : Sto) : Prop := wpo (view st1 w) fun d => wpj d fun c' gs => (c' = c ∧ gs.lookup m = none) ∧ wp (fr sl st1) (kMeth2 spec w QW X) X
theorem kMeth_ap (c m : Str) (spec : Spec) (fr : Ax) (sl : Slo) (QW : W → Sto → Prop) (X : XP) (w : W) (st1 : Sto) : kMeth c m spec fr sl QW X w st1 = (wpo (view st1 w) fun d => wpj d fun c' gs => (c' = c ∧ gs.lookup m = none) ∧ wp (fr sl st1) (kMeth2 spec w QW X) X) := rfl
def kMethK (c m : Str) (spec : Spec) (gg : List W → List W → List W) (l : Nat) (fk : Ax) (sl : Slo) (QW : W → Sto → Prop) (X : XP) (w : W) (st1 : Sto) : Prop := wpo (view st1 w) fun d => wpj d fun c' gs => (c' = c ∧ gs.lookup m = none) ∧ wp (fk sl st1) (kMethK2 spec gg l w QW X) X
theorem kMethK_ap (c m : Str) (spec : Spec) (gg : List W → List W → List W) (l : Nat) (fk : Ax) (sl : Slo) (QW : W → Sto → Prop) (X : XP) (w : W) (st1 : Sto) : kMethK c m spec gg l fk sl QW X w st1 = (wpo (view st1 w) fun d => wpj d fun c' gs => (c' = c ∧ gs.lookup m = none) ∧ wp (fk sl st1) (kMethK2 spec gg l w QW X) X) := rfl
def kFnK (spec : Spec) (gg : List W → List W → List W) (n l : Nat) (fk : Ax) (sl : Slo) (QW : W → Sto → Prop) (X : XP) (ws : List W) (st1 : Sto) : Prop := wp (fk sl st1) (kFnK2 spec gg n l ws QW X) X
theorem kFnK_ap (spec : Spec) (gg : List W → List W → List W) (n l : Nat) (fk : Ax) (sl : Slo) (QW : W → Sto → Prop) (X : XP) (ws : List W) (st1 : Sto) : kFnK spec gg n l fk sl QW X ws st1 = (wp (fk sl st1) (kFnK2 spec gg n l ws QW X) X) := rfl
def kNew (c : Str) (spec : Spec) (QW : W → Sto → Prop) (X : XP) (ws : List W) (st1 : Sto) : Prop := wp (made c st1.length (spec (.c st1.length :: ws) (st1 ++ [.ins c []]))) QW X
theorem kNew_ap (c : Str) (spec : Spec) (QW : W → Sto → Prop) (X : XP) (ws : List W) (st1 : Sto) : kNew c spec QW X ws st1 = (wp (made c st1.length (spec (.c st1.length :: ws) (st1 ++ [.ins c []]))) QW X) := rfl
def kNewK (c : Str) (spec : Spec) (gg : List W → List W → List W) (n l : Nat) (fk : Ax) (sl : Slo) (QW : W → Sto → Prop) (X : XP) (ws : List W) (st1 : Sto) : Prop := wp (fk sl st1) (kNewK2 c spec gg n l ws QW X) X
theorem kNewK_ap (c : Str) (spec : Spec) (gg : List W → List W → List W) (n l : Nat) (fk : Ax) (sl : Slo) (QW : W → Sto → Prop) (X : XP) (ws : List W) (st1 : Sto) : kNewK c spec gg n l fk sl QW X ws st1 = (wp (fk sl st1) (kNewK2 c spec gg n l ws QW X) X) := rfl
def kS1 (g : Str → D → Option D) (fb : Ex) (sl : Slo) (QW : W → Sto → Prop) (X : XP) (w : W) (st1 : Sto) : Prop := wpd w fun d => wps1 d fun a => wp (fb sl st1) (kS12 g a QW) X
theorem kS1_ap (g : Str → D → Option D) (fb : Ex) (sl : Slo) (QW : W → Sto → Prop) (X : XP) (w : W) (st1 : Sto) : kS1 g fb sl QW X w st1 = (wpd w fun d => wps1 d fun a => wp (fb sl st1) (kS12 g a QW) X) := rfl
def kFin (n : Nat) (fr : Bool) (Q : W → Sto → Prop) (X : XP) (w : W) (st' : Sto) : Prop := wp (fin fr n w st') Q X
theorem kFin_ap (n : Nat) (fr : Bool) (Q : W → Sto → Prop) (X : XP) (w : W) (st' : Sto) : kFin n fr Q X w st' = (wp (fin fr n w st') Q X) := rfl
def kEx (n : Nat) (X : XP) (c : Str) (fs : List (Str × D)) (u2 : Slo) (st' : Sto) : Prop := X c fs (st'.take n)
theorem kEx_ap (n : Nat) (X : XP) (c : Str) (fs : List (Str × D)) (u2 : Slo) (st' : Sto) : kEx n X c fs u2 st' = (X c fs (st'.take n)) := rfl
def kEnd (n : Nat) (Q : W → Sto → Prop) (u0 : Slo) (st' : Sto) : Prop := Q (.d .non) (st'.take n)
theorem kEnd_ap (n : Nat) (Q : W → Sto → Prop) (u0 : Slo) (st' : Sto) : kEnd n Q u0 st' = (Q (.d .non) (st'.take n)) := rfl
def kNo  (u0 : Slo) (u1 : Sto) : Prop := False
theorem kNo_ap  (u0 : Slo) (u1 : Sto) : kNo u0 u1 = (False) := rfl
def kX (E : En) (sl : Slo) (c : Str) (fs : List (Str × D)) (st : Sto) : Prop := E.ex c fs sl st
theorem kX_ap (E : En) (sl : Slo) (c : Str) (fs : List (Str × D)) (st : Sto) : kX E sl c fs st = (E.ex c fs sl st) := rfl
def kSeq (g : Sm) (N : Slo → Sto → Prop) (E : En) (sl : Slo) (st : Sto) : Prop := wps (g sl st) N E
theorem kSeq_ap (g : Sm) (N : Slo → Sto → Prop) (E : En) (sl : Slo) (st : Sto) : kSeq g N E sl st = (wps (g sl st) N E) := rfl
def kExpr (sl : Slo) (N : Slo → Sto → Prop) (u0 : W) (st1 : Sto) : Prop := N sl st1
theorem kExpr_ap (sl : Slo) (N : Slo → Sto → Prop) (u0 : W) (st1 : Sto) : kExpr sl N u0 st1 = (N sl st1) := rfl
def kRet (E : En) (w : W) (st1 : Sto) : Prop := E.rt w st1
theorem kRet_ap (E : En) (w : W) (st1 : Sto) : kRet E w st1 = (E.rt w st1) := rfl
def kIf (f g : Sm) (sl : Slo) (N : Slo → Sto → Prop) (E : En) (k : Bool) (st1 : Sto) : Prop := if k = true then wps (f sl st1) N E else wps (g sl st1) N E
theorem kIf_ap (f g : Sm) (sl : Slo) (N : Slo → Sto → Prop) (E : En) (k : Bool) (st1 : Sto) : kIf f g sl N E k st1 = (if k = true then wps (f sl st1) N E else wps (g sl st1) N E) := rfl
def kSet (i : Nat) (sl : Slo) (N : Slo → Sto → Prop) (w : W) (st1 : Sto) : Prop := N (sl.set i (some w)) st1
theorem kSet_ap (i : Nat) (sl : Slo) (N : Slo → Sto → Prop) (w : W) (st1 : Sto) : kSet i sl N w st1 = (N (sl.set i (some w)) st1) := rfl
def wp2 (ws : List W) (k : W → W → Prop) : Prop := match ws with
  | [a, b] => k a b
  | _ => False
def wp1 (ws : List W) (k : W → Prop) : Prop := match ws with
  | [a] => k a
  | _ => False
def kPar (i j : Nat) (sl : Slo) (N : Slo → Sto → Prop) (ws : List W) (st1 : Sto) : Prop := wp2 ws fun a b => N ((sl.set i (some a)).set j (some b)) st1
theorem kPar_ap (i j : Nat) (sl : Slo) (N : Slo → Sto → Prop) (ws : List W) (st1 : Sto) : kPar i j sl N ws st1 = (wp2 ws fun a b => N ((sl.set i (some a)).set j (some b)) st1) := rfl
def kAsg (g : Tg) (sl : Slo) (N : Slo → Sto → Prop) (w : W) (st1 : Sto) : Prop := wpo (g w sl) fun sl1 => N sl1 st1
theorem kAsg_ap (g : Tg) (sl : Slo) (N : Slo → Sto → Prop) (w : W) (st1 : Sto) : kAsg g sl N w st1 = (wpo (g w sl) fun sl1 => N sl1 st1) := rfl
def kRaise (c fld : Str) (E : En) (sl : Slo) (ws : List W) (st1 : Sto) : Prop := wp1 ws fun w => wpd w fun x => E.ex c [(fld, x)] sl st1
theorem kRaise_ap (c fld : Str) (E : En) (sl : Slo) (ws : List W) (st1 : Sto) : kRaise c fld E sl ws st1 = (wp1 ws fun w => wpd w fun x => E.ex c [(fld, x)] sl st1) := rfl
def kFor (g : Tg) (body : Sm) (sl : Slo) (N : Slo → Sto → Prop) (E : En) (w : (List D × Option (Nat × List D))) (st1 : Sto) : Prop := wps (forL w.2 g body w.1 sl st1) N E
theorem kFor_ap (g : Tg) (body : Sm) (sl : Slo) (N : Slo → Sto → Prop) (E : En) (w : (List D × Option (Nat × List D))) (st1 : Sto) : kFor g body sl N E w st1 = (wps (forL w.2 g body w.1 sl st1) N E) := rfl
def kSetIx3 (wv wo : W) (sl : Slo) (N : Slo → Sto → Prop) (wi : W) (st3 : Sto) : Prop := wpc wo fun n => wpd wi fun k => wpi k fun k => wpd wv fun x => wpo st3[n]? fun c => wpl c fun ds => wpo (ixN ds.length k) fun j => N sl (st3.set n (.lst (ds.set j x)))
theorem kSetIx3_ap (wv wo : W) (sl : Slo) (N : Slo → Sto → Prop) (wi : W) (st3 : Sto) : kSetIx3 wv wo sl N wi st3 = (wpc wo fun n => wpd wi fun k => wpi k fun k => wpd wv fun x => wpo st3[n]? fun c => wpl c fun ds => wpo (ixN ds.length k) fun j => N sl (st3.set n (.lst (ds.set j x)))) := rfl
def kSetIx2 (fi : Ex) (wv : W) (sl : Slo) (N : Slo → Sto → Prop) (E : En) (wo : W) (st2 : Sto) : Prop := wp (fi sl st2) (kSetIx3 wv wo sl N) (kX E sl)
theorem kSetIx2_ap (fi : Ex) (wv : W) (sl : Slo) (N : Slo → Sto → Prop) (E : En) (wo : W) (st2 : Sto) : kSetIx2 fi wv sl N E wo st2 = (wp (fi sl st2) (kSetIx3 wv wo sl N) (kX E sl)) := rfl
def kSetIx1 (fo fi : Ex) (sl : Slo) (N : Slo → Sto → Prop) (E : En) (wv : W) (st1 : Sto) : Prop := wp (fo sl st1) (kSetIx2 fi wv sl N E) (kX E sl)
theorem kSetIx1_ap (fo fi : Ex) (sl : Slo) (N : Slo → Sto → Prop) (E : En) (wv : W) (st1 : Sto) : kSetIx1 fo fi sl N E wv st1 = (wp (fo sl st1) (kSetIx2 fi wv sl N E) (kX E sl)) := rfl
def kFld2 (c f : Str) (wv : W) (sl : Slo) (N : Slo → Sto → Prop) (wo : W) (st2 : Sto) : Prop := wpc wo fun n => wpd wv fun x => wpo st2[n]? fun cc => wpn cc fun c' gs => (c' = c ∧ gs.length < 1000) ∧ N sl (st2.set n (.ins c (putD f x gs)))
theorem kFld2_ap (c f : Str) (wv : W) (sl : Slo) (N : Slo → Sto → Prop) (wo : W) (st2 : Sto) : kFld2 c f wv sl N wo st2 = (wpc wo fun n => wpd wv fun x => wpo st2[n]? fun cc => wpn cc fun c' gs => (c' = c ∧ gs.length < 1000) ∧ N sl (st2.set n (.ins c (putD f x gs)))) := rfl
def kFld1 (c f : Str) (fo : Ex) (sl : Slo) (N : Slo → Sto → Prop) (E : En) (wv : W) (st1 : Sto) : Prop := wp (fo sl st1) (kFld2 c f wv sl N) (kX E sl)
theorem kFld1_ap (c f : Str) (fo : Ex) (sl : Slo) (N : Slo → Sto → Prop) (E : En) (wv : W) (st1 : Sto) : kFld1 c f fo sl N E wv st1 = (wp (fo sl st1) (kFld2 c f wv sl N) (kX E sl)) := rfl
def kI {β : Type} (k : W → Sto → R β) (Q : β → Sto → Prop) (X : XP) (w : W) (st : Sto) : Prop := wp (k w st) Q X
theorem kI_ap {β : Type} (k : W → Sto → R β) (Q : β → Sto → Prop) (X : XP) (w : W) (st : Sto) : kI k Q X w st = (wp (k w st) Q X) := rfl
abbrev WI := List D × Option (Nat × List D)
def kRng1 (Q : WI → Sto → Prop) (ws : List W) (st1 : Sto) : Prop := wp1 ws fun w => wpd w fun d => wpi d fun j => (-(2 ^ 62) ≤ j ∧ j ≤ 100000) ∧ Q (rng 0 j.toNat, none) st1
theorem kRng1_ap (Q : WI → Sto → Prop) (ws : List W) (st1 : Sto) : kRng1 Q ws st1 = (wp1 ws fun w => wpd w fun d => wpi d fun j => (-(2 ^ 62) ≤ j ∧ j ≤ 100000) ∧ Q (rng 0 j.toNat, none) st1) := rfl
def kRng2 (Q : WI → Sto → Prop) (ws : List W) (st1 : Sto) : Prop := wp2 ws fun w u => wpd w fun d => wpi d fun i => wpd u fun e => wpi e fun j => (-(2 ^ 62) ≤ i ∧ i < 2 ^ 62 ∧ -(2 ^ 62) ≤ j ∧ j < 2 ^ 62 ∧ j - i ≤ 100000) ∧ Q (rng i (j - i).toNat, none) st1
theorem kRng2_ap (Q : WI → Sto → Prop) (ws : List W) (st1 : Sto) : kRng2 Q ws st1 = (wp2 ws fun w u => wpd w fun d => wpi d fun i => wpd u fun e => wpi e fun j => (-(2 ^ 62) ≤ i ∧ i < 2 ^ 62 ∧ -(2 ^ 62) ≤ j ∧ j < 2 ^ 62 ∧ j - i ≤ 100000) ∧ Q (rng i (j - i).toNat, none) st1) := rfl
def kEnum (Q : WI → Sto → Prop) (ws : List W) (st1 : Sto) : Prop := wp1 ws fun w => wpd w fun d => wpt d fun ds => Q (enum ds, none) st1
theorem kEnum_ap (Q : WI → Sto → Prop) (ws : List W) (st1 : Sto) : kEnum Q ws st1 = (wp1 ws fun w => wpd w fun d => wpt d fun ds => Q (enum ds, none) st1) := rfl
def kLc (g : Tg) (tt : Tx) (fe : Ex) (sl : Slo) (Q : List D → Sto → Prop) (X : XP) (w : WI) (st1 : Sto) : Prop := wp (lcL w.2 g tt fe sl w.1 [] st1) Q X
theorem kLc_ap (g : Tg) (tt : Tx) (fe : Ex) (sl : Slo) (Q : List D → Sto → Prop) (X : XP) (w : WI) (st1 : Sto) : kLc g tt fe sl Q X w st1 = (wp (lcL w.2 g tt fe sl w.1 [] st1) Q X) := rfl
def kLcE (Q : W → Sto → Prop) (acc : List D) (st2 : Sto) : Prop := Q (.d (.lst acc)) st2
theorem kLcE_ap (Q : W → Sto → Prop) (acc : List D) (st2 : Sto) : kLcE Q acc st2 = (Q (.d (.lst acc)) st2) := rfl
def kLcC (Q : W → Sto → Prop) (acc : List D) (st2 : Sto) : Prop := Q (.c st2.length) (st2 ++ [.lst acc])
theorem kLcC_ap (Q : W → Sto → Prop) (acc : List D) (st2 : Sto) : kLcC Q acc st2 = (Q (.c st2.length) (st2 ++ [.lst acc])) := rfl
section
variable {QW : W → Sto → Prop} {QA : List W → Sto → Prop} {QB : Bool → Sto → Prop} {QP : Option Int → Sto → Prop} {QI : WI → Sto → Prop} {X : XP} {sl : Slo} {st : Sto} {fa fb fc fo fi : Ex} {fr fk : Ax} {tt tu : Tx} {f g : Sm} {N : Slo → Sto → Prop} {En1 : En}
theorem wp_var {i : Nat} : wp (eVar i sl st) QW X = wpo sl[i]? fun o => wpo o fun w => QW w st := by
  unfold eVar wp wpo
  cases sl[i]? with
  | none => rfl
  | some o => cases o <;> rfl
theorem wp_C {d : D} : wp (eC d sl st) QW X = QW (.d d) st := rfl
theorem wp_pr {o : Option D} : wp (pr st o) QW X = wpo o fun d => QW (.d d) st := by cases o <;> rfl
theorem wp_lift2 {g : D → D → Option D} {w1 w2 : W} : wp (lift2 g w1 w2 st) QW X = wpo (view st w1) fun a => wpo (view st w2) fun b => wpo (g a b) fun d => QW (.d d) st := by
  unfold lift2
  cases view st w1 with
  | none => rfl
  | some a => cases view st w2 with
    | none => rfl
    | some b => exact wp_pr
theorem wp_mk {k : List D → D} {ws : List W} : wp (mk k ws st) QW X = wpo (pures ws) fun ds => ds.length ≤ lim ∧ QW (.d (k ds)) st := by
  unfold mk
  cases pures ws with
  | none => rfl
  | some ds =>
    by_cases h : ds.length ≤ lim
    · simp only [wpo, h, if_true, true_and]; rfl
    · simp only [wpo, h, if_false, false_and]; rfl
theorem wp_if {α : Type} {Q : α → Sto → Prop} {p : Prop} [Decidable p] {a b : R α} : wp (if p then a else b) Q X = if p then wp a Q X else wp b Q X := by split <;> rfl
theorem wps_if0 {p : Prop} [Decidable p] {a b : RS} : wps (if p then a else b) N En1 = if p then wps a N En1 else wps b N En1 := by split <;> rfl
theorem wp_wbl {w : W} : wp (match w with | .d (.bl k) => some (O.ok k, st) | _ => none) QB X = wpd w fun d => wpb d fun k => QB k st := by
  cases w with
  | d x => cases x <;> rfl
  | c n => rfl
  | scr ns => rfl
  | t l => rfl
theorem wp_aNil : wp (aNil sl st) QA X = QA [] st := rfl
theorem wp_pNone : wp (pNone sl st) QP X = QP none st := rfl
theorem wp_yes : wp (tYesX sl st) QB X = QB true st := rfl
theorem wp_op {g : D → D → Option D} : wp (eOp g fa fb sl st) QW X = wp (fa sl st) (kOp g fb sl QW X) X := by
  simp only [eOp, wp_bnd, wp_lift2]; rfl
theorem wp_ix {g : D → D → Option D} : wp (eIx g fa fb sl st) QW X = wp (fa sl st) (kIx g fb sl QW X) X := by
  unfold eIx
  simp only [wp_bnd]
  unfold kIx kIx2
  congr; funext w1 st1; congr; funext w2 st2
  cases viewL st2 w1 with
  | none => rfl
  | some a => cases view st2 w2 with
    | none => rfl
    | some b => exact wp_pr
theorem wp_un {g : D → Option D} : wp (eUn g fa sl st) QW X = wp (fa sl st) (kUn g QW X) X := by
  unfold eUn
  simp only [wp_bnd]
  unfold kUn
  congr; funext w1 st1
  unfold lift1
  cases view st1 w1 with
  | none => rfl
  | some a => exact wp_pr
theorem wp_aCons  : wp (aCons fa fr sl st) QA X = wp (fa sl st) (kCons fr sl QA X) X := by
  simp only [aCons, wp_bnd, wp_ok]; rfl
theorem wp_call {gl : List D → Option D} : wp (eCall gl fr sl st) QW X = wp (fr sl st) (kCall gl QW X) X := by
  unfold eCall
  simp only [wp_bnd]
  unfold kCall
  congr; funext ws st1
  unfold liftN
  cases views st1 ws with
  | none => rfl
  | some a => exact wp_pr
theorem wp_tup  : wp (eTup fr sl st) QW X = wp (fr sl st) (kTup  QW X) X := by
  simp only [eTup, wp_bnd, wp_mk]; rfl
theorem wp_lst  : wp (eLst fr sl st) QW X = wp (fr sl st) (kLst  QW X) X := by
  simp only [eLst, wp_bnd, wp_mk]; rfl
theorem wp_cell  : wp (eCell fr sl st) QW X = wp (fr sl st) (kCell  QW X) X := by
  unfold eCell
  simp only [wp_bnd]
  unfold kCell
  congr; funext ws st1
  cases pures ws with
  | none => rfl
  | some ds =>
    by_cases h : ds.length ≤ lim
    · simp only [wpo, h, if_true, true_and]; rfl
    · simp only [wpo, h, if_false, false_and]; rfl
theorem wp_tOf  : wp (tOf fa sl st) QB X = wp (fa sl st) (kTOf  QB X) X := by
  unfold tOf
  simp only [wp_bnd]
  unfold kTOf
  congr; funext w st1
  unfold tru
  cases view st1 w with
  | none => rfl
  | some d => simp only [Option.bind_some, wpo_some]; cases truD d <;> rfl
theorem wp_tBl  : wp (tBl fa sl st) QB X = wp (fa sl st) (kTBl  QB X) X := by
  unfold tBl
  simp only [wp_bnd]
  unfold kTBl
  congr; funext w st1
  exact wp_wbl
theorem wp_tCmp {g : D → D → Option D} : wp (Dn.tCmp g fa fb sl st) QB X = wp (fa sl st) (kCmp g fb sl QB X) X := by
  unfold Dn.tCmp
  simp only [wp_bnd, wp_op]
  unfold kCmp kOp
  congr; funext w1 st1; congr; funext w2 st2
  unfold kCmp2 kOp2
  cases view st2 w1 with
  | none => rfl
  | some a => cases view st2 w2 with
    | none => rfl
    | some b =>
      simp only [wpo_some]
      cases g a b with
      | none => rfl
      | some d => exact wp_wbl
theorem wp_tNot  : wp (tNotX tt sl st) QB X = wp (tt sl st) (kNot  QB X) X := by
  simp only [tNotX, wp_bnd, wp_ok]; rfl
theorem wp_tAnd  : wp (tAndX tt tu sl st) QB X = wp (tt sl st) (kAnd tu sl QB X) X := by
  simp only [tAndX, wp_bnd, wp_if, wp_ok]; rfl
theorem wp_tOr  : wp (tOrX tt tu sl st) QB X = wp (tt sl st) (kOr tu sl QB X) X := by
  simp only [tOrX, wp_bnd, wp_if, wp_ok]; rfl
theorem wp_eIf  : wp (eIf tt fa fb sl st) QW X = wp (tt sl st) (kEIf fa fb sl QW X) X := by
  simp only [eIf, wp_bnd, wp_if]; rfl
theorem wp_eNot  : wp (eNot fa sl st) QW X = wp (fa sl st) (kENot  QW X) X := by
  unfold eNot
  simp only [wp_bnd]
  unfold kENot
  congr; funext w st1
  unfold tru
  cases view st1 w with
  | none => rfl
  | some d => simp only [Option.bind_some, wpo_some]; cases truD d <;> rfl
theorem wp_eAnd  : wp (eAnd fa fb sl st) QW X = wp (fa sl st) (kEAnd fb sl QW X) X := by
  unfold eAnd
  simp only [wp_bnd]
  unfold kEAnd
  congr; funext w st1
  unfold tru
  cases view st1 w with
  | none => rfl
  | some d =>
    simp only [Option.bind_some, wpo_some]
    cases truD d with
    | none => rfl
    | some k => simp only [wp_if, wp_ok]; rfl
theorem wp_eOr  : wp (eOr fa fb sl st) QW X = wp (fa sl st) (kEOr fb sl QW X) X := by
  unfold eOr
  simp only [wp_bnd]
  unfold kEOr
  congr; funext w st1
  unfold tru
  cases view st1 w with
  | none => rfl
  | some d =>
    simp only [Option.bind_some, wpo_some]
    cases truD d with
    | none => rfl
    | some k => simp only [wp_if, wp_ok]; rfl
theorem wp_chain {g g' : D → D → Option D} : wp (eChain g g' fa fb fc sl st) QW X = wp (fa sl st) (kChain g g' fb fc sl QW X) X := by
  unfold eChain
  simp only [wp_bnd, wp_lift2]
  unfold kChain
  congr; funext w1 st1; congr; funext w2 st2
  unfold kChain2
  cases view st2 w1 with
  | none => rfl
  | some a => cases view st2 w2 with
    | none => rfl
    | some b =>
      simp only [wpo_some]
      cases g a b with
      | none => rfl
      | some d => cases d with
        | bl k =>
          simp only [wpo_some, wpb_bl, wp_if, wp_bnd, wp_lift2, wp_ok]
          rfl
        | _ => rfl
theorem wp_pSome  : wp (pSome fa sl st) QP X = wp (fa sl st) (kPSome  QP X) X := by
  unfold pSome
  simp only [wp_bnd]
  unfold kPSome
  congr; funext w st1
  cases w with
  | d x => cases x <;> rfl
  | _ => rfl
theorem wp_sl {gs : D → Option Int → Option Int → Option D} {fl fh : Px} : wp (eSl gs fa fl fh sl st) QW X = wp (fa sl st) (kSl gs fl fh sl QW X) X := by
  unfold eSl
  simp only [wp_bnd]
  unfold kSl kSl2 kSl3
  congr; funext w st1; congr; funext l st2; congr; funext u st3
  cases viewL st3 w with
  | none => rfl
  | some d => exact wp_pr
theorem wp_fn {spec : Spec} : wp (eFn spec fr sl st) QW X = wp (fr sl st) (kFn spec QW X) X := by
  simp only [eFn, wp_bnd]; rfl
theorem wp_app  : wp (eAppend fa fb sl st) QW X = wp (fa sl st) (kApp fb sl QW X) X := by
  unfold eAppend
  simp only [wp_bnd]
  unfold kApp
  congr; funext w st1; congr; funext x st2
  unfold kApp2
  cases w with
  | c n => cases x with
    | d x =>
      simp only [wpc, wpd]
      cases st2[n]? with
      | none => rfl
      | some cc => cases cc with
        | lst ds =>
          simp only [wpo, wpl]
          by_cases h : ds.length < lim
          · simp only [h, if_true, true_and]; rfl
          · simp only [h, if_false, false_and]; rfl
        | ins _ _ => rfl
        | dn _ => rfl
        | dk _ => rfl
    | _ => rfl
  | _ => rfl
theorem wp_isCell  : wp (isCell fa sl st) QW X = wp (fa sl st) (kIsCell  QW X) X := by
  unfold isCell
  simp only [wp_bnd]
  unfold kIsCell
  congr; funext w st1
  cases w with
  | c n =>
    simp only [wpc]
    cases st1[n]? with
    | none => rfl
    | some cc => cases cc <;> rfl
  | _ => rfl
theorem wp_meth {c m : Str} {spec : Spec} : wp (eMeth c m spec fa fr sl st) QW X = wp (fa sl st) (kMeth c m spec fr sl QW X) X := by
  unfold eMeth
  simp only [wp_bnd]
  unfold kMeth
  congr; funext w st1
  unfold kMeth2
  cases view st1 w with
  | none => rfl
  | some d => cases d with
    | obj c' gs =>
      simp only [wpo, wpj]
      by_cases h : c' = c ∧ gs.lookup m = none
      · simp only [h, and_self, if_true, true_and, wp_bnd]
      · simp only [h, if_false, false_and]; rfl
    | _ => rfl
theorem wp_methK {c m : Str} {spec : Spec} {gg : List W → List W → List W} {l : Nat} : wp (eMethK c m spec gg l fa fk sl st) QW X = wp (fa sl st) (kMethK c m spec gg l fk sl QW X) X := by
  unfold eMethK
  simp only [wp_bnd]
  unfold kMethK
  congr; funext w st1
  unfold kMethK2
  cases view st1 w with
  | none => rfl
  | some d => cases d with
    | obj c' gs =>
      simp only [wpo, wpj]
      by_cases h : c' = c ∧ gs.lookup m = none
      · simp only [h, and_self, if_true, true_and, wp_bnd]
        congr; funext zs st2
        by_cases hz : zs.length = l
        · simp only [hz, if_true, true_and]
        · simp only [hz, if_false, false_and]; rfl
      · simp only [h, if_false, false_and]; rfl
    | _ => rfl
theorem wp_fnK {spec : Spec} {gg : List W → List W → List W} {n l : Nat} : wp (eFnK spec gg n l fr fk sl st) QW X = wp (fr sl st) (kFnK spec gg n l fk sl QW X) X := by
  unfold eFnK
  simp only [wp_bnd]
  unfold kFnK
  congr; funext ws st1; congr; funext zs st2
  unfold kFnK2
  by_cases hz : ws.length = n ∧ zs.length = l
  · simp only [hz, and_self, if_true, true_and]
  · simp only [hz, if_false, false_and]; rfl
theorem wp_new {c : Str} {spec : Spec} : wp (eNew c spec fr sl st) QW X = wp (fr sl st) (kNew c spec QW X) X := by
  simp only [eNew, wp_bnd]; rfl
theorem wp_newK {c : Str} {spec : Spec} {gg : List W → List W → List W} {n l : Nat} : wp (eNewK c spec gg n l fr fk sl st) QW X = wp (fr sl st) (kNewK c spec gg n l fk sl QW X) X := by
  unfold eNewK
  simp only [wp_bnd]
  unfold kNewK
  congr; funext ws st1; congr; funext zs st2
  unfold kNewK2
  by_cases hz : ws.length = n ∧ zs.length = l
  · simp only [hz, and_self, if_true, true_and]
  · simp only [hz, if_false, false_and]; rfl
theorem wp_s1 {gj : Str → D → Option D} : wp (eS1 gj fa fb sl st) QW X = wp (fa sl st) (kS1 gj fb sl QW X) X := by
  unfold eS1
  simp only [wp_bnd]
  unfold kS1
  congr; funext w st1
  unfold kS12
  cases w with
  | d x => cases x with
    | str a =>
      simp only [wpd, wps1, wp_bnd]
      congr; funext w2 st2
      cases viewL st2 w2 with
      | none => rfl
      | some d => exact wp_pr
    | _ => rfl
  | _ => rfl
theorem wp_told {sort : Str → List (Str × D) → Option D} : wp (eTold sort fa sl st) QW X = wp (fa sl st) (fun w st1 => wpd w fun x => QW (.d (.lst [.str "given", x])) st1) (fun c fs st1 => wpo (sort c fs) fun r => QW (.d r) st1) := by
  unfold eTold
  cases fa sl st with
  | none => rfl
  | some z =>
    obtain ⟨o, st1⟩ := z
    cases o with
    | ok w => cases w <;> rfl
    | exc c fs => simp only [wp_exc]; cases sort c fs <;> rfl
theorem wps_stm' {β : Type} {r : R β} {k : β → Sto → RS} {K : β → Sto → Prop} (h : ∀ a st, wps (k a st) N En1 = K a st) : wps (stm r sl k) N En1 = wp r K (kX En1 sl) := by
  rw [wps_stm]
  congr
  funext a st
  exact h a st
theorem wps_seq : wps (sSeq f g sl st) N En1 = wps (f sl st) (kSeq g N En1) En1 := by
  unfold sSeq fall wps kSeq
  cases f sl st with
  | none => rfl
  | some z =>
    obtain ⟨fl, a, b⟩ := z
    cases fl <;> rfl
theorem wps_skip : wps (sSkip sl st) N En1 = N sl st := rfl
theorem wps_brk : wps (sBreak sl st) N En1 = En1.bk sl st := rfl
theorem wps_cont : wps (sCont sl st) N En1 = En1.ct sl st := rfl
theorem wps_retN : wps (sRetN sl st) N En1 = En1.rt (.d .non) st := rfl
theorem wps_expr : wps (sExpr fa sl st) N En1 = wp (fa sl st) (kExpr sl N) (kX En1 sl) := wps_stm' fun _ _ => rfl
theorem wps_ret : wps (sRet fa sl st) N En1 = wp (fa sl st) (kRet En1) (kX En1 sl) := wps_stm' fun _ _ => rfl
theorem wps_sIf : wps (sIf tt f g sl st) N En1 = wp (tt sl st) (kIf f g sl N En1) (kX En1 sl) := wps_stm' fun k st => by
  unfold kIf
  exact wps_if0
theorem wps_set {i : Nat} : wps (sSet i fa sl st) N En1 = wp (fa sl st) (kSet i sl N) (kX En1 sl) := wps_stm' fun _ _ => rfl
theorem wps_par {i j : Nat} : wps (sPar i j fr sl st) N En1 = wp (fr sl st) (kPar i j sl N) (kX En1 sl) := wps_stm' fun ws st => by
  unfold kPar
  match ws with
  | [] => rfl
  | [_] => rfl
  | [_, _] => rfl
  | _ :: _ :: _ :: _ => rfl
theorem wps_asg {tg : Tg} : wps (sAsg tg fa sl st) N En1 = wp (fa sl st) (kAsg tg sl N) (kX En1 sl) := wps_stm' fun w st => by
  unfold kAsg
  cases tg w sl <;> rfl
theorem wps_raise {c fld : Str} : wps (sRaise c fld fr sl st) N En1 = wp (fr sl st) (kRaise c fld En1 sl) (kX En1 sl) := wps_stm' fun ws st => by
  unfold kRaise
  match ws with
  | [] => rfl
  | [.d _] => rfl
  | [.c _] => rfl
  | [.scr _] => rfl
  | [.t _] => rfl
  | a :: _ :: _ => cases a <;> rfl
theorem wps_for {it : Ix} {tg : Tg} : wps (sFor it tg f sl st) N En1 = wp (it sl st) (kFor tg f sl N En1) (kX En1 sl) := wps_stm' fun _ _ => rfl
theorem wps_setIx : wps (sSetIx fo fi fa sl st) N En1 = wp (fa sl st) (kSetIx1 fo fi sl N En1) (kX En1 sl) := wps_stm' fun wv st1 => by
  unfold kSetIx1
  refine wps_stm' fun wo st2 => ?_
  unfold kSetIx2
  refine wps_stm' fun wi st3 => ?_
  unfold kSetIx3
  cases wo with
  | c n => cases wi with
    | d k => cases k with
      | int k => cases wv with
        | d x =>
          simp only [wpc, wpd, wpi]
          cases st3[n]? with
          | none => rfl
          | some c => cases c with
            | lst ds => simp only [wpo_some, wpl]; cases ixN ds.length k <;> rfl
            | ins _ _ => rfl
            | dn _ => rfl
            | dk _ => rfl
        | _ => rfl
      | _ => rfl
    | _ => rfl
  | _ => rfl
theorem wps_fld {c fl : Str} : wps (sFldSet c fl fo fa sl st) N En1 = wp (fa sl st) (kFld1 c fl fo sl N En1) (kX En1 sl) := wps_stm' fun wv st1 => by
  unfold kFld1
  refine wps_stm' fun wo st2 => ?_
  unfold kFld2
  cases wo with
  | c n => cases wv with
    | d x =>
      simp only [wpc, wpd]
      cases st2[n]? with
      | none => rfl
      | some cc => cases cc with
        | lst _ => rfl
        | dn _ => rfl
        | dk _ => rfl
        | ins c' gs =>
          simp only [wpo_some, wpn]
          by_cases h : c' = c ∧ gs.length < 1000
          · simp only [h, and_self, if_true, true_and]; rfl
          · simp only [h, if_false, false_and]; rfl
    | _ => rfl
  | _ => rfl
theorem wp_runB {fr : Bool} {n : Nat} {b : Sm} {ws : List W} : wp (runB fr n b ws st) QW X = wps (b (startW n ws) st) (kEnd st.length QW) ⟨kFin st.length fr QW X, kEx st.length X, kNo, kNo⟩ := by
  unfold runB wps
  cases b (startW n ws) st with
  | none => rfl
  | some z =>
    obtain ⟨fl, a, b⟩ := z
    cases fl <;> rfl
theorem wp_fin_d {fr : Bool} {n : Nat} {d : D} : wp (fin fr n (.d d) st) QW X = QW (.d d) (st.take n) := rfl
theorem wp_fin_c {fr : Bool} {n i : Nat} : wp (fin fr n (.c i) st) QW X = if i < n then QW (.c i) (st.take n) else wpo st[i]? fun c => wpl c fun ds => if fr = true then QW (.d (.lst ds)) (st.take n) else QW (.c n) (st.take n ++ [.lst ds]) := by
  show wp (if i < n then _ else _) _ _ = _
  rw [wp_if]
  split
  · rfl
  · cases st[i]? with
    | none => rfl
    | some c => cases c with
      | lst ds => simp only [wpo_some, wpl, wp_if]; rfl
      | ins _ _ => rfl
      | dn _ => rfl
      | dk _ => rfl
theorem wp_iOf {k : W → Sto → R WI} : wp (iOf k fa sl st) QI X = wp (fa sl st) (kI k QI X) X := by
  unfold iOf
  rw [wp_bnd]
  rfl
theorem wp_itTup {ds : List D} : wp (itAny (.d (.tup ds)) st) QI X = QI (ds, none) st := rfl
theorem wp_itLst {ds : List D} : wp (itAny (.d (.lst ds)) st) QI X = QI (ds, none) st := rfl
theorem wp_itStr {x : Str} : wp (itAny (.d (.str x)) st) QI X = QI (signs x, none) st := rfl
theorem wp_itScr {ns : List Int} : wp (itAny (.scr ns) st) QI X = QI (ns.map D.int, none) st := rfl
theorem wp_itC {n : Nat} : wp (itAny (.c n) st) QI X = wpo st[n]? fun c => wpl c fun ds => QI (ds, some (n, ds)) st := by
  show wp (match st[n]? with | some (.lst ds) => some (O.ok (ds, some (n, ds)), st) | _ => none) _ _ = _
  cases st[n]? with
  | none => rfl
  | some c => cases c <;> rfl
theorem wp_rng1 : wp (iRange1 fr sl st) QI X = wp (fr sl st) (kRng1 QI) X := by
  unfold iRange1
  rw [wp_bnd]
  congr; funext ws st1
  unfold kRng1
  match ws with
  | [] => rfl
  | [.d (.int j)] =>
    simp only [wp1, wpd, wpi]
    by_cases h : -(2 ^ 62) ≤ j ∧ j ≤ 100000
    · simp only [h, and_self, if_true, true_and]; rfl
    · simp only [h, if_false, false_and]; rfl
  | [.d .non] => rfl
  | [.d (.bl _)] => rfl
  | [.d (.str _)] => rfl
  | [.d (.tup _)] => rfl
  | [.d (.lst _)] => rfl
  | [.d (.obj _ _)] => rfl
  | [.d .emp] => rfl
  | [.d (.exn _ _)] => rfl
  | [.t _] => rfl
  | [.c _] => rfl
  | [.scr _] => rfl
  | _ :: _ :: _ => simp [wp1, wp]
theorem wp_rng2 : wp (iRange2 fr sl st) QI X = wp (fr sl st) (kRng2 QI) X := by
  unfold iRange2
  rw [wp_bnd]
  congr; funext ws st1
  unfold kRng2
  split
  · rename_i i j
    simp only [wp2, wpd, wpi]
    by_cases h : -(2 ^ 62) ≤ i ∧ i < 2 ^ 62 ∧ -(2 ^ 62) ≤ j ∧ j < 2 ^ 62 ∧ j - i ≤ 100000
    · simp only [h, and_self, if_true, true_and]; rfl
    · simp only [h, if_false, false_and]; rfl
  · rename_i hn
    show False = _
    match ws with
    | [] => rfl
    | [_] => rfl
    | [w, u] => cases w with
      | d d => cases d with
        | int i => cases u with
          | d e => cases e with
            | int j => exact absurd rfl (hn i j)
            | _ => rfl
          | _ => rfl
        | _ => rfl
      | _ => rfl
    | _ :: _ :: _ :: _ => rfl
theorem wp_enum : wp (iEnumT fr sl st) QI X = wp (fr sl st) (kEnum QI) X := by
  unfold iEnumT
  rw [wp_bnd]
  congr; funext ws st1
  unfold kEnum
  match ws with
  | [] => rfl
  | [w] => cases w with
    | d d => cases d <;> rfl
    | _ => rfl
  | _ :: _ :: _ => simp [wp1, wp]
theorem wp_lc {it : Ix} {tg : Tg} {vs : List Nat} : wp (eLc it tg tt fa vs sl st) QW X = wp (it sl st) (kLc tg tt fa (wipeW sl vs) (kLcE QW) X) X := by
  unfold eLc lcRun
  simp only [wp_bnd, wp_ok]
  rfl
theorem wp_lcC {it : Ix} {tg : Tg} {vs : List Nat} : wp (eLcC it tg tt fa vs sl st) QW X = wp (it sl st) (kLc tg tt fa (wipeW sl vs) (kLcC QW) X) X := by
  unfold eLcC lcRun
  simp only [wp_bnd, wp_ok]
  rfl
end
end Dn
namespace Dn
open PySem L2
abbrev NX : XP := fun _ _ _ => False
section
variable {N : Slo → Sto → Prop} {E : En} {sl : Slo} {st : Sto} {tg : Tg} {body : Sm} {X : XP} {tt : Tx} {fe : Ex} {α : Type}
theorem wps_lop {r : RS} {g : Sm} : wps (lop r g) N E = wps r (fun sl st => wps (g sl st) N E) ⟨E.rt, E.ex, N, fun sl st => wps (g sl st) N E⟩ := by
  unfold lop wps
  cases r with
  | none => rfl
  | some z => obtain ⟨fl, a, b⟩ := z; cases fl <;> rfl
theorem wps_imp {r : RS} {N' : Slo → Sto → Prop} {E' : En} (h : wps r N E) (hn : ∀ sl st, N sl st → N' sl st) (hr : ∀ w st, E.rt w st → E'.rt w st) (hx : ∀ c fs sl st, E.ex c fs sl st → E'.ex c fs sl st) (hb : ∀ sl st, E.bk sl st → E'.bk sl st) (hc : ∀ sl st, E.ct sl st → E'.ct sl st) : wps r N' E' := by
  unfold wps at h ⊢
  split at h
  · cases h
  · exact hn _ _ h
  · exact hr _ _ h
  · exact hx _ _ _ _ h
  · exact hb _ _ h
  · exact hc _ _ h
theorem wps_forC {chk : Option (Nat × List D)} (I : List D → Slo → Sto → Prop) (hk : ∀ ds sl st, I ds sl st → chkOk chk st)
    (hs : ∀ d ds sl st, I (d :: ds) sl st → wpo (tg (.d d) sl) fun sl1 => wps (body sl1 st) (I ds) ⟨E.rt, E.ex, N, I ds⟩) (he : ∀ sl st, I [] sl st → N sl st) :
    ∀ (ds : List D) {sl : Slo} {st : Sto}, I ds sl st → wps (forL chk tg body ds sl st) N E
  | [], sl, st, h => by
    unfold forL
    rw [if_pos (hk _ _ _ h)]
    exact he _ _ h
  | d :: ds, sl, st, h => by
    unfold forL
    rw [if_pos (hk _ _ _ h)]
    have q := hs d ds sl st h
    cases e : tg (.d d) sl with
    | none => rw [e] at q; exact q.elim
    | some sl1 =>
      rw [e] at q
      simp only [wpo_some] at q
      rw [wps_lop]
      exact wps_imp q (fun sl st h => wps_forC I hk hs he ds h) (fun _ _ h => h) (fun _ _ _ _ h => h) (fun _ _ h => h) fun sl st h => wps_forC I hk hs he ds h
theorem wps_forI (I : List D → Slo → Sto → Prop) {ds : List D} (h0 : I ds sl st)
    (hs : ∀ d ds sl st, I (d :: ds) sl st → wpo (tg (.d d) sl) fun sl1 => wps (body sl1 st) (I ds) ⟨E.rt, E.ex, N, I ds⟩) (he : ∀ sl st, I [] sl st → N sl st) : wps (forL none tg body ds sl st) N E :=
  wps_forC (chk := none) I (fun _ _ _ _ => trivial) hs he ds h0
theorem wps_forM {f : α → D} (I : List α → Slo → Sto → Prop) {as : List α} (h0 : I as sl st)
    (hs : ∀ a as sl st, I (a :: as) sl st → wpo (tg (.d (f a)) sl) fun sl1 => wps (body sl1 st) (I as) ⟨E.rt, E.ex, N, I as⟩) (he : ∀ sl st, I [] sl st → N sl st) : wps (forL none tg body (as.map f) sl st) N E := by
  refine wps_forI (fun ds sl st => ∃ as, ds = as.map f ∧ I as sl st) ⟨as, rfl, h0⟩ ?_ ?_
  · rintro d ds sl st ⟨as, e, h⟩
    cases as with
    | nil => cases e
    | cons a as =>
      cases e
      have q := hs a as sl st h
      cases e : tg (.d (f a)) sl with
      | none => rw [e] at q; exact q.elim
      | some sl1 =>
        rw [e] at q
        simp only [wpo_some] at q ⊢
        exact wps_imp q (fun _ _ h => ⟨as, rfl, h⟩) (fun _ _ h => h) (fun _ _ _ _ h => h) (fun _ _ h => h) fun _ _ h => ⟨as, rfl, h⟩
  · rintro sl st ⟨as, e, h⟩
    cases as with
    | nil => exact he _ _ h
    | cons a as => cases e
theorem wps_forN (I : Nat → Slo → Sto → Prop) {ds : List D} (h0 : I 0 sl st)
    (hs : ∀ i d sl st, ds[i]? = some d → I i sl st → wpo (tg (.d d) sl) fun sl1 => wps (body sl1 st) (I (i + 1)) ⟨E.rt, E.ex, N, I (i + 1)⟩) (he : ∀ sl st, I ds.length sl st → N sl st) : wps (forL none tg body ds sl st) N E := by
  refine wps_forI (fun es sl st => ∃ i, es = ds.drop i ∧ i ≤ ds.length ∧ I i sl st) ⟨0, rfl, Nat.zero_le _, h0⟩ ?_ ?_
  · rintro d es sl st ⟨i, e, hi, h⟩
    have hlt : i < ds.length := by
      rcases Nat.lt_or_ge i ds.length with z | z
      · exact z
      · rw [List.drop_eq_nil_of_le z] at e; cases e
    rw [List.drop_eq_getElem_cons hlt] at e
    cases e
    have q := hs i _ sl st (List.getElem?_eq_getElem hlt) h
    cases e : tg (.d ds[i]) sl with
    | none => rw [e] at q; exact q.elim
    | some sl1 =>
      rw [e] at q
      simp only [wpo_some] at q ⊢
      exact wps_imp q (fun _ _ h => ⟨i + 1, rfl, hlt, h⟩) (fun _ _ h => h) (fun _ _ _ _ h => h) (fun _ _ h => h) fun _ _ h => ⟨i + 1, rfl, hlt, h⟩
  · rintro sl st ⟨i, e, hi, h⟩
    have : i = ds.length := by
      have := congrArg List.length e
      rw [List.length_nil, List.length_drop] at this
      omega
    rw [this] at h
    exact he _ _ h
theorem wps_forR (I : Nat → Slo → Sto → Prop) {lo : Int} {n : Nat} (h0 : I 0 sl st)
    (hs : ∀ i sl st, i < n → I i sl st → wpo (tg (.d (.int (lo + (i : Int)))) sl) fun sl1 => wps (body sl1 st) (I (i + 1)) ⟨E.rt, E.ex, N, I (i + 1)⟩) (he : ∀ sl st, I n sl st → N sl st) : wps (forL none tg body (rng lo n) sl st) N E := by
  refine wps_forN I h0 ?_ ?_
  · intro i d sl st e h
    have hl : i < n := by have := (List.getElem?_eq_some_iff.mp e).1; rwa [rng_len] at this
    have : d = .int (lo + (i : Int)) := by
      obtain ⟨_, e⟩ := List.getElem?_eq_some_iff.mp e
      rw [← e]
      simp [rng]
    rw [this]
    exact hs i sl st hl h
  · rw [rng_len]; exact he
theorem wp_lcC' {chk : Option (Nat × List D)} {Q : List D → Sto → Prop} (I : List D → List D → Sto → Prop) (hk : ∀ ds acc st, I ds acc st → chkOk chk st)
    (hs : ∀ d ds acc st, I (d :: ds) acc st → wpo (tg (.d d) sl) fun sl1 => wp (tt sl1 st) (fun b st1 => if b = true then wp (fe sl1 st1) (fun w st2 => wpd w fun x => I ds (acc ++ [x]) st2) NX else I ds acc st1) NX) (he : ∀ acc st, I [] acc st → Q acc st) :
    ∀ (ds : List D) {acc : List D} {st : Sto}, I ds acc st → wp (lcL chk tg tt fe sl ds acc st) Q X
  | [], acc, st, h => by
    unfold lcL
    rw [if_pos (hk _ _ _ h)]
    exact he _ _ h
  | d :: ds, acc, st, h => by
    unfold lcL
    rw [if_pos (hk _ _ _ h)]
    have q := hs d ds acc st h
    cases e : tg (.d d) sl with
    | none => rw [e] at q; exact q.elim
    | some sl1 =>
      rw [e] at q
      simp only [wpo_some] at q ⊢
      rw [wp_noX]
      refine wp_imp q (fun b st1 h => ?_) (fun _ _ _ h => h)
      cases b with
      | false => exact wp_lcC' I hk hs he ds h
      | true =>
        simp only [if_true] at h ⊢
        rw [wp_noX]
        refine wp_imp h (fun w st2 h => ?_) (fun _ _ _ h => h)
        cases w with
        | d x => exact wp_lcC' I hk hs he ds h
        | c _ => exact h.elim
        | scr _ => exact h.elim
        | t _ => exact h.elim
theorem wp_lcF {chk : Option (Nat × List D)} {Q : List D → Sto → Prop} {f : α → D} (p : α → Bool) (F : α → D) {as : List α} (hk : chkOk chk st)
    (hs : ∀ a ∈ as, wpo (tg (.d (f a)) sl) fun sl1 => wp (tt sl1 st) (fun b st1 => b = p a ∧ st1 = st ∧ (p a = true → wp (fe sl1 st) (fun w st2 => w = .d (F a) ∧ st2 = st) NX)) NX) (he : Q ((as.filter p).map F) st) : wp (lcL chk tg tt fe sl (as.map f) [] st) Q X := by
  refine wp_lcC' (fun ds acc s => s = st ∧ ∃ us vs, as = us ++ vs ∧ ds = vs.map f ∧ acc = (us.filter p).map F) ?_ ?_ ?_ _ ⟨rfl, [], as, rfl, rfl, rfl⟩
  · rintro ds acc s ⟨rfl, _⟩; exact hk
  · rintro d ds acc s ⟨rfl, us, vs, e, e2, rfl⟩
    cases vs with
    | nil => cases e2
    | cons a vs =>
      cases e2
      have q := hs a (by rw [e]; exact List.mem_append_right _ List.mem_cons_self)
      cases e3 : tg (.d (f a)) sl with
      | none => rw [e3] at q; exact q.elim
      | some sl1 =>
        rw [e3] at q
        simp only [wpo_some] at q ⊢
        refine wp_imp q (fun b st1 h => ?_) (fun _ _ _ h => h)
        obtain ⟨rfl, rfl, h⟩ := h
        cases hp : p a with
        | false =>
          simp only [Bool.false_eq_true, if_false]
          exact ⟨by trivial, us ++ [a], vs, by rw [e, List.append_assoc]; rfl, by trivial, by rw [List.filter_append, List.filter_cons, hp]; simp⟩
        | true =>
          simp only [if_true]
          refine wp_imp (h hp) (fun w st2 h => ?_) (fun _ _ _ h => h)
          obtain ⟨rfl, rfl⟩ := h
          exact ⟨rfl, us ++ [a], vs, by rw [e, List.append_assoc]; rfl, rfl, by rw [List.filter_append, List.filter_cons, hp]; simp⟩
  · rintro acc s ⟨rfl, us, vs, e, e2, rfl⟩
    cases vs with
    | nil => rw [List.append_nil] at e; rw [← e]; exact he
    | cons a vs => cases e2
theorem wp_lcM {chk : Option (Nat × List D)} {Q : List D → Sto → Prop} {f : α → D} (F : α → D) {as : List α} (hk : chkOk chk st)
    (hs : ∀ a ∈ as, wpo (tg (.d (f a)) sl) fun sl1 => wp (fe sl1 st) (fun w st2 => w = .d (F a) ∧ st2 = st) NX) (he : Q (as.map F) st) : wp (lcL chk tg tYesX fe sl (as.map f) [] st) Q X := by
  refine wp_lcF (fun _ => true) F hk (fun a ha => ?_) (by rw [List.filter_eq_self.mpr (fun _ _ => rfl)]; exact he)
  have q := hs a ha
  cases e3 : tg (.d (f a)) sl with
  | none => rw [e3] at q; exact q.elim
  | some sl1 =>
    rw [e3] at q
    exact ⟨rfl, rfl, fun _ => q⟩
end
section
variable {α : Type}
theorem app_get (st l : List α) (k : Nat) : (st ++ l)[st.length + k]? = l[k]? := by rw [List.getElem?_append_right (Nat.le_add_right _ _), Nat.add_sub_cancel_left]
theorem app_get0 (st l : List α) : (st ++ l)[st.length]? = l[0]? := by rw [List.getElem?_append_right (Nat.le_refl _), Nat.sub_self]
theorem app_set (st l : List α) (k : Nat) (x : α) : (st ++ l).set (st.length + k) x = st ++ l.set k x := by rw [List.set_append_right _ _ (Nat.le_add_right _ _), Nat.add_sub_cancel_left]
theorem app_set0 (st l : List α) (x : α) : (st ++ l).set st.length x = st ++ l.set 0 x := by rw [List.set_append_right _ _ (Nat.le_refl _), Nat.sub_self]
theorem app_take (st l : List α) (k : Nat) : (st ++ l).take (st.length + k) = st ++ l.take k := by rw [List.take_append, List.take_of_length_le (Nat.le_add_right _ _), Nat.add_sub_cancel_left]
theorem app_take0 (st l : List α) : (st ++ l).take st.length = st := by rw [List.take_left']; rfl
end
theorem eqD_str' (x y : Str) : eqD (.str x) (.str y) = decide (x = y) := by
  simp only [eqD, toP, PyData.eqv]
  by_cases h : x = y
  · simp [h]
  · simp [h]
theorem eqD_int (x y : Int) : eqD (.int x) (.int y) = decide (x = y) := by
  simp only [eqD, toP, PyData.eqv]
  by_cases h : x = y
  · simp [h]
  · simp [h]
theorem inD_strs (x : Str) (ys : List Str) : inD (.str x) (ys.map D.str) = decide (x ∈ ys) := by
  induction ys with
  | nil => rfl
  | cons y ys ih =>
    have e : inD (.str x) ((y :: ys).map D.str) = (eqD (.str y) (.str x) || inD (.str x) (ys.map D.str)) := rfl
    rw [e, ih, eqD_str']
    by_cases h : y = x
    · simp [h]
    · have h' : ¬ x = y := fun z => h z.symm
      simp [h, h']
theorem dok_strL (n : Nat) (ys : List Str) : (ys.map D.str).all (dok n) = true := by
  rw [List.all_eq_true]
  intro d hd
  obtain ⟨y, _, rfl⟩ := List.mem_map.mp hd
  cases n <;> rfl
theorem dok_str (n : Nat) (x : Str) : dok n (.str x) = true := by cases n <;> rfl
theorem dok_int (n : Nat) (x : Int) : dok n (.int x) = true := by cases n <;> rfl
theorem dok_bl (n : Nat) (x : Bool) : dok n (.bl x) = true := by cases n <;> rfl
theorem dok_non (n : Nat) : dok n .non = true := by cases n <;> rfl
theorem dok_tup (n : Nat) (ds : List D) : dok (n + 1) (.tup ds) = ds.all (dok n) := by simp only [dok]
theorem dok_lst (n : Nat) (ds : List D) : dok (n + 1) (.lst ds) = ds.all (dok n) := by simp only [dok]
end Dn
namespace Dn
end Dn
namespace Dn
theorem wp_lcD {chk : Option (Nat × List D)} {Q : List D → Sto → Prop} {X : XP} {tg : Tg} {fe : Ex} {sl : Slo} {st : Sto} (F : D → D) {ds : List D} (hk : chkOk chk st)
    (hs : ∀ a ∈ ds, wpo (tg (.d a) sl) fun sl1 => wp (fe sl1 st) (fun w st2 => w = .d (F a) ∧ st2 = st) NX) (he : Q (ds.map F) st) : wp (lcL chk tg tYesX fe sl ds [] st) Q X := by
  have := wp_lcM (f := fun d => d) (chk := chk) (tg := tg) (X := X) F hk hs he
  rwa [List.map_id'] at this
end Dn
namespace Dn
end Dn
namespace Dn
def kTold (Q : W → Sto → Prop) (w : W) (st : Sto) : Prop := wpd w fun x => Q (.d (.lst [.str "given", x])) st
def kToldX (sort : PySem.Str → List (PySem.Str × D) → Option D) (Q : W → Sto → Prop) (c : PySem.Str) (fs : List (PySem.Str × D)) (st : Sto) : Prop := wpo (sort c fs) fun r => Q (.d r) st
theorem kTold_ap {Q : W → Sto → Prop} {w : W} {st : Sto} : kTold Q w st = wpd w fun x => Q (.d (.lst [.str "given", x])) st := rfl
theorem kToldX_ap {sort : PySem.Str → List (PySem.Str × D) → Option D} {Q : W → Sto → Prop} {c : PySem.Str} {fs : List (PySem.Str × D)} {st : Sto} : kToldX sort Q c fs st = wpo (sort c fs) fun r => Q (.d r) st := rfl
theorem wp_eTold {sort : PySem.Str → List (PySem.Str × D) → Option D} {fa : Ex} {sl : Slo} {st : Sto} {Q : W → Sto → Prop} {X : XP} : wp (eTold sort fa sl st) Q X = wp (fa sl st) (kTold Q) (kToldX sort Q) := wp_told
end Dn
namespace Dn
open PySem L2
section
variable {i j : Int} {x y : Str} {ds es : List D} {b c : Bool} {d : D}
theorem gAdd_ii : gAdd (.int i) (.int j) = some (.int (i + j)) := rfl
theorem gAdd_ss : gAdd (.str x) (.str y) = if x.length + y.length ≤ lim then some (.str (x ++ y)) else none := rfl
theorem gAdd_tt : gAdd (.tup ds) (.tup es) = if ds.length + es.length ≤ lim then some (.tup (ds ++ es)) else none := rfl
theorem gAdd_ll : gAdd (.lst ds) (.lst es) = if ds.length + es.length ≤ lim then some (.lst (ds ++ es)) else none := rfl
theorem gSub_ii : Dn.gSub (.int i) (.int j) = some (.int (i - j)) := rfl
theorem gMul_ii : gMul (.int i) (.int j) = if (-(2 ^ 64) < i ∧ i < 2 ^ 64) ∨ (-(2 ^ 64) < j ∧ j < 2 ^ 64) then some (.int (i * j)) else none := rfl
theorem gDiv_ii : gDiv (.int i) (.int j) = if 0 < j ∧ j < 1073741824 then some (.int (i / j)) else none := rfl
theorem gMod_ii : gMod (.int i) (.int j) = if 0 < j then some (.int (i % j)) else none := rfl
theorem gPow_ii : gPow (.int i) (.int j) = if 0 ≤ j ∧ j ≤ 1000000 ∧ i.natAbs < 2 ^ 64 then some (.int (i ^ j.toNat)) else none := rfl
theorem gLt_ii : gLt (.int i) (.int j) = some (.bl (decide (i < j))) := rfl
theorem gLe_ii : gLe (.int i) (.int j) = some (.bl (decide (i ≤ j))) := rfl
theorem gGt_ii : gGt (.int i) (.int j) = some (.bl (decide (j < i))) := rfl
theorem gGe_ii : gGe (.int i) (.int j) = some (.bl (decide (j ≤ i))) := rfl
theorem gLt_ss : gLt (.str x) (.str y) = some (.bl (decide (x.cps.toList < y.cps.toList))) := rfl
theorem gLe_ss : gLe (.str x) (.str y) = some (.bl (!decide (y.cps.toList < x.cps.toList))) := rfl
theorem gIn_t : gIn d (.tup ds) = if dok 60 d = true ∧ ds.all (dok 60) = true then some (.bl (inD d ds)) else none := by cases d <;> rfl
theorem gIn_l : gIn d (.lst ds) = if dok 60 d = true ∧ ds.all (dok 60) = true then some (.bl (inD d ds)) else none := by cases d <;> rfl
theorem gIn_s : gIn (.str x) (.str y) = some (.bl (inS x y)) := rfl
theorem gNotIn_t : gNotIn d (.tup ds) = if dok 60 d = true ∧ ds.all (dok 60) = true then some (.bl (!inD d ds)) else none := by cases d <;> rfl
theorem gNotIn_l : gNotIn d (.lst ds) = if dok 60 d = true ∧ ds.all (dok 60) = true then some (.bl (!inD d ds)) else none := by cases d <;> rfl
theorem gNotIn_s : gNotIn (.str x) (.str y) = some (.bl (!inS x y)) := rfl
theorem gIsN_n : gIsN d .non = some (.bl (isN d)) := by cases d <;> rfl
theorem gNotN_n : gNotN d .non = some (.bl (!isN d)) := by cases d <;> rfl
theorem isN_non : isN .non = true := rfl
theorem isN_str : isN (.str x) = false := rfl
theorem isN_int : isN (.int i) = false := rfl
theorem isN_bl : isN (.bl b) = false := rfl
theorem isN_tup : isN (.tup ds) = false := rfl
theorem isN_lst : isN (.lst ds) = false := rfl
theorem isN_obj {f : List (Str × D)} : isN (D.obj x f) = false := rfl
theorem gNeg_i : gNeg (.int i) = some (.int (-i)) := rfl
theorem gLen_s : gLen [.str x] = some (.int x.length) := rfl
theorem gLen_t : gLen [.tup ds] = some (.int ds.length) := rfl
theorem gLen_l : gLen [.lst ds] = some (.int ds.length) := rfl
theorem gAbs_i : gAbs [.int i] = some (.int (if i < 0 then -i else i)) := rfl
theorem gMax2_i : gMax2 [.int i, .int j] = some (.int (if j > i then j else i)) := rfl
theorem gMin2_i : gMin2 [.int i, .int j] = some (.int (if j < i then j else i)) := rfl
theorem gInt_i : gInt [.int i] = some (.int i) := rfl
theorem gInt_b : gInt [.bl b] = some (.int (if b then 1 else 0)) := rfl
theorem gTuple_t : gTuple [.tup ds] = some (.tup ds) := rfl
theorem gTuple_l : gTuple [.lst ds] = some (.tup ds) := rfl
theorem gList_t : gList [.tup ds] = some (.lst ds) := rfl
theorem gList_l : gList [.lst ds] = some (.lst ds) := rfl
theorem gStr_i : gStr [.int i] = if i.natAbs.log2 < 1920 ∧ (Str.ofString (toString i)).length ≤ lim then some (.str (Str.ofString (toString i))) else none := rfl
theorem gAll_l : gAll [.lst ds] = (bools ds).map fun bs => .bl (bs.all id) := rfl
theorem gAny_l : gAny [.lst ds] = (bools ds).map fun bs => .bl (bs.any id) := rfl
theorem gIx_l : gIx (.lst ds) (.int i) = atI ds i := rfl
theorem gIx_t : gIx (.tup ds) (.int i) = atI ds i := rfl
theorem gIx_s : gIx (.str x) (.int i) = (atI x.cps.toList i).map fun c => .str ⟨#[c]⟩ := rfl
theorem gSl_l {o p : Option Int} : gSl (.lst ds) o p = some (.lst (cutL ds o p)) := rfl
theorem gSl_t {o p : Option Int} : gSl (.tup ds) o p = some (.tup (cutL ds o p)) := rfl
theorem gSl_s {o p : Option Int} : gSl (.str x) o p = some (.str (cutS x o p)) := rfl
theorem truD_n : truD .non = some false := rfl
theorem truD_b : truD (.bl b) = some b := rfl
theorem truD_i : truD (.int i) = some (i != 0) := rfl
theorem truD_s : truD (.str x) = some (x.length != 0) := rfl
theorem truD_t : truD (.tup ds) = some (!ds.isEmpty) := rfl
theorem truD_l : truD (.lst ds) = some (!ds.isEmpty) := rfl
theorem view_dd {st : Sto} : view st (.d d) = some d := rfl
theorem viewL_dd {st : Sto} : viewL st (.d d) = some d := rfl
def vCell : Option Cell → Option D
  | some (.lst ds) => some (.lst ds)
  | some (.ins c fs) => some (.obj c fs)
  | _ => none
theorem vCell_l : vCell (some (.lst ds)) = some (.lst ds) := rfl
theorem vCell_i {f : List (Str × D)} : vCell (some (.ins x f)) = some (.obj x f) := rfl
theorem view_cc {st : Sto} {n : Nat} : view st (.c n) = vCell st[n]? := by
  show (match st[n]? with | some (Cell.lst ds) => some (D.lst ds) | some (Cell.ins c fs) => some (D.obj c fs) | _ => none) = _
  cases st[n]? with
  | none => rfl
  | some c => cases c <;> rfl
theorem viewL_cc {st : Sto} {n : Nat} : viewL st (.c n) = vCell st[n]? := view_cc
theorem viewL_scr {st : Sto} {ns : List Int} : viewL st (.scr ns) = some (.lst (ns.map D.int)) := rfl
theorem views_nil {st : Sto} : views st [] = some [] := rfl
theorem wpo_views {st : Sto} {w : W} {ws : List W} {k : List D → Prop} : wpo (views st (w :: ws)) k = wpo (viewL st w) fun d => wpo (views st ws) fun ds => k (d :: ds) := by
  show wpo (match viewL st w, views st ws with | some d, some ds => some (d :: ds) | _, _ => none) k = _
  cases viewL st w with
  | none => rfl
  | some d => cases views st ws <;> rfl
theorem pures_nil : pures [] = some [] := rfl
theorem pures_d {ws : List W} : pures (.d d :: ws) = (pures ws).map (d :: ·) := rfl
theorem ixN_natE {n k : Nat} : ixN n (k : Int) = if k < n then some k else none := by
  unfold ixN
  rw [if_pos (by omega)]
  by_cases h : k < n
  · rw [if_pos (by omega), if_pos h]; simp
  · rw [if_neg (by omega), if_neg h]
theorem ixN_lit {n k : Nat} : ixN n (no_index (OfNat.ofNat k : Int)) = if (OfNat.ofNat k : Nat) < n then some (OfNat.ofNat k) else none := ixN_natE
theorem atI_natE {α : Type} {xs : List α} {k : Nat} : atI xs (k : Int) = xs[k]? := by
  unfold atI
  rw [ixN_natE]
  split
  · rfl
  · rename_i h; rw [List.getElem?_eq_none (by omega)]; rfl
theorem atI_lit {α : Type} {xs : List α} {k : Nat} : atI xs (no_index (OfNat.ofNat k : Int)) = xs[(OfNat.ofNat k : Nat)]? := atI_natE
theorem atI_ok {α : Type} {xs : List α} {i : Int} (h0 : 0 ≤ i) (h1 : i < xs.length) : ∃ a, atI xs i = some a ∧ a ∈ xs := by
  obtain ⟨k, rfl⟩ := Int.eq_ofNat_of_zero_le h0
  rw [atI_natE]
  have : k < xs.length := by omega
  exact ⟨xs[k], List.getElem?_eq_getElem this, List.getElem_mem this⟩
theorem wpo_at {α : Type} {xs : List α} {i : Int} {k : α → Prop} (h0 : 0 ≤ i) (h1 : i < xs.length) (h : ∀ a, a ∈ xs → k a) : wpo (atI xs i) k := by
  obtain ⟨a, e, m⟩ := atI_ok h0 h1
  rw [e]
  exact h a m
end
end Dn
namespace Dn
open PySem L2
theorem bools_mapE {α : Type} (f : α → Bool) (xs : List α) : bools (xs.map fun x => D.bl (f x)) = some (xs.map f) := by
  induction xs with
  | nil => rfl
  | cons x xs ih => simp only [List.map_cons, bools, ih, Option.map_some]
theorem bools_nil : bools [] = some [] := rfl
theorem bools_cons {b : Bool} {ds : List D} : bools (.bl b :: ds) = (bools ds).map (b :: ·) := rfl
theorem all_idE {α : Type} (p : α → Prop) [DecidablePred p] (xs : List α) : (xs.map fun x => decide (p x)).all id = decide (∀ x ∈ xs, p x) := by
  rw [List.all_map]
  by_cases h : ∀ x ∈ xs, p x
  · rw [decide_eq_true h, List.all_eq_true]
    exact fun x hx => decide_eq_true (h x hx)
  · rw [decide_eq_false h, Bool.eq_false_iff]
    intro z
    rw [List.all_eq_true] at z
    exact h fun x hx => of_decide_eq_true (z x hx)
theorem txts_mapE (xs : List Str) : txts (xs.map D.str) = some xs := by
  induction xs with
  | nil => rfl
  | cons x xs ih => simp only [List.map_cons, txts, ih, Option.map_some]
theorem lim_is : lim = 100000 := rfl
theorem law_of {spec : Spec} {ns : List Int} (h : wp (spec [.scr ns] []) (fun w _ => w = .d (.bl true)) NX) : ∃ st, spec [.scr ns] [] = some (.ok (.d (.bl true)), st) := by
  rcases wp_of h with ⟨_, st, e, rfl⟩ | ⟨_, _, _, _, z⟩
  · exact ⟨st, e⟩
  · exact z.elim
end Dn
namespace Dn
open PySem L2 Ft
def rp (d : D) : Str := (toP d).shown
def fineS (x : Str) : Bool := x.cps.toList.all fun c => decide (c < 4294967296)
mutual
def fine : D → Bool
  | .int i => decide (i.natAbs.log2 < 1920)
  | .str x => fineS x
  | .tup ds => fines ds
  | .lst ds => fines ds
  | _ => true
def fines : List D → Bool
  | [] => true
  | d :: ds => fine d && fines ds
end
mutual
def shB : D → Nat
  | .bl _ => 5
  | .int i => (Str.ofString (toString i)).length
  | .str x => 10 * x.length + 2
  | .tup ds => shBs ds + 4
  | .lst ds => shBs ds + 2
  | _ => 4
def shBs : List D → Nat
  | [] => 0
  | d :: ds => shB d + 2 + shBs ds
end
theorem textFrom_le : ∀ (ts : List Str) (k : Nat) (acc : Str), (textFrom k acc ts).length ≤ acc.length + (ts.map fun t => t.length + 2).sum
  | [], k, acc => by simp [textFrom]
  | t :: ts, k, acc => by
    have h := textFrom_le ts (k + 1) (acc ++ (if k > 0 then ", " else "" : String) ++ t)
    have e : (acc ++ (if k > 0 then ", " else "" : String) ++ t).length ≤ acc.length + 2 + t.length := by
      rw [len_tl, tl_app, tl_app, List.length_append, List.length_append, ← len_tl, ← len_tl]
      split
      · show acc.length + (tl (", " : Str)).length + t.length ≤ _
        have : (tl (", " : Str)).length = 2 := by decide +kernel
        omega
      · show acc.length + (tl ("" : Str)).length + t.length ≤ _
        have : (tl ("" : Str)).length = 0 := by decide +kernel
        omega
    simp only [textFrom, List.map_cons, List.sum_cons]
    omega
theorem joinL_le (S : List Nat) : ∀ ls : List (List Nat), (TL.joinL S ls).length ≤ (ls.map fun l => l.length + S.length).sum
  | [] => by simp [TL.joinL]
  | [p] => by simp [TL.joinL]
  | p :: q :: r => by
    have h := joinL_le S (q :: r)
    simp only [TL.joinL, List.length_append, List.map_cons, List.sum_cons] at h ⊢
    omega
mutual
theorem shown_le : ∀ (d : D), fine d = true → (toP d).shown.length ≤ shB d
  | .non, _ => by show ("None" : Str).length ≤ 4; decide +kernel
  | .bl b, _ => by
    cases b
    · show ("False" : Str).length ≤ 5; decide +kernel
    · show ("True" : Str).length ≤ 5; decide +kernel
  | .int i, _ => Nat.le_refl _
  | .obj _ _, _ => by show ("None" : Str).length ≤ 4; decide +kernel
  | .emp, _ => by show ("None" : Str).length ≤ 4; decide +kernel
  | .exn _ _, _ => by show ("None" : Str).length ≤ 4; decide +kernel
  | .str x, h => by
    simp only [toP, PyData.shown, shB]
    refine PySem.StrLaws.reprText_len x fun c hc => ?_
    simp only [fine, fineS, List.all_eq_true] at h
    have := of_decide_eq_true (h c hc)
    omega
  | .tup ds, h => by
    simp only [toP, PyData.shown, shB]
    have q := shownAll_le ds (by simpa only [fine] using h)
    have j := joinL_le (tl (", " : Str)) ((PyData.shownAll (toPs ds)).map tl)
    have c2 : (tl (", " : Str)).length = 2 := by decide +kernel
    have c1 : ("(" : Str).length = 1 := by decide +kernel
    have e : ∀ a : Bool, ((if a = true then ",)" else ")" : String) : Str).length ≤ 2 := by intro a; cases a <;> decide +kernel
    rw [c2] at j
    have j2 : (Str.join ", " (PyData.shownAll (toPs ds))).length ≤ ((PyData.shownAll (toPs ds)).map fun t => t.length + 2).sum := by
      rw [len_tl]
      have : tl (Str.join ", " (PyData.shownAll (toPs ds))) = _ := TL.tl_join _ _
      rw [this]
      refine Nat.le_trans j ?_
      rw [List.map_map]
      have : ((fun l : List Nat => l.length + 2) ∘ tl) = fun t : Str => t.length + 2 := by
        funext t
        simp only [Function.comp_apply, len_tl]
      rw [this]
      exact Nat.le_refl _
    unfold tupleText
    rw [app_len, app_len]
    have := e ((PyData.shownAll (toPs ds)).length == 1)
    omega
  | .lst ds, h => by
    simp only [toP, PyData.shown, shB]
    have q := shownAll_le ds (by simpa only [fine] using h)
    have j := textFrom_le (PyData.shownAll (toPs ds)) 0 "["
    have c1 : ("[" : Str).length = 1 := by decide +kernel
    have c2 : ("]" : Str).length = 1 := by decide +kernel
    unfold listText
    rw [app_len]
    omega
theorem shownAll_le : ∀ (ds : List D), fines ds = true → ((PyData.shownAll (toPs ds)).map fun t => t.length + 2).sum ≤ shBs ds
  | [], _ => Nat.le_refl _
  | d :: ds, h => by
    simp only [fines, Bool.and_eq_true] at h
    have h1 := shown_le d h.1
    have h2 := shownAll_le ds h.2
    simp only [toPs, PyData.shownAll, List.map_cons, List.sum_cons, shBs]
    omega
end
mutual
theorem showable_of : ∀ (d : D), fine d = true → (toP d).showable = true
  | .non, _ => rfl
  | .bl _, _ => rfl
  | .str _, _ => rfl
  | .obj _ _, _ => rfl
  | .emp, _ => rfl
  | .exn _ _, _ => rfl
  | .int i, h => h
  | .tup ds, h => by
    simp only [toP, PyData.showable]
    exact showableAll_of ds (by simpa only [fine] using h)
  | .lst ds, h => by
    simp only [toP, PyData.showable]
    exact showableAll_of ds (by simpa only [fine] using h)
theorem showableAll_of : ∀ (ds : List D), fines ds = true → PyData.showableAll (toPs ds) = true
  | [], _ => rfl
  | d :: ds, h => by
    simp only [fines, Bool.and_eq_true] at h
    simp only [toPs, PyData.showableAll, showable_of d h.1, showableAll_of ds h.2, Bool.and_true]
end
structure Shows (d : D) : Prop where
  dok : dok 60 d = true
  fine : fine d = true
  le : shB d ≤ lim
theorem repr_ok {d : D} (h : Shows d) : gRepr [d] = some (.str (rp d)) := by
  have := shown_le d h.fine
  have l := h.le
  show (if _ then _ else _) = _
  rw [if_pos ⟨h.dok, showable_of d h.fine, by omega⟩]
  rfl
theorem int_len {i : Int} {k : Nat} (hk : 0 < k) (h : i.natAbs < 10 ^ k) : (Str.ofString (toString i)).length ≤ k + 1 := by
  rw [PyProof.Rows.ofString_length]
  exact int_text_length_le10 hk h
theorem log_ok {i : Int} {k : Nat} (h : i.natAbs < 10 ^ k) (hk : k ≤ 400) : i.natAbs.log2 < 1920 := by
  by_cases h0 : i.natAbs = 0
  · rw [h0]; decide
  · rw [Nat.log2_lt h0]
    have h1 : 10 ^ k ≤ 10 ^ 400 := Nat.pow_le_pow_right (by decide) hk
    have h2 : (10 : Nat) ^ 400 < 2 ^ 1920 := by decide +kernel
    omega
end Dn
namespace Dn
open PySem L2
theorem cutL_to {α : Type} {xs : List α} {k : Nat} : cutL xs none (some (k : Int)) = xs.take k := by
  unfold cutL
  rw [HT.sIx_nat, HT.sIx_none, List.drop_zero, Nat.sub_zero, List.take_eq_take_iff]
  omega
theorem cutL_toL {α : Type} {xs : List α} {k : Nat} : cutL xs none (some (no_index (OfNat.ofNat k : Int))) = xs.take (OfNat.ofNat k) := cutL_to
theorem cutL_from {α : Type} {xs : List α} {k : Nat} : cutL xs (some (k : Int)) none = xs.drop k := by
  unfold cutL
  rw [HT.sIx_nat, HT.sIx_none]
  by_cases h : k ≤ xs.length
  · rw [Nat.min_eq_left h, List.take_of_length_le (by rw [List.length_drop]; exact Nat.le_refl _)]
  · rw [Nat.min_eq_right (by omega), Nat.sub_self, List.take_zero, List.drop_eq_nil_of_le (by omega)]
theorem cutL_fromL {α : Type} {xs : List α} {k : Nat} : cutL xs (some (no_index (OfNat.ofNat k : Int))) none = xs.drop (OfNat.ofNat k) := cutL_from
end Dn
namespace Dn
open PySem L2
def eqDs (xs ys : List D) : Bool := PyData.eqvAll (toPs xs) (toPs ys)
mutual
theorem eqD_refl : ∀ d : D, eqD d d = true
  | .non => rfl
  | .bl b => by simp [eqD, toP, PyData.eqv]
  | .int i => by simp [eqD, toP, PyData.eqv]
  | .str i => by simp [eqD, toP, PyData.eqv]
  | .obj _ _ => rfl
  | .emp => rfl
  | .exn _ _ => rfl
  | .tup ds => by simp only [eqD, toP, PyData.eqv]; exact eqDs_refl ds
  | .lst ds => by simp only [eqD, toP, PyData.eqv]; exact eqDs_refl ds
theorem eqDs_refl : ∀ ds : List D, eqDs ds ds = true
  | [] => by simp [eqDs, toPs, PyData.eqvAll]
  | d :: ds => by
    have h1 := eqD_refl d
    have h2 := eqDs_refl ds
    unfold eqD at h1
    unfold eqDs at h2 ⊢
    simp only [toPs, PyData.eqvAll, h1, h2, Bool.and_self]
end
theorem eqD_ll {xs ys : List D} : eqD (.lst xs) (.lst ys) = eqDs xs ys := by simp only [eqD, toP, PyData.eqv]; rfl
theorem eqDs_nil : eqDs [] [] = true := by simp [eqDs, toPs, PyData.eqvAll]
theorem eqDs_cn {x : D} {xs : List D} : eqDs (x :: xs) [] = false := by simp [eqDs, toPs, PyData.eqvAll]
theorem eqDs_nc {x : D} {xs : List D} : eqDs [] (x :: xs) = false := by simp [eqDs, toPs, PyData.eqvAll]
theorem eqDs_cc {x y : D} {xs ys : List D} : eqDs (x :: xs) (y :: ys) = (eqD x y && eqDs xs ys) := by
  simp only [eqDs, eqD, toPs, PyData.eqvAll]
theorem eqDs_map {α : Type} [DecidableEq α] {f : α → D} (hf : ∀ a b, eqD (f a) (f b) = decide (a = b)) : ∀ {xs ys : List α}, eqDs (xs.map f) (ys.map f) = decide (xs = ys)
  | [], [] => by rw [List.map_nil, eqDs_nil, decide_eq_true rfl]
  | [], y :: ys => by rw [List.map_nil, List.map_cons, eqDs_nc]; rfl
  | x :: xs, [] => by rw [List.map_nil, List.map_cons, eqDs_cn]; rfl
  | x :: xs, y :: ys => by
    rw [List.map_cons, List.map_cons, eqDs_cc, hf, eqDs_map hf]
    by_cases h1 : x = y
    · subst h1; by_cases h2 : xs = ys
      · subst h2; simp
      · simp [h2]
    · simp [h1]
end Dn
namespace Dn
open PySem PySem.Spec PyProof.Rows L2 Ft LamX
section
variable {G : Gx} {X : Cx} {E : WX} {m m' : M} {H H' : Hp} {e o i v a : Expr} {fe fo fi fv : Ex} {fr : Ax} {pos p p2 q : Pos}
def eLenTx (fa : Ex) : Ex := fun sl st => bnd (fa sl st) fun w st1 => match view st1 w with
  | some (.str y) => if y.cps.all (· < 128) = true ∧ y.cps.toList.Nodup ∧ y.length ≤ 1000 then some (.ok (.d (.int y.length)), st1) else none
  | _ => none
def eListRg (fr : Ax) : Ex := fun sl st => bnd (fr sl st) fun ws st1 => match ws with
  | [.d (.int n)] => if -(2 ^ 62) ≤ n ∧ n ≤ 100000 then some (.ok (.d (.lst (rng 0 n.toNat))), st1) else none
  | _ => none
def intsD : List D → Option (List Int)
  | [] => some []
  | .int i :: ds => (intsD ds).map (i :: ·)
  | _ => none
def sortI (ns : List Int) : List Int := ns.mergeSort (fun a b => decide (a ≤ b))
def gSorted : List D → Option D
  | [.tup ds] => (intsD ds).bind fun ns => if ns.length < 64 then some (.lst ((sortI ns).map D.int)) else none
  | _ => none
end
section
variable {G : Gx} {X : Cx} {E : WX} {m m' : M} {H H' : Hp} {e o i v a : Expr} {te : TE} {fe fo fi fv : Ex} {fr : Ax} {pos p p2 q : Pos}
def revS (z : Str) : Str := ⟨z.cps.toList.reverse.toArray⟩
def eRevS (fa : Ex) : Ex := fun sl st => bnd (fa sl st) fun w st1 => match view st1 w with
  | some (.str y) => some (.ok (.d (.str (revS y))), st1)
  | _ => none
def sAsgIx (j : Nat) (fo fi fv : Ex) : Sm := fun sl st => stm (fv sl st) sl fun wv st1 => match wv with
  | .d (.tup [x, y]) => stm (fo sl st1) sl fun wo st2 => stm (fi sl st2) sl fun wi st3 => (match wo, wi with
    | .c n, .d (.int k) => (match st3[n]? with
      | some (.lst ds) => (match ixN ds.length k with
        | some jj => some (.nx, sl.set j (some (.d y)), st3.set n (.lst (ds.set jj x)))
        | none => none)
      | _ => none)
    | _, _ => none)
  | _ => none
def itemW : W → Option Wi
  | .d x => some (.d x)
  | .c n => some (.c n)
  | _ => none
def itemsW : List W → Option (List Wi)
  | [] => some []
  | w :: ws => match itemW w, itemsW ws with
    | some x, some xs => some (x :: xs)
    | _, _ => none
def eTupC (fa : Ax) : Ex := fun sl st => bnd (fa sl st) fun ws st1 => match itemsW ws with
  | some l => if l.length ≤ lim then some (.ok (.t l), st1) else none
  | none => none
def eInv (c : Str) (spec : Spec) (fa : Ex) : Ex := fun sl st => bnd (fa sl st) fun w st1 => match view st1 w with
  | some (.obj c' _) => if c' = c then spec [w] st1 else none
  | _ => none
end
end Dn
namespace Dn
open PySem PySem.Spec PyProof.Rows L2 Ft LamX StX
section
variable {G : Gx} {m m' : M} {H H' : Hp}
theorem RpWs.split : ∀ {ws : List W} {rs : List D} {vs : List V}, RpWs G m H vs (ws ++ rs.map W.d) → ∃ v1 v2, vs = v1 ++ v2 ∧ RpWs G m H v1 ws ∧ RpA G m H v2 rs
  | [], rs, vs, r => by
    refine ⟨[], vs, rfl, .nil, ?_⟩
    induction rs generalizing vs with
    | nil => cases r; exact .nil
    | cons d rs ih =>
      cases r with
      | cons r1 r2 => exact .cons r1 (ih _ r2)
  | w :: ws, rs, vs, r => by
    cases r with
    | cons r1 r2 =>
      obtain ⟨v1, v2, rfl, a, b⟩ := RpWs.split r2
      exact ⟨_ :: v1, v2, rfl, .cons r1 a, b⟩
theorem RpWs.app : ∀ {v1 v2 : List V} {w1 w2 : List W}, RpWs G m H v1 w1 → RpWs G m H v2 w2 → RpWs G m H (v1 ++ v2) (w1 ++ w2)
  | _, _, _, _, .nil, r => r
  | _, _, _, _, .cons a b, r => .cons a (RpWs.app b r)
end
section
variable {P : Program} {w : World} {K : PySem.W.Frag} {mg : Str → Option Value} {T : List (Addr × Str)} {base : Heap} {x qual pv : Str} {st : Stmt} {f : Addr} {fd : FuncData} {N ps : List Str} {k : Nat} {spec : Spec}
end
section
variable {G : Gx} {X : Cx} {E : WX} {e o : Expr} {es : List Expr} {fe fo : Ex} {fr : Ax} {pos p : Pos} {c : Str} {spec : Spec} {q : Nat}
def aStar (fe : Ex) (fr : Ax) : Ax := fun sl st => bnd (fe sl st) fun w st1 => match view st1 w with
  | some (.tup ds) => bnd (fr sl st1) fun ws st2 => some (.ok (ds.map W.d ++ ws), st2)
  | _ => none
theorem RpA.ws {m : M} {H : Hp} : ∀ {vs : List V} {ds : List D}, RpA G m H vs ds → RpWs G m H vs (ds.map W.d)
  | _, _, .nil => .nil
  | _, _, .cons a b => .cons a (RpA.ws b)
structure ClsR (P : Program) (w : World) (K : PySem.W.Frag) (mg : Str → Option Value) (base : Heap) (k : Nat) (x : Str) (C : Addr) (sp : Sp) : Prop where
  ex : ∃ f : Addr, FnR P w K mg base (L2.CX P w) k f sp ∧ mg x = some (.ref C) ∧ Mk K C f
def eNewR (c : Str) (spec : Spec) (q : Nat) (fa : Ax) : Ex := fun sl st => bnd (fa sl st) fun ws st1 => if q ≤ ws.length then (match pures (ws.drop q) with
  | some rs => if rs.length ≤ lim then made c st1.length (spec (.c st1.length :: (ws.take q ++ [.d (.tup rs)])) (st1 ++ [.ins c []])) else none
  | none => none) else none
end
end Dn
namespace Dn
open PySem PySem.Spec PyProof.Rows L2 Ft LamX StX
section
variable {G : Gx} {X : Cx} {E : WX} {e : Expr} {es : List Expr} {fr : Ax} {pos p : Pos} {c : Str} {spec : Spec} {q k : Nat} {T : List (Addr × Str)}
def gDivmod : List D → Option D
  | [.int i, .int j] => if 0 < j ∧ j < 1073741824 then some (.tup [.int (i / j), .int (i % j)]) else none
  | _ => none
end
section
variable {QW : W → Sto → Prop} {QA : List W → Sto → Prop} {X : XP} {sl : Slo} {st : Sto} {fa fb fo fi fe : Ex} {fr : Ax} {N : Slo → Sto → Prop} {En1 : En} {c : Str} {spec : Spec} {q : Nat}
def kLenTx (QW : W → Sto → Prop) (w : W) (st1 : Sto) : Prop := wpo (view st1 w) fun d => wps1 d fun y => (y.cps.all (· < 128) = true ∧ y.cps.toList.Nodup ∧ y.length ≤ 1000) ∧ QW (.d (.int y.length)) st1
theorem kLenTx_ap {w : W} {st1 : Sto} : kLenTx QW w st1 = wpo (view st1 w) fun d => wps1 d fun y => (y.cps.all (· < 128) = true ∧ y.cps.toList.Nodup ∧ y.length ≤ 1000) ∧ QW (.d (.int y.length)) st1 := rfl
theorem wp_lenTx : wp (eLenTx fa sl st) QW X = wp (fa sl st) (kLenTx QW) X := by
  unfold eLenTx
  rw [wp_bnd]
  congr; funext w st1
  unfold kLenTx
  cases view st1 w with
  | none => rfl
  | some d => cases d with
    | str y =>
      simp only [wpo_some, wps1]
      by_cases h : y.cps.all (· < 128) = true ∧ y.cps.toList.Nodup ∧ y.length ≤ 1000
      · rw [if_pos h]; simp only [h, and_self, true_and]; rfl
      · rw [if_neg h]; simp only [h, false_and]; rfl
    | _ => rfl
def kListRg (QW : W → Sto → Prop) (ws : List W) (st1 : Sto) : Prop := wp1 ws fun w => wpd w fun d => wpi d fun n => (-(2 ^ 62) ≤ n ∧ n ≤ 100000) ∧ QW (.d (.lst (rng 0 n.toNat))) st1
theorem kListRg_ap {ws : List W} {st1 : Sto} : kListRg QW ws st1 = wp1 ws fun w => wpd w fun d => wpi d fun n => (-(2 ^ 62) ≤ n ∧ n ≤ 100000) ∧ QW (.d (.lst (rng 0 n.toNat))) st1 := rfl
theorem wp_listRg : wp (eListRg fr sl st) QW X = wp (fr sl st) (kListRg QW) X := by
  unfold eListRg
  rw [wp_bnd]
  congr; funext ws st1
  unfold kListRg
  match ws with
  | [] => rfl
  | [.d d] => cases d with
    | int n =>
      simp only [wp1, wpd, wpi]
      by_cases h : -(2 ^ 62) ≤ n ∧ n ≤ 100000
      · rw [if_pos h]; simp only [h, and_self, true_and]; rfl
      · rw [if_neg h]; simp only [h, false_and]; rfl
    | _ => rfl
  | [.c _] => rfl
  | [.scr _] => rfl
  | [.t _] => rfl
  | a :: _ :: _ => cases a with
    | d d => cases d <;> rfl
    | _ => rfl
def kRevS (QW : W → Sto → Prop) (w : W) (st1 : Sto) : Prop := wpo (view st1 w) fun d => wps1 d fun y => QW (.d (.str (revS y))) st1
theorem kRevS_ap {w : W} {st1 : Sto} : kRevS QW w st1 = wpo (view st1 w) fun d => wps1 d fun y => QW (.d (.str (revS y))) st1 := rfl
theorem wp_revS : wp (eRevS fa sl st) QW X = wp (fa sl st) (kRevS QW) X := by
  unfold eRevS
  rw [wp_bnd]
  congr; funext w st1
  unfold kRevS
  cases view st1 w with
  | none => rfl
  | some d => cases d <;> rfl
def wt2 (ds : List D) (k : D → D → Prop) : Prop := match ds with
  | [a, b] => k a b
  | _ => False
def kAsgIx3 (j : Nat) (x y : D) (wo : W) (sl : Slo) (N : Slo → Sto → Prop) (wi : W) (st3 : Sto) : Prop := wpc wo fun n => wpd wi fun k => wpi k fun k => wpo st3[n]? fun c => wpl c fun ds => wpo (ixN ds.length k) fun jj => N (sl.set j (some (.d y))) (st3.set n (.lst (ds.set jj x)))
def kAsgIx2 (j : Nat) (x y : D) (fi : Ex) (sl : Slo) (N : Slo → Sto → Prop) (E : En) (wo : W) (st2 : Sto) : Prop := wp (fi sl st2) (kAsgIx3 j x y wo sl N) (kX E sl)
def kAsgIx (j : Nat) (fo fi : Ex) (sl : Slo) (N : Slo → Sto → Prop) (E : En) (wv : W) (st1 : Sto) : Prop := wpd wv fun d => wpt d fun ds => wt2 ds fun x y => wp (fo sl st1) (kAsgIx2 j x y fi sl N E) (kX E sl)
theorem kAsgIx3_ap {j : Nat} {x y : D} {wo : W} {wi : W} {st3 : Sto} : kAsgIx3 j x y wo sl N wi st3 = wpc wo fun n => wpd wi fun k => wpi k fun k => wpo st3[n]? fun c => wpl c fun ds => wpo (ixN ds.length k) fun jj => N (sl.set j (some (.d y))) (st3.set n (.lst (ds.set jj x))) := rfl
theorem kAsgIx2_ap {j : Nat} {x y : D} {wo : W} {st2 : Sto} : kAsgIx2 j x y fi sl N En1 wo st2 = wp (fi sl st2) (kAsgIx3 j x y wo sl N) (kX En1 sl) := rfl
theorem kAsgIx_ap {j : Nat} {wv : W} {st1 : Sto} : kAsgIx j fo fi sl N En1 wv st1 = wpd wv fun d => wpt d fun ds => wt2 ds fun x y => wp (fo sl st1) (kAsgIx2 j x y fi sl N En1) (kX En1 sl) := rfl
theorem wps_asgIx {j : Nat} : wps (sAsgIx j fo fi fa sl st) N En1 = wp (fa sl st) (kAsgIx j fo fi sl N En1) (kX En1 sl) := wps_stm' fun wv st1 => by
  unfold kAsgIx
  split
  · rename_i x y
    show wps (stm (fo sl st1) sl _) N En1 = _
    refine wps_stm' fun wo st2 => ?_
    unfold kAsgIx2
    refine wps_stm' fun wi st3 => ?_
    unfold kAsgIx3
    cases wo with
    | c n => cases wi with
      | d k => cases k with
        | int k =>
          simp only [wpc, wpd, wpi]
          cases st3[n]? with
          | none => rfl
          | some c => cases c with
            | lst ds => simp only [wpo_some, wpl]; cases ixN ds.length k <;> rfl
            | ins _ _ => rfl
            | dn _ => rfl
            | dk _ => rfl
        | _ => rfl
      | _ => rfl
    | _ => rfl
  · rename_i hn
    cases wv with
    | d d => cases d with
      | tup ds =>
        match ds with
        | [] => rfl
        | [_] => rfl
        | [x, y] => exact absurd rfl (hn x y)
        | _ :: _ :: _ :: _ => rfl
      | _ => rfl
    | _ => rfl
def kTupC (QW : W → Sto → Prop) (ws : List W) (st1 : Sto) : Prop := wpo (itemsW ws) fun l => l.length ≤ lim ∧ QW (.t l) st1
theorem kTupC_ap {ws : List W} {st1 : Sto} : kTupC QW ws st1 = wpo (itemsW ws) fun l => l.length ≤ lim ∧ QW (.t l) st1 := rfl
theorem wp_tupC : wp (eTupC fr sl st) QW X = wp (fr sl st) (kTupC QW) X := by
  unfold eTupC
  rw [wp_bnd]
  congr; funext ws st1
  unfold kTupC
  cases itemsW ws with
  | none => rfl
  | some l =>
    by_cases h : l.length ≤ lim
    · simp only [h, if_true, wpo_some, true_and]; rfl
    · simp only [h, if_false, wpo_some, false_and]; rfl
theorem wp_fin_t {fr : Bool} {n : Nat} {l : List Wi} : wp (fin fr n (.t l) st) QW X = wpo (frzL n st l) fun ds => QW (.d (.tup ds)) (st.take n) := by
  show wp (match frzL n st l with | some ds => some (O.ok (W.d (.tup ds)), st.take n) | none => none) _ _ = _
  cases frzL n st l <;> rfl
theorem itemsW_nil : itemsW [] = some [] := rfl
theorem itemsW_d {d : D} {ws : List W} : itemsW (.d d :: ws) = (itemsW ws).map (Wi.d d :: ·) := by
  show (match some (Wi.d d), itemsW ws with | some x, some xs => some (x :: xs) | _, _ => none) = _
  cases itemsW ws <;> rfl
theorem itemsW_c {n : Nat} {ws : List W} : itemsW (.c n :: ws) = (itemsW ws).map (Wi.c n :: ·) := by
  show (match some (Wi.c n), itemsW ws with | some x, some xs => some (x :: xs) | _, _ => none) = _
  cases itemsW ws <;> rfl
theorem frzL_nil {n : Nat} : frzL n st [] = some [] := rfl
theorem frzL_d {n : Nat} {d : D} {l : List Wi} : frzL n st (.d d :: l) = (frzL n st l).map (d :: ·) := by
  show (match some d, frzL n st l with | some d, some ds => some (d :: ds) | _, _ => none) = _
  cases frzL n st l <;> rfl
def frzC (n i : Nat) (o : Option Cell) : Option D := if i < n then none else match o with
  | some (.lst ds) => some (.lst ds)
  | _ => none
theorem frzL_c {n i : Nat} {l : List Wi} : frzL n st (.c i :: l) = (frzC n i st[i]?).bind fun d => (frzL n st l).map (d :: ·) := by
  show (match frzC n i st[i]?, frzL n st l with | some d, some ds => some (d :: ds) | _, _ => none) = _
  cases frzC n i st[i]? with
  | none => rfl
  | some d => cases frzL n st l <;> rfl
def kInv (c : Str) (spec : Spec) (QW : W → Sto → Prop) (X : XP) (w : W) (st1 : Sto) : Prop := wpo (view st1 w) fun d => wpj d fun c' _ => c' = c ∧ wp (spec [w] st1) QW X
theorem kInv_ap {w : W} {st1 : Sto} : kInv c spec QW X w st1 = wpo (view st1 w) fun d => wpj d fun c' _ => c' = c ∧ wp (spec [w] st1) QW X := rfl
theorem wp_inv : wp (eInv c spec fa sl st) QW X = wp (fa sl st) (kInv c spec QW X) X := by
  unfold eInv
  rw [wp_bnd]
  congr; funext w st1
  unfold kInv
  cases view st1 w with
  | none => rfl
  | some d => cases d with
    | obj c' gs =>
      simp only [wpo_some, wpj]
      by_cases h : c' = c
      · simp only [h, if_true, true_and]
      · simp only [h, if_false, false_and]; rfl
    | _ => rfl
def kStar2 (ds : List D) (QA : List W → Sto → Prop) (ws : List W) (st2 : Sto) : Prop := QA (ds.map W.d ++ ws) st2
def kStar (fr : Ax) (sl : Slo) (QA : List W → Sto → Prop) (X : XP) (w : W) (st1 : Sto) : Prop := wpo (view st1 w) fun d => wpt d fun ds => wp (fr sl st1) (kStar2 ds QA) X
theorem kStar2_ap {ds : List D} {ws : List W} {st2 : Sto} : kStar2 ds QA ws st2 = QA (ds.map W.d ++ ws) st2 := rfl
theorem kStar_ap {w : W} {st1 : Sto} : kStar fr sl QA X w st1 = wpo (view st1 w) fun d => wpt d fun ds => wp (fr sl st1) (kStar2 ds QA) X := rfl
theorem wp_star : wp (aStar fe fr sl st) QA X = wp (fe sl st) (kStar fr sl QA X) X := by
  unfold aStar
  rw [wp_bnd]
  congr; funext w st1
  unfold kStar
  cases view st1 w with
  | none => rfl
  | some d => cases d with
    | tup ds => simp only [wpo_some, wpt, wp_bnd, wp_ok]; rfl
    | _ => rfl
def kNewR (c : Str) (spec : Spec) (q : Nat) (QW : W → Sto → Prop) (X : XP) (ws : List W) (st1 : Sto) : Prop := q ≤ ws.length ∧ wpo (pures (ws.drop q)) fun rs => rs.length ≤ lim ∧ wp (made c st1.length (spec (.c st1.length :: (ws.take q ++ [.d (.tup rs)])) (st1 ++ [.ins c []]))) QW X
theorem kNewR_ap {ws : List W} {st1 : Sto} : kNewR c spec q QW X ws st1 = (q ≤ ws.length ∧ wpo (pures (ws.drop q)) fun rs => rs.length ≤ lim ∧ wp (made c st1.length (spec (.c st1.length :: (ws.take q ++ [.d (.tup rs)])) (st1 ++ [.ins c []]))) QW X) := rfl
theorem wp_newR : wp (eNewR c spec q fr sl st) QW X = wp (fr sl st) (kNewR c spec q QW X) X := by
  unfold eNewR
  rw [wp_bnd]
  congr; funext ws st1
  unfold kNewR
  by_cases h : q ≤ ws.length
  · rw [if_pos h]
    simp only [h, true_and]
    cases pures (ws.drop q) with
    | none => rfl
    | some rs =>
      by_cases hl : rs.length ≤ lim
      · simp only [hl, if_true, wpo_some, true_and]
      · simp only [hl, if_false, wpo_some, false_and]; rfl
  · rw [if_neg h]; simp only [h, false_and]; rfl
theorem pures_map {ds : List D} : pures (ds.map W.d) = some ds := by
  induction ds with
  | nil => rfl
  | cons d ds ih => simp only [List.map_cons, pures, ih, Option.map_some]
theorem gDivmod_ii {i j : Int} : gDivmod [.int i, .int j] = if 0 < j ∧ j < 1073741824 then some (.tup [.int (i / j), .int (i % j)]) else none := rfl
theorem gSorted_t {ds : List D} : gSorted [.tup ds] = (intsD ds).bind fun ns => if ns.length < 64 then some (.lst ((sortI ns).map D.int)) else none := rfl
theorem intsD_map {ns : List Int} : intsD (ns.map D.int) = some ns := by
  induction ns with
  | nil => rfl
  | cons n ns ih => simp only [List.map_cons, intsD, ih, Option.map_some]
end
end Dn
namespace Ft
open PySem PySem.Spec PyProof.Rows PySem.SeqAt PySem.W
section
variable {prog : Program} {w : World} {A : Around} {E : Value → Shared → Prop} {s : Shared} {K : PySem.W.Frag} {x C L f : Addr} {ox : Obj} {od : Option Obj} {b tb : Value} {h₀ : Heap} {m : Str → Option Value}
end
end Ft
namespace Dn
open PySem PySem.Spec PyProof.Rows L2 Ft LamX StX
section
variable {G : Gx} {X : Cx} {E : WX} {a b o : Expr} {fa fb fo : Ex} {pos : Pos} {k : Nat} {c : Str}
structure EqFacts (K : PySem.W.Frag) (C : Addr) : Prop where
  ne : PySem.W.findIn K (.ref C) "__ne__" = some (some (.builtin "object.__ne__"))
  mro : PySem.W.mroIn K C (.type "object") = some true
end
end Dn
namespace Dn
open PySem PySem.Spec PyProof.Rows L2 Ft LamX StX
section
variable {G : Gx} {X : Cx} {E : WX} {a b o : Expr} {fa fb fo : Ex} {pos : Pos} {k : Nat} {c : Str}
variable {n : Nat} {C : Addr} {spec : Spec} {neg : Bool} {g : D → D → Option D}
structure IsFacts (K : PySem.W.Frag) (C : Addr) : Prop where
  cls : Cls K C
  at_ : PySem.W.findIn K (.ref C) "__class__" = some (some (.builtin "object.__class__"))
  get : PySem.W.specialIn K (.builtin "object.__class__") "__get__" = some (some (.builtin "getset_descriptor.__get__"))
  tks : PySem.W.takesIn K (.builtin "object.__class__") = some true
  mro : PySem.W.mroIn K C (.type "object") = some true
  slf : PySem.W.kitOne K (.ref C) (.ref C) = some true
  blt : ∀ t ∈ (["NoneType", "bool", "int", "str", "tuple", "list", "dict"] : List String), PySem.W.kitOne K (.type t) (.ref C) = some false
end
end Dn
namespace Dn
open PySem PySem.Spec PyProof.Rows L2 Ft LamX StX
section
variable {c : Str} {spec : Spec} {neg : Bool} {g : D → D → Option D} {fa fb : Ex} {sl : Slo} {st : Sto} {QW : W → Sto → Prop} {QB : Bool → Sto → Prop} {X : XP}
end
end Dn
namespace Dn
end Dn
namespace Dn
open PySem PySem.Spec PyProof.Rows L2 Ft LamX StX
def FnKR (P : Program) (w : World) (K : PySem.W.Frag) (mg : Str → Option Value) (base : Heap) (CX : CXT) (k : Nat) (f : Addr) (ks : List Str) (g : {α : Type} → List α → List α → List α) (sp : Sp) : Prop :=
  ∀ (A : Around) (outer : List Env) (s : Shared) (H : Hp) (u : Value) (x : V) (us : List Value) (vs : List V) (Q : VK) (E : XK), Room k A → Env0 P w K mg base A outer s H → RelV x u → Vals vs us → us.length = ks.length → sp (x :: g [] vs) H Q E →
    codeAny (model P w) A (.call (.ref f) ⟨[u], ks.zip us⟩) (CR CX outer P w H s Q E) s
section
variable {CX : CXT} {P : Program} {w : World} {K : PySem.W.Frag} {mg : Str → Option Value} {base : Heap} {k : Nat} {f : Addr} {name qual : Str} {params : Arguments} {body : List Stmt} {scope : Scope} {dV kV doc pm cdv ct oc : Value} {an od : Option Addr} {osl : Array (Option Value)} {ps N ks : List Str} {sp : Sp} {g : {α : Type} → List α → List α → List α}
end
end Dn
namespace Dn
open PySem PySem.Spec PyProof.Rows L2 Ft LamX StX
section
variable {P : Program} {w : World} {K : PySem.W.Frag} {mg : Str → Option Value} {T : List (Addr × Str)} {base : Heap} {x qual pv : Str} {st : Stmt} {f : Addr} {fd : FuncData} {N ps ks : List Str} {k : Nat} {spec : Spec} {g : {α : Type} → List α → List α → List α}
end
end Dn
namespace Dn
open PySem PySem.Spec PyProof.Rows L2 Ft LamX StX
section
variable {G : Gx} {X : Cx} {E : WX} {kws : List Keyword} {fk : Ax} {pos p : Pos} {c : Str} {ks : List Str} {spec : Spec} {k q : Nat} {g : {α : Type} → List α → List α → List α}
structure ClsKR (P : Program) (w : World) (K : PySem.W.Frag) (mg : Str → Option Value) (base : Heap) (k : Nat) (x : Str) (C : Addr) (ks : List Str) (g : {α : Type} → List α → List α → List α) (sp : Sp) : Prop where
  ex : ∃ f : Addr, FnKR P w K mg base (L2.CX P w) k f ks g sp ∧ mg x = some (.ref C) ∧ Mk K C f
end
end Dn
namespace Dn
open PySem PySem.Spec PyProof.Rows L2 Ft LamX StX
section
variable {X : Cx} {E : WX} {kws : List Keyword} {fk : Ax} {pos p : Pos} {c : Str} {ks : List Str} {spec : Spec} {k q : Nat} {g : {α : Type} → List α → List α → List α} {T : List (Addr × Str)}
end
section
variable {c : Str} {spec : Spec} {g : List W → List W → List W} {q l : Nat} {fk : Ax} {sl : Slo} {st : Sto} {QW : W → Sto → Prop} {X : XP}
end
end Dn
namespace Dn
open PySem PySem.Spec PyProof.Rows L2 Ft LamX StX
section
variable {G : Gx} {X : Cx} {E : WX} {m : M} {H : Hp} {e : Expr} {fe fa : Ex} {sl : Slo} {st : Sto} {QW : W → Sto → Prop} {XQ : XP}
end
end Dn
namespace Ft
open PySem PySem.Spec PyProof.Rows PySem.SeqAt PySem.W PySem.Calls
section
variable {prog : Program} {w : World} {A : Around} {E : Value → Shared → Prop} {s : Shared} {K : PySem.W.Frag} {x C L f : Addr} {ox : Obj} {od : Option Obj} {h₀ : Heap} {m : Str → Option Value}
end
end Ft
namespace Dn
open PySem PySem.Spec PyProof.Rows L2 Ft LamX StX
section
variable {G : Gx} {X : Cx} {E : WX} {k : Nat} {f C : Addr} {fd : FuncData} {ps : List Str} {sp : Sp} {σ : L2.St} {H : Hp} {s : Shared} {Q : VK} {pins : List (Addr × Obj)} {us : List Value} {vs : List V} {c mth : Str} {spec : Spec} {conv : D → Option D} {cvt : V → V → Prop} {fe fa fb : Ex} {n : Nat}
end
section
variable {X : Cx} {E : WX} {T : List (Addr × Str)} {k : Nat} {c : Str} {ps : List Str} {spec : Spec} {fe : Ex} {e : Expr} {p pos : Pos}
structure LenFacts (K : PySem.W.Frag) (C : Addr) : Prop where
  nb : PySem.W.findIn K (.ref C) "__bool__" = some none
end
end Dn
namespace Dn
open PySem PySem.Spec PyProof.Rows L2 Ft LamX StX
section
variable {G : Gx} {X : Cx} {E : WX} {T : List (Addr × Str)} {k : Nat} {c : Str} {ps : List Str} {spec : Spec} {fa fb : Ex} {a b : Expr} {p pos : Pos} {neg : Bool}
end
end Dn
namespace Ft
open PySem PySem.Spec PyProof.Rows PySem.SeqAt PySem.W PySem.Calls
open AutoSeq1 (wpAny_loadPart')
section
variable {K : PySem.W.Frag} {x C : Addr} {ox : Obj} {od : Option Obj}
end
section
variable {prog : Program} {w : World} {A : Around} {E : Value → Shared → Prop} {s : Shared} {K : PySem.W.Frag} {x C f : Addr} {ox : Obj} {od : Option Obj} {u : Value} {T id : String}
end
end Ft
namespace Dn
open PySem PySem.Spec PyProof.Rows L2 Ft LamX StX
section
variable {G : Gx} {X : Cx} {E : WX} {T : List (Addr × Str)} {k : Nat} {c : Str} {ps : List Str} {spec : Spec} {fa fb : Ex} {a b : Expr} {p pos : Pos}
structure ReflFacts (K : PySem.W.Frag) (C : Addr) : Prop where
  sub : ∀ t ∈ (["NoneType", "bool", "int", "str", "tuple", "list", "dict"] : List String), PySem.W.subIn K (.ref C) (.type t) = some false
end
end Dn
namespace Dn
open PySem PySem.Spec PyProof.Rows L2 Ft LamX StX
section
variable {c : Str} {spec : Spec} {neg : Bool} {conv : D → Option D} {fa fb fe : Ex} {sl : Slo} {st : Sto} {QW : W → Sto → Prop} {QB : Bool → Sto → Prop} {X : XP}
end
end Dn
namespace HT
open PySem PySem.Spec PyProof.Rows
section
variable {prog : Program} {w : World} {A : Around} {E : Value → Shared → Prop} {s : Shared}
end
end HT
namespace Dn
open PySem PySem.Spec PyProof.Rows L2 Ft LamX StX
section
variable {X : Cx}
end
def wpdl (d : D) (k : List D → Prop) : Prop := match d with
  | .lst x => k x
  | _ => False
theorem wpdl_l {ds : List D} {k : List D → Prop} : wpdl (.lst ds) k = k ds := rfl
section
variable {G : Gx} {X : Cx} {E : WX} {m m' : M} {H H' : Hp} {e o i v : Expr} {es : List Expr} {fe fo fi fv fa : Ex} {fr : Ax} {pos p apos : Pos} {sl : Slo} {st : Sto} {QW : W → Sto → Prop} {QA : List W → Sto → Prop} {XQ : XP}
end
end Dn
namespace Dn
end Dn
namespace Dn
open PySem PySem.Spec PyProof.Rows L2 Ft LamX StX
section
variable {X : Cx} {E : WX} {T : List (Addr × Str)} {k : Nat} {c m : Str} {ps ks : List Str} {spec : Spec} {fr fk : Ax} {e : Expr} {es : List Expr} {kws : List Keyword} {p pos apos : Pos} {pl : Sem Bool} {g : {α : Type} → List α → List α → List α}
structure StatAt (K : PySem.W.Frag) (C : Addr) (m : Str) (q f : Addr) : Prop where
  rd : PySem.W.readsIn K C (.type "type") = true
  ga : PySem.W.specialIn K (.ref C) "__getattribute__" = some (some (.builtin "type.__getattribute__"))
  at_ : PySem.W.findCls K (.ref C) (.type "type") m = some (.get (.builtin "staticmethod.__get__") (.ref q) .none (.ref C))
  rc : ∃ rest, PySem.W.recIn K q "staticmethod" = some (.ref f :: rest)
end
section
variable {P : Program} {w : World} {K : PySem.W.Frag} {mg : Str → Option Value} {base : Heap} {T : List (Addr × Str)} {x qual c mth : Str} {st : Stmt} {f C q : Addr} {fd : FuncData} {ps ks : List Str} {k n : Nat} {spec : Spec} {g : {α : Type} → List α → List α → List α}
end
end Dn
namespace Dn
end Dn
set_option maxHeartbeats 3200000
namespace Ft
open PySem PySem.Spec PyProof.Rows L2 PySem.Froz
section
variable {P : Program} {w : World} {A : Around} {E : Value → Shared → Prop} {s : Shared}
structure TxR (P : Program) (w : World) (D : SD) (l : List Str) : Prop where
  ok : TxOk P w D l
  ris : Ris D.2.2.place.toList
  led : w.params.followText "set-order" = true ∨ D.2.2.led = true
  nd : l.Nodup
theorem tail_ris {ep : Nat} {es1 : Array (Int × Value)} {t2 : SetTable} {wd : Bool} (h : Ris t2.place.toList) : Ris (tailTx ep es1 t2 wd).2.2.place.toList := by
  unfold tailTx
  split
  · exact relayAll_ris _ _ _
  · exact h
theorem tail_led {ep : Nat} {es1 : Array (Int × Value)} {t2 : SetTable} {wd : Bool} (h : t2.led = true) : (tailTx ep es1 t2 wd).2.2.led = true := by
  unfold tailTx
  split
  · exact (relayAll_led _ _ _).trans h
  · exact h
theorem TxR.add {D : SD} {l : List Str} {k : Str} (u : Tok) (F : TxR P w D l) (hk : k ∉ l) : TxR P w (addTx (hashStr w k) (.str k u) D) (k :: l) := by
  refine ⟨add_ok u F.ok, ?_, ?_, List.nodup_cons.mpr ⟨hk, F.nd⟩⟩
  · obtain ⟨es, ep, t⟩ := D
    have hr1 := layNew_ris t es (hashStr w k) (.str k u) F.ris
    unfold addTx
    refine tail_ris ?_
    split <;> exact hr1
  · obtain ⟨es, ep, t⟩ := D
    refine F.led.imp id fun z => ?_
    have hl1 := layNew_led t es (hashStr w k) (.str k u)
    unfold addTx
    refine tail_led ?_
    split <;> exact hl1.trans z
end
section
variable {X : Cx} {a : Expr} {ta : TE}
end
end Ft
namespace Dn
open PySem PySem.Spec PyProof.Rows L2 Ft LamX StX
section
variable {G : Gx} {X : Cx} {E : WX} {m m' : M} {H H' : Hp} {e : Expr} {fe fa : Ex} {fr : Ax} {pos p p2 q : Pos} {sl : Slo} {st : Sto} {QW : W → Sto → Prop} {XQ : XP}
end
end Dn
namespace Dn
open PySem PySem.Spec PyProof.Rows L2 Ft LamX
def dnAt (kvs : List (D × D)) (k : NestedKey) : Option D := (kvs.find? fun p => decide (keyD p.1 = some k)).map (·.2)
def dnPut (kvs : List (D × D)) (d : D) (k : NestedKey) (v : D) : List (D × D) := if (dnAt kvs k).isSome = true then kvs.map (fun p => if keyD p.1 = some k then (p.1, v) else p) else kvs ++ [(d, v)]
section
variable {X : Cx} {pins : List (Addr × Obj)} {σ : L2.St} {H : Hp} {s : Shared} {G : Gx} {m : M}
mutual
theorem nested_of (I : Inv X pins σ H s) : ∀ (d : D) {v : V} {u : Value} {k : NestedKey}, Rp G m H v d → RelV v u → keyD d = some k → NestedIs s.heap k u
  | .non, _, _, _, r, ru, e => by
    cases r; cases e
    cases (show _ = Value.none from ru)
    exact .none
  | .bl b, _, _, _, r, ru, e => by
    cases r; cases e
    cases (show _ = Value.bool b from ru)
    exact .bool rfl
  | .int i, _, _, _, r, ru, e => by
    cases r; cases e
    obtain ⟨t, rfl⟩ := ru
    exact .int _ _
  | .str x, _, _, _, r, ru, e => by
    cases r; cases e
    obtain ⟨t, rfl⟩ := ru
    exact .text _ _
  | .tup ds, _, _, _, r, ru, e => by
    cases r with
    | @tup a xs _ l h q =>
      rw [keyD] at e
      obtain ⟨ks, e1, rfl⟩ := Option.map_eq_some_iff.mp e
      cases (show _ = Value.ref a from ru)
      obtain ⟨_, its, rel, o, h1, h2, n, h3⟩ := (show ObjOk X.prog X.w H s.heap a (.tup xs) from I.hok a _ h)
      exact .tup h1 h2 h3 (by simpa using nesteds_of I ds q rel e1)
  | .lst _, _, _, _, _, _, e => by simp [keyD] at e
  | .obj _ _, _, _, _, _, _, e => by simp [keyD] at e
  | .emp, _, _, _, _, _, e => by simp [keyD] at e
  | .exn _ _, _, _, _, _, _, e => by simp [keyD] at e
theorem nesteds_of (I : Inv X pins σ H s) : ∀ (ds : List D) {vs : List V} {us : List Value} {ks : List NestedKey}, RpA G m H vs ds → Vals vs us → keysD ds = some ks → NestedAll s.heap ks us
  | [], _, _, _, r, ru, e => by
    cases r; cases ru; cases e
    exact .nil
  | d :: ds, _, _, _, r, ru, e => by
    cases r with
    | cons r1 r2 =>
      cases ru with
      | cons u1 u2 =>
        rw [keysD] at e
        obtain ⟨k, e1, e2⟩ := Option.bind_eq_some_iff.mp e
        obtain ⟨ks, e3, rfl⟩ := Option.map_eq_some_iff.mp e2
        exact .cons (nested_of I d r1 u1 e1) (nesteds_of I ds r2 u2 e3)
end
theorem keysD_cons {d : D} {ds : List D} {ks : List NestedKey} (e : keysD (d :: ds) = some ks) : ∃ k ks', keyD d = some k ∧ keysD ds = some ks' ∧ ks = k :: ks' := by
  rw [keysD] at e
  obtain ⟨k, e1, e2⟩ := Option.bind_eq_some_iff.mp e
  obtain ⟨ks', e3, rfl⟩ := Option.map_eq_some_iff.mp e2
  exact ⟨k, ks', e1, e3, rfl⟩
theorem keysD_of {d : D} {ds : List D} {k : NestedKey} {ks : List NestedKey} (e : keyD d = some k) (e2 : keysD ds = some ks) : keysD (d :: ds) = some (k :: ks) := by
  rw [keysD, e, Option.bind_some, e2]
  rfl
abbrev Xs := List (NestedKey × Addr × Value)
theorem dnAt_cons {p : D × D} {kvs : List (D × D)} {k : NestedKey} : dnAt (p :: kvs) k = if keyD p.1 = some k then some p.2 else dnAt kvs k := by
  unfold dnAt
  rw [List.find?_cons]
  by_cases h : keyD p.1 = some k
  · rw [if_pos h, decide_eq_true h]
    rfl
  · rw [if_neg h, decide_eq_false h]
theorem atKey_cons {p : NestedKey × Addr × Value} {xs : Xs} {k : NestedKey} : atKey (p :: xs) k = if p.1 = k then some p.2 else atKey xs k := by
  unfold atKey
  rw [List.find?_cons]
  by_cases h : p.1 = k
  · rw [if_pos h, decide_eq_true h]
    rfl
  · rw [if_neg h, decide_eq_false h]
structure Dne (G : Gx) (m : M) (H : Hp) (kvs : List (D × D)) (xs : Xs) (vs : List V) : Prop where
  ks : keysD (kvs.map (·.1)) = some (xs.map (·.1))
  va : Vals vs (xs.map (·.2.2))
  rk : RpA G m H (xs.map fun x => V.ref x.2.1) (kvs.map (·.1))
  rv : RpA G m H vs (kvs.map (·.2))
theorem Dne.nil : Dne G m H [] [] [] := ⟨rfl, .nil, .nil, .nil⟩
theorem Dne.uncons {p : D × D} {kvs : List (D × D)} {xs : Xs} {vs : List V} (h : Dne G m H (p :: kvs) xs vs) : ∃ k a u v xs' vs', xs = (k, a, u) :: xs' ∧ vs = v :: vs' ∧ keyD p.1 = some k ∧ Rp G m H (.ref a) p.1 ∧ RelV v u ∧ Rp G m H v p.2 ∧ Dne G m H kvs xs' vs' := by
  obtain ⟨h1, h2, h3, h4⟩ := h
  obtain ⟨k, ks, e1, e2, e3⟩ := keysD_cons h1
  cases xs with
  | nil => cases e3
  | cons x xs =>
    obtain ⟨k', a, u⟩ := x
    cases e3
    cases h2 with
    | cons z1 z2 =>
      cases h3 with
      | cons y1 y2 =>
        cases h4 with
        | cons w1 w2 => exact ⟨_, _, _, _, _, _, rfl, rfl, e1, y1, z1, w1, e2, z2, y2, w2⟩
theorem Dne.cons {p : D × D} {kvs : List (D × D)} {xs : Xs} {vs : List V} {k : NestedKey} {a : Addr} {u : Value} {v : V} (e : keyD p.1 = some k) (r1 : Rp G m H (.ref a) p.1) (r2 : RelV v u) (r3 : Rp G m H v p.2) (h : Dne G m H kvs xs vs) : Dne G m H (p :: kvs) ((k, a, u) :: xs) (v :: vs) :=
  ⟨keysD_of e h.ks, .cons r2 h.va, .cons r1 h.rk, .cons r3 h.rv⟩
theorem Dne.nul {xs : Xs} {vs : List V} (h : Dne G m H [] xs vs) : xs = [] ∧ vs = [] := by
  obtain ⟨h1, h2, h3, h4⟩ := h
  cases h4
  cases xs with
  | nil => exact ⟨rfl, rfl⟩
  | cons _ _ => cases h1
theorem Dne.look {kvs : List (D × D)} (k : NestedKey) : ∀ {xs : Xs} {vs : List V}, Dne G m H kvs xs vs → (dnAt kvs k = none ∧ atKey xs k = none) ∨ ∃ d v p, dnAt kvs k = some d ∧ atKey xs k = some p ∧ RelV v p.2 ∧ Rp G m H v d := by
  induction kvs with
  | nil =>
    intro xs vs h
    obtain ⟨rfl, _⟩ := h.nul
    exact .inl ⟨rfl, rfl⟩
  | cons p kvs ih =>
    intro xs vs h
    obtain ⟨k', a, u, v, xs', vs', rfl, rfl, e1, _, r2, r3, h'⟩ := h.uncons
    rw [dnAt_cons, atKey_cons, e1]
    by_cases z : k' = k
    · subst z
      rw [if_pos rfl, if_pos rfl]
      exact .inr ⟨_, v, _, rfl, rfl, r2, r3⟩
    · rw [if_neg (fun y => z (Option.some.inj y)), if_neg z]
      exact ih h'
theorem Dne.repl {kvs : List (D × D)} (k : NestedKey) {y : V} {u : Value} {x : D} (ry : RelV y u) (rx : Rp G m H y x) : ∀ {xs : Xs} {vs : List V}, Dne G m H kvs xs vs →
    ∃ vs', Dne G m H (kvs.map fun p => if keyD p.1 = some k then (p.1, x) else p) (xs.map (putAt k u)) vs' := by
  induction kvs with
  | nil =>
    intro xs vs h
    obtain ⟨rfl, _⟩ := h.nul
    exact ⟨[], .nil⟩
  | cons p kvs ih =>
    intro xs vs h
    obtain ⟨k', a, u', v, xs', vs', rfl, rfl, e1, r1, r2, r3, h'⟩ := h.uncons
    obtain ⟨ws, q⟩ := ih h'
    rw [List.map_cons, List.map_cons, e1]
    unfold putAt
    by_cases z : k' = k
    · rw [if_pos (by rw [z]), if_pos z]
      exact ⟨_, .cons e1 r1 ry rx q⟩
    · rw [if_neg (fun y => z (Option.some.inj y)), if_neg z]
      exact ⟨_, .cons e1 r1 r2 r3 q⟩
theorem Dne.snoc {kvs : List (D × D)} {d x : D} {k : NestedKey} {a : Addr} {u : Value} {y : V} (e : keyD d = some k) (r1 : Rp G m H (.ref a) d) (ry : RelV y u) (rx : Rp G m H y x) : ∀ {xs : Xs} {vs : List V}, Dne G m H kvs xs vs → Dne G m H (kvs ++ [(d, x)]) (xs ++ [(k, a, u)]) (vs ++ [y]) := by
  induction kvs with
  | nil =>
    intro xs vs h
    obtain ⟨rfl, rfl⟩ := h.nul
    exact .cons e r1 ry rx .nil
  | cons p kvs ih =>
    intro xs vs h
    obtain ⟨k', a', u', v, xs', vs', rfl, rfl, e1, r1', r2, r3, h'⟩ := h.uncons
    exact .cons e1 r1' r2 r3 (ih h')
theorem Dne.put {kvs : List (D × D)} {xs : Xs} {vs : List V} {d x : D} {k : NestedKey} {a : Addr} {u : Value} {y : V} (h : Dne G m H kvs xs vs) (e : keyD d = some k) (r1 : Rp G m H (.ref a) d) (ry : RelV y u) (rx : Rp G m H y x) : ∃ vs', Dne G m H (dnPut kvs d k x) (storedH xs k a u) vs' := by
  unfold dnPut storedH
  rcases h.look k with ⟨z1, z2⟩ | ⟨d', v', p, z1, z2, _⟩
  · rw [z1, z2]
    exact ⟨_, h.snoc e r1 ry rx⟩
  · rw [z1, z2]
    exact h.repl k ry rx
theorem Dne.move {H' : Hp} {kvs : List (D × D)} {xs : Xs} {vs : List V} (d : Dne G m H kvs xs vs) (h : ∀ {vs : List V} {ds : List D}, RpA G m H vs ds → RpA G m H' vs ds) : Dne G m H' kvs xs vs := ⟨d.ks, d.va, h d.rk, h d.rv⟩
end
end Dn
namespace Dn
open PySem PySem.Spec PyProof.Rows L2 Ft LamX
section
variable {X : Cx} {E : WX} {pins : List (Addr × Obj)} {σ : L2.St} {H H' : Hp} {s : Shared} {G : Gx} {m m' : M} {a b e o i v : Expr} {fa fb fo fi fv fe : Ex} {pos p : Pos}
theorem dkNil {q : Addr} (h : H q = some (.dK [])) : CellAt G m H q (.dk []) := ⟨Nat.zero_le _, [], h, .nil⟩
theorem dnNil {q : Addr} (hz : (q == sysModules) = false) (h : H q = some (dnO G.w q [])) : CellAt G m H q (.dn []) := ⟨Nat.zero_le _, hz, [], [], h, List.nodup_nil, (fun _ h => nomatch h), rfl, .nil, .nil, .nil⟩
end
end Dn
namespace Dn
open PySem PySem.Spec PyProof.Rows L2 Ft LamX
section
variable {G : Gx} {X : Cx} {E : WX} {m m1 m' : M} {H H1 H' : Hp} {Da : Addr} {o u : HO} {st : Sto} {σ : L2.St} {sl : Slo}
structure Soft (u : HO) : Prop where
  tup : ∀ xs, u ≠ .tup xs
  tbl : ∀ ps, u ≠ .tbl ps
  frz : ∀ x y, u ≠ .frz x y
  code : ∀ c q, u ≠ CodeO c q
theorem SL.fewer (h : ∀ a, a ∈ m'.all → a ∈ m.all) (hc : m'.c = m.c) (q : SL G m H σ sl) : SL G m' H σ sl := by
  refine ⟨q.len, fun i w e => ?_⟩
  obtain ⟨v, q1, q2⟩ := q.at_ i w e
  refine ⟨v, q1, ?_⟩
  cases w with
  | d x => exact Rp.fewer h q2
  | c n =>
    obtain ⟨a, z1, z2⟩ := q2
    exact ⟨a, by rw [hc]; exact z1, z2⟩
  | scr ns =>
    obtain ⟨a, rfl, l, q⟩ := q2
    refine ⟨a, rfl, l, ?_⟩
    rcases q with ⟨q, n⟩ | q
    · exact .inl ⟨q, fun z => n (h a z)⟩
    · exact .inr q
  | t l =>
    obtain ⟨a, xs, rfl, hl, q, r⟩ := q2
    exact ⟨a, xs, rfl, hl, q, r.mono (fun _ _ r => Rp.fewer h r) fun n a z => by rw [hc]; exact z⟩
end
section
variable {X : Cx} {E : WX} {G : Gx} {kx vx tg iter : Expr} {ifs : List Expr} {scope : Scope} {own : List (Str × Nat)} {pos spos py : Pos} {wi : Ix} {g : Tg} {tt : Tx} {fk fv : Ex} {ws : List Nat} {i : Nat} {y : Str}
inductive DcS (G : Gx) (X : Cx) : Cell → (Addr → HO) → Prop
  | k : DcS G X (.dk []) (fun _ => .dK [])
  | n : DcS G X (.dn []) (fun D => dnO G.w D [])
theorem DcS.nil {c0 : Cell} {nu : Addr → HO} (h : DcS G X c0 nu) (m : M) (H : Hp) (D : Addr) (hz : (D == sysModules) = false) (e : H D = some (nu D)) : CellAt G m H D c0 := by
  cases h
  · exact dkNil e
  · exact dnNil hz e
end
end Dn
namespace Dn
open PySem PySem.Spec PyProof.Rows L2 Ft LamX
section
variable {X : Cx} {E : WX} {G : Gx} {m : M} {H : Hp} {a b e o i v : Expr} {es : List Expr} {fa fb fo fi fv fe : Ex} {fr fk : Ax} {pos p apos : Pos} {kws : List Keyword}
def isLst (f : Ex) : Ex := fun sl st => bnd (f sl st) fun w st1 => match view st1 w with
  | some (.lst _) => some (.ok w, st1)
  | _ => none
def eLm (g : List D → D → Option D) (fo fe : Ex) : Ex := fun sl st => bnd (fo sl st) fun w st1 => bnd (fe sl st1) fun x st2 => match view st2 w, view st2 x with
  | some (.lst ds), some d => pr st2 (g ds d)
  | _, _ => none
def MtL (G : Gx) (X : Cx) (id : String) (g : List D → D → Option D) : Prop :=
  MtR X id (fun x xs H Q => ∃ m st a ys ds y d r, CO G m H st ∧ x = .ref a ∧ H a = some (.lst ys) ∧ RpA G m H ys ds ∧ xs = [y] ∧ RpX G m H y d ∧ g ds d = some r ∧ Gives G m H r Q)
theorem de_lm {id : String} {name : Str} {g : List D → D → Option D} (slot : Slot "list" name id) (ty : typeOf (.builtin id) = pure (.type "method_descriptor")) (hm : MtL G X id g) (ho : DE G X E o fo) (he : DE G X E e fe) (hbase : attributeBase o name X.env (eval o X.env) = eval o X.env := by rfl)
    (hfew : ((backTo pos (starEach (e :: []) X.env)).all (fun x => !x.1) && (backToKw pos (keywordEach [] X.env)).all (fun x => x.1.isSome)
      && decide ((e :: ([] : List Expr)).length + ([] : List Keyword).length + (if ([] : List Keyword).isEmpty then 0 else 1) < 30)) = true := by rfl)
    (hline : (apos.endLine == pos.line) = true := by rfl) (hs : starEach (e :: []) X.env = (false, eval e X.env) :: starEach [] X.env := by rfl) (hplain : (backTo pos (starEach [] X.env)).any (·.1) = false := by rfl) :
    DE G X E (.Call (.Attribute o name apos) [e] [] pos) (eLm g (isLst fo) fe) := by
  refine PE.imp (pe_bm PySem.F.plainAttrs_list slot ty hm ho (pa_cons he pa_nil hs) hbase hfew hline hs hplain) ?_
  rintro σ H Q ⟨m, sl, st, hs, hc, h⟩
  have h : aft G (WE E σ) (RpW G) m H (bnd (fo sl st) fun w st1 => bnd (match view st1 w with
      | some (.lst _) => some (.ok w, st1)
      | _ => none) fun w st1 => bnd (fe sl st1) fun x st2 => match view st2 w, view st2 x with
      | some (.lst ds), some d => pr st2 (g ds d)
      | _, _ => none) Q := by
    unfold eLm isLst at h
    cases hf : fo sl st with
    | none => rw [hf] at h; exact h
    | some r =>
      rw [hf] at h
      obtain ⟨r, st1⟩ := r
      cases r with
      | exc c fs => exact h
      | ok w => exact h
  refine ⟨m, sl, st, hs, hc, aft_bnd h fun w st1 x H1 m1 e1 c1 r1 h1 => ?_⟩
  split at h1
  · rename_i ds0 hv
    rw [bnd_ok] at h1
    obtain ⟨a, xs, rfl, q0, _⟩ := (view_ok c1 r1 hv).lst
    refine ⟨list_tyV q0, m1, sl, st1, hs.ext hc e1, c1, aft_bnd h1 fun w2 st2 y H2 m2 e2 c2 r2 h2 => ?_⟩
    split at h2
    · rename_i ds d h3 h4
      obtain ⟨r, e3, q⟩ := aft_pr c2 h2
      obtain ⟨a', ys, ea, q1, q2⟩ := (view_ok c2 (RpW.ext c1 e2 r1) h3).lst
      cases ea
      exact ⟨m2, st2, a, ys, ds, y, d, r, c2, rfl, q1, q2, rfl, view_ok c2 r2 h4, e3, q⟩
    · exact h2.elim
  · exact h1.elim
def gCount (ds : List D) (d : D) : Option D := if dok 60 d = true ∧ ds.all (dok 60) = true then some (.int ((ds.countP fun e => eqD e d : Nat) : Int)) else none
theorem toPs_count {ds : List D} {p : PyData → Bool} : (toPs ds).countP p = ds.countP fun d => p (toP d) := by
  induction ds with
  | nil => rfl
  | cons d ds ih => simp only [toPs, List.countP_cons, ih]
theorem mt_count (hu : X.A.units + 64 < cLine) (hK : X.K = G.K := by rfl) : MtL G X "list.count" gCount := by
  rintro pins s σ H x xs v us Q I rx rxs ⟨m, st, a, ys, ds, y, d, r, co, rfl, hl, ra, rfl, ry, e, q⟩
  unfold gCount at e
  split at e
  · rename_i hd
    cases e
    cases (show v = Value.ref a from rx)
    obtain ⟨u, rfl, ru⟩ := vals1 rxs
    obtain ⟨a1, a2, a3⟩ := dokX_ok 60 ry hd.1
    obtain ⟨b1, b2, b3⟩ := dokAll_ok 60 ra hd.2
    rw [← hK] at a1 b1
    obtain ⟨bs, r1⟩ := Dp.reads I _ y u a1 ru
    obtain ⟨its, rv, hl', hz⟩ := I.list (show SqL X.K H a ys from .inl (.inl hl))
    obtain ⟨as, r2⟩ := Dp.readsAll I _ ys its b1 rv
    refine SeqAt.count_list_data hl'.isList (show ReadsAll s.heap its.toArray.toList (toPs ds) as from r2) r1 b2 a2 (by omega) ?_
    rw [toPs_count]
    exact ⟨.int _, H, I.tok _, ⟨_, rfl⟩, gv q (.int _)⟩
  · cases e
end
section
variable {fa fb fo fi fv fe : Ex} {fr fk : Ax} {sl : Slo} {st : Sto} {QW : W → Sto → Prop} {QB : Bool → Sto → Prop} {QA : List W → Sto → Prop} {QI : WI → Sto → Prop} {X : XP} {N : Slo → Sto → Prop} {En1 : En}
def kIsLst (QW : W → Sto → Prop) (w : W) (st1 : Sto) : Prop := wpo (view st1 w) fun d => wpdl d fun _ => QW w st1
def kLm2 (g : List D → D → Option D) (w : W) (QW : W → Sto → Prop) (x : W) (st2 : Sto) : Prop := wpo (view st2 w) fun a => wpdl a fun ds => wpo (view st2 x) fun d => wpo (g ds d) fun r => QW (.d r) st2
def kLm (g : List D → D → Option D) (fe : Ex) (sl : Slo) (QW : W → Sto → Prop) (X : XP) (w : W) (st1 : Sto) : Prop := wp (fe sl st1) (kLm2 g w QW) X
theorem kIsLst_ap {w : W} {st1 : Sto} : kIsLst QW w st1 = wpo (view st1 w) fun d => wpdl d fun _ => QW w st1 := rfl
theorem kLm2_ap {g : List D → D → Option D} {w x : W} {st2 : Sto} : kLm2 g w QW x st2 = wpo (view st2 w) fun a => wpdl a fun ds => wpo (view st2 x) fun d => wpo (g ds d) fun r => QW (.d r) st2 := rfl
theorem kLm_ap {g : List D → D → Option D} {w : W} {st1 : Sto} : kLm g fe sl QW X w st1 = wp (fe sl st1) (kLm2 g w QW) X := rfl
theorem wp_isLst : wp (isLst fa sl st) QW X = wp (fa sl st) (kIsLst QW) X := by
  unfold isLst
  rw [wp_bnd]
  congr; funext w st1
  unfold kIsLst
  cases view st1 w with
  | none => rfl
  | some d => cases d <;> rfl
theorem wp_lm {g : List D → D → Option D} : wp (eLm g fo fe sl st) QW X = wp (fo sl st) (kLm g fe sl QW X) X := by
  unfold eLm
  simp only [wp_bnd]
  congr; funext w st1
  unfold kLm
  congr; funext x st2
  unfold kLm2
  cases view st2 w with
  | none => rfl
  | some d =>
    cases view st2 x with
    | none => cases d <;> rfl
    | some d2 => cases d with
      | lst ds => exact wp_pr
      | _ => rfl
end
end Dn
namespace Dn
open PySem PySem.Spec PyProof.Rows L2 Ft LamX StX
section
variable {G : Gx} {X : Cx} {E : WX} {a b : Expr} {fa fb : Ex} {pos : Pos} {k n : Nat} {c c1 c2 : Str} {s1 s2 spec : Spec} {ps : List Str} {C C1 C2 : Addr}
structure NotF (K : PySem.W.Frag) (mg : Str → Option Value) (c1 c2 : Str) : Prop where
  ab : ∀ C1 C2, mg c1 = some (.ref C1) → mg c2 = some (.ref C2) → PySem.W.notFirst K C1 (.ref C2) = true ∧ PySem.W.notFirst K C2 (.ref C1) = true
end
section
variable {P : Program} {w : World} {K : PySem.W.Frag} {mg : Str → Option Value} {base : Heap} {CX : CXT} {k n : Nat} {f : Addr} {fd : FuncData} {ps : List Str} {G : Gx}
end
section
variable {c1 c2 : Str} {s1 s2 : Spec} {fa fb : Ex} {sl : Slo} {st : Sto} {QW : W → Sto → Prop} {X : XP}
end
end Dn
namespace Dn
open PySem PySem.Spec PyProof.Rows L2 Ft LamX StX
section
variable {G : Gx} {X : Cx} {E : WX} {pos : Pos}
end
end Dn
namespace Dn
open PySem PySem.Spec PyProof.Rows L2 Ft LamX StX
section
variable {G : Gx} {m : M} {H : Hp}
end
section
variable {G : Gx} {X : Cx} {E : WX} {o e : Expr} {es : List Expr} {fo fe fi : Ex} {fr : Ax} {p pos apos : Pos}
end
section
variable {G : Gx} {X : Cx} {E : WX} {e e2 : Expr} {es : List Expr} {fr : Ax} {p pos tpos : Pos}
end
section
variable {G : Gx} {X : Cx} {E : WX} {e : Expr} {es : List Expr} {fr fk : Ax} {fv : Ex} {p pos apos : Pos} {c x : Str} {spec : Spec} {q k : Nat} {T : List (Addr × Str)}
structure CmAt (K : PySem.W.Frag) (C : Addr) (m : Str) (q f : Addr) : Prop where
  rd : ClX.CRead K C (.type "type")
  cm : ClX.CMet K C (.type "type") m q f
variable {a m : Str} {ps ks : List Str} {pl : Sem Bool} {g : {α : Type} → List α → List α → List α}
end
section
variable {P : Program} {w : World} {K : PySem.W.Frag} {mg : Str → Option Value} {base : Heap} {T : List (Addr × Str)} {x qual c mth a : Str} {st : Stmt} {f C q : Addr} {fd : FuncData} {ps ks : List Str} {k n : Nat} {spec : Spec} {g : {α : Type} → List α → List α → List α}
end
section
variable {G : Gx} {X : Cx} {E : WX} {e : Expr} {pos : Pos}
end
section
variable {G : Gx} {X : Cx} {E : WX} {a : Expr} {fe : Ex} {p p2 pos q : Pos}
end
section
variable {QW : W → Sto → Prop} {QI : (List D × Option (Nat × List D)) → Sto → Prop} {X : XP} {sl : Slo} {st : Sto} {fo fi fv : Ex} {fr : Ax} {c : Str} {spec : Spec} {q : Nat}
end
end Dn
namespace Dn
open PySem PySem.Spec PyProof.Rows L2 Ft LamX StX
section
variable {G : Gx} {X : Cx} {E : WX} {T : List (Addr × Str)} {k : Nat} {c : Str} {ps : List Str} {spec : Spec} {fa fb : Ex} {a b : Expr} {p pos : Pos}
section
variable {QW : W → Sto → Prop} {XP' : XP} {sl : Slo} {st : Sto}
end
end
def gMulR : D → D → Option D
  | .lst ds, .int k => if -100000 ≤ k ∧ k ≤ 100000 ∧ ds.length * k.toNat ≤ lim then some (.lst (List.replicate k.toNat ds).flatten) else none
  | .tup ds, .int k => if ds ≠ [] ∧ 2 ≤ k ∧ k ≤ 1000 ∧ ds.length ≤ 1000 ∧ ds.length * k.toNat ≤ lim then some (.tup (List.replicate k.toNat ds).flatten) else none
  | _, _ => none
section
variable {G : Gx} {X : Cx} {m : M} {H : Hp}
theorem RpA.rep {xs : List V} {ds : List D} (r : RpA G m H xs ds) : ∀ n : Nat, RpA G m H (List.replicate n xs).flatten (List.replicate n ds).flatten
  | 0 => .nil
  | n + 1 => by
    rw [List.replicate_succ, List.replicate_succ, List.flatten_cons, List.flatten_cons]
    exact r.app (RpA.rep r n)
theorem p_mulR (hK : X.K = G.K := by rfl) : OpP G X (binaryOp .Mult) gMulR := by
  rintro pins s σ H x y v u Q I rx ry ⟨m, st, d1, d2, d, co, r1, r2, e, q⟩
  unfold gMulR at e
  split at e
  · split at e
    · rename_i hl
      cases e
      obtain ⟨a, xs, rfl, h1, q1⟩ := r1.lst
      cases r2.int
      refine op_rep pins s σ H _ _ v u Q I rx ry ⟨a, _, xs, rfl, rfl, h1, by omega, by omega, by rw [q1.len]; exact lim_le hl.2.2, fun p hp => q _ _ (same_new hp) (rp_lst co hp ?_ (q1.rep _))⟩
      rw [PyProof.Rows.lm_len_rep_flat, Nat.mul_comm]
      exact hl.2.2
    · cases e
  · split at e
    · rename_i hl
      cases e
      obtain ⟨a, xs, rfl, h1, q1⟩ := r1.tup
      cases r2.int
      refine op_repT pins s σ H _ _ v u Q I rx ry ⟨a, _, xs, rfl, rfl, .inl (.inl h1), fun z => hl.1 ?_, hl.2.1, hl.2.2.1, by rw [q1.len]; exact hl.2.2.2.1, fun p hp => q _ _ (same_new hp) (rp_tup hp ?_ (q1.rep _))⟩
      · subst z
        cases q1
        rfl
      · rw [PyProof.Rows.lm_len_rep_flat, Nat.mul_comm]
        exact hl.2.2.2.2
    · cases e
  · cases e
theorem gMulR_l {ds : List D} {k : Int} : gMulR (.lst ds) (.int k) = if -100000 ≤ k ∧ k ≤ 100000 ∧ ds.length * k.toNat ≤ lim then some (.lst (List.replicate k.toNat ds).flatten) else none := rfl
end
section
variable {G : Gx} {X : Cx} {E : WX} {fe : Ex} {fr : Ax} {a tg : Expr} {p p2 pos q : Pos}
end
section
variable {G : Gx} {X : Cx} {E : WX} {fa fb : Ex} {fl fh : Px} {fr : Ax} {a b e : Expr} {es : List Expr} {lo hi : Option Expr} {p p2 pos : Pos}
section
variable {QW : W → Sto → Prop} {XP' : XP} {sl : Slo} {st : Sto}
end
end
end Dn
namespace Ft
open PySem PySem.Spec L2
open PySem.HandSPX
section
variable {M : Model} {A : Around} {E : Value → Shared → Prop} {h : Heap} {g : Array GenState} {d : Drawn} {t : Nat} {os : OsState}
variable {nm q : Str} {C N : Addr} {bs bm bmB : List Value} {hdct : Bool} {sn : List Str} {sub : List Value} {ab : Bool} {col : Option Bool} {dd : Option Addr} {k0 k1 k2 k3 k5 : Option Value} {B newId initId : String}
theorem check_newK (F : ExcBaseFacts B newId initId bmB) (hT : ∀ X : String, bm.contains (.type X) = bmB.contains (.type X)) {rest : List Value} {kw : List (Str × Value)} {Q : Unit → Shared → Prop}
    (hC : h.get? C = some (excClassObj nm q C N bs bm hdct sn sub ab col dd k0 k1 k2 k3 k5 newId)) (hq : Q () ⟨h, g, d, t, os⟩) : wpAny M A (checkBuiltinCall newId ⟨.ref C :: rest, kw⟩) Q E ⟨h, g, d, t, os⟩ := by
  have hcont : (Value.ref C :: bm).contains (.type B) = true := by rw [List.contains_cons, hT, F.hasB, Bool.or_true]
  have hstar := F.noStar
  simp only [checkBuiltinCall, F.newKind, F.newSplit, F.newRow]
  repeat (first | refine wpAny_loadPart_at hC ?_ | (refine wpAny_isSubtype_exc hC ?_; rw [hcont]) | refine wpAny_staticBase_exc hC ?_ | refine wpAny_madeBy_exc hC ?_ | simp only [bne_self_eq_false, Bool.false_eq_true, if_false] | wp_step)
  exact hq
theorem check_callK {rest : List Value} {kw : List (Str × Value)} {Q : Unit → Shared → Prop} (hC : h.get? C = some (excClassObj nm q C N bs bm hdct sn sub ab col dd k0 k1 k2 k3 k5 newId)) (hq : Q () ⟨h, g, d, t, os⟩) :
    wpAny M A (checkBuiltinCall "type.__call__" ⟨.ref C :: rest, kw⟩) Q E ⟨h, g, d, t, os⟩ := by
  have f3 := tc_sub
  have hT : (⟨h, g, d, t, os⟩ : Shared).TypeIs (.ref C) "type" := ⟨_, hC, rfl⟩
  simp only [checkBuiltinCall, tc_kind, tc_split]
  repeat (any_goals (first | assumption | with_reducible refine wpAny_loadPart_at hC ?_ | with_reducible refine wpAny_onRaise ?_ | with_reducible refine wpAny_map ?_ | wp_step))
end
section
variable {prog : Program} {w : World} {A : Around} {E : Value → Shared → Prop} {R : Result → Shared → Prop} {h : Heap} {g : Array GenState} {d : Drawn} {t : Nat} {os : OsState}
variable {nm q : Str} {C N : Addr} {bs bm bmB : List Value} {hdct : Bool} {sn : List Str} {sub : List Value} {ab : Bool} {col : Option Bool} {dd : Option Addr} {k0 k1 k2 k3 k5 : Option Value} {B newId initId : String}
theorem new_ownK (F : ExcBaseFacts B newId initId bmB) (hT : ∀ X : String, bm.contains (.type X) = bmB.contains (.type X)) {rest : List Value} {kw : List (Str × Value)}
    (hC : h.get? C = some (excClassObj nm q C N bs bm hdct sn sub ab col dd k0 k1 k2 k3 k5 newId))
    (hq : R (.ok (.ret (.ref (h.objs.size + 1)))) ⟨(h.push { cls := .type "tuple", data := .seq rest.toArray }).push
      { cls := .ref C, data := .fields #[.ref h.objs.size, .none, .none, .none, .bool false, .none] }, g, d, t, os⟩) (hrest : rest.length ≤ sizeLine) :
    codeAny (model prog w) A (.builtin newId ⟨.ref C :: rest, kw⟩) R ⟨h, g, d, t, os⟩ := by
  have hends := F.ends
  have hcB : (Value.ref C :: bm).contains (.type B) = true := by rw [List.contains_cons, hT, F.hasB, Bool.or_true]
  have hcA : (Value.ref C :: bm).contains (.type "AttributeError") = false := by rw [List.contains_cons, hT, F.noAttr]; rfl
  have hcN : (Value.ref C :: bm).contains (.type "NameError") = false := by rw [List.contains_cons, hT, F.noName]; rfl
  refine codeAny_builtinAt F.entry ?_
  unfold Builtin.«BaseException.__new__»
  refine PySem.wpAt_bind ?_
  show wpAt _ _ _ (stack >>= _) _ _ _
  refine PySem.wpAt_bind (PySem.wpAt_stack fun p below => PySem.wpAt_of_wpAny ?_)
  wp_walk
  refine PySem.wpAt_of_wpAny ?_
  rw [F.owner]
  repeat (first | with_reducible refine wpAny_madeHere_exc F.canon hC ?_ | with_reducible refine wpAny_loadPart_at hC ?_ | (with_reducible refine wpAny_isSubtype_exc hC ?_; first | rw [hcB] | rw [hcA] | rw [hcN]) | wp_step)
  show R _ _
  rw [Heap.size_push]
  exact hq
theorem type_call_ownK (F : ExcBaseFacts B newId initId bmB) (hT : ∀ X : String, bm.contains (.type X) = bmB.contains (.type X)) {rest : List Value} {kw : List (Str × Value)} {fI : Addr} {Q : Fin → Shared → Prop}
    (hC : h.get? C = some (excClassObj nm q C N bs bm hdct sn sub ab col dd k0 k1 k2 k3 k5 newId))
    (hi : W.Looks (model prog w) h (typeLookup (.ref C) "__init__") (some (.ref fI))) (hb : ∀ self, W.Looks (model prog w) h (bindSpecial (.ref fI) self) (.ref fI, [self])) (hrest : rest.length ≤ sizeLine)
    (hq : codeAny (model prog w) A (.call (.ref fI) ⟨.ref (h.objs.size + 1) :: rest, kw⟩)
      (fun r s' => match r with | .ok (.ret v) => v = .none ∧ Q (.done (.ret (.ref (h.objs.size + 1)))) s' | .ok _ => False | .error e => E e s')
      ⟨(h.push (W.kdv_tup rest)).push (excO C h.objs.size), g, d, t, os⟩) :
    wpAny (model prog w) A (Builtin.«type.__call__» ⟨.ref C :: rest, kw⟩) Q E ⟨h, g, d, t, os⟩ := by
  repeat (first | with_reducible refine wpAny_loadPart_at hC ?_ | with_reducible refine wpAny_madeBy_exc hC ?_ | wp_step)
  refine codeAny_call_builtin_code (Code.quiet_builtin _ F.quiet) (check_newK F hT hC ?_)
  refine new_ownK F hT hC ?_ hrest
  show wpAny _ _ _ _ _ _
  have k : ∀ b o, h.get? b = some o → ((h.push (W.kdv_tup rest)).push (excO C h.objs.size)).get? b = some o := fun b o e => Heap.get?_push_of_some _ (Heap.get?_push_of_some _ e)
  have hC₁ := k _ _ hC
  have hget : ((h.push (W.kdv_tup rest)).push (excO C h.objs.size)).get? (h.objs.size + 1) = some (excO C h.objs.size) := by heap_get
  have hcC : (Value.ref C :: bm).contains (.ref C) = true := by simp
  have i1 := hi.keeps k
  have b1 := (hb (.ref (h.objs.size + 1))).keeps k
  unfold isInstance
  repeat (first | with_reducible refine wpAny_loadPart_at hget ?_ | (with_reducible refine wpAny_isSubtype_exc hC₁ ?_; rw [hcC]) | wp_step)
  show wpAny _ _ (typeLookup (.ref C) _) _ _ _
  refine i1.at ?_
  refine wpAny_holding (wpAny_bind (b1.at ?_))
  refine wpAny_bind (wpAny_call (codeAny_mono hq fun r s' z => ?_))
  rcases r with e | (v | _ | _ | _) <;> first | exact z | exact z.elim | skip
  obtain ⟨rfl, z⟩ := z
  first
    | exact wpAny_pure (wpAny_pure z)
    | (wp_walk; exact z)
theorem call_ownK (F : ExcBaseFacts B newId initId bmB) (hT : ∀ X : String, bm.contains (.type X) = bmB.contains (.type X)) {rest : List Value} {kw : List (Str × Value)} {fI : Addr}
    (hC : h.get? C = some (excClassObj nm q C N bs bm hdct sn sub ab col dd k0 k1 k2 k3 k5 newId))
    (hi : W.Looks (model prog w) h (typeLookup (.ref C) "__init__") (some (.ref fI))) (hb : ∀ self, W.Looks (model prog w) h (bindSpecial (.ref fI) self) (.ref fI, [self])) (hrest : rest.length ≤ sizeLine)
    (hq : codeAny (model prog w) (A.under (.builtin "type.__call__" ⟨.ref C :: rest, kw⟩)) (.call (.ref fI) ⟨.ref (h.objs.size + 1) :: rest, kw⟩) (W.InitBack (h.objs.size + 1) R)
      ⟨(h.push (W.kdv_tup rest)).push (excO C h.objs.size), g, d, t, os⟩) :
    codeAny (model prog w) A (.call (.ref C) ⟨rest, kw⟩) R ⟨h, g, d, t, os⟩ := by
  have f1 := tc_lookup
  have f2 := tc_bind (.ref C)
  have hTy : (⟨h, g, d, t, os⟩ : Shared).TypeIs (.ref C) "type" := ⟨_, hC, rfl⟩
  refine codeAny_of_tree ?_
  show wpAny _ _ (callAny (.ref C) _) _ _ _
  repeat (any_goals (first | assumption | with_reducible refine wpAny_loadPart_at hC ?_ | wp_step))
  refine ⟨rfl, ?_⟩
  refine codeAny_call_builtin_at (Code.quiet_builtin _ (by decide +kernel)) entry_typeCall (check_callK hC (type_call_ownK F hT hC hi hb hrest ?_))
  refine codeAny_mono hq fun r s' z => ?_
  rcases r with e | (v | _ | _ | _) <;> exact z
end
section
variable {prog : Program} {w : World} {A : Around} {E : Value → Shared → Prop} {K : PySem.W.Frag} {C fI x t : Addr} {ns : List Str} {name : Str} {v : Value} {Q : Unit → Shared → Prop}
theorem set_next {s : Shared} {dx : Addr} {m0 : Str → Option Value} {nl : List Str} (T : XCls K C fI ns) (hn : name ∈ ns) (X : K.In s.heap)
    (hx : s.heap.get? x = some { cls := .ref C, dict := some dx, data := .fields #[.ref t, .none, .none, .none, .bool false, .none] }) (hns : s.heap.Ns1 dx m0) (hw : Within m0 nl) (hz : nl.length ≤ 1000)
    (hq : ∀ h' tk, (∀ b o, b ≠ dx → s.heap.get? b = some o → h'.get? b = some o) → h'.Ns1 dx (fun y => if y = name then some v else m0 y) → Q () { s with heap := h', toks := tk }) :
    wpAny (model prog w) A (setAttr (.ref x) name v) Q E s := by
  obtain ⟨B, newId, initId, bmB, FB, SF, q, ov⟩ := T.base
  obtain ⟨cd, hcd, hh⟩ := T.cd
  obtain ⟨oD, esD, epD, hoD, hdD, _⟩ := hns.count hw
  obtain ⟨hp, g, d, tk, os⟩ := s
  have I : PySem.W.InstAt hp x { cls := .ref C, dict := some dx, data := .fields #[.ref t, .none, .none, .none, .bool false, .none] } C (some oD) := ⟨hx, rfl, rfl, hoD⟩
  apply PySem.W.set_plain X I T.sa
  apply PySem.W.osa_openX (s := ⟨hp, g, d, tk + 1, os⟩) SF X I ov (T.taker hn)
  intro b
  have hcls : PySem.W.Looks (model prog w) hp (classData C) cd := PySem.W.looks_clsIn X hcd
  show wpAny _ _ (Builtin.ObjectAttr.storeInOwnDict (.ref x) (.ref C) _ name v b) _ _ _
  obtain ⟨nm, bs, mro, nss, qn, hdc, sn, sb, ab, col, del⟩ := cd
  dsimp only at hh
  subst hh
  unfold Builtin.ObjectAttr.storeInOwnDict Builtin.ObjectAttr.ownDictForStores
  repeat (first | with_reducible refine PySem.OEX.store_in_old hns hw hz ?_ | with_reducible refine wpAny_loadPart_at hx ?_ | with_reducible refine hcls.at ?_ | wp_step)
  intro h' tk' hn' hs
  exact hq h' _ (fun b o hb ho => (hs.2 b hb).trans ho) hn'
end
open PyProof.Rows
structure Init2 (st : Stmt) (f1 f2 : Str) : Prop where
  body : ∃ q1 q2 q3 q4 r1 r2 r3 r4 : Pos, defBody st = [.Assign [.Attribute (.Name "self" q1) f1 q2] (.Name f1 q3) q4, .Assign [.Attribute (.Name "self" r1) f2 r2] (.Name f2 r3) r4]
  kind : (defScope st).kind = .function
  co : (defScope st).isCoroutine = false
  gen : (defScope st).isGenerator = false
  l0 : (defScope st).names.lookup ("self" : Str) = some .local
  l1 : (defScope st).names.lookup f1 = some .local
  l2 : (defScope st).names.lookup f2 = some .local
  dbg1 : (f1 == ("__debug__" : Str)) = false
  dbg2 : (f2 == ("__debug__" : Str)) = false
  nd : (["self", f1, f2] : List Str).Nodup
def InitS (st : Stmt) : List Str → Prop
  | [f] => Init1 st f
  | [a, b] => Init2 st a b
  | _ => False
section
variable {prog : Program} {w : World} {A : Around} {E : Value → Shared → Prop} {K : PySem.W.Frag} {C fI x t : Addr} {ns : List Str} {f1 f2 qual : Str} {v1 v2 : Value} {st : Stmt} {fd : FuncData} {R : Result → Shared → Prop}
theorem init_two {s : Shared} {args : Args} (T : XCls K C fI [f1, f2]) (S : Init2 st f1 f2) (F : Fun K "__init__" qual st fI fd) (X : K.In s.heap) (nolim : s.heap.NoLimit) (hx : s.heap.get? x = some (excO C t)) (hxK : K.lookup x = none) (room : A.depth < recursionLimit)
    (bt : BindsTo s fd args [("self", .ref x), (f1, v1), (f2, v2)])
    (hq : ∀ h' tk dx, (∀ b o, b ≠ x → s.heap.get? b = some o → h'.get? b = some o) → s.heap.objs.size ≤ dx → dx ≠ x →
      h'.get? x = some { cls := .ref C, dict := some dx, data := .fields #[.ref t, .none, .none, .none, .bool false, .none] } → h'.Ns1 dx (fun y => if y = f2 then some v2 else if y = f1 then some v1 else none) → R (.ok (.ret .none)) { s with heap := h', toks := tk }) :
    codeAny (model prog w) A (.call (.ref fI) args) R s := by
  obtain ⟨oc, od, kV, doc, pm, an, cdv, ct, osl, e, lk, hcd⟩ := F.ex
  subst e
  obtain ⟨q1, q2, q3, q4, r1, r2, r3, r4, hb⟩ := S.body
  have nd := S.nd
  have kinds : (([("self", Value.ref x), (f1, v1), (f2, v2)] : List (Str × Value)).all fun y => (defScope st).names.lookup y.1 == some .local || (defScope st).names.lookup y.1 == some .cell) = true := by
    simp only [List.all_cons, List.all_nil, S.l0, S.l1, S.l2]
    rfl
  refine Att.call_fn X nolim lk hcd room bt kinds (fun s1 ic => ?_) S.co S.gen S.kind
  obtain ⟨h1, tk1, rfl⟩ := ic.toInCall.same
  have keep := ic.toInCall.keep
  have nsL := ic.toInCall.ns
  have X1 : K.In h1 := X.keeps keep
  have b0 : bindL (envOfC qual (defScope st) s.heap.objs.size fI cdv).kindOf [("self", Value.ref x), (f1, v1), (f2, v2)] (fun _ => none) "self" = some (.ref x) :=
    bindL_get (P := ["self", f1, f2]) (vs := [Value.ref x, v1, v2]) (i := 0) nd rfl rfl S.l0
  have b1 : bindL (envOfC qual (defScope st) s.heap.objs.size fI cdv).kindOf [("self", Value.ref x), (f1, v1), (f2, v2)] (fun _ => none) f1 = some v1 :=
    bindL_get (P := ["self", f1, f2]) (vs := [Value.ref x, v1, v2]) (i := 1) nd rfl rfl S.l1
  have b2 : bindL (envOfC qual (defScope st) s.heap.objs.size fI cdv).kindOf [("self", Value.ref x), (f1, v1), (f2, v2)] (fun _ => none) f2 = some v2 :=
    bindL_get (P := ["self", f1, f2]) (vs := [Value.ref x, v1, v2]) (i := 2) nd rfl rfl S.l2
  rw [hb]
  show wpAny _ _ (execs _ _) _ _ _
  refine wpAny_execs_cons (plainObj_wpAny_Assign_Attribute ?_)
  refine ld_loc S.kind S.l1 S.dbg1 nsL b1 (ld_loc S.kind S.l0 (by decide) nsL b0 ?_)
  apply set_first T (by simp) X1 (keep _ _ hx)
  intro h3 tk3 dx k3 dn dne hx3 hn3
  have z : s.heap.objs.size < h1.objs.size := nsL.lt
  have lx : s.heap.objs.size ≠ x := Nat.ne_of_gt (Heap.lt_size hx)
  have nsL3 := nsL.at (h' := h3) fun o q => k3 _ o lx q
  have X3 : K.In h3 := fun b o e => k3 b o (fun z => by subst z; rw [hxK] at e; cases e) (X1 b o e)
  show wpAny _ _ (execs _ _) _ _ _
  refine wpAny_execs_cons (plainObj_wpAny_Assign_Attribute ?_)
  refine ld_loc S.kind S.l2 S.dbg2 nsL3 b2 (ld_loc S.kind S.l0 (by decide) nsL3 b0 ?_)
  apply set_next T (by simp) X3 hx3 hn3 (nl := [f1]) (fun y hy => by
    by_cases e : y = f1
    · rw [e]; exact List.mem_cons_self
    · rw [if_neg e] at hy; exact absurd rfl hy) (by show 1 ≤ 1000; decide)
  intro h4 tk4 k4 hn4
  show wpAny _ _ (execs _ _) _ _ _
  apply wpAny_execs_nil
  have dl : s.heap.objs.size ≤ dx := Nat.le_of_lt (Nat.lt_of_lt_of_le z dn)
  exact hq h4 tk4 dx (fun b o hb e => k4 b o (Nat.ne_of_lt (Nat.lt_of_lt_of_le (Heap.lt_size e) dl)) (k3 b o hb (keep b o e))) dl dne (k4 _ _ (Ne.symm dne) hx3) hn4
theorem look1 {f y : Str} {v : Value} : (if y = f then some v else none) = ([f].zip [v]).lookup y := by
  show _ = List.lookup y [(f, v)]
  by_cases e : y = f
  · subst e; simp [List.lookup]
  · have z : (y == f) = false := by simpa using e
    rw [if_neg e]; simp [List.lookup, z]
theorem look2 {f g y : Str} {u v : Value} (ne : f ≠ g) : (if y = g then some v else if y = f then some u else none) = ([f, g].zip [u, v]).lookup y := by
  show _ = List.lookup y [(f, u), (g, v)]
  by_cases e : y = g
  · subst e
    have z : (y == f) = false := by simpa using fun w : y = f => ne w.symm
    rw [if_pos rfl]; simp [List.lookup, z]
  · have z : (y == g) = false := by simpa using e
    rw [if_neg e]
    by_cases e2 : y = f
    · subst e2; rw [if_pos rfl]; simp [List.lookup]
    · have z2 : (y == f) = false := by simpa using e2
      rw [if_neg e2]; simp [List.lookup, z, z2]
theorem init_S {s : Shared} {args : Args} {us : List Value} (T : XCls K C fI ns) (S : InitS st ns) (F : Fun K "__init__" qual st fI fd) (X : K.In s.heap) (nolim : s.heap.NoLimit) (hx : s.heap.get? x = some (excO C t)) (hxK : K.lookup x = none) (room : A.depth < recursionLimit)
    (hl : us.length = ns.length) (bt : BindsTo s fd args (("self", .ref x) :: ns.zip us))
    (hq : ∀ h' tk dx, (∀ b o, b ≠ x → s.heap.get? b = some o → h'.get? b = some o) → s.heap.objs.size ≤ dx → dx ≠ x →
      h'.get? x = some { cls := .ref C, dict := some dx, data := .fields #[.ref t, .none, .none, .none, .bool false, .none] } → h'.Ns1 dx (fun y => (ns.zip us).lookup y) → R (.ok (.ret .none)) { s with heap := h', toks := tk }) :
    codeAny (model prog w) A (.call (.ref fI) args) R s := by
  match ns, us, S, hl with
  | [f], [v], S, _ =>
    refine init_one T (List.mem_singleton.mpr rfl) S F X nolim hx room bt fun h' tk dx a b c d e => hq h' tk dx a b c d ?_
    rw [show (fun y => ([f].zip [v]).lookup y) = fun y => if y = f then some v else none from funext fun y => look1.symm]
    exact e
  | [f, g], [u, v], S, _ =>
    refine init_two T S F X nolim hx hxK room bt fun h' tk dx a b c d e => hq h' tk dx a b c d ?_
    have ne : f ≠ g := fun z => by
      have nd := S.nd
      subst z
      simp at nd
    rw [show (fun y => ([f, g].zip [u, v]).lookup y) = fun y => if y = g then some v else if y = f then some u else none from funext fun y => (look2 ne).symm]
    exact e
structure MadeS (h h' : Heap) (e C d : Addr) (ns : List Str) (us : List Value) : Prop where
  keep : ∀ b o, h.get? b = some o → h'.get? b = some o
  new : h.objs.size ≤ e
  obj : ∃ t, h'.get? e = some { cls := .ref C, dict := some d, data := .fields #[.ref t, .none, .none, .none, .bool false, .none] }
  dbig : h.objs.size ≤ d
  dne : d ≠ e
  ns : h'.Ns1 d (fun y => (ns.zip us).lookup y)
theorem made_S {s : Shared} {rest us : List Value} {kw : List (Str × Value)} (T : XCls K C fI ns) (S : InitS st ns) (F : Fun K "__init__" qual st fI fd) (X : K.In s.heap) (nolim : s.heap.NoLimit) (room : A.depth + 1 < recursionLimit)
    (hl : us.length = ns.length) (hr : rest.length ≤ 1000) (bt : ∀ (s : Shared) (y : Addr), BindsTo s fd ⟨.ref y :: rest, kw⟩ (("self", .ref y) :: ns.zip us))
    (hq : ∀ h' tk e d, MadeS s.heap h' e C d ns us → R (.ok (.ret (.ref e))) { s with heap := h', toks := tk }) : codeAny (model prog w) A (.call (.ref C) ⟨rest, kw⟩) R s := by
  obtain ⟨B, newId, initId, bmB, FB, SF, q, ov⟩ := T.base
  obtain ⟨nm, N, qn, bs, bm, hdct, sn, sub, ab, col, dd, k0, k1, k2, k3, k5, hC, hT⟩ := PySem.W.excInit_of X q
  obtain ⟨hp, g, dr, tk, os⟩ := s
  have k : ∀ b o, hp.get? b = some o → ((hp.push (PySem.W.kdv_tup rest)).push (excO C hp.objs.size)).get? b = some o := fun b o e => Heap.get?_push_of_some _ (Heap.get?_push_of_some _ e)
  have at1 : ((hp.push (PySem.W.kdv_tup rest)).push (excO C hp.objs.size)).get? (hp.objs.size + 1) = some (excO C hp.objs.size) := by heap_get
  have hxK : K.lookup (hp.objs.size + 1) = none := by
    cases e : K.lookup (hp.objs.size + 1) with
    | none => rfl
    | some o => exact absurd (Heap.lt_size (X _ _ e)) (Nat.not_lt.mpr (Nat.le_succ hp.objs.size))
  refine call_ownK FB hT hC (PySem.W.looks_findIn X T.ini) (fun self => PySem.W.bind_fn X self T.fn) (Nat.le_trans hr (by first | decide | (rw [sizeLine_eq]; decide))) ?_
  apply init_S (s := ⟨(hp.push (PySem.W.kdv_tup rest)).push (excO C hp.objs.size), g, dr, tk, os⟩) T S F (X.keeps k) (nolim.keeps k) at1 hxK room hl (bt _ _)
  intro h' tk' dx k' dn dne hx hns
  have sz : hp.objs.size + 1 + 1 ≤ dx := by
    have z := dn
    rw [Heap.size_push, Heap.size_push] at z
    exact z
  refine ⟨rfl, hq h' tk' (hp.objs.size + 1) dx ⟨fun b o e => ?_, Nat.le_succ _, ⟨_, hx⟩, Nat.le_trans (Nat.le_trans (Nat.le_succ _) (Nat.le_succ _)) sz, dne, hns⟩⟩
  exact k' b o (Nat.ne_of_lt (Nat.lt_succ_of_lt (Heap.lt_size e))) (k b o e)
end
end Ft
namespace Ft
open PySem PySem.Spec PyProof.Rows L2
open PySem.HandSPX (excO)
structure ExN (K : PySem.W.Frag) (mg : Str → Option Value) (x : Str) (ns : List Str) (C : Addr) : Prop where
  gC : mg x = some (.ref C)
  ex : ∃ (fI : Addr) (st : Stmt) (qual : Str) (fd : FuncData), XCls K C fI ns ∧ InitS st ns ∧ Fun K "__init__" qual st fI fd ∧
    (∀ us : List Value, us.length = ns.length → ∀ (s : Shared) (y : Addr), BindsTo s fd ⟨.ref y :: us, []⟩ (("self", .ref y) :: ns.zip us)) ∧
    (∀ us : List Value, us.length = ns.length → ∀ (s : Shared) (y : Addr), BindsTo s fd ⟨[.ref y], ns.reverse.zip us⟩ (("self", .ref y) :: ns.zip us.reverse))
structure ExZ (K : PySem.W.Frag) (mg : Str → Option Value) (x : Str) (C : Addr) : Prop where
  gC : mg x = some (.ref C)
  kp : PySem.W.keepIn K (.ref C) = true
  ex : ∃ B newId initId bmB, ExcBaseFacts B newId initId bmB ∧ PySem.W.excInitIn K C bmB newId = true ∧ PySem.W.findIn K (.ref C) "__init__" = some (some (.builtin initId))
theorem relO_zip : ∀ {ns : List Str} {vs : List V} {us : List Value}, Vals vs us → ∀ f, RelO ((ns.zip vs).lookup f) ((ns.zip us).lookup f)
  | [], vs, us, _, f => by cases vs <;> cases us <;> trivial
  | n :: ns, _, _, .nil, f => trivial
  | n :: ns, _, _, .cons a r, f => by
    rw [List.zip_cons_cons, List.zip_cons_cons, List.lookup_cons, List.lookup_cons]
    cases (f == n) with
    | true => exact a
    | false => exact relO_zip r f
section
variable {X : Cx} {C : Addr} {x : Str} {ns : List Str} {pins : List (Addr × Obj)} {σ : L2.St} {H1 : Hp} {s1 : Shared} {Q : VK} {k : Nat}
theorem mkV_run {fI : Addr} {st : Stmt} {qual : Str} {fd : FuncData} {rest us : List Value} {vs : List V} {kw : List (Str × Value)} (T1 : XCls X.K C fI ns) (S1 : InitS st ns) (F1 : Fun X.K "__init__" qual st fI fd) (hr : Room k X.A) (I1 : Inv X pins σ H1 s1) (rv : Vals vs us) (hl : us.length = ns.length) (hrl : rest.length ≤ 1000)
    (bt : ∀ (s : Shared) (y : Addr), BindsTo s fd ⟨.ref y :: rest, kw⟩ (("self", .ref y) :: ns.zip us))
    (q : ∀ d e, H1 d = none → H1 e = none → d ≠ e → Q (.ref e) (upd (upd H1 d (exd d (ns.zip vs))) e (exo e C (some d)))) : wpAny (model X.prog X.w) X.A (call (.ref C) rest kw) (EP X pins σ Q) X.xe s1 := by
  have nolim := I1.nolimit
  obtain ⟨hp, g, dr, tk, os⟩ := s1
  apply wpAny_call
  apply made_S T1 S1 F1 I1.kIn nolim (by have := hr.dp; omega) hl hrl bt
  intro h' tk' e d M
  show EP X pins σ Q (.ref e) ⟨h', g, dr, tk', os⟩
  obtain ⟨t, hoe⟩ := M.obj
  obtain ⟨G', g1, g2⟩ := restrict h' fun b => decide (b ≠ e)
  have gk : ∀ b, b ≠ e → G'.get? b = h'.get? b := fun b hb => g1 b (decide_eq_true hb)
  have ge : G'.get? e = none := g2 e (by simp)
  have old : ∀ b o, hp.get? b = some o → G'.get? b = some o := by
    intro b o q
    rw [gk b (Nat.ne_of_lt (Nat.lt_of_lt_of_le (Heap.lt_size q) M.new))]
    exact M.keep b o q
  have ob : ObjOk X.prog X.w (upd H1 d (exd d (ns.zip vs))) G' d (exd d (ns.zip vs)) := exd_ok (M.ns.at (fun o q => (gk d M.dne).trans q)) (relO_zip rv)
  have J : Inv X pins σ (upd H1 d (exd d (ns.zip vs))) ⟨G', g, dr, tk', os⟩ := I1.laid (t' := tk') old M.dbig ob
  have hd := I1.hok.fresh M.dbig
  have he := I1.hok.fresh M.new
  have J2 : Inv X pins σ (upd (upd H1 d (exd d (ns.zip vs))) e (exo e C (some d))) ⟨h', g, dr, tk', os⟩ := J.laidN (t' := tk') (fun b o q => by
    by_cases hb : b = e
    · have q' : G'.get? b = some o := q
      rw [hb, ge] at q'
      cases q'
    · exact (gk b hb).symm.trans q) ge (by rw [upd_ne (Ne.symm M.dne)]; exact he) (exo_ok hoe)
  exact ⟨.ref e, _, J2, rfl, q d e hd he M.dne⟩
def tMkV (C : Addr) (ns : List Str) (ta : TA) : TE := fun σ H Q => ta σ H fun vs H1 => vs.length = ns.length ∧ ∀ d e, H1 d = none → H1 e = none → d ≠ e → Q (.ref e) (upd (upd H1 d (exd d (ns.zip vs))) e (exo e C (some d)))
def tMkVK (C : Addr) (ns : List Str) (ta : TA) : TE := fun σ H Q => ta σ H fun vs H1 => vs.length = ns.length ∧ ∀ d e, H1 d = none → H1 e = none → d ≠ e → Q (.ref e) (upd (upd H1 d (exd d (ns.zip vs.reverse))) e (exo e C (some d)))
theorem vals_rev {vs : List V} {us : List Value} (r : Vals vs us) : Vals vs.reverse us.reverse := by
  induction r with
  | nil => exact .nil
  | cons a r ih =>
    rw [List.reverse_cons, List.reverse_cons]
    exact ih.append (.cons a .nil)
theorem InitS.len2 {st : Stmt} (S : InitS st ns) : ns.length ≤ 2 := by
  match ns, S with
  | [_], _ => exact (by decide : 1 ≤ 2)
  | [_, _], _ => exact Nat.le_refl _
theorem pe_mkV {a : Expr} {as : List Expr} {ta : TA} {p pos : Pos} (T : ExN X.K X.mg x ns C) (hr : Room k X.A) (ha : PA X (a :: as) ta) (gl : Gl X x) (hdb : (x == ("__debug__" : Str)) = false := by decide)
    (he : starEach (a :: as) X.env = (false, eval a X.env) :: starEach as X.env := by rfl) (hpl : (backTo pos (starEach as X.env)).any (·.1) = false := by rfl) : PE X (.Call (.Name x p) (a :: as) [] pos) (tMkV C ns ta) := by
  obtain ⟨fI, st, qual, fd, T1, S1, F1, bt, _⟩ := T.ex
  refine ⟨fun pins s σ H Q I h => ?_⟩
  apply wpAny_Call_Name_kw
  apply ld_glob I gl T.gC _ hdb
  apply PySem.W.callWith_K (h₀ := X.base) I.ok.mod.kin T1.kp _ he hpl
  apply thn (ha.run pos pins s σ H _ I h)
  rintro us s1 ⟨vs, H1, I1, r1, hl, q1⟩
  have lu : us.length = ns.length := r1.length.symm.trans hl
  have := S1.len2
  exact ⟨I1.kIn, mkV_run (rest := us) T1 S1 F1 hr I1 r1 lu (by omega) (bt us lu) q1⟩
theorem pe_mkVK {kws : List Keyword} {ta : TA} {p pos : Pos} (T : ExN X.K X.mg x ns C) (hr : Room k X.A) (ha : PK X kws ta) (gl : Gl X x) (hdb : (x == ("__debug__" : Str)) = false := by decide)
    (hall : (backToKw pos (keywordEach kws X.env)).all (·.1.isSome) = true := by rfl) (hks : (backToKw pos (keywordEach kws X.env)).filterMap (·.1) = ns.reverse := by rfl)
    (hpl : ((backTo pos (starEach [] X.env)).any (·.1) || (backToKw pos (keywordEach kws X.env)).any (·.1.isNone)) = false := by rfl) : PE X (.Call (.Name x p) [] kws pos) (tMkVK C ns ta) := by
  obtain ⟨fI, st, qual, fd, T1, S1, F1, _, bt⟩ := T.ex
  refine ⟨fun pins s σ H Q I h => ?_⟩
  refine wpAny_Call_Name_kw (ld_glob I gl T.gC ?_ hdb)
  refine PySem.W.callWith_KW0 (h₀ := X.base) I.ok.mod.kin T1.kp hall ?_ hpl
  refine thn (ha.run pos pins s σ H _ I h) fun ws s1 ⟨zs, H1, I1, r, lz, q⟩ => ⟨I1.kIn, ?_⟩
  rw [hks]
  have lw : ws.length = ns.length := r.length.symm.trans lz
  exact mkV_run (rest := []) T1 S1 F1 hr I1 (vals_rev r) (by rw [List.length_reverse]; exact lw) (Nat.zero_le _) (bt ws lw) q
def tMkZ (C : Addr) : TE := fun σ H Q => ∀ e, H e = none → Q (.ref e) (upd H e (exo e C none))
theorem pe_mkZ {p pos : Pos} (T : ExZ X.K X.mg x C) (gl : Gl X x) (hdb : (x == ("__debug__" : Str)) = false := by decide) : PE X (.Call (.Name x p) [] [] pos) (tMkZ C) := by
  obtain ⟨B, newId, initId, bmB, FB, q, ini⟩ := T.ex
  refine ⟨fun pins s σ H Q I h => ?_⟩
  apply wpAny_Call_Name_kw
  apply ld_glob I gl T.gC _ hdb
  apply PySem.W.callWith_K0 I.kIn T.kp
  obtain ⟨nm, N, qn, bs, bm, hdct, sn, sub, ab, col, dd, k0, k1, k2, k3, k5, hC, hT⟩ := PySem.W.excInit_of I.kIn q
  have X1 := I.kIn
  obtain ⟨hp, g, dr, tk, os⟩ := s
  refine PySem.W.call_B FB hT hC (PySem.W.looks_findIn X1 ini) (Nat.zero_le _) fun h' k he ht => ?_
  have hb : hp.objs.size ≤ hp.objs.size + 1 := Nat.le_succ _
  exact ⟨.ref _, _, I.laid (t' := tk) (a := hp.objs.size + 1) (o := exo (hp.objs.size + 1) C none) k hb (exo_ok he), rfl, h _ (I.hok.fresh hb)⟩
end
structure IsX (K : PySem.W.Frag) (C : Addr) : Prop where
  cl : (PySem.W.clsIn K C).isSome = true
  ga : PySem.W.findIn K (.ref C) "__getattribute__" = some (some (.builtin "BaseException.__getattribute__"))
  gg : PySem.W.findIn K (.ref C) "__getattr__" = some none
  ex : PySem.W.subIn K (.ref C) (.type "BaseException") = some true
  at_ : PySem.W.findIn K (.ref C) "__class__" = some (some (.builtin "object.__class__"))
  get : PySem.W.specialIn K (.builtin "object.__class__") "__get__" = some (some (.builtin "getset_descriptor.__get__"))
  tks : PySem.W.takesIn K (.builtin "object.__class__") = some true
  mro : PySem.W.mroIn K C (.type "object") = some true
def isXB (K : PySem.W.Frag) (C : Addr) : Bool := (PySem.W.clsIn K C).isSome && (PySem.W.findIn K (.ref C) "__getattribute__" == some (some (.builtin "BaseException.__getattribute__")) && (PySem.W.findIn K (.ref C) "__getattr__" == some none && (PySem.W.subIn K (.ref C) (.type "BaseException") == some true &&
  (PySem.W.findIn K (.ref C) "__class__" == some (some (.builtin "object.__class__")) && (PySem.W.specialIn K (.builtin "object.__class__") "__get__" == some (some (.builtin "getset_descriptor.__get__")) && (PySem.W.takesIn K (.builtin "object.__class__") == some true && PySem.W.mroIn K C (.type "object") == some true))))))
theorem isX_of {K : PySem.W.Frag} {C : Addr} (h : isXB K C = true) : IsX K C := by
  unfold isXB at h
  simp only [Bool.and_eq_true, beq_iff_eq] at h
  obtain ⟨a, b, c, d, e, f, g, i⟩ := h
  exact ⟨a, b, c, d, e, f, g, i⟩
def XDok (H : Hp) : Option Addr → Prop
  | none => True
  | some d => ∃ fs, H d = some (exd d fs)
section
variable {X : Cx} {pins : List (Addr × Obj)} {σ : L2.St} {H : Hp} {s : Shared} {a C : Addr} {od : Option Addr} {Q : VK}
theorem inst_exn (I : Inv X pins σ H s) (he : H a = some (exo a C od)) (hd : XDok H od) : ∃ ox od', PySem.W.InstAt s.heap a ox C od' := by
  obtain ⟨t1, ho⟩ := exo_at I.hok he
  cases od with
  | none => exact ⟨_, none, ho, rfl, rfl, trivial⟩
  | some d =>
    obtain ⟨fs, hd⟩ := hd
    obtain ⟨mA, hns, _⟩ := exd_at I.hok hd
    obtain ⟨od', ho', _⟩ := lookIn_ns hns
    exact ⟨_, some od', ho, rfl, rfl, ho'⟩
theorem call_isXn : CallR X (.builtin "isinstance") (fun xs H Q => ∃ (c : V) (cv : Value) (b : Bool) (a C : Addr) (od : Option Addr), xs = [.ref a, c] ∧ ClsV c cv ∧ H a = some (exo a C od) ∧ XDok H od ∧ IsX X.K C ∧ PySem.W.kitOne X.K (.ref C) cv = some b ∧ Q (.bl b) H) := by
  rintro pins s σ H xs us Q I r ⟨c, cv, b, a, C, od, rfl, hc, he, hd, T, hk, w⟩
  obtain ⟨u1, u2, rfl, r1, r2⟩ := vals2 r
  cases r1
  cases hc.eq r2
  obtain ⟨ox, od', at1⟩ := inst_exn I he hd
  exact PySem.W.kia_one (PySem.W.kitx_exc T.cl T.ga T.gg T.ex T.at_ T.get T.tks T.mro) I.kIn at1 hk (fun z => nomatch z) fun tk => ⟨.bl b, H, I.tok tk, rfl, w⟩
structure XFa (K : PySem.W.Frag) (C : Addr) (f : Str) : Prop where
  ga : PySem.W.findIn K (.ref C) "__getattribute__" = some (some (.builtin "BaseException.__getattribute__"))
  gg : PySem.W.findIn K (.ref C) "__getattr__" = some none
  ex : PySem.W.subIn K (.ref C) (.type "BaseException") = some true
  hd : PySem.W.hasDictIn K C = true
  no : PySem.W.findIn K (.ref C) f = some none
def tXfV (K : PySem.W.Frag) (f : Str) (te : TE) : TE := fun σ H Q => te σ H fun v H1 => ∃ (a C d : Addr) (fs : List (Str × V)) (u : V), v = .ref a ∧ H1 a = some (exo a C (some d)) ∧ H1 d = some (exd d fs) ∧ XFa K C f ∧ fs.lookup f = some u ∧ Q u H1
theorem pe_xfV {e : Expr} {f : Str} {te : TE} {pos : Pos} (he : PE X e te) (hb : attributeBase e f X.env (eval e X.env) = eval e X.env := by rfl) : PE X (.Attribute e f pos) (tXfV X.K f te) := by
  constructor
  intro pins s σ H Q I h
  apply attr_of hb
  apply thn (he.run pins s σ H _ I h)
  rintro u s1 ⟨v, H1, I1, rv, a, C, d, fs, z, rfl, ha, hd, T, hl, w⟩
  cases rv
  obtain ⟨t1, ho⟩ := exo_at I1.hok ha
  obtain ⟨mA, hns, rel⟩ := exd_at I1.hok hd
  obtain ⟨od', ho', lk⟩ := lookIn_ns hns
  have at1 : PySem.W.InstAt s1.heap a _ C (some od') := ⟨ho, rfl, rfl, ho'⟩
  obtain ⟨u, hu, ru⟩ := RelO.some_of (v := z) (o := mA f) (by rw [← hl]; exact rel f)
  exact HandSPX.exc_get I1.kIn at1 T.ga T.gg T.ex (PySem.W.findObj_own T.hd T.no rfl (by rw [lk, hu])) (handed_of ru) ⟨z, H1, I1.tok _, ru, w⟩
end
end Ft
namespace Dn
open PySem PySem.Spec PyProof.Rows L2 Ft LamX StX
section
variable {X : Cx} {E : WX} {T : List (Addr × Str)} {k : Nat} {c : Str} {ns : List Str} {fe : Ex} {fr : Ax} {a e : Expr} {as : List Expr} {kws : List Keyword} {p p2 pos : Pos}
def eExn (c : Str) (ns : List Str) (fr : Ax) : Ex := fun sl st => bnd (fr sl st) fun ws st1 => match pures ws with
  | some ds => if ds.length = ns.length then some (.ok (.d (.exn c (ns.zip ds))), st1) else none
  | none => none
def eExnK (c : Str) (ns : List Str) (fr : Ax) : Ex := fun sl st => bnd (fr sl st) fun ws st1 => match pures ws with
  | some ds => if ds.length = ns.length then some (.ok (.d (.exn c (ns.zip ds.reverse))), st1) else none
  | none => none
def eExnZ (c : Str) : Ex := fun _ st => some (.ok (.d (.exn c [])), st)
theorem rpF_zip {G : Gx} {m : M} {H : Hp} : ∀ {ns : List Str} {vs : List V} {ds : List D}, RpA G m H vs ds → RpF G m H (ns.zip vs) (ns.zip ds)
  | [], _, _, _ => by rw [List.zip_nil_left, List.zip_nil_left]; exact .nil
  | _ :: _, _, _, .nil => .nil
  | _ :: _, _, _, .cons a r => .cons a (rpF_zip r)
theorem rpA_rev {G : Gx} {m : M} {H : Hp} {vs : List V} {ds : List D} (r : RpA G m H vs ds) : RpA G m H vs.reverse ds.reverse := by
  induction vs generalizing ds with
  | nil => cases r; exact .nil
  | cons v vs ih =>
    cases r with
    | cons a r =>
      rw [List.reverse_cons, List.reverse_cons]
      exact (ih r).app (.cons a .nil)
theorem exn_new {G : Gx} {m : M} {H : Hp} {st : Sto} {C d e : Addr} {vs : List V} {ds : List D} (hc : c ≠ "type") (hC : G.mg c = some (.ref C)) (co : CO G m H st) (r : RpA G m H vs ds) (hd : H d = none) (he : H e = none) (ne : d ≠ e) :
    Ext m H m (upd (upd H d (exd d (ns.zip vs))) e (exo e C (some d))) ∧ CO G m (upd (upd H d (exd d (ns.zip vs))) e (exo e C (some d))) st ∧ Rp G m (upd (upd H d (exd d (ns.zip vs))) e (exo e C (some d))) (.ref e) (.exn c (ns.zip ds)) := by
  have he2 : upd H d (exd d (ns.zip vs)) e = none := by rw [upd_ne (Ne.symm ne)]; exact he
  have s1 : Same H (upd H d (exd d (ns.zip vs))) := same_new hd
  have s2 : Same (upd H d (exd d (ns.zip vs))) (upd (upd H d (exd d (ns.zip vs))) e (exo e C (some d))) := same_new he2
  exact ⟨(Ext.of_same s1).trans (Ext.of_same s2), (co.same s1).same s2, .exn hc hC upd_same (co.new_na (.none he)) ⟨by rw [upd_ne ne]; exact upd_same, co.new_na (.none hd)⟩ (rpF_zip ((r.same s1).same s2))⟩
theorem dx_exn (B : ∃ C, ExN X.K X.mg c ns C) (hc : c ≠ "type") (hr : Room k X.A) (gl : Gl X c) (ha : DA ⟨X.K, X.mg, T, X.w⟩ X E (a :: as) fr) (hdb : (c == ("__debug__" : Str)) = false := by decide)
    (he : starEach (a :: as) X.env = (false, eval a X.env) :: starEach as X.env := by rfl) (hpl : (backTo pos (starEach as X.env)).any (·.1) = false := by rfl) : DE ⟨X.K, X.mg, T, X.w⟩ X E (.Call (.Name c p) (a :: as) [] pos) (eExn c ns fr) := by
  obtain ⟨C, B⟩ := B
  refine PE.imp (pe_mkV B hr ha gl hdb he hpl) ?_
  rintro σ H Q ⟨m, sl, st, hs, hc', h⟩
  refine ⟨m, sl, st, hs, hc', aft_bnd h fun ws st1 vs H1 m1 e1 c1 r1 h1 => ?_⟩
  split at h1
  · rename_i ds hd
    split at h1
    · rename_i hl
      have ra := pures_ok r1 hd
      refine ⟨by rw [ra.len]; exact hl, fun d e hd he ne => ?_⟩
      obtain ⟨q1, q2, q3⟩ := exn_new (ns := ns) hc B.gC c1 ra hd he ne
      exact h1 _ _ _ q1 q2 q3
    · exact h1.elim
  · exact h1.elim
theorem dx_exnK (B : ∃ C, ExN X.K X.mg c ns C) (hc : c ≠ "type") (hr : Room k X.A) (gl : Gl X c) (ha : DK ⟨X.K, X.mg, T, X.w⟩ X E kws fr) (hdb : (c == ("__debug__" : Str)) = false := by decide)
    (hall : (backToKw pos (keywordEach kws X.env)).all (·.1.isSome) = true := by rfl) (hks : (backToKw pos (keywordEach kws X.env)).filterMap (·.1) = ns.reverse := by rfl)
    (hpl : ((backTo pos (starEach [] X.env)).any (·.1) || (backToKw pos (keywordEach kws X.env)).any (·.1.isNone)) = false := by rfl) : DE ⟨X.K, X.mg, T, X.w⟩ X E (.Call (.Name c p) [] kws pos) (eExnK c ns fr) := by
  obtain ⟨C, B⟩ := B
  refine PE.imp (pe_mkVK B hr ha gl hdb hall hks hpl) ?_
  rintro σ H Q ⟨m, sl, st, hs, hc', h⟩
  refine ⟨m, sl, st, hs, hc', aft_bnd h fun ws st1 vs H1 m1 e1 c1 r1 h1 => ?_⟩
  split at h1
  · rename_i ds hd
    split at h1
    · rename_i hl
      have ra := pures_ok r1 hd
      refine ⟨by rw [ra.len]; exact hl, fun d e hd he ne => ?_⟩
      obtain ⟨q1, q2, q3⟩ := exn_new (ns := ns) hc B.gC c1 (rpA_rev ra) hd he ne
      exact h1 _ _ _ q1 q2 q3
    · exact h1.elim
  · exact h1.elim
theorem dx_exnZ (B : ∃ C, ExZ X.K X.mg c C) (hc : c ≠ "type") (gl : Gl X c) (hdb : (c == ("__debug__" : Str)) = false := by decide) : DE ⟨X.K, X.mg, T, X.w⟩ X E (.Call (.Name c p) [] [] pos) (eExnZ c) := by
  obtain ⟨C, B⟩ := B
  refine PE.imp (pe_mkZ B gl hdb) ?_
  rintro σ H Q ⟨m, sl, st, hs, co, h⟩ e he
  exact h _ _ m (Ext.of_same (same_new he)) (co.same (same_new he)) (.exn hc B.gC upd_same (co.new_na (.none he)) rfl .nil)
def gXf (cs : List Str) (f : Str) : D → Option D
  | .exn c fs => if c ∈ cs then fs.lookup f else none
  | _ => none
def XfAt (K : PySem.W.Frag) (mg : Str → Option Value) (c f : Str) : Prop := ∃ C, mg c = some (.ref C) ∧ XFa K C f
theorem RpX.exn {G : Gx} {m : M} {H : Hp} {v : V} {gs : List (Str × D)} (hc : c ≠ "type") (r : RpX G m H v (.exn c gs)) : ∃ a C od fs, v = .ref a ∧ G.mg c = some (.ref C) ∧ H a = some (exo a C od) ∧ XD m H od fs ∧ RpF G m H fs gs := by
  rcases r with r | ⟨_, _, _, _, z, _⟩ | ⟨_, _, _, _, _, _, _, z, _⟩
  · cases r with
    | exn h0 h1 h2 h3 h4 h5 => exact ⟨_, _, _, _, rfl, h1, h2, h4, h5⟩
    | cls _ => exact absurd rfl hc
  · cases z
  · cases z
theorem de_xf {cs : List Str} {f : Str} (F : ∀ c ∈ cs, XfAt X.K X.mg c f) (hty : ("type" : Str) ∉ cs) (he : DE ⟨X.K, X.mg, T, X.w⟩ X E e fe) (hb : attributeBase e f X.env (eval e X.env) = eval e X.env) : DE ⟨X.K, X.mg, T, X.w⟩ X E (.Attribute e f pos) (eUn (gXf cs f) fe) := by
  refine PE.imp (pe_xfV he hb) ?_
  rintro σ H Q ⟨m, sl, st, hs, hc, h⟩
  refine ⟨m, sl, st, hs, hc, aft_bnd h fun w st1 v H1 m1 e1 c1 r1 h1 => ?_⟩
  unfold lift1 at h1
  split at h1
  · rename_i d hd
    obtain ⟨d', e2, q⟩ := aft_pr c1 h1
    have rx := view_ok c1 r1 hd
    unfold gXf at e2
    split at e2
    · rename_i c fs
      split at e2
      · rename_i hcs
        obtain ⟨a, C, od, gs, rfl, hC, ha, hx, hf⟩ := rx.exn (fun z => hty (z ▸ hcs))
        obtain ⟨C', hC', FA⟩ := F _ hcs
        have : C' = C := by simpa using hC'.symm.trans hC
        subst this
        obtain ⟨v, z4, z5⟩ := hf.look e2
        cases od with
        | none =>
          have z : gs = [] := hx
          rw [z] at z4
          cases z4
        | some d => exact ⟨a, C', d, gs, v, rfl, ha, hx.1, FA, z4, gv q z5⟩
      · cases e2
    · cases e2
  · exact h1.elim
def gIsX (tab : List (Str × List Str)) (c2 : Str) : D → Option D
  | .exn c _ => (tab.lookup c).map fun l => .bl (l.contains c2)
  | _ => none
def IxO (K : PySem.W.Frag) (mg : Str → Option Value) (tab : List (Str × List Str)) (c2 : Str) : Prop := ∃ C2, mg c2 = some (.ref C2) ∧ ∀ c l, tab.lookup c = some l → c ≠ "type" ∧ ∃ C, mg c = some (.ref C) ∧ IsX K C ∧ PySem.W.kitOne K (.ref C) (.ref C2) = some (l.contains c2)
def IxB (K : PySem.W.Frag) (mg : Str → Option Value) (tab : List (Str × List Str)) (x : Str) (T : String) : Prop := mg x = none ∧ ∀ c l, tab.lookup c = some l → c ≠ "type" ∧ ∃ C, mg c = some (.ref C) ∧ IsX K C ∧ PySem.W.kitOne K (.ref C) (.type T) = some (l.contains x)
theorem isX_ok {G : Gx} {tab : List (Str × List Str)} {x : Str} {v2 : Value} {m : M} {H : Hp} {st : Sto} {v : V} {d d' : D} {Q : VK} (hT : ∀ c l, tab.lookup c = some l → c ≠ "type" ∧ ∃ C, G.mg c = some (.ref C) ∧ IsX G.K C ∧ PySem.W.kitOne G.K (.ref C) v2 = some (l.contains x))
    (rx : RpX G m H v d) (e2 : gIsX tab x d = some d') (q : Gives G m H d' Q) : ∃ b a C od, v = .ref a ∧ H a = some (exo a C od) ∧ XDok H od ∧ IsX G.K C ∧ PySem.W.kitOne G.K (.ref C) v2 = some b ∧ Q (.bl b) H := by
  unfold gIsX at e2
  split at e2
  · rename_i c fs
    rw [Option.map_eq_some_iff] at e2
    obtain ⟨l, hl, rfl⟩ := e2
    obtain ⟨hty, C', hC', IX, hk⟩ := hT c l hl
    obtain ⟨a, C, od, gs, rfl, hC, ha, hx, hf⟩ := rx.exn hty
    have : C' = C := by simpa using hC'.symm.trans hC
    subst this
    refine ⟨_, a, C', od, rfl, ha, ?_, IX, hk, gv q (.bl _)⟩
    cases od with
    | none => trivial
    | some d => exact ⟨gs, hx.1⟩
  · cases e2
theorem de_isXo {tab : List (Str × List Str)} {x : Str} (B : IxO X.K X.mg tab x) (he : DE ⟨X.K, X.mg, T, X.w⟩ X E e fe) (gi : Gl X "isinstance") (mi : X.mg "isinstance" = none) (gt : Gl X x) (hd : (x == ("__debug__" : Str)) = false := by decide)
    (h1 : starEach (e :: [.Name x p2]) X.env = (false, eval e X.env) :: starEach [.Name x p2] X.env := by rfl) (h2 : starEach [.Name x p2] X.env = (false, eval (.Name x p2) X.env) :: starEach [] X.env := by rfl) (hpl : (backTo pos (starEach [.Name x p2] X.env)).any (·.1) = false := by rfl) :
    DE ⟨X.K, X.mg, T, X.w⟩ X E (.Call (.Name "isinstance" p) [e, .Name x p2] [] pos) (eUn (gIsX tab x) fe) := by
  obtain ⟨C2, hC2, B⟩ := B
  refine PE.imp (pe_callB call_isXn gi mi bt_isinstance (pa_cons he (pa_cons (pe_glob (v := .ref C2) gt hC2 rfl hd) pa_nil h2) h1) (by decide) (by decide) h1 hpl) ?_
  rintro σ H Q ⟨m, sl, st, hs, hc, h⟩
  refine ⟨m, sl, st, hs, hc, aft_bnd h fun w st1 v H1 m1 e1 c1 r1 h1 => ?_⟩
  unfold lift1 at h1
  split at h1
  · rename_i d hd
    obtain ⟨d', e2, q⟩ := aft_pr c1 h1
    obtain ⟨b, a, C, od, rfl, ha, hx, IX, hk, q⟩ := isX_ok (G := ⟨X.K, X.mg, T, X.w⟩) (st := st1) B (view_ok c1 r1 hd) e2 q
    exact ⟨.ref C2, .ref C2, b, a, C, od, rfl, .own C2, ha, hx, IX, hk, q⟩
  · exact h1.elim
theorem de_isXb {tab : List (Str × List Str)} {x : Str} {TT : String} (B : IxB X.K X.mg tab x TT) (bt : bootBuiltins x = some (.type TT)) (he : DE ⟨X.K, X.mg, T, X.w⟩ X E e fe) (gi : Gl X "isinstance") (mi : X.mg "isinstance" = none) (gt : Gl X x) (hn : x ≠ "__name__" := by decide) (hd : (x == ("__debug__" : Str)) = false := by decide)
    (h1 : starEach (e :: [.Name x p2]) X.env = (false, eval e X.env) :: starEach [.Name x p2] X.env := by rfl) (h2 : starEach [.Name x p2] X.env = (false, eval (.Name x p2) X.env) :: starEach [] X.env := by rfl) (hpl : (backTo pos (starEach [.Name x p2] X.env)).any (·.1) = false := by rfl) :
    DE ⟨X.K, X.mg, T, X.w⟩ X E (.Call (.Name "isinstance" p) [e, .Name x p2] [] pos) (eUn (gIsX tab x) fe) := by
  obtain ⟨mt, B⟩ := B
  refine PE.imp (pe_callB call_isXn gi mi bt_isinstance (pa_cons he (pa_cons (pe_bltn (v := .ty TT) gt mt bt rfl hn hd) pa_nil h2) h1) (by decide) (by decide) h1 hpl) ?_
  rintro σ H Q ⟨m, sl, st, hs, hc, h⟩
  refine ⟨m, sl, st, hs, hc, aft_bnd h fun w st1 v H1 m1 e1 c1 r1 h1 => ?_⟩
  unfold lift1 at h1
  split at h1
  · rename_i d hd
    obtain ⟨d', e2, q⟩ := aft_pr c1 h1
    obtain ⟨b, a, C, od, rfl, ha, hx, IX, hk, q⟩ := isX_ok (G := ⟨X.K, X.mg, T, X.w⟩) (st := st1) B (view_ok c1 r1 hd) e2 q
    exact ⟨.ty TT, .type TT, b, a, C, od, rfl, .ty TT, ha, hx, IX, hk, q⟩
  · exact h1.elim
end
theorem xfAt_mk {K : PySem.W.Frag} {mg : Str → Option Value} {c f : Str} {ns : List Str} {C : Addr} (T : ExN K mg c ns C) (hf : f ∈ ns) : XfAt K mg c f := by
  obtain ⟨fI, st, qual, fd, T1, _⟩ := T.ex
  exact ⟨C, T.gC, T1.ga, T1.gg, T1.ex, T1.hd, T1.no f hf⟩
def exnB (K : PySem.W.Frag) (C fI : Addr) (bmB : List Value) (newId : String) (ns : List Str) : Bool := PySem.W.excInitIn K C bmB newId && (PySem.W.excOver K C bmB && (PySem.W.hasDictIn K C && (PySem.W.findIn K (.ref C) "__setattr__" == some (some (.builtin "object.__setattr__")) &&
  (PySem.W.findIn K (.ref C) "__getattribute__" == some (some (.builtin "BaseException.__getattribute__")) && (PySem.W.findIn K (.ref C) "__getattr__" == some none && (PySem.W.subIn K (.ref C) (.type "BaseException") == some true && (PySem.W.typeIn K (.ref C) == some (.type "type") &&
  (PySem.W.keepIn K (.ref C) && (PySem.W.typeIn K (.ref fI) == some (.type "function") && (PySem.W.keepIn K (.ref fI) && ns.all fun n => PySem.W.findIn K (.ref C) n == some none))))))))))
theorem exN_mk {K : PySem.W.Frag} {mg : Str → Option Value} {h : Heap} {x qual : Str} {ns : List Str} {C fI : Addr} {st : Stmt} {B newId initId : String} {bmB : List Value} {oc : Value} {od an : Option Addr} {osl : Array (Option Value)} {kV doc pm cdv ct : Value} (X : K.In h) (G : h.Ns mainGlobals mg)
    (FB : ExcBaseFacts B newId initId bmB) (SF : StoreFacts B bmB "object.__setattr__" "object") (S : InitS st ns)
    (bp : ∀ (kV doc pm : Value) (an : Option Addr) (cdv ct u : Value) (us : List Value), us.length = ns.length → bindArgs (PySem.W.fnOf "__init__" qual (defArgs st) (defBody st) (defScope st) .none kV doc pm an cdv ct) ⟨u :: us, []⟩ = pure ((("self" : Str), u) :: ns.zip us))
    (bk : ∀ (kV doc pm : Value) (an : Option Addr) (cdv ct u : Value) (us : List Value), us.length = ns.length → bindArgs (PySem.W.fnOf "__init__" qual (defArgs st) (defBody st) (defScope st) .none kV doc pm an cdv ct) ⟨[u], ns.reverse.zip us⟩ = pure ((("self" : Str), u) :: ns.zip us.reverse))
    (g : PySem.W.nsIn K mainGlobals x = some (some (.ref C))) (ini : PySem.W.findIn K (.ref C) "__init__" = some (some (.ref fI)))
    (l : K.lookup fI = some ⟨oc, od, .func (PySem.W.fnOf "__init__" qual (defArgs st) (defBody st) (defScope st) .none kV doc pm an cdv ct), osl⟩) (c : PySem.W.codeIn K cdv qual = true) (kb : exnB K C fI bmB newId ns = true) : ExN K mg x ns C := by
  unfold exnB at kb
  simp only [Bool.and_eq_true, beq_iff_eq] at kb
  obtain ⟨e1, e2, hd, sa, ga, gg, ex, ty, kp, fn, kf, no⟩ := kb
  exact ⟨PySem.W.mg_of X G g, fI, st, qual, _, ⟨⟨B, newId, initId, bmB, FB, SF, e1, e2⟩, hd, sa, ga, gg, ex, ty, kp, ini, fn, fun n hn => by simpa using List.all_eq_true.mp no n hn⟩, S, fun_mk l c kf, fun us hl s y => .of_eq (bp _ _ _ _ _ _ _ us hl), fun us hl s y => .of_eq (bk _ _ _ _ _ _ _ us hl)⟩
def exzB (K : PySem.W.Frag) (C : Addr) (bmB : List Value) (newId initId : String) : Bool := PySem.W.excInitIn K C bmB newId && (PySem.W.keepIn K (.ref C) && PySem.W.findIn K (.ref C) "__init__" == some (some (.builtin initId)))
theorem exZ_mk {K : PySem.W.Frag} {mg : Str → Option Value} {h : Heap} {x : Str} {C : Addr} {B newId initId : String} {bmB : List Value} (X : K.In h) (G : h.Ns mainGlobals mg) (FB : ExcBaseFacts B newId initId bmB)
    (g : PySem.W.nsIn K mainGlobals x = some (some (.ref C))) (kb : exzB K C bmB newId initId = true) : ExZ K mg x C := by
  unfold exzB at kb
  simp only [Bool.and_eq_true, beq_iff_eq] at kb
  exact ⟨PySem.W.mg_of X G g, kb.2.1, B, newId, initId, bmB, FB, kb.1, kb.2.2⟩
def excTab (K : PySem.W.Frag) (cs : List (Str × Addr)) (tab : List (Str × List Str)) (ts : List (Str × Value)) : Bool := tab.all fun r => match cs.lookup r.1 with
  | some C => isXB K C && ts.all fun t => PySem.W.kitOne K (.ref C) t.2 == some (r.2.contains t.1)
  | none => false
section
variable {K : PySem.W.Frag} {mg : Str → Option Value} {cs : List (Str × Addr)} {tab : List (Str × List Str)} {ts : List (Str × Value)} {x : Str}
theorem ix_row {v2 : Value} (hm : ∀ p ∈ cs, mg p.1 = some (.ref p.2)) (hty : ∀ p ∈ tab, p.1 ≠ "type") (KT : excTab K cs tab ts = true) (ht : (x, v2) ∈ ts) : ∀ c l, tab.lookup c = some l → c ≠ "type" ∧ ∃ C, mg c = some (.ref C) ∧ IsX K C ∧ PySem.W.kitOne K (.ref C) v2 = some (l.contains x) := by
  intro c l hl
  have hmem := lookup_mem hl
  have h := List.all_eq_true.mp KT _ hmem
  refine ⟨hty _ hmem, ?_⟩
  simp only at h
  split at h
  · rename_i C hC
    rw [Bool.and_eq_true] at h
    have h2 := List.all_eq_true.mp h.2 _ ht
    exact ⟨C, hm _ (lookup_mem hC), isX_of h.1, by simpa using h2⟩
  · cases h
theorem hmX_nil : ∀ p ∈ ([] : List (Str × Addr)), mg p.1 = some (.ref p.2) := fun _ h => nomatch h
theorem hmX_cons {c : Str} {C : Addr} (h : mg c = some (.ref C)) (t : ∀ p ∈ cs, mg p.1 = some (.ref p.2)) : ∀ p ∈ (c, C) :: cs, mg p.1 = some (.ref p.2) := List.forall_mem_cons.mpr ⟨h, t⟩
theorem ixo_mk {C2 : Addr} (hm : ∀ p ∈ cs, mg p.1 = some (.ref p.2)) (hty : ∀ p ∈ tab, p.1 ≠ "type") (KT : excTab K cs tab ts = true) (g : mg x = some (.ref C2)) (ht : (x, .ref C2) ∈ ts) : IxO K mg tab x := ⟨C2, g, ix_row hm hty KT ht⟩
theorem ixb_mk {TT : String} (hm : ∀ p ∈ cs, mg p.1 = some (.ref p.2)) (hty : ∀ p ∈ tab, p.1 ≠ "type") (KT : excTab K cs tab ts = true) (g : mg x = none) (ht : (x, .type TT) ∈ ts) : IxB K mg tab x TT := ⟨g, ix_row hm hty KT ht⟩
end
section
variable {QW : W → Sto → Prop} {XP' : XP} {sl : Slo} {st : Sto} {fr : Ax} {c : Str} {ns : List Str}
def kExn (c : Str) (ns : List Str) (QW : W → Sto → Prop) (ws : List W) (st1 : Sto) : Prop := wpo (pures ws) fun ds => ds.length = ns.length ∧ QW (.d (.exn c (ns.zip ds))) st1
def kExnK (c : Str) (ns : List Str) (QW : W → Sto → Prop) (ws : List W) (st1 : Sto) : Prop := wpo (pures ws) fun ds => ds.length = ns.length ∧ QW (.d (.exn c (ns.zip ds.reverse))) st1
theorem kExn_ap {ws : List W} {st1 : Sto} : kExn c ns QW ws st1 = wpo (pures ws) fun ds => ds.length = ns.length ∧ QW (.d (.exn c (ns.zip ds))) st1 := rfl
theorem kExnK_ap {ws : List W} {st1 : Sto} : kExnK c ns QW ws st1 = wpo (pures ws) fun ds => ds.length = ns.length ∧ QW (.d (.exn c (ns.zip ds.reverse))) st1 := rfl
theorem wp_exn : wp (eExn c ns fr sl st) QW XP' = wp (fr sl st) (kExn c ns QW) XP' := by
  unfold eExn
  rw [wp_bnd]
  congr; funext ws st1
  unfold kExn
  cases pures ws with
  | none => rfl
  | some ds =>
    by_cases h : ds.length = ns.length
    · simp only [h, if_true, wpo_some, true_and]; rfl
    · simp only [h, if_false, wpo_some, false_and]; rfl
theorem wp_exnK : wp (eExnK c ns fr sl st) QW XP' = wp (fr sl st) (kExnK c ns QW) XP' := by
  unfold eExnK
  rw [wp_bnd]
  congr; funext ws st1
  unfold kExnK
  cases pures ws with
  | none => rfl
  | some ds =>
    by_cases h : ds.length = ns.length
    · simp only [h, if_true, wpo_some, true_and]; rfl
    · simp only [h, if_false, wpo_some, false_and]; rfl
end
end Dn
namespace D22
open PySem PySem.Spec PyProof.Rows L2
def top (i : Nat) : Stmt := PySem.Challenge.pw_fivetrees_k22_errors_and_limits.main.body.getD i (.Pass ⟨0, 0, 0, 0⟩)
def inClass (c : Stmt) (i : Nat) : Stmt := match c with
  | .ClassDef (body := b) .. => b.getD i (.Pass ⟨0, 0, 0, 0⟩)
  | _ => .Pass ⟨0, 0, 0, 0⟩
def xTab : List (Str × List Str) := [(("Busy", ["Busy", "StateError", "LookupError"]) : Str × List Str), (("EmptyKind", ["EmptyKind", "StateError", "LookupError"]) : Str × List Str), (("InvalidConstructors", ["InvalidConstructors", "TreeError", "ValueError"]) : Str × List Str), (("InvalidDeed", ["InvalidDeed", "TreeError", "ValueError"]) : Str × List Str), (("InvalidFields", ["InvalidFields", "TreeError", "ValueError"]) : Str × List Str), (("InvalidGood", ["InvalidGood", "TreeError", "ValueError"]) : Str × List Str), (("InvalidKinds", ["InvalidKinds", "TreeError", "ValueError"]) : Str × List Str), (("InvalidLine", ["InvalidLine", "TreeError", "ValueError"]) : Str × List Str), (("InvalidMoves", ["InvalidMoves", "TreeError", "ValueError"]) : Str × List Str), (("InvalidNumber", ["InvalidNumber", "TreeError", "ValueError"]) : Str × List Str), (("InvalidPath", ["InvalidPath", "TreeError", "ValueError"]) : Str × List Str), (("InvalidRows", ["InvalidRows", "TreeError", "ValueError"]) : Str × List Str), (("InvalidRules", ["InvalidRules", "TreeError", "ValueError"]) : Str × List Str), (("InvalidSigns", ["InvalidSigns", "TreeError", "ValueError"]) : Str × List Str), (("InvalidStart", ["InvalidStart", "TreeError", "ValueError"]) : Str × List Str), (("InvalidString", ["InvalidString", "TreeError", "ValueError"]) : Str × List Str), (("InvalidText", ["InvalidText", "TreeError", "ValueError"]) : Str × List Str), (("InvalidTree", ["InvalidTree", "TreeError", "ValueError"]) : Str × List Str), (("InvalidWriters", ["InvalidWriters", "TreeError", "ValueError"]) : Str × List Str), (("MissingRule", ["MissingRule", "StateError", "LookupError"]) : Str × List Str), (("NotAPattern", ["NotAPattern", "TreeError", "ValueError"]) : Str × List Str), (("NotASchema", ["NotASchema", "TreeError", "ValueError"]) : Str × List Str), (("NotATree", ["NotATree", "TreeError", "ValueError"]) : Str × List Str), (("NotAWriter", ["NotAWriter", "TreeError", "ValueError"]) : Str × List Str), (("NothingToUndo", ["NothingToUndo", "StateError", "LookupError"]) : Str × List Str), (("OtherSchema", ["OtherSchema", "StateError", "LookupError"]) : Str × List Str), (("Refused", ["Refused", "StateError", "LookupError"]) : Str × List Str), (("TooLong", ["TooLong", "LimitError", "ArithmeticError"]) : Str × List Str), (("TooManyDeeds", ["TooManyDeeds", "LimitError", "ArithmeticError"]) : Str × List Str), (("TooManyFaces", ["TooManyFaces", "LimitError", "ArithmeticError"]) : Str × List Str), (("TooManyJoins", ["TooManyJoins", "LimitError", "ArithmeticError"]) : Str × List Str), (("TooManyRows", ["TooManyRows", "LimitError", "ArithmeticError"]) : Str × List Str), (("UnknownConstructor", ["UnknownConstructor", "TreeError", "ValueError"]) : Str × List Str), (("UnknownKind", ["UnknownKind", "TreeError", "ValueError"]) : Str × List Str), (("UnknownMode", ["UnknownMode", "TreeError", "ValueError"]) : Str × List Str), (("Unlike", ["Unlike", "StateError", "LookupError"]) : Str × List Str)]
def fas0 : List (PySem.W.Frag → Bool) := [fun K => decide (PySem.W.nsIn K mainGlobals "abs" = some none),
  fun K => decide (PySem.W.nsIn K mainGlobals "all" = some none),
  fun K => decide (PySem.W.nsIn K mainGlobals "int" = some none),
  fun K => decide (PySem.W.nsIn K mainGlobals "isinstance" = some none),
  fun K => decide (PySem.W.nsIn K mainGlobals "len" = some none),
  fun K => decide (PySem.W.nsIn K mainGlobals "max" = some none),
  fun K => decide (PySem.W.nsIn K mainGlobals "min" = some none),
  fun K => decide (PySem.W.nsIn K mainGlobals "range" = some none),
  fun K => decide (PySem.W.nsIn K mainGlobals "repr" = some none),
  fun K => decide (PySem.W.nsIn K mainGlobals "str" = some none),
  fun K => decide ((He.Fa.int "MOST_CONSTRUCTORS" 6).ok K = true),
  fun K => decide ((He.Fa.int "MOST_DEEDS" 100).ok K = true),
  fun K => decide ((He.Fa.int "MOST_FACES" 60).ok K = true),
  fun K => decide ((He.Fa.int "MOST_FIELDS" 3).ok K = true),
  fun K => decide ((He.Fa.int "MOST_JOINS" 2000).ok K = true),
  fun K => decide ((He.Fa.int "MOST_KINDS" 4).ok K = true),
  fun K => decide ((He.Fa.int "MOST_LISTED" 20).ok K = true),
  fun K => decide ((He.Fa.int "MOST_MODES" 3).ok K = true),
  fun K => decide ((He.Fa.int "MOST_MOVES" 30).ok K = true),
  fun K => decide ((He.Fa.int "MOST_PIECES" 9).ok K = true),
  fun K => decide ((He.Fa.int "MOST_READ" 40).ok K = true),
  fun K => decide ((He.Fa.int "MOST_ROWS" 200).ok K = true),
  fun K => decide ((He.Fa.int "MOST_RULES" 40).ok K = true),
  fun K => decide ((He.Fa.int "MOST_SIGNS" 20).ok K = true),
  fun K => decide ((He.Fa.int "MOST_STANDS" 5).ok K = true),
  fun K => decide ((He.Fa.int "MOST_WRITTEN" 5000).ok K = true),
  fun K => decide (PySem.W.nsIn K mainGlobals "EmptyKind" = some (some (.ref (He.ga K "EmptyKind")))),
  fun K => decide (PySem.W.findIn K (.ref (He.ga K "EmptyKind")) "__init__" = some (some (.ref (He.ma K (He.ga K "EmptyKind") "__init__")))),
  fun K => decide (Dn.exnB K (He.ga K "EmptyKind") (He.ma K (He.ga K "EmptyKind") "__init__") [.type "LookupError", .type "Exception", .type "BaseException", .type "object"] "LookupError.__new__" ["kind"] = true),
  fun K => decide (PySem.W.nsIn K mainGlobals "InvalidConstructors" = some (some (.ref (He.ga K "InvalidConstructors"))))]
def fas1 : List (PySem.W.Frag → Bool) := [fun K => decide (PySem.W.findIn K (.ref (He.ga K "InvalidConstructors")) "__init__" = some (some (.ref (He.ma K (He.ga K "InvalidConstructors") "__init__")))),
  fun K => decide (Dn.exnB K (He.ga K "InvalidConstructors") (He.ma K (He.ga K "InvalidConstructors") "__init__") [.type "ValueError", .type "Exception", .type "BaseException", .type "object"] "ValueError.__new__" ["index"] = true),
  fun K => decide (PySem.W.nsIn K mainGlobals "InvalidDeed" = some (some (.ref (He.ga K "InvalidDeed")))),
  fun K => decide (PySem.W.findIn K (.ref (He.ga K "InvalidDeed")) "__init__" = some (some (.ref (He.ma K (He.ga K "InvalidDeed") "__init__")))),
  fun K => decide (Dn.exnB K (He.ga K "InvalidDeed") (He.ma K (He.ga K "InvalidDeed") "__init__") [.type "ValueError", .type "Exception", .type "BaseException", .type "object"] "ValueError.__new__" ["index"] = true),
  fun K => decide (PySem.W.nsIn K mainGlobals "InvalidFields" = some (some (.ref (He.ga K "InvalidFields")))),
  fun K => decide (PySem.W.findIn K (.ref (He.ga K "InvalidFields")) "__init__" = some (some (.ref (He.ma K (He.ga K "InvalidFields") "__init__")))),
  fun K => decide (Dn.exnB K (He.ga K "InvalidFields") (He.ma K (He.ga K "InvalidFields") "__init__") [.type "ValueError", .type "Exception", .type "BaseException", .type "object"] "ValueError.__new__" ["index"] = true),
  fun K => decide (PySem.W.nsIn K mainGlobals "InvalidGood" = some (some (.ref (He.ga K "InvalidGood")))),
  fun K => decide (PySem.W.findIn K (.ref (He.ga K "InvalidGood")) "__init__" = some (some (.ref (He.ma K (He.ga K "InvalidGood") "__init__")))),
  fun K => decide (Dn.exnB K (He.ga K "InvalidGood") (He.ma K (He.ga K "InvalidGood") "__init__") [.type "ValueError", .type "Exception", .type "BaseException", .type "object"] "ValueError.__new__" ["index"] = true),
  fun K => decide (PySem.W.nsIn K mainGlobals "InvalidKinds" = some (some (.ref (He.ga K "InvalidKinds")))),
  fun K => decide (PySem.W.findIn K (.ref (He.ga K "InvalidKinds")) "__init__" = some (some (.ref (He.ma K (He.ga K "InvalidKinds") "__init__")))),
  fun K => decide (Dn.exnB K (He.ga K "InvalidKinds") (He.ma K (He.ga K "InvalidKinds") "__init__") [.type "ValueError", .type "Exception", .type "BaseException", .type "object"] "ValueError.__new__" ["index"] = true),
  fun K => decide (PySem.W.nsIn K mainGlobals "InvalidLine" = some (some (.ref (He.ga K "InvalidLine")))),
  fun K => decide (PySem.W.findIn K (.ref (He.ga K "InvalidLine")) "__init__" = some (some (.ref (He.ma K (He.ga K "InvalidLine") "__init__")))),
  fun K => decide (Dn.exnB K (He.ga K "InvalidLine") (He.ma K (He.ga K "InvalidLine") "__init__") [.type "ValueError", .type "Exception", .type "BaseException", .type "object"] "ValueError.__new__" ["value"] = true),
  fun K => decide (PySem.W.nsIn K mainGlobals "InvalidMoves" = some (some (.ref (He.ga K "InvalidMoves")))),
  fun K => decide (PySem.W.findIn K (.ref (He.ga K "InvalidMoves")) "__init__" = some (some (.ref (He.ma K (He.ga K "InvalidMoves") "__init__")))),
  fun K => decide (Dn.exnB K (He.ga K "InvalidMoves") (He.ma K (He.ga K "InvalidMoves") "__init__") [.type "ValueError", .type "Exception", .type "BaseException", .type "object"] "ValueError.__new__" ["index"] = true),
  fun K => decide (PySem.W.nsIn K mainGlobals "InvalidNumber" = some (some (.ref (He.ga K "InvalidNumber")))),
  fun K => decide (PySem.W.findIn K (.ref (He.ga K "InvalidNumber")) "__init__" = some (some (.ref (He.ma K (He.ga K "InvalidNumber") "__init__")))),
  fun K => decide (Dn.exnB K (He.ga K "InvalidNumber") (He.ma K (He.ga K "InvalidNumber") "__init__") [.type "ValueError", .type "Exception", .type "BaseException", .type "object"] "ValueError.__new__" ["value"] = true),
  fun K => decide (PySem.W.nsIn K mainGlobals "InvalidPath" = some (some (.ref (He.ga K "InvalidPath")))),
  fun K => decide (PySem.W.findIn K (.ref (He.ga K "InvalidPath")) "__init__" = some (some (.ref (He.ma K (He.ga K "InvalidPath") "__init__")))),
  fun K => decide (Dn.exnB K (He.ga K "InvalidPath") (He.ma K (He.ga K "InvalidPath") "__init__") [.type "ValueError", .type "Exception", .type "BaseException", .type "object"] "ValueError.__new__" ["value"] = true),
  fun K => decide (PySem.W.nsIn K mainGlobals "InvalidRows" = some (some (.ref (He.ga K "InvalidRows")))),
  fun K => decide (PySem.W.findIn K (.ref (He.ga K "InvalidRows")) "__init__" = some (some (.ref (He.ma K (He.ga K "InvalidRows") "__init__")))),
  fun K => decide (Dn.exnB K (He.ga K "InvalidRows") (He.ma K (He.ga K "InvalidRows") "__init__") [.type "ValueError", .type "Exception", .type "BaseException", .type "object"] "ValueError.__new__" ["index"] = true),
  fun K => decide (PySem.W.nsIn K mainGlobals "InvalidRules" = some (some (.ref (He.ga K "InvalidRules"))))]
def fas2 : List (PySem.W.Frag → Bool) := [fun K => decide (PySem.W.findIn K (.ref (He.ga K "InvalidRules")) "__init__" = some (some (.ref (He.ma K (He.ga K "InvalidRules") "__init__")))),
  fun K => decide (Dn.exnB K (He.ga K "InvalidRules") (He.ma K (He.ga K "InvalidRules") "__init__") [.type "ValueError", .type "Exception", .type "BaseException", .type "object"] "ValueError.__new__" ["index"] = true),
  fun K => decide (PySem.W.nsIn K mainGlobals "InvalidSigns" = some (some (.ref (He.ga K "InvalidSigns")))),
  fun K => decide (PySem.W.findIn K (.ref (He.ga K "InvalidSigns")) "__init__" = some (some (.ref (He.ma K (He.ga K "InvalidSigns") "__init__")))),
  fun K => decide (Dn.exnB K (He.ga K "InvalidSigns") (He.ma K (He.ga K "InvalidSigns") "__init__") [.type "ValueError", .type "Exception", .type "BaseException", .type "object"] "ValueError.__new__" ["index"] = true),
  fun K => decide (PySem.W.nsIn K mainGlobals "InvalidStart" = some (some (.ref (He.ga K "InvalidStart")))),
  fun K => decide (PySem.W.findIn K (.ref (He.ga K "InvalidStart")) "__init__" = some (some (.ref (He.ma K (He.ga K "InvalidStart") "__init__")))),
  fun K => decide (Dn.exnB K (He.ga K "InvalidStart") (He.ma K (He.ga K "InvalidStart") "__init__") [.type "ValueError", .type "Exception", .type "BaseException", .type "object"] "ValueError.__new__" ["value"] = true),
  fun K => decide (PySem.W.nsIn K mainGlobals "InvalidString" = some (some (.ref (He.ga K "InvalidString")))),
  fun K => decide (PySem.W.findIn K (.ref (He.ga K "InvalidString")) "__init__" = some (some (.ref (He.ma K (He.ga K "InvalidString") "__init__")))),
  fun K => decide (Dn.exnB K (He.ga K "InvalidString") (He.ma K (He.ga K "InvalidString") "__init__") [.type "ValueError", .type "Exception", .type "BaseException", .type "object"] "ValueError.__new__" ["value"] = true),
  fun K => decide (PySem.W.nsIn K mainGlobals "InvalidText" = some (some (.ref (He.ga K "InvalidText")))),
  fun K => decide (PySem.W.findIn K (.ref (He.ga K "InvalidText")) "__init__" = some (some (.ref (He.ma K (He.ga K "InvalidText") "__init__")))),
  fun K => decide (Dn.exnB K (He.ga K "InvalidText") (He.ma K (He.ga K "InvalidText") "__init__") [.type "ValueError", .type "Exception", .type "BaseException", .type "object"] "ValueError.__new__" ["value"] = true),
  fun K => decide (PySem.W.nsIn K mainGlobals "InvalidTree" = some (some (.ref (He.ga K "InvalidTree")))),
  fun K => decide (PySem.W.findIn K (.ref (He.ga K "InvalidTree")) "__init__" = some (some (.ref (He.ma K (He.ga K "InvalidTree") "__init__")))),
  fun K => decide (Dn.exnB K (He.ga K "InvalidTree") (He.ma K (He.ga K "InvalidTree") "__init__") [.type "ValueError", .type "Exception", .type "BaseException", .type "object"] "ValueError.__new__" ["value"] = true),
  fun K => decide (PySem.W.nsIn K mainGlobals "InvalidWriters" = some (some (.ref (He.ga K "InvalidWriters")))),
  fun K => decide (PySem.W.findIn K (.ref (He.ga K "InvalidWriters")) "__init__" = some (some (.ref (He.ma K (He.ga K "InvalidWriters") "__init__")))),
  fun K => decide (Dn.exnB K (He.ga K "InvalidWriters") (He.ma K (He.ga K "InvalidWriters") "__init__") [.type "ValueError", .type "Exception", .type "BaseException", .type "object"] "ValueError.__new__" ["index"] = true),
  fun K => decide (PySem.W.nsIn K mainGlobals "MissingRule" = some (some (.ref (He.ga K "MissingRule")))),
  fun K => decide (PySem.W.findIn K (.ref (He.ga K "MissingRule")) "__init__" = some (some (.ref (He.ma K (He.ga K "MissingRule") "__init__")))),
  fun K => decide (Dn.exnB K (He.ga K "MissingRule") (He.ma K (He.ga K "MissingRule") "__init__") [.type "LookupError", .type "Exception", .type "BaseException", .type "object"] "LookupError.__new__" ["mode", "name"] = true),
  fun K => decide (PySem.W.nsIn K mainGlobals "NotAPattern" = some (some (.ref (He.ga K "NotAPattern")))),
  fun K => decide (PySem.W.findIn K (.ref (He.ga K "NotAPattern")) "__init__" = some (some (.ref (He.ma K (He.ga K "NotAPattern") "__init__")))),
  fun K => decide (Dn.exnB K (He.ga K "NotAPattern") (He.ma K (He.ga K "NotAPattern") "__init__") [.type "ValueError", .type "Exception", .type "BaseException", .type "object"] "ValueError.__new__" ["value"] = true),
  fun K => decide (PySem.W.nsIn K mainGlobals "NotASchema" = some (some (.ref (He.ga K "NotASchema")))),
  fun K => decide (PySem.W.findIn K (.ref (He.ga K "NotASchema")) "__init__" = some (some (.ref (He.ma K (He.ga K "NotASchema") "__init__")))),
  fun K => decide (Dn.exnB K (He.ga K "NotASchema") (He.ma K (He.ga K "NotASchema") "__init__") [.type "ValueError", .type "Exception", .type "BaseException", .type "object"] "ValueError.__new__" ["value"] = true),
  fun K => decide (PySem.W.nsIn K mainGlobals "NotATree" = some (some (.ref (He.ga K "NotATree"))))]
def fas3 : List (PySem.W.Frag → Bool) := [fun K => decide (PySem.W.findIn K (.ref (He.ga K "NotATree")) "__init__" = some (some (.ref (He.ma K (He.ga K "NotATree") "__init__")))),
  fun K => decide (Dn.exnB K (He.ga K "NotATree") (He.ma K (He.ga K "NotATree") "__init__") [.type "ValueError", .type "Exception", .type "BaseException", .type "object"] "ValueError.__new__" ["value"] = true),
  fun K => decide (PySem.W.nsIn K mainGlobals "NotAWriter" = some (some (.ref (He.ga K "NotAWriter")))),
  fun K => decide (PySem.W.findIn K (.ref (He.ga K "NotAWriter")) "__init__" = some (some (.ref (He.ma K (He.ga K "NotAWriter") "__init__")))),
  fun K => decide (Dn.exnB K (He.ga K "NotAWriter") (He.ma K (He.ga K "NotAWriter") "__init__") [.type "ValueError", .type "Exception", .type "BaseException", .type "object"] "ValueError.__new__" ["value"] = true),
  fun K => decide (PySem.W.nsIn K mainGlobals "Refused" = some (some (.ref (He.ga K "Refused")))),
  fun K => decide (PySem.W.findIn K (.ref (He.ga K "Refused")) "__init__" = some (some (.ref (He.ma K (He.ga K "Refused") "__init__")))),
  fun K => decide (Dn.exnB K (He.ga K "Refused") (He.ma K (He.ga K "Refused") "__init__") [.type "LookupError", .type "Exception", .type "BaseException", .type "object"] "LookupError.__new__" ["deed", "tree"] = true),
  fun K => decide (PySem.W.nsIn K mainGlobals "TooLong" = some (some (.ref (He.ga K "TooLong")))),
  fun K => decide (PySem.W.findIn K (.ref (He.ga K "TooLong")) "__init__" = some (some (.ref (He.ma K (He.ga K "TooLong") "__init__")))),
  fun K => decide (Dn.exnB K (He.ga K "TooLong") (He.ma K (He.ga K "TooLong") "__init__") [.type "ArithmeticError", .type "Exception", .type "BaseException", .type "object"] "ArithmeticError.__new__" ["found"] = true),
  fun K => decide (PySem.W.nsIn K mainGlobals "TooManyDeeds" = some (some (.ref (He.ga K "TooManyDeeds")))),
  fun K => decide (PySem.W.findIn K (.ref (He.ga K "TooManyDeeds")) "__init__" = some (some (.ref (He.ma K (He.ga K "TooManyDeeds") "__init__")))),
  fun K => decide (Dn.exnB K (He.ga K "TooManyDeeds") (He.ma K (He.ga K "TooManyDeeds") "__init__") [.type "ArithmeticError", .type "Exception", .type "BaseException", .type "object"] "ArithmeticError.__new__" ["limit"] = true),
  fun K => decide (PySem.W.nsIn K mainGlobals "TooManyFaces" = some (some (.ref (He.ga K "TooManyFaces")))),
  fun K => decide (PySem.W.findIn K (.ref (He.ga K "TooManyFaces")) "__init__" = some (some (.ref (He.ma K (He.ga K "TooManyFaces") "__init__")))),
  fun K => decide (Dn.exnB K (He.ga K "TooManyFaces") (He.ma K (He.ga K "TooManyFaces") "__init__") [.type "ArithmeticError", .type "Exception", .type "BaseException", .type "object"] "ArithmeticError.__new__" ["limit"] = true),
  fun K => decide (PySem.W.nsIn K mainGlobals "TooManyJoins" = some (some (.ref (He.ga K "TooManyJoins")))),
  fun K => decide (PySem.W.findIn K (.ref (He.ga K "TooManyJoins")) "__init__" = some (some (.ref (He.ma K (He.ga K "TooManyJoins") "__init__")))),
  fun K => decide (Dn.exnB K (He.ga K "TooManyJoins") (He.ma K (He.ga K "TooManyJoins") "__init__") [.type "ArithmeticError", .type "Exception", .type "BaseException", .type "object"] "ArithmeticError.__new__" ["limit"] = true),
  fun K => decide (PySem.W.nsIn K mainGlobals "TooManyRows" = some (some (.ref (He.ga K "TooManyRows")))),
  fun K => decide (PySem.W.findIn K (.ref (He.ga K "TooManyRows")) "__init__" = some (some (.ref (He.ma K (He.ga K "TooManyRows") "__init__")))),
  fun K => decide (Dn.exnB K (He.ga K "TooManyRows") (He.ma K (He.ga K "TooManyRows") "__init__") [.type "ArithmeticError", .type "Exception", .type "BaseException", .type "object"] "ArithmeticError.__new__" ["limit"] = true),
  fun K => decide (PySem.W.nsIn K mainGlobals "UnknownConstructor" = some (some (.ref (He.ga K "UnknownConstructor")))),
  fun K => decide (PySem.W.findIn K (.ref (He.ga K "UnknownConstructor")) "__init__" = some (some (.ref (He.ma K (He.ga K "UnknownConstructor") "__init__")))),
  fun K => decide (Dn.exnB K (He.ga K "UnknownConstructor") (He.ma K (He.ga K "UnknownConstructor") "__init__") [.type "ValueError", .type "Exception", .type "BaseException", .type "object"] "ValueError.__new__" ["value"] = true),
  fun K => decide (PySem.W.nsIn K mainGlobals "UnknownKind" = some (some (.ref (He.ga K "UnknownKind")))),
  fun K => decide (PySem.W.findIn K (.ref (He.ga K "UnknownKind")) "__init__" = some (some (.ref (He.ma K (He.ga K "UnknownKind") "__init__")))),
  fun K => decide (Dn.exnB K (He.ga K "UnknownKind") (He.ma K (He.ga K "UnknownKind") "__init__") [.type "ValueError", .type "Exception", .type "BaseException", .type "object"] "ValueError.__new__" ["value"] = true),
  fun K => decide (PySem.W.nsIn K mainGlobals "UnknownMode" = some (some (.ref (He.ga K "UnknownMode"))))]
def fas4 : List (PySem.W.Frag → Bool) := [fun K => decide (PySem.W.findIn K (.ref (He.ga K "UnknownMode")) "__init__" = some (some (.ref (He.ma K (He.ga K "UnknownMode") "__init__")))),
  fun K => decide (Dn.exnB K (He.ga K "UnknownMode") (He.ma K (He.ga K "UnknownMode") "__init__") [.type "ValueError", .type "Exception", .type "BaseException", .type "object"] "ValueError.__new__" ["value"] = true),
  fun K => decide (PySem.W.nsIn K mainGlobals "Unlike" = some (some (.ref (He.ga K "Unlike")))),
  fun K => decide (PySem.W.findIn K (.ref (He.ga K "Unlike")) "__init__" = some (some (.ref (He.ma K (He.ga K "Unlike") "__init__")))),
  fun K => decide (Dn.exnB K (He.ga K "Unlike") (He.ma K (He.ga K "Unlike") "__init__") [.type "LookupError", .type "Exception", .type "BaseException", .type "object"] "LookupError.__new__" ["tree"] = true),
  fun K => decide (PySem.W.nsIn K mainGlobals "Busy" = some (some (.ref (He.ga K "Busy")))),
  fun K => decide (Dn.exzB K (He.ga K "Busy") [.type "LookupError", .type "Exception", .type "BaseException", .type "object"] "LookupError.__new__" "LookupError.__init__" = true),
  fun K => decide (PySem.W.nsIn K mainGlobals "NothingToUndo" = some (some (.ref (He.ga K "NothingToUndo")))),
  fun K => decide (Dn.exzB K (He.ga K "NothingToUndo") [.type "LookupError", .type "Exception", .type "BaseException", .type "object"] "LookupError.__new__" "LookupError.__init__" = true),
  fun K => decide (PySem.W.nsIn K mainGlobals "OtherSchema" = some (some (.ref (He.ga K "OtherSchema")))),
  fun K => decide (Dn.exzB K (He.ga K "OtherSchema") [.type "LookupError", .type "Exception", .type "BaseException", .type "object"] "LookupError.__new__" "LookupError.__init__" = true),
  fun K => decide (PySem.W.nsIn K mainGlobals "LimitError" = some (some (.ref (He.ga K "LimitError")))),
  fun K => decide (PySem.W.nsIn K mainGlobals "StateError" = some (some (.ref (He.ga K "StateError")))),
  fun K => decide (PySem.W.nsIn K mainGlobals "TreeError" = some (some (.ref (He.ga K "TreeError")))),
  fun K => decide (PySem.W.nsIn K mainGlobals "ArithmeticError" = some none),
  fun K => decide (PySem.W.nsIn K mainGlobals "LookupError" = some none),
  fun K => decide (PySem.W.nsIn K mainGlobals "ValueError" = some none),
  fun K => decide (Dn.excTab K [(("Busy", (He.ga K "Busy")) : Str × Addr), (("EmptyKind", (He.ga K "EmptyKind")) : Str × Addr), (("InvalidConstructors", (He.ga K "InvalidConstructors")) : Str × Addr), (("InvalidDeed", (He.ga K "InvalidDeed")) : Str × Addr), (("InvalidFields", (He.ga K "InvalidFields")) : Str × Addr), (("InvalidGood", (He.ga K "InvalidGood")) : Str × Addr), (("InvalidKinds", (He.ga K "InvalidKinds")) : Str × Addr), (("InvalidLine", (He.ga K "InvalidLine")) : Str × Addr), (("InvalidMoves", (He.ga K "InvalidMoves")) : Str × Addr), (("InvalidNumber", (He.ga K "InvalidNumber")) : Str × Addr), (("InvalidPath", (He.ga K "InvalidPath")) : Str × Addr), (("InvalidRows", (He.ga K "InvalidRows")) : Str × Addr), (("InvalidRules", (He.ga K "InvalidRules")) : Str × Addr), (("InvalidSigns", (He.ga K "InvalidSigns")) : Str × Addr), (("InvalidStart", (He.ga K "InvalidStart")) : Str × Addr), (("InvalidString", (He.ga K "InvalidString")) : Str × Addr), (("InvalidText", (He.ga K "InvalidText")) : Str × Addr), (("InvalidTree", (He.ga K "InvalidTree")) : Str × Addr), (("InvalidWriters", (He.ga K "InvalidWriters")) : Str × Addr), (("MissingRule", (He.ga K "MissingRule")) : Str × Addr), (("NotAPattern", (He.ga K "NotAPattern")) : Str × Addr), (("NotASchema", (He.ga K "NotASchema")) : Str × Addr), (("NotATree", (He.ga K "NotATree")) : Str × Addr), (("NotAWriter", (He.ga K "NotAWriter")) : Str × Addr), (("NothingToUndo", (He.ga K "NothingToUndo")) : Str × Addr), (("OtherSchema", (He.ga K "OtherSchema")) : Str × Addr), (("Refused", (He.ga K "Refused")) : Str × Addr), (("TooLong", (He.ga K "TooLong")) : Str × Addr), (("TooManyDeeds", (He.ga K "TooManyDeeds")) : Str × Addr), (("TooManyFaces", (He.ga K "TooManyFaces")) : Str × Addr), (("TooManyJoins", (He.ga K "TooManyJoins")) : Str × Addr), (("TooManyRows", (He.ga K "TooManyRows")) : Str × Addr), (("UnknownConstructor", (He.ga K "UnknownConstructor")) : Str × Addr), (("UnknownKind", (He.ga K "UnknownKind")) : Str × Addr), (("UnknownMode", (He.ga K "UnknownMode")) : Str × Addr), (("Unlike", (He.ga K "Unlike")) : Str × Addr)] xTab [(("Busy", .ref (He.ga K "Busy")) : Str × Value), (("EmptyKind", .ref (He.ga K "EmptyKind")) : Str × Value), (("InvalidConstructors", .ref (He.ga K "InvalidConstructors")) : Str × Value), (("InvalidDeed", .ref (He.ga K "InvalidDeed")) : Str × Value), (("InvalidFields", .ref (He.ga K "InvalidFields")) : Str × Value), (("InvalidGood", .ref (He.ga K "InvalidGood")) : Str × Value), (("InvalidKinds", .ref (He.ga K "InvalidKinds")) : Str × Value), (("InvalidLine", .ref (He.ga K "InvalidLine")) : Str × Value), (("InvalidMoves", .ref (He.ga K "InvalidMoves")) : Str × Value), (("InvalidNumber", .ref (He.ga K "InvalidNumber")) : Str × Value), (("InvalidPath", .ref (He.ga K "InvalidPath")) : Str × Value), (("InvalidRows", .ref (He.ga K "InvalidRows")) : Str × Value), (("InvalidRules", .ref (He.ga K "InvalidRules")) : Str × Value), (("InvalidSigns", .ref (He.ga K "InvalidSigns")) : Str × Value), (("InvalidStart", .ref (He.ga K "InvalidStart")) : Str × Value), (("InvalidString", .ref (He.ga K "InvalidString")) : Str × Value), (("InvalidText", .ref (He.ga K "InvalidText")) : Str × Value), (("InvalidTree", .ref (He.ga K "InvalidTree")) : Str × Value), (("InvalidWriters", .ref (He.ga K "InvalidWriters")) : Str × Value), (("LimitError", .ref (He.ga K "LimitError")) : Str × Value), (("MissingRule", .ref (He.ga K "MissingRule")) : Str × Value), (("NotAPattern", .ref (He.ga K "NotAPattern")) : Str × Value), (("NotASchema", .ref (He.ga K "NotASchema")) : Str × Value), (("NotATree", .ref (He.ga K "NotATree")) : Str × Value), (("NotAWriter", .ref (He.ga K "NotAWriter")) : Str × Value), (("NothingToUndo", .ref (He.ga K "NothingToUndo")) : Str × Value), (("OtherSchema", .ref (He.ga K "OtherSchema")) : Str × Value), (("Refused", .ref (He.ga K "Refused")) : Str × Value), (("StateError", .ref (He.ga K "StateError")) : Str × Value), (("TooLong", .ref (He.ga K "TooLong")) : Str × Value), (("TooManyDeeds", .ref (He.ga K "TooManyDeeds")) : Str × Value), (("TooManyFaces", .ref (He.ga K "TooManyFaces")) : Str × Value), (("TooManyJoins", .ref (He.ga K "TooManyJoins")) : Str × Value), (("TooManyRows", .ref (He.ga K "TooManyRows")) : Str × Value), (("TreeError", .ref (He.ga K "TreeError")) : Str × Value), (("UnknownConstructor", .ref (He.ga K "UnknownConstructor")) : Str × Value), (("UnknownKind", .ref (He.ga K "UnknownKind")) : Str × Value), (("UnknownMode", .ref (He.ga K "UnknownMode")) : Str × Value), (("Unlike", .ref (He.ga K "Unlike")) : Str × Value), (("ArithmeticError", .type "ArithmeticError") : Str × Value), (("LookupError", .type "LookupError") : Str × Value), (("ValueError", .type "ValueError") : Str × Value)] = true),
  fun K => decide (PySem.W.nsIn K mainGlobals "_law_number" = some (some (.ref (He.ga K "_law_number")))),
  fun K => decide (PySem.W.keepIn K (.ref (He.ga K "_law_number")) = true),
  fun K => decide (PySem.W.nsIn K mainGlobals "_law_deal" = some (some (.ref (He.ga K "_law_deal")))),
  fun K => decide (PySem.W.keepIn K (.ref (He.ga K "_law_deal")) = true),
  fun K => decide (PySem.W.nsIn K mainGlobals "_law_pick" = some (some (.ref (He.ga K "_law_pick")))),
  fun K => decide (PySem.W.keepIn K (.ref (He.ga K "_law_pick")) = true),
  fun K => decide (PySem.W.nsIn K mainGlobals "_law_values" = some (some (.ref (He.ga K "_law_values")))),
  fun K => decide (PySem.W.keepIn K (.ref (He.ga K "_law_values")) = true),
  fun K => decide (PySem.W.nsIn K mainGlobals "_law_named_values" = some (some (.ref (He.ga K "_law_named_values")))),
  fun K => decide (PySem.W.keepIn K (.ref (He.ga K "_law_named_values")) = true),
  fun K => decide (PySem.W.nsIn K mainGlobals "_law_indexes" = some (some (.ref (He.ga K "_law_indexes")))),
  fun K => decide (PySem.W.keepIn K (.ref (He.ga K "_law_indexes")) = true)]
def fas5 : List (PySem.W.Frag → Bool) := [fun K => decide (PySem.W.nsIn K mainGlobals "_law_named_indexes" = some (some (.ref (He.ga K "_law_named_indexes")))),
  fun K => decide (PySem.W.keepIn K (.ref (He.ga K "_law_named_indexes")) = true),
  fun K => decide (PySem.W.nsIn K mainGlobals "_law_tops" = some (some (.ref (He.ga K "_law_tops")))),
  fun K => decide (PySem.W.keepIn K (.ref (He.ga K "_law_tops")) = true),
  fun K => decide (PySem.W.nsIn K mainGlobals "_law_classes" = some (some (.ref (He.ga K "_law_classes")))),
  fun K => decide (PySem.W.keepIn K (.ref (He.ga K "_law_classes")) = true),
  fun K => decide (PySem.W.nsIn K mainGlobals "_law_kin" = some (some (.ref (He.ga K "_law_kin")))),
  fun K => decide (PySem.W.keepIn K (.ref (He.ga K "_law_kin")) = true),
  fun K => decide (PySem.W.nsIn K mainGlobals "_law_other_right" = some (some (.ref (He.ga K "_law_other_right")))),
  fun K => decide (PySem.W.keepIn K (.ref (He.ga K "_law_other_right")) = true),
  fun K => decide (PySem.W.nsIn K mainGlobals "_law_right" = some (some (.ref (He.ga K "_law_right")))),
  fun K => decide (PySem.W.keepIn K (.ref (He.ga K "_law_right")) = true),
  fun K => decide (PySem.W.nsIn K mainGlobals "law" = some (some (.ref (He.ga K "law")))),
  fun K => decide (PySem.W.keepIn K (.ref (He.ga K "law")) = true)]
def fas : List (List (PySem.W.Frag → Bool)) := [fas0, fas1, fas2, fas3, fas4, fas5]
abbrev fn0 : Hf.FnP := ⟨fun K => (He.ma K (He.ga K "EmptyKind") "__init__"), "__init__", "EmptyKind.__init__", defArgs (inClass (top 28) 0), defBody (inClass (top 28) 0), defScope (inClass (top 28) 0)⟩
abbrev fn1 : Hf.FnP := ⟨fun K => (He.ma K (He.ga K "InvalidConstructors") "__init__"), "__init__", "InvalidConstructors.__init__", defArgs (inClass (top 19) 0), defBody (inClass (top 19) 0), defScope (inClass (top 19) 0)⟩
abbrev fn2 : Hf.FnP := ⟨fun K => (He.ma K (He.ga K "InvalidDeed") "__init__"), "__init__", "InvalidDeed.__init__", defArgs (inClass (top 26) 0), defBody (inClass (top 26) 0), defScope (inClass (top 26) 0)⟩
abbrev fn3 : Hf.FnP := ⟨fun K => (He.ma K (He.ga K "InvalidFields") "__init__"), "__init__", "InvalidFields.__init__", defArgs (inClass (top 20) 0), defBody (inClass (top 20) 0), defScope (inClass (top 20) 0)⟩
abbrev fn4 : Hf.FnP := ⟨fun K => (He.ma K (He.ga K "InvalidGood") "__init__"), "__init__", "InvalidGood.__init__", defArgs (inClass (top 24) 0), defBody (inClass (top 24) 0), defScope (inClass (top 24) 0)⟩
abbrev fn5 : Hf.FnP := ⟨fun K => (He.ma K (He.ga K "InvalidKinds") "__init__"), "__init__", "InvalidKinds.__init__", defArgs (inClass (top 18) 0), defBody (inClass (top 18) 0), defScope (inClass (top 18) 0)⟩
abbrev fn6 : Hf.FnP := ⟨fun K => (He.ma K (He.ga K "InvalidLine") "__init__"), "__init__", "InvalidLine.__init__", defArgs (inClass (top 17) 0), defBody (inClass (top 17) 0), defScope (inClass (top 17) 0)⟩
abbrev fn7 : Hf.FnP := ⟨fun K => (He.ma K (He.ga K "InvalidMoves") "__init__"), "__init__", "InvalidMoves.__init__", defArgs (inClass (top 25) 0), defBody (inClass (top 25) 0), defScope (inClass (top 25) 0)⟩
abbrev fn8 : Hf.FnP := ⟨fun K => (He.ma K (He.ga K "InvalidNumber") "__init__"), "__init__", "InvalidNumber.__init__", defArgs (inClass (top 14) 0), defBody (inClass (top 14) 0), defScope (inClass (top 14) 0)⟩
abbrev fn9 : Hf.FnP := ⟨fun K => (He.ma K (He.ga K "InvalidPath") "__init__"), "__init__", "InvalidPath.__init__", defArgs (inClass (top 12) 0), defBody (inClass (top 12) 0), defScope (inClass (top 12) 0)⟩
abbrev fn10 : Hf.FnP := ⟨fun K => (He.ma K (He.ga K "InvalidRows") "__init__"), "__init__", "InvalidRows.__init__", defArgs (inClass (top 21) 0), defBody (inClass (top 21) 0), defScope (inClass (top 21) 0)⟩
abbrev fn11 : Hf.FnP := ⟨fun K => (He.ma K (He.ga K "InvalidRules") "__init__"), "__init__", "InvalidRules.__init__", defArgs (inClass (top 22) 0), defBody (inClass (top 22) 0), defScope (inClass (top 22) 0)⟩
abbrev fn12 : Hf.FnP := ⟨fun K => (He.ma K (He.ga K "InvalidSigns") "__init__"), "__init__", "InvalidSigns.__init__", defArgs (inClass (top 23) 0), defBody (inClass (top 23) 0), defScope (inClass (top 23) 0)⟩
abbrev fn13 : Hf.FnP := ⟨fun K => (He.ma K (He.ga K "InvalidStart") "__init__"), "__init__", "InvalidStart.__init__", defArgs (inClass (top 15) 0), defBody (inClass (top 15) 0), defScope (inClass (top 15) 0)⟩
abbrev fn14 : Hf.FnP := ⟨fun K => (He.ma K (He.ga K "InvalidString") "__init__"), "__init__", "InvalidString.__init__", defArgs (inClass (top 16) 0), defBody (inClass (top 16) 0), defScope (inClass (top 16) 0)⟩
abbrev fn15 : Hf.FnP := ⟨fun K => (He.ma K (He.ga K "InvalidText") "__init__"), "__init__", "InvalidText.__init__", defArgs (inClass (top 11) 0), defBody (inClass (top 11) 0), defScope (inClass (top 11) 0)⟩
abbrev fn16 : Hf.FnP := ⟨fun K => (He.ma K (He.ga K "InvalidTree") "__init__"), "__init__", "InvalidTree.__init__", defArgs (inClass (top 13) 0), defBody (inClass (top 13) 0), defScope (inClass (top 13) 0)⟩
abbrev fn17 : Hf.FnP := ⟨fun K => (He.ma K (He.ga K "InvalidWriters") "__init__"), "__init__", "InvalidWriters.__init__", defArgs (inClass (top 27) 0), defBody (inClass (top 27) 0), defScope (inClass (top 27) 0)⟩
abbrev fn18 : Hf.FnP := ⟨fun K => (He.ma K (He.ga K "MissingRule") "__init__"), "__init__", "MissingRule.__init__", defArgs (inClass (top 29) 0), defBody (inClass (top 29) 0), defScope (inClass (top 29) 0)⟩
abbrev fn19 : Hf.FnP := ⟨fun K => (He.ma K (He.ga K "NotAPattern") "__init__"), "__init__", "NotAPattern.__init__", defArgs (inClass (top 7) 0), defBody (inClass (top 7) 0), defScope (inClass (top 7) 0)⟩
abbrev fn20 : Hf.FnP := ⟨fun K => (He.ma K (He.ga K "NotASchema") "__init__"), "__init__", "NotASchema.__init__", defArgs (inClass (top 4) 0), defBody (inClass (top 4) 0), defScope (inClass (top 4) 0)⟩
abbrev fn21 : Hf.FnP := ⟨fun K => (He.ma K (He.ga K "NotATree") "__init__"), "__init__", "NotATree.__init__", defArgs (inClass (top 5) 0), defBody (inClass (top 5) 0), defScope (inClass (top 5) 0)⟩
abbrev fn22 : Hf.FnP := ⟨fun K => (He.ma K (He.ga K "NotAWriter") "__init__"), "__init__", "NotAWriter.__init__", defArgs (inClass (top 6) 0), defBody (inClass (top 6) 0), defScope (inClass (top 6) 0)⟩
abbrev fn23 : Hf.FnP := ⟨fun K => (He.ma K (He.ga K "Refused") "__init__"), "__init__", "Refused.__init__", defArgs (inClass (top 31) 0), defBody (inClass (top 31) 0), defScope (inClass (top 31) 0)⟩
abbrev fn24 : Hf.FnP := ⟨fun K => (He.ma K (He.ga K "TooLong") "__init__"), "__init__", "TooLong.__init__", defArgs (inClass (top 39) 0), defBody (inClass (top 39) 0), defScope (inClass (top 39) 0)⟩
abbrev fn25 : Hf.FnP := ⟨fun K => (He.ma K (He.ga K "TooManyDeeds") "__init__"), "__init__", "TooManyDeeds.__init__", defArgs (inClass (top 38) 0), defBody (inClass (top 38) 0), defScope (inClass (top 38) 0)⟩
abbrev fn26 : Hf.FnP := ⟨fun K => (He.ma K (He.ga K "TooManyFaces") "__init__"), "__init__", "TooManyFaces.__init__", defArgs (inClass (top 37) 0), defBody (inClass (top 37) 0), defScope (inClass (top 37) 0)⟩
abbrev fn27 : Hf.FnP := ⟨fun K => (He.ma K (He.ga K "TooManyJoins") "__init__"), "__init__", "TooManyJoins.__init__", defArgs (inClass (top 36) 0), defBody (inClass (top 36) 0), defScope (inClass (top 36) 0)⟩
abbrev fn28 : Hf.FnP := ⟨fun K => (He.ma K (He.ga K "TooManyRows") "__init__"), "__init__", "TooManyRows.__init__", defArgs (inClass (top 35) 0), defBody (inClass (top 35) 0), defScope (inClass (top 35) 0)⟩
abbrev fn29 : Hf.FnP := ⟨fun K => (He.ma K (He.ga K "UnknownConstructor") "__init__"), "__init__", "UnknownConstructor.__init__", defArgs (inClass (top 9) 0), defBody (inClass (top 9) 0), defScope (inClass (top 9) 0)⟩
abbrev fn30 : Hf.FnP := ⟨fun K => (He.ma K (He.ga K "UnknownKind") "__init__"), "__init__", "UnknownKind.__init__", defArgs (inClass (top 8) 0), defBody (inClass (top 8) 0), defScope (inClass (top 8) 0)⟩
abbrev fn31 : Hf.FnP := ⟨fun K => (He.ma K (He.ga K "UnknownMode") "__init__"), "__init__", "UnknownMode.__init__", defArgs (inClass (top 10) 0), defBody (inClass (top 10) 0), defScope (inClass (top 10) 0)⟩
abbrev fn32 : Hf.FnP := ⟨fun K => (He.ma K (He.ga K "Unlike") "__init__"), "__init__", "Unlike.__init__", defArgs (inClass (top 30) 0), defBody (inClass (top 30) 0), defScope (inClass (top 30) 0)⟩
abbrev fn33 : Hf.FnP := ⟨fun K => (He.ga K "_law_number"), "_law_number", "_law_number", defArgs (top 57), defBody (top 57), defScope (top 57)⟩
abbrev fn34 : Hf.FnP := ⟨fun K => (He.ga K "_law_deal"), "_law_deal", "_law_deal", defArgs (top 58), defBody (top 58), defScope (top 58)⟩
abbrev fn35 : Hf.FnP := ⟨fun K => (He.ga K "_law_pick"), "_law_pick", "_law_pick", defArgs (top 59), defBody (top 59), defScope (top 59)⟩
abbrev fn36 : Hf.FnP := ⟨fun K => (He.ga K "_law_values"), "_law_values", "_law_values", defArgs (top 60), defBody (top 60), defScope (top 60)⟩
abbrev fn37 : Hf.FnP := ⟨fun K => (He.ga K "_law_named_values"), "_law_named_values", "_law_named_values", defArgs (top 61), defBody (top 61), defScope (top 61)⟩
abbrev fn38 : Hf.FnP := ⟨fun K => (He.ga K "_law_indexes"), "_law_indexes", "_law_indexes", defArgs (top 62), defBody (top 62), defScope (top 62)⟩
abbrev fn39 : Hf.FnP := ⟨fun K => (He.ga K "_law_named_indexes"), "_law_named_indexes", "_law_named_indexes", defArgs (top 63), defBody (top 63), defScope (top 63)⟩
abbrev fn40 : Hf.FnP := ⟨fun K => (He.ga K "_law_tops"), "_law_tops", "_law_tops", defArgs (top 64), defBody (top 64), defScope (top 64)⟩
abbrev fn41 : Hf.FnP := ⟨fun K => (He.ga K "_law_classes"), "_law_classes", "_law_classes", defArgs (top 65), defBody (top 65), defScope (top 65)⟩
abbrev fn42 : Hf.FnP := ⟨fun K => (He.ga K "_law_kin"), "_law_kin", "_law_kin", defArgs (top 66), defBody (top 66), defScope (top 66)⟩
abbrev fn43 : Hf.FnP := ⟨fun K => (He.ga K "_law_other_right"), "_law_other_right", "_law_other_right", defArgs (top 67), defBody (top 67), defScope (top 67)⟩
abbrev fn44 : Hf.FnP := ⟨fun K => (He.ga K "_law_right"), "_law_right", "_law_right", defArgs (top 68), defBody (top 68), defScope (top 68)⟩
abbrev fn45 : Hf.FnP := ⟨fun K => (He.ga K "law"), "law", "law", defArgs (top 69), defBody (top 69), defScope (top 69)⟩
def fns0 : List Hf.FnP := [fn0, fn1, fn2, fn3, fn4, fn5, fn6, fn7, fn8, fn9, fn10, fn11, fn12, fn13, fn14, fn15, fn16, fn17, fn18, fn19, fn20, fn21, fn22, fn23, fn24, fn25, fn26, fn27, fn28, fn29]
def fns1 : List Hf.FnP := [fn30, fn31, fn32, fn33, fn34, fn35, fn36, fn37, fn38, fn39, fn40, fn41, fn42, fn43, fn44, fn45]
def fns : List Hf.FnP := fns0 ++ fns1
section
variable {K : PySem.W.Frag}
theorem q0 (c : Hf.Says fas fns K) : PySem.W.nsIn K mainGlobals "abs" = some none := of_decide_eq_true (c.fact 0 0 (l := fas0) rfl rfl)
theorem q1 (c : Hf.Says fas fns K) : PySem.W.nsIn K mainGlobals "all" = some none := of_decide_eq_true (c.fact 0 1 (l := fas0) rfl rfl)
theorem q2 (c : Hf.Says fas fns K) : PySem.W.nsIn K mainGlobals "int" = some none := of_decide_eq_true (c.fact 0 2 (l := fas0) rfl rfl)
theorem q3 (c : Hf.Says fas fns K) : PySem.W.nsIn K mainGlobals "isinstance" = some none := of_decide_eq_true (c.fact 0 3 (l := fas0) rfl rfl)
theorem q4 (c : Hf.Says fas fns K) : PySem.W.nsIn K mainGlobals "len" = some none := of_decide_eq_true (c.fact 0 4 (l := fas0) rfl rfl)
theorem q5 (c : Hf.Says fas fns K) : PySem.W.nsIn K mainGlobals "max" = some none := of_decide_eq_true (c.fact 0 5 (l := fas0) rfl rfl)
theorem q6 (c : Hf.Says fas fns K) : PySem.W.nsIn K mainGlobals "min" = some none := of_decide_eq_true (c.fact 0 6 (l := fas0) rfl rfl)
theorem q7 (c : Hf.Says fas fns K) : PySem.W.nsIn K mainGlobals "range" = some none := of_decide_eq_true (c.fact 0 7 (l := fas0) rfl rfl)
theorem q8 (c : Hf.Says fas fns K) : PySem.W.nsIn K mainGlobals "repr" = some none := of_decide_eq_true (c.fact 0 8 (l := fas0) rfl rfl)
theorem q9 (c : Hf.Says fas fns K) : PySem.W.nsIn K mainGlobals "str" = some none := of_decide_eq_true (c.fact 0 9 (l := fas0) rfl rfl)
theorem q10 (c : Hf.Says fas fns K) : (He.Fa.int "MOST_CONSTRUCTORS" 6).ok K = true := of_decide_eq_true (c.fact 0 10 (l := fas0) rfl rfl)
theorem q11 (c : Hf.Says fas fns K) : (He.Fa.int "MOST_DEEDS" 100).ok K = true := of_decide_eq_true (c.fact 0 11 (l := fas0) rfl rfl)
theorem q12 (c : Hf.Says fas fns K) : (He.Fa.int "MOST_FACES" 60).ok K = true := of_decide_eq_true (c.fact 0 12 (l := fas0) rfl rfl)
theorem q13 (c : Hf.Says fas fns K) : (He.Fa.int "MOST_FIELDS" 3).ok K = true := of_decide_eq_true (c.fact 0 13 (l := fas0) rfl rfl)
theorem q14 (c : Hf.Says fas fns K) : (He.Fa.int "MOST_JOINS" 2000).ok K = true := of_decide_eq_true (c.fact 0 14 (l := fas0) rfl rfl)
theorem q15 (c : Hf.Says fas fns K) : (He.Fa.int "MOST_KINDS" 4).ok K = true := of_decide_eq_true (c.fact 0 15 (l := fas0) rfl rfl)
theorem q16 (c : Hf.Says fas fns K) : (He.Fa.int "MOST_LISTED" 20).ok K = true := of_decide_eq_true (c.fact 0 16 (l := fas0) rfl rfl)
theorem q17 (c : Hf.Says fas fns K) : (He.Fa.int "MOST_MODES" 3).ok K = true := of_decide_eq_true (c.fact 0 17 (l := fas0) rfl rfl)
theorem q18 (c : Hf.Says fas fns K) : (He.Fa.int "MOST_MOVES" 30).ok K = true := of_decide_eq_true (c.fact 0 18 (l := fas0) rfl rfl)
theorem q19 (c : Hf.Says fas fns K) : (He.Fa.int "MOST_PIECES" 9).ok K = true := of_decide_eq_true (c.fact 0 19 (l := fas0) rfl rfl)
theorem q20 (c : Hf.Says fas fns K) : (He.Fa.int "MOST_READ" 40).ok K = true := of_decide_eq_true (c.fact 0 20 (l := fas0) rfl rfl)
theorem q21 (c : Hf.Says fas fns K) : (He.Fa.int "MOST_ROWS" 200).ok K = true := of_decide_eq_true (c.fact 0 21 (l := fas0) rfl rfl)
theorem q22 (c : Hf.Says fas fns K) : (He.Fa.int "MOST_RULES" 40).ok K = true := of_decide_eq_true (c.fact 0 22 (l := fas0) rfl rfl)
theorem q23 (c : Hf.Says fas fns K) : (He.Fa.int "MOST_SIGNS" 20).ok K = true := of_decide_eq_true (c.fact 0 23 (l := fas0) rfl rfl)
theorem q24 (c : Hf.Says fas fns K) : (He.Fa.int "MOST_STANDS" 5).ok K = true := of_decide_eq_true (c.fact 0 24 (l := fas0) rfl rfl)
theorem q25 (c : Hf.Says fas fns K) : (He.Fa.int "MOST_WRITTEN" 5000).ok K = true := of_decide_eq_true (c.fact 0 25 (l := fas0) rfl rfl)
theorem q26 (c : Hf.Says fas fns K) : PySem.W.nsIn K mainGlobals "EmptyKind" = some (some (.ref (He.ga K "EmptyKind"))) := of_decide_eq_true (c.fact 0 26 (l := fas0) rfl rfl)
theorem q27 (c : Hf.Says fas fns K) : PySem.W.findIn K (.ref (He.ga K "EmptyKind")) "__init__" = some (some (.ref (He.ma K (He.ga K "EmptyKind") "__init__"))) := of_decide_eq_true (c.fact 0 27 (l := fas0) rfl rfl)
theorem q28 (c : Hf.Says fas fns K) : Dn.exnB K (He.ga K "EmptyKind") (He.ma K (He.ga K "EmptyKind") "__init__") [.type "LookupError", .type "Exception", .type "BaseException", .type "object"] "LookupError.__new__" ["kind"] = true := of_decide_eq_true (c.fact 0 28 (l := fas0) rfl rfl)
theorem q29 (c : Hf.Says fas fns K) : PySem.W.nsIn K mainGlobals "InvalidConstructors" = some (some (.ref (He.ga K "InvalidConstructors"))) := of_decide_eq_true (c.fact 0 29 (l := fas0) rfl rfl)
theorem q30 (c : Hf.Says fas fns K) : PySem.W.findIn K (.ref (He.ga K "InvalidConstructors")) "__init__" = some (some (.ref (He.ma K (He.ga K "InvalidConstructors") "__init__"))) := of_decide_eq_true (c.fact 1 0 (l := fas1) rfl rfl)
theorem q31 (c : Hf.Says fas fns K) : Dn.exnB K (He.ga K "InvalidConstructors") (He.ma K (He.ga K "InvalidConstructors") "__init__") [.type "ValueError", .type "Exception", .type "BaseException", .type "object"] "ValueError.__new__" ["index"] = true := of_decide_eq_true (c.fact 1 1 (l := fas1) rfl rfl)
theorem q32 (c : Hf.Says fas fns K) : PySem.W.nsIn K mainGlobals "InvalidDeed" = some (some (.ref (He.ga K "InvalidDeed"))) := of_decide_eq_true (c.fact 1 2 (l := fas1) rfl rfl)
theorem q33 (c : Hf.Says fas fns K) : PySem.W.findIn K (.ref (He.ga K "InvalidDeed")) "__init__" = some (some (.ref (He.ma K (He.ga K "InvalidDeed") "__init__"))) := of_decide_eq_true (c.fact 1 3 (l := fas1) rfl rfl)
theorem q34 (c : Hf.Says fas fns K) : Dn.exnB K (He.ga K "InvalidDeed") (He.ma K (He.ga K "InvalidDeed") "__init__") [.type "ValueError", .type "Exception", .type "BaseException", .type "object"] "ValueError.__new__" ["index"] = true := of_decide_eq_true (c.fact 1 4 (l := fas1) rfl rfl)
theorem q35 (c : Hf.Says fas fns K) : PySem.W.nsIn K mainGlobals "InvalidFields" = some (some (.ref (He.ga K "InvalidFields"))) := of_decide_eq_true (c.fact 1 5 (l := fas1) rfl rfl)
theorem q36 (c : Hf.Says fas fns K) : PySem.W.findIn K (.ref (He.ga K "InvalidFields")) "__init__" = some (some (.ref (He.ma K (He.ga K "InvalidFields") "__init__"))) := of_decide_eq_true (c.fact 1 6 (l := fas1) rfl rfl)
theorem q37 (c : Hf.Says fas fns K) : Dn.exnB K (He.ga K "InvalidFields") (He.ma K (He.ga K "InvalidFields") "__init__") [.type "ValueError", .type "Exception", .type "BaseException", .type "object"] "ValueError.__new__" ["index"] = true := of_decide_eq_true (c.fact 1 7 (l := fas1) rfl rfl)
theorem q38 (c : Hf.Says fas fns K) : PySem.W.nsIn K mainGlobals "InvalidGood" = some (some (.ref (He.ga K "InvalidGood"))) := of_decide_eq_true (c.fact 1 8 (l := fas1) rfl rfl)
theorem q39 (c : Hf.Says fas fns K) : PySem.W.findIn K (.ref (He.ga K "InvalidGood")) "__init__" = some (some (.ref (He.ma K (He.ga K "InvalidGood") "__init__"))) := of_decide_eq_true (c.fact 1 9 (l := fas1) rfl rfl)
theorem q40 (c : Hf.Says fas fns K) : Dn.exnB K (He.ga K "InvalidGood") (He.ma K (He.ga K "InvalidGood") "__init__") [.type "ValueError", .type "Exception", .type "BaseException", .type "object"] "ValueError.__new__" ["index"] = true := of_decide_eq_true (c.fact 1 10 (l := fas1) rfl rfl)
theorem q41 (c : Hf.Says fas fns K) : PySem.W.nsIn K mainGlobals "InvalidKinds" = some (some (.ref (He.ga K "InvalidKinds"))) := of_decide_eq_true (c.fact 1 11 (l := fas1) rfl rfl)
theorem q42 (c : Hf.Says fas fns K) : PySem.W.findIn K (.ref (He.ga K "InvalidKinds")) "__init__" = some (some (.ref (He.ma K (He.ga K "InvalidKinds") "__init__"))) := of_decide_eq_true (c.fact 1 12 (l := fas1) rfl rfl)
theorem q43 (c : Hf.Says fas fns K) : Dn.exnB K (He.ga K "InvalidKinds") (He.ma K (He.ga K "InvalidKinds") "__init__") [.type "ValueError", .type "Exception", .type "BaseException", .type "object"] "ValueError.__new__" ["index"] = true := of_decide_eq_true (c.fact 1 13 (l := fas1) rfl rfl)
theorem q44 (c : Hf.Says fas fns K) : PySem.W.nsIn K mainGlobals "InvalidLine" = some (some (.ref (He.ga K "InvalidLine"))) := of_decide_eq_true (c.fact 1 14 (l := fas1) rfl rfl)
theorem q45 (c : Hf.Says fas fns K) : PySem.W.findIn K (.ref (He.ga K "InvalidLine")) "__init__" = some (some (.ref (He.ma K (He.ga K "InvalidLine") "__init__"))) := of_decide_eq_true (c.fact 1 15 (l := fas1) rfl rfl)
theorem q46 (c : Hf.Says fas fns K) : Dn.exnB K (He.ga K "InvalidLine") (He.ma K (He.ga K "InvalidLine") "__init__") [.type "ValueError", .type "Exception", .type "BaseException", .type "object"] "ValueError.__new__" ["value"] = true := of_decide_eq_true (c.fact 1 16 (l := fas1) rfl rfl)
theorem q47 (c : Hf.Says fas fns K) : PySem.W.nsIn K mainGlobals "InvalidMoves" = some (some (.ref (He.ga K "InvalidMoves"))) := of_decide_eq_true (c.fact 1 17 (l := fas1) rfl rfl)
theorem q48 (c : Hf.Says fas fns K) : PySem.W.findIn K (.ref (He.ga K "InvalidMoves")) "__init__" = some (some (.ref (He.ma K (He.ga K "InvalidMoves") "__init__"))) := of_decide_eq_true (c.fact 1 18 (l := fas1) rfl rfl)
theorem q49 (c : Hf.Says fas fns K) : Dn.exnB K (He.ga K "InvalidMoves") (He.ma K (He.ga K "InvalidMoves") "__init__") [.type "ValueError", .type "Exception", .type "BaseException", .type "object"] "ValueError.__new__" ["index"] = true := of_decide_eq_true (c.fact 1 19 (l := fas1) rfl rfl)
theorem q50 (c : Hf.Says fas fns K) : PySem.W.nsIn K mainGlobals "InvalidNumber" = some (some (.ref (He.ga K "InvalidNumber"))) := of_decide_eq_true (c.fact 1 20 (l := fas1) rfl rfl)
theorem q51 (c : Hf.Says fas fns K) : PySem.W.findIn K (.ref (He.ga K "InvalidNumber")) "__init__" = some (some (.ref (He.ma K (He.ga K "InvalidNumber") "__init__"))) := of_decide_eq_true (c.fact 1 21 (l := fas1) rfl rfl)
theorem q52 (c : Hf.Says fas fns K) : Dn.exnB K (He.ga K "InvalidNumber") (He.ma K (He.ga K "InvalidNumber") "__init__") [.type "ValueError", .type "Exception", .type "BaseException", .type "object"] "ValueError.__new__" ["value"] = true := of_decide_eq_true (c.fact 1 22 (l := fas1) rfl rfl)
theorem q53 (c : Hf.Says fas fns K) : PySem.W.nsIn K mainGlobals "InvalidPath" = some (some (.ref (He.ga K "InvalidPath"))) := of_decide_eq_true (c.fact 1 23 (l := fas1) rfl rfl)
theorem q54 (c : Hf.Says fas fns K) : PySem.W.findIn K (.ref (He.ga K "InvalidPath")) "__init__" = some (some (.ref (He.ma K (He.ga K "InvalidPath") "__init__"))) := of_decide_eq_true (c.fact 1 24 (l := fas1) rfl rfl)
theorem q55 (c : Hf.Says fas fns K) : Dn.exnB K (He.ga K "InvalidPath") (He.ma K (He.ga K "InvalidPath") "__init__") [.type "ValueError", .type "Exception", .type "BaseException", .type "object"] "ValueError.__new__" ["value"] = true := of_decide_eq_true (c.fact 1 25 (l := fas1) rfl rfl)
theorem q56 (c : Hf.Says fas fns K) : PySem.W.nsIn K mainGlobals "InvalidRows" = some (some (.ref (He.ga K "InvalidRows"))) := of_decide_eq_true (c.fact 1 26 (l := fas1) rfl rfl)
theorem q57 (c : Hf.Says fas fns K) : PySem.W.findIn K (.ref (He.ga K "InvalidRows")) "__init__" = some (some (.ref (He.ma K (He.ga K "InvalidRows") "__init__"))) := of_decide_eq_true (c.fact 1 27 (l := fas1) rfl rfl)
theorem q58 (c : Hf.Says fas fns K) : Dn.exnB K (He.ga K "InvalidRows") (He.ma K (He.ga K "InvalidRows") "__init__") [.type "ValueError", .type "Exception", .type "BaseException", .type "object"] "ValueError.__new__" ["index"] = true := of_decide_eq_true (c.fact 1 28 (l := fas1) rfl rfl)
theorem q59 (c : Hf.Says fas fns K) : PySem.W.nsIn K mainGlobals "InvalidRules" = some (some (.ref (He.ga K "InvalidRules"))) := of_decide_eq_true (c.fact 1 29 (l := fas1) rfl rfl)
theorem q60 (c : Hf.Says fas fns K) : PySem.W.findIn K (.ref (He.ga K "InvalidRules")) "__init__" = some (some (.ref (He.ma K (He.ga K "InvalidRules") "__init__"))) := of_decide_eq_true (c.fact 2 0 (l := fas2) rfl rfl)
theorem q61 (c : Hf.Says fas fns K) : Dn.exnB K (He.ga K "InvalidRules") (He.ma K (He.ga K "InvalidRules") "__init__") [.type "ValueError", .type "Exception", .type "BaseException", .type "object"] "ValueError.__new__" ["index"] = true := of_decide_eq_true (c.fact 2 1 (l := fas2) rfl rfl)
theorem q62 (c : Hf.Says fas fns K) : PySem.W.nsIn K mainGlobals "InvalidSigns" = some (some (.ref (He.ga K "InvalidSigns"))) := of_decide_eq_true (c.fact 2 2 (l := fas2) rfl rfl)
theorem q63 (c : Hf.Says fas fns K) : PySem.W.findIn K (.ref (He.ga K "InvalidSigns")) "__init__" = some (some (.ref (He.ma K (He.ga K "InvalidSigns") "__init__"))) := of_decide_eq_true (c.fact 2 3 (l := fas2) rfl rfl)
theorem q64 (c : Hf.Says fas fns K) : Dn.exnB K (He.ga K "InvalidSigns") (He.ma K (He.ga K "InvalidSigns") "__init__") [.type "ValueError", .type "Exception", .type "BaseException", .type "object"] "ValueError.__new__" ["index"] = true := of_decide_eq_true (c.fact 2 4 (l := fas2) rfl rfl)
theorem q65 (c : Hf.Says fas fns K) : PySem.W.nsIn K mainGlobals "InvalidStart" = some (some (.ref (He.ga K "InvalidStart"))) := of_decide_eq_true (c.fact 2 5 (l := fas2) rfl rfl)
theorem q66 (c : Hf.Says fas fns K) : PySem.W.findIn K (.ref (He.ga K "InvalidStart")) "__init__" = some (some (.ref (He.ma K (He.ga K "InvalidStart") "__init__"))) := of_decide_eq_true (c.fact 2 6 (l := fas2) rfl rfl)
theorem q67 (c : Hf.Says fas fns K) : Dn.exnB K (He.ga K "InvalidStart") (He.ma K (He.ga K "InvalidStart") "__init__") [.type "ValueError", .type "Exception", .type "BaseException", .type "object"] "ValueError.__new__" ["value"] = true := of_decide_eq_true (c.fact 2 7 (l := fas2) rfl rfl)
theorem q68 (c : Hf.Says fas fns K) : PySem.W.nsIn K mainGlobals "InvalidString" = some (some (.ref (He.ga K "InvalidString"))) := of_decide_eq_true (c.fact 2 8 (l := fas2) rfl rfl)
theorem q69 (c : Hf.Says fas fns K) : PySem.W.findIn K (.ref (He.ga K "InvalidString")) "__init__" = some (some (.ref (He.ma K (He.ga K "InvalidString") "__init__"))) := of_decide_eq_true (c.fact 2 9 (l := fas2) rfl rfl)
theorem q70 (c : Hf.Says fas fns K) : Dn.exnB K (He.ga K "InvalidString") (He.ma K (He.ga K "InvalidString") "__init__") [.type "ValueError", .type "Exception", .type "BaseException", .type "object"] "ValueError.__new__" ["value"] = true := of_decide_eq_true (c.fact 2 10 (l := fas2) rfl rfl)
theorem q71 (c : Hf.Says fas fns K) : PySem.W.nsIn K mainGlobals "InvalidText" = some (some (.ref (He.ga K "InvalidText"))) := of_decide_eq_true (c.fact 2 11 (l := fas2) rfl rfl)
theorem q72 (c : Hf.Says fas fns K) : PySem.W.findIn K (.ref (He.ga K "InvalidText")) "__init__" = some (some (.ref (He.ma K (He.ga K "InvalidText") "__init__"))) := of_decide_eq_true (c.fact 2 12 (l := fas2) rfl rfl)
theorem q73 (c : Hf.Says fas fns K) : Dn.exnB K (He.ga K "InvalidText") (He.ma K (He.ga K "InvalidText") "__init__") [.type "ValueError", .type "Exception", .type "BaseException", .type "object"] "ValueError.__new__" ["value"] = true := of_decide_eq_true (c.fact 2 13 (l := fas2) rfl rfl)
theorem q74 (c : Hf.Says fas fns K) : PySem.W.nsIn K mainGlobals "InvalidTree" = some (some (.ref (He.ga K "InvalidTree"))) := of_decide_eq_true (c.fact 2 14 (l := fas2) rfl rfl)
theorem q75 (c : Hf.Says fas fns K) : PySem.W.findIn K (.ref (He.ga K "InvalidTree")) "__init__" = some (some (.ref (He.ma K (He.ga K "InvalidTree") "__init__"))) := of_decide_eq_true (c.fact 2 15 (l := fas2) rfl rfl)
theorem q76 (c : Hf.Says fas fns K) : Dn.exnB K (He.ga K "InvalidTree") (He.ma K (He.ga K "InvalidTree") "__init__") [.type "ValueError", .type "Exception", .type "BaseException", .type "object"] "ValueError.__new__" ["value"] = true := of_decide_eq_true (c.fact 2 16 (l := fas2) rfl rfl)
theorem q77 (c : Hf.Says fas fns K) : PySem.W.nsIn K mainGlobals "InvalidWriters" = some (some (.ref (He.ga K "InvalidWriters"))) := of_decide_eq_true (c.fact 2 17 (l := fas2) rfl rfl)
theorem q78 (c : Hf.Says fas fns K) : PySem.W.findIn K (.ref (He.ga K "InvalidWriters")) "__init__" = some (some (.ref (He.ma K (He.ga K "InvalidWriters") "__init__"))) := of_decide_eq_true (c.fact 2 18 (l := fas2) rfl rfl)
theorem q79 (c : Hf.Says fas fns K) : Dn.exnB K (He.ga K "InvalidWriters") (He.ma K (He.ga K "InvalidWriters") "__init__") [.type "ValueError", .type "Exception", .type "BaseException", .type "object"] "ValueError.__new__" ["index"] = true := of_decide_eq_true (c.fact 2 19 (l := fas2) rfl rfl)
theorem q80 (c : Hf.Says fas fns K) : PySem.W.nsIn K mainGlobals "MissingRule" = some (some (.ref (He.ga K "MissingRule"))) := of_decide_eq_true (c.fact 2 20 (l := fas2) rfl rfl)
theorem q81 (c : Hf.Says fas fns K) : PySem.W.findIn K (.ref (He.ga K "MissingRule")) "__init__" = some (some (.ref (He.ma K (He.ga K "MissingRule") "__init__"))) := of_decide_eq_true (c.fact 2 21 (l := fas2) rfl rfl)
theorem q82 (c : Hf.Says fas fns K) : Dn.exnB K (He.ga K "MissingRule") (He.ma K (He.ga K "MissingRule") "__init__") [.type "LookupError", .type "Exception", .type "BaseException", .type "object"] "LookupError.__new__" ["mode", "name"] = true := of_decide_eq_true (c.fact 2 22 (l := fas2) rfl rfl)
theorem q83 (c : Hf.Says fas fns K) : PySem.W.nsIn K mainGlobals "NotAPattern" = some (some (.ref (He.ga K "NotAPattern"))) := of_decide_eq_true (c.fact 2 23 (l := fas2) rfl rfl)
theorem q84 (c : Hf.Says fas fns K) : PySem.W.findIn K (.ref (He.ga K "NotAPattern")) "__init__" = some (some (.ref (He.ma K (He.ga K "NotAPattern") "__init__"))) := of_decide_eq_true (c.fact 2 24 (l := fas2) rfl rfl)
theorem q85 (c : Hf.Says fas fns K) : Dn.exnB K (He.ga K "NotAPattern") (He.ma K (He.ga K "NotAPattern") "__init__") [.type "ValueError", .type "Exception", .type "BaseException", .type "object"] "ValueError.__new__" ["value"] = true := of_decide_eq_true (c.fact 2 25 (l := fas2) rfl rfl)
theorem q86 (c : Hf.Says fas fns K) : PySem.W.nsIn K mainGlobals "NotASchema" = some (some (.ref (He.ga K "NotASchema"))) := of_decide_eq_true (c.fact 2 26 (l := fas2) rfl rfl)
theorem q87 (c : Hf.Says fas fns K) : PySem.W.findIn K (.ref (He.ga K "NotASchema")) "__init__" = some (some (.ref (He.ma K (He.ga K "NotASchema") "__init__"))) := of_decide_eq_true (c.fact 2 27 (l := fas2) rfl rfl)
theorem q88 (c : Hf.Says fas fns K) : Dn.exnB K (He.ga K "NotASchema") (He.ma K (He.ga K "NotASchema") "__init__") [.type "ValueError", .type "Exception", .type "BaseException", .type "object"] "ValueError.__new__" ["value"] = true := of_decide_eq_true (c.fact 2 28 (l := fas2) rfl rfl)
theorem q89 (c : Hf.Says fas fns K) : PySem.W.nsIn K mainGlobals "NotATree" = some (some (.ref (He.ga K "NotATree"))) := of_decide_eq_true (c.fact 2 29 (l := fas2) rfl rfl)
theorem q90 (c : Hf.Says fas fns K) : PySem.W.findIn K (.ref (He.ga K "NotATree")) "__init__" = some (some (.ref (He.ma K (He.ga K "NotATree") "__init__"))) := of_decide_eq_true (c.fact 3 0 (l := fas3) rfl rfl)
theorem q91 (c : Hf.Says fas fns K) : Dn.exnB K (He.ga K "NotATree") (He.ma K (He.ga K "NotATree") "__init__") [.type "ValueError", .type "Exception", .type "BaseException", .type "object"] "ValueError.__new__" ["value"] = true := of_decide_eq_true (c.fact 3 1 (l := fas3) rfl rfl)
theorem q92 (c : Hf.Says fas fns K) : PySem.W.nsIn K mainGlobals "NotAWriter" = some (some (.ref (He.ga K "NotAWriter"))) := of_decide_eq_true (c.fact 3 2 (l := fas3) rfl rfl)
theorem q93 (c : Hf.Says fas fns K) : PySem.W.findIn K (.ref (He.ga K "NotAWriter")) "__init__" = some (some (.ref (He.ma K (He.ga K "NotAWriter") "__init__"))) := of_decide_eq_true (c.fact 3 3 (l := fas3) rfl rfl)
theorem q94 (c : Hf.Says fas fns K) : Dn.exnB K (He.ga K "NotAWriter") (He.ma K (He.ga K "NotAWriter") "__init__") [.type "ValueError", .type "Exception", .type "BaseException", .type "object"] "ValueError.__new__" ["value"] = true := of_decide_eq_true (c.fact 3 4 (l := fas3) rfl rfl)
theorem q95 (c : Hf.Says fas fns K) : PySem.W.nsIn K mainGlobals "Refused" = some (some (.ref (He.ga K "Refused"))) := of_decide_eq_true (c.fact 3 5 (l := fas3) rfl rfl)
theorem q96 (c : Hf.Says fas fns K) : PySem.W.findIn K (.ref (He.ga K "Refused")) "__init__" = some (some (.ref (He.ma K (He.ga K "Refused") "__init__"))) := of_decide_eq_true (c.fact 3 6 (l := fas3) rfl rfl)
theorem q97 (c : Hf.Says fas fns K) : Dn.exnB K (He.ga K "Refused") (He.ma K (He.ga K "Refused") "__init__") [.type "LookupError", .type "Exception", .type "BaseException", .type "object"] "LookupError.__new__" ["deed", "tree"] = true := of_decide_eq_true (c.fact 3 7 (l := fas3) rfl rfl)
theorem q98 (c : Hf.Says fas fns K) : PySem.W.nsIn K mainGlobals "TooLong" = some (some (.ref (He.ga K "TooLong"))) := of_decide_eq_true (c.fact 3 8 (l := fas3) rfl rfl)
theorem q99 (c : Hf.Says fas fns K) : PySem.W.findIn K (.ref (He.ga K "TooLong")) "__init__" = some (some (.ref (He.ma K (He.ga K "TooLong") "__init__"))) := of_decide_eq_true (c.fact 3 9 (l := fas3) rfl rfl)
theorem q100 (c : Hf.Says fas fns K) : Dn.exnB K (He.ga K "TooLong") (He.ma K (He.ga K "TooLong") "__init__") [.type "ArithmeticError", .type "Exception", .type "BaseException", .type "object"] "ArithmeticError.__new__" ["found"] = true := of_decide_eq_true (c.fact 3 10 (l := fas3) rfl rfl)
theorem q101 (c : Hf.Says fas fns K) : PySem.W.nsIn K mainGlobals "TooManyDeeds" = some (some (.ref (He.ga K "TooManyDeeds"))) := of_decide_eq_true (c.fact 3 11 (l := fas3) rfl rfl)
theorem q102 (c : Hf.Says fas fns K) : PySem.W.findIn K (.ref (He.ga K "TooManyDeeds")) "__init__" = some (some (.ref (He.ma K (He.ga K "TooManyDeeds") "__init__"))) := of_decide_eq_true (c.fact 3 12 (l := fas3) rfl rfl)
theorem q103 (c : Hf.Says fas fns K) : Dn.exnB K (He.ga K "TooManyDeeds") (He.ma K (He.ga K "TooManyDeeds") "__init__") [.type "ArithmeticError", .type "Exception", .type "BaseException", .type "object"] "ArithmeticError.__new__" ["limit"] = true := of_decide_eq_true (c.fact 3 13 (l := fas3) rfl rfl)
theorem q104 (c : Hf.Says fas fns K) : PySem.W.nsIn K mainGlobals "TooManyFaces" = some (some (.ref (He.ga K "TooManyFaces"))) := of_decide_eq_true (c.fact 3 14 (l := fas3) rfl rfl)
theorem q105 (c : Hf.Says fas fns K) : PySem.W.findIn K (.ref (He.ga K "TooManyFaces")) "__init__" = some (some (.ref (He.ma K (He.ga K "TooManyFaces") "__init__"))) := of_decide_eq_true (c.fact 3 15 (l := fas3) rfl rfl)
theorem q106 (c : Hf.Says fas fns K) : Dn.exnB K (He.ga K "TooManyFaces") (He.ma K (He.ga K "TooManyFaces") "__init__") [.type "ArithmeticError", .type "Exception", .type "BaseException", .type "object"] "ArithmeticError.__new__" ["limit"] = true := of_decide_eq_true (c.fact 3 16 (l := fas3) rfl rfl)
theorem q107 (c : Hf.Says fas fns K) : PySem.W.nsIn K mainGlobals "TooManyJoins" = some (some (.ref (He.ga K "TooManyJoins"))) := of_decide_eq_true (c.fact 3 17 (l := fas3) rfl rfl)
theorem q108 (c : Hf.Says fas fns K) : PySem.W.findIn K (.ref (He.ga K "TooManyJoins")) "__init__" = some (some (.ref (He.ma K (He.ga K "TooManyJoins") "__init__"))) := of_decide_eq_true (c.fact 3 18 (l := fas3) rfl rfl)
theorem q109 (c : Hf.Says fas fns K) : Dn.exnB K (He.ga K "TooManyJoins") (He.ma K (He.ga K "TooManyJoins") "__init__") [.type "ArithmeticError", .type "Exception", .type "BaseException", .type "object"] "ArithmeticError.__new__" ["limit"] = true := of_decide_eq_true (c.fact 3 19 (l := fas3) rfl rfl)
theorem q110 (c : Hf.Says fas fns K) : PySem.W.nsIn K mainGlobals "TooManyRows" = some (some (.ref (He.ga K "TooManyRows"))) := of_decide_eq_true (c.fact 3 20 (l := fas3) rfl rfl)
theorem q111 (c : Hf.Says fas fns K) : PySem.W.findIn K (.ref (He.ga K "TooManyRows")) "__init__" = some (some (.ref (He.ma K (He.ga K "TooManyRows") "__init__"))) := of_decide_eq_true (c.fact 3 21 (l := fas3) rfl rfl)
theorem q112 (c : Hf.Says fas fns K) : Dn.exnB K (He.ga K "TooManyRows") (He.ma K (He.ga K "TooManyRows") "__init__") [.type "ArithmeticError", .type "Exception", .type "BaseException", .type "object"] "ArithmeticError.__new__" ["limit"] = true := of_decide_eq_true (c.fact 3 22 (l := fas3) rfl rfl)
theorem q113 (c : Hf.Says fas fns K) : PySem.W.nsIn K mainGlobals "UnknownConstructor" = some (some (.ref (He.ga K "UnknownConstructor"))) := of_decide_eq_true (c.fact 3 23 (l := fas3) rfl rfl)
theorem q114 (c : Hf.Says fas fns K) : PySem.W.findIn K (.ref (He.ga K "UnknownConstructor")) "__init__" = some (some (.ref (He.ma K (He.ga K "UnknownConstructor") "__init__"))) := of_decide_eq_true (c.fact 3 24 (l := fas3) rfl rfl)
theorem q115 (c : Hf.Says fas fns K) : Dn.exnB K (He.ga K "UnknownConstructor") (He.ma K (He.ga K "UnknownConstructor") "__init__") [.type "ValueError", .type "Exception", .type "BaseException", .type "object"] "ValueError.__new__" ["value"] = true := of_decide_eq_true (c.fact 3 25 (l := fas3) rfl rfl)
theorem q116 (c : Hf.Says fas fns K) : PySem.W.nsIn K mainGlobals "UnknownKind" = some (some (.ref (He.ga K "UnknownKind"))) := of_decide_eq_true (c.fact 3 26 (l := fas3) rfl rfl)
theorem q117 (c : Hf.Says fas fns K) : PySem.W.findIn K (.ref (He.ga K "UnknownKind")) "__init__" = some (some (.ref (He.ma K (He.ga K "UnknownKind") "__init__"))) := of_decide_eq_true (c.fact 3 27 (l := fas3) rfl rfl)
theorem q118 (c : Hf.Says fas fns K) : Dn.exnB K (He.ga K "UnknownKind") (He.ma K (He.ga K "UnknownKind") "__init__") [.type "ValueError", .type "Exception", .type "BaseException", .type "object"] "ValueError.__new__" ["value"] = true := of_decide_eq_true (c.fact 3 28 (l := fas3) rfl rfl)
theorem q119 (c : Hf.Says fas fns K) : PySem.W.nsIn K mainGlobals "UnknownMode" = some (some (.ref (He.ga K "UnknownMode"))) := of_decide_eq_true (c.fact 3 29 (l := fas3) rfl rfl)
theorem q120 (c : Hf.Says fas fns K) : PySem.W.findIn K (.ref (He.ga K "UnknownMode")) "__init__" = some (some (.ref (He.ma K (He.ga K "UnknownMode") "__init__"))) := of_decide_eq_true (c.fact 4 0 (l := fas4) rfl rfl)
theorem q121 (c : Hf.Says fas fns K) : Dn.exnB K (He.ga K "UnknownMode") (He.ma K (He.ga K "UnknownMode") "__init__") [.type "ValueError", .type "Exception", .type "BaseException", .type "object"] "ValueError.__new__" ["value"] = true := of_decide_eq_true (c.fact 4 1 (l := fas4) rfl rfl)
theorem q122 (c : Hf.Says fas fns K) : PySem.W.nsIn K mainGlobals "Unlike" = some (some (.ref (He.ga K "Unlike"))) := of_decide_eq_true (c.fact 4 2 (l := fas4) rfl rfl)
theorem q123 (c : Hf.Says fas fns K) : PySem.W.findIn K (.ref (He.ga K "Unlike")) "__init__" = some (some (.ref (He.ma K (He.ga K "Unlike") "__init__"))) := of_decide_eq_true (c.fact 4 3 (l := fas4) rfl rfl)
theorem q124 (c : Hf.Says fas fns K) : Dn.exnB K (He.ga K "Unlike") (He.ma K (He.ga K "Unlike") "__init__") [.type "LookupError", .type "Exception", .type "BaseException", .type "object"] "LookupError.__new__" ["tree"] = true := of_decide_eq_true (c.fact 4 4 (l := fas4) rfl rfl)
theorem q125 (c : Hf.Says fas fns K) : PySem.W.nsIn K mainGlobals "Busy" = some (some (.ref (He.ga K "Busy"))) := of_decide_eq_true (c.fact 4 5 (l := fas4) rfl rfl)
theorem q126 (c : Hf.Says fas fns K) : Dn.exzB K (He.ga K "Busy") [.type "LookupError", .type "Exception", .type "BaseException", .type "object"] "LookupError.__new__" "LookupError.__init__" = true := of_decide_eq_true (c.fact 4 6 (l := fas4) rfl rfl)
theorem q127 (c : Hf.Says fas fns K) : PySem.W.nsIn K mainGlobals "NothingToUndo" = some (some (.ref (He.ga K "NothingToUndo"))) := of_decide_eq_true (c.fact 4 7 (l := fas4) rfl rfl)
theorem q128 (c : Hf.Says fas fns K) : Dn.exzB K (He.ga K "NothingToUndo") [.type "LookupError", .type "Exception", .type "BaseException", .type "object"] "LookupError.__new__" "LookupError.__init__" = true := of_decide_eq_true (c.fact 4 8 (l := fas4) rfl rfl)
theorem q129 (c : Hf.Says fas fns K) : PySem.W.nsIn K mainGlobals "OtherSchema" = some (some (.ref (He.ga K "OtherSchema"))) := of_decide_eq_true (c.fact 4 9 (l := fas4) rfl rfl)
theorem q130 (c : Hf.Says fas fns K) : Dn.exzB K (He.ga K "OtherSchema") [.type "LookupError", .type "Exception", .type "BaseException", .type "object"] "LookupError.__new__" "LookupError.__init__" = true := of_decide_eq_true (c.fact 4 10 (l := fas4) rfl rfl)
theorem q131 (c : Hf.Says fas fns K) : PySem.W.nsIn K mainGlobals "LimitError" = some (some (.ref (He.ga K "LimitError"))) := of_decide_eq_true (c.fact 4 11 (l := fas4) rfl rfl)
theorem q132 (c : Hf.Says fas fns K) : PySem.W.nsIn K mainGlobals "StateError" = some (some (.ref (He.ga K "StateError"))) := of_decide_eq_true (c.fact 4 12 (l := fas4) rfl rfl)
theorem q133 (c : Hf.Says fas fns K) : PySem.W.nsIn K mainGlobals "TreeError" = some (some (.ref (He.ga K "TreeError"))) := of_decide_eq_true (c.fact 4 13 (l := fas4) rfl rfl)
theorem q134 (c : Hf.Says fas fns K) : PySem.W.nsIn K mainGlobals "ArithmeticError" = some none := of_decide_eq_true (c.fact 4 14 (l := fas4) rfl rfl)
theorem q135 (c : Hf.Says fas fns K) : PySem.W.nsIn K mainGlobals "LookupError" = some none := of_decide_eq_true (c.fact 4 15 (l := fas4) rfl rfl)
theorem q136 (c : Hf.Says fas fns K) : PySem.W.nsIn K mainGlobals "ValueError" = some none := of_decide_eq_true (c.fact 4 16 (l := fas4) rfl rfl)
theorem q137 (c : Hf.Says fas fns K) : Dn.excTab K [(("Busy", (He.ga K "Busy")) : Str × Addr), (("EmptyKind", (He.ga K "EmptyKind")) : Str × Addr), (("InvalidConstructors", (He.ga K "InvalidConstructors")) : Str × Addr), (("InvalidDeed", (He.ga K "InvalidDeed")) : Str × Addr), (("InvalidFields", (He.ga K "InvalidFields")) : Str × Addr), (("InvalidGood", (He.ga K "InvalidGood")) : Str × Addr), (("InvalidKinds", (He.ga K "InvalidKinds")) : Str × Addr), (("InvalidLine", (He.ga K "InvalidLine")) : Str × Addr), (("InvalidMoves", (He.ga K "InvalidMoves")) : Str × Addr), (("InvalidNumber", (He.ga K "InvalidNumber")) : Str × Addr), (("InvalidPath", (He.ga K "InvalidPath")) : Str × Addr), (("InvalidRows", (He.ga K "InvalidRows")) : Str × Addr), (("InvalidRules", (He.ga K "InvalidRules")) : Str × Addr), (("InvalidSigns", (He.ga K "InvalidSigns")) : Str × Addr), (("InvalidStart", (He.ga K "InvalidStart")) : Str × Addr), (("InvalidString", (He.ga K "InvalidString")) : Str × Addr), (("InvalidText", (He.ga K "InvalidText")) : Str × Addr), (("InvalidTree", (He.ga K "InvalidTree")) : Str × Addr), (("InvalidWriters", (He.ga K "InvalidWriters")) : Str × Addr), (("MissingRule", (He.ga K "MissingRule")) : Str × Addr), (("NotAPattern", (He.ga K "NotAPattern")) : Str × Addr), (("NotASchema", (He.ga K "NotASchema")) : Str × Addr), (("NotATree", (He.ga K "NotATree")) : Str × Addr), (("NotAWriter", (He.ga K "NotAWriter")) : Str × Addr), (("NothingToUndo", (He.ga K "NothingToUndo")) : Str × Addr), (("OtherSchema", (He.ga K "OtherSchema")) : Str × Addr), (("Refused", (He.ga K "Refused")) : Str × Addr), (("TooLong", (He.ga K "TooLong")) : Str × Addr), (("TooManyDeeds", (He.ga K "TooManyDeeds")) : Str × Addr), (("TooManyFaces", (He.ga K "TooManyFaces")) : Str × Addr), (("TooManyJoins", (He.ga K "TooManyJoins")) : Str × Addr), (("TooManyRows", (He.ga K "TooManyRows")) : Str × Addr), (("UnknownConstructor", (He.ga K "UnknownConstructor")) : Str × Addr), (("UnknownKind", (He.ga K "UnknownKind")) : Str × Addr), (("UnknownMode", (He.ga K "UnknownMode")) : Str × Addr), (("Unlike", (He.ga K "Unlike")) : Str × Addr)] xTab [(("Busy", .ref (He.ga K "Busy")) : Str × Value), (("EmptyKind", .ref (He.ga K "EmptyKind")) : Str × Value), (("InvalidConstructors", .ref (He.ga K "InvalidConstructors")) : Str × Value), (("InvalidDeed", .ref (He.ga K "InvalidDeed")) : Str × Value), (("InvalidFields", .ref (He.ga K "InvalidFields")) : Str × Value), (("InvalidGood", .ref (He.ga K "InvalidGood")) : Str × Value), (("InvalidKinds", .ref (He.ga K "InvalidKinds")) : Str × Value), (("InvalidLine", .ref (He.ga K "InvalidLine")) : Str × Value), (("InvalidMoves", .ref (He.ga K "InvalidMoves")) : Str × Value), (("InvalidNumber", .ref (He.ga K "InvalidNumber")) : Str × Value), (("InvalidPath", .ref (He.ga K "InvalidPath")) : Str × Value), (("InvalidRows", .ref (He.ga K "InvalidRows")) : Str × Value), (("InvalidRules", .ref (He.ga K "InvalidRules")) : Str × Value), (("InvalidSigns", .ref (He.ga K "InvalidSigns")) : Str × Value), (("InvalidStart", .ref (He.ga K "InvalidStart")) : Str × Value), (("InvalidString", .ref (He.ga K "InvalidString")) : Str × Value), (("InvalidText", .ref (He.ga K "InvalidText")) : Str × Value), (("InvalidTree", .ref (He.ga K "InvalidTree")) : Str × Value), (("InvalidWriters", .ref (He.ga K "InvalidWriters")) : Str × Value), (("LimitError", .ref (He.ga K "LimitError")) : Str × Value), (("MissingRule", .ref (He.ga K "MissingRule")) : Str × Value), (("NotAPattern", .ref (He.ga K "NotAPattern")) : Str × Value), (("NotASchema", .ref (He.ga K "NotASchema")) : Str × Value), (("NotATree", .ref (He.ga K "NotATree")) : Str × Value), (("NotAWriter", .ref (He.ga K "NotAWriter")) : Str × Value), (("NothingToUndo", .ref (He.ga K "NothingToUndo")) : Str × Value), (("OtherSchema", .ref (He.ga K "OtherSchema")) : Str × Value), (("Refused", .ref (He.ga K "Refused")) : Str × Value), (("StateError", .ref (He.ga K "StateError")) : Str × Value), (("TooLong", .ref (He.ga K "TooLong")) : Str × Value), (("TooManyDeeds", .ref (He.ga K "TooManyDeeds")) : Str × Value), (("TooManyFaces", .ref (He.ga K "TooManyFaces")) : Str × Value), (("TooManyJoins", .ref (He.ga K "TooManyJoins")) : Str × Value), (("TooManyRows", .ref (He.ga K "TooManyRows")) : Str × Value), (("TreeError", .ref (He.ga K "TreeError")) : Str × Value), (("UnknownConstructor", .ref (He.ga K "UnknownConstructor")) : Str × Value), (("UnknownKind", .ref (He.ga K "UnknownKind")) : Str × Value), (("UnknownMode", .ref (He.ga K "UnknownMode")) : Str × Value), (("Unlike", .ref (He.ga K "Unlike")) : Str × Value), (("ArithmeticError", .type "ArithmeticError") : Str × Value), (("LookupError", .type "LookupError") : Str × Value), (("ValueError", .type "ValueError") : Str × Value)] = true := of_decide_eq_true (c.fact 4 17 (l := fas4) rfl rfl)
theorem q138 (c : Hf.Says fas fns K) : PySem.W.nsIn K mainGlobals "_law_number" = some (some (.ref (He.ga K "_law_number"))) := of_decide_eq_true (c.fact 4 18 (l := fas4) rfl rfl)
theorem q139 (c : Hf.Says fas fns K) : PySem.W.keepIn K (.ref (He.ga K "_law_number")) = true := of_decide_eq_true (c.fact 4 19 (l := fas4) rfl rfl)
theorem q140 (c : Hf.Says fas fns K) : PySem.W.nsIn K mainGlobals "_law_deal" = some (some (.ref (He.ga K "_law_deal"))) := of_decide_eq_true (c.fact 4 20 (l := fas4) rfl rfl)
theorem q141 (c : Hf.Says fas fns K) : PySem.W.keepIn K (.ref (He.ga K "_law_deal")) = true := of_decide_eq_true (c.fact 4 21 (l := fas4) rfl rfl)
theorem q142 (c : Hf.Says fas fns K) : PySem.W.nsIn K mainGlobals "_law_pick" = some (some (.ref (He.ga K "_law_pick"))) := of_decide_eq_true (c.fact 4 22 (l := fas4) rfl rfl)
theorem q143 (c : Hf.Says fas fns K) : PySem.W.keepIn K (.ref (He.ga K "_law_pick")) = true := of_decide_eq_true (c.fact 4 23 (l := fas4) rfl rfl)
theorem q144 (c : Hf.Says fas fns K) : PySem.W.nsIn K mainGlobals "_law_values" = some (some (.ref (He.ga K "_law_values"))) := of_decide_eq_true (c.fact 4 24 (l := fas4) rfl rfl)
theorem q145 (c : Hf.Says fas fns K) : PySem.W.keepIn K (.ref (He.ga K "_law_values")) = true := of_decide_eq_true (c.fact 4 25 (l := fas4) rfl rfl)
theorem q146 (c : Hf.Says fas fns K) : PySem.W.nsIn K mainGlobals "_law_named_values" = some (some (.ref (He.ga K "_law_named_values"))) := of_decide_eq_true (c.fact 4 26 (l := fas4) rfl rfl)
theorem q147 (c : Hf.Says fas fns K) : PySem.W.keepIn K (.ref (He.ga K "_law_named_values")) = true := of_decide_eq_true (c.fact 4 27 (l := fas4) rfl rfl)
theorem q148 (c : Hf.Says fas fns K) : PySem.W.nsIn K mainGlobals "_law_indexes" = some (some (.ref (He.ga K "_law_indexes"))) := of_decide_eq_true (c.fact 4 28 (l := fas4) rfl rfl)
theorem q149 (c : Hf.Says fas fns K) : PySem.W.keepIn K (.ref (He.ga K "_law_indexes")) = true := of_decide_eq_true (c.fact 4 29 (l := fas4) rfl rfl)
theorem q150 (c : Hf.Says fas fns K) : PySem.W.nsIn K mainGlobals "_law_named_indexes" = some (some (.ref (He.ga K "_law_named_indexes"))) := of_decide_eq_true (c.fact 5 0 (l := fas5) rfl rfl)
theorem q151 (c : Hf.Says fas fns K) : PySem.W.keepIn K (.ref (He.ga K "_law_named_indexes")) = true := of_decide_eq_true (c.fact 5 1 (l := fas5) rfl rfl)
theorem q152 (c : Hf.Says fas fns K) : PySem.W.nsIn K mainGlobals "_law_tops" = some (some (.ref (He.ga K "_law_tops"))) := of_decide_eq_true (c.fact 5 2 (l := fas5) rfl rfl)
theorem q153 (c : Hf.Says fas fns K) : PySem.W.keepIn K (.ref (He.ga K "_law_tops")) = true := of_decide_eq_true (c.fact 5 3 (l := fas5) rfl rfl)
theorem q154 (c : Hf.Says fas fns K) : PySem.W.nsIn K mainGlobals "_law_classes" = some (some (.ref (He.ga K "_law_classes"))) := of_decide_eq_true (c.fact 5 4 (l := fas5) rfl rfl)
theorem q155 (c : Hf.Says fas fns K) : PySem.W.keepIn K (.ref (He.ga K "_law_classes")) = true := of_decide_eq_true (c.fact 5 5 (l := fas5) rfl rfl)
theorem q156 (c : Hf.Says fas fns K) : PySem.W.nsIn K mainGlobals "_law_kin" = some (some (.ref (He.ga K "_law_kin"))) := of_decide_eq_true (c.fact 5 6 (l := fas5) rfl rfl)
theorem q157 (c : Hf.Says fas fns K) : PySem.W.keepIn K (.ref (He.ga K "_law_kin")) = true := of_decide_eq_true (c.fact 5 7 (l := fas5) rfl rfl)
theorem q158 (c : Hf.Says fas fns K) : PySem.W.nsIn K mainGlobals "_law_other_right" = some (some (.ref (He.ga K "_law_other_right"))) := of_decide_eq_true (c.fact 5 8 (l := fas5) rfl rfl)
theorem q159 (c : Hf.Says fas fns K) : PySem.W.keepIn K (.ref (He.ga K "_law_other_right")) = true := of_decide_eq_true (c.fact 5 9 (l := fas5) rfl rfl)
theorem q160 (c : Hf.Says fas fns K) : PySem.W.nsIn K mainGlobals "_law_right" = some (some (.ref (He.ga K "_law_right"))) := of_decide_eq_true (c.fact 5 10 (l := fas5) rfl rfl)
theorem q161 (c : Hf.Says fas fns K) : PySem.W.keepIn K (.ref (He.ga K "_law_right")) = true := of_decide_eq_true (c.fact 5 11 (l := fas5) rfl rfl)
theorem q162 (c : Hf.Says fas fns K) : PySem.W.nsIn K mainGlobals "law" = some (some (.ref (He.ga K "law"))) := of_decide_eq_true (c.fact 5 12 (l := fas5) rfl rfl)
theorem q163 (c : Hf.Says fas fns K) : PySem.W.keepIn K (.ref (He.ga K "law")) = true := of_decide_eq_true (c.fact 5 13 (l := fas5) rfl rfl)
end
abbrev R : PySem.W.OpenRow := PySem.W.OpenLaw.row PySem.Challenge.rw_fivetrees_k22_errors_and_limits
abbrev qv : Program := PySem.W.view R.prog [69]
def nms0 : List Str := ["TreeError", "StateError", "LimitError", "NotASchema", "NotATree", "NotAWriter", "NotAPattern", "UnknownKind", "UnknownConstructor", "UnknownMode", "InvalidText", "InvalidPath", "InvalidTree", "InvalidNumber", "InvalidStart", "InvalidString", "InvalidLine", "InvalidKinds", "InvalidConstructors", "InvalidFields", "InvalidRows", "InvalidRules", "InvalidSigns", "InvalidGood", "InvalidMoves", "InvalidDeed", "InvalidWriters", "EmptyKind", "MissingRule", "Unlike"]
def nms1 : List Str := ["Refused", "OtherSchema", "NothingToUndo", "Busy", "TooManyRows", "TooManyJoins", "TooManyFaces", "TooManyDeeds", "TooLong", "MOST_KINDS", "MOST_CONSTRUCTORS", "MOST_FIELDS", "MOST_ROWS", "MOST_MODES", "MOST_RULES", "MOST_PIECES", "MOST_SIGNS", "MOST_JOINS", "MOST_STANDS", "MOST_MOVES", "MOST_FACES", "MOST_WRITTEN", "MOST_READ", "MOST_LISTED", "MOST_DEEDS", "_law_number", "_law_deal", "_law_pick", "_law_values", "_law_named_values"]
def nms2 : List Str := ["_law_indexes", "_law_named_indexes", "_law_tops", "_law_classes", "_law_kin", "_law_other_right", "_law_right"]
def nms : List Str := nms0 ++ nms1 ++ nms2
abbrev hk : PySem.W.Hook := Hf.hookX 5 fas fns
noncomputable def ob (s : PySem.W.SharedT) : Hf.Al := Hf.obsG 5 fas fns (HandSHeadRun.getT s)
theorem ob_eq (s : PySem.W.SharedT) : ob s = hk.obs s.abs := Hf.obsG_eq (HandSHeadRun.getT_eq s)
theorem run (w : World) : HandSHeadRun.RunEq R qv hk ob 30000 nms w := by
  intro os
  kernel_rfl
end D22
namespace D22
open PySem L2 Ft Dn LamX StX
noncomputable def b_law_number : Sm := (sSeq (sIf (tCmp gLt (eVar 1) (eCall gLen (aCons (eVar 0) aNil))) (sRet (eCall gInt (aCons (eIx gIx (eVar 0) (eVar 1)) aNil))) sSkip)
    (sSeq (sSet 2 (eOp gMul (eC (.int 48611)) (eOp gAdd (eVar 1) (eC (.int 2)))))
    (sSeq (sFor (iOf itAny (eSl gSl (eVar 0) pNone (pSome (eC (.int 6))))) (gN 3) (sSeq (sSet 4 (eOp gMod (eCall gInt (aCons (eVar 3) aNil)) (eC (.int 999983))))
    (sSet 2 (eOp gMod (eCall gInt (aCons (eOp gAdd (eOp gAdd (eOp gMul (eVar 2) (eC (.int 27091))) (eVar 4)) (eVar 1)) aNil)) (eC (.int 2147483423))))))
    (sRet (eVar 2)))))
noncomputable def spec_law_number : Dn.Spec := fun ws st => if ws.length = 2 then runB true 5 b_law_number ws st else none
theorem n_law_number : ∀ ws st r, spec_law_number ws st = some r → ws.length = 2 := fun ws st r h => by
  unfold spec_law_number at h
  split at h
  · assumption
  · cases h
theorem r_law_number : ∀ ws st r, ws.length = 2 → spec_law_number ws st = some r → runB true 5 b_law_number ws st = some r := fun ws st r hl h => by
  unfold spec_law_number at h
  rw [if_pos hl] at h
  exact h
noncomputable def b_law_deal : Sm := (sRet (eCell (aCons (eIf (tOrX (tCmp gLt (eVar 0) (eC (.int 0))) (tCmp gGe (eVar 0) (eOp gPow (eC (.int 10)) (eC (.int 18))))) (eCall gAbs (aCons (eVar 0) aNil)) (eC (.int 0))) (aCons (eOp gMod (eCall gInt (aCons (eVar 0) aNil)) (eC (.int 2147483423))) (aCons (eC (.int 0)) aNil)))))
noncomputable def spec_law_deal : Dn.Spec := fun ws st => if ws.length = 1 then runB false 1 b_law_deal ws st else none
theorem n_law_deal : ∀ ws st r, spec_law_deal ws st = some r → ws.length = 1 := fun ws st r h => by
  unfold spec_law_deal at h
  split at h
  · assumption
  · cases h
theorem r_law_deal : ∀ ws st r, ws.length = 1 → spec_law_deal ws st = some r → runB false 1 b_law_deal ws st = some r := fun ws st r hl h => by
  unfold spec_law_deal at h
  rw [if_pos hl] at h
  exact h
noncomputable def b_law_pick : Sm := (sSeq (sSetIx (eVar 0) (eC (.int 2)) (eOp gAdd (eIx gIx (eVar 0) (eC (.int 2))) (eC (.int 1))))
    (sSeq (sIf (tCmp gGt (eIx gIx (eVar 0) (eC (.int 0))) (eC (.int 0))) (sSeq (sSet 2 (eOp gMod (eCall gInt (aCons (eIx gIx (eVar 0) (eC (.int 0))) aNil)) (eVar 1)))
    (sSeq (sSetIx (eVar 0) (eC (.int 0)) (eOp gDiv (eIx gIx (eVar 0) (eC (.int 0))) (eVar 1)))
    (sRet (eVar 2)))) sSkip)
    (sSeq (sPar 3 4 (aCons (eCall gInt (aCons (eIx gIx (eVar 0) (eC (.int 1))) aNil)) (aCons (eCall gInt (aCons (eIx gIx (eVar 0) (eC (.int 2))) aNil)) aNil)))
    (sSeq (sSet 3 (eOp gMod (eCall gInt (aCons (eOp gAdd (eOp gAdd (eOp gMul (eVar 3) (eOp gAdd (eOp gAdd (eVar 3) (eC (.int 24007))) (eOp gMul (eC (.int 2)) (eVar 4)))) (eOp gMul (eC (.int 70879)) (eVar 4))) (eC (.int 13))) aNil)) (eC (.int 2147483423))))
    (sSeq (sSetIx (eVar 0) (eC (.int 1)) (eVar 3))
    (sRet (eOp gMod (eCall gInt (aCons (eOp gDiv (eVar 3) (eC (.int 211))) aNil)) (eVar 1))))))))
noncomputable def spec_law_pick : Dn.Spec := fun ws st => if ws.length = 2 then runB true 5 b_law_pick ws st else none
theorem n_law_pick : ∀ ws st r, spec_law_pick ws st = some r → ws.length = 2 := fun ws st r h => by
  unfold spec_law_pick at h
  split at h
  · assumption
  · cases h
theorem r_law_pick : ∀ ws st r, ws.length = 2 → spec_law_pick ws st = some r → runB true 5 b_law_pick ws st = some r := fun ws st r hl h => by
  unfold spec_law_pick at h
  rw [if_pos hl] at h
  exact h
noncomputable def b_law_values : Sm := (sSeq (sSet 1 (eLst (aCons (eExn "NotASchema" ["value"] (aCons (eVar 0) aNil)) (aCons (eExn "NotATree" ["value"] (aCons (eVar 0) aNil)) (aCons (eExn "NotAWriter" ["value"] (aCons (eVar 0) aNil)) (aCons (eExn "NotAPattern" ["value"] (aCons (eVar 0) aNil)) aNil))))))
    (sSeq (sSet 1 (eOp gAdd (eVar 1) (eLst (aCons (eExn "UnknownKind" ["value"] (aCons (eVar 0) aNil)) (aCons (eExn "UnknownConstructor" ["value"] (aCons (eVar 0) aNil)) (aCons (eExn "UnknownMode" ["value"] (aCons (eVar 0) aNil)) (aCons (eExn "InvalidText" ["value"] (aCons (eVar 0) aNil)) aNil)))))))
    (sSeq (sSet 1 (eOp gAdd (eVar 1) (eLst (aCons (eExn "InvalidPath" ["value"] (aCons (eVar 0) aNil)) (aCons (eExn "InvalidTree" ["value"] (aCons (eVar 0) aNil)) (aCons (eExn "InvalidNumber" ["value"] (aCons (eVar 0) aNil)) (aCons (eExn "InvalidStart" ["value"] (aCons (eVar 0) aNil)) aNil)))))))
    (sSeq (sSet 1 (eOp gAdd (eVar 1) (eLst (aCons (eExn "InvalidString" ["value"] (aCons (eVar 0) aNil)) (aCons (eExn "InvalidLine" ["value"] (aCons (eVar 0) aNil)) aNil)))))
    (sRet (eVar 1))))))
noncomputable def spec_law_values : Dn.Spec := fun ws st => if ws.length = 1 then runB true 2 b_law_values ws st else none
theorem n_law_values : ∀ ws st r, spec_law_values ws st = some r → ws.length = 1 := fun ws st r h => by
  unfold spec_law_values at h
  split at h
  · assumption
  · cases h
theorem r_law_values : ∀ ws st r, ws.length = 1 → spec_law_values ws st = some r → runB true 2 b_law_values ws st = some r := fun ws st r hl h => by
  unfold spec_law_values at h
  rw [if_pos hl] at h
  exact h
noncomputable def b_law_named_values : Sm := (sSeq (sSet 1 (eLst (aCons (eExnK "NotASchema" ["value"] (aCons (eVar 0) aNil)) (aCons (eExnK "NotATree" ["value"] (aCons (eVar 0) aNil)) (aCons (eExnK "NotAWriter" ["value"] (aCons (eVar 0) aNil)) (aCons (eExnK "NotAPattern" ["value"] (aCons (eVar 0) aNil)) aNil))))))
    (sSeq (sSet 1 (eOp gAdd (eVar 1) (eLst (aCons (eExnK "UnknownKind" ["value"] (aCons (eVar 0) aNil)) (aCons (eExnK "UnknownConstructor" ["value"] (aCons (eVar 0) aNil)) aNil)))))
    (sSeq (sSet 1 (eOp gAdd (eVar 1) (eLst (aCons (eExnK "UnknownMode" ["value"] (aCons (eVar 0) aNil)) (aCons (eExnK "InvalidText" ["value"] (aCons (eVar 0) aNil)) aNil)))))
    (sSeq (sSet 1 (eOp gAdd (eVar 1) (eLst (aCons (eExnK "InvalidPath" ["value"] (aCons (eVar 0) aNil)) (aCons (eExnK "InvalidTree" ["value"] (aCons (eVar 0) aNil)) aNil)))))
    (sSeq (sSet 1 (eOp gAdd (eVar 1) (eLst (aCons (eExnK "InvalidNumber" ["value"] (aCons (eVar 0) aNil)) (aCons (eExnK "InvalidStart" ["value"] (aCons (eVar 0) aNil)) aNil)))))
    (sSeq (sSet 1 (eOp gAdd (eVar 1) (eLst (aCons (eExnK "InvalidString" ["value"] (aCons (eVar 0) aNil)) (aCons (eExnK "InvalidLine" ["value"] (aCons (eVar 0) aNil)) aNil)))))
    (sRet (eVar 1))))))))
noncomputable def spec_law_named_values : Dn.Spec := fun ws st => if ws.length = 1 then runB true 2 b_law_named_values ws st else none
theorem n_law_named_values : ∀ ws st r, spec_law_named_values ws st = some r → ws.length = 1 := fun ws st r h => by
  unfold spec_law_named_values at h
  split at h
  · assumption
  · cases h
theorem r_law_named_values : ∀ ws st r, ws.length = 1 → spec_law_named_values ws st = some r → runB true 2 b_law_named_values ws st = some r := fun ws st r hl h => by
  unfold spec_law_named_values at h
  rw [if_pos hl] at h
  exact h
noncomputable def b_law_indexes : Sm := (sSeq (sSet 1 (eLst (aCons (eExn "InvalidKinds" ["index"] (aCons (eVar 0) aNil)) (aCons (eExn "InvalidConstructors" ["index"] (aCons (eVar 0) aNil)) (aCons (eExn "InvalidFields" ["index"] (aCons (eVar 0) aNil)) (aCons (eExn "InvalidRows" ["index"] (aCons (eVar 0) aNil)) aNil))))))
    (sSeq (sSet 1 (eOp gAdd (eVar 1) (eLst (aCons (eExn "InvalidRules" ["index"] (aCons (eVar 0) aNil)) (aCons (eExn "InvalidSigns" ["index"] (aCons (eVar 0) aNil)) (aCons (eExn "InvalidGood" ["index"] (aCons (eVar 0) aNil)) (aCons (eExn "InvalidMoves" ["index"] (aCons (eVar 0) aNil)) aNil)))))))
    (sSeq (sSet 1 (eOp gAdd (eVar 1) (eLst (aCons (eExn "InvalidDeed" ["index"] (aCons (eVar 0) aNil)) (aCons (eExn "InvalidWriters" ["index"] (aCons (eVar 0) aNil)) aNil)))))
    (sRet (eVar 1)))))
noncomputable def spec_law_indexes : Dn.Spec := fun ws st => if ws.length = 1 then runB true 2 b_law_indexes ws st else none
theorem n_law_indexes : ∀ ws st r, spec_law_indexes ws st = some r → ws.length = 1 := fun ws st r h => by
  unfold spec_law_indexes at h
  split at h
  · assumption
  · cases h
theorem r_law_indexes : ∀ ws st r, ws.length = 1 → spec_law_indexes ws st = some r → runB true 2 b_law_indexes ws st = some r := fun ws st r hl h => by
  unfold spec_law_indexes at h
  rw [if_pos hl] at h
  exact h
noncomputable def b_law_named_indexes : Sm := (sSeq (sSet 1 (eLst (aCons (eExnK "InvalidKinds" ["index"] (aCons (eVar 0) aNil)) (aCons (eExnK "InvalidConstructors" ["index"] (aCons (eVar 0) aNil)) aNil))))
    (sSeq (sSet 1 (eOp gAdd (eVar 1) (eLst (aCons (eExnK "InvalidFields" ["index"] (aCons (eVar 0) aNil)) (aCons (eExnK "InvalidRows" ["index"] (aCons (eVar 0) aNil)) aNil)))))
    (sSeq (sSet 1 (eOp gAdd (eVar 1) (eLst (aCons (eExnK "InvalidRules" ["index"] (aCons (eVar 0) aNil)) (aCons (eExnK "InvalidSigns" ["index"] (aCons (eVar 0) aNil)) aNil)))))
    (sSeq (sSet 1 (eOp gAdd (eVar 1) (eLst (aCons (eExnK "InvalidGood" ["index"] (aCons (eVar 0) aNil)) (aCons (eExnK "InvalidMoves" ["index"] (aCons (eVar 0) aNil)) aNil)))))
    (sSeq (sSet 1 (eOp gAdd (eVar 1) (eLst (aCons (eExnK "InvalidDeed" ["index"] (aCons (eVar 0) aNil)) (aCons (eExnK "InvalidWriters" ["index"] (aCons (eVar 0) aNil)) aNil)))))
    (sRet (eVar 1)))))))
noncomputable def spec_law_named_indexes : Dn.Spec := fun ws st => if ws.length = 1 then runB true 2 b_law_named_indexes ws st else none
theorem n_law_named_indexes : ∀ ws st r, spec_law_named_indexes ws st = some r → ws.length = 1 := fun ws st r h => by
  unfold spec_law_named_indexes at h
  split at h
  · assumption
  · cases h
theorem r_law_named_indexes : ∀ ws st r, ws.length = 1 → spec_law_named_indexes ws st = some r → runB true 2 b_law_named_indexes ws st = some r := fun ws st r hl h => by
  unfold spec_law_named_indexes at h
  rw [if_pos hl] at h
  exact h
noncomputable def b_law_tops : Sm := (sSeq (sSet 1 (eLst (aCons (eExn "TooManyRows" ["limit"] (aCons (eVar 0) aNil)) (aCons (eExn "TooManyJoins" ["limit"] (aCons (eVar 0) aNil)) (aCons (eExn "TooManyFaces" ["limit"] (aCons (eVar 0) aNil)) (aCons (eExn "TooManyDeeds" ["limit"] (aCons (eVar 0) aNil)) aNil))))))
    (sSeq (sSet 1 (eOp gAdd (eVar 1) (eLst (aCons (eExnK "TooManyRows" ["limit"] (aCons (eVar 0) aNil)) (aCons (eExnK "TooManyJoins" ["limit"] (aCons (eVar 0) aNil)) aNil)))))
    (sRet (eOp gAdd (eVar 1) (eLst (aCons (eExnK "TooManyFaces" ["limit"] (aCons (eVar 0) aNil)) (aCons (eExnK "TooManyDeeds" ["limit"] (aCons (eVar 0) aNil)) aNil)))))))
noncomputable def spec_law_tops : Dn.Spec := fun ws st => if ws.length = 1 then runB true 2 b_law_tops ws st else none
theorem n_law_tops : ∀ ws st r, spec_law_tops ws st = some r → ws.length = 1 := fun ws st r h => by
  unfold spec_law_tops at h
  split at h
  · assumption
  · cases h
theorem r_law_tops : ∀ ws st r, ws.length = 1 → spec_law_tops ws st = some r → runB true 2 b_law_tops ws st = some r := fun ws st r hl h => by
  unfold spec_law_tops at h
  rw [if_pos hl] at h
  exact h
noncomputable def b_law_classes : Sm := (sSeq (sSet 1 (eLst (aCons (eUn (gIsX xTab "NotASchema") (eVar 0)) (aCons (eUn (gIsX xTab "NotATree") (eVar 0)) (aCons (eUn (gIsX xTab "NotAWriter") (eVar 0)) aNil)))))
    (sSeq (sSet 1 (eOp gAdd (eVar 1) (eLst (aCons (eUn (gIsX xTab "NotAPattern") (eVar 0)) (aCons (eUn (gIsX xTab "UnknownKind") (eVar 0)) (aCons (eUn (gIsX xTab "UnknownConstructor") (eVar 0)) aNil))))))
    (sSeq (sSet 1 (eOp gAdd (eVar 1) (eLst (aCons (eUn (gIsX xTab "UnknownMode") (eVar 0)) (aCons (eUn (gIsX xTab "InvalidText") (eVar 0)) (aCons (eUn (gIsX xTab "InvalidPath") (eVar 0)) aNil))))))
    (sSeq (sSet 1 (eOp gAdd (eVar 1) (eLst (aCons (eUn (gIsX xTab "InvalidTree") (eVar 0)) (aCons (eUn (gIsX xTab "InvalidNumber") (eVar 0)) (aCons (eUn (gIsX xTab "InvalidStart") (eVar 0)) aNil))))))
    (sSeq (sSet 1 (eOp gAdd (eVar 1) (eLst (aCons (eUn (gIsX xTab "InvalidString") (eVar 0)) (aCons (eUn (gIsX xTab "InvalidLine") (eVar 0)) (aCons (eUn (gIsX xTab "InvalidKinds") (eVar 0)) aNil))))))
    (sSeq (sSet 1 (eOp gAdd (eVar 1) (eLst (aCons (eUn (gIsX xTab "InvalidConstructors") (eVar 0)) (aCons (eUn (gIsX xTab "InvalidFields") (eVar 0)) (aCons (eUn (gIsX xTab "InvalidRows") (eVar 0)) aNil))))))
    (sSeq (sSet 1 (eOp gAdd (eVar 1) (eLst (aCons (eUn (gIsX xTab "InvalidRules") (eVar 0)) (aCons (eUn (gIsX xTab "InvalidSigns") (eVar 0)) (aCons (eUn (gIsX xTab "InvalidGood") (eVar 0)) aNil))))))
    (sSeq (sSet 1 (eOp gAdd (eVar 1) (eLst (aCons (eUn (gIsX xTab "InvalidMoves") (eVar 0)) (aCons (eUn (gIsX xTab "InvalidDeed") (eVar 0)) (aCons (eUn (gIsX xTab "InvalidWriters") (eVar 0)) aNil))))))
    (sSeq (sSet 1 (eOp gAdd (eVar 1) (eLst (aCons (eUn (gIsX xTab "TooManyRows") (eVar 0)) (aCons (eUn (gIsX xTab "TooManyJoins") (eVar 0)) (aCons (eUn (gIsX xTab "TooManyFaces") (eVar 0)) aNil))))))
    (sSeq (sSet 1 (eOp gAdd (eVar 1) (eLst (aCons (eUn (gIsX xTab "TooManyDeeds") (eVar 0)) (aCons (eUn (gIsX xTab "EmptyKind") (eVar 0)) (aCons (eUn (gIsX xTab "MissingRule") (eVar 0)) aNil))))))
    (sSeq (sSet 1 (eOp gAdd (eVar 1) (eLst (aCons (eUn (gIsX xTab "Unlike") (eVar 0)) (aCons (eUn (gIsX xTab "Refused") (eVar 0)) (aCons (eUn (gIsX xTab "OtherSchema") (eVar 0)) aNil))))))
    (sSeq (sSet 1 (eOp gAdd (eVar 1) (eLst (aCons (eUn (gIsX xTab "NothingToUndo") (eVar 0)) (aCons (eUn (gIsX xTab "Busy") (eVar 0)) (aCons (eUn (gIsX xTab "TooLong") (eVar 0)) aNil))))))
    (sRet (eVar 1))))))))))))))
noncomputable def spec_law_classes : Dn.Spec := fun ws st => if ws.length = 1 then runB true 2 b_law_classes ws st else none
theorem n_law_classes : ∀ ws st r, spec_law_classes ws st = some r → ws.length = 1 := fun ws st r h => by
  unfold spec_law_classes at h
  split at h
  · assumption
  · cases h
theorem r_law_classes : ∀ ws st r, ws.length = 1 → spec_law_classes ws st = some r → runB true 2 b_law_classes ws st = some r := fun ws st r hl h => by
  unfold spec_law_classes at h
  rw [if_pos hl] at h
  exact h
noncomputable def b_law_kin : Sm := (sSeq (sSet 1 (eLst (aCons (eUn (gIsX xTab "TreeError") (eVar 0)) (aCons (eUn (gIsX xTab "StateError") (eVar 0)) (aCons (eUn (gIsX xTab "LimitError") (eVar 0)) aNil)))))
    (sRet (eOp gAdd (eVar 1) (eLst (aCons (eUn (gIsX xTab "ValueError") (eVar 0)) (aCons (eUn (gIsX xTab "LookupError") (eVar 0)) (aCons (eUn (gIsX xTab "ArithmeticError") (eVar 0)) aNil)))))))
noncomputable def spec_law_kin : Dn.Spec := fun ws st => if ws.length = 1 then runB true 2 b_law_kin ws st else none
theorem n_law_kin : ∀ ws st r, spec_law_kin ws st = some r → ws.length = 1 := fun ws st r h => by
  unfold spec_law_kin at h
  split at h
  · assumption
  · cases h
theorem r_law_kin : ∀ ws st r, ws.length = 1 → spec_law_kin ws st = some r → runB true 2 b_law_kin ws st = some r := fun ws st r hl h => by
  unfold spec_law_kin at h
  rw [if_pos hl] at h
  exact h
noncomputable def b_law_other_right : Sm := (sSeq (sSet 2 (eLst (aCons (eExn "EmptyKind" ["kind"] (aCons (eVar 0) aNil)) (aCons (eExnK "EmptyKind" ["kind"] (aCons (eVar 0) aNil)) (aCons (eExn "Unlike" ["tree"] (aCons (eVar 0) aNil)) (aCons (eExnK "Unlike" ["tree"] (aCons (eVar 0) aNil)) (aCons (eExn "MissingRule" ["mode", "name"] (aCons (eVar 0) (aCons (eVar 1) aNil))) aNil)))))))
    (sSeq (sSet 2 (eOp gAdd (eVar 2) (eLst (aCons (eExnK "MissingRule" ["mode", "name"] (aCons (eVar 1) (aCons (eVar 0) aNil))) (aCons (eExn "Refused" ["deed", "tree"] (aCons (eVar 0) (aCons (eVar 1) aNil))) (aCons (eExnK "Refused" ["deed", "tree"] (aCons (eVar 1) (aCons (eVar 0) aNil))) aNil))))))
    (sSeq (sSet 3 (eLst (aCons (eUn (gXf ["EmptyKind"] "kind") (eIx gIx (eVar 2) (eC (.int 0)))) (aCons (eUn (gXf ["EmptyKind"] "kind") (eIx gIx (eVar 2) (eC (.int 1)))) (aCons (eUn (gXf ["Unlike", "Refused"] "tree") (eIx gIx (eVar 2) (eC (.int 2)))) (aCons (eUn (gXf ["Unlike", "Refused"] "tree") (eIx gIx (eVar 2) (eC (.int 3)))) (aCons (eUn (gXf ["MissingRule"] "mode") (eIx gIx (eVar 2) (eC (.int 4)))) (aCons (eUn (gXf ["MissingRule"] "name") (eIx gIx (eVar 2) (eC (.int 4)))) aNil))))))))
    (sSeq (sSet 3 (eOp gAdd (eVar 3) (eLst (aCons (eUn (gXf ["MissingRule"] "mode") (eIx gIx (eVar 2) (eC (.int 5)))) (aCons (eUn (gXf ["MissingRule"] "name") (eIx gIx (eVar 2) (eC (.int 5)))) (aCons (eUn (gXf ["Refused"] "deed") (eIx gIx (eVar 2) (eC (.int 6)))) (aCons (eUn (gXf ["Unlike", "Refused"] "tree") (eIx gIx (eVar 2) (eC (.int 6)))) (aCons (eUn (gXf ["Refused"] "deed") (eIx gIx (eVar 2) (eC (.int 7)))) (aCons (eUn (gXf ["Unlike", "Refused"] "tree") (eIx gIx (eVar 2) (eC (.int 7)))) aNil)))))))))
    (sSeq (sSet 2 (eOp gAdd (eVar 2) (eLst (aCons (eExnZ "OtherSchema") (aCons (eExnZ "NothingToUndo") (aCons (eExnZ "Busy") aNil))))))
    (sSeq (sIf (tCmp gNe (eCall gRepr (aCons (eVar 3) aNil)) (eCall gRepr (aCons (eOp gAdd (eOp gMulR (eLst (aCons (eVar 0) aNil)) (eC (.int 4))) (eOp gMulR (eLst (aCons (eVar 0) (aCons (eVar 1) aNil))) (eC (.int 4)))) aNil))) (sRet (eC (.bl false))) sSkip)
    (sSeq (sIf (tNotX (tBl (eCall gAll (aCons (eLc (iOf itAny (eVar 2)) (gN 5) tYesX (eOp gEq (eFn spec_law_kin (aCons (eVar 5) aNil)) (eLst (aCons (eC (.bl false)) (aCons (eC (.bl true)) (aCons (eC (.bl false)) (aCons (eC (.bl false)) (aCons (eC (.bl true)) (aCons (eC (.bl false)) aNil)))))))) [5]) aNil)))) (sRet (eC (.bl false))) sSkip)
    (sSeq (sSet 4 (eLst (aCons (eExn "TooLong" ["found"] (aCons (eVar 0) aNil)) (aCons (eExnK "TooLong" ["found"] (aCons (eVar 0) aNil)) aNil))))
    (sSeq (sIf (tCmp gNe (eCall gRepr (aCons (eLc (iOf itAny (eVar 4)) (gN 5) tYesX (eUn (gXf ["TooLong"] "found") (eVar 5)) [5]) aNil)) (eCall gRepr (aCons (eLst (aCons (eVar 0) (aCons (eVar 0) aNil))) aNil))) (sRet (eC (.bl false))) sSkip)
    (sSeq (sIf (tNotX (tBl (eCall gAll (aCons (eLc (iOf itAny (eVar 4)) (gN 5) tYesX (eOp gEq (eFn spec_law_kin (aCons (eVar 5) aNil)) (eLst (aCons (eC (.bl false)) (aCons (eC (.bl false)) (aCons (eC (.bl true)) (aCons (eC (.bl false)) (aCons (eC (.bl false)) (aCons (eC (.bl true)) aNil)))))))) [5]) aNil)))) (sRet (eC (.bl false))) sSkip)
    (sRet (eCall gAll (aCons (eLc (iOf itAny (eOp gAdd (eVar 2) (eVar 4))) (gN 5) tYesX (eOp gEq (eLm gCount (isLst (eFn spec_law_classes (aCons (eVar 5) aNil))) (eC (.bl true))) (eC (.int 1))) [5]) aNil)))))))))))))
noncomputable def spec_law_other_right : Dn.Spec := fun ws st => if ws.length = 2 then runB true 6 b_law_other_right ws st else none
theorem n_law_other_right : ∀ ws st r, spec_law_other_right ws st = some r → ws.length = 2 := fun ws st r h => by
  unfold spec_law_other_right at h
  split at h
  · assumption
  · cases h
theorem r_law_other_right : ∀ ws st r, ws.length = 2 → spec_law_other_right ws st = some r → runB true 6 b_law_other_right ws st = some r := fun ws st r hl h => by
  unfold spec_law_other_right at h
  rw [if_pos hl] at h
  exact h
noncomputable def b_law_right : Sm := (sSeq (sSet 2 (eOp gAdd (eFn spec_law_values (aCons (eVar 0) aNil)) (eFn spec_law_named_values (aCons (eVar 0) aNil))))
    (sSeq (sIf (tCmp gNe (eCall gRepr (aCons (eLc (iOf itAny (eVar 2)) (gN 5) tYesX (eUn (gXf ["NotASchema", "NotATree", "NotAWriter", "NotAPattern", "UnknownKind", "UnknownConstructor", "UnknownMode", "InvalidText", "InvalidPath", "InvalidTree", "InvalidNumber", "InvalidStart", "InvalidString", "InvalidLine"] "value") (eVar 5)) [5]) aNil)) (eCall gRepr (aCons (eOp gMulR (eLst (aCons (eVar 0) aNil)) (eC (.int 28))) aNil))) (sRet (eC (.bl false))) sSkip)
    (sSeq (sSet 3 (eOp gAdd (eFn spec_law_indexes (aCons (eVar 0) aNil)) (eFn spec_law_named_indexes (aCons (eVar 0) aNil))))
    (sSeq (sIf (tCmp gNe (eCall gRepr (aCons (eLc (iOf itAny (eVar 3)) (gN 5) tYesX (eUn (gXf ["InvalidKinds", "InvalidConstructors", "InvalidFields", "InvalidRows", "InvalidRules", "InvalidSigns", "InvalidGood", "InvalidMoves", "InvalidDeed", "InvalidWriters"] "index") (eVar 5)) [5]) aNil)) (eCall gRepr (aCons (eOp gMulR (eLst (aCons (eVar 0) aNil)) (eC (.int 20))) aNil))) (sRet (eC (.bl false))) sSkip)
    (sSeq (sSet 4 (eFn spec_law_tops (aCons (eVar 0) aNil)))
    (sSeq (sIf (tCmp gNe (eCall gRepr (aCons (eLc (iOf itAny (eVar 4)) (gN 5) tYesX (eUn (gXf ["TooManyRows", "TooManyJoins", "TooManyFaces", "TooManyDeeds"] "limit") (eVar 5)) [5]) aNil)) (eCall gRepr (aCons (eOp gMulR (eLst (aCons (eVar 0) aNil)) (eC (.int 8))) aNil))) (sRet (eC (.bl false))) sSkip)
    (sSeq (sIf (tNotX (tBl (eCall gAll (aCons (eLc (iOf itAny (eOp gAdd (eVar 2) (eVar 3))) (gN 5) tYesX (eOp gEq (eFn spec_law_kin (aCons (eVar 5) aNil)) (eLst (aCons (eC (.bl true)) (aCons (eC (.bl false)) (aCons (eC (.bl false)) (aCons (eC (.bl true)) (aCons (eC (.bl false)) (aCons (eC (.bl false)) aNil)))))))) [5]) aNil)))) (sRet (eC (.bl false))) sSkip)
    (sSeq (sIf (tNotX (tBl (eCall gAll (aCons (eLc (iOf itAny (eVar 4)) (gN 5) tYesX (eOp gEq (eFn spec_law_kin (aCons (eVar 5) aNil)) (eLst (aCons (eC (.bl false)) (aCons (eC (.bl false)) (aCons (eC (.bl true)) (aCons (eC (.bl false)) (aCons (eC (.bl false)) (aCons (eC (.bl true)) aNil)))))))) [5]) aNil)))) (sRet (eC (.bl false))) sSkip)
    (sRet (eAnd (eCall gAll (aCons (eLc (iOf itAny (eOp gAdd (eOp gAdd (eVar 2) (eVar 3)) (eVar 4))) (gN 5) tYesX (eOp gEq (eLm gCount (isLst (eFn spec_law_classes (aCons (eVar 5) aNil))) (eC (.bl true))) (eC (.int 1))) [5]) aNil)) (eFn spec_law_other_right (aCons (eVar 0) (aCons (eVar 1) aNil)))))))))))))
noncomputable def spec_law_right : Dn.Spec := fun ws st => if ws.length = 2 then runB true 6 b_law_right ws st else none
theorem n_law_right : ∀ ws st r, spec_law_right ws st = some r → ws.length = 2 := fun ws st r h => by
  unfold spec_law_right at h
  split at h
  · assumption
  · cases h
theorem r_law_right : ∀ ws st r, ws.length = 2 → spec_law_right ws st = some r → runB true 6 b_law_right ws st = some r := fun ws st r hl h => by
  unfold spec_law_right at h
  rw [if_pos hl] at h
  exact h
noncomputable def b_law : Sm := (sSeq (sSet 1 (eLst (aCons (eC (.int 4)) (aCons (eC (.int 6)) (aCons (eC (.int 3)) (aCons (eC (.int 200)) (aCons (eC (.int 3)) (aCons (eC (.int 40)) (aCons (eC (.int 9)) (aCons (eC (.int 20)) aNil))))))))))
    (sSeq (sSet 1 (eOp gAdd (eVar 1) (eLst (aCons (eC (.int 2000)) (aCons (eC (.int 5)) (aCons (eC (.int 30)) (aCons (eC (.int 60)) (aCons (eC (.int 5000)) (aCons (eC (.int 40)) (aCons (eC (.int 20)) (aCons (eC (.int 100)) aNil)))))))))))
    (sSeq (sIf (tCmp gNe (eCall gRepr (aCons (eVar 1) aNil)) (eCall gRepr (aCons (eLst (aCons (eC (.int 4)) (aCons (eC (.int 6)) (aCons (eC (.int 3)) (aCons (eC (.int 200)) (aCons (eC (.int 3)) (aCons (eC (.int 40)) (aCons (eC (.int 9)) (aCons (eC (.int 20)) (aCons (eC (.int 2000)) (aCons (eC (.int 5)) (aCons (eC (.int 30)) (aCons (eC (.int 60)) (aCons (eC (.int 5000)) (aCons (eC (.int 40)) (aCons (eC (.int 20)) (aCons (eC (.int 100)) aNil))))))))))))))))) aNil))) (sRet (eC (.bl false))) sSkip)
    (sSeq (sFor (iRange1 (aCons (eCall gMax2 (aCons (eC (.int 2)) (aCons (eCall gMin2 (aCons (eCall gLen (aCons (eVar 0) aNil)) (aCons (eC (.int 6)) aNil))) aNil))) aNil)) (gN 2) (sSeq (sSet 3 (eFn spec_law_number (aCons (eVar 0) (aCons (eVar 2) aNil))))
    (sSeq (sPar 4 5 (aCons (eFn spec_law_deal (aCons (eVar 3) aNil)) (aCons (eCall gInt (aCons (eCall gAbs (aCons (eVar 3) aNil)) aNil)) aNil)))
    (sSeq (sSet 6 (eLst (aCons (eOp gMod (eVar 5) (eOp gPow (eC (.int 10)) (eC (.int 40)))) (aCons (eOp gAdd (eC (.str "a")) (eCall gStr (aCons (eOp gMod (eCall gInt (aCons (eVar 5) aNil)) (eC (.int 89))) aNil))) (aCons (eC .non) (aCons (eC (.bl true)) (aCons (eC (.bl false)) (aCons (eC (.int 0)) (aCons (eTup (aCons (eC (.int 1)) (aCons (eOp gMod (eCall gInt (aCons (eVar 5) aNil)) (eC (.int 5))) aNil))) (aCons (eTup aNil) (aCons (eUn gNeg (eC (.int 1))) (aCons (eC (.int 1)) aNil))))))))))))
    (sIf (tNotX (tBl (eFn spec_law_right (aCons (eIx gIx (eVar 6) (eFn spec_law_pick (aCons (eVar 4) (aCons (eC (.int 10)) aNil)))) (aCons (eIx gIx (eVar 6) (eFn spec_law_pick (aCons (eVar 4) (aCons (eC (.int 10)) aNil)))) aNil))))) (sRet (eC (.bl false))) sSkip)))))
    (sRet (eC (.bl true)))))))
noncomputable def spec_law : Dn.Spec := fun ws st => if ws.length = 1 then runB true 7 b_law ws st else none
theorem r_law : ∀ ws st r, ws.length = 1 → spec_law ws st = some r → runB true 7 b_law ws st = some r := fun ws st r hl h => by
  unfold spec_law at h
  rw [if_pos hl] at h
  exact h
end D22
namespace Dn
open PySem L2
end Dn
namespace D22
open PySem L2 Dn
theorem cutL_map {α β : Type} (f : α → β) (xs : List α) (o p : Option Int) : cutL (xs.map f) o p = (cutL xs o p).map f := by
  simp only [cutL, List.length_map, List.map_take, List.map_drop]
local macro_rules | `(tactic| walk_at "vc") => `(tactic| try simp (decide := true) only [↓wp_var,cutL_map, List.getElem?_map, ↓wp_lenTx, ↓kLenTx_ap, ↓wp_listRg, ↓kListRg_ap, ↓wp_revS, ↓kRevS_ap, ↓wps_asgIx, ↓kAsgIx_ap, ↓kAsgIx2_ap, ↓kAsgIx3_ap, wt2, ↓wp_tupC, ↓kTupC_ap, ↓wp_fin_t, itemsW_nil, itemsW_d, itemsW_c, frzL_nil, frzL_d, frzL_c, frzC, ↓wp_inv, ↓kInv_ap, ↓wp_star, ↓kStar_ap, ↓kStar2_ap, ↓wp_newR, ↓kNewR_ap, pures_map, gDivmod_ii, gSorted_t, intsD_map, List.drop_succ_cons, List.drop_zero, ↓wp_C, ↓wp_pr, ↓wp_lift2, ↓wp_mk, ↓wp_if, ↓wps_if0, ↓wp_aNil, ↓wp_pNone, ↓wp_yes, ↓wp_op, ↓wp_ix, ↓wp_un, ↓wp_aCons, ↓wp_call, ↓wp_tup, ↓wp_lst, ↓wp_cell, ↓wp_tOf, ↓wp_tBl, ↓wp_tCmp, ↓wp_tNot, ↓wp_tAnd, ↓wp_tOr, ↓wp_eIf, ↓wp_eNot, ↓wp_eAnd, ↓wp_eOr, ↓wp_chain, ↓wp_pSome, ↓wp_sl, ↓wp_fn, ↓wp_app, ↓wp_isCell, ↓wp_meth, ↓wp_methK, ↓wp_fnK, ↓wp_new, ↓wp_newK, ↓wp_s1, ↓wp_eTold, ↓kTold_ap, ↓kToldX_ap, ↓wps_seq, ↓wps_skip, ↓wps_brk, ↓wps_cont, ↓wps_retN, ↓wps_expr, ↓wps_ret, ↓wps_sIf, ↓wps_set, ↓wps_par, ↓wps_asg, ↓wps_raise, ↓wps_for, ↓wps_setIx, ↓wps_fld, ↓wp_runB, ↓wp_fin_d, ↓wp_fin_c, ↓wp_iOf, ↓wp_itTup, ↓wp_itLst, ↓wp_itStr, ↓wp_itScr, ↓wp_itC, ↓wp_rng1, ↓wp_rng2, ↓wp_enum, ↓wp_lc, ↓wp_lcC, ↓wp_ok, ↓wp_exc, ↓wp_none, ↓wpo_some, ↓wpo_none, ↓wpd_d, ↓wpd_c, ↓wpc_c, ↓wpi_int, ↓wpb_bl, ↓wpt_tup, ↓wpj_obj, ↓wpl_lst, ↓wpn_ins, ↓wpo_ite, ↓wpo_map, ↓wpo_bind, ↓wp_bnd, ↓wps_stm, ↓kOp2_ap, ↓kIx2_ap, ↓kCons2_ap, ↓kCmp2_ap, ↓kChain3_ap, ↓kChain2_ap, ↓kSl3_ap, ↓kSl2_ap, ↓kApp2_ap, ↓kMeth2_ap, ↓kMethK2_ap, ↓kFnK2_ap, ↓kNewK2_ap, ↓kS12_ap, ↓kOp_ap, ↓kIx_ap, ↓kUn_ap, ↓kCons_ap, ↓kCall_ap, ↓kTup_ap, ↓kLst_ap, ↓kCell_ap, ↓kTOf_ap, ↓kTBl_ap, ↓kCmp_ap, ↓kNot_ap, ↓kAnd_ap, ↓kOr_ap, ↓kEIf_ap, ↓kENot_ap, ↓kEAnd_ap, ↓kEOr_ap, ↓kChain_ap, ↓kPSome_ap, ↓kSl_ap, ↓kFn_ap, ↓kApp_ap, ↓kIsCell_ap, ↓kMeth_ap, ↓kMethK_ap, ↓kFnK_ap, ↓kNew_ap, ↓kNewK_ap, ↓kS1_ap, ↓kFin_ap, ↓kEx_ap, ↓kEnd_ap, ↓kNo_ap, ↓kX_ap, ↓kSeq_ap, ↓kExpr_ap, ↓kRet_ap, ↓kIf_ap, ↓kSet_ap, ↓kPar_ap, ↓kAsg_ap, ↓kRaise_ap, ↓kFor_ap, ↓kSetIx3_ap, ↓kSetIx2_ap, ↓kSetIx1_ap, ↓kFld2_ap, ↓kFld1_ap, ↓kI_ap, ↓kRng1_ap, ↓kRng2_ap, ↓kEnum_ap, ↓kLc_ap, ↓kLcE_ap, ↓kLcC_ap, gN, gT, gsCons, gsNil, Option.bind_some, Option.map_some, gAdd_ii, gAdd_ss, gAdd_tt, gAdd_ll, gSub_ii, gMul_ii, gDiv_ii, gMod_ii, gPow_ii, gLt_ii, gLe_ii, gGt_ii, gGe_ii, gLt_ss, gLe_ss, gIn_t, gIn_l, gIn_s, gNotIn_t, gNotIn_l, gNotIn_s, gIsN_n, gNotN_n, isN_non, isN_str, isN_int, isN_bl, isN_tup, isN_lst, isN_obj, gNeg_i, gLen_s, gLen_t, gLen_l, gAbs_i, gMax2_i, gMin2_i, gInt_i, gInt_b, gTuple_t, gTuple_l, gList_t, gList_l, gStr_i, gAll_l, gAny_l, gIx_l, gIx_t, gIx_s, gSl_l, gSl_t, gSl_s, truD_n, truD_b, truD_i, truD_s, truD_t, truD_l, view_dd, viewL_dd, vCell_l, vCell_i, view_cc, viewL_cc, viewL_scr, views_nil, wpo_views, pures_nil, pures_d, ixN_natE, ixN_lit, atI_natE, atI_lit, bools_mapE, bools_nil, bools_cons, all_idE, txts_mapE, cutL_to, cutL_toL, cutL_from, cutL_fromL, Int.zero_add, swapG, appG, ← List.map_take, ← List.map_drop, true_or, or_true, false_or, or_false, startW, putD, wipeW, wp1, wp2, wps1, List.length_cons, List.length_nil, List.map_cons, List.map_nil, List.replicate, List.cons_append, List.nil_append, List.append_assoc, List.getElem?_cons_zero, List.getElem?_cons_succ, List.set_cons_zero, List.set_cons_succ, List.take_succ_cons, List.take_zero, List.take_length, app_get, app_get0, app_set, app_set0, app_take, app_take0, List.length_append, List.length_map, gIs, isT, gEq, gNe, dok_str, dok_int, dok_bl, dok_non, dok_tup, dok_lst, eqD_str', eqD_int, inD_strs, dok_strL, List.all_cons, List.all_nil, String.reduceBEq, Bool.not_true, Bool.not_false, Bool.or_false, Bool.or_true, Bool.false_or, Bool.true_or, Bool.and_true, Bool.true_and, Bool.and_false, Bool.false_and, if_true, if_false, reduceCtorEq, Bool.false_eq_true, and_self, true_and, and_true, decide_true, decide_false, decide_eq_true_eq, Bool.not_eq_true', decide_eq_false_iff_not, Nat.zero_add, Nat.reduceAdd, Nat.reduceSub, Nat.reduceLT, Nat.reduceLeDiff, Int.reduceLT, Int.reduceLE, Int.reduceAdd, Int.reduceSub, Int.reduceMul, Int.reduceNeg, Int.reducePow, not_true_eq_false, not_false_eq_true, Nat.sub_self, Nat.lt_irrefl])
local macro_rules | `(tactic| walk_at "vcs") => `(tactic| try simp (decide := true) only [↓wp_var,cutL_map, List.getElem?_map, ↓wp_lenTx, ↓kLenTx_ap, ↓wp_listRg, ↓kListRg_ap, ↓wp_revS, ↓kRevS_ap, ↓wps_asgIx, ↓kAsgIx_ap, ↓kAsgIx2_ap, ↓kAsgIx3_ap, wt2, ↓wp_tupC, ↓kTupC_ap, ↓wp_fin_t, itemsW_nil, itemsW_d, itemsW_c, frzL_nil, frzL_d, frzL_c, frzC, ↓wp_inv, ↓kInv_ap, ↓wp_star, ↓kStar_ap, ↓kStar2_ap, ↓wp_newR, ↓kNewR_ap, pures_map, gDivmod_ii, gSorted_t, intsD_map, List.drop_succ_cons, List.drop_zero, ↓wp_C, ↓wp_pr, ↓wp_lift2, ↓wp_mk, ↓wp_if, ↓wps_if0, ↓wp_aNil, ↓wp_pNone, ↓wp_yes, ↓wp_op, ↓wp_ix, ↓wp_un, ↓wp_aCons, ↓wp_call, ↓wp_tup, ↓wp_lst, ↓wp_cell, ↓wp_tOf, ↓wp_tBl, ↓wp_tCmp, ↓wp_tNot, ↓wp_tAnd, ↓wp_tOr, ↓wp_eIf, ↓wp_eNot, ↓wp_eAnd, ↓wp_eOr, ↓wp_chain, ↓wp_pSome, ↓wp_sl, ↓wp_fn, ↓wp_app, ↓wp_isCell, ↓wp_meth, ↓wp_methK, ↓wp_fnK, ↓wp_new, ↓wp_newK, ↓wp_s1, ↓wp_eTold, ↓kTold_ap, ↓kToldX_ap, ↓wps_seq, ↓wps_skip, ↓wps_brk, ↓wps_cont, ↓wps_retN, ↓wps_expr, ↓wps_ret, ↓wps_sIf, ↓wps_set, ↓wps_par, ↓wps_asg, ↓wps_raise, ↓wps_for, ↓wps_setIx, ↓wps_fld, ↓wp_runB, ↓wp_fin_d, ↓wp_fin_c, ↓wp_iOf, ↓wp_itTup, ↓wp_itLst, ↓wp_itStr, ↓wp_itScr, ↓wp_itC, ↓wp_rng1, ↓wp_rng2, ↓wp_enum, ↓wp_lc, ↓wp_lcC, ↓wp_ok, ↓wp_exc, ↓wp_none, ↓wpo_some, ↓wpo_none, ↓wpd_d, ↓wpd_c, ↓wpc_c, ↓wpi_int, ↓wpb_bl, ↓wpt_tup, ↓wpj_obj, ↓wpl_lst, ↓wpn_ins, ↓wpo_ite, ↓wpo_map, ↓wpo_bind, ↓wp_bnd, ↓wps_stm, ↓kOp2_ap, ↓kIx2_ap, ↓kCons2_ap, ↓kCmp2_ap, ↓kChain3_ap, ↓kChain2_ap, ↓kSl3_ap, ↓kSl2_ap, ↓kApp2_ap, ↓kMeth2_ap, ↓kMethK2_ap, ↓kFnK2_ap, ↓kNewK2_ap, ↓kS12_ap, ↓kOp_ap, ↓kIx_ap, ↓kUn_ap, ↓kCons_ap, ↓kCall_ap, ↓kTup_ap, ↓kLst_ap, ↓kCell_ap, ↓kTOf_ap, ↓kTBl_ap, ↓kCmp_ap, ↓kNot_ap, ↓kAnd_ap, ↓kOr_ap, ↓kEIf_ap, ↓kENot_ap, ↓kEAnd_ap, ↓kEOr_ap, ↓kChain_ap, ↓kPSome_ap, ↓kSl_ap, ↓kFn_ap, ↓kApp_ap, ↓kIsCell_ap, ↓kMeth_ap, ↓kMethK_ap, ↓kFnK_ap, ↓kNew_ap, ↓kNewK_ap, ↓kS1_ap, ↓kFin_ap, ↓kEx_ap, ↓kEnd_ap, ↓kNo_ap, ↓kX_ap, ↓kSeq_ap, ↓kExpr_ap, ↓kRet_ap, ↓kIf_ap, ↓kSet_ap, ↓kPar_ap, ↓kAsg_ap, ↓kRaise_ap, ↓kFor_ap, ↓kSetIx3_ap, ↓kSetIx2_ap, ↓kSetIx1_ap, ↓kFld2_ap, ↓kFld1_ap, ↓kI_ap, ↓kRng1_ap, ↓kRng2_ap, ↓kEnum_ap, ↓kLc_ap, ↓kLcE_ap, ↓kLcC_ap, gN, gT, gsCons, gsNil, Option.bind_some, Option.map_some, gAdd_ii, gAdd_ss, gAdd_tt, gAdd_ll, gSub_ii, gMul_ii, gDiv_ii, gMod_ii, gPow_ii, gLt_ii, gLe_ii, gGt_ii, gGe_ii, gLt_ss, gLe_ss, gIn_t, gIn_l, gIn_s, gNotIn_t, gNotIn_l, gNotIn_s, gIsN_n, gNotN_n, isN_non, isN_str, isN_int, isN_bl, isN_tup, isN_lst, isN_obj, gNeg_i, gLen_s, gLen_t, gLen_l, gAbs_i, gMax2_i, gMin2_i, gInt_i, gInt_b, gTuple_t, gTuple_l, gList_t, gList_l, gStr_i, gAll_l, gAny_l, gIx_l, gIx_t, gIx_s, gSl_l, gSl_t, gSl_s, truD_n, truD_b, truD_i, truD_s, truD_t, truD_l, view_dd, viewL_dd, vCell_l, vCell_i, view_cc, viewL_cc, viewL_scr, views_nil, wpo_views, pures_nil, pures_d, ixN_natE, ixN_lit, atI_natE, atI_lit, bools_mapE, bools_nil, bools_cons, all_idE, txts_mapE, cutL_to, cutL_toL, cutL_from, cutL_fromL, Int.zero_add, swapG, appG, ← List.map_take, ← List.map_drop, true_or, or_true, false_or, or_false, startW, putD, wipeW, wp1, wp2, wps1, List.length_cons, List.length_nil, List.map_cons, List.map_nil, List.replicate, List.cons_append, List.nil_append, List.append_assoc, List.getElem?_cons_zero, List.getElem?_cons_succ, List.set_cons_zero, List.set_cons_succ, List.take_succ_cons, List.take_zero, List.take_length, app_get, app_get0, app_set, app_set0, app_take, app_take0, List.length_append, List.length_map, gIs, isT, gEq, gNe, dok_str, dok_int, dok_bl, dok_non, dok_tup, dok_lst, eqD_str', eqD_int, inD_strs, dok_strL, List.all_cons, List.all_nil, String.reduceBEq, Bool.not_true, Bool.not_false, Bool.or_false, Bool.or_true, Bool.false_or, Bool.true_or, Bool.and_true, Bool.true_and, Bool.and_false, Bool.false_and, if_true, if_false, reduceCtorEq, Bool.false_eq_true, and_self, true_and, and_true, decide_true, decide_false, decide_eq_true_eq, Bool.not_eq_true', decide_eq_false_iff_not, Nat.zero_add, Nat.reduceAdd, Nat.reduceSub, Nat.reduceLT, Nat.reduceLeDiff, Int.reduceLT, Int.reduceLE, Int.reduceAdd, Int.reduceSub, Int.reduceMul, Int.reduceNeg, Int.reducePow, not_true_eq_false, not_false_eq_true, Nat.sub_self, Nat.lt_irrefl, *])
local macro_rules | `(tactic| walk_at "vn") => `(tactic| try simp (decide := true) only [↓wp_var,cutL_map, List.getElem?_map, ↓wp_lenTx, ↓kLenTx_ap, ↓wp_listRg, ↓kListRg_ap, ↓wp_revS, ↓kRevS_ap, ↓wps_asgIx, ↓kAsgIx_ap, ↓kAsgIx2_ap, ↓kAsgIx3_ap, wt2, ↓wp_tupC, ↓kTupC_ap, ↓wp_fin_t, itemsW_nil, itemsW_d, itemsW_c, frzL_nil, frzL_d, frzL_c, frzC, ↓wp_inv, ↓kInv_ap, ↓wp_star, ↓kStar_ap, ↓kStar2_ap, ↓wp_newR, ↓kNewR_ap, pures_map, gDivmod_ii, gSorted_t, intsD_map, List.drop_succ_cons, List.drop_zero, ↓wp_C, ↓wp_pr, ↓wp_lift2, ↓wp_mk, ↓wp_if, ↓wps_if0, ↓wp_aNil, ↓wp_pNone, ↓wp_yes, ↓wp_op, ↓wp_ix, ↓wp_un, ↓wp_aCons, ↓wp_call, ↓wp_tup, ↓wp_lst, ↓wp_cell, ↓wp_tOf, ↓wp_tBl, ↓wp_tCmp, ↓wp_tNot, ↓wp_tAnd, ↓wp_tOr, ↓wp_eIf, ↓wp_eNot, ↓wp_eAnd, ↓wp_eOr, ↓wp_chain, ↓wp_pSome, ↓wp_sl, ↓wp_fn, ↓wp_app, ↓wp_isCell, ↓wp_meth, ↓wp_methK, ↓wp_fnK, ↓wp_new, ↓wp_newK, ↓wp_s1, ↓wp_eTold, ↓kTold_ap, ↓kToldX_ap, ↓wps_seq, ↓wps_skip, ↓wps_brk, ↓wps_cont, ↓wps_retN, ↓wps_expr, ↓wps_ret, ↓wps_set, ↓wps_par, ↓wps_asg, ↓wps_raise, ↓wps_for, ↓wps_setIx, ↓wps_fld, ↓wp_runB, ↓wp_fin_d, ↓wp_fin_c, ↓wp_iOf, ↓wp_itTup, ↓wp_itLst, ↓wp_itStr, ↓wp_itScr, ↓wp_itC, ↓wp_rng1, ↓wp_rng2, ↓wp_enum, ↓wp_lc, ↓wp_lcC, ↓wp_ok, ↓wp_exc, ↓wp_none, ↓wpo_some, ↓wpo_none, ↓wpd_d, ↓wpd_c, ↓wpc_c, ↓wpi_int, ↓wpb_bl, ↓wpt_tup, ↓wpj_obj, ↓wpl_lst, ↓wpn_ins, ↓wpo_ite, ↓wpo_map, ↓wpo_bind, ↓wp_bnd, ↓wps_stm, ↓kOp2_ap, ↓kIx2_ap, ↓kCons2_ap, ↓kCmp2_ap, ↓kChain3_ap, ↓kChain2_ap, ↓kSl3_ap, ↓kSl2_ap, ↓kApp2_ap, ↓kMeth2_ap, ↓kMethK2_ap, ↓kFnK2_ap, ↓kNewK2_ap, ↓kS12_ap, ↓kOp_ap, ↓kIx_ap, ↓kUn_ap, ↓kCons_ap, ↓kCall_ap, ↓kTup_ap, ↓kLst_ap, ↓kCell_ap, ↓kTOf_ap, ↓kTBl_ap, ↓kCmp_ap, ↓kNot_ap, ↓kAnd_ap, ↓kOr_ap, ↓kEIf_ap, ↓kENot_ap, ↓kEAnd_ap, ↓kEOr_ap, ↓kChain_ap, ↓kPSome_ap, ↓kSl_ap, ↓kFn_ap, ↓kApp_ap, ↓kIsCell_ap, ↓kMeth_ap, ↓kMethK_ap, ↓kFnK_ap, ↓kNew_ap, ↓kNewK_ap, ↓kS1_ap, ↓kFin_ap, ↓kEx_ap, ↓kEnd_ap, ↓kNo_ap, ↓kX_ap, ↓kSeq_ap, ↓kExpr_ap, ↓kRet_ap, ↓kIf_ap, ↓kSet_ap, ↓kPar_ap, ↓kAsg_ap, ↓kRaise_ap, ↓kFor_ap, ↓kSetIx3_ap, ↓kSetIx2_ap, ↓kSetIx1_ap, ↓kFld2_ap, ↓kFld1_ap, ↓kI_ap, ↓kRng1_ap, ↓kRng2_ap, ↓kEnum_ap, ↓kLc_ap, ↓kLcE_ap, ↓kLcC_ap, gN, gT, gsCons, gsNil, Option.bind_some, Option.map_some, gAdd_ii, gAdd_ss, gAdd_tt, gAdd_ll, gSub_ii, gMul_ii, gDiv_ii, gMod_ii, gPow_ii, gLt_ii, gLe_ii, gGt_ii, gGe_ii, gLt_ss, gLe_ss, gIn_t, gIn_l, gIn_s, gNotIn_t, gNotIn_l, gNotIn_s, gIsN_n, gNotN_n, isN_non, isN_str, isN_int, isN_bl, isN_tup, isN_lst, isN_obj, gNeg_i, gLen_s, gLen_t, gLen_l, gAbs_i, gMax2_i, gMin2_i, gInt_i, gInt_b, gTuple_t, gTuple_l, gList_t, gList_l, gStr_i, gAll_l, gAny_l, gIx_l, gIx_t, gIx_s, gSl_l, gSl_t, gSl_s, truD_n, truD_b, truD_i, truD_s, truD_t, truD_l, view_dd, viewL_dd, vCell_l, vCell_i, view_cc, viewL_cc, viewL_scr, views_nil, wpo_views, pures_nil, pures_d, ixN_natE, ixN_lit, atI_natE, atI_lit, bools_mapE, bools_nil, bools_cons, all_idE, txts_mapE, cutL_to, cutL_toL, cutL_from, cutL_fromL, Int.zero_add, swapG, appG, ← List.map_take, ← List.map_drop, true_or, or_true, false_or, or_false, startW, putD, wipeW, wp1, wp2, wps1, List.length_cons, List.length_nil, List.map_cons, List.map_nil, List.replicate, List.cons_append, List.nil_append, List.append_assoc, List.getElem?_cons_zero, List.getElem?_cons_succ, List.set_cons_zero, List.set_cons_succ, List.take_succ_cons, List.take_zero, List.take_length, app_get, app_get0, app_set, app_set0, app_take, app_take0, List.length_append, List.length_map, gIs, isT, gEq, gNe, dok_str, dok_int, dok_bl, dok_non, dok_tup, dok_lst, eqD_str', eqD_int, inD_strs, dok_strL, List.all_cons, List.all_nil, String.reduceBEq, Bool.not_true, Bool.not_false, Bool.or_false, Bool.or_true, Bool.false_or, Bool.true_or, Bool.and_true, Bool.true_and, Bool.and_false, Bool.false_and, if_true, if_false, reduceCtorEq, Bool.false_eq_true, and_self, true_and, and_true, decide_true, decide_false, decide_eq_true_eq, Bool.not_eq_true', decide_eq_false_iff_not, Nat.zero_add, Nat.reduceAdd, Nat.reduceSub, Nat.reduceLT, Nat.reduceLeDiff, Int.reduceLT, Int.reduceLE, Int.reduceAdd, Int.reduceSub, Int.reduceMul, Int.reduceNeg, Int.reducePow, not_true_eq_false, not_false_eq_true, Nat.sub_self, Nat.lt_irrefl])
structure Dl where
  a : Int
  b : Int
  c : Int
def Dl.cell (q : Dl) : Cell := .lst [.int q.a, .int q.b, .int q.c]
def Dl.ok (q : Dl) : Prop := 0 ≤ q.b ∧ q.b < 2147483423
theorem wp_pick {pre rest : Sto} {q : Dl} {n : Int} {Q : W → Sto → Prop} {X : XP} (hq : q.ok) (hn : 0 < n ∧ n < 1073741824) (h : ∀ (v : Int) (q' : Dl), 0 ≤ v → v < n → q'.ok → Q (.d (.int v)) (pre ++ q'.cell :: rest)) :
    wp (spec_law_pick [.c pre.length, .d (.int n)] (pre ++ q.cell :: rest)) Q X := by
  obtain ⟨a, b, c⟩ := q
  unfold spec_law_pick b_law_pick
  unfold Dl.cell
  walk_at "vc"
  obtain ⟨h1, h2⟩ := hq
  simp only at h1 h2
  split
  · exact ⟨hn.1, hn, h _ ⟨_, _, _⟩ (Int.emod_nonneg _ (by omega)) (Int.emod_lt_of_pos _ hn.1) ⟨h1, h2⟩⟩
  · exact ⟨.inl (by omega), hn.1, h _ ⟨_, _, _⟩ (Int.emod_nonneg _ (by omega)) (Int.emod_lt_of_pos _ hn.1) ⟨Int.emod_nonneg _ (by decide), Int.emod_lt_of_pos _ (by decide)⟩⟩
theorem wp_deal {st : Sto} {x : Int} {Q : W → Sto → Prop} {X : XP} (h : ∀ q : Dl, q.ok → Q (.c st.length) (st ++ [q.cell])) : wp (spec_law_deal [.d (.int x)] st) Q X := by
  unfold spec_law_deal b_law_deal
  walk_at "vc"
  have z : ∀ a : Int, Q (.c st.length) (st ++ [Cell.lst [.int a, .int (x % 2147483423), .int 0]]) := fun a => h ⟨a, _, 0⟩ ⟨Int.emod_nonneg _ (by decide), Int.emod_lt_of_pos _ (by decide)⟩
  split
  · exact z _
  · split
    · exact z _
    · exact z _
theorem wp_number {ns : List Int} {k : Nat} {st : Sto} {Q : W → Sto → Prop} {X : XP} (h : ∀ x : Int, Q (.d (.int x)) st) : wp (spec_law_number [.scr ns, .d (.int k)] st) Q X := by
  unfold spec_law_number b_law_number
  walk_at "vc"
  split
  · rename_i hk
    have hk : k < ns.length := by omega
    rw [List.getElem?_eq_getElem hk]
    walk_at "vc"
    exact h _
  · refine wps_forM (f := D.int) (fun _ sl st' => ∃ m a b, sl = [some (.scr ns), some (.d (.int k)), some (.d (.int m)), a, b] ∧ st' = st) ⟨_, _, _, rfl, rfl⟩ ?_ ?_
    · rintro x xs sl st' ⟨m, a, b, rfl, rfl⟩
      walk_at "vc"
      exact ⟨_, _, _, rfl⟩
    · rintro sl st' ⟨m, a, b, rfl, rfl⟩
      walk_at "vc"
      exact h _
end D22
set_option maxHeartbeats 1000000
namespace D22
open PySem L2 Dn Ft
def vs14 : List Str := ["NotASchema", "NotATree", "NotAWriter", "NotAPattern", "UnknownKind", "UnknownConstructor", "UnknownMode", "InvalidText", "InvalidPath", "InvalidTree", "InvalidNumber", "InvalidStart", "InvalidString", "InvalidLine"]
def ix10 : List Str := ["InvalidKinds", "InvalidConstructors", "InvalidFields", "InvalidRows", "InvalidRules", "InvalidSigns", "InvalidGood", "InvalidMoves", "InvalidDeed", "InvalidWriters"]
def tp8 : List Str := ["TooManyRows", "TooManyJoins", "TooManyFaces", "TooManyDeeds", "TooManyRows", "TooManyJoins", "TooManyFaces", "TooManyDeeds"]
def xv (f : Str) (x : D) (c : Str) : D := .exn c [(f, x)]
def isB (c n : Str) : Bool := match xTab.lookup c with
  | some l => l.contains n
  | none => false
structure EC where
  c : Str
  h : (xTab.lookup c).isSome = true
def exE (e : EC) (fs : List (Str × D)) : D := .exn e.c fs
theorem gIsX_e {n : Str} {e : EC} {fs : List (Str × D)} : gIsX xTab n (exE e fs) = some (.bl (isB e.c n)) := by
  obtain ⟨c, h⟩ := e
  obtain ⟨l, hl⟩ := Option.isSome_iff_exists.mp h
  show (xTab.lookup c).map _ = _
  unfold isB
  rw [hl]
  rfl
theorem wp_exnZ2 {c : Str} {QW : W → Sto → Prop} {XP' : XP} {sl : Slo} {st : Sto} : wp (eExnZ c sl st) QW XP' = QW (.d (.exn c [])) st := propext ⟨fun h => h, fun h => h⟩
theorem kExn1 {c f : Str} {x : D} {QW : W → Sto → Prop} {st : Sto} : kExn c [f] QW [.d x] st = QW (.d (.exn c [(f, x)])) st := by
  rw [kExn_ap]
  exact propext ⟨fun h => h.2, fun h => ⟨rfl, h⟩⟩
theorem kExn2 {c f g : Str} {x y : D} {QW : W → Sto → Prop} {st : Sto} : kExn c [f, g] QW [.d x, .d y] st = QW (.d (.exn c [(f, x), (g, y)])) st := by
  rw [kExn_ap]
  exact propext ⟨fun h => h.2, fun h => ⟨rfl, h⟩⟩
theorem kExnK1 {c f : Str} {x : D} {QW : W → Sto → Prop} {st : Sto} : kExnK c [f] QW [.d x] st = QW (.d (.exn c [(f, x)])) st := by
  rw [kExnK_ap]
  exact propext ⟨fun h => h.2, fun h => ⟨rfl, h⟩⟩
theorem kExnK2 {c f g : Str} {x y : D} {QW : W → Sto → Prop} {st : Sto} : kExnK c [f, g] QW [.d x, .d y] st = QW (.d (.exn c [(f, y), (g, x)])) st := by
  rw [kExnK_ap]
  exact propext ⟨fun h => h.2, fun h => ⟨rfl, h⟩⟩
theorem gXf_is {cs : List Str} {f c : Str} {fs : List (Str × D)} (h : c ∈ cs) : gXf cs f (.exn c fs) = fs.lookup f := if_pos h
theorem gx_kind {x : D} : gXf ["EmptyKind"] "kind" (.exn "EmptyKind" [("kind", x)]) = some x := (gXf_is (by decide)).trans rfl
theorem gx_kindP {x : D} {k : D → Prop} : wpo (gXf ["EmptyKind"] "kind" (.exn "EmptyKind" [("kind", x)])) k = k x := by rw [gx_kind]; rfl
theorem gx_tree {x : D} : gXf ["Unlike", "Refused"] "tree" (.exn "Unlike" [("tree", x)]) = some x := (gXf_is (by decide)).trans rfl
theorem gx_treeP {x : D} {k : D → Prop} : wpo (gXf ["Unlike", "Refused"] "tree" (.exn "Unlike" [("tree", x)])) k = k x := by rw [gx_tree]; rfl
theorem gx_tree2 {x y : D} : gXf ["Unlike", "Refused"] "tree" (.exn "Refused" [("deed", x), ("tree", y)]) = some y := (gXf_is (by decide)).trans rfl
theorem gx_tree2P {x y : D} {k : D → Prop} : wpo (gXf ["Unlike", "Refused"] "tree" (.exn "Refused" [("deed", x), ("tree", y)])) k = k y := by rw [gx_tree2]; rfl
theorem gx_deed {x y : D} : gXf ["Refused"] "deed" (.exn "Refused" [("deed", x), ("tree", y)]) = some x := (gXf_is (by decide)).trans rfl
theorem gx_deedP {x y : D} {k : D → Prop} : wpo (gXf ["Refused"] "deed" (.exn "Refused" [("deed", x), ("tree", y)])) k = k x := by rw [gx_deed]; rfl
theorem gx_mode {x y : D} : gXf ["MissingRule"] "mode" (.exn "MissingRule" [("mode", x), ("name", y)]) = some x := (gXf_is (by decide)).trans rfl
theorem gx_modeP {x y : D} {k : D → Prop} : wpo (gXf ["MissingRule"] "mode" (.exn "MissingRule" [("mode", x), ("name", y)])) k = k x := by rw [gx_mode]; rfl
theorem gx_name {x y : D} : gXf ["MissingRule"] "name" (.exn "MissingRule" [("mode", x), ("name", y)]) = some y := (gXf_is (by decide)).trans rfl
theorem gx_nameP {x y : D} {k : D → Prop} : wpo (gXf ["MissingRule"] "name" (.exn "MissingRule" [("mode", x), ("name", y)])) k = k y := by rw [gx_name]; rfl
theorem gx_found {x : D} : gXf ["TooLong"] "found" (.exn "TooLong" [("found", x)]) = some x := (gXf_is (by decide)).trans rfl
theorem gx_foundP {x : D} {k : D → Prop} : wpo (gXf ["TooLong"] "found" (.exn "TooLong" [("found", x)])) k = k x := by rw [gx_found]; rfl
theorem rep1 {x : D} {n : Nat} : (List.replicate n [x]).flatten = List.replicate n x := by
  induction n with
  | zero => rfl
  | succ n ih => rw [List.replicate_succ, List.flatten_cons, ih, List.replicate_succ]; rfl
theorem rep4 {x y : D} : (List.replicate (Int.toNat 4) [x, y]).flatten = [x, y, x, y, x, y, x, y] := rfl
theorem rep4x {x : D} : (List.replicate (Int.toNat 4) [x]).flatten = [x, x, x, x] := rfl
theorem gIsX_eP {n : Str} {e : EC} {fs : List (Str × D)} {k : D → Prop} : wpo (gIsX xTab n (exE e fs)) k = k (.bl (isB e.c n)) := by rw [gIsX_e]; rfl
theorem wpo_ixL {ds : List D} {i : Int} {k : D → Prop} : wpo (gIx (.lst ds) (.int i)) k = wpo (atI ds i) k := by rw [gIx_l]
theorem wpo_atL {ds : List D} {n : Nat} {k : D → Prop} : wpo (atI ds (no_index (OfNat.ofNat n : Int))) k = wpo (ds[(OfNat.ofNat n : Nat)]?) k := by rw [atI_lit]
theorem wpo_gz {a : D} {ds : List D} {k : D → Prop} : wpo ((a :: ds)[0]?) k = k a := by rw [List.getElem?_cons_zero]; rfl
theorem wpo_gs {a : D} {ds : List D} {n : Nat} {k : D → Prop} : wpo ((a :: ds)[n + 1]?) k = wpo (ds[n]?) k := by rw [List.getElem?_cons_succ]
theorem wpo_vw {st : Sto} {d : D} {k : D → Prop} : wpo (view st (.d d)) k = k d := by rw [view_dd]; rfl
local macro_rules | `(tactic| walk_at "vc") => `(tactic| try simp (decide := true) only [↓wp_var,↓wpo_vw, ↓wpo_ixL, ↓wpo_atL, ↓wpo_gz, ↓wpo_gs, ↓gx_kindP, ↓gx_treeP, ↓gx_tree2P, ↓gx_deedP, ↓gx_modeP, ↓gx_nameP, ↓gx_foundP, rep4, rep4x, ↓gIsX_eP, ↓wp_exn, ↓kExn1, ↓kExn2, ↓wp_exnK, ↓kExnK1, ↓kExnK2, ↓wp_exnZ2, ↓wp_isLst, ↓kIsLst_ap, ↓wp_lm, ↓kLm_ap, ↓kLm2_ap, wpdl_l, gMulR_l, ↓wp_lenTx, ↓kLenTx_ap, ↓wp_listRg, ↓kListRg_ap, ↓wp_revS, ↓kRevS_ap, ↓wps_asgIx, ↓kAsgIx_ap, ↓kAsgIx2_ap, ↓kAsgIx3_ap, wt2, ↓wp_tupC, ↓kTupC_ap, ↓wp_fin_t, itemsW_nil, itemsW_d, itemsW_c, frzL_nil, frzL_d, frzL_c, frzC, ↓wp_inv, ↓kInv_ap, ↓wp_star, ↓kStar_ap, ↓kStar2_ap, ↓wp_newR, ↓kNewR_ap, pures_map, gDivmod_ii, gSorted_t, intsD_map, List.drop_succ_cons, List.drop_zero, ↓wp_C, ↓wp_pr, ↓wp_lift2, ↓wp_mk, ↓wp_if, ↓wps_if0, ↓wp_aNil, ↓wp_pNone, ↓wp_yes, ↓wp_op, ↓wp_ix, ↓wp_un, ↓wp_aCons, ↓wp_call, ↓wp_tup, ↓wp_lst, ↓wp_cell, ↓wp_tOf, ↓wp_tBl, ↓wp_tCmp, ↓wp_tNot, ↓wp_tAnd, ↓wp_tOr, ↓wp_eIf, ↓wp_eNot, ↓wp_eAnd, ↓wp_eOr, ↓wp_chain, ↓wp_pSome, ↓wp_sl, ↓wp_fn, ↓wp_app, ↓wp_isCell, ↓wp_meth, ↓wp_methK, ↓wp_fnK, ↓wp_new, ↓wp_newK, ↓wp_s1, ↓wp_eTold, ↓kTold_ap, ↓kToldX_ap, ↓wps_seq, ↓wps_skip, ↓wps_brk, ↓wps_cont, ↓wps_retN, ↓wps_expr, ↓wps_ret, ↓wps_sIf, ↓wps_set, ↓wps_par, ↓wps_asg, ↓wps_raise, ↓wps_for, ↓wps_setIx, ↓wps_fld, ↓wp_runB, ↓wp_fin_d, ↓wp_fin_c, ↓wp_iOf, ↓wp_itTup, ↓wp_itLst, ↓wp_itStr, ↓wp_itScr, ↓wp_itC, ↓wp_rng1, ↓wp_rng2, ↓wp_enum, ↓wp_lc, ↓wp_lcC, ↓wp_ok, ↓wp_exc, ↓wp_none, ↓wpo_some, ↓wpo_none, ↓wpd_d, ↓wpd_c, ↓wpc_c, ↓wpi_int, ↓wpb_bl, ↓wpt_tup, ↓wpj_obj, ↓wpl_lst, ↓wpn_ins, ↓wpo_ite, ↓wpo_map, ↓wpo_bind, ↓wp_bnd, ↓wps_stm, ↓kOp2_ap, ↓kIx2_ap, ↓kCons2_ap, ↓kCmp2_ap, ↓kChain3_ap, ↓kChain2_ap, ↓kSl3_ap, ↓kSl2_ap, ↓kApp2_ap, ↓kMeth2_ap, ↓kMethK2_ap, ↓kFnK2_ap, ↓kNewK2_ap, ↓kS12_ap, ↓kOp_ap, ↓kIx_ap, ↓kUn_ap, ↓kCons_ap, ↓kCall_ap, ↓kTup_ap, ↓kLst_ap, ↓kCell_ap, ↓kTOf_ap, ↓kTBl_ap, ↓kCmp_ap, ↓kNot_ap, ↓kAnd_ap, ↓kOr_ap, ↓kEIf_ap, ↓kENot_ap, ↓kEAnd_ap, ↓kEOr_ap, ↓kChain_ap, ↓kPSome_ap, ↓kSl_ap, ↓kFn_ap, ↓kApp_ap, ↓kIsCell_ap, ↓kMeth_ap, ↓kMethK_ap, ↓kFnK_ap, ↓kNew_ap, ↓kNewK_ap, ↓kS1_ap, ↓kFin_ap, ↓kEx_ap, ↓kEnd_ap, ↓kNo_ap, ↓kX_ap, ↓kSeq_ap, ↓kExpr_ap, ↓kRet_ap, ↓kIf_ap, ↓kSet_ap, ↓kPar_ap, ↓kAsg_ap, ↓kRaise_ap, ↓kFor_ap, ↓kSetIx3_ap, ↓kSetIx2_ap, ↓kSetIx1_ap, ↓kFld2_ap, ↓kFld1_ap, ↓kI_ap, ↓kRng1_ap, ↓kRng2_ap, ↓kEnum_ap, ↓kLc_ap, ↓kLcE_ap, ↓kLcC_ap, gN, gT, gsCons, gsNil, Option.bind_some, Option.map_some, gAdd_ii, gAdd_ss, gAdd_tt, gAdd_ll, gSub_ii, gMul_ii, gDiv_ii, gMod_ii, gPow_ii, gLt_ii, gLe_ii, gGt_ii, gGe_ii, gLt_ss, gLe_ss, gIn_t, gIn_l, gIn_s, gNotIn_t, gNotIn_l, gNotIn_s, gIsN_n, gNotN_n, isN_non, isN_str, isN_int, isN_bl, isN_tup, isN_lst, isN_obj, gNeg_i, gLen_s, gLen_t, gLen_l, gAbs_i, gMax2_i, gMin2_i, gInt_i, gInt_b, gTuple_t, gTuple_l, gList_t, gList_l, gStr_i, gAll_l, gAny_l, gIx_l, gIx_t, gIx_s, gSl_l, gSl_t, gSl_s, truD_n, truD_b, truD_i, truD_s, truD_t, truD_l, view_dd, viewL_dd, vCell_l, vCell_i, view_cc, viewL_cc, viewL_scr, views_nil, wpo_views, pures_nil, pures_d, ixN_natE, ixN_lit, atI_natE, atI_lit, bools_mapE, bools_nil, bools_cons, all_idE, txts_mapE, cutL_to, cutL_toL, cutL_from, cutL_fromL, Int.zero_add, swapG, appG, ← List.map_take, ← List.map_drop, true_or, or_true, false_or, or_false, startW, putD, wipeW, wp1, wp2, wps1, List.length_cons, List.length_nil, List.map_cons, List.map_nil, List.replicate, List.cons_append, List.nil_append, List.append_assoc, List.getElem?_cons_zero, List.getElem?_cons_succ, List.set_cons_zero, List.set_cons_succ, List.take_succ_cons, List.take_zero, List.take_length, app_get, app_get0, app_set, app_set0, app_take, app_take0, List.length_append, List.length_map, gIs, isT, gEq, gNe, dok_str, dok_int, dok_bl, dok_non, dok_tup, dok_lst, eqD_str', eqD_int, inD_strs, dok_strL, List.all_cons, List.all_nil, String.reduceBEq, Bool.not_true, Bool.not_false, Bool.or_false, Bool.or_true, Bool.false_or, Bool.true_or, Bool.and_true, Bool.true_and, Bool.and_false, Bool.false_and, if_true, if_false, reduceCtorEq, Bool.false_eq_true, and_self, true_and, and_true, decide_true, decide_false, decide_eq_true_eq, Bool.not_eq_true', decide_eq_false_iff_not, Nat.zero_add, Nat.reduceAdd, Nat.reduceSub, Nat.reduceLT, Nat.reduceLeDiff, Int.reduceLT, Int.reduceLE, Int.reduceAdd, Int.reduceSub, Int.reduceMul, Int.reduceNeg, Int.reducePow, not_true_eq_false, not_false_eq_true, Nat.sub_self, Nat.lt_irrefl])
local macro_rules | `(tactic| walk_at "vcs") => `(tactic| try simp (decide := true) only [↓wp_var,↓wpo_vw, ↓wpo_ixL, ↓wpo_atL, ↓wpo_gz, ↓wpo_gs, ↓gx_kindP, ↓gx_treeP, ↓gx_tree2P, ↓gx_deedP, ↓gx_modeP, ↓gx_nameP, ↓gx_foundP, rep4, rep4x, ↓gIsX_eP, ↓wp_exn, ↓kExn1, ↓kExn2, ↓wp_exnK, ↓kExnK1, ↓kExnK2, ↓wp_exnZ2, ↓wp_isLst, ↓kIsLst_ap, ↓wp_lm, ↓kLm_ap, ↓kLm2_ap, wpdl_l, gMulR_l, ↓wp_lenTx, ↓kLenTx_ap, ↓wp_listRg, ↓kListRg_ap, ↓wp_revS, ↓kRevS_ap, ↓wps_asgIx, ↓kAsgIx_ap, ↓kAsgIx2_ap, ↓kAsgIx3_ap, wt2, ↓wp_tupC, ↓kTupC_ap, ↓wp_fin_t, itemsW_nil, itemsW_d, itemsW_c, frzL_nil, frzL_d, frzL_c, frzC, ↓wp_inv, ↓kInv_ap, ↓wp_star, ↓kStar_ap, ↓kStar2_ap, ↓wp_newR, ↓kNewR_ap, pures_map, gDivmod_ii, gSorted_t, intsD_map, List.drop_succ_cons, List.drop_zero, ↓wp_C, ↓wp_pr, ↓wp_lift2, ↓wp_mk, ↓wp_if, ↓wps_if0, ↓wp_aNil, ↓wp_pNone, ↓wp_yes, ↓wp_op, ↓wp_ix, ↓wp_un, ↓wp_aCons, ↓wp_call, ↓wp_tup, ↓wp_lst, ↓wp_cell, ↓wp_tOf, ↓wp_tBl, ↓wp_tCmp, ↓wp_tNot, ↓wp_tAnd, ↓wp_tOr, ↓wp_eIf, ↓wp_eNot, ↓wp_eAnd, ↓wp_eOr, ↓wp_chain, ↓wp_pSome, ↓wp_sl, ↓wp_fn, ↓wp_app, ↓wp_isCell, ↓wp_meth, ↓wp_methK, ↓wp_fnK, ↓wp_new, ↓wp_newK, ↓wp_s1, ↓wp_eTold, ↓kTold_ap, ↓kToldX_ap, ↓wps_seq, ↓wps_skip, ↓wps_brk, ↓wps_cont, ↓wps_retN, ↓wps_expr, ↓wps_ret, ↓wps_sIf, ↓wps_set, ↓wps_par, ↓wps_asg, ↓wps_raise, ↓wps_for, ↓wps_setIx, ↓wps_fld, ↓wp_runB, ↓wp_fin_d, ↓wp_fin_c, ↓wp_iOf, ↓wp_itTup, ↓wp_itLst, ↓wp_itStr, ↓wp_itScr, ↓wp_itC, ↓wp_rng1, ↓wp_rng2, ↓wp_enum, ↓wp_lc, ↓wp_lcC, ↓wp_ok, ↓wp_exc, ↓wp_none, ↓wpo_some, ↓wpo_none, ↓wpd_d, ↓wpd_c, ↓wpc_c, ↓wpi_int, ↓wpb_bl, ↓wpt_tup, ↓wpj_obj, ↓wpl_lst, ↓wpn_ins, ↓wpo_ite, ↓wpo_map, ↓wpo_bind, ↓wp_bnd, ↓wps_stm, ↓kOp2_ap, ↓kIx2_ap, ↓kCons2_ap, ↓kCmp2_ap, ↓kChain3_ap, ↓kChain2_ap, ↓kSl3_ap, ↓kSl2_ap, ↓kApp2_ap, ↓kMeth2_ap, ↓kMethK2_ap, ↓kFnK2_ap, ↓kNewK2_ap, ↓kS12_ap, ↓kOp_ap, ↓kIx_ap, ↓kUn_ap, ↓kCons_ap, ↓kCall_ap, ↓kTup_ap, ↓kLst_ap, ↓kCell_ap, ↓kTOf_ap, ↓kTBl_ap, ↓kCmp_ap, ↓kNot_ap, ↓kAnd_ap, ↓kOr_ap, ↓kEIf_ap, ↓kENot_ap, ↓kEAnd_ap, ↓kEOr_ap, ↓kChain_ap, ↓kPSome_ap, ↓kSl_ap, ↓kFn_ap, ↓kApp_ap, ↓kIsCell_ap, ↓kMeth_ap, ↓kMethK_ap, ↓kFnK_ap, ↓kNew_ap, ↓kNewK_ap, ↓kS1_ap, ↓kFin_ap, ↓kEx_ap, ↓kEnd_ap, ↓kNo_ap, ↓kX_ap, ↓kSeq_ap, ↓kExpr_ap, ↓kRet_ap, ↓kIf_ap, ↓kSet_ap, ↓kPar_ap, ↓kAsg_ap, ↓kRaise_ap, ↓kFor_ap, ↓kSetIx3_ap, ↓kSetIx2_ap, ↓kSetIx1_ap, ↓kFld2_ap, ↓kFld1_ap, ↓kI_ap, ↓kRng1_ap, ↓kRng2_ap, ↓kEnum_ap, ↓kLc_ap, ↓kLcE_ap, ↓kLcC_ap, gN, gT, gsCons, gsNil, Option.bind_some, Option.map_some, gAdd_ii, gAdd_ss, gAdd_tt, gAdd_ll, gSub_ii, gMul_ii, gDiv_ii, gMod_ii, gPow_ii, gLt_ii, gLe_ii, gGt_ii, gGe_ii, gLt_ss, gLe_ss, gIn_t, gIn_l, gIn_s, gNotIn_t, gNotIn_l, gNotIn_s, gIsN_n, gNotN_n, isN_non, isN_str, isN_int, isN_bl, isN_tup, isN_lst, isN_obj, gNeg_i, gLen_s, gLen_t, gLen_l, gAbs_i, gMax2_i, gMin2_i, gInt_i, gInt_b, gTuple_t, gTuple_l, gList_t, gList_l, gStr_i, gAll_l, gAny_l, gIx_l, gIx_t, gIx_s, gSl_l, gSl_t, gSl_s, truD_n, truD_b, truD_i, truD_s, truD_t, truD_l, view_dd, viewL_dd, vCell_l, vCell_i, view_cc, viewL_cc, viewL_scr, views_nil, wpo_views, pures_nil, pures_d, ixN_natE, ixN_lit, atI_natE, atI_lit, bools_mapE, bools_nil, bools_cons, all_idE, txts_mapE, cutL_to, cutL_toL, cutL_from, cutL_fromL, Int.zero_add, swapG, appG, ← List.map_take, ← List.map_drop, true_or, or_true, false_or, or_false, startW, putD, wipeW, wp1, wp2, wps1, List.length_cons, List.length_nil, List.map_cons, List.map_nil, List.replicate, List.cons_append, List.nil_append, List.append_assoc, List.getElem?_cons_zero, List.getElem?_cons_succ, List.set_cons_zero, List.set_cons_succ, List.take_succ_cons, List.take_zero, List.take_length, app_get, app_get0, app_set, app_set0, app_take, app_take0, List.length_append, List.length_map, gIs, isT, gEq, gNe, dok_str, dok_int, dok_bl, dok_non, dok_tup, dok_lst, eqD_str', eqD_int, inD_strs, dok_strL, List.all_cons, List.all_nil, String.reduceBEq, Bool.not_true, Bool.not_false, Bool.or_false, Bool.or_true, Bool.false_or, Bool.true_or, Bool.and_true, Bool.true_and, Bool.and_false, Bool.false_and, if_true, if_false, reduceCtorEq, Bool.false_eq_true, and_self, true_and, and_true, decide_true, decide_false, decide_eq_true_eq, Bool.not_eq_true', decide_eq_false_iff_not, Nat.zero_add, Nat.reduceAdd, Nat.reduceSub, Nat.reduceLT, Nat.reduceLeDiff, Int.reduceLT, Int.reduceLE, Int.reduceAdd, Int.reduceSub, Int.reduceMul, Int.reduceNeg, Int.reducePow, not_true_eq_false, not_false_eq_true, Nat.sub_self, Nat.lt_irrefl, *])
local macro_rules | `(tactic| walk_at "vn") => `(tactic| try simp (decide := true) only [↓wp_var,↓wpo_vw, ↓wpo_ixL, ↓wpo_atL, ↓wpo_gz, ↓wpo_gs, ↓gx_kindP, ↓gx_treeP, ↓gx_tree2P, ↓gx_deedP, ↓gx_modeP, ↓gx_nameP, ↓gx_foundP, rep4, rep4x, ↓gIsX_eP, ↓wp_exn, ↓kExn1, ↓kExn2, ↓wp_exnK, ↓kExnK1, ↓kExnK2, ↓wp_exnZ2, ↓wp_isLst, ↓kIsLst_ap, ↓wp_lm, ↓kLm_ap, ↓kLm2_ap, wpdl_l, gMulR_l, ↓wp_lenTx, ↓kLenTx_ap, ↓wp_listRg, ↓kListRg_ap, ↓wp_revS, ↓kRevS_ap, ↓wps_asgIx, ↓kAsgIx_ap, ↓kAsgIx2_ap, ↓kAsgIx3_ap, wt2, ↓wp_tupC, ↓kTupC_ap, ↓wp_fin_t, itemsW_nil, itemsW_d, itemsW_c, frzL_nil, frzL_d, frzL_c, frzC, ↓wp_inv, ↓kInv_ap, ↓wp_star, ↓kStar_ap, ↓kStar2_ap, ↓wp_newR, ↓kNewR_ap, pures_map, gDivmod_ii, gSorted_t, intsD_map, List.drop_succ_cons, List.drop_zero, ↓wp_C, ↓wp_pr, ↓wp_lift2, ↓wp_mk, ↓wp_if, ↓wps_if0, ↓wp_aNil, ↓wp_pNone, ↓wp_yes, ↓wp_op, ↓wp_ix, ↓wp_un, ↓wp_aCons, ↓wp_call, ↓wp_tup, ↓wp_lst, ↓wp_cell, ↓wp_tOf, ↓wp_tBl, ↓wp_tCmp, ↓wp_tNot, ↓wp_tAnd, ↓wp_tOr, ↓wp_eIf, ↓wp_eNot, ↓wp_eAnd, ↓wp_eOr, ↓wp_chain, ↓wp_pSome, ↓wp_sl, ↓wp_fn, ↓wp_app, ↓wp_isCell, ↓wp_meth, ↓wp_methK, ↓wp_fnK, ↓wp_new, ↓wp_newK, ↓wp_s1, ↓wp_eTold, ↓kTold_ap, ↓kToldX_ap, ↓wps_seq, ↓wps_skip, ↓wps_brk, ↓wps_cont, ↓wps_retN, ↓wps_expr, ↓wps_ret, ↓wps_set, ↓wps_par, ↓wps_asg, ↓wps_raise, ↓wps_for, ↓wps_setIx, ↓wps_fld, ↓wp_runB, ↓wp_fin_d, ↓wp_fin_c, ↓wp_iOf, ↓wp_itTup, ↓wp_itLst, ↓wp_itStr, ↓wp_itScr, ↓wp_itC, ↓wp_rng1, ↓wp_rng2, ↓wp_enum, ↓wp_lc, ↓wp_lcC, ↓wp_ok, ↓wp_exc, ↓wp_none, ↓wpo_some, ↓wpo_none, ↓wpd_d, ↓wpd_c, ↓wpc_c, ↓wpi_int, ↓wpb_bl, ↓wpt_tup, ↓wpj_obj, ↓wpl_lst, ↓wpn_ins, ↓wpo_ite, ↓wpo_map, ↓wpo_bind, ↓wp_bnd, ↓wps_stm, ↓kOp2_ap, ↓kIx2_ap, ↓kCons2_ap, ↓kCmp2_ap, ↓kChain3_ap, ↓kChain2_ap, ↓kSl3_ap, ↓kSl2_ap, ↓kApp2_ap, ↓kMeth2_ap, ↓kMethK2_ap, ↓kFnK2_ap, ↓kNewK2_ap, ↓kS12_ap, ↓kOp_ap, ↓kIx_ap, ↓kUn_ap, ↓kCons_ap, ↓kCall_ap, ↓kTup_ap, ↓kLst_ap, ↓kCell_ap, ↓kTOf_ap, ↓kTBl_ap, ↓kCmp_ap, ↓kNot_ap, ↓kAnd_ap, ↓kOr_ap, ↓kEIf_ap, ↓kENot_ap, ↓kEAnd_ap, ↓kEOr_ap, ↓kChain_ap, ↓kPSome_ap, ↓kSl_ap, ↓kFn_ap, ↓kApp_ap, ↓kIsCell_ap, ↓kMeth_ap, ↓kMethK_ap, ↓kFnK_ap, ↓kNew_ap, ↓kNewK_ap, ↓kS1_ap, ↓kFin_ap, ↓kEx_ap, ↓kEnd_ap, ↓kNo_ap, ↓kX_ap, ↓kSeq_ap, ↓kExpr_ap, ↓kRet_ap, ↓kIf_ap, ↓kSet_ap, ↓kPar_ap, ↓kAsg_ap, ↓kRaise_ap, ↓kFor_ap, ↓kSetIx3_ap, ↓kSetIx2_ap, ↓kSetIx1_ap, ↓kFld2_ap, ↓kFld1_ap, ↓kI_ap, ↓kRng1_ap, ↓kRng2_ap, ↓kEnum_ap, ↓kLc_ap, ↓kLcE_ap, ↓kLcC_ap, gN, gT, gsCons, gsNil, Option.bind_some, Option.map_some, gAdd_ii, gAdd_ss, gAdd_tt, gAdd_ll, gSub_ii, gMul_ii, gDiv_ii, gMod_ii, gPow_ii, gLt_ii, gLe_ii, gGt_ii, gGe_ii, gLt_ss, gLe_ss, gIn_t, gIn_l, gIn_s, gNotIn_t, gNotIn_l, gNotIn_s, gIsN_n, gNotN_n, isN_non, isN_str, isN_int, isN_bl, isN_tup, isN_lst, isN_obj, gNeg_i, gLen_s, gLen_t, gLen_l, gAbs_i, gMax2_i, gMin2_i, gInt_i, gInt_b, gTuple_t, gTuple_l, gList_t, gList_l, gStr_i, gAll_l, gAny_l, gIx_l, gIx_t, gIx_s, gSl_l, gSl_t, gSl_s, truD_n, truD_b, truD_i, truD_s, truD_t, truD_l, view_dd, viewL_dd, vCell_l, vCell_i, view_cc, viewL_cc, viewL_scr, views_nil, wpo_views, pures_nil, pures_d, ixN_natE, ixN_lit, atI_natE, atI_lit, bools_mapE, bools_nil, bools_cons, all_idE, txts_mapE, cutL_to, cutL_toL, cutL_from, cutL_fromL, Int.zero_add, swapG, appG, ← List.map_take, ← List.map_drop, true_or, or_true, false_or, or_false, startW, putD, wipeW, wp1, wp2, wps1, List.length_cons, List.length_nil, List.map_cons, List.map_nil, List.replicate, List.cons_append, List.nil_append, List.append_assoc, List.getElem?_cons_zero, List.getElem?_cons_succ, List.set_cons_zero, List.set_cons_succ, List.take_succ_cons, List.take_zero, List.take_length, app_get, app_get0, app_set, app_set0, app_take, app_take0, List.length_append, List.length_map, gIs, isT, gEq, gNe, dok_str, dok_int, dok_bl, dok_non, dok_tup, dok_lst, eqD_str', eqD_int, inD_strs, dok_strL, List.all_cons, List.all_nil, String.reduceBEq, Bool.not_true, Bool.not_false, Bool.or_false, Bool.or_true, Bool.false_or, Bool.true_or, Bool.and_true, Bool.true_and, Bool.and_false, Bool.false_and, if_true, if_false, reduceCtorEq, Bool.false_eq_true, and_self, true_and, and_true, decide_true, decide_false, decide_eq_true_eq, Bool.not_eq_true', decide_eq_false_iff_not, Nat.zero_add, Nat.reduceAdd, Nat.reduceSub, Nat.reduceLT, Nat.reduceLeDiff, Int.reduceLT, Int.reduceLE, Int.reduceAdd, Int.reduceSub, Int.reduceMul, Int.reduceNeg, Int.reducePow, not_true_eq_false, not_false_eq_true, Nat.sub_self, Nat.lt_irrefl])
theorem wp_values {x : D} {st : Sto} {Q : W → Sto → Prop} {X : XP} (h : Q (.d (.lst (vs14.map (xv "value" x)))) st) : wp (spec_law_values [.d x] st) Q X := by
  unfold spec_law_values b_law_values
  walk_at "vc"
  exact h
theorem wp_named_values {x : D} {st : Sto} {Q : W → Sto → Prop} {X : XP} (h : Q (.d (.lst (vs14.map (xv "value" x)))) st) : wp (spec_law_named_values [.d x] st) Q X := by
  unfold spec_law_named_values b_law_named_values
  walk_at "vc"
  exact h
theorem wp_indexes {x : D} {st : Sto} {Q : W → Sto → Prop} {X : XP} (h : Q (.d (.lst (ix10.map (xv "index" x)))) st) : wp (spec_law_indexes [.d x] st) Q X := by
  unfold spec_law_indexes b_law_indexes
  walk_at "vc"
  exact h
theorem wp_named_indexes {x : D} {st : Sto} {Q : W → Sto → Prop} {X : XP} (h : Q (.d (.lst (ix10.map (xv "index" x)))) st) : wp (spec_law_named_indexes [.d x] st) Q X := by
  unfold spec_law_named_indexes b_law_named_indexes
  walk_at "vc"
  exact h
theorem wp_tops {x : D} {st : Sto} {Q : W → Sto → Prop} {X : XP} (h : Q (.d (.lst (tp8.map (xv "limit" x)))) st) : wp (spec_law_tops [.d x] st) Q X := by
  unfold spec_law_tops b_law_tops
  walk_at "vc"
  exact h
def kin6 : List Str := ["TreeError", "StateError", "LimitError", "ValueError", "LookupError", "ArithmeticError"]
def cls36 : List Str := [("NotASchema" : Str), ("NotATree" : Str), ("NotAWriter" : Str), ("NotAPattern" : Str), ("UnknownKind" : Str), ("UnknownConstructor" : Str), ("UnknownMode" : Str), ("InvalidText" : Str), ("InvalidPath" : Str), ("InvalidTree" : Str), ("InvalidNumber" : Str), ("InvalidStart" : Str), ("InvalidString" : Str), ("InvalidLine" : Str), ("InvalidKinds" : Str), ("InvalidConstructors" : Str), ("InvalidFields" : Str), ("InvalidRows" : Str), ("InvalidRules" : Str), ("InvalidSigns" : Str), ("InvalidGood" : Str), ("InvalidMoves" : Str), ("InvalidDeed" : Str), ("InvalidWriters" : Str), ("TooManyRows" : Str), ("TooManyJoins" : Str), ("TooManyFaces" : Str), ("TooManyDeeds" : Str), ("EmptyKind" : Str), ("MissingRule" : Str), ("Unlike" : Str), ("Refused" : Str), ("OtherSchema" : Str), ("NothingToUndo" : Str), ("Busy" : Str), ("TooLong" : Str)]
theorem wp_kin {e : EC} {fs : List (Str × D)} {st : Sto} {Q : W → Sto → Prop} {X : XP} (h : Q (.d (.lst (kin6.map fun n => .bl (isB e.c n)))) st) : wp (spec_law_kin [.d (exE e fs)] st) Q X := by
  unfold spec_law_kin b_law_kin
  walk_at "vc"
  exact h
theorem wp_classes {e : EC} {fs : List (Str × D)} {st : Sto} {Q : W → Sto → Prop} {X : XP} (h : Q (.d (.lst (cls36.map fun n => .bl (isB e.c n)))) st) : wp (spec_law_classes [.d (exE e fs)] st) Q X := by
  unfold spec_law_classes b_law_classes
  walk_at "vc"
  exact h
def Th (x : D) : Prop := dok 59 x = true ∧ fine x = true ∧ shB x ≤ 60
theorem th_all : ∀ {l : List D}, (∀ x ∈ l, Th x) → l.all (dok 59) = true ∧ fines l = true ∧ shBs l ≤ 62 * l.length
  | [], _ => ⟨rfl, rfl, Nat.le_refl _⟩
  | x :: l, h => by
    obtain ⟨a, b, c⟩ := h x (.head _)
    obtain ⟨a2, b2, c2⟩ := th_all fun y hy => h y (.tail _ hy)
    refine ⟨?_, ?_, ?_⟩
    · rw [List.all_cons, a, a2]; rfl
    · rw [fines, b, b2]; rfl
    · rw [shBs, List.length_cons]; omega
theorem shows_th {l : List D} (h : ∀ x ∈ l, Th x) (hl : l.length ≤ 40) : Shows (.lst l) := by
  obtain ⟨a, b, c⟩ := th_all h
  refine ⟨?_, ?_, ?_⟩
  · rw [show (60 : Nat) = 59 + 1 from rfl, dok_lst]; exact a
  · rw [fine]; exact b
  · rw [lim_is, shB]; omega
theorem Th.dk {x : D} (h : Th x) : dok 59 x = true := h.1
def Kd (b : List Bool) (d : D) : Prop := ∃ (e : EC) (fs : List (Str × D)), d = exE e fs ∧ kin6.map (isB e.c) = b ∧ (cls36.map (isB e.c)).count true = 1
theorem kin_dok {e : EC} {n : Nat} : (kin6.map fun m => D.bl (isB e.c m)).all (dok n) = true := by
  rw [List.all_map, List.all_eq_true]
  intro m _
  exact dok_bl _ _
theorem eqD_bls {as bs : List Bool} : eqD (.lst (as.map D.bl)) (.lst (bs.map D.bl)) = decide (as = bs) := by
  rw [eqD_ll, eqDs_map (f := D.bl) fun a b => by cases a <;> cases b <;> rfl]
theorem kin_eq {e : EC} {b : List Bool} (hk : kin6.map (isB e.c) = b) : eqD (.lst (kin6.map fun n => .bl (isB e.c n))) (.lst (b.map D.bl)) = true := by
  rw [show (kin6.map fun n => D.bl (isB e.c n)) = (kin6.map (isB e.c)).map D.bl by rw [List.map_map]; rfl, hk, eqD_bls, decide_eq_true rfl]
theorem cnt_ok {e : EC} (h : (cls36.map (isB e.c)).count true = 1) : gCount (cls36.map fun n => .bl (isB e.c n)) (.bl true) = some (.int 1) := by
  unfold gCount
  rw [if_pos ⟨dok_bl _ _, by
    rw [List.all_map, List.all_eq_true]
    intro m _
    exact dok_bl _ _⟩]
  have : (cls36.map fun n => D.bl (isB e.c n)).countP (fun d => eqD d (.bl true)) = 1 := by
    rw [← h, List.count, List.countP_map, List.countP_map]
    refine List.countP_congr fun n _ => ?_
    simp only [Function.comp]
    cases isB e.c n <;> simp [eqD, PyData.eqv, toP]
  rw [this]
  rfl
theorem kd_of {cs : List Str} {b : List Bool} {f : Str} {x : D} (h1 : ∀ c ∈ cs, (xTab.lookup c).isSome = true) (h2 : ∀ c ∈ cs, kin6.map (isB c) = b) (h3 : ∀ c ∈ cs, (cls36.map (isB c)).count true = 1) : ∀ d ∈ cs.map (xv f x), Kd b d := by
  intro d hd
  obtain ⟨c, hc, rfl⟩ := List.mem_map.mp hd
  exact ⟨⟨c, h1 c hc⟩, [(f, x)], rfl, h2 c hc, h3 c hc⟩
theorem kd_v {f : Str} {x : D} : ∀ d ∈ vs14.map (xv f x), Kd [true, false, false, true, false, false] d := kd_of (by decide +kernel) (by decide +kernel) (by decide +kernel)
theorem kd_i {f : Str} {x : D} : ∀ d ∈ ix10.map (xv f x), Kd [true, false, false, true, false, false] d := kd_of (by decide +kernel) (by decide +kernel) (by decide +kernel)
theorem kd_t {f : Str} {x : D} : ∀ d ∈ tp8.map (xv f x), Kd [false, false, true, false, false, true] d := kd_of (by decide +kernel) (by decide +kernel) (by decide +kernel)
theorem kd_one {b : List Bool} {fs : List (Str × D)} (c : Str) (h1 : (xTab.lookup c).isSome = true) (h2 : kin6.map (isB c) = b) (h3 : (cls36.map (isB c)).count true = 1) : Kd b (.exn c fs) := ⟨⟨c, h1⟩, fs, rfl, h2, h3⟩
theorem allT {α : Type} {l : List α} : (l.map fun _ => true).all id = true := by simp
def tx4 : List Str := ["TooManyRows", "TooManyJoins", "TooManyFaces", "TooManyDeeds"]
theorem gxv_at {cs : List Str} {f c : Str} {x : D} (h : c ∈ cs) : gXf cs f (xv f x c) = some x := (gXf_is h).trans (by show List.lookup f [(f, x)] = _; simp [List.lookup])
theorem wp_other {x y : D} {st : Sto} {Q : W → Sto → Prop} {X : XP} (hx : Th x) (hy : Th y) (h : Q (.d (.bl true)) st) : wp (spec_law_other_right [.d x, .d y] st) Q X := by
  unfold spec_law_other_right b_law_other_right
  walk_at "vc"
  have sh := shows_th (l := [x, x, x, x, x, y, x, y, x, y, x, y]) (by
    intro z hz
    simp only [List.mem_cons, List.not_mem_nil, or_false] at hz
    rcases hz with rfl | rfl | rfl | rfl | rfl | rfl | rfl | rfl | rfl | rfl | rfl | rfl <;> assumption) (by simp)
  rw [repr_ok sh]
  have sh2 := shows_th (l := [x, x]) (by
    intro z hz
    simp only [List.mem_cons, List.not_mem_nil, or_false] at hz
    rcases hz with rfl | rfl <;> assumption) (by simp)
  walk_at "vc"
  refine wp_lcD (fun _ => .bl true) trivial (fun d hd => ?_) ?_
  · have : Kd [false, true, false, false, true, false] d := by
      simp only [List.mem_cons, List.not_mem_nil, or_false] at hd
      rcases hd with rfl | rfl | rfl | rfl | rfl | rfl | rfl | rfl | rfl | rfl | rfl <;> exact kd_one _ (by decide +kernel) (by decide +kernel) (by decide +kernel)
    obtain ⟨e, fs, rfl, hk, _⟩ := this
    walk_at "vc"
    refine wp_kin ?_
    walk_at "vc"
    exact ⟨kin_dok, congrArg (fun b => W.d (.bl b)) (kin_eq hk)⟩
  · walk_at "vc"
    refine wp_lcD (fun _ => x) trivial (fun d hd => ?_) ?_
    · have : d = .exn "TooLong" [("found", x)] := by
        simp only [List.mem_cons, List.not_mem_nil, or_false] at hd
        rcases hd with rfl | rfl <;> rfl
      subst this
      walk_at "vc"
    · walk_at "vc"
      rw [repr_ok sh2]
      walk_at "vc"
      refine wp_lcD (fun _ => .bl true) trivial (fun d hd => ?_) ?_
      · have : Kd [false, false, true, false, false, true] d := by
          simp only [List.mem_cons, List.not_mem_nil, or_false] at hd
          rcases hd with rfl | rfl <;> exact kd_one _ (by decide +kernel) (by decide +kernel) (by decide +kernel)
        obtain ⟨e, fs, rfl, hk, _⟩ := this
        walk_at "vc"
        refine wp_kin ?_
        walk_at "vc"
        exact ⟨kin_dok, congrArg (fun b => W.d (.bl b)) (kin_eq hk)⟩
      · walk_at "vc"
        refine wp_lcD (fun _ => .bl true) trivial (fun d hd => ?_) ?_
        · have : ∃ b, Kd b d := by
            simp only [List.mem_cons, List.not_mem_nil, or_false] at hd
            rcases hd with rfl | rfl | rfl | rfl | rfl | rfl | rfl | rfl | rfl | rfl | rfl | rfl | rfl <;> exact ⟨_, kd_one _ (by decide +kernel) rfl (by decide +kernel)⟩
          obtain ⟨b, e, fs, rfl, _, hc⟩ := this
          walk_at "vc"
          refine wp_classes ?_
          walk_at "vc"
          rw [cnt_ok hc]
          walk_at "vc"
        · walk_at "vc"
          exact h
theorem wp_right {x y : D} {st : Sto} {Q : W → Sto → Prop} {X : XP} (hx : Th x) (hy : Th y) (h : Q (.d (.bl true)) st) : wp (spec_law_right [.d x, .d y] st) Q X := by
  unfold spec_law_right b_law_right
  walk_at "vc"
  refine wp_values ?_
  walk_at "vc"
  refine wp_named_values ?_
  walk_at "vc"
  have shn : ∀ n : Nat, n ≤ 40 → Shows (.lst (List.replicate n x)) := fun n hn => shows_th (fun z hz => by rw [List.eq_of_mem_replicate hz]; exact hx) (by rw [List.length_replicate]; exact hn)
  refine wp_lcD (fun _ => x) trivial (fun d hd => ?_) ?_
  · obtain ⟨c, hc, rfl⟩ : ∃ c ∈ vs14, d = xv "value" x c := by
      rcases List.mem_append.mp hd with hd | hd <;> obtain ⟨c, hc, rfl⟩ := List.mem_map.mp hd <;> exact ⟨c, hc, rfl⟩
    walk_at "vc"
    change wpo (gXf vs14 "value" (xv "value" x c)) _
    rw [gxv_at hc]
    walk_at "vc"
  · walk_at "vc"
    rw [show (List.map (fun _ => x) (List.map (xv "value" x) vs14 ++ List.map (xv "value" x) vs14)) = List.replicate 28 x from rfl, show (List.replicate (Int.toNat 28) [x]).flatten = List.replicate 28 x from rep1, repr_ok (shn 28 (by decide))]
    walk_at "vc"
    refine wp_indexes ?_
    walk_at "vc"
    refine wp_named_indexes ?_
    walk_at "vc"
    refine wp_lcD (fun _ => x) trivial (fun d hd => ?_) ?_
    · obtain ⟨c, hc, rfl⟩ : ∃ c ∈ ix10, d = xv "index" x c := by
        rcases List.mem_append.mp hd with hd | hd <;> obtain ⟨c, hc, rfl⟩ := List.mem_map.mp hd <;> exact ⟨c, hc, rfl⟩
      walk_at "vc"
      change wpo (gXf ix10 "index" (xv "index" x c)) _
      rw [gxv_at hc]
      walk_at "vc"
    · walk_at "vc"
      rw [show (List.map (fun _ => x) (List.map (xv "index" x) ix10 ++ List.map (xv "index" x) ix10)) = List.replicate 20 x from rfl, show (List.replicate (Int.toNat 20) [x]).flatten = List.replicate 20 x from rep1, repr_ok (shn 20 (by decide))]
      walk_at "vc"
      refine wp_tops ?_
      walk_at "vc"
      refine wp_lcD (fun _ => x) trivial (fun d hd => ?_) ?_
      · obtain ⟨c, hc, rfl⟩ : ∃ c ∈ tp8, d = xv "limit" x c := by
          obtain ⟨c, hc, rfl⟩ := List.mem_map.mp hd
          exact ⟨c, hc, rfl⟩
        walk_at "vc"
        change wpo (gXf tx4 "limit" (xv "limit" x c)) _
        rw [gxv_at ((show ∀ c ∈ tp8, c ∈ tx4 by decide +kernel) c hc)]
        walk_at "vc"
      · walk_at "vc"
        rw [show (List.map (fun _ => x) (List.map (xv "limit" x) tp8)) = List.replicate 8 x from rfl, show (List.replicate (Int.toNat 8) [x]).flatten = List.replicate 8 x from rep1, repr_ok (shn 8 (by decide))]
        walk_at "vc"
        refine wp_lcD (fun _ => .bl true) trivial (fun d hd => ?_) ?_
        · have : Kd [true, false, false, true, false, false] d := by
            simp only [List.mem_append, or_assoc] at hd
            rcases hd with hd | hd | hd | hd <;> first | exact kd_v d hd | exact kd_i d hd
          obtain ⟨e, fs, rfl, hk, _⟩ := this
          walk_at "vc"
          refine wp_kin ?_
          walk_at "vc"
          exact ⟨kin_dok, congrArg (fun b => W.d (.bl b)) (kin_eq hk)⟩
        · walk_at "vc"
          rw [allT]
          walk_at "vc"
          refine wp_lcD (fun _ => .bl true) trivial (fun d hd => ?_) ?_
          · obtain ⟨e, fs, rfl, hk, _⟩ := kd_t d hd
            walk_at "vc"
            refine wp_kin ?_
            walk_at "vc"
            exact ⟨kin_dok, congrArg (fun b => W.d (.bl b)) (kin_eq hk)⟩
          · walk_at "vc"
            rw [allT]
            walk_at "vc"
            refine wp_lcD (fun _ => .bl true) trivial (fun d hd => ?_) ?_
            · have : ∃ b, Kd b d := by
                simp only [List.mem_append, or_assoc] at hd
                rcases hd with hd | hd | hd | hd | hd <;> first | exact ⟨_, kd_v d hd⟩ | exact ⟨_, kd_i d hd⟩ | exact ⟨_, kd_t d hd⟩
              obtain ⟨b, e, fs, rfl, _, hc⟩ := this
              walk_at "vc"
              refine wp_classes ?_
              walk_at "vc"
              rw [cnt_ok hc]
              walk_at "vc"
            · walk_at "vc"
              rw [allT]
              walk_at "vc"
              refine wp_other hx hy ?_
              walk_at "vc"
              exact h
theorem th_big {v : Int} (h0 : 0 ≤ v) (h1 : v < 10 ^ 40) : Th (.int v) := by
  have h : v.natAbs < 10 ^ 40 := by omega
  refine ⟨dok_int _ _, decide_eq_true (log_ok h (by decide)), Nat.le_trans (int_len (i := v) (k := 40) (by decide) h) (by decide)⟩
theorem txt89 : ∀ n : Nat, n < 89 → (((n : Int).natAbs.log2 < 1920 ∧ (Str.ofString (toString (n : Int))).length ≤ 3) ∧ (Str.ofString "a").length + (Str.ofString (toString (n : Int))).length ≤ 4) ∧ fineS (Str.ofString "a" ++ Str.ofString (toString (n : Int))) = true := by decide +kernel
theorem th_txt {n : Nat} (h : n < 89) : Th (.str (Str.ofString "a" ++ Str.ofString (toString (n : Int)))) := by
  obtain ⟨⟨_, h2⟩, h3⟩ := txt89 n h
  refine ⟨dok_str _ _, h3, ?_⟩
  show 10 * (Str.ofString "a" ++ Str.ofString (toString (n : Int))).length + 2 ≤ 60
  rw [app_len]
  omega
theorem th_pair {v w : Int} (h0 : 0 ≤ v) (h1 : v < 1000) (g0 : 0 ≤ w) (g1 : w < 1000) : Th (.tup [.int v, .int w]) := by
  have a1 := int_len (i := v) (k := 3) (by decide) (by omega)
  have a2 := int_len (i := w) (k := 3) (by decide) (by omega)
  refine ⟨?_, ?_, ?_⟩
  · rw [show (59 : Nat) = 58 + 1 from rfl, dok_tup, List.all_cons, List.all_cons, List.all_nil, dok_int, dok_int]; rfl
  · rw [fine, fines, fines, fines, show fine (.int v) = true from decide_eq_true (log_ok (k := 3) (by omega) (by decide)), show fine (.int w) = true from decide_eq_true (log_ok (k := 3) (by omega) (by decide))]; rfl
  · show (Str.ofString (toString v)).length + 2 + ((Str.ofString (toString w)).length + 2 + 0) + 4 ≤ 60
    omega
theorem th_neg1 : Th (.int (-1)) := ⟨dok_int _ _, by decide, by decide +kernel⟩
theorem law_true (ns : List Int) (hn : ns.length ≤ 63) : ∃ st, spec_law [.scr ns] [] = some (.ok (.d (.bl true)), st) := by
  refine law_of ?_
  unfold spec_law b_law
  walk_at "vc"
  rw [repr_ok (shows_th (by
    intro z hz
    simp only [List.mem_cons, List.not_mem_nil, or_false] at hz
    rcases hz with rfl | rfl | rfl | rfl | rfl | rfl | rfl | rfl | rfl | rfl | rfl | rfl | rfl | rfl | rfl | rfl <;> exact th_big (by decide) (by decide)) (by simp))]
  walk_at "vc"
  have hm : ∃ n : Nat, (if (if (6 : Int) < (ns.length : Int) then (6 : Int) else (ns.length : Int)) > 2 then (if (6 : Int) < (ns.length : Int) then (6 : Int) else (ns.length : Int)) else 2) = (n : Int) ∧ n ≤ 6 := by
    by_cases h5 : (6 : Int) < (ns.length : Int)
    · rw [if_pos h5]; exact ⟨6, by decide, by decide⟩
    · rw [if_neg h5]
      by_cases h2 : (ns.length : Int) > 2
      · rw [if_pos h2]; exact ⟨ns.length, rfl, by omega⟩
      · rw [if_neg h2]; exact ⟨2, rfl, by decide⟩
  obtain ⟨n, e, hn5⟩ := hm
  rw [e]
  refine ⟨by omega, ?_⟩
  refine wps_forR (fun i sl st' => ∃ (x1 : W) (x2 x3 x4 x5 x6 : Option W) (l : Sto), sl = [some (.scr ns), some x1, x2, x3, x4, x5, x6] ∧ st' = l) ⟨_, _, _, _, _, _, [], rfl, rfl⟩ ?_ ?_
  · rintro i sl st' hi ⟨x1, x2, x3, x4, x5, x6, l, rfl, rfl⟩
    walk_at "vc"
    refine wp_number fun v => ?_
    walk_at "vc"
    refine wp_deal fun q hq => ?_
    walk_at "vc"
    have hw0 : 0 ≤ (if v < 0 then -v else v) % 89 := Int.emod_nonneg _ (by decide)
    have hw1 : (if v < 0 then -v else v) % 89 < 89 := Int.emod_lt_of_pos _ (by decide)
    have hb0 : 0 ≤ (if v < 0 then -v else v) % 10 ^ Int.toNat 40 := Int.emod_nonneg _ (by decide)
    have hb1 : (if v < 0 then -v else v) % 10 ^ Int.toNat 40 < 10 ^ 40 := Int.emod_lt_of_pos _ (by decide)
    have hf0 : 0 ≤ (if v < 0 then -v else v) % 5 := Int.emod_nonneg _ (by decide)
    have hf1 : (if v < 0 then -v else v) % 5 < 5 := Int.emod_lt_of_pos _ (by decide)
    generalize (if v < 0 then -v else v) % 89 = w at *
    generalize (if v < 0 then -v else v) % 10 ^ Int.toNat 40 = b at *
    generalize (if v < 0 then -v else v) % 5 = f at *
    obtain ⟨n, rfl⟩ := Int.eq_ofNat_of_zero_le hw0
    obtain ⟨⟨⟨t1, t2⟩, t3⟩, _⟩ := txt89 n (by omega)
    refine ⟨⟨t1, by rw [lim_is]; omega⟩, by rw [lim_is]; omega, ?_⟩
    have hth : ∀ z ∈ [D.int b, D.str (Str.ofString "a" ++ Str.ofString (toString (n : Int))), D.non, D.bl true, D.bl false, D.int 0, D.tup [D.int 1, D.int f], D.tup [], D.int (-1), D.int 1], Th z := by
      intro z hz
      simp only [List.mem_cons, List.not_mem_nil, or_false] at hz
      rcases hz with rfl | rfl | rfl | rfl | rfl | rfl | rfl | rfl | rfl | rfl
      · exact th_big hb0 hb1
      · exact th_txt (by omega)
      · exact ⟨by decide, by decide, by decide⟩
      · exact ⟨by decide, by decide, by decide⟩
      · exact ⟨by decide, by decide, by decide⟩
      · exact th_big (by decide) (by decide)
      · exact th_pair (by decide) (by decide) hf0 (by omega)
      · exact ⟨by decide, by decide, by decide⟩
      · exact th_neg1
      · exact th_big (by decide) (by decide)
    refine wp_pick (rest := []) hq (by decide) fun p1 q1 h1 h2 hq1 => ?_
    walk_at "vc"
    refine wpo_at h1 (by simpa using h2) fun a ha => ?_
    walk_at "vc"
    refine wp_pick (rest := []) hq1 (by decide) fun p2 q2 g1 g2 hq2 => ?_
    walk_at "vc"
    refine wpo_at g1 (by simpa using g2) fun c hc => ?_
    walk_at "vc"
    refine wp_right (hth a ha) (hth c hc) ?_
    walk_at "vc"
    exact ⟨_, _, _, _, _, _, _, rfl, rfl⟩
  · rintro sl st' ⟨x1, x2, x3, x4, x5, x6, l, rfl, rfl⟩
    walk_at "vc"
end D22
set_option maxHeartbeats 2000000
namespace Hf
open PySem PySem.Spec PyProof.Rows L2 He
theorem cstI {K : PySem.W.Frag} {mg : Str → Option Value} {h : Heap} (X : K.In h) (G : h.Ns mainGlobals mg) {x : Str} {i : Int} (c : (Fa.int x i).ok K = true) : Ft.Cst mg x (.int i) := by
  obtain ⟨t, e⟩ := int_ok X G c
  exact ⟨_, e, ⟨t, rfl⟩⟩
end Hf
namespace Ft
open PySem PySem.Spec PyProof.Rows L2 LamX StX
theorem walkX {l : PySem.W.OpenLaw} {n k : Nat} {q : Program} {loose : List Str} {XP : (Str → Option Value) → Heap → Prop} {YP : World → Heap → Prop} {d : DefRec} {sp : PySem.W.Frag → List (Addr × Addr) → Sp} {x : Str}
    (hn : l.most = some n) (hn2 : n ≤ sizeLine) (hdf : d.params.defaults = []) (room : Room k callerA)
    (F : ∀ (w : World) (mg : Str → Option Value) (fa : Addr) (h : Heap), YP w h → h.Ns mainGlobals mg → mg d.name = some (.ref fa) → ∃ K : PySem.W.Frag, K.In h ∧
      ∃ (fd : FuncData) (cs : List (Addr × Addr)), (∀ c ∈ cs, ∃ (y : Str) (r : DefRec), (PyProof.Rows.recsOf q).find? (fun e => e.name == y) = some r ∧ PySem.W.tabIn K y = some c ∧ K.lookup c.2 = none) ∧
        (∀ (s : Shared) (u : Value), BindsTo s fd ⟨[u], []⟩ [(x, u)]) ∧
        ∀ base : Heap, K.In base → base.Ns mainGlobals mg → (∀ p ∈ cs, TabB base mg p.1 p.2) → FnG l.prog w K mg base CX0 k fa fd [x] (sp K cs))
    (hsp : ∀ (K : PySem.W.Frag) (cs : List (Addr × Addr)) (H : Hp) (a : Addr) (ns : List Int), ns.length ≤ n → (∀ p ∈ cs, H p.2 = some (.tbl #[])) → SqL K H a (ns.map V.int) → sp K cs [.ref a] H (fun v _ => v = .bl true) E0) :
    PySem.W.WalkO q loose XP YP l.row.toRowW d [] (fun f vs => PySem.call f vs) := by
  apply Att.attach_call hn hdf
  intro w s0 s1 mg mb fa o pm cd doc a vs ns G Y _ _ _ hmg hobj hints hlen hg
  obtain ⟨K, hK, fd, cs, tabs, b, F'⟩ := F w mg fa _ Y G.T.g hmg
  have tab : ∀ p ∈ cs, PySem.W.CodeHd s1.heap p.1 p.2 ∧ s1.heap.get? p.2 = some { cls := .none, data := .fields #[] } := by
    rintro ⟨c, P⟩ hp
    obtain ⟨y, r, h1, h2, _⟩ := tabs _ hp
    exact PySem.W.tab_of G.T hK h1 h2
  have non : ∀ p ∈ cs, K.lookup p.2 = none := fun p hp => by
    obtain ⟨y, r, _, _, h3⟩ := tabs _ hp
    exact h3
  exact lawEndT hK G.T.g G.T.b G.T.builtins G.T.nolimit hg (fun p hp => (tab p hp).2) non (fun p hp => (tab p hp).1) G.T.bmain hobj hints (Nat.le_trans hlen hn2) room F' b fun H h1 hS => hsp _ _ H a ns hlen h1 hS
end Ft
namespace D22
open PySem L2 Ft Dn LamX StX
abbrev s_law_number : Stmt := top 57
abbrev N_law_number : List Str := ["_law_cells", "_law_k", "_law_mixed", "_law_one", "_law_more"]
theorem sc_law_number : FnScope N_law_number ["_law_cells", "_law_k"] (defScope s_law_number) := ⟨rfl, rfl, rfl, by decide +kernel, rfl, by decide +kernel, by decide +kernel⟩
abbrev s_law_deal : Stmt := top 58
abbrev N_law_deal : List Str := ["_law_number_here"]
theorem sc_law_deal : FnScope N_law_deal ["_law_number_here"] (defScope s_law_deal) := ⟨rfl, rfl, rfl, by decide +kernel, rfl, by decide +kernel, by decide +kernel⟩
abbrev s_law_pick : Stmt := top 59
abbrev N_law_pick : List Str := ["_law_deal_here", "_law_many", "_law_digit", "_law_seed", "_law_turn"]
theorem sc_law_pick : FnScope N_law_pick ["_law_deal_here", "_law_many"] (defScope s_law_pick) := ⟨rfl, rfl, rfl, by decide +kernel, rfl, by decide +kernel, by decide +kernel⟩
abbrev s_law_values : Stmt := top 60
abbrev N_law_values : List Str := ["_law_thing", "_law_seen"]
theorem sc_law_values : FnScope N_law_values ["_law_thing"] (defScope s_law_values) := ⟨rfl, rfl, rfl, by decide +kernel, rfl, by decide +kernel, by decide +kernel⟩
abbrev s_law_named_values : Stmt := top 61
abbrev N_law_named_values : List Str := ["_law_thing", "_law_seen"]
theorem sc_law_named_values : FnScope N_law_named_values ["_law_thing"] (defScope s_law_named_values) := ⟨rfl, rfl, rfl, by decide +kernel, rfl, by decide +kernel, by decide +kernel⟩
abbrev s_law_indexes : Stmt := top 62
abbrev N_law_indexes : List Str := ["_law_thing", "_law_seen"]
theorem sc_law_indexes : FnScope N_law_indexes ["_law_thing"] (defScope s_law_indexes) := ⟨rfl, rfl, rfl, by decide +kernel, rfl, by decide +kernel, by decide +kernel⟩
abbrev s_law_named_indexes : Stmt := top 63
abbrev N_law_named_indexes : List Str := ["_law_thing", "_law_seen"]
theorem sc_law_named_indexes : FnScope N_law_named_indexes ["_law_thing"] (defScope s_law_named_indexes) := ⟨rfl, rfl, rfl, by decide +kernel, rfl, by decide +kernel, by decide +kernel⟩
abbrev s_law_tops : Stmt := top 64
abbrev N_law_tops : List Str := ["_law_thing", "_law_seen"]
theorem sc_law_tops : FnScope N_law_tops ["_law_thing"] (defScope s_law_tops) := ⟨rfl, rfl, rfl, by decide +kernel, rfl, by decide +kernel, by decide +kernel⟩
abbrev s_law_classes : Stmt := top 65
abbrev N_law_classes : List Str := ["_law_e", "_law_seen"]
theorem sc_law_classes : FnScope N_law_classes ["_law_e"] (defScope s_law_classes) := ⟨rfl, rfl, rfl, by decide +kernel, rfl, by decide +kernel, by decide +kernel⟩
abbrev s_law_kin : Stmt := top 66
abbrev N_law_kin : List Str := ["_law_e", "_law_bases"]
theorem sc_law_kin : FnScope N_law_kin ["_law_e"] (defScope s_law_kin) := ⟨rfl, rfl, rfl, by decide +kernel, rfl, by decide +kernel, by decide +kernel⟩
abbrev s_law_other_right : Stmt := top 67
abbrev N_law_other_right : List Str := ["_law_one", "_law_two", "_law_seen", "_law_told", "_law_more", "_law_e"]
theorem sc_law_other_right : FnScope N_law_other_right ["_law_one", "_law_two"] (defScope s_law_other_right) := ⟨rfl, rfl, rfl, by decide +kernel, rfl, by decide +kernel, by decide +kernel⟩
abbrev s_law_right : Stmt := top 68
abbrev N_law_right : List Str := ["_law_one", "_law_two", "_law_seen", "_law_more", "_law_tops_here", "_law_e"]
theorem sc_law_right : FnScope N_law_right ["_law_one", "_law_two"] (defScope s_law_right) := ⟨rfl, rfl, rfl, by decide +kernel, rfl, by decide +kernel, by decide +kernel⟩
abbrev s_law : Stmt := top 69
abbrev N_law : List Str := ["_law_cells", "_law_told", "_law_k", "_law_number_here", "_law_deal_here", "_law_great", "_law_things"]
theorem sc_law : FnScope N_law ["_law_cells"] (defScope s_law) := ⟨rfl, rfl, rfl, by decide +kernel, rfl, by decide +kernel, by decide +kernel⟩
structure Txt (K : PySem.W.Frag) (mg : Str → Option Value) (Tb : List (Addr × Str)) (w : World) : Prop where
  b_abs : mg "abs" = none
  b_all : mg "all" = none
  b_int : mg "int" = none
  b_isinstance : mg "isinstance" = none
  b_len : mg "len" = none
  b_max : mg "max" = none
  b_min : mg "min" = none
  b_range : mg "range" = none
  b_repr : mg "repr" = none
  b_str : mg "str" = none
  m_MOST_CONSTRUCTORS : Cst mg "MOST_CONSTRUCTORS" (.int 6)
  m_MOST_DEEDS : Cst mg "MOST_DEEDS" (.int 100)
  m_MOST_FACES : Cst mg "MOST_FACES" (.int 60)
  m_MOST_FIELDS : Cst mg "MOST_FIELDS" (.int 3)
  m_MOST_JOINS : Cst mg "MOST_JOINS" (.int 2000)
  m_MOST_KINDS : Cst mg "MOST_KINDS" (.int 4)
  m_MOST_LISTED : Cst mg "MOST_LISTED" (.int 20)
  m_MOST_MODES : Cst mg "MOST_MODES" (.int 3)
  m_MOST_MOVES : Cst mg "MOST_MOVES" (.int 30)
  m_MOST_PIECES : Cst mg "MOST_PIECES" (.int 9)
  m_MOST_READ : Cst mg "MOST_READ" (.int 40)
  m_MOST_ROWS : Cst mg "MOST_ROWS" (.int 200)
  m_MOST_RULES : Cst mg "MOST_RULES" (.int 40)
  m_MOST_SIGNS : Cst mg "MOST_SIGNS" (.int 20)
  m_MOST_STANDS : Cst mg "MOST_STANDS" (.int 5)
  m_MOST_WRITTEN : Cst mg "MOST_WRITTEN" (.int 5000)
  xn_EmptyKind : ∃ C, Ft.ExN K mg "EmptyKind" ["kind"] C
  xn_InvalidConstructors : ∃ C, Ft.ExN K mg "InvalidConstructors" ["index"] C
  xn_InvalidDeed : ∃ C, Ft.ExN K mg "InvalidDeed" ["index"] C
  xn_InvalidFields : ∃ C, Ft.ExN K mg "InvalidFields" ["index"] C
  xn_InvalidGood : ∃ C, Ft.ExN K mg "InvalidGood" ["index"] C
  xn_InvalidKinds : ∃ C, Ft.ExN K mg "InvalidKinds" ["index"] C
  xn_InvalidLine : ∃ C, Ft.ExN K mg "InvalidLine" ["value"] C
  xn_InvalidMoves : ∃ C, Ft.ExN K mg "InvalidMoves" ["index"] C
  xn_InvalidNumber : ∃ C, Ft.ExN K mg "InvalidNumber" ["value"] C
  xn_InvalidPath : ∃ C, Ft.ExN K mg "InvalidPath" ["value"] C
  xn_InvalidRows : ∃ C, Ft.ExN K mg "InvalidRows" ["index"] C
  xn_InvalidRules : ∃ C, Ft.ExN K mg "InvalidRules" ["index"] C
  xn_InvalidSigns : ∃ C, Ft.ExN K mg "InvalidSigns" ["index"] C
  xn_InvalidStart : ∃ C, Ft.ExN K mg "InvalidStart" ["value"] C
  xn_InvalidString : ∃ C, Ft.ExN K mg "InvalidString" ["value"] C
  xn_InvalidText : ∃ C, Ft.ExN K mg "InvalidText" ["value"] C
  xn_InvalidTree : ∃ C, Ft.ExN K mg "InvalidTree" ["value"] C
  xn_InvalidWriters : ∃ C, Ft.ExN K mg "InvalidWriters" ["index"] C
  xn_MissingRule : ∃ C, Ft.ExN K mg "MissingRule" ["mode", "name"] C
  xn_NotAPattern : ∃ C, Ft.ExN K mg "NotAPattern" ["value"] C
  xn_NotASchema : ∃ C, Ft.ExN K mg "NotASchema" ["value"] C
  xn_NotATree : ∃ C, Ft.ExN K mg "NotATree" ["value"] C
  xn_NotAWriter : ∃ C, Ft.ExN K mg "NotAWriter" ["value"] C
  xn_Refused : ∃ C, Ft.ExN K mg "Refused" ["deed", "tree"] C
  xn_TooLong : ∃ C, Ft.ExN K mg "TooLong" ["found"] C
  xn_TooManyDeeds : ∃ C, Ft.ExN K mg "TooManyDeeds" ["limit"] C
  xn_TooManyFaces : ∃ C, Ft.ExN K mg "TooManyFaces" ["limit"] C
  xn_TooManyJoins : ∃ C, Ft.ExN K mg "TooManyJoins" ["limit"] C
  xn_TooManyRows : ∃ C, Ft.ExN K mg "TooManyRows" ["limit"] C
  xn_UnknownConstructor : ∃ C, Ft.ExN K mg "UnknownConstructor" ["value"] C
  xn_UnknownKind : ∃ C, Ft.ExN K mg "UnknownKind" ["value"] C
  xn_UnknownMode : ∃ C, Ft.ExN K mg "UnknownMode" ["value"] C
  xn_Unlike : ∃ C, Ft.ExN K mg "Unlike" ["tree"] C
  xz_Busy : ∃ C, Ft.ExZ K mg "Busy" C
  xz_NothingToUndo : ∃ C, Ft.ExZ K mg "NothingToUndo" C
  xz_OtherSchema : ∃ C, Ft.ExZ K mg "OtherSchema" C
  xf_EmptyKind_kind : XfAt K mg "EmptyKind" "kind"
  xf_InvalidConstructors_index : XfAt K mg "InvalidConstructors" "index"
  xf_InvalidDeed_index : XfAt K mg "InvalidDeed" "index"
  xf_InvalidFields_index : XfAt K mg "InvalidFields" "index"
  xf_InvalidGood_index : XfAt K mg "InvalidGood" "index"
  xf_InvalidKinds_index : XfAt K mg "InvalidKinds" "index"
  xf_InvalidLine_value : XfAt K mg "InvalidLine" "value"
  xf_InvalidMoves_index : XfAt K mg "InvalidMoves" "index"
  xf_InvalidNumber_value : XfAt K mg "InvalidNumber" "value"
  xf_InvalidPath_value : XfAt K mg "InvalidPath" "value"
  xf_InvalidRows_index : XfAt K mg "InvalidRows" "index"
  xf_InvalidRules_index : XfAt K mg "InvalidRules" "index"
  xf_InvalidSigns_index : XfAt K mg "InvalidSigns" "index"
  xf_InvalidStart_value : XfAt K mg "InvalidStart" "value"
  xf_InvalidString_value : XfAt K mg "InvalidString" "value"
  xf_InvalidText_value : XfAt K mg "InvalidText" "value"
  xf_InvalidTree_value : XfAt K mg "InvalidTree" "value"
  xf_InvalidWriters_index : XfAt K mg "InvalidWriters" "index"
  xf_MissingRule_mode : XfAt K mg "MissingRule" "mode"
  xf_MissingRule_name : XfAt K mg "MissingRule" "name"
  xf_NotAPattern_value : XfAt K mg "NotAPattern" "value"
  xf_NotASchema_value : XfAt K mg "NotASchema" "value"
  xf_NotATree_value : XfAt K mg "NotATree" "value"
  xf_NotAWriter_value : XfAt K mg "NotAWriter" "value"
  xf_Refused_deed : XfAt K mg "Refused" "deed"
  xf_Refused_tree : XfAt K mg "Refused" "tree"
  xf_TooLong_found : XfAt K mg "TooLong" "found"
  xf_TooManyDeeds_limit : XfAt K mg "TooManyDeeds" "limit"
  xf_TooManyFaces_limit : XfAt K mg "TooManyFaces" "limit"
  xf_TooManyJoins_limit : XfAt K mg "TooManyJoins" "limit"
  xf_TooManyRows_limit : XfAt K mg "TooManyRows" "limit"
  xf_UnknownConstructor_value : XfAt K mg "UnknownConstructor" "value"
  xf_UnknownKind_value : XfAt K mg "UnknownKind" "value"
  xf_UnknownMode_value : XfAt K mg "UnknownMode" "value"
  xf_Unlike_tree : XfAt K mg "Unlike" "tree"
  io_Busy : IxO K mg xTab "Busy"
  io_EmptyKind : IxO K mg xTab "EmptyKind"
  io_InvalidConstructors : IxO K mg xTab "InvalidConstructors"
  io_InvalidDeed : IxO K mg xTab "InvalidDeed"
  io_InvalidFields : IxO K mg xTab "InvalidFields"
  io_InvalidGood : IxO K mg xTab "InvalidGood"
  io_InvalidKinds : IxO K mg xTab "InvalidKinds"
  io_InvalidLine : IxO K mg xTab "InvalidLine"
  io_InvalidMoves : IxO K mg xTab "InvalidMoves"
  io_InvalidNumber : IxO K mg xTab "InvalidNumber"
  io_InvalidPath : IxO K mg xTab "InvalidPath"
  io_InvalidRows : IxO K mg xTab "InvalidRows"
  io_InvalidRules : IxO K mg xTab "InvalidRules"
  io_InvalidSigns : IxO K mg xTab "InvalidSigns"
  io_InvalidStart : IxO K mg xTab "InvalidStart"
  io_InvalidString : IxO K mg xTab "InvalidString"
  io_InvalidText : IxO K mg xTab "InvalidText"
  io_InvalidTree : IxO K mg xTab "InvalidTree"
  io_InvalidWriters : IxO K mg xTab "InvalidWriters"
  io_LimitError : IxO K mg xTab "LimitError"
  io_MissingRule : IxO K mg xTab "MissingRule"
  io_NotAPattern : IxO K mg xTab "NotAPattern"
  io_NotASchema : IxO K mg xTab "NotASchema"
  io_NotATree : IxO K mg xTab "NotATree"
  io_NotAWriter : IxO K mg xTab "NotAWriter"
  io_NothingToUndo : IxO K mg xTab "NothingToUndo"
  io_OtherSchema : IxO K mg xTab "OtherSchema"
  io_Refused : IxO K mg xTab "Refused"
  io_StateError : IxO K mg xTab "StateError"
  io_TooLong : IxO K mg xTab "TooLong"
  io_TooManyDeeds : IxO K mg xTab "TooManyDeeds"
  io_TooManyFaces : IxO K mg xTab "TooManyFaces"
  io_TooManyJoins : IxO K mg xTab "TooManyJoins"
  io_TooManyRows : IxO K mg xTab "TooManyRows"
  io_TreeError : IxO K mg xTab "TreeError"
  io_UnknownConstructor : IxO K mg xTab "UnknownConstructor"
  io_UnknownKind : IxO K mg xTab "UnknownKind"
  io_UnknownMode : IxO K mg xTab "UnknownMode"
  io_Unlike : IxO K mg xTab "Unlike"
  ib_ArithmeticError : IxB K mg xTab "ArithmeticError" "ArithmeticError"
  ib_LookupError : IxB K mg xTab "LookupError" "LookupError"
  ib_ValueError : IxB K mg xTab "ValueError" "ValueError"
end D22
namespace D22
open PySem L2 Ft Dn LamX StX
section
variable {P : Program} {w : World} {K : PySem.W.Frag} {mg : Str → Option Value} {base : Heap} {Tb : List (Addr × Str)}
theorem ok_law_number (T : Txt K mg Tb w)  {f : Addr} {fd : FuncData} (F : Fun K "_law_number" "_law_number" s_law_number f fd) : FnG P w K mg base (L2.CX P w) 1 f fd ["_law_cells", "_law_k"] (spD ⟨K, mg, Tb, w⟩ 2 spec_law_number) := by
  refine okDG (T := Tb) true F sc_law_number fun cdv A outer s H E hg hr tk px => ?_
  have hu64 := hr.units
  exact ⟨b_law_number, (dss_cons (ds_if (dt_cmp p_lt (dv 1) (de_callB c_len rfl T.b_len bt_len (da_cons (dv 0) da_nil)) (nomark _)) (dss_one (ds_ret (de_callTy c_int rfl T.b_int bt_int (da_cons (de_ix i_ix (dv 0) (dv 1) (fun _ _ => rfl)) da_nil)))) dss_nil)
    (dss_cons (ds_set (i := 2) sc_law_number.nd rfl (Or.inl rfl) (de_op p_mul de_int (de_op p_add (dv 1) de_int)))
    (dss_cons (ds_for px rfl (di_any (de_slice s_sl (dv 0) dp_none (dp_some de_int))) (dg_name (i := 3) sc_law_number.nd rfl (Or.inl rfl)) (dss_cons (ds_set (i := 4) sc_law_number.nd rfl (Or.inl rfl) (de_op p_mod (de_callTy c_int rfl T.b_int bt_int (da_cons (dv 3) da_nil)) de_int))
    (dss_one (ds_set (i := 2) sc_law_number.nd rfl (Or.inl rfl) (de_op p_mod (de_callTy c_int rfl T.b_int bt_int (da_cons (de_op p_add (de_op p_add (de_op p_mul (dv 2) de_int) (dv 4)) (dv 1)) da_nil)) de_int)))))
    (dss_one (ds_ret (dv 2)))))), r_law_number⟩
theorem ok_law_deal (T : Txt K mg Tb w)  {f : Addr} {fd : FuncData} (F : Fun K "_law_deal" "_law_deal" s_law_deal f fd) : FnG P w K mg base (L2.CX P w) 1 f fd ["_law_number_here"] (spD ⟨K, mg, Tb, w⟩ 1 spec_law_deal) := by
  refine okDG (T := Tb) false F sc_law_deal fun cdv A outer s H E hg hr tk px => ?_
  have hu64 := hr.units
  exact ⟨b_law_deal, (dss_one (ds_ret (de_cell (da_cons (de_if (DW.dt (dw_or (dt_cmp p_lt (dv 0) de_int (nomark _)) (dw_or1 (dt_cmp p_ge (dv 0) (de_op p_pow de_int de_int) (nomark _))))) (de_callB c_abs rfl T.b_abs bt_abs (da_cons (dv 0) da_nil)) de_int) (da_cons (de_op p_mod (de_callTy c_int rfl T.b_int bt_int (da_cons (dv 0) da_nil)) de_int) (da_cons de_int da_nil)))))), r_law_deal⟩
theorem ok_law_pick (T : Txt K mg Tb w)  {f : Addr} {fd : FuncData} (F : Fun K "_law_pick" "_law_pick" s_law_pick f fd) : FnG P w K mg base (L2.CX P w) 1 f fd ["_law_deal_here", "_law_many"] (spD ⟨K, mg, Tb, w⟩ 2 spec_law_pick) := by
  refine okDG (T := Tb) true F sc_law_pick fun cdv A outer s H E hg hr tk px => ?_
  have hu64 := hr.units
  exact ⟨b_law_pick, (dss_cons (ds_setIx (dv 0) de_int (de_op p_add (de_ix i_ix (dv 0) de_int (fun _ _ => rfl)) de_int))
    (dss_cons (ds_if (dt_cmp p_gt (de_ix i_ix (dv 0) de_int (fun _ _ => rfl)) de_int (nomark _)) (dss_cons (ds_set (i := 2) sc_law_pick.nd rfl (Or.inl rfl) (de_op p_mod (de_callTy c_int rfl T.b_int bt_int (da_cons (de_ix i_ix (dv 0) de_int (fun _ _ => rfl)) da_nil)) (dv 1)))
    (dss_cons (ds_setIx (dv 0) de_int (de_op p_div (de_ix i_ix (dv 0) de_int (fun _ _ => rfl)) (dv 1)))
    (dss_one (ds_ret (dv 2))))) dss_nil)
    (dss_cons (ds_par (i := 3) (j := 4) (by rfl) sc_law_pick.nd rfl rfl (by decide) rfl rfl (da_cons (de_callTy c_int rfl T.b_int bt_int (da_cons (de_ix i_ix (dv 0) de_int (fun _ _ => rfl)) da_nil)) (da_cons (de_callTy c_int rfl T.b_int bt_int (da_cons (de_ix i_ix (dv 0) de_int (fun _ _ => rfl)) da_nil)) da_nil)) (by rfl))
    (dss_cons (ds_set (i := 3) sc_law_pick.nd rfl (Or.inl rfl) (de_op p_mod (de_callTy c_int rfl T.b_int bt_int (da_cons (de_op p_add (de_op p_add (de_op p_mul (dv 3) (de_op p_add (de_op p_add (dv 3) de_int) (de_op p_mul de_int (dv 4)))) (de_op p_mul de_int (dv 4))) de_int) da_nil)) de_int))
    (dss_cons (ds_setIx (dv 0) de_int (dv 3))
    (dss_one (ds_ret (de_op p_mod (de_callTy c_int rfl T.b_int bt_int (da_cons (de_op p_div (dv 3) de_int) da_nil)) (dv 1))))))))), r_law_pick⟩
theorem ok_law_values (T : Txt K mg Tb w)  {f : Addr} {fd : FuncData} (F : Fun K "_law_values" "_law_values" s_law_values f fd) : FnG P w K mg base (L2.CX P w) 1 f fd ["_law_thing"] (spD ⟨K, mg, Tb, w⟩ 1 spec_law_values) := by
  refine okDG (T := Tb) true F sc_law_values fun cdv A outer s H E hg hr tk px => ?_
  have hu64 := hr.units
  exact ⟨b_law_values, (dss_cons (ds_set (i := 1) sc_law_values.nd rfl (Or.inl rfl) (de_lst (da_cons (dx_exn (ns := ["value"]) T.xn_NotASchema (by decide) hr rfl (da_cons (dv 0) da_nil)) (da_cons (dx_exn (ns := ["value"]) T.xn_NotATree (by decide) hr rfl (da_cons (dv 0) da_nil)) (da_cons (dx_exn (ns := ["value"]) T.xn_NotAWriter (by decide) hr rfl (da_cons (dv 0) da_nil)) (da_cons (dx_exn (ns := ["value"]) T.xn_NotAPattern (by decide) hr rfl (da_cons (dv 0) da_nil)) da_nil))))))
    (dss_cons (ds_set (i := 1) sc_law_values.nd rfl (Or.inl rfl) (de_op p_add (dv 1) (de_lst (da_cons (dx_exn (ns := ["value"]) T.xn_UnknownKind (by decide) hr rfl (da_cons (dv 0) da_nil)) (da_cons (dx_exn (ns := ["value"]) T.xn_UnknownConstructor (by decide) hr rfl (da_cons (dv 0) da_nil)) (da_cons (dx_exn (ns := ["value"]) T.xn_UnknownMode (by decide) hr rfl (da_cons (dv 0) da_nil)) (da_cons (dx_exn (ns := ["value"]) T.xn_InvalidText (by decide) hr rfl (da_cons (dv 0) da_nil)) da_nil)))))))
    (dss_cons (ds_set (i := 1) sc_law_values.nd rfl (Or.inl rfl) (de_op p_add (dv 1) (de_lst (da_cons (dx_exn (ns := ["value"]) T.xn_InvalidPath (by decide) hr rfl (da_cons (dv 0) da_nil)) (da_cons (dx_exn (ns := ["value"]) T.xn_InvalidTree (by decide) hr rfl (da_cons (dv 0) da_nil)) (da_cons (dx_exn (ns := ["value"]) T.xn_InvalidNumber (by decide) hr rfl (da_cons (dv 0) da_nil)) (da_cons (dx_exn (ns := ["value"]) T.xn_InvalidStart (by decide) hr rfl (da_cons (dv 0) da_nil)) da_nil)))))))
    (dss_cons (ds_set (i := 1) sc_law_values.nd rfl (Or.inl rfl) (de_op p_add (dv 1) (de_lst (da_cons (dx_exn (ns := ["value"]) T.xn_InvalidString (by decide) hr rfl (da_cons (dv 0) da_nil)) (da_cons (dx_exn (ns := ["value"]) T.xn_InvalidLine (by decide) hr rfl (da_cons (dv 0) da_nil)) da_nil)))))
    (dss_one (ds_ret (dv 1))))))), r_law_values⟩
theorem ok_law_named_values (T : Txt K mg Tb w)  {f : Addr} {fd : FuncData} (F : Fun K "_law_named_values" "_law_named_values" s_law_named_values f fd) : FnG P w K mg base (L2.CX P w) 1 f fd ["_law_thing"] (spD ⟨K, mg, Tb, w⟩ 1 spec_law_named_values) := by
  refine okDG (T := Tb) true F sc_law_named_values fun cdv A outer s H E hg hr tk px => ?_
  have hu64 := hr.units
  exact ⟨b_law_named_values, (dss_cons (ds_set (i := 1) sc_law_named_values.nd rfl (Or.inl rfl) (de_lst (da_cons (dx_exnK (ns := ["value"]) T.xn_NotASchema (by decide) hr rfl (dk_cons (dv 0) dk_nil)) (da_cons (dx_exnK (ns := ["value"]) T.xn_NotATree (by decide) hr rfl (dk_cons (dv 0) dk_nil)) (da_cons (dx_exnK (ns := ["value"]) T.xn_NotAWriter (by decide) hr rfl (dk_cons (dv 0) dk_nil)) (da_cons (dx_exnK (ns := ["value"]) T.xn_NotAPattern (by decide) hr rfl (dk_cons (dv 0) dk_nil)) da_nil))))))
    (dss_cons (ds_set (i := 1) sc_law_named_values.nd rfl (Or.inl rfl) (de_op p_add (dv 1) (de_lst (da_cons (dx_exnK (ns := ["value"]) T.xn_UnknownKind (by decide) hr rfl (dk_cons (dv 0) dk_nil)) (da_cons (dx_exnK (ns := ["value"]) T.xn_UnknownConstructor (by decide) hr rfl (dk_cons (dv 0) dk_nil)) da_nil)))))
    (dss_cons (ds_set (i := 1) sc_law_named_values.nd rfl (Or.inl rfl) (de_op p_add (dv 1) (de_lst (da_cons (dx_exnK (ns := ["value"]) T.xn_UnknownMode (by decide) hr rfl (dk_cons (dv 0) dk_nil)) (da_cons (dx_exnK (ns := ["value"]) T.xn_InvalidText (by decide) hr rfl (dk_cons (dv 0) dk_nil)) da_nil)))))
    (dss_cons (ds_set (i := 1) sc_law_named_values.nd rfl (Or.inl rfl) (de_op p_add (dv 1) (de_lst (da_cons (dx_exnK (ns := ["value"]) T.xn_InvalidPath (by decide) hr rfl (dk_cons (dv 0) dk_nil)) (da_cons (dx_exnK (ns := ["value"]) T.xn_InvalidTree (by decide) hr rfl (dk_cons (dv 0) dk_nil)) da_nil)))))
    (dss_cons (ds_set (i := 1) sc_law_named_values.nd rfl (Or.inl rfl) (de_op p_add (dv 1) (de_lst (da_cons (dx_exnK (ns := ["value"]) T.xn_InvalidNumber (by decide) hr rfl (dk_cons (dv 0) dk_nil)) (da_cons (dx_exnK (ns := ["value"]) T.xn_InvalidStart (by decide) hr rfl (dk_cons (dv 0) dk_nil)) da_nil)))))
    (dss_cons (ds_set (i := 1) sc_law_named_values.nd rfl (Or.inl rfl) (de_op p_add (dv 1) (de_lst (da_cons (dx_exnK (ns := ["value"]) T.xn_InvalidString (by decide) hr rfl (dk_cons (dv 0) dk_nil)) (da_cons (dx_exnK (ns := ["value"]) T.xn_InvalidLine (by decide) hr rfl (dk_cons (dv 0) dk_nil)) da_nil)))))
    (dss_one (ds_ret (dv 1))))))))), r_law_named_values⟩
theorem ok_law_indexes (T : Txt K mg Tb w)  {f : Addr} {fd : FuncData} (F : Fun K "_law_indexes" "_law_indexes" s_law_indexes f fd) : FnG P w K mg base (L2.CX P w) 1 f fd ["_law_thing"] (spD ⟨K, mg, Tb, w⟩ 1 spec_law_indexes) := by
  refine okDG (T := Tb) true F sc_law_indexes fun cdv A outer s H E hg hr tk px => ?_
  have hu64 := hr.units
  exact ⟨b_law_indexes, (dss_cons (ds_set (i := 1) sc_law_indexes.nd rfl (Or.inl rfl) (de_lst (da_cons (dx_exn (ns := ["index"]) T.xn_InvalidKinds (by decide) hr rfl (da_cons (dv 0) da_nil)) (da_cons (dx_exn (ns := ["index"]) T.xn_InvalidConstructors (by decide) hr rfl (da_cons (dv 0) da_nil)) (da_cons (dx_exn (ns := ["index"]) T.xn_InvalidFields (by decide) hr rfl (da_cons (dv 0) da_nil)) (da_cons (dx_exn (ns := ["index"]) T.xn_InvalidRows (by decide) hr rfl (da_cons (dv 0) da_nil)) da_nil))))))
    (dss_cons (ds_set (i := 1) sc_law_indexes.nd rfl (Or.inl rfl) (de_op p_add (dv 1) (de_lst (da_cons (dx_exn (ns := ["index"]) T.xn_InvalidRules (by decide) hr rfl (da_cons (dv 0) da_nil)) (da_cons (dx_exn (ns := ["index"]) T.xn_InvalidSigns (by decide) hr rfl (da_cons (dv 0) da_nil)) (da_cons (dx_exn (ns := ["index"]) T.xn_InvalidGood (by decide) hr rfl (da_cons (dv 0) da_nil)) (da_cons (dx_exn (ns := ["index"]) T.xn_InvalidMoves (by decide) hr rfl (da_cons (dv 0) da_nil)) da_nil)))))))
    (dss_cons (ds_set (i := 1) sc_law_indexes.nd rfl (Or.inl rfl) (de_op p_add (dv 1) (de_lst (da_cons (dx_exn (ns := ["index"]) T.xn_InvalidDeed (by decide) hr rfl (da_cons (dv 0) da_nil)) (da_cons (dx_exn (ns := ["index"]) T.xn_InvalidWriters (by decide) hr rfl (da_cons (dv 0) da_nil)) da_nil)))))
    (dss_one (ds_ret (dv 1)))))), r_law_indexes⟩
theorem ok_law_named_indexes (T : Txt K mg Tb w)  {f : Addr} {fd : FuncData} (F : Fun K "_law_named_indexes" "_law_named_indexes" s_law_named_indexes f fd) : FnG P w K mg base (L2.CX P w) 1 f fd ["_law_thing"] (spD ⟨K, mg, Tb, w⟩ 1 spec_law_named_indexes) := by
  refine okDG (T := Tb) true F sc_law_named_indexes fun cdv A outer s H E hg hr tk px => ?_
  have hu64 := hr.units
  exact ⟨b_law_named_indexes, (dss_cons (ds_set (i := 1) sc_law_named_indexes.nd rfl (Or.inl rfl) (de_lst (da_cons (dx_exnK (ns := ["index"]) T.xn_InvalidKinds (by decide) hr rfl (dk_cons (dv 0) dk_nil)) (da_cons (dx_exnK (ns := ["index"]) T.xn_InvalidConstructors (by decide) hr rfl (dk_cons (dv 0) dk_nil)) da_nil))))
    (dss_cons (ds_set (i := 1) sc_law_named_indexes.nd rfl (Or.inl rfl) (de_op p_add (dv 1) (de_lst (da_cons (dx_exnK (ns := ["index"]) T.xn_InvalidFields (by decide) hr rfl (dk_cons (dv 0) dk_nil)) (da_cons (dx_exnK (ns := ["index"]) T.xn_InvalidRows (by decide) hr rfl (dk_cons (dv 0) dk_nil)) da_nil)))))
    (dss_cons (ds_set (i := 1) sc_law_named_indexes.nd rfl (Or.inl rfl) (de_op p_add (dv 1) (de_lst (da_cons (dx_exnK (ns := ["index"]) T.xn_InvalidRules (by decide) hr rfl (dk_cons (dv 0) dk_nil)) (da_cons (dx_exnK (ns := ["index"]) T.xn_InvalidSigns (by decide) hr rfl (dk_cons (dv 0) dk_nil)) da_nil)))))
    (dss_cons (ds_set (i := 1) sc_law_named_indexes.nd rfl (Or.inl rfl) (de_op p_add (dv 1) (de_lst (da_cons (dx_exnK (ns := ["index"]) T.xn_InvalidGood (by decide) hr rfl (dk_cons (dv 0) dk_nil)) (da_cons (dx_exnK (ns := ["index"]) T.xn_InvalidMoves (by decide) hr rfl (dk_cons (dv 0) dk_nil)) da_nil)))))
    (dss_cons (ds_set (i := 1) sc_law_named_indexes.nd rfl (Or.inl rfl) (de_op p_add (dv 1) (de_lst (da_cons (dx_exnK (ns := ["index"]) T.xn_InvalidDeed (by decide) hr rfl (dk_cons (dv 0) dk_nil)) (da_cons (dx_exnK (ns := ["index"]) T.xn_InvalidWriters (by decide) hr rfl (dk_cons (dv 0) dk_nil)) da_nil)))))
    (dss_one (ds_ret (dv 1)))))))), r_law_named_indexes⟩
theorem ok_law_tops (T : Txt K mg Tb w)  {f : Addr} {fd : FuncData} (F : Fun K "_law_tops" "_law_tops" s_law_tops f fd) : FnG P w K mg base (L2.CX P w) 1 f fd ["_law_thing"] (spD ⟨K, mg, Tb, w⟩ 1 spec_law_tops) := by
  refine okDG (T := Tb) true F sc_law_tops fun cdv A outer s H E hg hr tk px => ?_
  have hu64 := hr.units
  exact ⟨b_law_tops, (dss_cons (ds_set (i := 1) sc_law_tops.nd rfl (Or.inl rfl) (de_lst (da_cons (dx_exn (ns := ["limit"]) T.xn_TooManyRows (by decide) hr rfl (da_cons (dv 0) da_nil)) (da_cons (dx_exn (ns := ["limit"]) T.xn_TooManyJoins (by decide) hr rfl (da_cons (dv 0) da_nil)) (da_cons (dx_exn (ns := ["limit"]) T.xn_TooManyFaces (by decide) hr rfl (da_cons (dv 0) da_nil)) (da_cons (dx_exn (ns := ["limit"]) T.xn_TooManyDeeds (by decide) hr rfl (da_cons (dv 0) da_nil)) da_nil))))))
    (dss_cons (ds_set (i := 1) sc_law_tops.nd rfl (Or.inl rfl) (de_op p_add (dv 1) (de_lst (da_cons (dx_exnK (ns := ["limit"]) T.xn_TooManyRows (by decide) hr rfl (dk_cons (dv 0) dk_nil)) (da_cons (dx_exnK (ns := ["limit"]) T.xn_TooManyJoins (by decide) hr rfl (dk_cons (dv 0) dk_nil)) da_nil)))))
    (dss_one (ds_ret (de_op p_add (dv 1) (de_lst (da_cons (dx_exnK (ns := ["limit"]) T.xn_TooManyFaces (by decide) hr rfl (dk_cons (dv 0) dk_nil)) (da_cons (dx_exnK (ns := ["limit"]) T.xn_TooManyDeeds (by decide) hr rfl (dk_cons (dv 0) dk_nil)) da_nil)))))))), r_law_tops⟩
theorem ok_law_classes (T : Txt K mg Tb w)  {f : Addr} {fd : FuncData} (F : Fun K "_law_classes" "_law_classes" s_law_classes f fd) : FnG P w K mg base (L2.CX P w) 1 f fd ["_law_e"] (spD ⟨K, mg, Tb, w⟩ 1 spec_law_classes) := by
  refine okDG (T := Tb) true F sc_law_classes fun cdv A outer s H E hg hr tk px => ?_
  have hu64 := hr.units
  exact ⟨b_law_classes, (dss_cons (ds_set (i := 1) sc_law_classes.nd rfl (Or.inl rfl) (de_lst (da_cons (de_isXo (tab := xTab) T.io_NotASchema (dv 0) rfl T.b_isinstance rfl) (da_cons (de_isXo (tab := xTab) T.io_NotATree (dv 0) rfl T.b_isinstance rfl) (da_cons (de_isXo (tab := xTab) T.io_NotAWriter (dv 0) rfl T.b_isinstance rfl) da_nil)))))
    (dss_cons (ds_set (i := 1) sc_law_classes.nd rfl (Or.inl rfl) (de_op p_add (dv 1) (de_lst (da_cons (de_isXo (tab := xTab) T.io_NotAPattern (dv 0) rfl T.b_isinstance rfl) (da_cons (de_isXo (tab := xTab) T.io_UnknownKind (dv 0) rfl T.b_isinstance rfl) (da_cons (de_isXo (tab := xTab) T.io_UnknownConstructor (dv 0) rfl T.b_isinstance rfl) da_nil))))))
    (dss_cons (ds_set (i := 1) sc_law_classes.nd rfl (Or.inl rfl) (de_op p_add (dv 1) (de_lst (da_cons (de_isXo (tab := xTab) T.io_UnknownMode (dv 0) rfl T.b_isinstance rfl) (da_cons (de_isXo (tab := xTab) T.io_InvalidText (dv 0) rfl T.b_isinstance rfl) (da_cons (de_isXo (tab := xTab) T.io_InvalidPath (dv 0) rfl T.b_isinstance rfl) da_nil))))))
    (dss_cons (ds_set (i := 1) sc_law_classes.nd rfl (Or.inl rfl) (de_op p_add (dv 1) (de_lst (da_cons (de_isXo (tab := xTab) T.io_InvalidTree (dv 0) rfl T.b_isinstance rfl) (da_cons (de_isXo (tab := xTab) T.io_InvalidNumber (dv 0) rfl T.b_isinstance rfl) (da_cons (de_isXo (tab := xTab) T.io_InvalidStart (dv 0) rfl T.b_isinstance rfl) da_nil))))))
    (dss_cons (ds_set (i := 1) sc_law_classes.nd rfl (Or.inl rfl) (de_op p_add (dv 1) (de_lst (da_cons (de_isXo (tab := xTab) T.io_InvalidString (dv 0) rfl T.b_isinstance rfl) (da_cons (de_isXo (tab := xTab) T.io_InvalidLine (dv 0) rfl T.b_isinstance rfl) (da_cons (de_isXo (tab := xTab) T.io_InvalidKinds (dv 0) rfl T.b_isinstance rfl) da_nil))))))
    (dss_cons (ds_set (i := 1) sc_law_classes.nd rfl (Or.inl rfl) (de_op p_add (dv 1) (de_lst (da_cons (de_isXo (tab := xTab) T.io_InvalidConstructors (dv 0) rfl T.b_isinstance rfl) (da_cons (de_isXo (tab := xTab) T.io_InvalidFields (dv 0) rfl T.b_isinstance rfl) (da_cons (de_isXo (tab := xTab) T.io_InvalidRows (dv 0) rfl T.b_isinstance rfl) da_nil))))))
    (dss_cons (ds_set (i := 1) sc_law_classes.nd rfl (Or.inl rfl) (de_op p_add (dv 1) (de_lst (da_cons (de_isXo (tab := xTab) T.io_InvalidRules (dv 0) rfl T.b_isinstance rfl) (da_cons (de_isXo (tab := xTab) T.io_InvalidSigns (dv 0) rfl T.b_isinstance rfl) (da_cons (de_isXo (tab := xTab) T.io_InvalidGood (dv 0) rfl T.b_isinstance rfl) da_nil))))))
    (dss_cons (ds_set (i := 1) sc_law_classes.nd rfl (Or.inl rfl) (de_op p_add (dv 1) (de_lst (da_cons (de_isXo (tab := xTab) T.io_InvalidMoves (dv 0) rfl T.b_isinstance rfl) (da_cons (de_isXo (tab := xTab) T.io_InvalidDeed (dv 0) rfl T.b_isinstance rfl) (da_cons (de_isXo (tab := xTab) T.io_InvalidWriters (dv 0) rfl T.b_isinstance rfl) da_nil))))))
    (dss_cons (ds_set (i := 1) sc_law_classes.nd rfl (Or.inl rfl) (de_op p_add (dv 1) (de_lst (da_cons (de_isXo (tab := xTab) T.io_TooManyRows (dv 0) rfl T.b_isinstance rfl) (da_cons (de_isXo (tab := xTab) T.io_TooManyJoins (dv 0) rfl T.b_isinstance rfl) (da_cons (de_isXo (tab := xTab) T.io_TooManyFaces (dv 0) rfl T.b_isinstance rfl) da_nil))))))
    (dss_cons (ds_set (i := 1) sc_law_classes.nd rfl (Or.inl rfl) (de_op p_add (dv 1) (de_lst (da_cons (de_isXo (tab := xTab) T.io_TooManyDeeds (dv 0) rfl T.b_isinstance rfl) (da_cons (de_isXo (tab := xTab) T.io_EmptyKind (dv 0) rfl T.b_isinstance rfl) (da_cons (de_isXo (tab := xTab) T.io_MissingRule (dv 0) rfl T.b_isinstance rfl) da_nil))))))
    (dss_cons (ds_set (i := 1) sc_law_classes.nd rfl (Or.inl rfl) (de_op p_add (dv 1) (de_lst (da_cons (de_isXo (tab := xTab) T.io_Unlike (dv 0) rfl T.b_isinstance rfl) (da_cons (de_isXo (tab := xTab) T.io_Refused (dv 0) rfl T.b_isinstance rfl) (da_cons (de_isXo (tab := xTab) T.io_OtherSchema (dv 0) rfl T.b_isinstance rfl) da_nil))))))
    (dss_cons (ds_set (i := 1) sc_law_classes.nd rfl (Or.inl rfl) (de_op p_add (dv 1) (de_lst (da_cons (de_isXo (tab := xTab) T.io_NothingToUndo (dv 0) rfl T.b_isinstance rfl) (da_cons (de_isXo (tab := xTab) T.io_Busy (dv 0) rfl T.b_isinstance rfl) (da_cons (de_isXo (tab := xTab) T.io_TooLong (dv 0) rfl T.b_isinstance rfl) da_nil))))))
    (dss_one (ds_ret (dv 1))))))))))))))), r_law_classes⟩
theorem ok_law_kin (T : Txt K mg Tb w)  {f : Addr} {fd : FuncData} (F : Fun K "_law_kin" "_law_kin" s_law_kin f fd) : FnG P w K mg base (L2.CX P w) 1 f fd ["_law_e"] (spD ⟨K, mg, Tb, w⟩ 1 spec_law_kin) := by
  refine okDG (T := Tb) true F sc_law_kin fun cdv A outer s H E hg hr tk px => ?_
  have hu64 := hr.units
  exact ⟨b_law_kin, (dss_cons (ds_set (i := 1) sc_law_kin.nd rfl (Or.inl rfl) (de_lst (da_cons (de_isXo (tab := xTab) T.io_TreeError (dv 0) rfl T.b_isinstance rfl) (da_cons (de_isXo (tab := xTab) T.io_StateError (dv 0) rfl T.b_isinstance rfl) (da_cons (de_isXo (tab := xTab) T.io_LimitError (dv 0) rfl T.b_isinstance rfl) da_nil)))))
    (dss_one (ds_ret (de_op p_add (dv 1) (de_lst (da_cons (de_isXb (tab := xTab) T.ib_ValueError rfl (dv 0) rfl T.b_isinstance rfl) (da_cons (de_isXb (tab := xTab) T.ib_LookupError rfl (dv 0) rfl T.b_isinstance rfl) (da_cons (de_isXb (tab := xTab) T.ib_ArithmeticError rfl (dv 0) rfl T.b_isinstance rfl) da_nil)))))))), r_law_kin⟩
theorem ok_law_other_right (T : Txt K mg Tb w) (F_law_kin : HasL P w K mg base Tb 1 "_law_kin" ["_law_e"] spec_law_kin) (F_law_classes : HasL P w K mg base Tb 1 "_law_classes" ["_law_e"] spec_law_classes) {f : Addr} {fd : FuncData} (F : Fun K "_law_other_right" "_law_other_right" s_law_other_right f fd) : FnG P w K mg base (L2.CX P w) 2 f fd ["_law_one", "_law_two"] (spD ⟨K, mg, Tb, w⟩ 2 spec_law_other_right) := by
  refine okDG (T := Tb) true F sc_law_other_right fun cdv A outer s H E hg hr tk px => ?_
  have hu64 := hr.units
  exact ⟨b_law_other_right, (dss_cons (ds_set (i := 2) sc_law_other_right.nd rfl (Or.inl rfl) (de_lst (da_cons (dx_exn (ns := ["kind"]) T.xn_EmptyKind (by decide) hr rfl (da_cons (dv 0) da_nil)) (da_cons (dx_exnK (ns := ["kind"]) T.xn_EmptyKind (by decide) hr rfl (dk_cons (dv 0) dk_nil)) (da_cons (dx_exn (ns := ["tree"]) T.xn_Unlike (by decide) hr rfl (da_cons (dv 0) da_nil)) (da_cons (dx_exnK (ns := ["tree"]) T.xn_Unlike (by decide) hr rfl (dk_cons (dv 0) dk_nil)) (da_cons (dx_exn (ns := ["mode", "name"]) T.xn_MissingRule (by decide) hr rfl (da_cons (dv 0) (da_cons (dv 1) da_nil))) da_nil)))))))
    (dss_cons (ds_set (i := 2) sc_law_other_right.nd rfl (Or.inl rfl) (de_op p_add (dv 2) (de_lst (da_cons (dx_exnK (ns := ["mode", "name"]) T.xn_MissingRule (by decide) hr rfl (dk_cons (dv 1) (dk_cons (dv 0) dk_nil))) (da_cons (dx_exn (ns := ["deed", "tree"]) T.xn_Refused (by decide) hr rfl (da_cons (dv 0) (da_cons (dv 1) da_nil))) (da_cons (dx_exnK (ns := ["deed", "tree"]) T.xn_Refused (by decide) hr rfl (dk_cons (dv 1) (dk_cons (dv 0) dk_nil))) da_nil))))))
    (dss_cons (ds_set (i := 3) sc_law_other_right.nd rfl (Or.inl rfl) (de_lst (da_cons (de_xf (cs := ["EmptyKind"]) (by intro c hc; simp only [List.mem_cons, List.not_mem_nil, or_false] at hc; rcases hc with rfl <;> first | exact T.xf_EmptyKind_kind) (by decide) (de_ix i_ix (dv 2) de_int (fun _ _ => rfl)) rfl) (da_cons (de_xf (cs := ["EmptyKind"]) (by intro c hc; simp only [List.mem_cons, List.not_mem_nil, or_false] at hc; rcases hc with rfl <;> first | exact T.xf_EmptyKind_kind) (by decide) (de_ix i_ix (dv 2) de_int (fun _ _ => rfl)) rfl) (da_cons (de_xf (cs := ["Unlike", "Refused"]) (by intro c hc; simp only [List.mem_cons, List.not_mem_nil, or_false] at hc; rcases hc with rfl | rfl <;> first | exact T.xf_Unlike_tree | exact T.xf_Refused_tree) (by decide) (de_ix i_ix (dv 2) de_int (fun _ _ => rfl)) rfl) (da_cons (de_xf (cs := ["Unlike", "Refused"]) (by intro c hc; simp only [List.mem_cons, List.not_mem_nil, or_false] at hc; rcases hc with rfl | rfl <;> first | exact T.xf_Unlike_tree | exact T.xf_Refused_tree) (by decide) (de_ix i_ix (dv 2) de_int (fun _ _ => rfl)) rfl) (da_cons (de_xf (cs := ["MissingRule"]) (by intro c hc; simp only [List.mem_cons, List.not_mem_nil, or_false] at hc; rcases hc with rfl <;> first | exact T.xf_MissingRule_mode) (by decide) (de_ix i_ix (dv 2) de_int (fun _ _ => rfl)) rfl) (da_cons (de_xf (cs := ["MissingRule"]) (by intro c hc; simp only [List.mem_cons, List.not_mem_nil, or_false] at hc; rcases hc with rfl <;> first | exact T.xf_MissingRule_name) (by decide) (de_ix i_ix (dv 2) de_int (fun _ _ => rfl)) rfl) da_nil))))))))
    (dss_cons (ds_set (i := 3) sc_law_other_right.nd rfl (Or.inl rfl) (de_op p_add (dv 3) (de_lst (da_cons (de_xf (cs := ["MissingRule"]) (by intro c hc; simp only [List.mem_cons, List.not_mem_nil, or_false] at hc; rcases hc with rfl <;> first | exact T.xf_MissingRule_mode) (by decide) (de_ix i_ix (dv 2) de_int (fun _ _ => rfl)) rfl) (da_cons (de_xf (cs := ["MissingRule"]) (by intro c hc; simp only [List.mem_cons, List.not_mem_nil, or_false] at hc; rcases hc with rfl <;> first | exact T.xf_MissingRule_name) (by decide) (de_ix i_ix (dv 2) de_int (fun _ _ => rfl)) rfl) (da_cons (de_xf (cs := ["Refused"]) (by intro c hc; simp only [List.mem_cons, List.not_mem_nil, or_false] at hc; rcases hc with rfl <;> first | exact T.xf_Refused_deed) (by decide) (de_ix i_ix (dv 2) de_int (fun _ _ => rfl)) rfl) (da_cons (de_xf (cs := ["Unlike", "Refused"]) (by intro c hc; simp only [List.mem_cons, List.not_mem_nil, or_false] at hc; rcases hc with rfl | rfl <;> first | exact T.xf_Unlike_tree | exact T.xf_Refused_tree) (by decide) (de_ix i_ix (dv 2) de_int (fun _ _ => rfl)) rfl) (da_cons (de_xf (cs := ["Refused"]) (by intro c hc; simp only [List.mem_cons, List.not_mem_nil, or_false] at hc; rcases hc with rfl <;> first | exact T.xf_Refused_deed) (by decide) (de_ix i_ix (dv 2) de_int (fun _ _ => rfl)) rfl) (da_cons (de_xf (cs := ["Unlike", "Refused"]) (by intro c hc; simp only [List.mem_cons, List.not_mem_nil, or_false] at hc; rcases hc with rfl | rfl <;> first | exact T.xf_Unlike_tree | exact T.xf_Refused_tree) (by decide) (de_ix i_ix (dv 2) de_int (fun _ _ => rfl)) rfl) da_nil)))))))))
    (dss_cons (ds_set (i := 2) sc_law_other_right.nd rfl (Or.inl rfl) (de_op p_add (dv 2) (de_lst (da_cons (dx_exnZ T.xz_OtherSchema (by decide) rfl) (da_cons (dx_exnZ T.xz_NothingToUndo (by decide) rfl) (da_cons (dx_exnZ T.xz_Busy (by decide) rfl) da_nil))))))
    (dss_cons (ds_if (dt_cmp (p_ne hu64) (de_callB (c_repr hg hu64) rfl T.b_repr bt_repr (da_cons (dv 3) da_nil)) (de_callB (c_repr hg hu64) rfl T.b_repr bt_repr (da_cons (de_op p_add (de_op p_mulR (de_lst (da_cons (dv 0) da_nil)) de_int) (de_op p_mulR (de_lst (da_cons (dv 0) (da_cons (dv 1) da_nil))) de_int)) da_nil)) (nomark _)) (dss_one (ds_ret de_bl)) dss_nil)
    (dss_cons (ds_if (dt_not (dt_val (de_callB (c_all rfl) rfl T.b_all bt_all (da_cons (de_lc (own := [("_law_e", 5)]) rfl sc_law_other_right.nd (di_any (dv 2)) (blkOk_by (own := [("_law_e", 5)]) (N := N_law_other_right) (sc := defScope s_law_other_right) (by decide +kernel)) (fun _ _ _ _ _ => (dg_name (i := 5) sc_law_other_right.nd rfl (by first | exact Or.inl rfl | exact Or.inr rfl))) (fun _ _ _ _ _ => dts_nil) (fun _ _ _ _ _ => (de_cmp (p_eq hu64) (de_g F_law_kin hg (hr.mono (by first | decide | omega)) takes_WF rfl n_law_kin (da_cons (dv 5) da_nil)) (de_lst (da_cons de_bl (da_cons de_bl (da_cons de_bl (da_cons de_bl (da_cons de_bl (da_cons de_bl da_nil))))))) (nomark _)))) da_nil)))) (dss_one (ds_ret de_bl)) dss_nil)
    (dss_cons (ds_set (i := 4) sc_law_other_right.nd rfl (Or.inl rfl) (de_lst (da_cons (dx_exn (ns := ["found"]) T.xn_TooLong (by decide) hr rfl (da_cons (dv 0) da_nil)) (da_cons (dx_exnK (ns := ["found"]) T.xn_TooLong (by decide) hr rfl (dk_cons (dv 0) dk_nil)) da_nil))))
    (dss_cons (ds_if (dt_cmp (p_ne hu64) (de_callB (c_repr hg hu64) rfl T.b_repr bt_repr (da_cons (de_lc (own := [("_law_e", 5)]) rfl sc_law_other_right.nd (di_any (dv 4)) (blkOk_by (own := [("_law_e", 5)]) (N := N_law_other_right) (sc := defScope s_law_other_right) (by decide +kernel)) (fun _ _ _ _ _ => (dg_name (i := 5) sc_law_other_right.nd rfl (by first | exact Or.inl rfl | exact Or.inr rfl))) (fun _ _ _ _ _ => dts_nil) (fun _ _ _ _ _ => (de_xf (cs := ["TooLong"]) (by intro c hc; simp only [List.mem_cons, List.not_mem_nil, or_false] at hc; rcases hc with rfl <;> first | exact T.xf_TooLong_found) (by decide) (dv 5) rfl))) da_nil)) (de_callB (c_repr hg hu64) rfl T.b_repr bt_repr (da_cons (de_lst (da_cons (dv 0) (da_cons (dv 0) da_nil))) da_nil)) (nomark _)) (dss_one (ds_ret de_bl)) dss_nil)
    (dss_cons (ds_if (dt_not (dt_val (de_callB (c_all rfl) rfl T.b_all bt_all (da_cons (de_lc (own := [("_law_e", 5)]) rfl sc_law_other_right.nd (di_any (dv 4)) (blkOk_by (own := [("_law_e", 5)]) (N := N_law_other_right) (sc := defScope s_law_other_right) (by decide +kernel)) (fun _ _ _ _ _ => (dg_name (i := 5) sc_law_other_right.nd rfl (by first | exact Or.inl rfl | exact Or.inr rfl))) (fun _ _ _ _ _ => dts_nil) (fun _ _ _ _ _ => (de_cmp (p_eq hu64) (de_g F_law_kin hg (hr.mono (by first | decide | omega)) takes_WF rfl n_law_kin (da_cons (dv 5) da_nil)) (de_lst (da_cons de_bl (da_cons de_bl (da_cons de_bl (da_cons de_bl (da_cons de_bl (da_cons de_bl da_nil))))))) (nomark _)))) da_nil)))) (dss_one (ds_ret de_bl)) dss_nil)
    (dss_one (ds_ret (de_callB (c_all rfl) rfl T.b_all bt_all (da_cons (de_lc (own := [("_law_e", 5)]) rfl sc_law_other_right.nd (di_any (de_op p_add (dv 2) (dv 4))) (blkOk_by (own := [("_law_e", 5)]) (N := N_law_other_right) (sc := defScope s_law_other_right) (by decide +kernel)) (fun _ _ _ _ _ => (dg_name (i := 5) sc_law_other_right.nd rfl (by first | exact Or.inl rfl | exact Or.inr rfl))) (fun _ _ _ _ _ => dts_nil) (fun _ _ _ _ _ => (de_cmp (p_eq hu64) (de_lm PySem.F.slot_list_count PySem.F.type_list_count (Dn.mt_count hu64) (de_g F_law_classes hg (hr.mono (by first | decide | omega)) takes_WF rfl n_law_classes (da_cons (dv 5) da_nil)) de_bl) de_int (nomark _)))) da_nil)))))))))))))), r_law_other_right⟩
theorem ok_law_right (T : Txt K mg Tb w) (F_law_values : HasL P w K mg base Tb 1 "_law_values" ["_law_thing"] spec_law_values) (F_law_named_values : HasL P w K mg base Tb 1 "_law_named_values" ["_law_thing"] spec_law_named_values) (F_law_indexes : HasL P w K mg base Tb 1 "_law_indexes" ["_law_thing"] spec_law_indexes) (F_law_named_indexes : HasL P w K mg base Tb 1 "_law_named_indexes" ["_law_thing"] spec_law_named_indexes) (F_law_tops : HasL P w K mg base Tb 1 "_law_tops" ["_law_thing"] spec_law_tops) (F_law_kin : HasL P w K mg base Tb 1 "_law_kin" ["_law_e"] spec_law_kin) (F_law_classes : HasL P w K mg base Tb 1 "_law_classes" ["_law_e"] spec_law_classes) (F_law_other_right : HasL P w K mg base Tb 2 "_law_other_right" ["_law_one", "_law_two"] spec_law_other_right) {f : Addr} {fd : FuncData} (F : Fun K "_law_right" "_law_right" s_law_right f fd) : FnG P w K mg base (L2.CX P w) 3 f fd ["_law_one", "_law_two"] (spD ⟨K, mg, Tb, w⟩ 2 spec_law_right) := by
  refine okDG (T := Tb) true F sc_law_right fun cdv A outer s H E hg hr tk px => ?_
  have hu64 := hr.units
  exact ⟨b_law_right, (dss_cons (ds_set (i := 2) sc_law_right.nd rfl (Or.inl rfl) (de_op p_add (de_g F_law_values hg (hr.mono (by first | decide | omega)) tk rfl n_law_values (da_cons (dv 0) da_nil)) (de_g F_law_named_values hg (hr.mono (by first | decide | omega)) tk rfl n_law_named_values (da_cons (dv 0) da_nil))))
    (dss_cons (ds_if (dt_cmp (p_ne hu64) (de_callB (c_repr hg hu64) rfl T.b_repr bt_repr (da_cons (de_lc (own := [("_law_e", 5)]) rfl sc_law_right.nd (di_any (dv 2)) (blkOk_by (own := [("_law_e", 5)]) (N := N_law_right) (sc := defScope s_law_right) (by decide +kernel)) (fun _ _ _ _ _ => (dg_name (i := 5) sc_law_right.nd rfl (by first | exact Or.inl rfl | exact Or.inr rfl))) (fun _ _ _ _ _ => dts_nil) (fun _ _ _ _ _ => (de_xf (cs := ["NotASchema", "NotATree", "NotAWriter", "NotAPattern", "UnknownKind", "UnknownConstructor", "UnknownMode", "InvalidText", "InvalidPath", "InvalidTree", "InvalidNumber", "InvalidStart", "InvalidString", "InvalidLine"]) (by intro c hc; simp only [List.mem_cons, List.not_mem_nil, or_false] at hc; rcases hc with rfl | rfl | rfl | rfl | rfl | rfl | rfl | rfl | rfl | rfl | rfl | rfl | rfl | rfl <;> first | exact T.xf_NotASchema_value | exact T.xf_NotATree_value | exact T.xf_NotAWriter_value | exact T.xf_NotAPattern_value | exact T.xf_UnknownKind_value | exact T.xf_UnknownConstructor_value | exact T.xf_UnknownMode_value | exact T.xf_InvalidText_value | exact T.xf_InvalidPath_value | exact T.xf_InvalidTree_value | exact T.xf_InvalidNumber_value | exact T.xf_InvalidStart_value | exact T.xf_InvalidString_value | exact T.xf_InvalidLine_value) (by decide) (dv 5) rfl))) da_nil)) (de_callB (c_repr hg hu64) rfl T.b_repr bt_repr (da_cons (de_op p_mulR (de_lst (da_cons (dv 0) da_nil)) de_int) da_nil)) (nomark _)) (dss_one (ds_ret de_bl)) dss_nil)
    (dss_cons (ds_set (i := 3) sc_law_right.nd rfl (Or.inl rfl) (de_op p_add (de_g F_law_indexes hg (hr.mono (by first | decide | omega)) tk rfl n_law_indexes (da_cons (dv 0) da_nil)) (de_g F_law_named_indexes hg (hr.mono (by first | decide | omega)) tk rfl n_law_named_indexes (da_cons (dv 0) da_nil))))
    (dss_cons (ds_if (dt_cmp (p_ne hu64) (de_callB (c_repr hg hu64) rfl T.b_repr bt_repr (da_cons (de_lc (own := [("_law_e", 5)]) rfl sc_law_right.nd (di_any (dv 3)) (blkOk_by (own := [("_law_e", 5)]) (N := N_law_right) (sc := defScope s_law_right) (by decide +kernel)) (fun _ _ _ _ _ => (dg_name (i := 5) sc_law_right.nd rfl (by first | exact Or.inl rfl | exact Or.inr rfl))) (fun _ _ _ _ _ => dts_nil) (fun _ _ _ _ _ => (de_xf (cs := ["InvalidKinds", "InvalidConstructors", "InvalidFields", "InvalidRows", "InvalidRules", "InvalidSigns", "InvalidGood", "InvalidMoves", "InvalidDeed", "InvalidWriters"]) (by intro c hc; simp only [List.mem_cons, List.not_mem_nil, or_false] at hc; rcases hc with rfl | rfl | rfl | rfl | rfl | rfl | rfl | rfl | rfl | rfl <;> first | exact T.xf_InvalidKinds_index | exact T.xf_InvalidConstructors_index | exact T.xf_InvalidFields_index | exact T.xf_InvalidRows_index | exact T.xf_InvalidRules_index | exact T.xf_InvalidSigns_index | exact T.xf_InvalidGood_index | exact T.xf_InvalidMoves_index | exact T.xf_InvalidDeed_index | exact T.xf_InvalidWriters_index) (by decide) (dv 5) rfl))) da_nil)) (de_callB (c_repr hg hu64) rfl T.b_repr bt_repr (da_cons (de_op p_mulR (de_lst (da_cons (dv 0) da_nil)) de_int) da_nil)) (nomark _)) (dss_one (ds_ret de_bl)) dss_nil)
    (dss_cons (ds_set (i := 4) sc_law_right.nd rfl (Or.inl rfl) (de_g F_law_tops hg (hr.mono (by first | decide | omega)) tk rfl n_law_tops (da_cons (dv 0) da_nil)))
    (dss_cons (ds_if (dt_cmp (p_ne hu64) (de_callB (c_repr hg hu64) rfl T.b_repr bt_repr (da_cons (de_lc (own := [("_law_e", 5)]) rfl sc_law_right.nd (di_any (dv 4)) (blkOk_by (own := [("_law_e", 5)]) (N := N_law_right) (sc := defScope s_law_right) (by decide +kernel)) (fun _ _ _ _ _ => (dg_name (i := 5) sc_law_right.nd rfl (by first | exact Or.inl rfl | exact Or.inr rfl))) (fun _ _ _ _ _ => dts_nil) (fun _ _ _ _ _ => (de_xf (cs := ["TooManyRows", "TooManyJoins", "TooManyFaces", "TooManyDeeds"]) (by intro c hc; simp only [List.mem_cons, List.not_mem_nil, or_false] at hc; rcases hc with rfl | rfl | rfl | rfl <;> first | exact T.xf_TooManyRows_limit | exact T.xf_TooManyJoins_limit | exact T.xf_TooManyFaces_limit | exact T.xf_TooManyDeeds_limit) (by decide) (dv 5) rfl))) da_nil)) (de_callB (c_repr hg hu64) rfl T.b_repr bt_repr (da_cons (de_op p_mulR (de_lst (da_cons (dv 0) da_nil)) de_int) da_nil)) (nomark _)) (dss_one (ds_ret de_bl)) dss_nil)
    (dss_cons (ds_if (dt_not (dt_val (de_callB (c_all rfl) rfl T.b_all bt_all (da_cons (de_lc (own := [("_law_e", 5)]) rfl sc_law_right.nd (di_any (de_op p_add (dv 2) (dv 3))) (blkOk_by (own := [("_law_e", 5)]) (N := N_law_right) (sc := defScope s_law_right) (by decide +kernel)) (fun _ _ _ _ _ => (dg_name (i := 5) sc_law_right.nd rfl (by first | exact Or.inl rfl | exact Or.inr rfl))) (fun _ _ _ _ _ => dts_nil) (fun _ _ _ _ _ => (de_cmp (p_eq hu64) (de_g F_law_kin hg (hr.mono (by first | decide | omega)) takes_WF rfl n_law_kin (da_cons (dv 5) da_nil)) (de_lst (da_cons de_bl (da_cons de_bl (da_cons de_bl (da_cons de_bl (da_cons de_bl (da_cons de_bl da_nil))))))) (nomark _)))) da_nil)))) (dss_one (ds_ret de_bl)) dss_nil)
    (dss_cons (ds_if (dt_not (dt_val (de_callB (c_all rfl) rfl T.b_all bt_all (da_cons (de_lc (own := [("_law_e", 5)]) rfl sc_law_right.nd (di_any (dv 4)) (blkOk_by (own := [("_law_e", 5)]) (N := N_law_right) (sc := defScope s_law_right) (by decide +kernel)) (fun _ _ _ _ _ => (dg_name (i := 5) sc_law_right.nd rfl (by first | exact Or.inl rfl | exact Or.inr rfl))) (fun _ _ _ _ _ => dts_nil) (fun _ _ _ _ _ => (de_cmp (p_eq hu64) (de_g F_law_kin hg (hr.mono (by first | decide | omega)) takes_WF rfl n_law_kin (da_cons (dv 5) da_nil)) (de_lst (da_cons de_bl (da_cons de_bl (da_cons de_bl (da_cons de_bl (da_cons de_bl (da_cons de_bl da_nil))))))) (nomark _)))) da_nil)))) (dss_one (ds_ret de_bl)) dss_nil)
    (dss_one (ds_ret (de_and (de_callB (c_all rfl) rfl T.b_all bt_all (da_cons (de_lc (own := [("_law_e", 5)]) rfl sc_law_right.nd (di_any (de_op p_add (de_op p_add (dv 2) (dv 3)) (dv 4))) (blkOk_by (own := [("_law_e", 5)]) (N := N_law_right) (sc := defScope s_law_right) (by decide +kernel)) (fun _ _ _ _ _ => (dg_name (i := 5) sc_law_right.nd rfl (by first | exact Or.inl rfl | exact Or.inr rfl))) (fun _ _ _ _ _ => dts_nil) (fun _ _ _ _ _ => (de_cmp (p_eq hu64) (de_lm PySem.F.slot_list_count PySem.F.type_list_count (Dn.mt_count hu64) (de_g F_law_classes hg (hr.mono (by first | decide | omega)) takes_WF rfl n_law_classes (da_cons (dv 5) da_nil)) de_bl) de_int (nomark _)))) da_nil)) (de_one (de_g F_law_other_right hg (hr.mono (by first | decide | omega)) tk rfl n_law_other_right (da_cons (dv 0) (da_cons (dv 1) da_nil))))))))))))))), r_law_right⟩
theorem ok_law (T : Txt K mg Tb w) (F_law_number : HasL P w K mg base Tb 1 "_law_number" ["_law_cells", "_law_k"] spec_law_number) (F_law_deal : HasL P w K mg base Tb 1 "_law_deal" ["_law_number_here"] spec_law_deal) (F_law_pick : HasL P w K mg base Tb 1 "_law_pick" ["_law_deal_here", "_law_many"] spec_law_pick) (F_law_right : HasL P w K mg base Tb 3 "_law_right" ["_law_one", "_law_two"] spec_law_right) {f : Addr} {fd : FuncData} (F : Fun K "law" "law" s_law f fd) : FnG P w K mg base (L2.CX P w) 4 f fd ["_law_cells"] (spD ⟨K, mg, Tb, w⟩ 1 spec_law) := by
  refine okDG (T := Tb) true F sc_law fun cdv A outer s H E hg hr tk px => ?_
  have hu64 := hr.units
  exact ⟨b_law, (dss_cons (ds_set (i := 1) sc_law.nd rfl (Or.inl rfl) (de_lst (da_cons (de_cint T.m_MOST_KINDS rfl) (da_cons (de_cint T.m_MOST_CONSTRUCTORS rfl) (da_cons (de_cint T.m_MOST_FIELDS rfl) (da_cons (de_cint T.m_MOST_ROWS rfl) (da_cons (de_cint T.m_MOST_MODES rfl) (da_cons (de_cint T.m_MOST_RULES rfl) (da_cons (de_cint T.m_MOST_PIECES rfl) (da_cons (de_cint T.m_MOST_SIGNS rfl) da_nil))))))))))
    (dss_cons (ds_set (i := 1) sc_law.nd rfl (Or.inl rfl) (de_op p_add (dv 1) (de_lst (da_cons (de_cint T.m_MOST_JOINS rfl) (da_cons (de_cint T.m_MOST_STANDS rfl) (da_cons (de_cint T.m_MOST_MOVES rfl) (da_cons (de_cint T.m_MOST_FACES rfl) (da_cons (de_cint T.m_MOST_WRITTEN rfl) (da_cons (de_cint T.m_MOST_READ rfl) (da_cons (de_cint T.m_MOST_LISTED rfl) (da_cons (de_cint T.m_MOST_DEEDS rfl) da_nil)))))))))))
    (dss_cons (ds_if (dt_cmp (p_ne hu64) (de_callB (c_repr hg hu64) rfl T.b_repr bt_repr (da_cons (dv 1) da_nil)) (de_callB (c_repr hg hu64) rfl T.b_repr bt_repr (da_cons (de_lst (da_cons de_int (da_cons de_int (da_cons de_int (da_cons de_int (da_cons de_int (da_cons de_int (da_cons de_int (da_cons de_int (da_cons de_int (da_cons de_int (da_cons de_int (da_cons de_int (da_cons de_int (da_cons de_int (da_cons de_int (da_cons de_int da_nil))))))))))))))))) da_nil)) (nomark _)) (dss_one (ds_ret de_bl)) dss_nil)
    (dss_cons (ds_for px rfl (di_range1 rfl T.b_range (da_cons (de_callB (c_max2 rfl) rfl T.b_max bt_max (da_cons de_int (da_cons (de_callB (c_min2 rfl) rfl T.b_min bt_min (da_cons (de_callB c_len rfl T.b_len bt_len (da_cons (dv 0) da_nil)) (da_cons de_int da_nil))) da_nil))) da_nil)) (dg_name (i := 2) sc_law.nd rfl (Or.inl rfl)) (dss_cons (ds_set (i := 3) sc_law.nd rfl (Or.inl rfl) (de_g F_law_number hg (hr.mono (by first | decide | omega)) tk rfl n_law_number (da_cons (dv 0) (da_cons (dv 2) da_nil))))
    (dss_cons (ds_par (i := 4) (j := 5) (by rfl) sc_law.nd rfl rfl (by decide) rfl rfl (da_cons (de_g F_law_deal hg (hr.mono (by first | decide | omega)) tk rfl n_law_deal (da_cons (dv 3) da_nil)) (da_cons (de_callTy c_int rfl T.b_int bt_int (da_cons (de_callB c_abs rfl T.b_abs bt_abs (da_cons (dv 3) da_nil)) da_nil)) da_nil)) (by rfl))
    (dss_cons (ds_set (i := 6) sc_law.nd rfl (Or.inl rfl) (de_lst (da_cons (de_op p_mod (dv 5) (de_op p_pow de_int de_int)) (da_cons (de_op p_add de_str (de_callTy c_str rfl T.b_str bt_str (da_cons (de_op p_mod (de_callTy c_int rfl T.b_int bt_int (da_cons (dv 5) da_nil)) de_int) da_nil))) (da_cons de_non (da_cons de_bl (da_cons de_bl (da_cons de_int (da_cons (de_tup (da_cons de_int (da_cons (de_op p_mod (de_callTy c_int rfl T.b_int bt_int (da_cons (dv 5) da_nil)) de_int) da_nil))) (da_cons (de_tup da_nil) (da_cons (de_un p_neg de_int) (da_cons de_int da_nil))))))))))))
    (dss_one (ds_if (dt_not (dt_val (de_g F_law_right hg (hr.mono (by first | decide | omega)) tk rfl n_law_right (da_cons (de_ix i_ix (dv 6) (de_g F_law_pick hg (hr.mono (by first | decide | omega)) tk rfl n_law_pick (da_cons (dv 4) (da_cons de_int da_nil))) (fun _ _ => rfl)) (da_cons (de_ix i_ix (dv 6) (de_g F_law_pick hg (hr.mono (by first | decide | omega)) tk rfl n_law_pick (da_cons (dv 4) (da_cons de_int da_nil))) (fun _ _ => rfl)) da_nil))))) (dss_one (ds_ret de_bl)) dss_nil))))))
    (dss_one (ds_ret de_bl)))))), r_law⟩
end
end D22
namespace D22
open PySem L2 Ft Dn LamX StX
theorem inN_EmptyKind : Ft.InitS (inClass (top 28) 0) ["kind"] := ⟨⟨_, _, _, _, rfl⟩, rfl, rfl, rfl, by decide +kernel, by decide +kernel, by decide, by decide⟩
theorem inN_InvalidConstructors : Ft.InitS (inClass (top 19) 0) ["index"] := ⟨⟨_, _, _, _, rfl⟩, rfl, rfl, rfl, by decide +kernel, by decide +kernel, by decide, by decide⟩
theorem inN_InvalidDeed : Ft.InitS (inClass (top 26) 0) ["index"] := ⟨⟨_, _, _, _, rfl⟩, rfl, rfl, rfl, by decide +kernel, by decide +kernel, by decide, by decide⟩
theorem inN_InvalidFields : Ft.InitS (inClass (top 20) 0) ["index"] := ⟨⟨_, _, _, _, rfl⟩, rfl, rfl, rfl, by decide +kernel, by decide +kernel, by decide, by decide⟩
theorem inN_InvalidGood : Ft.InitS (inClass (top 24) 0) ["index"] := ⟨⟨_, _, _, _, rfl⟩, rfl, rfl, rfl, by decide +kernel, by decide +kernel, by decide, by decide⟩
theorem inN_InvalidKinds : Ft.InitS (inClass (top 18) 0) ["index"] := ⟨⟨_, _, _, _, rfl⟩, rfl, rfl, rfl, by decide +kernel, by decide +kernel, by decide, by decide⟩
theorem inN_InvalidLine : Ft.InitS (inClass (top 17) 0) ["value"] := ⟨⟨_, _, _, _, rfl⟩, rfl, rfl, rfl, by decide +kernel, by decide +kernel, by decide, by decide⟩
theorem inN_InvalidMoves : Ft.InitS (inClass (top 25) 0) ["index"] := ⟨⟨_, _, _, _, rfl⟩, rfl, rfl, rfl, by decide +kernel, by decide +kernel, by decide, by decide⟩
theorem inN_InvalidNumber : Ft.InitS (inClass (top 14) 0) ["value"] := ⟨⟨_, _, _, _, rfl⟩, rfl, rfl, rfl, by decide +kernel, by decide +kernel, by decide, by decide⟩
theorem inN_InvalidPath : Ft.InitS (inClass (top 12) 0) ["value"] := ⟨⟨_, _, _, _, rfl⟩, rfl, rfl, rfl, by decide +kernel, by decide +kernel, by decide, by decide⟩
theorem inN_InvalidRows : Ft.InitS (inClass (top 21) 0) ["index"] := ⟨⟨_, _, _, _, rfl⟩, rfl, rfl, rfl, by decide +kernel, by decide +kernel, by decide, by decide⟩
theorem inN_InvalidRules : Ft.InitS (inClass (top 22) 0) ["index"] := ⟨⟨_, _, _, _, rfl⟩, rfl, rfl, rfl, by decide +kernel, by decide +kernel, by decide, by decide⟩
theorem inN_InvalidSigns : Ft.InitS (inClass (top 23) 0) ["index"] := ⟨⟨_, _, _, _, rfl⟩, rfl, rfl, rfl, by decide +kernel, by decide +kernel, by decide, by decide⟩
theorem inN_InvalidStart : Ft.InitS (inClass (top 15) 0) ["value"] := ⟨⟨_, _, _, _, rfl⟩, rfl, rfl, rfl, by decide +kernel, by decide +kernel, by decide, by decide⟩
theorem inN_InvalidString : Ft.InitS (inClass (top 16) 0) ["value"] := ⟨⟨_, _, _, _, rfl⟩, rfl, rfl, rfl, by decide +kernel, by decide +kernel, by decide, by decide⟩
theorem inN_InvalidText : Ft.InitS (inClass (top 11) 0) ["value"] := ⟨⟨_, _, _, _, rfl⟩, rfl, rfl, rfl, by decide +kernel, by decide +kernel, by decide, by decide⟩
theorem inN_InvalidTree : Ft.InitS (inClass (top 13) 0) ["value"] := ⟨⟨_, _, _, _, rfl⟩, rfl, rfl, rfl, by decide +kernel, by decide +kernel, by decide, by decide⟩
theorem inN_InvalidWriters : Ft.InitS (inClass (top 27) 0) ["index"] := ⟨⟨_, _, _, _, rfl⟩, rfl, rfl, rfl, by decide +kernel, by decide +kernel, by decide, by decide⟩
theorem inN_MissingRule : Ft.InitS (inClass (top 29) 0) ["mode", "name"] := ⟨⟨_, _, _, _, _, _, _, _, rfl⟩, rfl, rfl, rfl, by decide +kernel, by decide +kernel, by decide +kernel, by decide, by decide, by decide⟩
theorem inN_NotAPattern : Ft.InitS (inClass (top 7) 0) ["value"] := ⟨⟨_, _, _, _, rfl⟩, rfl, rfl, rfl, by decide +kernel, by decide +kernel, by decide, by decide⟩
theorem inN_NotASchema : Ft.InitS (inClass (top 4) 0) ["value"] := ⟨⟨_, _, _, _, rfl⟩, rfl, rfl, rfl, by decide +kernel, by decide +kernel, by decide, by decide⟩
theorem inN_NotATree : Ft.InitS (inClass (top 5) 0) ["value"] := ⟨⟨_, _, _, _, rfl⟩, rfl, rfl, rfl, by decide +kernel, by decide +kernel, by decide, by decide⟩
theorem inN_NotAWriter : Ft.InitS (inClass (top 6) 0) ["value"] := ⟨⟨_, _, _, _, rfl⟩, rfl, rfl, rfl, by decide +kernel, by decide +kernel, by decide, by decide⟩
theorem inN_Refused : Ft.InitS (inClass (top 31) 0) ["deed", "tree"] := ⟨⟨_, _, _, _, _, _, _, _, rfl⟩, rfl, rfl, rfl, by decide +kernel, by decide +kernel, by decide +kernel, by decide, by decide, by decide⟩
theorem inN_TooLong : Ft.InitS (inClass (top 39) 0) ["found"] := ⟨⟨_, _, _, _, rfl⟩, rfl, rfl, rfl, by decide +kernel, by decide +kernel, by decide, by decide⟩
theorem inN_TooManyDeeds : Ft.InitS (inClass (top 38) 0) ["limit"] := ⟨⟨_, _, _, _, rfl⟩, rfl, rfl, rfl, by decide +kernel, by decide +kernel, by decide, by decide⟩
theorem inN_TooManyFaces : Ft.InitS (inClass (top 37) 0) ["limit"] := ⟨⟨_, _, _, _, rfl⟩, rfl, rfl, rfl, by decide +kernel, by decide +kernel, by decide, by decide⟩
theorem inN_TooManyJoins : Ft.InitS (inClass (top 36) 0) ["limit"] := ⟨⟨_, _, _, _, rfl⟩, rfl, rfl, rfl, by decide +kernel, by decide +kernel, by decide, by decide⟩
theorem inN_TooManyRows : Ft.InitS (inClass (top 35) 0) ["limit"] := ⟨⟨_, _, _, _, rfl⟩, rfl, rfl, rfl, by decide +kernel, by decide +kernel, by decide, by decide⟩
theorem inN_UnknownConstructor : Ft.InitS (inClass (top 9) 0) ["value"] := ⟨⟨_, _, _, _, rfl⟩, rfl, rfl, rfl, by decide +kernel, by decide +kernel, by decide, by decide⟩
theorem inN_UnknownKind : Ft.InitS (inClass (top 8) 0) ["value"] := ⟨⟨_, _, _, _, rfl⟩, rfl, rfl, rfl, by decide +kernel, by decide +kernel, by decide, by decide⟩
theorem inN_UnknownMode : Ft.InitS (inClass (top 10) 0) ["value"] := ⟨⟨_, _, _, _, rfl⟩, rfl, rfl, rfl, by decide +kernel, by decide +kernel, by decide, by decide⟩
theorem inN_Unlike : Ft.InitS (inClass (top 30) 0) ["tree"] := ⟨⟨_, _, _, _, rfl⟩, rfl, rfl, rfl, by decide +kernel, by decide +kernel, by decide, by decide⟩
theorem all_mk {P : Program} {w : World} {K : PySem.W.Frag} {mg : Str → Option Value} {base : Heap} {XN0 XN1 XN2 XN3 XN4 XN5 XN6 XN7 XN8 XN9 XN10 XN11 XN12 XN13 XN14 XN15 XN16 XN17 XN18 XN19 XN20 XN21 XN22 XN23 XN24 XN25 XN26 XN27 XN28 XN29 XN30 XN31 XN32 XZ0 XZ1 XZ2 XB19 XB28 XB34 f0 f1 f2 f3 f4 f5 f6 f7 f8 f9 f10 f11 f12 : Addr} {d0 d1 d2 d3 d4 d5 d6 d7 d8 d9 d10 d11 d12 : FuncData} (b_abs : mg "abs" = none) (b_all : mg "all" = none) (b_int : mg "int" = none) (b_isinstance : mg "isinstance" = none) (b_len : mg "len" = none) (b_max : mg "max" = none) (b_min : mg "min" = none) (b_range : mg "range" = none) (b_repr : mg "repr" = none) (b_str : mg "str" = none) (m_MOST_CONSTRUCTORS : Cst mg "MOST_CONSTRUCTORS" (.int 6)) (m_MOST_DEEDS : Cst mg "MOST_DEEDS" (.int 100)) (m_MOST_FACES : Cst mg "MOST_FACES" (.int 60)) (m_MOST_FIELDS : Cst mg "MOST_FIELDS" (.int 3)) (m_MOST_JOINS : Cst mg "MOST_JOINS" (.int 2000)) (m_MOST_KINDS : Cst mg "MOST_KINDS" (.int 4)) (m_MOST_LISTED : Cst mg "MOST_LISTED" (.int 20)) (m_MOST_MODES : Cst mg "MOST_MODES" (.int 3)) (m_MOST_MOVES : Cst mg "MOST_MOVES" (.int 30)) (m_MOST_PIECES : Cst mg "MOST_PIECES" (.int 9)) (m_MOST_READ : Cst mg "MOST_READ" (.int 40)) (m_MOST_ROWS : Cst mg "MOST_ROWS" (.int 200)) (m_MOST_RULES : Cst mg "MOST_RULES" (.int 40)) (m_MOST_SIGNS : Cst mg "MOST_SIGNS" (.int 20)) (m_MOST_STANDS : Cst mg "MOST_STANDS" (.int 5)) (m_MOST_WRITTEN : Cst mg "MOST_WRITTEN" (.int 5000)) (N_EmptyKind : Ft.ExN K mg "EmptyKind" ["kind"] XN0) (N_InvalidConstructors : Ft.ExN K mg "InvalidConstructors" ["index"] XN1) (N_InvalidDeed : Ft.ExN K mg "InvalidDeed" ["index"] XN2) (N_InvalidFields : Ft.ExN K mg "InvalidFields" ["index"] XN3) (N_InvalidGood : Ft.ExN K mg "InvalidGood" ["index"] XN4) (N_InvalidKinds : Ft.ExN K mg "InvalidKinds" ["index"] XN5) (N_InvalidLine : Ft.ExN K mg "InvalidLine" ["value"] XN6) (N_InvalidMoves : Ft.ExN K mg "InvalidMoves" ["index"] XN7) (N_InvalidNumber : Ft.ExN K mg "InvalidNumber" ["value"] XN8) (N_InvalidPath : Ft.ExN K mg "InvalidPath" ["value"] XN9) (N_InvalidRows : Ft.ExN K mg "InvalidRows" ["index"] XN10) (N_InvalidRules : Ft.ExN K mg "InvalidRules" ["index"] XN11) (N_InvalidSigns : Ft.ExN K mg "InvalidSigns" ["index"] XN12) (N_InvalidStart : Ft.ExN K mg "InvalidStart" ["value"] XN13) (N_InvalidString : Ft.ExN K mg "InvalidString" ["value"] XN14) (N_InvalidText : Ft.ExN K mg "InvalidText" ["value"] XN15) (N_InvalidTree : Ft.ExN K mg "InvalidTree" ["value"] XN16) (N_InvalidWriters : Ft.ExN K mg "InvalidWriters" ["index"] XN17) (N_MissingRule : Ft.ExN K mg "MissingRule" ["mode", "name"] XN18) (N_NotAPattern : Ft.ExN K mg "NotAPattern" ["value"] XN19) (N_NotASchema : Ft.ExN K mg "NotASchema" ["value"] XN20) (N_NotATree : Ft.ExN K mg "NotATree" ["value"] XN21) (N_NotAWriter : Ft.ExN K mg "NotAWriter" ["value"] XN22) (N_Refused : Ft.ExN K mg "Refused" ["deed", "tree"] XN23) (N_TooLong : Ft.ExN K mg "TooLong" ["found"] XN24) (N_TooManyDeeds : Ft.ExN K mg "TooManyDeeds" ["limit"] XN25) (N_TooManyFaces : Ft.ExN K mg "TooManyFaces" ["limit"] XN26) (N_TooManyJoins : Ft.ExN K mg "TooManyJoins" ["limit"] XN27) (N_TooManyRows : Ft.ExN K mg "TooManyRows" ["limit"] XN28) (N_UnknownConstructor : Ft.ExN K mg "UnknownConstructor" ["value"] XN29) (N_UnknownKind : Ft.ExN K mg "UnknownKind" ["value"] XN30) (N_UnknownMode : Ft.ExN K mg "UnknownMode" ["value"] XN31) (N_Unlike : Ft.ExN K mg "Unlike" ["tree"] XN32) (Z_Busy : Ft.ExZ K mg "Busy" XZ0) (Z_NothingToUndo : Ft.ExZ K mg "NothingToUndo" XZ1) (Z_OtherSchema : Ft.ExZ K mg "OtherSchema" XZ2) (gB_LimitError : mg "LimitError" = some (.ref XB19)) (gB_StateError : mg "StateError" = some (.ref XB28)) (gB_TreeError : mg "TreeError" = some (.ref XB34)) (bB_ArithmeticError : mg "ArithmeticError" = none) (bB_LookupError : mg "LookupError" = none) (bB_ValueError : mg "ValueError" = none) (KT : Dn.excTab K [(("Busy", XZ0) : Str × Addr), (("EmptyKind", XN0) : Str × Addr), (("InvalidConstructors", XN1) : Str × Addr), (("InvalidDeed", XN2) : Str × Addr), (("InvalidFields", XN3) : Str × Addr), (("InvalidGood", XN4) : Str × Addr), (("InvalidKinds", XN5) : Str × Addr), (("InvalidLine", XN6) : Str × Addr), (("InvalidMoves", XN7) : Str × Addr), (("InvalidNumber", XN8) : Str × Addr), (("InvalidPath", XN9) : Str × Addr), (("InvalidRows", XN10) : Str × Addr), (("InvalidRules", XN11) : Str × Addr), (("InvalidSigns", XN12) : Str × Addr), (("InvalidStart", XN13) : Str × Addr), (("InvalidString", XN14) : Str × Addr), (("InvalidText", XN15) : Str × Addr), (("InvalidTree", XN16) : Str × Addr), (("InvalidWriters", XN17) : Str × Addr), (("MissingRule", XN18) : Str × Addr), (("NotAPattern", XN19) : Str × Addr), (("NotASchema", XN20) : Str × Addr), (("NotATree", XN21) : Str × Addr), (("NotAWriter", XN22) : Str × Addr), (("NothingToUndo", XZ1) : Str × Addr), (("OtherSchema", XZ2) : Str × Addr), (("Refused", XN23) : Str × Addr), (("TooLong", XN24) : Str × Addr), (("TooManyDeeds", XN25) : Str × Addr), (("TooManyFaces", XN26) : Str × Addr), (("TooManyJoins", XN27) : Str × Addr), (("TooManyRows", XN28) : Str × Addr), (("UnknownConstructor", XN29) : Str × Addr), (("UnknownKind", XN30) : Str × Addr), (("UnknownMode", XN31) : Str × Addr), (("Unlike", XN32) : Str × Addr)] xTab [(("Busy", .ref XZ0) : Str × Value), (("EmptyKind", .ref XN0) : Str × Value), (("InvalidConstructors", .ref XN1) : Str × Value), (("InvalidDeed", .ref XN2) : Str × Value), (("InvalidFields", .ref XN3) : Str × Value), (("InvalidGood", .ref XN4) : Str × Value), (("InvalidKinds", .ref XN5) : Str × Value), (("InvalidLine", .ref XN6) : Str × Value), (("InvalidMoves", .ref XN7) : Str × Value), (("InvalidNumber", .ref XN8) : Str × Value), (("InvalidPath", .ref XN9) : Str × Value), (("InvalidRows", .ref XN10) : Str × Value), (("InvalidRules", .ref XN11) : Str × Value), (("InvalidSigns", .ref XN12) : Str × Value), (("InvalidStart", .ref XN13) : Str × Value), (("InvalidString", .ref XN14) : Str × Value), (("InvalidText", .ref XN15) : Str × Value), (("InvalidTree", .ref XN16) : Str × Value), (("InvalidWriters", .ref XN17) : Str × Value), (("LimitError", .ref XB19) : Str × Value), (("MissingRule", .ref XN18) : Str × Value), (("NotAPattern", .ref XN19) : Str × Value), (("NotASchema", .ref XN20) : Str × Value), (("NotATree", .ref XN21) : Str × Value), (("NotAWriter", .ref XN22) : Str × Value), (("NothingToUndo", .ref XZ1) : Str × Value), (("OtherSchema", .ref XZ2) : Str × Value), (("Refused", .ref XN23) : Str × Value), (("StateError", .ref XB28) : Str × Value), (("TooLong", .ref XN24) : Str × Value), (("TooManyDeeds", .ref XN25) : Str × Value), (("TooManyFaces", .ref XN26) : Str × Value), (("TooManyJoins", .ref XN27) : Str × Value), (("TooManyRows", .ref XN28) : Str × Value), (("TreeError", .ref XB34) : Str × Value), (("UnknownConstructor", .ref XN29) : Str × Value), (("UnknownKind", .ref XN30) : Str × Value), (("UnknownMode", .ref XN31) : Str × Value), (("Unlike", .ref XN32) : Str × Value), (("ArithmeticError", .type "ArithmeticError") : Str × Value), (("LookupError", .type "LookupError") : Str × Value), (("ValueError", .type "ValueError") : Str × Value)] = true) (A_law_number : DefAt K mg "_law_number" s_law_number f0 d0) (A_law_deal : DefAt K mg "_law_deal" s_law_deal f1 d1) (A_law_pick : DefAt K mg "_law_pick" s_law_pick f2 d2) (A_law_values : DefAt K mg "_law_values" s_law_values f3 d3) (A_law_named_values : DefAt K mg "_law_named_values" s_law_named_values f4 d4) (A_law_indexes : DefAt K mg "_law_indexes" s_law_indexes f5 d5) (A_law_named_indexes : DefAt K mg "_law_named_indexes" s_law_named_indexes f6 d6) (A_law_tops : DefAt K mg "_law_tops" s_law_tops f7 d7) (A_law_classes : DefAt K mg "_law_classes" s_law_classes f8 d8) (A_law_kin : DefAt K mg "_law_kin" s_law_kin f9 d9) (A_law_other_right : DefAt K mg "_law_other_right" s_law_other_right f10 d10) (A_law_right : DefAt K mg "_law_right" s_law_right f11 d11) (A_law : DefAt K mg "law" s_law f12 d12)  : FnG P w K mg base CX0 4 f12 d12 ["_law_cells"] (lawSp K []) := by
  have hmX : ∀ p ∈ ([(("Busy", XZ0) : Str × Addr), (("EmptyKind", XN0) : Str × Addr), (("InvalidConstructors", XN1) : Str × Addr), (("InvalidDeed", XN2) : Str × Addr), (("InvalidFields", XN3) : Str × Addr), (("InvalidGood", XN4) : Str × Addr), (("InvalidKinds", XN5) : Str × Addr), (("InvalidLine", XN6) : Str × Addr), (("InvalidMoves", XN7) : Str × Addr), (("InvalidNumber", XN8) : Str × Addr), (("InvalidPath", XN9) : Str × Addr), (("InvalidRows", XN10) : Str × Addr), (("InvalidRules", XN11) : Str × Addr), (("InvalidSigns", XN12) : Str × Addr), (("InvalidStart", XN13) : Str × Addr), (("InvalidString", XN14) : Str × Addr), (("InvalidText", XN15) : Str × Addr), (("InvalidTree", XN16) : Str × Addr), (("InvalidWriters", XN17) : Str × Addr), (("MissingRule", XN18) : Str × Addr), (("NotAPattern", XN19) : Str × Addr), (("NotASchema", XN20) : Str × Addr), (("NotATree", XN21) : Str × Addr), (("NotAWriter", XN22) : Str × Addr), (("NothingToUndo", XZ1) : Str × Addr), (("OtherSchema", XZ2) : Str × Addr), (("Refused", XN23) : Str × Addr), (("TooLong", XN24) : Str × Addr), (("TooManyDeeds", XN25) : Str × Addr), (("TooManyFaces", XN26) : Str × Addr), (("TooManyJoins", XN27) : Str × Addr), (("TooManyRows", XN28) : Str × Addr), (("UnknownConstructor", XN29) : Str × Addr), (("UnknownKind", XN30) : Str × Addr), (("UnknownMode", XN31) : Str × Addr), (("Unlike", XN32) : Str × Addr)] : List (Str × Addr)), mg p.1 = some (.ref p.2) := (Dn.hmX_cons Z_Busy.gC (Dn.hmX_cons N_EmptyKind.gC (Dn.hmX_cons N_InvalidConstructors.gC (Dn.hmX_cons N_InvalidDeed.gC (Dn.hmX_cons N_InvalidFields.gC (Dn.hmX_cons N_InvalidGood.gC (Dn.hmX_cons N_InvalidKinds.gC (Dn.hmX_cons N_InvalidLine.gC (Dn.hmX_cons N_InvalidMoves.gC (Dn.hmX_cons N_InvalidNumber.gC (Dn.hmX_cons N_InvalidPath.gC (Dn.hmX_cons N_InvalidRows.gC (Dn.hmX_cons N_InvalidRules.gC (Dn.hmX_cons N_InvalidSigns.gC (Dn.hmX_cons N_InvalidStart.gC (Dn.hmX_cons N_InvalidString.gC (Dn.hmX_cons N_InvalidText.gC (Dn.hmX_cons N_InvalidTree.gC (Dn.hmX_cons N_InvalidWriters.gC (Dn.hmX_cons N_MissingRule.gC (Dn.hmX_cons N_NotAPattern.gC (Dn.hmX_cons N_NotASchema.gC (Dn.hmX_cons N_NotATree.gC (Dn.hmX_cons N_NotAWriter.gC (Dn.hmX_cons Z_NothingToUndo.gC (Dn.hmX_cons Z_OtherSchema.gC (Dn.hmX_cons N_Refused.gC (Dn.hmX_cons N_TooLong.gC (Dn.hmX_cons N_TooManyDeeds.gC (Dn.hmX_cons N_TooManyFaces.gC (Dn.hmX_cons N_TooManyJoins.gC (Dn.hmX_cons N_TooManyRows.gC (Dn.hmX_cons N_UnknownConstructor.gC (Dn.hmX_cons N_UnknownKind.gC (Dn.hmX_cons N_UnknownMode.gC (Dn.hmX_cons N_Unlike.gC Dn.hmX_nil))))))))))))))))))))))))))))))))))))
  have htyX : ∀ p ∈ xTab, p.1 ≠ "type" := by decide
  have T : Txt K mg [] w := ⟨b_abs, b_all, b_int, b_isinstance, b_len, b_max, b_min, b_range, b_repr, b_str, m_MOST_CONSTRUCTORS, m_MOST_DEEDS, m_MOST_FACES, m_MOST_FIELDS, m_MOST_JOINS, m_MOST_KINDS, m_MOST_LISTED, m_MOST_MODES, m_MOST_MOVES, m_MOST_PIECES, m_MOST_READ, m_MOST_ROWS, m_MOST_RULES, m_MOST_SIGNS, m_MOST_STANDS, m_MOST_WRITTEN, ⟨_, N_EmptyKind⟩, ⟨_, N_InvalidConstructors⟩, ⟨_, N_InvalidDeed⟩, ⟨_, N_InvalidFields⟩, ⟨_, N_InvalidGood⟩, ⟨_, N_InvalidKinds⟩, ⟨_, N_InvalidLine⟩, ⟨_, N_InvalidMoves⟩, ⟨_, N_InvalidNumber⟩, ⟨_, N_InvalidPath⟩, ⟨_, N_InvalidRows⟩, ⟨_, N_InvalidRules⟩, ⟨_, N_InvalidSigns⟩, ⟨_, N_InvalidStart⟩, ⟨_, N_InvalidString⟩, ⟨_, N_InvalidText⟩, ⟨_, N_InvalidTree⟩, ⟨_, N_InvalidWriters⟩, ⟨_, N_MissingRule⟩, ⟨_, N_NotAPattern⟩, ⟨_, N_NotASchema⟩, ⟨_, N_NotATree⟩, ⟨_, N_NotAWriter⟩, ⟨_, N_Refused⟩, ⟨_, N_TooLong⟩, ⟨_, N_TooManyDeeds⟩, ⟨_, N_TooManyFaces⟩, ⟨_, N_TooManyJoins⟩, ⟨_, N_TooManyRows⟩, ⟨_, N_UnknownConstructor⟩, ⟨_, N_UnknownKind⟩, ⟨_, N_UnknownMode⟩, ⟨_, N_Unlike⟩, ⟨_, Z_Busy⟩, ⟨_, Z_NothingToUndo⟩, ⟨_, Z_OtherSchema⟩, Dn.xfAt_mk N_EmptyKind (by simp), Dn.xfAt_mk N_InvalidConstructors (by simp), Dn.xfAt_mk N_InvalidDeed (by simp), Dn.xfAt_mk N_InvalidFields (by simp), Dn.xfAt_mk N_InvalidGood (by simp), Dn.xfAt_mk N_InvalidKinds (by simp), Dn.xfAt_mk N_InvalidLine (by simp), Dn.xfAt_mk N_InvalidMoves (by simp), Dn.xfAt_mk N_InvalidNumber (by simp), Dn.xfAt_mk N_InvalidPath (by simp), Dn.xfAt_mk N_InvalidRows (by simp), Dn.xfAt_mk N_InvalidRules (by simp), Dn.xfAt_mk N_InvalidSigns (by simp), Dn.xfAt_mk N_InvalidStart (by simp), Dn.xfAt_mk N_InvalidString (by simp), Dn.xfAt_mk N_InvalidText (by simp), Dn.xfAt_mk N_InvalidTree (by simp), Dn.xfAt_mk N_InvalidWriters (by simp), Dn.xfAt_mk N_MissingRule (by simp), Dn.xfAt_mk N_MissingRule (by simp), Dn.xfAt_mk N_NotAPattern (by simp), Dn.xfAt_mk N_NotASchema (by simp), Dn.xfAt_mk N_NotATree (by simp), Dn.xfAt_mk N_NotAWriter (by simp), Dn.xfAt_mk N_Refused (by simp), Dn.xfAt_mk N_Refused (by simp), Dn.xfAt_mk N_TooLong (by simp), Dn.xfAt_mk N_TooManyDeeds (by simp), Dn.xfAt_mk N_TooManyFaces (by simp), Dn.xfAt_mk N_TooManyJoins (by simp), Dn.xfAt_mk N_TooManyRows (by simp), Dn.xfAt_mk N_UnknownConstructor (by simp), Dn.xfAt_mk N_UnknownKind (by simp), Dn.xfAt_mk N_UnknownMode (by simp), Dn.xfAt_mk N_Unlike (by simp), Dn.ixo_mk hmX htyX KT Z_Busy.gC (List.mem_of_getElem? (i := 0) rfl), Dn.ixo_mk hmX htyX KT N_EmptyKind.gC (List.mem_of_getElem? (i := 1) rfl), Dn.ixo_mk hmX htyX KT N_InvalidConstructors.gC (List.mem_of_getElem? (i := 2) rfl), Dn.ixo_mk hmX htyX KT N_InvalidDeed.gC (List.mem_of_getElem? (i := 3) rfl), Dn.ixo_mk hmX htyX KT N_InvalidFields.gC (List.mem_of_getElem? (i := 4) rfl), Dn.ixo_mk hmX htyX KT N_InvalidGood.gC (List.mem_of_getElem? (i := 5) rfl), Dn.ixo_mk hmX htyX KT N_InvalidKinds.gC (List.mem_of_getElem? (i := 6) rfl), Dn.ixo_mk hmX htyX KT N_InvalidLine.gC (List.mem_of_getElem? (i := 7) rfl), Dn.ixo_mk hmX htyX KT N_InvalidMoves.gC (List.mem_of_getElem? (i := 8) rfl), Dn.ixo_mk hmX htyX KT N_InvalidNumber.gC (List.mem_of_getElem? (i := 9) rfl), Dn.ixo_mk hmX htyX KT N_InvalidPath.gC (List.mem_of_getElem? (i := 10) rfl), Dn.ixo_mk hmX htyX KT N_InvalidRows.gC (List.mem_of_getElem? (i := 11) rfl), Dn.ixo_mk hmX htyX KT N_InvalidRules.gC (List.mem_of_getElem? (i := 12) rfl), Dn.ixo_mk hmX htyX KT N_InvalidSigns.gC (List.mem_of_getElem? (i := 13) rfl), Dn.ixo_mk hmX htyX KT N_InvalidStart.gC (List.mem_of_getElem? (i := 14) rfl), Dn.ixo_mk hmX htyX KT N_InvalidString.gC (List.mem_of_getElem? (i := 15) rfl), Dn.ixo_mk hmX htyX KT N_InvalidText.gC (List.mem_of_getElem? (i := 16) rfl), Dn.ixo_mk hmX htyX KT N_InvalidTree.gC (List.mem_of_getElem? (i := 17) rfl), Dn.ixo_mk hmX htyX KT N_InvalidWriters.gC (List.mem_of_getElem? (i := 18) rfl), Dn.ixo_mk hmX htyX KT gB_LimitError (List.mem_of_getElem? (i := 19) rfl), Dn.ixo_mk hmX htyX KT N_MissingRule.gC (List.mem_of_getElem? (i := 20) rfl), Dn.ixo_mk hmX htyX KT N_NotAPattern.gC (List.mem_of_getElem? (i := 21) rfl), Dn.ixo_mk hmX htyX KT N_NotASchema.gC (List.mem_of_getElem? (i := 22) rfl), Dn.ixo_mk hmX htyX KT N_NotATree.gC (List.mem_of_getElem? (i := 23) rfl), Dn.ixo_mk hmX htyX KT N_NotAWriter.gC (List.mem_of_getElem? (i := 24) rfl), Dn.ixo_mk hmX htyX KT Z_NothingToUndo.gC (List.mem_of_getElem? (i := 25) rfl), Dn.ixo_mk hmX htyX KT Z_OtherSchema.gC (List.mem_of_getElem? (i := 26) rfl), Dn.ixo_mk hmX htyX KT N_Refused.gC (List.mem_of_getElem? (i := 27) rfl), Dn.ixo_mk hmX htyX KT gB_StateError (List.mem_of_getElem? (i := 28) rfl), Dn.ixo_mk hmX htyX KT N_TooLong.gC (List.mem_of_getElem? (i := 29) rfl), Dn.ixo_mk hmX htyX KT N_TooManyDeeds.gC (List.mem_of_getElem? (i := 30) rfl), Dn.ixo_mk hmX htyX KT N_TooManyFaces.gC (List.mem_of_getElem? (i := 31) rfl), Dn.ixo_mk hmX htyX KT N_TooManyJoins.gC (List.mem_of_getElem? (i := 32) rfl), Dn.ixo_mk hmX htyX KT N_TooManyRows.gC (List.mem_of_getElem? (i := 33) rfl), Dn.ixo_mk hmX htyX KT gB_TreeError (List.mem_of_getElem? (i := 34) rfl), Dn.ixo_mk hmX htyX KT N_UnknownConstructor.gC (List.mem_of_getElem? (i := 35) rfl), Dn.ixo_mk hmX htyX KT N_UnknownKind.gC (List.mem_of_getElem? (i := 36) rfl), Dn.ixo_mk hmX htyX KT N_UnknownMode.gC (List.mem_of_getElem? (i := 37) rfl), Dn.ixo_mk hmX htyX KT N_Unlike.gC (List.mem_of_getElem? (i := 38) rfl), Dn.ixb_mk hmX htyX KT bB_ArithmeticError (List.mem_of_getElem? (i := 39) rfl), Dn.ixb_mk hmX htyX KT bB_LookupError (List.mem_of_getElem? (i := 40) rfl), Dn.ixb_mk hmX htyX KT bB_ValueError (List.mem_of_getElem? (i := 41) rfl)⟩
  have F_law_number : HasL P w K mg base [] 1 "_law_number" ["_law_cells", "_law_k"] spec_law_number := A_law_number.has (ok_law_number T ) (fun _ _ _ _ _ _ us hl => match us, hl with | [_, _], _ => rfl)
  have F_law_deal : HasL P w K mg base [] 1 "_law_deal" ["_law_number_here"] spec_law_deal := A_law_deal.has (ok_law_deal T ) (fun _ _ _ _ _ _ us hl => match us, hl with | [_], _ => rfl)
  have F_law_pick : HasL P w K mg base [] 1 "_law_pick" ["_law_deal_here", "_law_many"] spec_law_pick := A_law_pick.has (ok_law_pick T ) (fun _ _ _ _ _ _ us hl => match us, hl with | [_, _], _ => rfl)
  have F_law_values : HasL P w K mg base [] 1 "_law_values" ["_law_thing"] spec_law_values := A_law_values.has (ok_law_values T ) (fun _ _ _ _ _ _ us hl => match us, hl with | [_], _ => rfl)
  have F_law_named_values : HasL P w K mg base [] 1 "_law_named_values" ["_law_thing"] spec_law_named_values := A_law_named_values.has (ok_law_named_values T ) (fun _ _ _ _ _ _ us hl => match us, hl with | [_], _ => rfl)
  have F_law_indexes : HasL P w K mg base [] 1 "_law_indexes" ["_law_thing"] spec_law_indexes := A_law_indexes.has (ok_law_indexes T ) (fun _ _ _ _ _ _ us hl => match us, hl with | [_], _ => rfl)
  have F_law_named_indexes : HasL P w K mg base [] 1 "_law_named_indexes" ["_law_thing"] spec_law_named_indexes := A_law_named_indexes.has (ok_law_named_indexes T ) (fun _ _ _ _ _ _ us hl => match us, hl with | [_], _ => rfl)
  have F_law_tops : HasL P w K mg base [] 1 "_law_tops" ["_law_thing"] spec_law_tops := A_law_tops.has (ok_law_tops T ) (fun _ _ _ _ _ _ us hl => match us, hl with | [_], _ => rfl)
  have F_law_classes : HasL P w K mg base [] 1 "_law_classes" ["_law_e"] spec_law_classes := A_law_classes.has (ok_law_classes T ) (fun _ _ _ _ _ _ us hl => match us, hl with | [_], _ => rfl)
  have F_law_kin : HasL P w K mg base [] 1 "_law_kin" ["_law_e"] spec_law_kin := A_law_kin.has (ok_law_kin T ) (fun _ _ _ _ _ _ us hl => match us, hl with | [_], _ => rfl)
  have F_law_other_right : HasL P w K mg base [] 2 "_law_other_right" ["_law_one", "_law_two"] spec_law_other_right := A_law_other_right.has (ok_law_other_right T F_law_kin F_law_classes) (fun _ _ _ _ _ _ us hl => match us, hl with | [_, _], _ => rfl)
  have F_law_right : HasL P w K mg base [] 3 "_law_right" ["_law_one", "_law_two"] spec_law_right := A_law_right.has (ok_law_right T F_law_values F_law_named_values F_law_indexes F_law_named_indexes F_law_tops F_law_kin F_law_classes F_law_other_right) (fun _ _ _ _ _ _ us hl => match us, hl with | [_, _], _ => rfl)
  exact lawG (ok_law (P := P) (w := w) (base := base) T F_law_number F_law_deal F_law_pick F_law_right A_law.fn) law_true
def spT (K : PySem.W.Frag) (cs : List (Addr × Addr)) : Sp := lawSp K (List.zipWith (fun p q => (p.2, q)) cs [])
theorem fin_mk {q : Program} {P : Program} {w : World} {K : PySem.W.Frag} {mg : Str → Option Value} {fa : Addr} {h : Heap} (X : K.In h) (G : h.Ns mainGlobals mg) (hfa : mg "law" = some (.ref fa)) {XN0 XN1 XN2 XN3 XN4 XN5 XN6 XN7 XN8 XN9 XN10 XN11 XN12 XN13 XN14 XN15 XN16 XN17 XN18 XN19 XN20 XN21 XN22 XN23 XN24 XN25 XN26 XN27 XN28 XN29 XN30 XN31 XN32 XZ0 XZ1 XZ2 XB19 XB28 XB34 f0 f1 f2 f3 f4 f5 f6 f7 f8 f9 f10 f11 f12 : Addr} {d0 d1 d2 d3 d4 d5 d6 d7 d8 d9 d10 d11 d12 : FuncData} (b_abs : mg "abs" = none) (b_all : mg "all" = none) (b_int : mg "int" = none) (b_isinstance : mg "isinstance" = none) (b_len : mg "len" = none) (b_max : mg "max" = none) (b_min : mg "min" = none) (b_range : mg "range" = none) (b_repr : mg "repr" = none) (b_str : mg "str" = none) (m_MOST_CONSTRUCTORS : Cst mg "MOST_CONSTRUCTORS" (.int 6)) (m_MOST_DEEDS : Cst mg "MOST_DEEDS" (.int 100)) (m_MOST_FACES : Cst mg "MOST_FACES" (.int 60)) (m_MOST_FIELDS : Cst mg "MOST_FIELDS" (.int 3)) (m_MOST_JOINS : Cst mg "MOST_JOINS" (.int 2000)) (m_MOST_KINDS : Cst mg "MOST_KINDS" (.int 4)) (m_MOST_LISTED : Cst mg "MOST_LISTED" (.int 20)) (m_MOST_MODES : Cst mg "MOST_MODES" (.int 3)) (m_MOST_MOVES : Cst mg "MOST_MOVES" (.int 30)) (m_MOST_PIECES : Cst mg "MOST_PIECES" (.int 9)) (m_MOST_READ : Cst mg "MOST_READ" (.int 40)) (m_MOST_ROWS : Cst mg "MOST_ROWS" (.int 200)) (m_MOST_RULES : Cst mg "MOST_RULES" (.int 40)) (m_MOST_SIGNS : Cst mg "MOST_SIGNS" (.int 20)) (m_MOST_STANDS : Cst mg "MOST_STANDS" (.int 5)) (m_MOST_WRITTEN : Cst mg "MOST_WRITTEN" (.int 5000)) (N_EmptyKind : Ft.ExN K mg "EmptyKind" ["kind"] XN0) (N_InvalidConstructors : Ft.ExN K mg "InvalidConstructors" ["index"] XN1) (N_InvalidDeed : Ft.ExN K mg "InvalidDeed" ["index"] XN2) (N_InvalidFields : Ft.ExN K mg "InvalidFields" ["index"] XN3) (N_InvalidGood : Ft.ExN K mg "InvalidGood" ["index"] XN4) (N_InvalidKinds : Ft.ExN K mg "InvalidKinds" ["index"] XN5) (N_InvalidLine : Ft.ExN K mg "InvalidLine" ["value"] XN6) (N_InvalidMoves : Ft.ExN K mg "InvalidMoves" ["index"] XN7) (N_InvalidNumber : Ft.ExN K mg "InvalidNumber" ["value"] XN8) (N_InvalidPath : Ft.ExN K mg "InvalidPath" ["value"] XN9) (N_InvalidRows : Ft.ExN K mg "InvalidRows" ["index"] XN10) (N_InvalidRules : Ft.ExN K mg "InvalidRules" ["index"] XN11) (N_InvalidSigns : Ft.ExN K mg "InvalidSigns" ["index"] XN12) (N_InvalidStart : Ft.ExN K mg "InvalidStart" ["value"] XN13) (N_InvalidString : Ft.ExN K mg "InvalidString" ["value"] XN14) (N_InvalidText : Ft.ExN K mg "InvalidText" ["value"] XN15) (N_InvalidTree : Ft.ExN K mg "InvalidTree" ["value"] XN16) (N_InvalidWriters : Ft.ExN K mg "InvalidWriters" ["index"] XN17) (N_MissingRule : Ft.ExN K mg "MissingRule" ["mode", "name"] XN18) (N_NotAPattern : Ft.ExN K mg "NotAPattern" ["value"] XN19) (N_NotASchema : Ft.ExN K mg "NotASchema" ["value"] XN20) (N_NotATree : Ft.ExN K mg "NotATree" ["value"] XN21) (N_NotAWriter : Ft.ExN K mg "NotAWriter" ["value"] XN22) (N_Refused : Ft.ExN K mg "Refused" ["deed", "tree"] XN23) (N_TooLong : Ft.ExN K mg "TooLong" ["found"] XN24) (N_TooManyDeeds : Ft.ExN K mg "TooManyDeeds" ["limit"] XN25) (N_TooManyFaces : Ft.ExN K mg "TooManyFaces" ["limit"] XN26) (N_TooManyJoins : Ft.ExN K mg "TooManyJoins" ["limit"] XN27) (N_TooManyRows : Ft.ExN K mg "TooManyRows" ["limit"] XN28) (N_UnknownConstructor : Ft.ExN K mg "UnknownConstructor" ["value"] XN29) (N_UnknownKind : Ft.ExN K mg "UnknownKind" ["value"] XN30) (N_UnknownMode : Ft.ExN K mg "UnknownMode" ["value"] XN31) (N_Unlike : Ft.ExN K mg "Unlike" ["tree"] XN32) (Z_Busy : Ft.ExZ K mg "Busy" XZ0) (Z_NothingToUndo : Ft.ExZ K mg "NothingToUndo" XZ1) (Z_OtherSchema : Ft.ExZ K mg "OtherSchema" XZ2) (gB_LimitError : mg "LimitError" = some (.ref XB19)) (gB_StateError : mg "StateError" = some (.ref XB28)) (gB_TreeError : mg "TreeError" = some (.ref XB34)) (bB_ArithmeticError : mg "ArithmeticError" = none) (bB_LookupError : mg "LookupError" = none) (bB_ValueError : mg "ValueError" = none) (KT : Dn.excTab K [(("Busy", XZ0) : Str × Addr), (("EmptyKind", XN0) : Str × Addr), (("InvalidConstructors", XN1) : Str × Addr), (("InvalidDeed", XN2) : Str × Addr), (("InvalidFields", XN3) : Str × Addr), (("InvalidGood", XN4) : Str × Addr), (("InvalidKinds", XN5) : Str × Addr), (("InvalidLine", XN6) : Str × Addr), (("InvalidMoves", XN7) : Str × Addr), (("InvalidNumber", XN8) : Str × Addr), (("InvalidPath", XN9) : Str × Addr), (("InvalidRows", XN10) : Str × Addr), (("InvalidRules", XN11) : Str × Addr), (("InvalidSigns", XN12) : Str × Addr), (("InvalidStart", XN13) : Str × Addr), (("InvalidString", XN14) : Str × Addr), (("InvalidText", XN15) : Str × Addr), (("InvalidTree", XN16) : Str × Addr), (("InvalidWriters", XN17) : Str × Addr), (("MissingRule", XN18) : Str × Addr), (("NotAPattern", XN19) : Str × Addr), (("NotASchema", XN20) : Str × Addr), (("NotATree", XN21) : Str × Addr), (("NotAWriter", XN22) : Str × Addr), (("NothingToUndo", XZ1) : Str × Addr), (("OtherSchema", XZ2) : Str × Addr), (("Refused", XN23) : Str × Addr), (("TooLong", XN24) : Str × Addr), (("TooManyDeeds", XN25) : Str × Addr), (("TooManyFaces", XN26) : Str × Addr), (("TooManyJoins", XN27) : Str × Addr), (("TooManyRows", XN28) : Str × Addr), (("UnknownConstructor", XN29) : Str × Addr), (("UnknownKind", XN30) : Str × Addr), (("UnknownMode", XN31) : Str × Addr), (("Unlike", XN32) : Str × Addr)] xTab [(("Busy", .ref XZ0) : Str × Value), (("EmptyKind", .ref XN0) : Str × Value), (("InvalidConstructors", .ref XN1) : Str × Value), (("InvalidDeed", .ref XN2) : Str × Value), (("InvalidFields", .ref XN3) : Str × Value), (("InvalidGood", .ref XN4) : Str × Value), (("InvalidKinds", .ref XN5) : Str × Value), (("InvalidLine", .ref XN6) : Str × Value), (("InvalidMoves", .ref XN7) : Str × Value), (("InvalidNumber", .ref XN8) : Str × Value), (("InvalidPath", .ref XN9) : Str × Value), (("InvalidRows", .ref XN10) : Str × Value), (("InvalidRules", .ref XN11) : Str × Value), (("InvalidSigns", .ref XN12) : Str × Value), (("InvalidStart", .ref XN13) : Str × Value), (("InvalidString", .ref XN14) : Str × Value), (("InvalidText", .ref XN15) : Str × Value), (("InvalidTree", .ref XN16) : Str × Value), (("InvalidWriters", .ref XN17) : Str × Value), (("LimitError", .ref XB19) : Str × Value), (("MissingRule", .ref XN18) : Str × Value), (("NotAPattern", .ref XN19) : Str × Value), (("NotASchema", .ref XN20) : Str × Value), (("NotATree", .ref XN21) : Str × Value), (("NotAWriter", .ref XN22) : Str × Value), (("NothingToUndo", .ref XZ1) : Str × Value), (("OtherSchema", .ref XZ2) : Str × Value), (("Refused", .ref XN23) : Str × Value), (("StateError", .ref XB28) : Str × Value), (("TooLong", .ref XN24) : Str × Value), (("TooManyDeeds", .ref XN25) : Str × Value), (("TooManyFaces", .ref XN26) : Str × Value), (("TooManyJoins", .ref XN27) : Str × Value), (("TooManyRows", .ref XN28) : Str × Value), (("TreeError", .ref XB34) : Str × Value), (("UnknownConstructor", .ref XN29) : Str × Value), (("UnknownKind", .ref XN30) : Str × Value), (("UnknownMode", .ref XN31) : Str × Value), (("Unlike", .ref XN32) : Str × Value), (("ArithmeticError", .type "ArithmeticError") : Str × Value), (("LookupError", .type "LookupError") : Str × Value), (("ValueError", .type "ValueError") : Str × Value)] = true) (A_law_number : DefAt K mg "_law_number" s_law_number f0 d0) (A_law_deal : DefAt K mg "_law_deal" s_law_deal f1 d1) (A_law_pick : DefAt K mg "_law_pick" s_law_pick f2 d2) (A_law_values : DefAt K mg "_law_values" s_law_values f3 d3) (A_law_named_values : DefAt K mg "_law_named_values" s_law_named_values f4 d4) (A_law_indexes : DefAt K mg "_law_indexes" s_law_indexes f5 d5) (A_law_named_indexes : DefAt K mg "_law_named_indexes" s_law_named_indexes f6 d6) (A_law_tops : DefAt K mg "_law_tops" s_law_tops f7 d7) (A_law_classes : DefAt K mg "_law_classes" s_law_classes f8 d8) (A_law_kin : DefAt K mg "_law_kin" s_law_kin f9 d9) (A_law_other_right : DefAt K mg "_law_other_right" s_law_other_right f10 d10) (A_law_right : DefAt K mg "_law_right" s_law_right f11 d11) (A_law : DefAt K mg "law" s_law f12 d12)  :
    ∃ (fd : FuncData) (cs : List (Addr × Addr)), (∀ c ∈ cs, ∃ (y : Str) (r : PySem.DefRec), (PyProof.Rows.recsOf q).find? (fun e => e.name == y) = some r ∧ PySem.W.tabIn K y = some c ∧ K.lookup c.2 = none) ∧
        (∀ (s : Shared) (u : Value), BindsTo s fd ⟨[u], []⟩ [("_law_cells", u)]) ∧
        ∀ base : Heap, K.In base → base.Ns mainGlobals mg → (∀ p ∈ cs, TabB base mg p.1 p.2) → FnG P w K mg base CX0 4 fa fd ["_law_cells"] (spT K cs) := by
  have e := hfa.symm.trans A_law.at_
  cases e
  refine ⟨d12, [], fun p hp => ?_, fun s u => ?_, fun base _ _ TB => all_mk b_abs b_all b_int b_isinstance b_len b_max b_min b_range b_repr b_str m_MOST_CONSTRUCTORS m_MOST_DEEDS m_MOST_FACES m_MOST_FIELDS m_MOST_JOINS m_MOST_KINDS m_MOST_LISTED m_MOST_MODES m_MOST_MOVES m_MOST_PIECES m_MOST_READ m_MOST_ROWS m_MOST_RULES m_MOST_SIGNS m_MOST_STANDS m_MOST_WRITTEN N_EmptyKind N_InvalidConstructors N_InvalidDeed N_InvalidFields N_InvalidGood N_InvalidKinds N_InvalidLine N_InvalidMoves N_InvalidNumber N_InvalidPath N_InvalidRows N_InvalidRules N_InvalidSigns N_InvalidStart N_InvalidString N_InvalidText N_InvalidTree N_InvalidWriters N_MissingRule N_NotAPattern N_NotASchema N_NotATree N_NotAWriter N_Refused N_TooLong N_TooManyDeeds N_TooManyFaces N_TooManyJoins N_TooManyRows N_UnknownConstructor N_UnknownKind N_UnknownMode N_Unlike Z_Busy Z_NothingToUndo Z_OtherSchema gB_LimitError gB_StateError gB_TreeError bB_ArithmeticError bB_LookupError bB_ValueError KT A_law_number A_law_deal A_law_pick A_law_values A_law_named_values A_law_indexes A_law_named_indexes A_law_tops A_law_classes A_law_kin A_law_other_right A_law_right A_law ⟩
  · cases hp
  · obtain ⟨_, _, kV, doc, pm, an, cdv, ct, _, e, _, _⟩ := A_law.fn.ex
    subst e
    exact .of_eq rfl
theorem fin2 {P : Program} {w : World} {K : PySem.W.Frag} {mg : Str → Option Value} {fa : Addr} {h : Heap} (X : K.In h) (G : h.Ns mainGlobals mg) (hfa : mg "law" = some (.ref fa)) (c : Hf.Says fas fns K) :
    ∃ (fd : FuncData) (cs : List (Addr × Addr)), (∀ c ∈ cs, ∃ (y : Str) (r : PySem.DefRec), (PyProof.Rows.recsOf qv).find? (fun e => e.name == y) = some r ∧ PySem.W.tabIn K y = some c ∧ K.lookup c.2 = none) ∧
        (∀ (s : Shared) (u : Value), BindsTo s fd ⟨[u], []⟩ [("_law_cells", u)]) ∧
        ∀ base : Heap, K.In base → base.Ns mainGlobals mg → (∀ p ∈ cs, TabB base mg p.1 p.2) → FnG P w K mg base CX0 4 fa fd ["_law_cells"] (spT K cs) := by
  obtain ⟨_, _, _, _, _, _, _, _, _, l0, e0⟩ := c.def_ 0 (d := fn0) rfl
  obtain ⟨_, _, _, _, _, _, _, _, _, l1, e1⟩ := c.def_ 1 (d := fn1) rfl
  obtain ⟨_, _, _, _, _, _, _, _, _, l2, e2⟩ := c.def_ 2 (d := fn2) rfl
  obtain ⟨_, _, _, _, _, _, _, _, _, l3, e3⟩ := c.def_ 3 (d := fn3) rfl
  obtain ⟨_, _, _, _, _, _, _, _, _, l4, e4⟩ := c.def_ 4 (d := fn4) rfl
  obtain ⟨_, _, _, _, _, _, _, _, _, l5, e5⟩ := c.def_ 5 (d := fn5) rfl
  obtain ⟨_, _, _, _, _, _, _, _, _, l6, e6⟩ := c.def_ 6 (d := fn6) rfl
  obtain ⟨_, _, _, _, _, _, _, _, _, l7, e7⟩ := c.def_ 7 (d := fn7) rfl
  obtain ⟨_, _, _, _, _, _, _, _, _, l8, e8⟩ := c.def_ 8 (d := fn8) rfl
  obtain ⟨_, _, _, _, _, _, _, _, _, l9, e9⟩ := c.def_ 9 (d := fn9) rfl
  obtain ⟨_, _, _, _, _, _, _, _, _, l10, e10⟩ := c.def_ 10 (d := fn10) rfl
  obtain ⟨_, _, _, _, _, _, _, _, _, l11, e11⟩ := c.def_ 11 (d := fn11) rfl
  obtain ⟨_, _, _, _, _, _, _, _, _, l12, e12⟩ := c.def_ 12 (d := fn12) rfl
  obtain ⟨_, _, _, _, _, _, _, _, _, l13, e13⟩ := c.def_ 13 (d := fn13) rfl
  obtain ⟨_, _, _, _, _, _, _, _, _, l14, e14⟩ := c.def_ 14 (d := fn14) rfl
  obtain ⟨_, _, _, _, _, _, _, _, _, l15, e15⟩ := c.def_ 15 (d := fn15) rfl
  obtain ⟨_, _, _, _, _, _, _, _, _, l16, e16⟩ := c.def_ 16 (d := fn16) rfl
  obtain ⟨_, _, _, _, _, _, _, _, _, l17, e17⟩ := c.def_ 17 (d := fn17) rfl
  obtain ⟨_, _, _, _, _, _, _, _, _, l18, e18⟩ := c.def_ 18 (d := fn18) rfl
  obtain ⟨_, _, _, _, _, _, _, _, _, l19, e19⟩ := c.def_ 19 (d := fn19) rfl
  obtain ⟨_, _, _, _, _, _, _, _, _, l20, e20⟩ := c.def_ 20 (d := fn20) rfl
  obtain ⟨_, _, _, _, _, _, _, _, _, l21, e21⟩ := c.def_ 21 (d := fn21) rfl
  obtain ⟨_, _, _, _, _, _, _, _, _, l22, e22⟩ := c.def_ 22 (d := fn22) rfl
  obtain ⟨_, _, _, _, _, _, _, _, _, l23, e23⟩ := c.def_ 23 (d := fn23) rfl
  obtain ⟨_, _, _, _, _, _, _, _, _, l24, e24⟩ := c.def_ 24 (d := fn24) rfl
  obtain ⟨_, _, _, _, _, _, _, _, _, l25, e25⟩ := c.def_ 25 (d := fn25) rfl
  obtain ⟨_, _, _, _, _, _, _, _, _, l26, e26⟩ := c.def_ 26 (d := fn26) rfl
  obtain ⟨_, _, _, _, _, _, _, _, _, l27, e27⟩ := c.def_ 27 (d := fn27) rfl
  obtain ⟨_, _, _, _, _, _, _, _, _, l28, e28⟩ := c.def_ 28 (d := fn28) rfl
  obtain ⟨_, _, _, _, _, _, _, _, _, l29, e29⟩ := c.def_ 29 (d := fn29) rfl
  obtain ⟨_, _, _, _, _, _, _, _, _, l30, e30⟩ := c.def_ 30 (d := fn30) rfl
  obtain ⟨_, _, _, _, _, _, _, _, _, l31, e31⟩ := c.def_ 31 (d := fn31) rfl
  obtain ⟨_, _, _, _, _, _, _, _, _, l32, e32⟩ := c.def_ 32 (d := fn32) rfl
  obtain ⟨_, _, _, _, _, _, _, _, _, l33, e33⟩ := c.def_ 33 (d := fn33) rfl
  obtain ⟨_, _, _, _, _, _, _, _, _, l34, e34⟩ := c.def_ 34 (d := fn34) rfl
  obtain ⟨_, _, _, _, _, _, _, _, _, l35, e35⟩ := c.def_ 35 (d := fn35) rfl
  obtain ⟨_, _, _, _, _, _, _, _, _, l36, e36⟩ := c.def_ 36 (d := fn36) rfl
  obtain ⟨_, _, _, _, _, _, _, _, _, l37, e37⟩ := c.def_ 37 (d := fn37) rfl
  obtain ⟨_, _, _, _, _, _, _, _, _, l38, e38⟩ := c.def_ 38 (d := fn38) rfl
  obtain ⟨_, _, _, _, _, _, _, _, _, l39, e39⟩ := c.def_ 39 (d := fn39) rfl
  obtain ⟨_, _, _, _, _, _, _, _, _, l40, e40⟩ := c.def_ 40 (d := fn40) rfl
  obtain ⟨_, _, _, _, _, _, _, _, _, l41, e41⟩ := c.def_ 41 (d := fn41) rfl
  obtain ⟨_, _, _, _, _, _, _, _, _, l42, e42⟩ := c.def_ 42 (d := fn42) rfl
  obtain ⟨_, _, _, _, _, _, _, _, _, l43, e43⟩ := c.def_ 43 (d := fn43) rfl
  obtain ⟨_, _, _, _, _, _, _, _, _, l44, e44⟩ := c.def_ 44 (d := fn44) rfl
  obtain ⟨_, _, _, _, _, _, _, _, _, l45, e45⟩ := c.def_ 45 (d := fn45) rfl
  exact fin_mk X G hfa
    (PySem.W.mg_none_of X G (q0 c))
    (PySem.W.mg_none_of X G (q1 c))
    (PySem.W.mg_none_of X G (q2 c))
    (PySem.W.mg_none_of X G (q3 c))
    (PySem.W.mg_none_of X G (q4 c))
    (PySem.W.mg_none_of X G (q5 c))
    (PySem.W.mg_none_of X G (q6 c))
    (PySem.W.mg_none_of X G (q7 c))
    (PySem.W.mg_none_of X G (q8 c))
    (PySem.W.mg_none_of X G (q9 c))
    (Hf.cstI X G (q10 c))
    (Hf.cstI X G (q11 c))
    (Hf.cstI X G (q12 c))
    (Hf.cstI X G (q13 c))
    (Hf.cstI X G (q14 c))
    (Hf.cstI X G (q15 c))
    (Hf.cstI X G (q16 c))
    (Hf.cstI X G (q17 c))
    (Hf.cstI X G (q18 c))
    (Hf.cstI X G (q19 c))
    (Hf.cstI X G (q20 c))
    (Hf.cstI X G (q21 c))
    (Hf.cstI X G (q22 c))
    (Hf.cstI X G (q23 c))
    (Hf.cstI X G (q24 c))
    (Hf.cstI X G (q25 c))
    (Dn.exN_mk X G PySem.F.excBase_LookupError PySem.F.store_LookupError inN_EmptyKind (fun _ _ _ _ _ _ _ us hl => match us, hl with | [_], _ => rfl) (fun _ _ _ _ _ _ _ us hl => match us, hl with | [_], _ => rfl) (q26 c) (q27 c) l0 e0 (q28 c))
    (Dn.exN_mk X G PySem.F.excBase_ValueError PySem.F.store_ValueError inN_InvalidConstructors (fun _ _ _ _ _ _ _ us hl => match us, hl with | [_], _ => rfl) (fun _ _ _ _ _ _ _ us hl => match us, hl with | [_], _ => rfl) (q29 c) (q30 c) l1 e1 (q31 c))
    (Dn.exN_mk X G PySem.F.excBase_ValueError PySem.F.store_ValueError inN_InvalidDeed (fun _ _ _ _ _ _ _ us hl => match us, hl with | [_], _ => rfl) (fun _ _ _ _ _ _ _ us hl => match us, hl with | [_], _ => rfl) (q32 c) (q33 c) l2 e2 (q34 c))
    (Dn.exN_mk X G PySem.F.excBase_ValueError PySem.F.store_ValueError inN_InvalidFields (fun _ _ _ _ _ _ _ us hl => match us, hl with | [_], _ => rfl) (fun _ _ _ _ _ _ _ us hl => match us, hl with | [_], _ => rfl) (q35 c) (q36 c) l3 e3 (q37 c))
    (Dn.exN_mk X G PySem.F.excBase_ValueError PySem.F.store_ValueError inN_InvalidGood (fun _ _ _ _ _ _ _ us hl => match us, hl with | [_], _ => rfl) (fun _ _ _ _ _ _ _ us hl => match us, hl with | [_], _ => rfl) (q38 c) (q39 c) l4 e4 (q40 c))
    (Dn.exN_mk X G PySem.F.excBase_ValueError PySem.F.store_ValueError inN_InvalidKinds (fun _ _ _ _ _ _ _ us hl => match us, hl with | [_], _ => rfl) (fun _ _ _ _ _ _ _ us hl => match us, hl with | [_], _ => rfl) (q41 c) (q42 c) l5 e5 (q43 c))
    (Dn.exN_mk X G PySem.F.excBase_ValueError PySem.F.store_ValueError inN_InvalidLine (fun _ _ _ _ _ _ _ us hl => match us, hl with | [_], _ => rfl) (fun _ _ _ _ _ _ _ us hl => match us, hl with | [_], _ => rfl) (q44 c) (q45 c) l6 e6 (q46 c))
    (Dn.exN_mk X G PySem.F.excBase_ValueError PySem.F.store_ValueError inN_InvalidMoves (fun _ _ _ _ _ _ _ us hl => match us, hl with | [_], _ => rfl) (fun _ _ _ _ _ _ _ us hl => match us, hl with | [_], _ => rfl) (q47 c) (q48 c) l7 e7 (q49 c))
    (Dn.exN_mk X G PySem.F.excBase_ValueError PySem.F.store_ValueError inN_InvalidNumber (fun _ _ _ _ _ _ _ us hl => match us, hl with | [_], _ => rfl) (fun _ _ _ _ _ _ _ us hl => match us, hl with | [_], _ => rfl) (q50 c) (q51 c) l8 e8 (q52 c))
    (Dn.exN_mk X G PySem.F.excBase_ValueError PySem.F.store_ValueError inN_InvalidPath (fun _ _ _ _ _ _ _ us hl => match us, hl with | [_], _ => rfl) (fun _ _ _ _ _ _ _ us hl => match us, hl with | [_], _ => rfl) (q53 c) (q54 c) l9 e9 (q55 c))
    (Dn.exN_mk X G PySem.F.excBase_ValueError PySem.F.store_ValueError inN_InvalidRows (fun _ _ _ _ _ _ _ us hl => match us, hl with | [_], _ => rfl) (fun _ _ _ _ _ _ _ us hl => match us, hl with | [_], _ => rfl) (q56 c) (q57 c) l10 e10 (q58 c))
    (Dn.exN_mk X G PySem.F.excBase_ValueError PySem.F.store_ValueError inN_InvalidRules (fun _ _ _ _ _ _ _ us hl => match us, hl with | [_], _ => rfl) (fun _ _ _ _ _ _ _ us hl => match us, hl with | [_], _ => rfl) (q59 c) (q60 c) l11 e11 (q61 c))
    (Dn.exN_mk X G PySem.F.excBase_ValueError PySem.F.store_ValueError inN_InvalidSigns (fun _ _ _ _ _ _ _ us hl => match us, hl with | [_], _ => rfl) (fun _ _ _ _ _ _ _ us hl => match us, hl with | [_], _ => rfl) (q62 c) (q63 c) l12 e12 (q64 c))
    (Dn.exN_mk X G PySem.F.excBase_ValueError PySem.F.store_ValueError inN_InvalidStart (fun _ _ _ _ _ _ _ us hl => match us, hl with | [_], _ => rfl) (fun _ _ _ _ _ _ _ us hl => match us, hl with | [_], _ => rfl) (q65 c) (q66 c) l13 e13 (q67 c))
    (Dn.exN_mk X G PySem.F.excBase_ValueError PySem.F.store_ValueError inN_InvalidString (fun _ _ _ _ _ _ _ us hl => match us, hl with | [_], _ => rfl) (fun _ _ _ _ _ _ _ us hl => match us, hl with | [_], _ => rfl) (q68 c) (q69 c) l14 e14 (q70 c))
    (Dn.exN_mk X G PySem.F.excBase_ValueError PySem.F.store_ValueError inN_InvalidText (fun _ _ _ _ _ _ _ us hl => match us, hl with | [_], _ => rfl) (fun _ _ _ _ _ _ _ us hl => match us, hl with | [_], _ => rfl) (q71 c) (q72 c) l15 e15 (q73 c))
    (Dn.exN_mk X G PySem.F.excBase_ValueError PySem.F.store_ValueError inN_InvalidTree (fun _ _ _ _ _ _ _ us hl => match us, hl with | [_], _ => rfl) (fun _ _ _ _ _ _ _ us hl => match us, hl with | [_], _ => rfl) (q74 c) (q75 c) l16 e16 (q76 c))
    (Dn.exN_mk X G PySem.F.excBase_ValueError PySem.F.store_ValueError inN_InvalidWriters (fun _ _ _ _ _ _ _ us hl => match us, hl with | [_], _ => rfl) (fun _ _ _ _ _ _ _ us hl => match us, hl with | [_], _ => rfl) (q77 c) (q78 c) l17 e17 (q79 c))
    (Dn.exN_mk X G PySem.F.excBase_LookupError PySem.F.store_LookupError inN_MissingRule (fun _ _ _ _ _ _ _ us hl => match us, hl with | [_, _], _ => rfl) (fun _ _ _ _ _ _ _ us hl => match us, hl with | [_, _], _ => rfl) (q80 c) (q81 c) l18 e18 (q82 c))
    (Dn.exN_mk X G PySem.F.excBase_ValueError PySem.F.store_ValueError inN_NotAPattern (fun _ _ _ _ _ _ _ us hl => match us, hl with | [_], _ => rfl) (fun _ _ _ _ _ _ _ us hl => match us, hl with | [_], _ => rfl) (q83 c) (q84 c) l19 e19 (q85 c))
    (Dn.exN_mk X G PySem.F.excBase_ValueError PySem.F.store_ValueError inN_NotASchema (fun _ _ _ _ _ _ _ us hl => match us, hl with | [_], _ => rfl) (fun _ _ _ _ _ _ _ us hl => match us, hl with | [_], _ => rfl) (q86 c) (q87 c) l20 e20 (q88 c))
    (Dn.exN_mk X G PySem.F.excBase_ValueError PySem.F.store_ValueError inN_NotATree (fun _ _ _ _ _ _ _ us hl => match us, hl with | [_], _ => rfl) (fun _ _ _ _ _ _ _ us hl => match us, hl with | [_], _ => rfl) (q89 c) (q90 c) l21 e21 (q91 c))
    (Dn.exN_mk X G PySem.F.excBase_ValueError PySem.F.store_ValueError inN_NotAWriter (fun _ _ _ _ _ _ _ us hl => match us, hl with | [_], _ => rfl) (fun _ _ _ _ _ _ _ us hl => match us, hl with | [_], _ => rfl) (q92 c) (q93 c) l22 e22 (q94 c))
    (Dn.exN_mk X G PySem.F.excBase_LookupError PySem.F.store_LookupError inN_Refused (fun _ _ _ _ _ _ _ us hl => match us, hl with | [_, _], _ => rfl) (fun _ _ _ _ _ _ _ us hl => match us, hl with | [_, _], _ => rfl) (q95 c) (q96 c) l23 e23 (q97 c))
    (Dn.exN_mk X G PySem.F.excBase_ArithmeticError PySem.F.store_ArithmeticError inN_TooLong (fun _ _ _ _ _ _ _ us hl => match us, hl with | [_], _ => rfl) (fun _ _ _ _ _ _ _ us hl => match us, hl with | [_], _ => rfl) (q98 c) (q99 c) l24 e24 (q100 c))
    (Dn.exN_mk X G PySem.F.excBase_ArithmeticError PySem.F.store_ArithmeticError inN_TooManyDeeds (fun _ _ _ _ _ _ _ us hl => match us, hl with | [_], _ => rfl) (fun _ _ _ _ _ _ _ us hl => match us, hl with | [_], _ => rfl) (q101 c) (q102 c) l25 e25 (q103 c))
    (Dn.exN_mk X G PySem.F.excBase_ArithmeticError PySem.F.store_ArithmeticError inN_TooManyFaces (fun _ _ _ _ _ _ _ us hl => match us, hl with | [_], _ => rfl) (fun _ _ _ _ _ _ _ us hl => match us, hl with | [_], _ => rfl) (q104 c) (q105 c) l26 e26 (q106 c))
    (Dn.exN_mk X G PySem.F.excBase_ArithmeticError PySem.F.store_ArithmeticError inN_TooManyJoins (fun _ _ _ _ _ _ _ us hl => match us, hl with | [_], _ => rfl) (fun _ _ _ _ _ _ _ us hl => match us, hl with | [_], _ => rfl) (q107 c) (q108 c) l27 e27 (q109 c))
    (Dn.exN_mk X G PySem.F.excBase_ArithmeticError PySem.F.store_ArithmeticError inN_TooManyRows (fun _ _ _ _ _ _ _ us hl => match us, hl with | [_], _ => rfl) (fun _ _ _ _ _ _ _ us hl => match us, hl with | [_], _ => rfl) (q110 c) (q111 c) l28 e28 (q112 c))
    (Dn.exN_mk X G PySem.F.excBase_ValueError PySem.F.store_ValueError inN_UnknownConstructor (fun _ _ _ _ _ _ _ us hl => match us, hl with | [_], _ => rfl) (fun _ _ _ _ _ _ _ us hl => match us, hl with | [_], _ => rfl) (q113 c) (q114 c) l29 e29 (q115 c))
    (Dn.exN_mk X G PySem.F.excBase_ValueError PySem.F.store_ValueError inN_UnknownKind (fun _ _ _ _ _ _ _ us hl => match us, hl with | [_], _ => rfl) (fun _ _ _ _ _ _ _ us hl => match us, hl with | [_], _ => rfl) (q116 c) (q117 c) l30 e30 (q118 c))
    (Dn.exN_mk X G PySem.F.excBase_ValueError PySem.F.store_ValueError inN_UnknownMode (fun _ _ _ _ _ _ _ us hl => match us, hl with | [_], _ => rfl) (fun _ _ _ _ _ _ _ us hl => match us, hl with | [_], _ => rfl) (q119 c) (q120 c) l31 e31 (q121 c))
    (Dn.exN_mk X G PySem.F.excBase_LookupError PySem.F.store_LookupError inN_Unlike (fun _ _ _ _ _ _ _ us hl => match us, hl with | [_], _ => rfl) (fun _ _ _ _ _ _ _ us hl => match us, hl with | [_], _ => rfl) (q122 c) (q123 c) l32 e32 (q124 c))
    (Dn.exZ_mk X G PySem.F.excBase_LookupError (q125 c) (q126 c))
    (Dn.exZ_mk X G PySem.F.excBase_LookupError (q127 c) (q128 c))
    (Dn.exZ_mk X G PySem.F.excBase_LookupError (q129 c) (q130 c))
    (PySem.W.mg_of X G (q131 c))
    (PySem.W.mg_of X G (q132 c))
    (PySem.W.mg_of X G (q133 c))
    (PySem.W.mg_none_of X G (q134 c))
    (PySem.W.mg_none_of X G (q135 c))
    (PySem.W.mg_none_of X G (q136 c))
    (q137 c)
    (Ft.defAt X G (q138 c) l33 e33 (q139 c))
    (Ft.defAt X G (q140 c) l34 e34 (q141 c))
    (Ft.defAt X G (q142 c) l35 e35 (q143 c))
    (Ft.defAt X G (q144 c) l36 e36 (q145 c))
    (Ft.defAt X G (q146 c) l37 e37 (q147 c))
    (Ft.defAt X G (q148 c) l38 e38 (q149 c))
    (Ft.defAt X G (q150 c) l39 e39 (q151 c))
    (Ft.defAt X G (q152 c) l40 e40 (q153 c))
    (Ft.defAt X G (q154 c) l41 e41 (q155 c))
    (Ft.defAt X G (q156 c) l42 e42 (q157 c))
    (Ft.defAt X G (q158 c) l43 e43 (q159 c))
    (Ft.defAt X G (q160 c) l44 e44 (q161 c))
    (Ft.defAt X G (q162 c) l45 e45 (q163 c))
theorem walk2 {loose : List Str} {XP : (Str → Option Value) → Heap → Prop} {d : DefRec} {l : PySem.W.OpenLaw} (hn : l.most = some 63) (hdf : d.params.defaults = []) (hd : d.name = "law") :
    PySem.W.WalkO qv loose XP hk.says l.row.toRowW d [] (fun f vs => PySem.call f vs) :=
  Ft.walkX (n := 63) (k := 4) (x := "_law_cells") (sp := spT) hn (by decide) hdf ⟨rfl, by decide, by decide⟩ (fun w mg fa h Y G hm => by
    obtain ⟨K, X, c⟩ := Y
    rw [hd] at hm
    exact ⟨K, X, fin2 X G hm c⟩) fun K cs H a ns hl h1 hS => ⟨a, ns, rfl, hS, hl, fun p hp => by
    obtain ⟨i, hi, e⟩ := List.getElem_of_mem hp
    rw [List.getElem_zipWith] at e
    rw [← e]
    exact TabS.nil (h1 _ (List.getElem_mem _)), fun _ => rfl⟩
end D22
open PySem PySem.W PySem.Calls PyProof.Rows in
set_option maxRecDepth 100000 in
set_option maxHeartbeats 0 in
theorem PySem.Challenge.cw_fivetrees_k22_errors_and_limits_holds : PySem.Challenge.rw_fivetrees_k22_errors_and_limits.Holds := by
  w_on; o_law
  refine HandSHeadRun.head_any (r := OpenLaw.row PySem.Challenge.rw_fivetrees_k22_errors_and_limits) (q := D22.qv) (H := D22.hk) (ob := D22.ob) (M := 30000) (loose := D22.nms) (kwd := []) D22.ob_eq (by kernel_rfl) (fun s => by kernel_rfl) D22.run (by rfl) (by rfl) (by rfl) (by rfl) (by first | assumption | decide +kernel) (by decide +kernel) ⟨rfl, rfl, rfl, rfl, rfl, by decide +kernel⟩ ?hw ?hc
  case hw => w_witness2
  case hc => exact D22.walk2 rfl rfl rfl
#print axioms PySem.Challenge.cw_fivetrees_k22_errors_and_limits_holds
