import PyProof.Rows.All
import Wide.All
import OpenK.AllK
import Wide.FinOn
import KE.KExcLine
import HandS.ForMost
import HandS.Exc
import HandS.ExcSuper
import HandS.ExcInit
import HandS.ExcValue
import HandS.ExcField
import HandS.Codes
import HandS.RaiseMore
import HandS.Ends
import HandS.Small
import HandS.Iter
import HandS.Comp
import HandS.Words
import HandS.Walk
import PySem.Challenge.RW_bindertongue_k01_errors_keep_what_is_bou
set_option Elab.async false
set_option linter.all false
set_option maxRecDepth 100000
set_option maxHeartbeats 4000000
/-! Errors of a program's own, over Exception, whose __init__ hands its arguments on by super() and keeps them. -/
namespace Xo
open PySem PySem.W PySem.Calls PyProof.Rows
open Builtin Builtin.ObjectAttr

/-- the mro behind the own classes -/
abbrev mroX : List Value := [.type "Exception", .type "BaseException", .type "object"]

/-- `super().__init__(es)` as an expression -/
abbrev supE (p0 p1 p2 p4 : Pos) (es : List PySem.Expr) : PySem.Expr :=
  .Call (.Attribute (.Call (.Name "super" p0) [] [] p1) "__init__" p2) es [] p4
/-- `self.g = g` -/
abbrev keepS (g : Str) (p6 p7 p8 p9 : Pos) : Stmt := .Assign [.Attribute (.Name "self" p6) g p7] (.Name g p8) p9

section
variable {prog : Program} {w : World} {A : Around} {E : Value → Shared → Prop} {h : Heap} {gs : Array GenState} {d : Drawn} {t : Nat} {os : OsState}
variable {K : Frag} {C D fI cc cda x t0 : Addr} {mg mb : Str → Option Value}

/-- what is known of the class and of its __init__ in the written part -/
structure IniOf (prog : Program) (K : Frag) (C fI : Addr) (qual : Str) (params : Arguments) (body : List Stmt) (scope : Scope) : Prop where
  fn : ∃ (oc : Value) (od : Option Addr) (kV doc pm : Value) (an : Option Addr) (cda : Addr) (ct : Value) (cc : Addr) (osl : Array (Option Value)),
    K.lookup fI = some ⟨oc, od, .func (ksFn "__init__" qual params body scope .none kV doc pm an (.ref cda) ct cc), osl⟩ ∧ codeIn K (.ref cda) qual = true ∧
    (∃ cl cld csl, K.lookup cc = some ⟨cl, cld, .cell (some (.ref C)), csl⟩) ∧
    ∃ ccl cdd vs ccs file tf, K.lookup cda = some ⟨ccl, cdd, .fields vs, ccs⟩ ∧ vs[2]? = some (.str file tf) ∧ ((prog.main.file : Str) == file) = true
  isF : isFn K (.ref fI) = true
  find : findIn K (.ref C) "__init__" = some (some (.ref fI))
  ini : excInitIn K C mroX "Exception.__new__" = true
  over : excOver K C mroX = true
  dict : hasDictIn K C = true
  sa : findIn K (.ref C) "__setattr__" = some (some (.builtin "object.__setattr__"))
  sup : ks_superIn K C C "__init__" = some (some (.builtin "Exception.__init__"))
  subE : subIn K (.ref C) (.type "Exception") = some true
  mro : mroIn K C (.ref C) = some true
  opq : nsIn K cStatics "thirdparty.any" = some none
  top : (prog.main.scope.names.lookup ("super" : Str)).isSome = false

/-- the scope of such an __init__ -/
structure ScpOf (scope : Scope) : Prop where
  kind : scope.kind = .function
  cells : ∀ y ∈ scope.names, y.2 ≠ .cell
  self : scope.names.lookup ("self" : Str) = some .local
  sup : scope.names.lookup ("super" : Str) = some .globalImplicit
  cls : scope.names.lookup ("__class__" : Str) = some .free
  co : scope.isCoroutine = false
  gen : scope.isGenerator = false

theorem cls_at {cd : ClassData} (X : K.In h) (hc : clsIn K C = some cd) : ∃ o, h.get? C = some o ∧ o.data = .cls cd := by
  unfold clsIn at hc
  split at hc
  · rename_i c e cd' sl ho
    cases hc
    exact ⟨_, X _ _ ho, rfl⟩
  · cases hc
theorem cls_some (q : excOver K C mroX = true) : ∃ cd, clsIn K C = some cd := by
  obtain ⟨cd, hc, _⟩ := any_some q
  exact ⟨cd, hc⟩

/-- super() itself: the object that stands for it -/
theorem sup_base {body : List Stmt} {q : Str} {scope : Scope} {p0 p1 : Pos} {whole : Sem Value} {fd : FuncData} {ar : Arg} {vs : Array Value} {file : Str} {tf : Tok} {of oc ox : Obj} {m : Str → Option Value} {L : Addr} {Q : Value → Shared → Prop}
    (X : K.In h) (S : ScpOf scope) (hg : h.Ns mainGlobals mg) (hms : mg "super" = none) (hb : h.Ns builtinsNs mb) (hbs : mb "super" = bootBuiltins "super")
    (hf : h.get? fI = some of) (hfd : of.data = .func fd) (hp : (fd.params.posonlyargs ++ fd.params.args).head? = some ar) (har : ar.arg = "self")
    (hcd : h.get? cda = some oc) (hoc : oc.data = .fields vs) (hvs : vs[2]? = some (.str file tf)) (hfile : ((prog.main.file : Str) == file) = true)
    (hcell : h.IsCell cc (some (.ref C))) (hov : excOver K C mroX = true) (hmro : mroIn K C (.ref C) = some true) (htop : (prog.main.scope.names.lookup ("super" : Str)).isSome = false)
    (hn : h.Ns L m) (hm : m "self" = some (.ref x)) (hx : h.get? x = some ox) (hxc : ox.cls = .ref C) (hnc : ∀ c, ox.data ≠ .cls c)
    (hq : ∀ h', (∀ y o, h.get? y = some o → h'.get? y = some o) → h'.get? h.objs.size = some (ks_superObj C x C) → Q (.ref h.objs.size) ⟨h', gs, d, t, os⟩) :
    _root_.PySem.wpAt (model prog w) A (.func body (ksEnv q scope L fI (.ref cda) cc)) (attributeBase (.Call (.Name "super" p0) [] [] p1) "__init__" (ksEnv q scope L fI (.ref cda) cc) whole) Q E ⟨h, gs, d, t, os⟩ := by
  obtain ⟨cd, hc⟩ := cls_some hov
  obtain ⟨oD, hD1, hD2⟩ := cls_at X hc
  refine ks_wpAt_super_base (env := ksEnv q scope L fI (.ref cda) cc) S.sup S.cls (by decide) rfl hf hfd hp rfl hcd hoc hvs hfile htop ?_
  refine ks_loadName_global S.kind S.sup (loadGlobal_builtin (env := ksEnv q scope L fI (.ref cda) cc) hg hms hb (hbs.trans (by decide +kernel : bootBuiltins "super" = some (.type "super"))) ⟨rfl, ?_⟩)
  refine wpAny_loadName_free S.kind S.cls rfl hcell ?_
  rw [har]
  refine wpAny_loadName_local S.kind S.self hn hm ?_
  refine ks_wpAny_isType_cls hD1 hD2 ⟨rfl, ?_⟩
  exact ks_wpAny_call_super hD1 hD2 hx hxc hnc (looks_mroIn X hmro) fun h' e k => hq h' k e

/-- super().__init__ looked up: the built-in one bound to the object -/
theorem sup_meth {so : Addr} {ox : Obj} {pl : Sem Bool} {Q : Value × List Value → Shared → Prop} (X : K.In h) (hs : h.get? so = some (ks_superObj C x C)) (hov : excOver K C mroX = true)
    (hsup : ks_superIn K C C "__init__" = some (some (.builtin "Exception.__init__"))) (hsub : subIn K (.ref C) (.type "Exception") = some true) (hopq : nsIn K cStatics "thirdparty.any" = some none)
    (hx : h.get? x = some ox) (hxc : ox.cls = .ref C) (hnc : notCls ox = true) (hdn : ox.dict = none)
    (hq : Q (.ref h.objs.size, []) ⟨h.push (kxs_mw "Exception.__init__" x), gs, d, t + 1, os⟩) :
    _root_.PySem.wpAny (model prog w) A (getMethod (.ref so) "__init__" pl) Q E ⟨h, gs, d, t, os⟩ := by
  obtain ⟨cd, hc⟩ := cls_some hov
  have I : InstAt h x ox C none := ⟨hx, hxc, hnc, by rw [hdn]; trivial⟩
  have hI : Looks (model prog w) h (isInstance (.ref x) (.type "Exception")) true := I.type.andThen (looks_subIn X hsub)
  unfold ks_superIn at hsup
  rw [hc] at hsup
  refine kxs_getMethod kxs_Exception hs (looks_opaque X hopq) (l₀ := cd.mro) ?_ rfl X hsup hI (ks_ne X I hc) (by decide) hq
  exact fun A Q E s k q => wpAny_bind ((looks_clsIn X hc) A _ E s k (wpAny_pure q))

/-- the bound built-in called: the arguments are laid anew -/
theorem sup_call {u : Addr} {dv : Option Addr} {rest : List Value} {Q : Value → Shared → Prop} (X : K.In h) (hini : excInitIn K C mroX "Exception.__new__" = true)
    (hu : h.get? u = some (kxs_mw "Exception.__init__" x)) (hx : h.get? x = some (excObj C t0 dv .none)) (hz : rest.length ≤ sizeLine)
    (hq : ∀ h' t1, (∀ b o, b ≠ x → h.get? b = some o → h'.get? b = some o) → h'.get? x = some (excObj C t1 dv .none) → Q .none ⟨h', gs, d, t, os⟩) :
    _root_.PySem.wpAny (model prog w) A (call (.ref u) rest) Q E ⟨h, gs, d, t, os⟩ := by
  obtain ⟨nm, N', qn, bs, bm, hdct, sn, sub, ab, col, dd, k0, k1, k2, k3, k5, hC, hT⟩ := excInit_of X hini
  have FB := PySem.F.excBase_Exception
  refine wpAny_call (codeAny_of_tree ?_)
  show _root_.PySem.wpAny _ A.in1 (callAny (.ref u) ⟨rest, []⟩) _ _ _
  simp only [callAny]
  refine wpAny_bind (wpAny_load hu ?_)
  simp only [kxs_mw, show (Value.type "method-wrapper" == Value.type "method" || Value.type "method-wrapper" == Value.type "builtin_function_or_method" || Value.type "method-wrapper" == Value.type "method-wrapper") = true by decide, if_true]
  refine KFB.if_so (by decide) ?_
  refine wpAny_bind (check_bound_init FB.toExcCallFacts hC hx rfl ?_)
  refine wpAny_bind (wpAny_pure (wpAny_pure ?_))
  refine ⟨plainId_quiet FB.init.plain _, codeAny_builtin FB.initEntry ?_⟩
  exact exc_init_tree (cls := .ref C) (t0 := t0) (dv := dv) (c2 := .none) (c3 := .none) (b4 := .bool false) hx hz fun h' k e _ => hq h' _ k e

/-- self.f = v, the first one: the object's own dict is made -/
theorem keep_new {f : Str} {v : Value} {Q : Unit → Shared → Prop} (X : K.In h) (hov : excOver K C mroX = true) (hdi : hasDictIn K C = true) (hsa : findIn K (.ref C) "__setattr__" = some (some (.builtin "object.__setattr__"))) (hf : takerIn K C f = some none)
    (hx : h.get? x = some (excObj C t0 none .none))
    (hq : ∀ h' t' dx, (∀ b o, b ≠ x → h.get? b = some o → h'.get? b = some o) → h.objs.size ≤ dx → dx ≠ x → h'.get? x = some (excObj C t0 (some dx) .none) → h'.Ns1 dx (fun y => if y = f then some v else none) → Q () ⟨h', gs, d, t', os⟩) :
    _root_.PySem.wpAny (model prog w) A (setAttr (.ref x) f v) Q E ⟨h, gs, d, t, os⟩ := by
  have I : InstAt h x (excObj C t0 none .none) C none := ⟨hx, rfl, rfl, trivial⟩
  have hxs : x ≠ h.objs.size := Nat.ne_of_lt (Heap.lt_size hx)
  obtain ⟨cd, hc, hd'⟩ := any_some hdi
  have hcls : Looks (model prog w) h (classData C) cd := looks_clsIn X hc
  refine set_plain X I hsa (osa_openX (od := none) (s := ⟨h, gs, d, t + 1, os⟩) PySem.F.store_Exception X I hov hf fun b => ?_)
  dsimp only
  obtain ⟨nm, bs, mro, ns, qn, hd, sn, sb, ab, col, del⟩ := cd
  dsimp only at hd'
  subst hd'
  unfold storeInOwnDict ownDictForStores
  repeat (first | with_reducible refine HandSPX.store_in_new ?_ ?_ | with_reducible refine wpAny_loadPart_at hx ?_ | with_reducible refine hcls.at ?_ | wp_step)
  · exact ⟨_, #[], _, (Heap.get?_update_ne _ _ _ _ hxs.symm).trans (Heap.get?_push_at rfl rfl), rfl, fun e he => absurd he (by simp), fun _ => rfl⟩
  · intro h' tk' hn' hs
    have hx1 : (h.push { cls := .type "dict", data := .dict #[] }).get? x = some (excObj C t0 none .none) := Heap.get?_push_of_some _ hx
    refine hq h' _ h.objs.size (fun b o hb ho => ?_) (Nat.le_refl _) hxs.symm ?_ hn'
    · exact (hs.2 b (Nat.ne_of_lt (Heap.lt_size ho))).trans ((Heap.get?_update_ne _ _ _ _ hb).trans (Heap.get?_push_of_some _ ho))
    · exact (hs.2 x hxs).trans (Heap.get?_update_self _ hx1 rfl)
/-- self.f = v, a further one -/
theorem keep_old {f : Str} {v : Value} {dx : Addr} {m0 : Str → Option Value} {ns : List Str} {Q : Unit → Shared → Prop} (X : K.In h) (hov : excOver K C mroX = true) (hdi : hasDictIn K C = true) (hsa : findIn K (.ref C) "__setattr__" = some (some (.builtin "object.__setattr__"))) (hf : takerIn K C f = some none)
    (hx : h.get? x = some (excObj C t0 (some dx) .none)) (hns : h.Ns1 dx m0) (hw : Within m0 ns) (hz : ns.length ≤ 1000)
    (hq : ∀ h' t', (∀ b o, b ≠ dx → h.get? b = some o → h'.get? b = some o) → h'.Ns1 dx (fun y => if y = f then some v else m0 y) → Q () ⟨h', gs, d, t', os⟩) :
    _root_.PySem.wpAny (model prog w) A (setAttr (.ref x) f v) Q E ⟨h, gs, d, t, os⟩ := by
  obtain ⟨oD, _, _, hoD, _, _⟩ := hns.count hw
  have I : InstAt h x (excObj C t0 (some dx) .none) C (some oD) := ⟨hx, rfl, rfl, hoD⟩
  obtain ⟨cd, hc, hd'⟩ := any_some hdi
  have hcls : Looks (model prog w) h (classData C) cd := looks_clsIn X hc
  refine set_plain X I hsa (osa_openX (od := some oD) (s := ⟨h, gs, d, t + 1, os⟩) PySem.F.store_Exception X I hov hf fun b => ?_)
  dsimp only
  obtain ⟨nm, bs, mro, ns', qn, hd, sn, sb, ab, col, del⟩ := cd
  dsimp only at hd'
  subst hd'
  unfold storeInOwnDict ownDictForStores
  repeat (first | with_reducible refine ESX.store_in_old hns hw hz ?_ | with_reducible refine wpAny_loadPart_at hx ?_ | with_reducible refine hcls.at ?_ | wp_step)
  intro h' tk' hn' hs
  exact hq h' _ (fun b o hb ho => (hs.2 b hb).trans ho) hn'

/-- what the run of such an __init__ leans on -/
structure RunOf (K : Frag) (mg : Str → Option Value) (A : Around) (h : Heap) : Prop where
  kin : K.In h
  glob : h.Ns mainGlobals mg
  sup : mg "super" = none
  blt : ∃ mb, h.Ns builtinsNs mb ∧ mb "super" = bootBuiltins "super"
  lim : h.NoLimit
  room : A.depth < recursionLimit

theorem kxs_plain {u : Addr} {env : Env} {e : PySem.Expr} {es : List PySem.Expr} {pos : Pos} {s : Shared} {Q : Value → Shared → Prop} (he : starEach (e :: es) env = (false, eval e env) :: starEach es env) (hpl : (backTo pos (starEach es env)).any (·.1) = false)
    (hq : _root_.PySem.wpAny (model prog w) A (spliced (backTo pos (starEach (e :: es) env))) (fun vs s₁ => KxsAt "Exception.__init__" u x s₁.heap ∧ _root_.PySem.wpAny (model prog w) A (call (.ref u) vs) Q E s₁) E s) :
    _root_.PySem.wpAny (model prog w) A (callWith pos (.ref u) [] (backTo pos (starEach (e :: es) env)) []) Q E s := by
  rw [he] at hq ⊢
  refine kxs_callWith (i := "Exception.__init__") (x := x) ?_ (evalArgs_plain hq)
  show (false || (backTo pos (starEach es env)).any (·.1)) = false
  rw [hpl]
  rfl

/-- __init__ entered, its first line run: the frame at L, the object as it was but for the arguments -/
theorem ini_enter {qual : Str} {params : Arguments} {body rest : List Stmt} {scope : Scope} {e : PySem.Expr} {es : List PySem.Expr} {p0 p1 p2 p4 p5 : Pos} {ar : Arg} {args : Args} {vs : List Value} {binds : List (Str × Value)} {R : Result → Shared → Prop}
    (S : ScpOf scope) (F : IniOf prog K C fI qual params body scope) (hbody : body = .Expr (supE p0 p1 p2 p4 (e :: es)) p5 :: rest) (M : RunOf K mg A h)
    (hp : (params.posonlyargs ++ params.args).head? = some ar) (har : ar.arg = "self") (hz : vs.length ≤ sizeLine)
    (hbind : ∀ (kV doc pm : Value) (an : Option Addr) (cdv ct : Value) (cc : Addr), bindArgs (ksFn "__init__" qual params body scope .none kV doc pm an cdv ct cc) args = pure binds)
    (hself : binds.reverse.lookup ("self" : Str) = some (Value.ref x)) (hloc : ∀ y ∈ binds, scope.names.lookup y.1 = some .local)
    (he : ∀ env : Env, starEach (e :: es) env = (false, eval e env) :: starEach es env) (hpl : ∀ env : Env, (backTo p4 (starEach es env)).any (·.1) = false)
    (hcall : ∀ (L : Addr) (cdv : Value) (cc : Addr), ∃ pl : Sem Bool, eval (supE p0 p1 p2 p4 (e :: es)) (ksEnv qual scope L fI cdv cc) = (do
      let ov ← attributeBase (.Call (.Name "super" p0) [] [] p1) "__init__" (ksEnv qual scope L fI cdv cc) (eval (.Call (.Name "super" p0) [] [] p1) (ksEnv qual scope L fI cdv cc))
      standAt p2.atName
      let (f, first) ← holding [ov] (getMethod ov "__init__" pl)
      callWith p4 f first (backTo p4 (starEach (e :: es) (ksEnv qual scope L fI cdv cc))) []))
    (hargs : ∀ (L : Addr) (cdv : Value) (cc : Addr) (h' : Heap) (t' : Nat) (A' : Around) (E' : Value → Shared → Prop) (Q' : List Value → Shared → Prop), h'.Ns L (fun y => binds.reverse.lookup y) → Q' vs ⟨h', gs, d, t', os⟩ →
      _root_.PySem.wpAny (model prog w) A' (spliced (backTo p4 (starEach (e :: es) (ksEnv qual scope L fI cdv cc)))) Q' E' ⟨h', gs, d, t', os⟩)
    (hx : h.get? x = some (excObj C t0 none .none))
    (hrest : ∀ (L : Addr) (cdv : Value) (cc : Addr) (h' : Heap) (t' : Nat) (t1 : Addr) (A' : Around) (E' : Value → Shared → Prop), h'.Ns L (fun y => binds.reverse.lookup y) → (∀ b o, b ≠ x → h.get? b = some o → h'.get? b = some o) → h'.get? x = some (excObj C t1 none .none) →
      _root_.PySem.wpAny (model prog w) A' (execs rest (ksEnv qual scope L fI cdv cc)) (fun f s' => R (.ok (.ret (match f with | .ret v => v | _ => .none))) s') E' ⟨h', gs, d, t', os⟩) :
    codeAny (model prog w) A (.call (.ref fI) args) R ⟨h, gs, d, t, os⟩ := by
  obtain ⟨oc, od, kV, doc, pm, an, cda, ct, cc, osl, lk, hcd, ⟨cl, cld, csl, lcc⟩, ccl, cdd, fs, ccs, file, tf, lcd, hvs, hfile⟩ := F.fn
  obtain ⟨mb, hb, hbs⟩ := M.blt
  have X := M.kin
  refine ks_codeAny_call_defAt (s := ⟨h, gs, d, t, os⟩) (fd := ksFn "__init__" qual params body scope .none kV doc pm an (.ref cda) ct cc) (body := body) (binds := binds) M.room (X _ _ lk) rfl M.lim (codeRec_of X hcd) rfl (.of_eq (hbind _ _ _ _ _ _ _)) S.cells hloc
    (fun h0 hns k0 => ?_) S.co S.gen S.kind
  have X0 := X.keeps k0
  have hx0 := k0 _ _ hx
  subst hbody
  obtain ⟨pl, hcl⟩ := hcall h.objs.size (.ref cda) cc
  refine ks_wpAt_execs_cons (ks_wpAt_Expr_any (ks_wpAt_MethodCall ?_ hcl) ?_ ?_)
  · refine sup_base X0 S (M.glob.keeps k0) M.sup (hb.keeps k0) hbs (k0 _ _ (X _ _ lk)) rfl hp har (k0 _ _ (X _ _ lcd)) rfl hvs hfile ⟨_, k0 _ _ (X _ _ lcc), rfl⟩ F.over F.mro F.top hns hself hx0 rfl (by intro c z; cases z) fun h1 k1 e1 => ?_
    have X1 := X0.keeps k1
    have hx1 := k1 _ _ hx0
    refine sup_meth X1 e1 F.over F.sup F.subE F.opq hx1 rfl rfl rfl ?_
    have k2 : ∀ b o, h1.get? b = some o → (h1.push (kxs_mw "Exception.__init__" x)).get? b = some o := fun b o z => Heap.get?_push_of_some _ z
    refine kxs_plain (he _) (hpl _) (hargs _ _ _ _ _ _ _ _ ((hns.keeps k1).keeps k2) ⟨Heap.get?_push_at rfl rfl, ?_⟩)
    refine sup_call ((X1.keeps k2)) F.ini (Heap.get?_push_at rfl rfl) (k2 _ _ hx1) hz fun h3 t1 k3 e3 => ?_
    refine wpAt_of_wpAny (hrest _ _ _ h3 _ t1 _ _ ?_ (fun b o hb z => k3 b o hb (k2 _ _ (k1 _ _ (k0 _ _ z)))) e3)
    obtain ⟨oL, es', ep', hL, r⟩ := (hns.keeps k1).keeps k2
    refine ⟨oL, es', ep', k3 _ _ (fun z => ?_) hL, r⟩
    exact absurd (Heap.lt_size hx) (by rw [← z]; exact Nat.lt_irrefl _)
  · simp [interactive, callEnv, newEnv, S.kind]
  · rfl

/-- the object behind its making: kept fields at dx, nothing else changed -/
def MadeAt (C x : Addr) (h : Heap) (fs : List (Str × Value)) (h' : Heap) : Prop :=
  ∃ t1 dx, (∀ b o, b ≠ x → h.get? b = some o → h'.get? b = some o) ∧ h'.get? x = some (excObj C t1 (some dx) .none) ∧ h.get? dx = none ∧ dx ≠ x ∧ h'.Ns1 dx (fun y => fs.lookup y)

/-- a local name of the frame -/
theorem ld_local {qual g : Str} {scope : Scope} {L : Addr} {cdv v : Value} {p : Pos} {m : Str → Option Value} {Q : Value → Shared → Prop} (S : ScpOf scope) (hg : scope.names.lookup g = some .local) (hn : h.Ns L m) (hm : m g = some v) (hd : (g == ("__debug__" : Str)) = false) (hq : Q v ⟨h, gs, d, t, os⟩) :
    _root_.PySem.wpAny (model prog w) A (eval (.Name g p) (ksEnv qual scope L fI cdv cc)) Q E ⟨h, gs, d, t, os⟩ := wpAny_Name (wpAny_loadName_local S.kind hg hn hm hq) hd

theorem keepsIn {h' : Heap} (X : K.In h) (hxK : K.lookup x = none) (k : ∀ b o, b ≠ x → h.get? b = some o → h'.get? b = some o) : K.In h' := fun b o hb => k b o (fun z => by
  rw [z] at hb
  have hb' : K.lookup x = some o := hb
  rw [hxK] at hb'
  cases hb') (X b o hb)

theorem supE_eval {p0 p1 p2 p4 : Pos} {es : List PySem.Expr} (env : Env) (hpos : (p2.endLine == p4.line) = true) (hf : methodCallForm es.length (backTo p4 (starEach es env)) (backToKw p4 (keywordEach [] env)) = true) :
    ∃ pl : Sem Bool, eval (supE p0 p1 p2 p4 es) env = (do
      let ov ← attributeBase (.Call (.Name "super" p0) [] [] p1) "__init__" env (eval (.Call (.Name "super" p0) [] [] p1) env)
      standAt p2.atName
      let (f, first) ← holding [ov] (getMethod ov "__init__" pl)
      callWith p4 f first (backTo p4 (starEach es env)) []) := by
  refine ⟨do return (← importBound (.Call (.Name "super" p0) [] [] p1) env).getD true, ?_⟩
  show (do
    let ov ← attributeBase (.Call (.Name "super" p0) [] [] p1) "__init__" env (eval (.Call (.Name "super" p0) [] [] p1) env)
    standAt p2.atName
    methodCall (.Call (.Name "super" p0) [] [] p1) "__init__" p2 p4 env ov (es.length + 0) (backTo p4 (starEach es env)) (backToKw p4 (keywordEach [] env))) = _
  unfold methodCall
  rw [Nat.add_zero, hf]
  unfold methodCallPos calleeOf
  simp only [hpos, Bool.not_true, Bool.false_or, if_true, pure_bind]
  rfl

/-- an __init__ of one argument -/
theorem ini1 {qual g : Str} {params : Arguments} {scope : Scope} {p0 p1 p2 p3 p4 p5 p6 p7 p8 p9 : Pos} {ar : Arg} {args : Args} {v : Value} {R : Result → Shared → Prop}
    (S : ScpOf scope) (F : IniOf prog K C fI qual params [.Expr (supE p0 p1 p2 p4 [.Name g p3]) p5, keepS g p6 p7 p8 p9] scope) (M : RunOf K mg A h)
    (hp : (params.posonlyargs ++ params.args).head? = some ar) (har : ar.arg = "self") (hgl : scope.names.lookup g = some .local) (hgd : (g == ("__debug__" : Str)) = false) (hgs : (g == ("self" : Str)) = false) (hgt : takerIn K C g = some none) (hpos : (p2.endLine == p4.line) = true)
    (hbind : ∀ (kV doc pm : Value) (an : Option Addr) (cdv ct : Value) (cc : Addr), bindArgs (ksFn "__init__" qual params [.Expr (supE p0 p1 p2 p4 [.Name g p3]) p5, keepS g p6 p7 p8 p9] scope .none kV doc pm an cdv ct cc) args = pure [(("self" : Str), .ref x), (g, v)])
    (hx : h.get? x = some (excObj C t0 none .none)) (hxK : K.lookup x = none)
    (hq : ∀ h' t', MadeAt C x h [(g, v)] h' → R (.ok (.ret .none)) ⟨h', gs, d, t', os⟩) :
    codeAny (model prog w) A (.call (.ref fI) args) R ⟨h, gs, d, t, os⟩ := by
  have e1 : ([(("self" : Str), Value.ref x), (g, v)] : List (Str × Value)).reverse.lookup ("self" : Str) = some (Value.ref x) := by
    show ([(g, v), (("self" : Str), Value.ref x)] : List (Str × Value)).lookup ("self" : Str) = _
    have q : (("self" : Str) == g) = false := by
      rw [beq_eq_false_iff_ne] at hgs ⊢
      exact Ne.symm hgs
    simp only [List.lookup, q]
    rfl
  have e2 : ([(("self" : Str), Value.ref x), (g, v)] : List (Str × Value)).reverse.lookup g = some v := by
    show ([(g, v), (("self" : Str), Value.ref x)] : List (Str × Value)).lookup g = _
    simp [List.lookup]
  refine ini_enter (vs := [v]) (binds := [(("self" : Str), Value.ref x), (g, v)]) S F rfl M hp har (by rw [sizeLine_eq]; show 1 ≤ _; omega) (fun kV doc pm an cdv ct cc => hbind _ _ _ _ _ _ _) e1 ?_ (fun _ => rfl) (fun _ => rfl) (fun _ _ _ => supE_eval _ hpos rfl) ?_ hx ?_
  · intro y hy
    rcases List.mem_cons.mp hy with rfl | hy
    · exact S.self
    · rcases List.mem_cons.mp hy with rfl | hy
      · exact hgl
      · cases hy
  · intro L cdv cc h' t' A' E' Q' hn hq'
    exact spliced_cons (ld_local S hgl hn e2 hgd (spliced_nil hq'))
  · intro L cdv cc h1 t' t1 A' E' hn k e
    have X1 : K.In h1 := keepsIn M.kin hxK k
    refine wpAny_execs_cons (plainObj_wpAny_Assign_Attribute (ld_local S hgl hn e2 hgd (ld_local S S.self hn e1 (by decide) ?_)))
    refine keep_new X1 F.over F.dict F.sa hgt e fun h2 t2 dx k2 n1 n2 e3 n3 => wpAny_execs_nil (hq _ _ ⟨t1, dx, fun b o hb z => k2 b o hb (k b o hb z), e3, ?_, n2, ?_⟩)
    · cases z : h.get? dx with
      | none => rfl
      | some o => exact absurd (Heap.lt_size (k dx o n2 z)) (Nat.not_lt.mpr n1)
    · have q : (fun y => ([(g, v)] : List (Str × Value)).lookup y) = fun y => if y = g then some v else none := by
        funext y
        by_cases hy : y = g
        · rw [if_pos hy, hy]; simp [List.lookup]
        · rw [if_neg hy]
          have : (y == g) = false := by simpa using hy
          simp [List.lookup, this]
      rw [q]; exact n3

/-- an __init__ of two arguments -/
theorem ini2 {qual f g : Str} {params : Arguments} {scope : Scope} {p0 p1 p2 p3 q3 p4 p5 p6 p7 p8 p9 q6 q7 q8 q9 : Pos} {ar : Arg} {args : Args} {u v : Value} {R : Result → Shared → Prop}
    (S : ScpOf scope) (F : IniOf prog K C fI qual params [.Expr (supE p0 p1 p2 p4 [.Name f p3, .Name g q3]) p5, keepS f p6 p7 p8 p9, keepS g q6 q7 q8 q9] scope) (M : RunOf K mg A h)
    (hp : (params.posonlyargs ++ params.args).head? = some ar) (har : ar.arg = "self") (hfl : scope.names.lookup f = some .local) (hfd : (f == ("__debug__" : Str)) = false) (hft : takerIn K C f = some none)
    (hgl : scope.names.lookup g = some .local) (hgd : (g == ("__debug__" : Str)) = false) (hgt : takerIn K C g = some none) (hpos : (p2.endLine == p4.line) = true)
    (e1 : ([(("self" : Str), Value.ref x), (f, u), (g, v)] : List (Str × Value)).reverse.lookup ("self" : Str) = some (Value.ref x))
    (e2 : ([(("self" : Str), Value.ref x), (f, u), (g, v)] : List (Str × Value)).reverse.lookup f = some u)
    (hbind : ∀ (kV doc pm : Value) (an : Option Addr) (cdv ct : Value) (cc : Addr), bindArgs (ksFn "__init__" qual params [.Expr (supE p0 p1 p2 p4 [.Name f p3, .Name g q3]) p5, keepS f p6 p7 p8 p9, keepS g q6 q7 q8 q9] scope .none kV doc pm an cdv ct cc) args = pure [(("self" : Str), .ref x), (f, u), (g, v)])
    (hx : h.get? x = some (excObj C t0 none .none)) (hxK : K.lookup x = none)
    (hq : ∀ h' t', MadeAt C x h [(g, v), (f, u)] h' → R (.ok (.ret .none)) ⟨h', gs, d, t', os⟩) :
    codeAny (model prog w) A (.call (.ref fI) args) R ⟨h, gs, d, t, os⟩ := by
  have e3 : ([(("self" : Str), Value.ref x), (f, u), (g, v)] : List (Str × Value)).reverse.lookup g = some v := by
    show ([(g, v), (f, u), (("self" : Str), Value.ref x)] : List (Str × Value)).lookup g = _
    simp [List.lookup]
  refine ini_enter (vs := [u, v]) (binds := [(("self" : Str), Value.ref x), (f, u), (g, v)]) S F rfl M hp har (by rw [sizeLine_eq]; show 2 ≤ _; omega) hbind e1 ?_ (fun _ => rfl) (fun _ => rfl) (fun _ _ _ => supE_eval _ hpos rfl) ?_ hx ?_
  · intro y hy
    rcases List.mem_cons.mp hy with rfl | hy
    · exact S.self
    · rcases List.mem_cons.mp hy with rfl | hy
      · exact hfl
      · rcases List.mem_cons.mp hy with rfl | hy
        · exact hgl
        · cases hy
  · intro L cdv cc h' t' A' E' Q' hn hq'
    exact spliced_cons (ld_local S hfl hn e2 hfd (spliced_cons (ld_local S hgl hn e3 hgd (spliced_nil hq'))))
  · intro L cdv cc h1 t' t1 A' E' hn k e
    have X1 : K.In h1 := keepsIn M.kin hxK k
    refine wpAny_execs_cons (plainObj_wpAny_Assign_Attribute (ld_local S hfl hn e2 hfd (ld_local S S.self hn e1 (by decide) ?_)))
    refine keep_new X1 F.over F.dict F.sa hft e fun h2 t2 dx k2 n1 n2 o2 r2 => ?_
    have X2 : K.In h2 := keepsIn X1 hxK k2
    have hL : ∀ o, h1.get? L = some o → h2.get? L = some o := fun o z => k2 L o (fun q => by
      obtain ⟨oL, _, _, zL, dL, _⟩ := hn
      rw [q, e] at zL
      cases zL
      cases dL) z
    obtain ⟨oL, es', ep', zL, rL⟩ := hn
    have hn2 : h2.Ns L (fun y => ([(("self" : Str), Value.ref x), (f, u), (g, v)] : List (Str × Value)).reverse.lookup y) := ⟨oL, es', ep', hL _ zL, rL⟩
    refine wpAny_execs_cons (plainObj_wpAny_Assign_Attribute (ld_local S hgl hn2 e3 hgd (ld_local S S.self hn2 e1 (by decide) ?_)))
    refine keep_old (ns := [f]) X2 F.over F.dict F.sa hgt o2 r2 (fun y hy => ?_) (by show 1 ≤ 1000; omega) fun h3 t3 k3 r3 => wpAny_execs_nil (hq _ _ ⟨t1, dx, fun b o hb z => ?_, k3 _ _ (Ne.symm n2) o2, ?_, n2, ?_⟩)
    · by_cases z : y = f
      · rw [z]; exact List.mem_singleton.mpr rfl
      · exact absurd (if_neg z) hy
    · refine k3 b o (fun q => ?_) (k2 b o hb (k b o hb z))
      exact absurd (Heap.lt_size (k b o hb z)) (by rw [q]; exact Nat.not_lt.mpr n1)
    · cases z : h.get? dx with
      | none => rfl
      | some o => exact absurd (Heap.lt_size (k dx o n2 z)) (Nat.not_lt.mpr n1)
    · have q : (fun y => ([(g, v), (f, u)] : List (Str × Value)).lookup y) = fun y => if y = g then some v else if y = f then some u else none := by
        funext y
        by_cases hy : y = g
        · rw [if_pos hy, hy]; simp [List.lookup]
        · rw [if_neg hy]
          have : (y == g) = false := by simpa using hy
          by_cases hz : y = f
          · rw [if_pos hz]
            have z2 : (y == f) = true := by simpa using hz
            simp [List.lookup, this, z2]
          · rw [if_neg hz]
            have z2 : (y == f) = false := by simpa using hz
            simp [List.lookup, this, z2]
      rw [q]; exact r3

end
end Xo

namespace Xo
open PySem PySem.W PySem.Calls PySem.HandSPX
section
variable {prog : Program} {w : World} {M : Model} {A : Around} {E : Value → Shared → Prop} {R : Result → Shared → Prop} {h : Heap} {g : Array GenState} {d : Drawn} {t : Nat} {os : OsState}
variable {nm q : Str} {C N : Addr} {bs bm bmB : List Value} {hdct : Bool} {sn : List Str} {sub : List Value} {ab : Bool} {col : Option Bool} {dd : Option Addr} {k0 k1 k2 k3 k5 : Option Value} {B newId initId : String}
theorem kw_checkNew (F : ExcBaseFacts B newId initId bmB) (hT : ∀ X : String, bm.contains (.type X) = bmB.contains (.type X)) {rest : List Value} {kw : List (Str × Value)} {Q : Unit → Shared → Prop}
    (hC : h.get? C = some (excClassObj nm q C N bs bm hdct sn sub ab col dd k0 k1 k2 k3 k5 newId)) (hq : Q () ⟨h, g, d, t, os⟩) : _root_.PySem.wpAny M A (checkBuiltinCall newId ⟨.ref C :: rest, kw⟩) Q E ⟨h, g, d, t, os⟩ := by
  have hcont : (Value.ref C :: bm).contains (.type B) = true := by
    rw [List.contains_cons, hT, F.hasB, Bool.or_true]
  have hstar := F.noStar
  simp only [checkBuiltinCall, F.newKind, F.newSplit, F.newRow]
  repeat (first
    | refine wpAny_loadPart_at hC ?_
    | (refine wpAny_isSubtype_exc hC ?_; rw [hcont])
    | refine wpAny_staticBase_exc hC ?_
    | refine wpAny_madeBy_exc hC ?_
    | simp only [bne_self_eq_false, Bool.false_eq_true, if_false]
    | wp_step)
  exact hq
theorem kw_new (F : ExcBaseFacts B newId initId bmB) (hT : ∀ X : String, bm.contains (.type X) = bmB.contains (.type X)) {rest : List Value} {kw : List (Str × Value)}
    (hC : h.get? C = some (excClassObj nm q C N bs bm hdct sn sub ab col dd k0 k1 k2 k3 k5 newId))
    (hq : R (.ok (.ret (.ref (h.objs.size + 1)))) ⟨(h.push (excTup rest)).push (excO C h.objs.size), g, d, t, os⟩) (hrest : rest.length ≤ sizeLine) :
    codeAny (model prog w) A (.builtin newId ⟨.ref C :: rest, kw⟩) R ⟨h, g, d, t, os⟩ := by
  have hends := F.ends
  have hcB : (Value.ref C :: bm).contains (.type B) = true := by rw [List.contains_cons, hT, F.hasB, Bool.or_true]
  have hcA : (Value.ref C :: bm).contains (.type "AttributeError") = false := by rw [List.contains_cons, hT, F.noAttr]; rfl
  have hcN : (Value.ref C :: bm).contains (.type "NameError") = false := by rw [List.contains_cons, hT, F.noName]; rfl
  refine codeAny_builtinAt F.entry ?_
  unfold Builtin.«BaseException.__new__»
  refine wpAt_bind ?_
  show _root_.PySem.wpAt _ _ _ (stack >>= _) _ _ _
  refine wpAt_bind (wpAt_stack fun p below => wpAt_of_wpAny ?_)
  wp_walk
  refine wpAt_of_wpAny ?_
  rw [F.owner]
  repeat (first
    | with_reducible refine wpAny_madeHere_exc F.canon hC ?_
    | with_reducible refine wpAny_loadPart_at hC ?_
    | (with_reducible refine wpAny_isSubtype_exc hC ?_; first | rw [hcB] | rw [hcA] | rw [hcN])
    | wp_step)
  show R _ _
  rw [Heap.size_push]
  exact hq
theorem kw_typeCall (F : ExcBaseFacts B newId initId bmB) (hT : ∀ X : String, bm.contains (.type X) = bmB.contains (.type X)) {rest : List Value} {kw : List (Str × Value)} {fI : Addr} {Q : Fin → Shared → Prop}
    (hC : h.get? C = some (excClassObj nm q C N bs bm hdct sn sub ab col dd k0 k1 k2 k3 k5 newId))
    (hi : Looks (model prog w) h (typeLookup (.ref C) "__init__") (some (.ref fI))) (hb : ∀ self, Looks (model prog w) h (bindSpecial (.ref fI) self) (.ref fI, [self])) (hrest : rest.length ≤ sizeLine)
    (hq : codeAny (model prog w) A (.call (.ref fI) ⟨.ref (h.objs.size + 1) :: rest, kw⟩)
      (fun r s' => match r with | .ok (.ret v) => v = .none ∧ Q (.done (.ret (.ref (h.objs.size + 1)))) s' | .ok _ => False | .error e => E e s')
      ⟨(h.push (excTup rest)).push (excO C h.objs.size), g, d, t, os⟩) :
    _root_.PySem.wpAny (model prog w) A (Builtin.«type.__call__» ⟨.ref C :: rest, kw⟩) Q E ⟨h, g, d, t, os⟩ := by
  repeat (first | with_reducible refine wpAny_loadPart_at hC ?_ | with_reducible refine wpAny_madeBy_exc hC ?_ | wp_step)
  refine codeAny_call_builtin_code (Code.quiet_builtin _ F.quiet) (kw_checkNew F hT hC ?_)
  refine kw_new F hT hC ?_ hrest
  show _root_.PySem.wpAny _ _ _ _ _ _
  have k : ∀ b o, h.get? b = some o → ((h.push (excTup rest)).push (excO C h.objs.size)).get? b = some o := fun b o e => Heap.get?_push_of_some _ (Heap.get?_push_of_some _ e)
  have hC1 := k _ _ hC
  have hget : ((h.push (excTup rest)).push (excO C h.objs.size)).get? (h.objs.size + 1) = some (excO C h.objs.size) := by heap_get
  have hcC : (Value.ref C :: bm).contains (.ref C) = true := by simp
  have i1 := hi.keeps k
  have b1 := (hb (.ref (h.objs.size + 1))).keeps k
  unfold isInstance
  repeat (first | with_reducible refine wpAny_loadPart_at hget ?_ | (with_reducible refine wpAny_isSubtype_exc hC1 ?_; rw [hcC]) | wp_step)
  show _root_.PySem.wpAny _ _ (typeLookup (.ref C) _) _ _ _
  refine i1.at ?_
  refine wpAny_holding (wpAny_bind (b1.at ?_))
  refine wpAny_bind (wpAny_call (codeAny_mono hq fun r s' z => ?_))
  rcases r with e | (v | _ | _ | _) <;> first | exact z | exact z.elim | skip
  obtain ⟨rfl, z⟩ := z
  first
    | exact wpAny_pure (wpAny_pure z)
    | (wp_walk; exact z)
theorem kw_call (F : ExcBaseFacts B newId initId bmB) (hT : ∀ X : String, bm.contains (.type X) = bmB.contains (.type X)) {rest : List Value} {kw : List (Str × Value)} {fI : Addr}
    (hC : h.get? C = some (excClassObj nm q C N bs bm hdct sn sub ab col dd k0 k1 k2 k3 k5 newId))
    (hi : Looks (model prog w) h (typeLookup (.ref C) "__init__") (some (.ref fI))) (hb : ∀ self, Looks (model prog w) h (bindSpecial (.ref fI) self) (.ref fI, [self])) (hrest : rest.length ≤ sizeLine)
    (hq : codeAny (model prog w) (A.under (.builtin "type.__call__" ⟨.ref C :: rest, kw⟩)) (.call (.ref fI) ⟨.ref (h.objs.size + 1) :: rest, kw⟩) (InitBack (h.objs.size + 1) R)
      ⟨(h.push (excTup rest)).push (excO C h.objs.size), g, d, t, os⟩) :
    codeAny (model prog w) A (.call (.ref C) ⟨rest, kw⟩) R ⟨h, g, d, t, os⟩ := by
  have f1 := tc_lookup
  have f2 := tc_bind (.ref C)
  have hTy : (⟨h, g, d, t, os⟩ : Shared).TypeIs (.ref C) "type" := ⟨_, hC, rfl⟩
  refine codeAny_of_tree ?_
  show _root_.PySem.wpAny _ _ (callAny (.ref C) _) _ _ _
  repeat (any_goals (first | assumption | with_reducible refine wpAny_loadPart_at hC ?_ | wp_step))
  refine ⟨rfl, ?_⟩
  refine codeAny_call_builtin_at (Code.quiet_builtin _ (by decide +kernel)) entry_typeCall (wpAny_check_type_call_sub hC (kw_typeCall F hT hC hi hb hrest ?_))
  refine codeAny_mono hq fun r s' z => ?_
  rcases r with e | (v | _ | _ | _) <;> exact z

end
end Xo

namespace Xo
open PySem PySem.Spec L2
open PySem.W (excObj excTup excInitIn findIn isFn looks_findIn exc_bind excInit_of)
section
variable {fs ex : List Addr} {H : Hp} {h h' : Heap} {a b : Addr} {o u : HO}
theorem un_two (k : ∀ c v, h.get? c = some v → h'.get? c = some v) (ha : h.get? a = none) (hb : h.get? b = none) (na : H a = none) (nb : H b = none) : Un fs ex H (upd (upd H b u) a o) h h' := by
  have ne : ∀ {c : Addr} {v : Obj}, h.get? c = some v → c ≠ a ∧ c ≠ b := fun {c v} q => ⟨fun z => (by rw [z, ha] at q; cases q), fun z => (by rw [z, hb] at q; cases q)⟩
  have nh : ∀ {c : Addr} {v : HO}, H c = some v → c ≠ a ∧ c ≠ b := fun {c v} q => ⟨ne_of_none q na, ne_of_none q nb⟩
  refine ⟨fun c v q _ _ _ => k c v q, fun c v q _ _ _ => ⟨v.slots, k c v q⟩, fun c v q n _ => ?_, fun c v q _ => ⟨v, k c v q⟩, fun c xs q => ?_, fun c v xs q => ?_, fun c ps q => ⟨#[], ?_⟩⟩
  · rw [upd_ne (ne q).1, upd_ne (ne q).2]; exact n
  · rw [upd_ne (nh q).1, upd_ne (nh q).2]; exact q
  · rw [upd_ne (nh q).1, upd_ne (nh q).2]; exact q
  · rw [upd_ne (nh q).1, upd_ne (nh q).2, q]; simp
end
section
variable {X : Cx} {pins : List (Addr × Obj)} {σ : St} {H : Hp} {s : Shared} {Q : VK} {C fI : Addr}
/-- two new objects, tracked -/
theorem inv_two {h' : Heap} {a b : Addr} {o u : HO} {t' : Nat} (I : Inv X pins σ H s) (k : ∀ c v, s.heap.get? c = some v → h'.get? c = some v) (ha : s.heap.get? a = none) (hb : s.heap.get? b = none) (ne : b ≠ a)
    (nu : ObjOk X.prog X.w (upd H b u) h' b u) (no : ObjOk X.prog X.w (upd (upd H b u) a o) h' a o) : Inv X pins σ (upd (upd H b u) a o) { s with heap := h', toks := t' } := by
  have na := I.hok.gone ha
  have nb := I.hok.gone hb
  refine I.un (un_two k ha hb na nb) ?_
  exact (I.hok.laidN k nb nu).laidN (fun _ _ e => e) (by rw [upd_ne (Ne.symm ne)]; exact na) no

/-- what the __init__ of such a class does with these arguments -/
def IniRuns (P : Program) (w : World) (K : PySem.W.Frag) (mg : Str → Option Value) (C fI : Addr) (us : List Value) (kw : List (Str × Value)) (fs : List (Str × Value)) : Prop :=
  ∀ (A : Around) (h : Heap) (gs : Array GenState) (d : Drawn) (t : Nat) (os : OsState) (t0 x : Addr) (R : Result → Shared → Prop), RunOf K mg A h → K.lookup x = none → h.get? x = some (excObj C t0 none .none) →
    (∀ h' t', MadeAt C x h fs h' → R (.ok (.ret .none)) ⟨h', gs, d, t', os⟩) → codeAny (model P w) A (.call (.ref fI) ⟨.ref x :: us, kw⟩) R ⟨h, gs, d, t, os⟩

/-- such a class called: a new error with its fields -/
theorem run_mkx {us : List Value} {kw : List (Str × Value)} {fs : List (Str × Value)} {fv : List (Str × V)} (hC : excInitIn X.K C mroX "Exception.__new__" = true) (hf : findIn X.K (.ref C) "__init__" = some (some (.ref fI))) (hF : isFn X.K (.ref fI) = true)
    (ini : IniRuns X.prog X.w X.K X.mg C fI us kw fs) (hr : Room 2 X.A) (hs : X.mg "super" = none) (I : Inv X pins σ H s) (rel : ∀ f, RelO (fv.lookup f) (fs.lookup f)) (hz : us.length ≤ sizeLine)
    (hq : ∀ a d, H a = none → H d = none → d ≠ a → Q (.ref a) (upd (upd H d (exd d fv)) a (exo a C (some d)))) :
    wpAny (model X.prog X.w) X.A (call (.ref C) us kw) (EP X pins σ Q) X.xe s := by
  obtain ⟨nm, N', qn, bs, bm, hdct, sn, sub, ab, col, dd, k0, k1, k2, k3, k5, hCo, hT⟩ := excInit_of I.kIn hC
  obtain ⟨oI, hoI, hcI⟩ : ∃ oI, s.heap.get? fI = some oI ∧ oI.cls = .type "function" := by
    obtain ⟨o, ho, hc⟩ := Option.map_eq_some_iff.mp (show (X.K.lookup fI).map (·.cls) = some (.type "function") from beq_iff_eq.mp hF)
    exact ⟨o, I.kIn _ _ ho, hc⟩
  obtain ⟨mb, hb, hbx⟩ := I.mod.blt
  have gl := I.mod.glob.keeps I.bk
  have bl := hb.keeps I.bk
  have lim := I.nolimit
  have kin := I.kIn
  have e1 : s.heap.get? (s.heap.objs.size + 1) = none := Heap.get?_none_of_le (Nat.le_succ _)
  have hxK : X.K.lookup (s.heap.objs.size + 1) = none := by
    cases z : X.K.lookup (s.heap.objs.size + 1) with
    | none => rfl
    | some o => rw [kin _ _ z] at e1; cases e1
  have I' := I
  obtain ⟨h, g, d, t, os⟩ := s
  have k : ∀ b o, h.get? b = some o → ((h.push (excTup us)).push (HandSPX.excO C h.objs.size)).get? b = some o := fun b o e => Heap.get?_push_of_some _ (Heap.get?_push_of_some _ e)
  have hget : ((h.push (excTup us)).push (HandSPX.excO C h.objs.size)).get? (h.objs.size + 1) = some (excObj C h.objs.size none .none) := by heap_get
  refine wpAny_call (kw_call F.excBase_Exception hT hCo (looks_findIn kin hf) (fun self => exc_bind hoI hcI self) hz ?_)
  refine ini _ _ g d t os h.objs.size _ _ ⟨kin.keeps k, gl.keeps k, hs, ⟨mb, bl.keeps k, hbx _ (by decide)⟩, lim.keeps k, (hr.make C us kw).depth⟩ hxK hget fun h' t' ⟨t1, dx, k', ex, nd, ne, ns⟩ => ⟨rfl, ?_⟩
  have ks : ∀ b o, h.get? b = some o → h'.get? b = some o := fun b o e => k' b o (fun z => by rw [z] at e; rw [show h.get? (h.objs.size + 1) = none from e1] at e; cases e) (k b o e)
  have dn : h.get? dx = none := by
    cases z : h.get? dx with
    | none => rfl
    | some o => rw [k _ _ z] at nd; cases nd
  have na := I'.hok.gone e1
  have nb := I'.hok.gone dn
  exact ⟨.ref (h.objs.size + 1), _, inv_two I' ks e1 dn ne (exd_ok ns rel) (exo_ok ex), rfl, hq _ _ na nb ne⟩
end
/-- an error class called by place -/
def tMkP (C : Addr) (n : Nat) (fV : List V → List (Str × V)) (ta : TA) : TE := fun σ H Q => ta σ H fun vs H1 => vs.length = n ∧ ∀ a d, H1 a = none → H1 d = none → d ≠ a → Q (.ref a) (upd (upd H1 d (exd d (fV vs))) a (exo a C (some d)))
section
variable {X : Cx} {C fI : Addr} {x : Str} {e : PySem.Expr} {es : List PySem.Expr} {kws : List Keyword} {ta : TA} {p pos : Pos} {n : Nat} {ff : List Value → List (Str × Value)} {fV : List V → List (Str × V)} {ks : List Str}
theorem pe_mkP (hC : excInitIn X.K C mroX "Exception.__new__" = true) (hf : findIn X.K (.ref C) "__init__" = some (some (.ref fI))) (hF : isFn X.K (.ref fI) = true) (kC : PySem.W.keepIn X.K (.ref C) = true) (hg : Gl X x) (gC : X.mg x = some (.ref C))
    (ini : ∀ us : List Value, us.length = n → IniRuns X.prog X.w X.K X.mg C fI us [] (ff us)) (rel : ∀ vs us, Vals vs us → vs.length = n → ∀ f, RelO ((fV vs).lookup f) ((ff us).lookup f)) (hn : n ≤ 1000) (hr : Room 2 X.A) (hs : X.mg "super" = none)
    (ha : PA X (e :: es) ta) (hdb : (x == ("__debug__" : Str)) = false := by decide) (he : starEach (e :: es) X.env = (false, eval e X.env) :: starEach es X.env := by rfl) (hpl : (backTo pos (starEach es X.env)).any (·.1) = false := by rfl) :
    PE X (.Call (.Name x p) (e :: es) [] pos) (tMkP C n fV ta) := by
  refine ⟨fun pins s σ H Q I h => ?_⟩
  refine wpAny_Call_Name_kw (ld_glob I hg gC ?_ hdb)
  refine PySem.W.callWith_K (h₀ := X.base) I.ok.mod.kin kC (thn (ha.run pos pins s σ H _ I h) fun us s1 ⟨vs, H1, I1, r1, hz, q1⟩ => ⟨I1.kIn, ?_⟩) he hpl
  have hl : us.length = n := by rw [← r1.length]; exact hz
  exact run_mkx hC hf hF (ini us hl) hr hs I1 (rel vs us r1 hz) (by show us.length ≤ _; rw [hl, sizeLine_eq]; omega) q1
/-- an error class called by names -/
theorem pe_mkK (hC : excInitIn X.K C mroX "Exception.__new__" = true) (hf : findIn X.K (.ref C) "__init__" = some (some (.ref fI))) (hF : isFn X.K (.ref fI) = true) (kC : PySem.W.keepIn X.K (.ref C) = true) (hg : Gl X x) (gC : X.mg x = some (.ref C))
    (ini : ∀ us : List Value, us.length = n → IniRuns X.prog X.w X.K X.mg C fI [] (ks.zip us) (ff us)) (rel : ∀ vs us, Vals vs us → vs.length = n → ∀ f, RelO ((fV vs).lookup f) ((ff us).lookup f)) (hr : Room 2 X.A) (hs : X.mg "super" = none)
    (hk : PK X kws ta) (hall : (backToKw pos (keywordEach kws X.env)).all (·.1.isSome) = true := by rfl) (hks : (backToKw pos (keywordEach kws X.env)).filterMap (·.1) = ks := by rfl) (hdb : (x == ("__debug__" : Str)) = false := by decide)
    (hpl : ((backTo pos (starEach [] X.env)).any (·.1) || (backToKw pos (keywordEach kws X.env)).any (·.1.isNone)) = false := by rfl) :
    PE X (.Call (.Name x p) [] kws pos) (tMkP C n fV ta) := by
  refine ⟨fun pins s σ H Q I h => ?_⟩
  refine wpAny_Call_Name_kw (ld_glob I hg gC ?_ hdb)
  refine PySem.W.callWith_KW0 (h₀ := X.base) I.ok.mod.kin kC hall ?_ hpl
  refine thn (hk.run pos pins s σ H _ I h) fun us s1 ⟨vs, H1, I1, r1, hz, q1⟩ => ⟨I1.kIn, ?_⟩
  rw [hks]
  have hl : us.length = n := by rw [← r1.length]; exact hz
  exact run_mkx (us := []) hC hf hF (ini us hl) hr hs I1 (rel vs us r1 hz) (by rw [sizeLine_eq]; show 0 ≤ _; omega) q1

/-- an error class without an __init__ of its own, called with nothing -/
theorem pe_mkB (hC : excInitIn X.K C mroX "Exception.__new__" = true) (hf : findIn X.K (.ref C) "__init__" = some (some (.builtin "Exception.__init__"))) (kC : PySem.W.keepIn X.K (.ref C) = true) (hg : Gl X x) (gC : X.mg x = some (.ref C)) (hdb : (x == ("__debug__" : Str)) = false := by decide) :
    PE X (.Call (.Name x p) [] [] pos) (fun σ H Q => ∀ a, H a = none → Q (.ref a) (upd H a (exo a C none))) := by
  refine ⟨fun pins s σ H Q I h => ?_⟩
  refine wpAny_Call_Name_kw (ld_glob I hg gC ?_ hdb)
  refine PySem.W.callWith_K0 I.kIn kC ?_
  show wpAny _ _ (call (.ref C) []) _ _ _
  obtain ⟨nm, N', qn, bs, bm, hdct, sn, sub, ab, col, dd, k0, k1, k2, k3, k5, hCo, hT⟩ := excInit_of I.kIn hC
  have e1 : s.heap.get? (s.heap.objs.size + 1) = none := Heap.get?_none_of_le (Nat.le_succ _)
  have na := I.hok.gone e1
  have I' := I
  have kin := I.kIn
  obtain ⟨hh, g, d, t, os⟩ := s
  refine PySem.W.call_B F.excBase_Exception hT hCo (looks_findIn kin hf) (by rw [sizeLine_eq]; show 0 ≤ _; omega) fun h' k he ht => ?_
  exact ⟨.ref (hh.objs.size + 1), _, I'.laidN (t' := t) k e1 na (exo_ok he), rfl, h _ na⟩

/-- a field of such an error -/
def tFldX (K : PySem.W.Frag) (f : Str) (to : TE) : TE := fun σ H Q => to σ H fun x H1 => ∃ a C d fs v, x = .ref a ∧ XfC K C ∧ findIn K (.ref C) f = some none ∧ H1 a = some (exo a C (some d)) ∧ H1 d = some (exd d fs) ∧ fs.lookup f = some v ∧ Q v H1
theorem pe_fldX {f : Str} {to : TE} (ho : PE X e to) (hb : attributeBase e f X.env (eval e X.env) = eval e X.env := by rfl) : PE X (.Attribute e f pos) (tFldX X.K f to) := by
  refine ⟨fun pins s σ H Q I h => ?_⟩
  refine attr_of hb (thn (ho.run pins s σ H _ I h) fun u s1 hh => ?_)
  obtain ⟨x, H1, I1, rx, a, C, d, fs, v, ex, T, hno, ea, ed, l, q⟩ := hh
  subst ex
  obtain rfl : u = Value.ref a := rx
  obtain ⟨t1, hx⟩ := exo_at I1.hok ea
  obtain ⟨mA, hns, hrel⟩ := exd_at I1.hok ed
  obtain ⟨od, hod, hlk⟩ := lookIn_ns hns
  obtain ⟨u, hu, ru⟩ := RelO.some_of (v := v) (o := mA f) (by rw [← l]; exact hrel f)
  have J : PySem.W.InstAt s1.heap a (excObj C t1 (some d) .none) C (some od) := ⟨hx, rfl, rfl, hod⟩
  exact HandSPX.exc_get I1.kIn J T.ga T.gg T.exC (PySem.W.findObj_own T.hdC hno rfl (by rw [hlk, hu])) (handed_of ru) ⟨v, H1, I1.tok _, ru, q⟩

/-- an error of the class C stands at a -/
def ErrAt (H : Hp) (a C : Addr) : Prop := ∃ d, H a = some (exo a C d)
/-- isinstance of such an error, where it is so: of a class of the program, of a built-in one -/
def rIsX (K : PySem.W.Frag) : List V → Hp → VK → Prop := fun xs H Q => ∃ a C c cv, xs = [.ref a, c] ∧ ErrAt H a C ∧ (∀ u, RelV c u → u = cv) ∧ PySem.W.subIn K (.ref C) cv = some true ∧
  ((∃ D, cv = .ref D ∧ PySem.W.isClsIn K D = true ∧ PySem.W.typeIn K (.ref D) = some (.type "type")) ∨ cv = .type "Exception") ∧ Q (.bl true) H
theorem typ_Exc : typeOf (.type "Exception") = pure (.type "type") := by kernel_rfl
theorem call_isX : CallR X (.builtin "isinstance") (rIsX X.K) := by
  intro pins s σ H xs us Q I r h
  obtain ⟨a, C, c, cv, rfl, ⟨d, ea⟩, hcv, hsub, hcase, q⟩ := h
  cases r with
  | cons rx rr =>
    cases rr with
    | cons rt rr =>
      cases rr
      cases rx
      have ecv := hcv _ rt
      rw [ecv]
      obtain ⟨t1, hx⟩ := exo_at I.hok ea
      have kin := I.kIn
      have ty : PySem.W.Looks (model X.prog X.w) s.heap (typeOf (.ref a)) (.ref C) := (PySem.W.Looks.ld hx).andThen .now
      have hin : PySem.W.Looks (model X.prog X.w) s.heap (isInstance (.ref a) cv) true := ty.andThen (PySem.W.looks_subIn kin hsub)
      refine PyProof.Rows.call_isinstance_of ?_ (fun z => nomatch z)
      unfold Builtin.«isinstance.nested»
      refine wpAny_bind (m := typeOf (.ref a)) (ty.here ?_)
      show wpAny _ _ (if (Value.ref C == cv) = true then _ else _) _ _ s
      by_cases he : (Value.ref C == cv) = true
      · rw [if_pos he]
        repeat (first | refine wpAny_pure ?_ | refine wpAny_rule ?_ | refine wpAny_bind ?_)
        exact ⟨.bl true, H, I, rfl, q⟩
      · rw [if_neg he]
        rcases hcase with ⟨D, rfl, hD, hT⟩ | rfl
        · obtain ⟨cd, hcd⟩ := Option.isSome_iff_exists.mp hD
          obtain ⟨oD, hoD, hdD⟩ := cls_at kin hcd
          refine wpAny_bind (m := typeOf (.ref D)) ((PySem.W.looks_typeIn kin hT).here ?_)
          show wpAny _ _ (if (Value.type "type" == Value.type "type") = true then _ else _) _ _ s
          rw [if_pos (by decide)]
          obtain ⟨hh, g, dr, tk, os⟩ := s
          refine wpAny_bind (wpAny_bind (m := isType (.ref D)) (ks_wpAny_isType_cls hoD hdD ?_))
          refine wpAny_bind (m := isInstance (.ref a) (.ref D)) (hin.here ?_)
          exact wpAny_pure (a := true) (wpAny_pure ⟨.bl true, H, I, rfl, q⟩)
        · refine wpAny_bind (m := typeOf (.type "Exception")) (wpAny_of_eq typ_Exc ?_)
          show wpAny _ _ (if (Value.type "type" == Value.type "type") = true then _ else _) _ _ s
          rw [if_pos (by decide)]
          refine wpAny_bind (wpAny_bind (m := isType (.type "Exception")) (wpAny_pure (a := true) ?_))
          refine wpAny_bind (m := isInstance (.ref a) (.type "Exception")) (hin.here ?_)
          exact wpAny_pure (a := true) (wpAny_pure ⟨.bl true, H, I, rfl, q⟩)

end

end Xo

/-! repr of tracked data (one-entry dicts among them); defs that are promised where nothing else is being shown. -/
namespace Xo
open PySem PySem.Spec L2
open PyProof.Rows (envOfC)
mutual
/-- tracked data as a reading -/
inductive Dq (H : Hp) : V → PyData → Prop
  | non : Dq H .non .none
  | bl (b : Bool) : Dq H (.bl b) (.bool b)
  | int (i : Int) : Dq H (.int i) (.int i)
  | str (x : Str) : Dq H (.str x) (.str x)
  | lst {a : Addr} {xs : List V} {ds : List PyData} : H a = some (.lst xs) → DqAll H xs ds → Dq H (.ref a) (.list ds)
  | tup {a : Addr} {xs : List V} {ds : List PyData} : H a = some (.tup xs) → DqAll H xs ds → Dq H (.ref a) (.tuple ds)
  | dic {a : Addr} {x : Str} {i : Int} : H a = some (.dK [(.inr x, .int i)]) → Dq H (.ref a) (.dict [(.str x, .int i)])
inductive DqAll (H : Hp) : List V → List PyData → Prop
  | nil : DqAll H [] []
  | cons {v : V} {vs : List V} {d : PyData} {ds : List PyData} : Dq H v d → DqAll H vs ds → DqAll H (v :: vs) (d :: ds)
end
theorem DqAll.rep {H : Hp} {v : V} {d : PyData} (h : Dq H v d) : ∀ n : Nat, DqAll H (List.replicate n v) (List.replicate n d)
  | 0 => .nil
  | n + 1 => .cons h (DqAll.rep h n)

section
variable {X : Cx} {pins : List (Addr × Obj)} {σ : St} {H : Hp} {s : Shared}
theorem read_dic {a : Addr} {x : Str} {i : Int} (I : Inv X pins σ H s) (hs : H a = some (.dK [(.inr x, .int i)])) : Reads s.heap (.ref a) (.dict [(.str x, .int i)]) (a :: [] ++ []) := by
  obtain ⟨_, _, vs, kv, o, es, ep, ho, hx, hd, hks, hp, _⟩ := I.hok _ _ hs
  cases kv with
  | cons h1 h2 =>
    cases h2
    rename_i q qs
    obtain ⟨qk, qv⟩ := q
    obtain ⟨e1, tv, e2⟩ := h1
    have e1' : (Sum.inr x : Key) = qk := e1
    have e2' : qv = Value.int i tv := e2
    subst e1'
    subst e2'
    obtain ⟨el⟩ := es
    cases hp with
    | cons hk hv ht =>
      rename_i e0 es0
      cases ht
      obtain ⟨tk, ek⟩ : ∃ t, e0.key = .str x t := by
        rcases keyIs_shape (k := (Sum.inr x : Key)) (v := e0.key) hk with ⟨_, _, z, _⟩ | ⟨y, t, z2, z1⟩
        · cases z
        · cases z2
          exact ⟨t, z1⟩
      refine Reads.dict ho hx.1 hd (as := []) (bs := []) ?_ ?_
      · show ReadsAll s.heap [e0.key] [PyData.str x] []
        rw [ek]
        exact ReadsAll.cons (as := []) (Reads.str x tk) ReadsAll.nil
      · show ReadsAll s.heap [e0.val] [PyData.int i] []
        rw [hv]
        exact ReadsAll.cons (as := []) (Reads.int i tv) ReadsAll.nil

mutual
theorem Dq.reads (I : Inv X pins σ H s) : ∀ (d : PyData) (v : V) (u : Value), Dq H v d → RelV v u → ∃ as, Reads s.heap u d as ∧ ∀ x ∈ as, H x ≠ none
  | .none, _, _, h, r => by
    cases h
    cases r
    exact ⟨_, Reads.none, fun x hx => absurd hx (List.not_mem_nil)⟩
  | .bool b, _, _, h, r => by
    cases h
    cases r
    exact ⟨_, Reads.bool b, fun x hx => absurd hx (List.not_mem_nil)⟩
  | .int i, _, _, h, r => by
    cases h
    obtain ⟨t, rfl⟩ := r
    exact ⟨_, Reads.int i t, fun x hx => absurd hx (List.not_mem_nil)⟩
  | .str x, _, _, h, r => by
    cases h
    obtain ⟨t, rfl⟩ := r
    exact ⟨_, Reads.str x t, fun x hx => absurd hx (List.not_mem_nil)⟩
  | .list ds, _, _, h, r => by
    cases h with
    | lst hs ha =>
      cases r
      obtain ⟨_, its, n, rv, ho⟩ := I.hok _ _ hs
      obtain ⟨as, hr, hn⟩ := Dq.readsAll I ds _ its ha rv
      exact ⟨_, Reads.list ho rfl rfl hr, fun x hx => (List.mem_cons.mp hx).elim (fun e => by rw [e, hs]; exact Option.some_ne_none _) (hn x)⟩
  | .tuple ds, _, _, h, r => by
    cases h with
    | tup hs ha =>
      cases r
      obtain ⟨_, its, rv, o, ho, hc, n, hd⟩ := I.hok _ _ hs
      obtain ⟨as, hr, hn⟩ := Dq.readsAll I ds _ its ha rv
      exact ⟨_, Reads.tuple ho hc hd hr, hn⟩
  | .dict kvs, _, _, h, r => by
    cases h with
    | @dic a x i hs =>
      cases r
      exact ⟨_, read_dic I hs, fun y hy => by
        have hy' : y = a := by simpa using hy
        rw [hy', hs]
        exact Option.some_ne_none _⟩
theorem Dq.readsAll (I : Inv X pins σ H s) : ∀ (ds : List PyData) (vs : List V) (us : List Value), DqAll H vs ds → Vals vs us → ∃ as, ReadsAll s.heap us ds as ∧ ∀ x ∈ as, H x ≠ none
  | [], _, _, h, r => by
    cases h
    cases r
    exact ⟨_, ReadsAll.nil, fun x hx => absurd hx (List.not_mem_nil)⟩
  | d :: ds, _, _, h, r => by
    cases h with
    | cons h1 h2 =>
      cases r with
      | cons r1 r2 =>
        obtain ⟨as, q1, n1⟩ := Dq.reads I d _ _ h1 r1
        obtain ⟨bs, q2, n2⟩ := Dq.readsAll I ds _ _ h2 r2
        exact ⟨_, ReadsAll.cons q1 q2, fun x hx => (List.mem_append.mp hx).elim (n1 x) (n2 x)⟩
end
end
section
variable {X : Cx}
/-- dicts of one entry, as items -/
theorem reads_dicts {pins : List (Addr × Obj)} {σ : L2.St} {H : Hp} {s : Shared} {b : Addr} {x : Str} {i : Int} (I : Inv X pins σ H s) (hb : H b = some (.dK [(.inr x, .int i)])) : ∀ (n : Nat) (us : List Value), Vals (List.replicate n (V.ref b)) us →
    ∃ as, ReadsAll s.heap us (List.replicate n (PyData.dict [(.str x, .int i)])) as ∧ sysModules ∉ as
  | 0, _, r => by
    cases r
    exact ⟨[], ReadsAll.nil, List.not_mem_nil⟩
  | n + 1, _, r => by
    cases r with
    | cons r1 r2 =>
      obtain ⟨bs, q2, n2⟩ := reads_dicts I hb n _ r2
      cases r1
      refine ⟨_, ReadsAll.cons (read_dic I hb) q2, fun hm => (List.mem_append.mp hm).elim (fun h => ?_) n2⟩
      have hs := (I.hok _ _ hb).2.1
      have z : sysModules = b := by simpa using h
      rw [← z] at hs
      simp at hs
/-- what repr may be asked of -/
def Sh (H : Hp) (a : Addr) (d : PyData) : Prop := (Dq H (.ref a) d ∧ d.hasDict = false) ∨
  ∃ (n : Nat) (b : Addr) (x : Str) (i : Int), H a = some (.lst (List.replicate (n + 1) (.ref b))) ∧ H b = some (.dK [(.inr x, .int i)]) ∧ d = .list (List.replicate (n + 1) (.dict [(.str x, .int i)]))
/-- repr of tracked data, nothing else being shown -/
def rRep : List V → Hp → VK → Prop := fun xs H Q => ∃ a d, xs = [.ref a] ∧ Sh H a d ∧ d.showable = true ∧ d.depth ≤ 60 ∧ d.shown.length ≤ sizeLine ∧ Q (.str d.shown) H
theorem call_rep (hg : X.A.guards = some []) (hu : X.A.units + 64 < cLine) : CallR X (.builtin "repr") rRep := by
  intro pins s σ H xs us Q I r h
  obtain ⟨a, d, rfl, hd, hsh, hdp, hz, q⟩ := h
  cases r with
  | cons r1 r2 =>
    cases r2
    cases r1
    have fin : ∀ h' u tk, (∀ b o, s.heap.get? b = some o → h'.get? b = some o) → EP X pins σ Q (.str d.shown u) { s with heap := h', toks := tk } := fun h' u tk hk => ⟨.str d.shown, H, I.kept hk, ⟨u, rfl⟩, q⟩
    rcases hd with ⟨hd, nd⟩ | ⟨n, b, x, i, ha, hb, rfl⟩
    · obtain ⟨as, hr, hn⟩ := Dq.reads I d _ _ hd rfl
      exact repr_of_reads' (h₀ := s.heap) hr hsh (fun z => by rw [nd] at z; cases z) hg (by omega) (fun _ _ e => e) fin hz
    · obtain ⟨_, its, k, rv, ho⟩ := I.hok _ _ ha
      obtain ⟨as, h4, hsm⟩ := reads_dicts I hb (n + 1) its rv
      have hz' : (listText (PyData.shownAll (List.replicate (n + 1) (PyData.dict [(.str x, .int i)])))).length ≤ sizeLine := by simpa only [PyData.shown] using hz
      obtain ⟨bs, hbs, hk⟩ := ReprAllK.of_readsAll (prog := X.prog) (w := X.w) h4 (by simpa [PyData.showable] using hsh) (fun _ => hsm) (fun t ht => Nat.le_trans (listText_mem_le ht) hz')
      have hna : a ∉ bs := not_mem_of_deeper (.list ho rfl rfl h4) (by simp only [PyData.depth]; omega) hbs
      refine call_repr_slot (by omega) (⟨_, ho, rfl⟩ : s.TypeIs (.ref a) "list") F.slot_list_repr.toG ?_
      simp only [PyData.depth] at hdp
      simp only [PyData.shown] at fin
      have hl := hk.length_eq
      cases its with
      | nil => cases rv
      | cons u0 its =>
        exact call_list_reprK ho rfl rfl hna hl (fun j y e => hk.item j y (by simpa using e)) hg (fun b _ => Clear.nil b) (by show X.A.units + 1 + _ < _; omega) (fun _ _ e => e) (fun h' u tk hk => ⟨_, _, rfl, fin h' u tk hk⟩) hz'
end

/-! ### defs promised where nothing is being shown -/
/-- .. as FnOk, with this one fact more -/
structure FnG (P : Program) (w : World) (K : PySem.W.Frag) (mg : Str → Option Value) (base : Heap) (k : Nat) (f : Addr) (fd : FuncData) (ps : List Str) (sp : Sp) : Prop where
  len : ∀ vs H Q E, sp vs H Q E → vs.length = ps.length
  run : ∀ (A : Around) (outer : List Env) (s : Shared) (H : Hp) (args : Args) (us : List Value) (vs : List V) (Q : VK) (E : XK), A.guards = some [] → Room k A → Env0 P w K mg base A outer s H → BindsTo s fd args (ps.zip us) → Vals vs us → sp vs H Q E →
    codeAny (model P w) A (.call (.ref f) args) (CR C8.CX0 outer P w H s Q E) s

/-- a def by its body: where nothing is being shown at the call, nothing is in the body -/
theorem fnG {P : Program} {w : World} {K : PySem.W.Frag} {mg : Str → Option Value} {base : Heap} {k : Nat} {x qual : Str} {st : Stmt} {f : Addr} {fd : FuncData} {N ps : List Str} {sp : Sp} (F : C8.Fun K x qual st f fd) (S : FnScope N ps (C8.fnScope st)) (len : ∀ vs H Q E, sp vs H Q E → vs.length = ps.length)
    (hbody : ∀ (cdv : Value) (A : Around) (outer : List Env) (s : Shared) (H : Hp) (vs : List V) (Q : VK) (E : XK), A.guards = some [] → Room k (A.deeper (envOfC qual (C8.fnScope st) s.heap.objs.size f cdv)) → sp vs H Q E →
      ∃ t, PSs (cxOf C8.CX0 P w K mg base N qual (C8.fnScope st) f cdv A outer s H E).nox (C8.fnBody st) t ∧ t { nx := fun _ H' => Q .non H', rt := Q } (start N vs) H) : FnG P w K mg base (k + 1) f fd ps sp := by
  refine ⟨len, fun A outer s H args us vs Q E hG hr e0 hb r hsp => ?_⟩
  obtain ⟨oc, od, dV, kV, doc, pm, an, cdv, ct, osl, rfl, lk, hcd⟩ := F.ex
  have hl := len _ _ _ _ hsp
  have up : ∀ b o, base.get? b = some o → s.heap.get? b = some o := fun b o e => (e0.bs b o e).1
  have KX : K.In s.heap := e0.mod.kin.keeps up
  have hkind : ∀ y ∈ ps.zip us, (C8.fnScope st).names.lookup y.1 = some .local ∨ ((C8.fnScope st).names.lookup y.1 = some .cell ∧ ((cellsFrom (s.heap.objs.size + 1) (C8.fnScope st).names []).lookup y.1).isSome = true) := fun ⟨n, v⟩ hy => by
    rcases S.par n (List.of_mem_zip hy).1 with q | q
    · exact .inl q
    · exact .inr ⟨q, PySem.W.cellsFrom_some _ _ _ (.inl q)⟩
  refine codeAny_call_function hr.depth (KX _ _ lk) rfl S.co S.gen rfl (PySem.W.codeRec_of KX hcd) (hb _ _ _ _ ?_)
  refine wpAny_newFunctionEnv_cells S.kind hkind fun env he s1 x => ?_
  subst he
  refine ⟨(e0.mod.nolimit.keeps up).keeps x.toInCall.keep, codeAny_func ?_⟩
  obtain ⟨t, ht, hq⟩ := hbody cdv A outer s H vs Q E hG (hr.deeper _) hsp
  have I := inv_start (CX := C8.CX0) (E := E) S hr.hd e0 hl r x
  refine wpAny_mono (ht.nox.run [] s1 (start N vs) H _ I hq) (fun fl s' hs => ?_) fun e s' hs => hs
  cases fl with
  | ret u =>
    obtain ⟨v, σ', H', J, rv, q⟩ := hs
    exact ⟨v, H', J.os, J.bare, J.base, J.hok, rv, q⟩
  | next =>
    obtain ⟨σ', H', J, q⟩ := hs
    exact ⟨V.non, H', J.os, J.bare, J.base, J.hok, rfl, q⟩
  | brk =>
    obtain ⟨_, _, _, q⟩ := hs
    exact False.elim q
  | cont =>
    obtain ⟨_, _, _, q⟩ := hs
    exact False.elim q
section
variable {X : Cx} {k : Nat} {f : Addr} {fd : FuncData} {ps : List Str} {sp : Sp} {dvs : List V} {ds : List Value} {E : XK} {x : Str} {p pos : Pos} {e : PySem.Expr} {es : List PySem.Expr} {t : TA}
/-- f(..), such a def -/
theorem pe_callG (F : FnG X.prog X.w X.K X.mg X.base k f fd ps sp) (hG : X.A.guards = some []) (hr : Room k X.A) (hg : Gl X x) (hm : X.mg x = some (.ref f)) (hk : PySem.W.keepIn X.K (.ref f) = true) (hb : Binds X.K fd ps [])
    (ha : PA X (e :: es) t) (hdb : (x == ("__debug__" : Str)) = false := by decide) (he : starEach (e :: es) X.env = (false, eval e X.env) :: starEach es X.env := by rfl) (hpl : (backTo pos (starEach es X.env)).any (·.1) = false := by rfl) :
    PE X (.Call (.Name x p) (e :: es) [] pos) (tCall sp [] C8.E0 t) := by
  refine ⟨fun pins s σ H Q I h => ?_⟩
  refine wpAny_Call_Name_kw (ld_glob I hg hm ?_ hdb)
  refine PySem.W.callWith_K (h₀ := X.base) I.ok.mod.kin hk (thn (ha.run pos pins s σ H _ I h) fun us s1 ⟨vs, H1, I1, r, q'⟩ => ⟨I1.kIn, ?_⟩) he hpl
  have q : sp vs H1 Q C8.E0 := by
    have z : sp (vs ++ []) H1 Q C8.E0 := q'
    rw [List.append_nil] at z
    exact z
  show wpAny _ _ (call (.ref f) us) _ _ s1
  have hl : (us ++ ([] : List Value)).length = ps.length := by rw [List.append_nil, ← r.length]; exact F.len _ _ _ _ q
  have hb' := hb s1 us I1.kIn hl
  rw [List.append_nil] at hb'
  refine wpAny_call (codeAny_mono (F.run X.A X.stack s1 H1 ⟨us, []⟩ us vs Q _ hG hr I1.env0 hb' r q) fun r s' hq => ?_)
  cases r with
  | error e => exact hq.elim
  | ok fl =>
    cases fl with
    | ret u => exact I1.after hq
    | next => exact False.elim hq
    | brk => exact False.elim hq
    | cont => exact False.elim hq
end
end Xo

/-! The end of a law row whose law is promised where nothing is being shown. -/
namespace Xo
open PySem PySem.Spec L2 PyProof.Rows
section
variable {P : Program} {w : World} {K : PySem.W.Frag} {mg mb : Str → Option Value} {k : Nat} {fa a : Addr} {fd : FuncData} {x : Str} {sp : Sp} {s₁ : Shared} {vs : List Value} {ns : List Int}
/-- the script as an object -/
abbrev scrO (vs : List Value) : Obj := { cls := .type "list", data := .seq vs.toArray }
/-- the abstract heap at the law's call: the script, where it is none of the written part's objects -/
def scrH (K : PySem.W.Frag) (a : Addr) (vs : List Value) (ns : List Int) : Hp := fun b => if b = a ∧ K.lookup a = none then some (.frz (scrO vs) (.lst (ns.map V.int))) else none
theorem scrH_some {b : Addr} {u : HO} (h : scrH K a vs ns b = some u) : b = a ∧ K.lookup a = none ∧ u = .frz (scrO vs) (.lst (ns.map V.int)) := by
  unfold scrH at h
  split at h
  · rename_i q
    exact ⟨q.1, q.2, (Option.some.inj h).symm⟩
  · cases h
theorem scrH_none {b : Addr} (h : b ≠ a ∨ K.lookup a ≠ none) : scrH K a vs ns b = none := by
  cases e : scrH K a vs ns b with
  | none => rfl
  | some u =>
    obtain ⟨e1, e2, _⟩ := scrH_some e
    rcases h with h | h
    · exact absurd e1 h
    · exact absurd e2 h
theorem lawG (KX : K.In s₁.heap) (hns : s₁.heap.Ns mainGlobals mg) (hb : s₁.heap.Ns builtinsNs mb) (hbb : ∀ x : Str, x ≠ "__name__" → mb x = bootBuiltins x) (hlim : s₁.heap.NoLimit) (hg : s₁.gens = #[])
    (ha : s₁.heap.get? a = some (scrO vs)) (hi : IntsAre vs ns) (hl : ns.length ≤ sizeLine) (hr : Room k callerA)
    (F : ∀ base : Heap, K.In base → base.Ns mainGlobals mg → FnG P w K mg base k fa fd [x] sp) (hbind : ∀ (s : Shared) (u : Value), BindsTo s fd ⟨[u], []⟩ [(x, u)])
    (hsp : ∀ H : Hp, Only H → SqL K H a (ns.map V.int) → sp [.ref a] H (fun v _ => v = .bl true) fun _ _ _ => False) :
    codeAny (model P w) callerA (.call (.ref fa) ⟨[.ref a], []⟩) (fun r s' => r = .ok (.ret (.bool true)) ∧ OldK s₁.heap s'.heap ∧ s'.os = s₁.os ∧ AllBare s'.gens) s₁ := by
  have rv := vals_ints hi
  generalize hH : scrH K a vs ns = H
  have hO : Only H := fun b => by
    cases e : H b with
    | none => exact .inl rfl
    | some u =>
      rw [← hH] at e
      obtain ⟨_, _, rfl⟩ := scrH_some e
      exact .inr ⟨_, _, rfl⟩
  have hok : HOk P w H s₁.heap := fun b u e => by
    rw [← hH] at e
    obtain ⟨rfl, _, rfl⟩ := scrH_some e
    exact ⟨ha, by rw [List.length_map]; exact hl, vs, _, rv, ha⟩
  have hS : SqL K H a (ns.map V.int) := by
    cases hk : K.lookup a with
    | some o =>
      have e := KX a o hk
      rw [ha] at e
      cases e
      exact .inr ⟨_, vs.toArray, _, hk, rfl, rfl, rfl, by rw [List.size_toArray, hi.length]; exact hl, by simpa using rv⟩
    | none => exact .inl (.inr ⟨scrO vs, by rw [← hH]; exact if_pos ⟨rfl, hk⟩⟩)
  have ofData : ∀ {b : Addr} {o : Obj} {es : Array DictEntry} {ep : Nat}, s₁.heap.get? b = some o → o.data = .dict es ep → H b = none := fun {b o es ep} e d => by
    rw [← hH]
    refine scrH_none (.inl fun q => ?_)
    rw [q, ha] at e
    cases e
    have d' : Data.seq vs.toArray _ = Data.dict es ep := d
    cases d'
  have nsK : ∀ {b : Addr} {m : Str → Option Value}, s₁.heap.Ns b m → (hidT s₁.heap H).Ns b m := fun {b m} ⟨o, es, ep, e, d, r⟩ => ⟨o, es, ep, hidT_get e (ofData e d), d, r⟩
  have hKb : K.In (hidT s₁.heap H) := fun b o e => hidT_get (KX b o e) (by
    rw [← hH]
    by_cases q : b = a
    · refine scrH_none (.inr fun z => ?_)
      have e' : K.lookup b = some o := e
      rw [q, z] at e'
      cases e'
    · exact scrH_none (.inl q))
  have hM : Mod K mg (hidT s₁.heap H) := ⟨hKb, nsK hns, ⟨mb, nsK hb, hbb⟩, let ⟨mc, h1, h2⟩ := hlim; ⟨mc, nsK h1, h2⟩⟩
  have e0 : Env0 P w K mg (hidT s₁.heap H) callerA [] s₁ H := ⟨rfl, hM, fun b o e => of_hidT e, Nat.le_of_eq (hidT_size _ _), trivial, fun b hb => absurd hb List.not_mem_nil, hok, .of_eq hg⟩
  refine codeAny_mono ((F _ hKb (nsK hns)).run callerA [] s₁ H ⟨[.ref a], []⟩ [.ref a] [.ref a] _ _ rfl hr e0 (hbind s₁ (.ref a)) (.cons rfl .nil) (hsp H hO hS)) fun r s' h => ?_
  cases r with
  | error e => exact h.elim
  | ok fl =>
    cases fl with
    | next => exact False.elim h
    | brk => exact False.elim h
    | cont => exact False.elim h
    | ret u =>
      obtain ⟨v, H', os, bare, un, hok', r', q⟩ := h
      have q' : v = .bl true := q
      subst q'
      obtain rfl : u = Value.bool true := r'
      refine ⟨rfl, OldK.of_keep fun b o e => ?_, os, bare⟩
      cases q : H b with
      | none => exact un.keep b o e q List.not_mem_nil List.not_mem_nil
      | some u =>
        rcases hO b with z | ⟨ob, xs, z⟩
        · rw [q] at z; cases z
        · obtain ⟨e1, _⟩ := hok b _ z
          obtain ⟨e2, _⟩ := hok' b _ (un.frzs b ob _ z)
          rw [e] at e1; cases e1
          exact e2
end
/-- the goal that k_head leaves (case hc) -/
theorem walkG {l : PySem.W.OpenLaw} {n k : Nat} {q : Program} {loose : List Str} {XP : (Str → Option Value) → Heap → Prop} {YP : World → Heap → Prop} {d : DefRec} {K : Params → PySem.W.Frag} {sp : PySem.W.Frag → Sp} {x : Str}
    (hn : l.most = some n) (hn2 : n ≤ sizeLine) (hdf : d.params.defaults = []) (hr : Room k callerA)
    (hY : ∀ (w : World) (h : Heap), YP w h → (K w.params).In h)
    (F : ∀ (w : World) (mg : Str → Option Value) (fa : Addr) (h : Heap), (K w.params).In h → h.Ns mainGlobals mg → mg d.name = some (.ref fa) →
      ∃ fd : FuncData, (∀ (s : Shared) (u : Value), BindsTo s fd ⟨[u], []⟩ [(x, u)]) ∧
        ∀ base : Heap, (K w.params).In base → base.Ns mainGlobals mg → FnG l.prog w (K w.params) mg base k fa fd [x] (sp (K w.params)))
    (hsp : ∀ (w : World) (H : Hp) (a : Addr) (ns : List Int), ns.length ≤ n → Only H → SqL (K w.params) H a (ns.map V.int) → sp (K w.params) [.ref a] H (fun v _ => v = .bl true) fun _ _ _ => False) :
    PySem.W.WalkO q loose XP YP l.row.toRowW d [] (fun f vs => PySem.call f vs) := by
  refine Att.attach_call hn hdf fun w s₀ s₁ mg mb fa o pm cd doc a vs ns G Y ho hd hcd hmg hobj hints hlen hg => ?_
  have KX := hY w _ Y
  obtain ⟨fd, hb, hF⟩ := F w mg fa _ KX G.T.g hmg
  exact lawG KX G.T.g G.T.b G.T.builtins G.T.nolimit hg hobj hints (Nat.le_trans hlen hn2) hr hF hb fun H hO hS => hsp w H a ns hlen hO hS
end Xo

/-! The drawing of the law: court, call, one of. -/
namespace K01
open PySem PySem.Spec C8 Xo
open L2 hiding Fun CX0 pass0 E0
def top (i : Nat) : Stmt := PySem.Challenge.pw_bindertongue_k01_errors_keep_what_is_bou.main.body.getD i (.Pass ⟨0, 0, 0, 0⟩)
abbrev sCourt : Stmt := top 25
abbrev sCall : Stmt := top 26
abbrev sOne : Stmt := top 27
abbrev sLike : Stmt := top 28
abbrev sKeep : Stmt := top 29
abbrev sLaw : Stmt := top 30

theorem u1 {k : Nat} {A : Around} (r : Room k A) : A.units + 1 < cLine := by have := r.un; omega
def crt (r h : Int) : HO := .dK [(.inr "roll", .int r), (.inr "heap", .int h)]
def Crt (r h : Int) : Prop := 0 ≤ r ∧ r < 2305843009213693951 ∧ 0 ≤ h
/-- all but c kept -/
def But (c : Addr) (H H' : Hp) : Prop := ∀ b o, b ≠ c → H b = some o → H' b = some o
theorem But.of_same {c : Addr} {H H' : Hp} (h : Same H H') : But c H H' := fun b o _ e => h b o e
theorem But.trans {c : Addr} {H H1 H2 : Hp} (h1 : But c H H1) (h2 : But c H1 H2) : But c H H2 := fun b o n e => h2 b o n (h1 b o n e)
theorem But.refl {c : Addr} {H : Hp} : But c H H := fun _ _ _ e => e
theorem same_upd {H : Hp} {p : Addr} {o : HO} (h : H p = none) : Same H (upd H p o) := fun b u e => by
  rw [upd_ne (ne_of_none e h)]
  exact e
theorem but_upd {H : Hp} {p : Addr} {o : HO} : But p H (upd H p o) := fun b u n e => by rw [upd_ne n]; exact e

def spCall : Sp := fun vs H Q _ => ∃ (c : Addr) (r h m : Int), vs = [.ref c, .int m] ∧ H c = some (crt r h) ∧ Crt r h ∧ 0 < m ∧ m < 1073741824 ∧
  ∀ (H' : Hp) (v r' h' : Int), But c H H' → H' c = some (crt r' h') → Crt r' h' → 0 ≤ v → v < m → Q (.int v) H'
def spOne (K : PySem.W.Frag) : Sp := fun vs H Q _ => ∃ (c l : Addr) (r h : Int) (xs : List V), vs = [.ref c, .ref l] ∧ H c = some (crt r h) ∧ Crt r h ∧ H l = some (.lst xs) ∧ 0 < xs.length ∧ xs.length < 1000 ∧
  ∀ (H' : Hp) (i : Nat) (v : V) (r' h' : Int), But c H H' → H' c = some (crt r' h') → Crt r' h' → xs[i]? = some v → Q v H'

theorem get_heap {H : Hp} {c : Addr} {r h : Int} (e : H c = some (crt r h)) : DGet H c (.str "heap") (some (.int h)) := by
  have q := DGet.k (k := .inr "heap") e
  exact q
theorem get_roll {H : Hp} {c : Addr} {r h : Int} (e : H c = some (crt r h)) : DGet H c (.str "roll") (some (.int r)) := by
  have q := DGet.k (k := .inr "roll") e
  exact q
theorem put_heap {H : Hp} {c : Addr} {r h v : Int} (e : H c = some (crt r h)) : DPut H c (.str "heap") (.int v) (upd H c (crt r v)) := by
  have q := DPut.k (k := .inr "heap") (v := .int v) e (by rw [sizeLine_eq]; show 2 < _; omega)
  exact q
theorem put_roll {H : Hp} {c : Addr} {r h v : Int} (e : H c = some (crt r h)) : DPut H c (.str "roll") (.int v) (upd H c (crt v h)) := by
  have q := DPut.k (k := .inr "roll") (v := .int v) e (by rw [sizeLine_eq]; show 2 < _; omega)
  exact q
section
variable {P : Program} {w : World} {K : PySem.W.Frag} {mg : Str → Option Value} {base : Heap}
theorem scCall : FnScope ["court", "many", "number"] ["court", "many"] (fnScope sCall) := fnScope_by (by decide +kernel)
theorem ok_call {f : Addr} {fd : FuncData} (F : Fun K "_law_call" "_law_call" sCall f fd) (mD : mg "divmod" = none) (mI : mg "int" = none) : FnOk P w K mg base CX0 1 f fd ["court", "many"] spCall := by
  refine fn0 F scCall (fun vs H Q E h => ?_) (fun cdv A outer s H vs Q E hr h => ?_)
  · obtain ⟨c, r, h, m, rfl, _⟩ := h
    rfl
  · obtain ⟨c, r, h, m, rfl, hc, ⟨r0, r1, h0⟩, m0, m1, k⟩ := h
    refine ⟨_, pss_cons (ps_if (pt_cmpR op_gt (pe_dget (u1 hr) (pv 0) pe_str (fun _ _ => rfl)) pe_int (nomark _))
        (pss_cons (ps_asg (pe_callB call_divmod rfl mD PyProof.Rows.boot_divmod (pa_cons (pe_dget (u1 hr) (pv 0) pe_str (fun _ _ => rfl)) (pa_cons (pv 1) pa_nil)))
            (pg_tup rfl (pgs_cons (pg_sub (pv 0) pe_str (set_dict (u1 hr))) (pgs_cons (pg_name (i := 2) scCall.nd rfl (Or.inl rfl)) pgs_nil))))
          (pss_one (ps_ret (pv 2)))) pss_nil)
      (pss_cons (ps_asg (pe_op op_mod (pe_callTy call_int1 rfl mI PyProof.Rows.boot_int (pa_cons (pe_op op_add (pe_op op_mul (pe_dget (u1 hr) (pv 0) pe_str (fun _ _ => rfl)) pe_int) pe_int) pa_nil)) pe_int)
            (pg_sub (pv 0) pe_str (set_dict (u1 hr))))
        (pss_one (ps_ret (pe_op op_mod (pe_callTy call_int1 rfl mI PyProof.Rows.boot_int (pa_cons (pe_op op_fdiv (pe_dget (u1 hr) (pv 0) pe_str (fun _ _ => rfl)) pe_int) pa_nil)) (pv 1))))), ?_⟩
    refine ⟨.ref c, rfl, c, .int h, rfl, get_heap hc, h, 0, rfl, rfl, _, rfl, ?_⟩
    refine ite2 (fun hpos => ?_) (fun _ => ?_)
    · have hp : 0 < h := of_decide_eq_true hpos
      refine ⟨.ref c, rfl, c, .int h, rfl, get_heap hc, _, rfl, h, m, rfl, ⟨m0, m1⟩, fun p hp0 => ?_⟩
      have ncp : c ≠ p := ne_of_none hc hp0
      have hc1 : upd H p (.tup [.int (h / m), .int (h % m)]) c = some (crt r h) := by rw [upd_ne ncp]; exact hc
      refine ⟨p, _, rfl, SqT.of upd_same, rfl, _, _, rfl, .ref c, rfl, c, _, rfl, put_heap hc1, _, _, rfl, rfl, _, rfl, ?_⟩
      refine k _ (h % m) r (h / m) ((But.of_same (same_upd hp0)).trans but_upd) upd_same ⟨r0, r1, Int.ediv_nonneg h0 (by omega)⟩ (Int.emod_nonneg _ (by omega)) (Int.emod_lt_of_pos _ m0)
    · refine ⟨.ref c, rfl, c, _, rfl, get_roll hc, r, 2862933555777941757, rfl, rfl, .inl ⟨by omega, by omega⟩, _, 3037000493, rfl, rfl, .inl ⟨_, rfl, _, 2305843009213693951, rfl, rfl, (by show (0 : Int) < 2305843009213693951; decide), .ref c, rfl, c, _, rfl, put_roll hc, ?_⟩⟩
      have hc1 : upd H c (crt ((r * 2862933555777941757 + 3037000493) % 2305843009213693951) h) c = _ := upd_same
      refine ⟨.ref c, rfl, c, _, rfl, get_roll hc1, _, 50021, rfl, rfl, ⟨by decide, by decide⟩, .inl ⟨_, rfl, _, rfl, _, m, rfl, rfl, m0, ?_⟩⟩
      exact k _ _ _ h but_upd upd_same ⟨Int.emod_nonneg _ (by decide), Int.emod_lt_of_pos _ (by decide), h0⟩ (Int.emod_nonneg _ (by omega)) (Int.emod_lt_of_pos _ m0)

theorem scOne : FnScope ["court", "some"] ["court", "some"] (fnScope sOne) := fnScope_by (by decide +kernel)
theorem ok_one {f fc : Addr} {fd fdc : FuncData} (F : Fun K "_law_one_of" "_law_one_of" sOne f fd) (FC : FnOk P w K mg base CX0 1 fc fdc ["court", "many"] spCall) (mC : mg "_law_call" = some (.ref fc)) (kC : PySem.W.keepIn K (.ref fc) = true) (bC : Binds K fdc ["court", "many"] []) (mL : mg "len" = none) :
    FnOk P w K mg base CX0 2 f fd ["court", "some"] (spOne K) := by
  refine fn0 F scOne (fun vs H Q E h => ?_) (fun cdv A outer s H vs Q E hr h => ?_)
  · obtain ⟨c, l, r, h, xs, rfl, _⟩ := h
    rfl
  · obtain ⟨c, l, r, h, xs, rfl, hc, hC, hl, l0, l1, k⟩ := h
    refine ⟨_, pss_one (ps_ret (pe_ix ix_list (pv 1) (pe_call FC hr rfl mC kC bC .nil (pass0 (E := C8.E0)) (pa_cons (pv 0) (pa_cons (pe_callB call_len_seq (by rfl) mL PySem.boot_len (pa_cons (pv 1) pa_nil)) pa_nil))) (fun _ _ => rfl))), ?_⟩
    refine ⟨.ref l, rfl, .ref c, rfl, .ref l, rfl, l, xs, rfl, .inl (SqL.of hl), c, r, h, _, rfl, hc, hC, by omega, by omega, fun H' v r' h' bt hc' hC' v0 v1 => ?_⟩
    have nlc : l ≠ c := ne_of hl hc (by intro q; cases q)
    have hl' := bt _ _ nlc hl
    obtain ⟨i, rfl⟩ : ∃ i : Nat, v = i := ⟨v.toNat, by omega⟩
    have hi : i < xs.length := by omega
    exact ⟨l, xs, _, xs[i], rfl, rfl, SqL.of hl', atI_nat (List.getElem?_eq_getElem hi), k _ i _ _ _ bt hc' hC' (List.getElem?_eq_getElem hi)⟩

/-! ### the court -/
theorem cut_ints (ns : List Int) (lo hi : Option Int) : ∃ ms : List Int, cutV (ns.map V.int) lo hi = ms.map V.int ∧ ms.length ≤ ns.length := by
  refine ⟨(ns.drop (HT.sIx ns.length 0 lo)).take (HT.sIx ns.length ns.length hi - HT.sIx ns.length 0 lo), ?_, ?_⟩
  · unfold cutV
    rw [List.length_map, List.map_take, List.map_drop]
  · rw [List.length_take, List.length_drop]
    omega
theorem dp_ints {K : PySem.W.Frag} {H : Hp} : ∀ ns : List Int, DpAll K H (ns.map V.int) (ns.map PyData.int)
  | [] => .nil
  | n :: r => .cons (.int n) (dp_ints r)
theorem ints_at {ms : List Int} {i : Nat} {y : V} (h : (ms.map V.int)[i]? = some y) : ∃ n, y = V.int n := by
  rw [List.getElem?_map] at h
  cases e : ms[i]? with
  | none => rw [e] at h; cases h
  | some u => rw [e] at h; exact ⟨u, (Option.some.inj h).symm⟩
theorem shaped_ints (ns : List Int) : SeqAt.shaped (.list (ns.map PyData.int)) = true := by
  have h1 : ∀ ns : List Int, PyData.canLayAll0 (ns.map PyData.int) = true := fun ns => by
    induction ns with
    | nil => rfl
    | cons n r ih => show (true && PyData.canLayAll0 (r.map PyData.int)) = true; rw [ih]; rfl
  have h2 : ∀ ns : List Int, PyData.depthAll (ns.map PyData.int) = 0 := fun ns => by
    induction ns with
    | nil => rfl
    | cons n r ih => show max 0 (PyData.depthAll (r.map PyData.int)) = 0; rw [ih]; rfl
  have h3 : PyData.depth (.list (ns.map PyData.int)) ≤ 64 := by
    simp only [PyData.depth, h2]
    omega
  show (PyData.canLayAll0 (ns.map PyData.int) && decide (PyData.depth (.list (ns.map PyData.int)) ≤ 64)) = true
  rw [h1, decide_eq_true h3]
  rfl
def spCourt (K : PySem.W.Frag) : Sp := fun vs H Q _ => ∃ (a : Addr) (seat : Int) (ns : List Int), vs = [.ref a, .int seat] ∧ SqL K H a (ns.map V.int) ∧ ns.length ≤ 63 ∧ 0 ≤ seat ∧ seat ≤ 1 ∧
  ∀ (H' : Hp) (c : Addr) (r h : Int), Same H H' → H c = none → H' c = some (crt r h) → Crt r h → Q (.ref c) H'
theorem scCourt : FnScope ["cells", "seat", "roll", "nth", "cell", "own"] ["cells", "seat"] (fnScope sCourt) := fnScope_by (by decide +kernel)
theorem ok_court {f : Addr} {fd : FuncData} (F : Fun K "_law_court" "_law_court" sCourt f fd) (mE : mg "enumerate" = none) (mL : mg "list" = none) (mI : mg "int" = none) (mA : mg "abs" = none) :
    FnOk P w K mg base CX0 1 f fd ["cells", "seat"] (spCourt K) := by
  refine fn0 F scCourt (fun vs H Q E h => ?_) (fun cdv A outer s H vs Q E hr h => ?_)
  · obtain ⟨a, seat, ns, rfl, _⟩ := h
    rfl
  · obtain ⟨a, seat, ns, rfl, hS, hl, s0, s1, k⟩ := h
    refine ⟨_, pss_cons (ps_set (i := 2) scCourt.nd rfl (Or.inl rfl) (pe_op op_add pe_int (pe_op op_mul pe_int (pv 1))))
      (pss_cons (ps_for PassesOwn.never rfl (pi_enum (by rfl) mE (pa_cons (pe_slice sl_list (pe_callTy call_list_of rfl mL PyProof.Rows.boot_list (pa_cons (pv 0) pa_nil)) po_none (po_some pe_int)) pa_nil))
          (pg_tup rfl (pgs_cons (pg_name (i := 3) scCourt.nd rfl (Or.inl rfl)) (pgs_cons (pg_name (i := 4) scCourt.nd rfl (Or.inl rfl)) pgs_nil)))
          (pss_one (ps_set (i := 2) scCourt.nd rfl (Or.inl rfl) (pe_op op_mod (pe_callTy call_int1 rfl mI PyProof.Rows.boot_int (pa_cons (pe_op op_add (pe_op op_add (pe_op op_mul (pe_op op_add (pv 2) (pe_op op_mod (pe_callTy call_int1 rfl mI PyProof.Rows.boot_int (pa_cons (pv 4) pa_nil)) pe_int)) pe_int) (pe_op op_mul pe_int (pv 3))) pe_int) pa_nil)) pe_int))))
      (pss_cons (ps_setLc (i := 5) (own := [("cell", 4)]) (g := gName 4) rfl scCourt.nd rfl rfl (sw_true rfl rfl rfl (by decide +kernel)) (pi_list (pe_slice sl_list (pe_callTy call_list_of rfl mL PyProof.Rows.boot_list (pa_cons (pv 0) pa_nil)) (po_some (pv 1)) (po_some (pe_op op_add (pv 1) pe_int))))
          (blkOk_by (own := [("cell", 4)]) (N := ["cells", "seat", "roll", "nth", "cell", "own"]) (sc := fnScope sCourt) (by decide +kernel)) (fun _ _ _ _ _ => pg_name (i := 4) scCourt.nd rfl (Or.inl rfl))
          (fun _ _ _ _ _ => pts_one (pt_cmpR op_gt (pe_callB call_abs rfl mA PyProof.Rows.boot_abs (pa_cons (pe_callTy call_int1 rfl mI PyProof.Rows.boot_int (pa_cons (pv 4) pa_nil)) pa_nil)) (pe_op op_pow pe_int pe_int) (nomark _)))
          (fun _ _ _ _ _ => pe_callB call_abs rfl mA PyProof.Rows.boot_abs (pa_cons (pe_callTy call_int1 rfl mI PyProof.Rows.boot_int (pa_cons (pv 4) pa_nil)) pa_nil)))
      (pss_one (ps_ret (pe_disp (pps_cons pe_str (pv 2) (pps_cons pe_str (pe_ifExp (pt_cmpR (op_neD hr.units) (pv 5) (pe_lst pa_nil) (nomark _)) (pe_ix ix_list (pv 5) pe_int (fun _ _ => rfl)) pe_int) pps_nil)) rfl rfl (by simp) (by decide)))))), ?_⟩
    refine ⟨.int seat, rfl, 73, seat, rfl, rfl, .inl ⟨by omega, by omega⟩, 50129, _, rfl, rfl, ?_⟩
    refine ⟨.ref a, rfl, a, _, rfl, .inl hS, fun l hl0 => ⟨7, rfl, l, _, rfl, SqL.of upd_same, fun p hp0 => ?_⟩⟩
    obtain ⟨ms, em, lm⟩ := cut_ints ns none (some 7)
    rw [em]
    have S1 : Same H (upd (upd H l (.lst (ns.map V.int))) p (.lst (ms.map V.int))) := fun b o e => same_upd hp0 b o (same_upd hl0 b o e)
    generalize hH2 : upd (upd H l (.lst (ns.map V.int))) p (.lst (ms.map V.int)) = H2 at S1 ⊢
    have hp2 : H2 p = some (.lst (ms.map V.int)) := by rw [← hH2]; exact upd_same
    refine ⟨p, _, rfl, SqL.of hp2, for_it walk_enum (fun i σ H' => ∃ (r : Int) (v3 v4 : Option V), σ = [some (.ref a), some (.int seat), some (.int r), v3, v4, none] ∧ 0 ≤ r ∧ r < 2305843009213693951 ∧ Same H2 H')
      ⟨50129 + 73 * seat, none, none, rfl, by omega, by omega, fun _ _ e => e⟩ (fun i σ H' _ ⟨_, _, _, _, _, _, S⟩ => SqL.of (S _ _ hp2)) ?_ ?_⟩
    · rintro i v σ H3 H4 hi ⟨r, v3, v4, rfl, r0, r1, S⟩ ⟨T, x, y, rfl, hT, rfl, ex, ey⟩
      cases ex
      obtain ⟨n, rfl⟩ := ints_at ey
      refine ⟨T, _, rfl, SqT.of upd_same, rfl, _, _, rfl, _, _, rfl, rfl, ?_⟩
      refine ⟨.int r, rfl, .int n, rfl, .inl ⟨_, rfl, n, 122949833, rfl, rfl, (by show (0 : Int) < 122949833; decide), r, _, rfl, rfl, _, 2862933555777941757, rfl, rfl, .inr ⟨by decide, by decide⟩, ?_⟩⟩
      refine ⟨.int i, rfl, 15485863, i, rfl, rfl, .inl ⟨by decide, by decide⟩, _, _, rfl, rfl, _, 43, rfl, rfl, .inl ⟨_, rfl, _, 2305843009213693951, rfl, rfl, (by show (0 : Int) < 2305843009213693951; decide), ?_⟩⟩
      exact ⟨_, _, _, rfl, Int.emod_nonneg _ (by decide), Int.emod_lt_of_pos _ (by decide), fun b o e => same_upd hT b o (S b o e)⟩
    · rintro σ H3 ⟨r, v3, v4, rfl, r0, r1, S⟩
      -- own
      have S3 : Same H H3 := fun b o e => S b o (S1 b o e)
      refine ⟨.ref a, rfl, a, _, rfl, .inl (S3.seq hS), fun l2 hl2 => ⟨.int seat, rfl, seat, rfl, .int seat, rfl, seat, 1, rfl, rfl, _, rfl, l2, _, rfl, SqL.of upd_same, fun p2 hp3 => ?_⟩⟩
      obtain ⟨os, eo, lo⟩ := cut_ints ns (some seat) (some (seat + 1))
      rw [eo]
      have S4 : Same H (upd (upd H3 l2 (.lst (ns.map V.int))) p2 (.lst (os.map V.int))) := fun b o e => same_upd hp3 b o (same_upd hl2 b o (S3 b o e))
      generalize hH4 : upd (upd H3 l2 (.lst (ns.map V.int))) p2 (.lst (os.map V.int)) = H4 at S4 ⊢
      have hp4 : H4 p2 = some (.lst (os.map V.int)) := by rw [← hH4]; exact upd_same
      refine ⟨p2, rfl, ⟨_, SqL.of hp4⟩, fun D hD => ?_⟩
      refine lc_it walk_list (fun i H' => ∃ acc : List Int, H' D = some (.lst (acc.map V.int)) ∧ (∀ x ∈ acc, 0 ≤ x) ∧ acc.length ≤ i ∧ Same H4 H')
        ⟨[], upd_same, fun _ h => absurd h List.not_mem_nil, Nat.le_refl _, same_upd hD⟩ (fun i H' _ ⟨_, _, _, _, S⟩ => SqL.of (S _ _ hp4)) ?_ ?_
      · rintro i v H5 H6 hi ⟨acc, hacc, pos, la, S⟩ ⟨rfl, ev⟩
        obtain ⟨n, rfl⟩ := ints_at ev
        have hi' : i < 63 := by rw [List.length_map] at hi; omega
        refine ⟨rfl, .int n, rfl, .inl ⟨n, rfl, n, rfl, 10, 13, rfl, rfl, ⟨by decide, by decide, by decide⟩, _, _, rfl, rfl, _, rfl, ?_⟩⟩
        refine ite2 (fun _ => ?_) (fun _ => ⟨acc, hacc, pos, by omega, S⟩)
        refine ⟨.int n, rfl, .inl ⟨n, rfl, n, rfl, acc.map V.int, hacc, by rw [List.length_map, sizeLine_eq]; omega, acc ++ [if n < 0 then -n else n], ?_, ?_, ?_, ?_⟩⟩
        · rw [upd_same, List.map_append]
          rfl
        · intro x hx
          rcases List.mem_append.mp hx with hx | hx
          · exact pos x hx
          · rw [List.mem_singleton.mp hx]
            split <;> omega
        · rw [List.length_append, List.length_singleton]
          omega
        · intro b o e
          rw [upd_ne (ne_of_none e hD)]
          exact S b o e
      · rintro H5 ⟨acc, hacc, pos, la, S⟩
        have S5 : Same H H5 := fun b o e => S b o (S4 b o e)
        -- the dict
        refine fun c hc => ⟨.int r, rfl, .ref D, rfl, by rw [sizeLine_eq]; exact Nat.zero_le _, fun q hq => ?_⟩
        have nDc : D ≠ c := ne_of_none hacc hc
        have hDc : upd H5 c (.dK []) D = some (.lst (acc.map V.int)) := by rw [upd_ne nDc]; exact hacc
        have nDq : D ≠ q := ne_of_none hDc hq
        have ncq : c ≠ q := fun z => by rw [← z, upd_same] at hq; cases hq
        have hD6 : upd (upd H5 c (.dK [])) q (.lst []) D = some (.lst (acc.map V.int)) := by rw [upd_ne nDq]; exact hDc
        have hc6 : upd (upd H5 c (.dK [])) q (.lst []) c = some (.dK []) := by rw [upd_ne ncq]; exact upd_same
        have S6 : Same H (upd (upd (upd H5 c (.dK [])) q (.lst [])) c (crt r 0)) → True := fun _ => trivial
        have fin : ∀ h0 : Int, 0 ≤ h0 → Q (.ref c) (upd (upd (upd H5 c (.dK [])) q (.lst [])) c (crt r h0)) := fun h0 hp => by
          refine k _ c r h0 (fun b o e => ?_) ?_ upd_same ⟨r0, r1, hp⟩
          · have e5 := S5 _ _ e
            have nbc : b ≠ c := ne_of_none e5 hc
            have e6 : upd H5 c (.dK []) b = some o := by rw [upd_ne nbc]; exact e5
            rw [upd_ne nbc, upd_ne (ne_of_none e6 hq)]
            exact e6
          · cases z : H c with
            | none => rfl
            | some o => rw [S5 _ _ z] at hc; cases hc
        refine ⟨.list (acc.map PyData.int), .list [], .lst (SqL.of hD6) (dp_ints acc), .lst (SqL.of upd_same) .nil, shaped_ints acc, by decide, ?_⟩
        cases acc with
        | nil => exact ⟨false, rfl, hc6, [(.inr "roll", .int r), (.inr "heap", .int 0)], rfl, Nat.le_of_ble_eq_true rfl, fin 0 (by decide)⟩
        | cons n rest => exact ⟨true, rfl, .ref D, rfl, D, _, 0, .int n, rfl, rfl, SqL.of hD6, atI_nat (j := 0) rfl, hc6, [(.inr "roll", .int r), (.inr "heap", .int n)], rfl, Nat.le_of_ble_eq_true rfl, fin n (pos n List.mem_cons_self)⟩

/-! ### like -/
def spLike : Sp := fun vs H Q _ => ∃ (a b : Addr) (d : PyData), vs = [.ref a, .ref b] ∧ Sh H a d ∧ Sh H b d ∧ d.showable = true ∧ d.depth ≤ 60 ∧ d.shown.length ≤ sizeLine ∧ Q (.bl true) H
theorem scLike : FnScope ["seen", "due"] ["seen", "due"] (fnScope sLike) := fnScope_by (by decide +kernel)
theorem ok_like {f : Addr} {fd : FuncData} (F : Fun K "_law_like" "_law_like" sLike f fd) (mR : mg "repr" = none) : FnG P w K mg base 1 f fd ["seen", "due"] spLike := by
  refine fnG F scLike (fun vs H Q E h => ?_) (fun cdv A outer s H vs Q E hG hr h => ?_)
  · obtain ⟨a, b, d, rfl, _⟩ := h
    rfl
  · obtain ⟨a, b, d, rfl, ha, hb, h1, h2, h3, k⟩ := h
    refine ⟨_, pss_one (ps_ret (pe_cmpR op_eq (pe_callB (call_rep hG hr.units) rfl mR PyProof.Rows.boot_repr (pa_cons (pv 0) pa_nil)) (pe_callB (call_rep hG hr.units) rfl mR PyProof.Rows.boot_repr (pa_cons (pv 1) pa_nil)) (nomark _))), ?_⟩
    refine ⟨.ref a, rfl, a, d, rfl, ha, h1, h2, h3, .ref b, rfl, b, d, rfl, hb, h1, h2, h3, rfl, ?_⟩
    rw [decide_eq_true rfl]
    exact k

/-! ### the law -/
def spKeep : Sp := fun vs H Q _ => ∃ (c : Addr) (r h : Int), vs = [.ref c] ∧ H c = some (crt r h) ∧ Crt r h ∧ ∀ H' : Hp, But c H H' → Q (.bl true) H'
def spLaw (K : PySem.W.Frag) : Sp := fun vs H Q _ => ∃ (a : Addr) (ns : List Int), vs = [.ref a] ∧ SqL K H a (ns.map V.int) ∧ Only H ∧ ns.length ≤ 63 ∧ ∀ H' : Hp, Q (.bl true) H'
theorem scLaw : FnScope ["cells"] ["cells"] (fnScope sLaw) := fnScope_by (by decide +kernel)
theorem ok_law {f fc fk : Addr} {fd fdc fdk : FuncData} (F : Fun K "law" "law" sLaw f fd) (FC : FnOk P w K mg base CX0 1 fc fdc ["cells", "seat"] (spCourt K)) (mC : mg "_law_court" = some (.ref fc)) (kC : PySem.W.keepIn K (.ref fc) = true) (bC : Binds K fdc ["cells", "seat"] [])
    (FK : FnG P w K mg base 3 fk fdk ["court"] spKeep) (mK : mg "_law_do_keep" = some (.ref fk)) (kK : PySem.W.keepIn K (.ref fk) = true) (bK : Binds K fdk ["court"] []) : FnG P w K mg base 4 f fd ["cells"] (spLaw K) := by
  refine fnG F scLaw (fun vs H Q E h => ?_) (fun cdv A outer s H vs Q E hG hr h => ?_)
  · obtain ⟨a, ns, rfl, _⟩ := h
    rfl
  · obtain ⟨a, ns, rfl, hS, hO, hl, k⟩ := h
    have hr1 := hr.mono (show 1 ≤ 3 by decide)
    refine ⟨_, pss_one (ps_ret (pe_and (pe_callG FK hG hr rfl mK kK bK (pa_cons (pe_call FC hr1 rfl mC kC bC .nil (pass0 (E := C8.E0)) (pa_cons (pv 0) (pa_cons pe_int pa_nil))) pa_nil))
      (pe_one (pe_callG FK hG hr rfl mK kK bK (pa_cons (pe_call FC hr1 rfl mC kC bC .nil (pass0 (E := C8.E0)) (pa_cons (pv 0) (pa_cons pe_int pa_nil))) pa_nil))))), ?_⟩
    refine ⟨.ref a, rfl, a, 0, ns, rfl, hS, hl, by decide, by decide, fun H1 c r h S1 hn hc hC => ?_⟩
    refine ⟨c, r, h, rfl, hc, hC, fun H2 B => ⟨true, rfl, ?_⟩⟩
    refine ite2 (fun _ => ?_) (fun z => absurd rfl z)
    have S2 : Same H H2 := fun b o e => B b o (ne_of_none e hn) (S1 b o e)
    refine ⟨.ref a, rfl, a, 1, ns, rfl, S2.seq hS, hl, by decide, by decide, fun H3 c' r' h' S3 hn' hc' hC' => ?_⟩
    exact ⟨c', r', h', rfl, hc', hC', fun H4 _ => k H4⟩
end
end K01

/-! Own errors made and read, as lists. -/
namespace K01
open PySem PySem.Spec C8 Xo
open L2 hiding Fun CX0 pass0 E0
/-- what is known of each error class: it is read as one, it stands under CB and Exception -/
structure Ecl (K : PySem.W.Frag) (CB C : Addr) : Prop where
  xf : XfC K C
  sB : PySem.W.subIn K (.ref C) (.ref CB) = some true
  sE : PySem.W.subIn K (.ref C) (.type "Exception") = some true
/-- .. as it is called -/
structure Er (K : PySem.W.Frag) (mg : Str → Option Value) (x : Str) (CB C : Addr) : Prop where
  cl : Ecl K CB C
  hC : PySem.W.excInitIn K C mroX "Exception.__new__" = true
  kC : PySem.W.keepIn K (.ref C) = true
  gC : mg x = some (.ref C)
/-- one without an __init__ of its own -/
structure Er0 (K : PySem.W.Frag) (mg : Str → Option Value) (x : Str) (CB C : Addr) : Prop extends Er K mg x CB C where
  hf : PySem.W.findIn K (.ref C) "__init__" = some (some (.builtin "Exception.__init__"))
/-- one that keeps g -/
structure Er1 (P : Program) (K : PySem.W.Frag) (mg : Str → Option Value) (x g : Str) (CB C : Addr) : Prop extends Er K mg x CB C where
  ini : ∃ fI : Addr, PySem.W.findIn K (.ref C) "__init__" = some (some (.ref fI)) ∧ PySem.W.isFn K (.ref fI) = true ∧ (∀ w u, IniRuns P w K mg C fI [u] [] [(g, u)]) ∧ ∀ w u, IniRuns P w K mg C fI [] [(g, u)] [(g, u)]
  no : PySem.W.findIn K (.ref C) g = some none
/-- one that keeps f, g -/
structure Er2 (P : Program) (K : PySem.W.Frag) (mg : Str → Option Value) (x f g : Str) (CB C : Addr) : Prop extends Er K mg x CB C where
  ini : ∃ fI : Addr, PySem.W.findIn K (.ref C) "__init__" = some (some (.ref fI)) ∧ PySem.W.isFn K (.ref fI) = true ∧ (∀ w u v, IniRuns P w K mg C fI [u, v] [] [(g, v), (f, u)]) ∧ ∀ w u v, IniRuns P w K mg C fI [] [(g, v), (f, u)] [(g, v), (f, u)]
  noF : PySem.W.findIn K (.ref C) f = some none
  noG : PySem.W.findIn K (.ref C) g = some none

/-- u is an error of the class at C with these fields -/
def ErrIs (H : Hp) (u : V) (C : Addr) (fs : List (Str × V)) : Prop := ∃ a d, u = .ref a ∧ H a = some (exo a C (some d)) ∧ H d = some (exd d fs)
/-- what the errors do not live in -/
def Flat (o : HO) : Prop := (∃ xs, o = .lst xs) ∨ ∃ kvs, o = .dK kvs
theorem flat_exo {a C : Addr} {d : Option Addr} {o : HO} (h : Flat o) : o ≠ exo a C d := by
  rintro rfl
  rcases h with ⟨_, h⟩ | ⟨_, h⟩ <;> cases h
theorem flat_exd {a : Addr} {fs : List (Str × V)} {o : HO} (h : Flat o) : o ≠ exd a fs := by
  rintro rfl
  rcases h with ⟨_, h⟩ | ⟨_, h⟩ <;> cases h
theorem ErrIs.same {H H' : Hp} {u : V} {C : Addr} {fs : List (Str × V)} (h : ErrIs H u C fs) (S : Same H H') : ErrIs H' u C fs := by
  obtain ⟨a, d, e, h1, h2⟩ := h
  exact ⟨a, d, e, S _ _ h1, S _ _ h2⟩
theorem ErrIs.but {H H' : Hp} {u : V} {C c : Addr} {fs : List (Str × V)} {o : HO} (h : ErrIs H u C fs) (B : But c H H') (hc : H c = some o) (fl : Flat o) : ErrIs H' u C fs := by
  obtain ⟨a, d, e, h1, h2⟩ := h
  exact ⟨a, d, e, B _ _ (ne_of h1 hc fun z => flat_exo fl z.symm) h1, B _ _ (ne_of h2 hc fun z => flat_exd fl z.symm) h2⟩
/-- n errors that keep v as g -/
def Ers (K : PySem.W.Frag) (CB : Addr) (g : Str) (v : V) (H : Hp) (n : Nat) (us : List V) : Prop := us.length = n ∧ ∀ u ∈ us, ∃ C, Ecl K CB C ∧ PySem.W.findIn K (.ref C) g = some none ∧ ErrIs H u C [(g, v)]
section
variable {K : PySem.W.Frag} {CB : Addr} {g : Str} {v : V} {H H' : Hp} {n m : Nat} {us vs : List V}
theorem Ers.same (h : Ers K CB g v H n us) (S : Same H H') : Ers K CB g v H' n us := ⟨h.1, fun u hu => let ⟨C, e, no, x⟩ := h.2 u hu; ⟨C, e, no, x.same S⟩⟩
theorem Ers.but {c : Addr} {o : HO} (h : Ers K CB g v H n us) (B : But c H H') (hc : H c = some o) (fl : Flat o) : Ers K CB g v H' n us := ⟨h.1, fun u hu => let ⟨C, e, no, x⟩ := h.2 u hu; ⟨C, e, no, x.but B hc fl⟩⟩
theorem Ers.nil : Ers K CB g v H 0 [] := ⟨rfl, fun _ h => absurd h List.not_mem_nil⟩
theorem Ers.append (h : Ers K CB g v H n us) (h' : Ers K CB g v H m vs) : Ers K CB g v H (n + m) (us ++ vs) := ⟨by rw [List.length_append, h.1, h'.1], fun u hu => (List.mem_append.mp hu).elim (h.2 u) (h'.2 u)⟩
end

/-- one error that keeps slot i as g -/
def tE1 (C : Addr) (g : Str) (i : Nat) : TE := fun σ H Q => ∃ v, σ[i]? = some (some v) ∧ ∀ (H' : Hp) (u : V), Same H H' → ErrIs H' u C [(g, v)] → Q u H'
def tE2 (C : Addr) (f g : Str) (i j : Nat) : TE := fun σ H Q => ∃ u v, σ[i]? = some (some u) ∧ σ[j]? = some (some v) ∧ ∀ (H' : Hp) (z : V), Same H H' → ErrIs H' z C [(g, v), (f, u)] → Q z H'
def tE0 (C : Addr) : TE := fun _ H Q => ∀ (H' : Hp) (a : Addr), Same H H' → ErrAt H' a C → Q (.ref a) H'
theorem PE.weak {X : Cx} {e : PySem.Expr} {t t' : TE} (h : PE X e t) (w : ∀ σ H Q, t' σ H Q → t σ H Q) : PE X e t' := ⟨fun pins s σ H Q I hq => h.run pins s σ H Q I (w σ H Q hq)⟩
theorem same_two {H : Hp} {a d : Addr} {o u : HO} (ha : H a = none) (hd : H d = none) : Same H (upd (upd H d u) a o) := fun b x e => by
  rw [upd_ne (ne_of_none e ha), upd_ne (ne_of_none e hd)]
  exact e
theorem rel1 {g f : Str} {v : V} {u : Value} (r : RelV v u) : RelO (List.lookup f [(g, v)]) (List.lookup f [(g, u)]) := by
  cases q : (f == g) with
  | true => simp [List.lookup, q]; exact r
  | false => simp [List.lookup, q]; trivial
theorem rel2 {g h f : Str} {v v2 : V} {u u2 : Value} (r : RelV v u) (r2 : RelV v2 u2) : RelO (List.lookup f [(g, v), (h, v2)]) (List.lookup f [(g, u), (h, u2)]) := by
  cases q : (f == g) with
  | true => simp [List.lookup, q]; exact r
  | false =>
    have := rel1 (g := h) (f := f) r2
    simpa [List.lookup, q] using this
section
variable {X : Cx} {C CB : Addr} {x y z f g : Str} {p q q2 k1 k2 pos : Pos} {i j : Nat}
abbrev ff1 (g : Str) {α : Type} : List α → List (Str × α) := fun us => us.map fun u => (g, u)
abbrev ff2 (f g : Str) {α : Type} : List α → List (Str × α) := fun us => match us with | [u, v] => [(g, v), (f, u)] | _ => []
theorem relff1 (g : Str) : ∀ (vs : List V) (us : List Value), Vals vs us → vs.length = 1 → ∀ f, RelO ((ff1 g vs).lookup f) ((ff1 g us).lookup f)
  | [v], [u], .cons r _, _, f => rel1 r
theorem relff2 (f g : Str) : ∀ (vs : List V) (us : List Value), Vals vs us → vs.length = 2 → ∀ n, RelO ((ff2 f g vs).lookup n) ((ff2 f g us).lookup n)
  | [v, v2], [u, u2], .cons r (.cons r2 _), _, n => rel2 r2 r
abbrev fk2 (g f : Str) {α : Type} : List α → List (Str × α) := fun us => match us with | [v, u] => [(g, v), (f, u)] | _ => []
theorem relfk2 (g f : Str) : ∀ (vs : List V) (us : List Value), Vals vs us → vs.length = 2 → ∀ n, RelO ((fk2 g f vs).lookup n) ((fk2 g f us).lookup n)
  | [v, v2], [u, u2], .cons r (.cons r2 _), _, n => rel2 r r2
theorem pe_e1 (T : Er1 X.prog X.K X.mg x g CB C) (hr : Room 2 X.A) (hs : X.mg "super" = none) (hg : Gl X x) (ha : PE X (.Name y q) (tVar i)) (hdb : (x == ("__debug__" : Str)) = false := by decide)
    (he : starEach [PySem.Expr.Name y q] X.env = (false, eval (.Name y q) X.env) :: starEach [] X.env := by rfl) (hpl : (backTo pos (starEach [] X.env)).any (·.1) = false := by rfl) :
    PE X (.Call (.Name x p) [.Name y q] [] pos) (tE1 C g i) := by
  obtain ⟨fI, hf, hF, ini, _⟩ := T.ini
  refine PE.weak (pe_mkP (n := 1) (ff := ff1 g) (fV := ff1 g) T.hC hf hF T.kC hg T.gC (fun us hl => ?_) (relff1 g) (by decide) hr hs (pa_cons ha pa_nil) hdb he hpl) fun σ H Q h => ?_
  · match us, hl with
    | [u], _ => exact ini _ u
  · obtain ⟨v, hv, k⟩ := h
    refine ⟨v, hv, rfl, fun a d ha hd ne => k _ _ (same_two ha hd) ⟨a, d, rfl, upd_same, ?_⟩⟩
    rw [upd_ne ne]
    exact upd_same
theorem pe_k1 (T : Er1 X.prog X.K X.mg x g CB C) (hr : Room 2 X.A) (hs : X.mg "super" = none) (hg : Gl X x) (ha : PE X (.Name y q) (tVar i)) (hdb : (x == ("__debug__" : Str)) = false := by decide)
    (hall : (backToKw pos (keywordEach [⟨some g, .Name y q, k1⟩] X.env)).all (·.1.isSome) = true := by rfl) (hks : (backToKw pos (keywordEach [⟨some g, .Name y q, k1⟩] X.env)).filterMap (·.1) = [g] := by rfl)
    (hpl : ((backTo pos (starEach [] X.env)).any (·.1) || (backToKw pos (keywordEach [⟨some g, .Name y q, k1⟩] X.env)).any (·.1.isNone)) = false := by rfl) :
    PE X (.Call (.Name x p) [] [⟨some g, .Name y q, k1⟩] pos) (tE1 C g i) := by
  obtain ⟨fI, hf, hF, _, ini⟩ := T.ini
  refine PE.weak (pe_mkK (n := 1) (ks := [g]) (ff := ff1 g) (fV := ff1 g) T.hC hf hF T.kC hg T.gC (fun us hl => ?_) (relff1 g) hr hs (pk_cons ha pk_nil) hall hks hdb hpl) fun σ H Q h => ?_
  · match us, hl with
    | [u], _ => exact ini _ u
  · obtain ⟨v, hv, k⟩ := h
    refine ⟨v, hv, rfl, fun a d ha hd ne => k _ _ (same_two ha hd) ⟨a, d, rfl, upd_same, ?_⟩⟩
    rw [upd_ne ne]
    exact upd_same
theorem pe_e2 (T : Er2 X.prog X.K X.mg x f g CB C) (hr : Room 2 X.A) (hs : X.mg "super" = none) (hg : Gl X x) (ha : PE X (.Name y q) (tVar i)) (hb : PE X (.Name z q2) (tVar j)) (hdb : (x == ("__debug__" : Str)) = false := by decide)
    (he : starEach [PySem.Expr.Name y q, .Name z q2] X.env = (false, eval (.Name y q) X.env) :: starEach [.Name z q2] X.env := by rfl) (hpl : (backTo pos (starEach [.Name z q2] X.env)).any (·.1) = false := by rfl) :
    PE X (.Call (.Name x p) [.Name y q, .Name z q2] [] pos) (tE2 C f g i j) := by
  obtain ⟨fI, hf, hF, ini, _⟩ := T.ini
  refine PE.weak (pe_mkP (n := 2) (ff := ff2 f g) (fV := ff2 f g) T.hC hf hF T.kC hg T.gC (fun us hl => ?_) (relff2 f g) (by decide) hr hs (pa_cons ha (pa_cons hb pa_nil)) hdb he hpl) fun σ H Q h => ?_
  · match us, hl with
    | [u, v], _ => exact ini _ u v
  · obtain ⟨u, v, hu, hv, k⟩ := h
    refine ⟨u, hu, v, hv, rfl, fun a d ha hd ne => k _ _ (same_two ha hd) ⟨a, d, rfl, upd_same, ?_⟩⟩
    rw [upd_ne ne]
    exact upd_same
/-- by names, the later parameter first: j names f's value -/
theorem pe_k2 (T : Er2 X.prog X.K X.mg x f g CB C) (hr : Room 2 X.A) (hs : X.mg "super" = none) (hg : Gl X x) (ha : PE X (.Name y q) (tVar i)) (hb : PE X (.Name z q2) (tVar j)) (hdb : (x == ("__debug__" : Str)) = false := by decide)
    (hall : (backToKw pos (keywordEach [⟨some g, .Name y q, k1⟩, ⟨some f, .Name z q2, k2⟩] X.env)).all (·.1.isSome) = true := by rfl) (hks : (backToKw pos (keywordEach [⟨some g, .Name y q, k1⟩, ⟨some f, .Name z q2, k2⟩] X.env)).filterMap (·.1) = [g, f] := by rfl)
    (hpl : ((backTo pos (starEach [] X.env)).any (·.1) || (backToKw pos (keywordEach [⟨some g, .Name y q, k1⟩, ⟨some f, .Name z q2, k2⟩] X.env)).any (·.1.isNone)) = false := by rfl) :
    PE X (.Call (.Name x p) [] [⟨some g, .Name y q, k1⟩, ⟨some f, .Name z q2, k2⟩] pos) (tE2 C f g j i) := by
  obtain ⟨fI, hf, hF, _, ini⟩ := T.ini
  refine PE.weak (pe_mkK (n := 2) (ks := [g, f]) (ff := fk2 g f) (fV := fk2 g f) T.hC hf hF T.kC hg T.gC (fun us hl => ?_) (relfk2 g f) hr hs (pk_cons ha (pk_cons hb pk_nil)) hall hks hdb hpl) fun σ H Q h => ?_
  · match us, hl with
    | [v, u], _ => exact ini _ u v
  · obtain ⟨u, v, hu, hv, k⟩ := h
    refine ⟨v, hv, u, hu, rfl, fun a d ha hd ne => k _ _ (same_two ha hd) ⟨a, d, rfl, upd_same, ?_⟩⟩
    rw [upd_ne ne]
    exact upd_same
theorem pe_e0 (T : Er0 X.K X.mg x CB C) (hg : Gl X x) (hdb : (x == ("__debug__" : Str)) = false := by decide) : PE X (.Call (.Name x p) [] [] pos) (tE0 C) := by
  refine PE.weak (pe_mkB T.hC T.hf T.kC hg T.gC hdb) fun σ H Q k a ha => k _ a (same_upd ha) ⟨none, upd_same⟩
end

/-! ### lists of them -/
def tAll (g : Str) (i : Nat) : List Addr → TA
  | [] => tNil
  | C :: r => tCons (tE1 C g i) (tAll g i r)
section
variable {K : PySem.W.Frag} {CB : Addr} {g : Str} {i j n : Nat} {v : V} {σ : L2.St} {H : Hp} {Cs : List Addr}
theorem all_of (hv : σ[i]? = some (some v)) : ∀ (Cs : List Addr) (H : Hp) (Q : List V → Hp → Prop), (∀ C ∈ Cs, Ecl K CB C ∧ PySem.W.findIn K (.ref C) g = some none) →
    (∀ (H' : Hp) (us : List V), Same H H' → Ers K CB g v H' Cs.length us → Q us H') → tAll g i Cs σ H Q
  | [], H, Q, _, k => k H [] (Same.refl H) Ers.nil
  | C :: r, H, Q, hc, k => ⟨v, hv, fun H1 u S1 e1 => all_of hv r H1 _ (fun D hD => hc D (List.mem_cons_of_mem _ hD)) fun H2 us S2 e2 => k H2 (u :: us) (S1.trans S2)
      ⟨by rw [List.length_cons, List.length_cons, e2.1], fun x hx => (List.mem_cons.mp hx).elim (fun z => ⟨C, (hc C List.mem_cons_self).1, (hc C List.mem_cons_self).2, by rw [z]; exact e1.same S2⟩) (e2.2 x)⟩⟩
/-- [e, ..] -/
theorem lst_es {Q : VK} (hv : σ[i]? = some (some v)) (hc : ∀ C ∈ Cs, Ecl K CB C ∧ PySem.W.findIn K (.ref C) g = some none) (hz : Cs.length ≤ 1000)
    (k : ∀ (H' : Hp) (p : Addr) (us : List V), Same H H' → H p = none → H' p = some (.lst us) → Ers K CB g v H' Cs.length us → Q (.ref p) H') : tLst (tAll g i Cs) σ H Q := by
  refine all_of hv Cs H _ hc fun H' us S e => ⟨by rw [e.1, sizeLine_eq]; omega, fun p hp => k _ p us (fun b o x => same_upd hp b o (S b o x)) ?_ upd_same (e.same (same_upd hp))⟩
  cases z : H p with
  | none => rfl
  | some o => rw [S _ _ z] at hp; cases hp
/-- b + [e, ..] -/
theorem cat_es {Q : VK} {b : Addr} {xs : List V} (hb : σ[j]? = some (some (.ref b))) (hbl : H b = some (.lst xs)) (ex : Ers K CB g v H n xs) (hv : σ[i]? = some (some v)) (hc : ∀ C ∈ Cs, Ecl K CB C ∧ PySem.W.findIn K (.ref C) g = some none) (hz : n + Cs.length ≤ 1000)
    (k : ∀ (H' : Hp) (p : Addr) (us : List V), Same H H' → H' p = some (.lst us) → Ers K CB g v H' (n + Cs.length) us → Q (.ref p) H') : tOp rCat (tVar j) (tLst (tAll g i Cs)) σ H Q := by
  refine ⟨_, hb, lst_es hv hc (by omega) fun H1 p1 us S1 hn1 hp1 e1 => ⟨b, p1, xs, us, rfl, rfl, S1 _ _ hbl, hp1, by rw [ex.1, e1.1, sizeLine_eq]; omega, fun p hp => ?_⟩⟩
  exact k _ p _ (fun c o x => same_upd hp c o (S1 c o x)) upd_same ((ex.same S1).append e1 |>.same (same_upd hp))
/-- [e.g for e in b] -/
theorem lc_es {Q : VK} {b : Addr} {xs : List V} {ie : Nat} (hne : ie < σ.length) (hb : σ[j]? = some (some (.ref b))) (hbl : H b = some (.lst xs)) (ex : Ers K CB g v H n xs) (hz : n ≤ 1000)
    (k : ∀ (H' : Hp) (p : Addr), Same H H' → H' p = some (.lst (List.replicate n v)) → Q (.ref p) H') : tLc (iList K (tVar j)) (gName ie) tYes (tFldX K g (tVar ie)) [ie] σ H Q := by
  refine ⟨_, hb, b, rfl, ⟨_, SqL.of hbl⟩, fun D hD => ?_⟩
  refine lc_it walk_list (fun i H' => H' D = some (.lst (List.replicate i v)) ∧ Same H H') ⟨upd_same, same_upd hD⟩ (fun i H' _ h => SqL.of (h.2 _ _ hbl)) ?_ ?_
  · rintro m u H1 H2 hm ⟨h1, S⟩ ⟨rfl, eu⟩
    obtain ⟨C, ec, no, a, d, rfl, ha, hd⟩ := ex.2 u (List.mem_of_getElem? eu)
    refine ⟨?_, ?_⟩
    · show wipe (((wipe σ [ie]).set ie (some (V.ref a)))) [ie] = wipe σ [ie]
      simp [wipe]
    · refine ⟨.ref a, ?_, a, C, d, [(g, v)], v, rfl, ec.xf, no, S _ _ ha, S _ _ hd, ?_, List.replicate m v, h1, ?_, ?_, ?_⟩
      · show ((wipe σ [ie]).set ie (some (V.ref a)))[ie]? = _
        simp [wipe, hne]
      · simp [List.lookup]
      · rw [List.length_replicate, sizeLine_eq]; rw [ex.1] at hm; omega
      · rw [upd_same, List.replicate_succ']
      · intro c o x
        rw [upd_ne (ne_of_none x hD)]
        exact S c o x
  · rintro H1 ⟨h1, S⟩
    rw [ex.1] at h1
    exact k _ D S h1
end
section
variable {X : Cx} {C CB : Addr} {x y g : Str} {p q k1 pos : Pos} {i : Nat} {es : List PySem.Expr} {Cs : List Addr}
theorem pa_e1 (T : Er1 X.prog X.K X.mg x g CB C) (hr : Room 2 X.A) (hs : X.mg "super" = none) (hg : Gl X x) (ha : PE X (.Name y q) (tVar i)) (h : PA X es (tAll g i Cs)) (hdb : (x == ("__debug__" : Str)) = false := by decide)
    (he : starEach [PySem.Expr.Name y q] X.env = (false, eval (.Name y q) X.env) :: starEach [] X.env := by rfl) (hpl : (backTo pos (starEach [] X.env)).any (·.1) = false := by rfl)
    (hs2 : starEach (PySem.Expr.Call (.Name x p) [.Name y q] [] pos :: es) X.env = (false, eval (.Call (.Name x p) [.Name y q] [] pos) X.env) :: starEach es X.env := by rfl) :
    PA X (.Call (.Name x p) [.Name y q] [] pos :: es) (tAll g i (C :: Cs)) := pa_cons (pe_e1 T hr hs hg ha hdb he hpl) h hs2
theorem pa_k1 (T : Er1 X.prog X.K X.mg x g CB C) (hr : Room 2 X.A) (hs : X.mg "super" = none) (hg : Gl X x) (ha : PE X (.Name y q) (tVar i)) (h : PA X es (tAll g i Cs)) (hdb : (x == ("__debug__" : Str)) = false := by decide)
    (hall : (backToKw pos (keywordEach [⟨some g, .Name y q, k1⟩] X.env)).all (·.1.isSome) = true := by rfl) (hks : (backToKw pos (keywordEach [⟨some g, .Name y q, k1⟩] X.env)).filterMap (·.1) = [g] := by rfl)
    (hpl : ((backTo pos (starEach [] X.env)).any (·.1) || (backToKw pos (keywordEach [⟨some g, .Name y q, k1⟩] X.env)).any (·.1.isNone)) = false := by rfl)
    (hs2 : starEach (PySem.Expr.Call (.Name x p) [] [⟨some g, .Name y q, k1⟩] pos :: es) X.env = (false, eval (.Call (.Name x p) [] [⟨some g, .Name y q, k1⟩] pos) X.env) :: starEach es X.env := by rfl) :
    PA X (.Call (.Name x p) [] [⟨some g, .Name y q, k1⟩] pos :: es) (tAll g i (C :: Cs)) := pa_cons (pe_k1 T hr hs hg ha hdb hall hks hpl) h hs2
end
end K01

/-! The seal: the values that the law binds in errors, and that their texts are short. -/
namespace K01
open PySem PySem.Spec C8 Xo
open L2 hiding Fun CX0 pass0 E0
inductive SlO : HO → V → PyData → Prop
  | non (o : HO) : SlO o .non .none
  | i1 (o : HO) : SlO o (.int 37) (.int 37)
  | st (o : HO) : SlO o (.str "name") (.str "name")
  | t0 (a : Addr) : SlO (.tup []) (.ref a) (.tuple [])
  | t1 (a : Addr) : SlO (.tup [.int 1, .int 3]) (.ref a) (.tuple [.int 1, .int 3])
  | dk (a : Addr) : SlO (.dK [(.inr "k", .int 0)]) (.ref a) (.dict [(.str "k", .int 0)])
  | bt (o : HO) : SlO o (.bl true) (.bool true)
  | i2 (o : HO) : SlO o (.int (-23)) (.int (-23))
  | i3 (o : HO) : SlO o (.int (10 ^ 18)) (.int (10 ^ 18))
  | l9 (a : Addr) : SlO (.lst [.int 9]) (.ref a) (.list [.int 9])
  | t2 (a : Addr) : SlO (.tup [.str "a", .int 2]) (.ref a) (.tuple [.str "a", .int 2])
def Sl (H : Hp) (x : V) (d : PyData) : Prop := ∃ o : HO, SlO o x d ∧ ∀ a, x = .ref a → H a = some o
theorem Sl.dq {H : Hp} {x : V} {d : PyData} (h : Sl H x d) : Dq H x d := by
  obtain ⟨o, s, e⟩ := h
  cases s with
  | non => exact .non
  | i1 => exact .int _
  | st => exact .str _
  | t0 a => exact .tup (e a rfl) .nil
  | t1 a => exact .tup (e a rfl) (.cons (.int _) (.cons (.int _) .nil))
  | dk a => exact .dic (e a rfl)
  | bt => exact .bl _
  | i2 => exact .int _
  | i3 => exact .int _
  | l9 a => exact .lst (e a rfl) (.cons (.int _) .nil)
  | t2 a => exact .tup (e a rfl) (.cons (.str _) (.cons (.int _) .nil))
theorem Sl.sh {H : Hp} {x : V} {d : PyData} {q : Addr} (h : Sl H x d) (hq : H q = some (.lst (List.replicate 19 x))) : Sh H q (.list (List.replicate 19 d)) := by
  have hd := h.dq
  obtain ⟨o, s, e⟩ := h
  cases s
  case dk a => exact .inr ⟨18, a, "k", 0, hq, e a rfl, rfl⟩
  all_goals exact .inl ⟨.lst hq (DqAll.rep hd 19), rfl⟩
theorem Sl.same {H H' : Hp} {x : V} {d : PyData} (h : Sl H x d) (S : Same H H') : Sl H' x d := by
  obtain ⟨o, s, e⟩ := h
  exact ⟨o, s, fun a z => S _ _ (e a z)⟩
theorem Sl.but {H H' : Hp} {x : V} {d : PyData} {c : Addr} {oc : HO} (h : Sl H x d) (B : But c H H') (hc : H c = some oc) (no : ∀ a d, ¬ SlO oc (.ref a) d) : Sl H' x d := by
  obtain ⟨o, s, e⟩ := h
  refine ⟨o, s, fun a z => B _ _ (fun q => ?_) (e a z)⟩
  subst z
  have e1 := e a rfl
  rw [q, hc] at e1
  cases e1
  exact no _ _ s
theorem no_nil (a : Addr) (d : PyData) : ¬ SlO (.lst []) (.ref a) d := fun h => by cases h
theorem no_crt (r h : Int) (a : Addr) (d : PyData) : ¬ SlO (crt r h) (.ref a) d := fun h => by
  unfold crt at h
  cases h
def fits (d : PyData) : Bool := d.showable && decide (d.depth ≤ 60) && decide (d.shown.length ≤ 10000)
theorem of_fits {d : PyData} (h : fits d = true) : d.showable = true ∧ d.depth ≤ 60 ∧ d.shown.length ≤ sizeLine := by
  obtain ⟨h1, h3⟩ := Bool.and_eq_true_iff.mp h
  obtain ⟨h1, h2⟩ := Bool.and_eq_true_iff.mp h1
  exact ⟨h1, of_decide_eq_true h2, Nat.le_trans (of_decide_eq_true h3) (by rw [sizeLine_eq]; decide)⟩
theorem SlO.fits {o : HO} {x : V} {d : PyData} (h : SlO o x d) : fits (.list (List.replicate 19 d)) = true := by
  cases h <;> decide +kernel
theorem num_fits : ∀ n : Nat, n < 90 → fits (.list (List.replicate 19 (.list [.int n]))) = true := by decide +kernel
theorem sl_at {H : Hp} {t0 t1 dk l9 t2 : Addr} (h0 : H t0 = some (.tup [])) (h1 : H t1 = some (.tup [.int 1, .int 3])) (hd : H dk = some (.dK [(.inr "k", .int 0)])) (h9 : H l9 = some (.lst [.int 9])) (h2 : H t2 = some (.tup [.str "a", .int 2])) :
    ∀ (i : Nat) (v : V), ([.non, .int 37, .str "name", .ref t0, .ref t1, .ref dk, .bl true, .int (-23), .int (10 ^ 18), .ref l9, .ref t2] : List V)[i]? = some v → ∃ d, Sl H v d := by
  have lf : ∀ {o : HO} {a b : Addr}, H a = some o → V.ref a = .ref b → H b = some o := fun e z => by cases z; exact e
  intro i v h
  match i, h with
  | 0, h => cases h; exact ⟨_, .lst [], .non _, fun _ z => nomatch z⟩
  | 1, h => cases h; exact ⟨_, .lst [], .i1 _, fun _ z => nomatch z⟩
  | 2, h => cases h; exact ⟨_, .lst [], .st _, fun _ z => nomatch z⟩
  | 3, h => cases h; exact ⟨_, _, .t0 _, fun _ z => lf h0 z⟩
  | 4, h => cases h; exact ⟨_, _, .t1 _, fun _ z => lf h1 z⟩
  | 5, h => cases h; exact ⟨_, _, .dk _, fun _ z => lf hd z⟩
  | 6, h => cases h; exact ⟨_, .lst [], .bt _, fun _ z => nomatch z⟩
  | 7, h => cases h; exact ⟨_, .lst [], .i2 _, fun _ z => nomatch z⟩
  | 8, h => cases h; exact ⟨_, .lst [], .i3 _, fun _ z => nomatch z⟩
  | 9, h => cases h; exact ⟨_, _, .l9 _, fun _ z => lf h9 z⟩
  | 10, h => cases h; exact ⟨_, _, .t2 _, fun _ z => lf h2 z⟩
  | n + 11, h => simp at h
end K01

namespace K01
open PySem PySem.Spec C8 Xo
open L2 hiding Fun CX0 pass0 E0
/-- all are such errors -/
def Eal (K : PySem.W.Frag) (CB : Addr) (H : Hp) (us : List V) : Prop := ∀ u ∈ us, ∃ a C, u = .ref a ∧ ErrAt H a C ∧ Ecl K CB C
theorem Eal.same {K : PySem.W.Frag} {CB : Addr} {H H' : Hp} {us : List V} (h : Eal K CB H us) (S : Same H H') : Eal K CB H' us := fun u hu =>
  let ⟨a, C, e, ⟨d, x⟩, c⟩ := h u hu; ⟨a, C, e, ⟨d, S _ _ x⟩, c⟩
theorem Eal.ers {K : PySem.W.Frag} {CB : Addr} {H : Hp} {us : List V} {g : Str} {v : V} {n : Nat} (h : Ers K CB g v H n us) : Eal K CB H us := fun u hu =>
  let ⟨C, e, _, a, d, r, x, _⟩ := h.2 u hu; ⟨a, C, r, ⟨_, x⟩, e⟩
theorem Eal.append {K : PySem.W.Frag} {CB : Addr} {H : Hp} {us vs : List V} (h : Eal K CB H us) (h' : Eal K CB H vs) : Eal K CB H (us ++ vs) := fun u hu => (List.mem_append.mp hu).elim (h u) (h' u)
theorem Eal.nil {K : PySem.W.Frag} {CB : Addr} {H : Hp} : Eal K CB H [] := fun _ h => absurd h List.not_mem_nil
theorem Eal.cons {K : PySem.W.Frag} {CB C a : Addr} {H : Hp} {us : List V} (x : ErrAt H a C) (e : Ecl K CB C) (h : Eal K CB H us) : Eal K CB H (.ref a :: us) := fun u hu =>
  (List.mem_cons.mp hu).elim (fun z => ⟨a, C, z, x, e⟩) (h u)
theorem errAt_same {H H' : Hp} {a C : Addr} (h : ErrAt H a C) (S : Same H H') : ErrAt H' a C := let ⟨d, x⟩ := h; ⟨d, S _ _ x⟩
/-- [e for e in b if it is not such an error] -/
theorem lc_none {K : PySem.W.Frag} {CB : Addr} {σ : L2.St} {H : Hp} {Q : VK} {b : Addr} {xs : List V} {j ie : Nat} (isC : PySem.W.isClsIn K CB = true) (tyC : PySem.W.typeIn K (.ref CB) = some (.type "type")) (hne : ie < σ.length) (hb : σ[j]? = some (some (.ref b))) (hbl : H b = some (.lst xs)) (ex : Eal K CB H xs)
    (k : ∀ (H' : Hp) (p : Addr), Same H H' → H' p = some (.lst []) → Q (.ref p) H') :
    tLc (iList K (tVar j)) (gName ie) (tOr (tNot (tB (tCB (rIsX K) (tCons (tVar ie) (tCons (tC (.ref CB)) tNil))))) (tNot (tB (tCB (rIsX K) (tCons (tVar ie) (tCons (tC (.ty "Exception")) tNil)))))) (tVar ie) [ie] σ H Q := by
  refine ⟨_, hb, b, rfl, ⟨_, SqL.of hbl⟩, fun D hD => ?_⟩
  refine lc_it walk_list (fun i H' => H' D = some (.lst []) ∧ Same H H') ⟨upd_same, same_upd hD⟩ (fun i H' _ h => SqL.of (h.2 _ _ hbl)) ?_ ?_
  · rintro m u H1 H2 hm ⟨h1, S⟩ ⟨rfl, eu⟩
    obtain ⟨a, C, rfl, xa, ec⟩ := ex u (List.mem_of_getElem? eu)
    have eu' : ((wipe σ [ie]).set ie (some (V.ref a)))[ie]? = some (some (V.ref a)) := by simp [wipe, hne]
    refine ⟨?_, ?_⟩
    · show wipe (((wipe σ [ie]).set ie (some (V.ref a)))) [ie] = wipe σ [ie]
      simp [wipe]
    · refine ⟨.ref a, eu', a, C, .ref CB, .ref CB, rfl, errAt_same xa S, fun u r => r, ec.sB, .inl ⟨CB, rfl, isC, tyC⟩, true, rfl, ?_⟩
      refine ite2 (fun z => absurd z (by decide)) (fun _ => ?_)
      refine ⟨.ref a, eu', a, C, .ty "Exception", .type "Exception", rfl, errAt_same xa S, fun u r => r, ec.sE, .inr rfl, true, rfl, ?_⟩
      exact ite2 (fun z => absurd z (by decide)) (fun _ => ⟨h1, S⟩)
  · rintro H1 ⟨h1, S⟩
    exact k _ D S h1
end K01

/-! What the law asks of one court. -/
namespace K01
open PySem PySem.Spec C8 Xo
open L2 hiding Fun CX0 pass0 E0
/-- where the classes stand -/
structure Ad where
  (CB NW BA DE TX BK KI TR NA JU TU PA RO TG TB CO NU LI DK TW NE NR IR : Addr)
/-- what is known of the text -/
structure Txt (P : Program) (K : PySem.W.Frag) (mg : Str → Option Value) (A : Ad) : Prop where
  cb : Er0 K mg "BinderError" A.CB A.CB
  nw : Er2 P K mg "NotWellRead" "row" "word" A.CB A.NW
  ba : Er1 P K mg "Barred" "reason" A.CB A.BA
  de : Er1 P K mg "InvalidDeed" "index" A.CB A.DE
  tx : Er1 P K mg "InvalidText" "given" A.CB A.TX
  bk : Er1 P K mg "InvalidBook" "given" A.CB A.BK
  ki : Er1 P K mg "InvalidKind" "given" A.CB A.KI
  tr : Er1 P K mg "InvalidTree" "given" A.CB A.TR
  na : Er1 P K mg "InvalidName" "given" A.CB A.NA
  ju : Er1 P K mg "InvalidJudge" "given" A.CB A.JU
  tu : Er1 P K mg "InvalidTurner" "given" A.CB A.TU
  pa : Er1 P K mg "InvalidPath" "given" A.CB A.PA
  ro : Er1 P K mg "InvalidRow" "given" A.CB A.RO
  tg : Er1 P K mg "InvalidTarget" "given" A.CB A.TG
  tb : Er1 P K mg "InvalidTable" "given" A.CB A.TB
  co : Er1 P K mg "InvalidCode" "given" A.CB A.CO
  nu : Er1 P K mg "InvalidNumber" "given" A.CB A.NU
  li : Er1 P K mg "InvalidLine" "given" A.CB A.LI
  dk : Er1 P K mg "NotADesk" "given" A.CB A.DK
  tw : Er0 K mg "TooWide" A.CB A.TW
  ne : Er0 K mg "Never" A.CB A.NE
  nr : Er0 K mg "NotRight" A.CB A.NR
  ir : Er0 K mg "IsRight" A.CB A.IR
  isCB : PySem.W.isClsIn K A.CB = true
  tyCB : PySem.W.typeIn K (.ref A.CB) = some (.type "type")
theorem boot_Exc : bootBuiltins "Exception" = some (.type "Exception") := by decide +kernel
def nKeep : List Str := ["court", "scroll", "seal", "bare", "named", "pairs", "held", "every", "e"]
theorem scKeep : FnScope nKeep ["court"] (fnScope sKeep) := fnScope_by (by decide +kernel)
section
variable {P : Program} {w : World} {K : PySem.W.Frag} {mg : Str → Option Value} {base : Heap} {A : Ad}
theorem _root_.K01.Er1.c {P : Program} {K : PySem.W.Frag} {mg : Str → Option Value} {x g : Str} {CB C : Addr} (T : Er1 P K mg x g CB C) : Ecl K CB C ∧ PySem.W.findIn K (.ref C) g = some none := ⟨T.cl, T.no⟩
theorem ac {p : Addr → Prop} {a : Addr} {l : List Addr} (h : p a) (r : ∀ C ∈ l, p C) : ∀ C ∈ a :: l, p C := fun C hC => (List.mem_cons.mp hC).elim (fun e => by rw [e]; exact h) (r C)
theorem an {p : Addr → Prop} : ∀ C ∈ ([] : List Addr), p C := fun _ h => absurd h List.not_mem_nil
theorem seq_set {te : TE} {i : Nat} {u : TS} {D : Ends} {σ : L2.St} {H : Hp} (σ' : V → L2.St) (hσ : ∀ x, σ.set i (some x) = σ' x) (h : te σ H fun x H1 => u D (σ' x) H1) : tSeq (tAsg te (gName i)) u D σ H := by
  have e : te σ H fun x H1 => u D (σ.set i (some x)) H1 := by
    simp only [hσ]
    exact h
  exact e
theorem ret_go {te : TE} {D : Ends} {σ : L2.St} {H : Hp} (h : te σ H D.rt) : tRet te D σ H := h
theorem next_go {D : Ends} {σ : L2.St} {H : Hp} (h : D.nx σ H) : tNext D σ H := h
theorem go7 {te : TE} {u : TS} {r : VK} {n0 : L2.St → Hp → Prop} {σ : L2.St} {H : Hp} (h : tSeq (tAsg te (gName 7)) u { nx := n0, rt := r } σ H) : ({ nx := tSeq (tAsg te (gName 7)) u { nx := n0, rt := r }, rt := r } : Ends).nx σ H := h
theorem seq_drop {te : TE} {u : TS} {D : Ends} {σ : L2.St} {H : Hp} (h : te σ H fun _ H1 => u D σ H1) : tSeq (tDrop te) u D σ H := h
theorem seq_if {tc : TT} {t u v : TS} {D : Ends} {σ : L2.St} {H : Hp} (h : tc σ H fun b H1 => if b = true then t { D with nx := v D } σ H1 else u { D with nx := v D } σ H1) : tSeq (tIfS tc t u) v D σ H := h
theorem op_go {r : R2} {ta tb : TE} {σ : L2.St} {H : Hp} {Q : VK} (h : ta σ H fun x H1 => tb σ H1 fun y H2 => r x y H2 Q) : tOp r ta tb σ H Q := h
theorem _root_.Xo.Dq.rep' {H : Hp} {v : V} {d : PyData} (h : Dq H v d) (n : Nat) : DqAll H (List.replicate n v) (List.replicate n d) := DqAll.rep h n
theorem pa_n1 {X : Cx} {g : Str} {i : Nat} : PA X [] (tAll g i []) := pa_nil
set_option maxHeartbeats 0 in
theorem ok_keep {f fo fc fl : Addr} {fd fdo fdc fdl : FuncData} (F : Fun K "_law_do_keep" "_law_do_keep" sKeep f fd) (T : Txt P K mg A)
    (FO : FnOk P w K mg base CX0 2 fo fdo ["court", "some"] (spOne K)) (mO : mg "_law_one_of" = some (.ref fo)) (kO : PySem.W.keepIn K (.ref fo) = true) (bO : Binds K fdo ["court", "some"] [])
    (FC : FnOk P w K mg base CX0 1 fc fdc ["court", "many"] spCall) (mC : mg "_law_call" = some (.ref fc)) (kC : PySem.W.keepIn K (.ref fc) = true) (bC : Binds K fdc ["court", "many"] [])
    (FL : FnG P w K mg base 1 fl fdl ["seen", "due"] spLike) (mLk : mg "_law_like" = some (.ref fl)) (kLk : PySem.W.keepIn K (.ref fl) = true) (bLk : Binds K fdl ["seen", "due"] [])
    (mS : mg "super" = none) (mLen : mg "len" = none) (mIs : mg "isinstance" = none) (mEx : mg "Exception" = none) : FnG P w K mg base 3 f fd ["court"] spKeep := by
  refine fnG F scKeep (fun vs H Q E h => ?_) (fun cdv A' outer s H vs Q E hG hr h => ?_)
  · obtain ⟨c, r, h, rfl, _⟩ := h
    rfl
  · obtain ⟨c, r, h, rfl, hc, hC, k⟩ := h
    have hr1 := hr.mono (show 1 ≤ 2 by decide)
    refine ⟨_, (pss_cons (ps_par (i := 1) (j := 2) (by rfl) scKeep.nd rfl rfl (by decide) rfl rfl (pa_cons (pe_lst pa_nil) (pa_cons (pe_call FO hr rfl mO kO bO .nil (pass0 (E := C8.E0)) (pa_cons (pv 0) (pa_cons (pe_lst (pa_cons pe_non (pa_cons pe_int (pa_cons pe_str (pa_cons (pe_tup pa_nil) (pa_cons (pe_tup (pa_cons pe_int (pa_cons pe_int pa_nil))) (pa_cons (pe_disp (pps_cons pe_str pe_int pps_nil) rfl rfl (by simp) (by decide)) (pa_cons pe_bl (pa_cons (pe_un un_neg pe_int) (pa_cons (pe_op op_pow pe_int pe_int) (pa_cons (pe_lst (pa_cons pe_int pa_nil)) (pa_cons (pe_tup (pa_cons pe_str (pa_cons pe_int pa_nil))) pa_nil)))))))))))) pa_nil))) pa_nil)) (by rfl))
      (pss_cons (ps_set (i := 3) scKeep.nd rfl (Or.inl rfl) (pe_lst (pa_e1 T.tx hr mS rfl (pv 1) (pa_e1 T.bk hr mS rfl (pv 1) (pa_e1 T.ki hr mS rfl (pv 1) (pa_e1 T.tr hr mS rfl (pv 1) (pa_e1 T.na hr mS rfl (pv 1) pa_n1)))))))
      (pss_cons (ps_set (i := 3) scKeep.nd rfl (Or.inl rfl) (pe_op op_cat (pv 3) (pe_lst (pa_e1 T.ju hr mS rfl (pv 1) (pa_e1 T.tu hr mS rfl (pv 1) (pa_e1 T.pa hr mS rfl (pv 1) (pa_e1 T.ro hr mS rfl (pv 1) pa_n1)))))))
      (pss_cons (ps_set (i := 3) scKeep.nd rfl (Or.inl rfl) (pe_op op_cat (pv 3) (pe_lst (pa_e1 T.tg hr mS rfl (pv 1) (pa_e1 T.tb hr mS rfl (pv 1) (pa_e1 T.co hr mS rfl (pv 1) (pa_e1 T.nu hr mS rfl (pv 1) pa_n1)))))))
      (pss_cons (ps_set (i := 3) scKeep.nd rfl (Or.inl rfl) (pe_op op_cat (pv 3) (pe_lst (pa_e1 T.li hr mS rfl (pv 1) (pa_e1 T.dk hr mS rfl (pv 1) pa_n1)))))
      (pss_cons (ps_set (i := 4) scKeep.nd rfl (Or.inl rfl) (pe_lst (pa_k1 T.tx hr mS rfl (pv 2) (pa_k1 T.bk hr mS rfl (pv 2) (pa_k1 T.ki hr mS rfl (pv 2) (pa_k1 T.tr hr mS rfl (pv 2) pa_n1))))))
      (pss_cons (ps_set (i := 4) scKeep.nd rfl (Or.inl rfl) (pe_op op_cat (pv 4) (pe_lst (pa_k1 T.na hr mS rfl (pv 2) (pa_k1 T.ju hr mS rfl (pv 2) (pa_k1 T.tu hr mS rfl (pv 2) pa_n1))))))
      (pss_cons (ps_set (i := 4) scKeep.nd rfl (Or.inl rfl) (pe_op op_cat (pv 4) (pe_lst (pa_k1 T.pa hr mS rfl (pv 2) (pa_k1 T.ro hr mS rfl (pv 2) (pa_k1 T.tg hr mS rfl (pv 2) pa_n1))))))
      (pss_cons (ps_set (i := 4) scKeep.nd rfl (Or.inl rfl) (pe_op op_cat (pv 4) (pe_lst (pa_k1 T.tb hr mS rfl (pv 2) (pa_k1 T.co hr mS rfl (pv 2) (pa_k1 T.nu hr mS rfl (pv 2) pa_n1))))))
      (pss_cons (ps_set (i := 4) scKeep.nd rfl (Or.inl rfl) (pe_op op_cat (pv 4) (pe_lst (pa_k1 T.li hr mS rfl (pv 2) (pa_k1 T.dk hr mS rfl (pv 2) pa_n1)))))
      (pss_cons (ps_set (i := 5) scKeep.nd rfl (Or.inl rfl) (pe_lst (pa_cons (pe_e2 T.nw hr mS rfl (pv 1) (pv 2)) (pa_cons (pe_k2 T.nw hr mS rfl (pv 1) (pv 2)) (pa_cons (pe_e1 T.ba hr mS rfl (pv 1)) (pa_cons (pe_k1 T.ba hr mS rfl (pv 2)) pa_nil))))))
      (pss_cons (ps_set (i := 5) scKeep.nd rfl (Or.inl rfl) (pe_op op_cat (pv 5) (pe_lst (pa_cons (pe_e1 T.de hr mS rfl (pv 1)) (pa_cons (pe_k1 T.de hr mS rfl (pv 2)) pa_nil)))))
      (pss_cons (ps_expr (pe_bm PySem.F.plainAttrs_list PySem.F.slot_list_append PySem.F.type_list_append mt_append (pv 1) (pa_cons (pe_call FC hr1 rfl mC kC bC .nil (pass0 (E := C8.E0)) (pa_cons (pv 0) (pa_cons pe_int pa_nil))) pa_nil)))
      (pss_cons (ps_set (i := 6) scKeep.nd rfl (Or.inl rfl) (pe_op op_cat (pe_lc (own := [("e", 8)]) (g := gName 8) (tt := tYes) (te := tFldX K "given" (tVar 8)) rfl scKeep.nd (pi_list (pv 3)) (blkOk_by (own := [("e", 8)]) (N := nKeep) (sc := fnScope sKeep) (by decide +kernel)) (fun _ _ _ _ _ => pg_name (i := 8) scKeep.nd rfl (Or.inl rfl)) (fun _ _ _ _ _ => pts_nil) (fun _ _ _ _ _ => pe_fldX (f := "given") (pv 8))) (pe_lst (pa_cons (pe_fldX (f := "row") (pe_ix ix_list (pv 5) pe_int (fun _ _ => rfl))) (pa_cons (pe_fldX (f := "word") (pe_ix ix_list (pv 5) pe_int (fun _ _ => rfl))) (pa_cons (pe_fldX (f := "reason") (pe_ix ix_list (pv 5) pe_int (fun _ _ => rfl))) (pa_cons (pe_fldX (f := "index") (pe_ix ix_list (pv 5) pe_int (fun _ _ => rfl))) pa_nil)))))))
      (pss_cons (ps_if (PW.pt (pw_or (pt_not (pt_val (pe_callG FL hG hr1 rfl mLk kLk bLk (pa_cons (pv 6) (pa_cons (pe_op op_rep (pe_lst (pa_cons (pv 1) pa_nil)) pe_int) pa_nil))))) (pw_or1 (pt_cmpR op_ne (pe_callB call_len_seq (by rfl) mLen PySem.boot_len (pa_cons (pv 1) pa_nil)) pe_int (nomark _))))) (pss_one (ps_ret pe_bl)) pss_nil)
      (pss_cons (ps_set (i := 6) scKeep.nd rfl (Or.inl rfl) (pe_op op_cat (pe_lc (own := [("e", 8)]) (g := gName 8) (tt := tYes) (te := tFldX K "given" (tVar 8)) rfl scKeep.nd (pi_list (pv 4)) (blkOk_by (own := [("e", 8)]) (N := nKeep) (sc := fnScope sKeep) (by decide +kernel)) (fun _ _ _ _ _ => pg_name (i := 8) scKeep.nd rfl (Or.inl rfl)) (fun _ _ _ _ _ => pts_nil) (fun _ _ _ _ _ => pe_fldX (f := "given") (pv 8))) (pe_lst (pa_cons (pe_fldX (f := "word") (pe_ix ix_list (pv 5) pe_int (fun _ _ => rfl))) (pa_cons (pe_fldX (f := "row") (pe_ix ix_list (pv 5) pe_int (fun _ _ => rfl))) (pa_cons (pe_fldX (f := "reason") (pe_ix ix_list (pv 5) pe_int (fun _ _ => rfl))) (pa_cons (pe_fldX (f := "index") (pe_ix ix_list (pv 5) pe_int (fun _ _ => rfl))) pa_nil)))))))
      (pss_cons (ps_if (pt_not (pt_val (pe_callG FL hG hr1 rfl mLk kLk bLk (pa_cons (pv 6) (pa_cons (pe_op op_rep (pe_lst (pa_cons (pv 2) pa_nil)) pe_int) pa_nil))))) (pss_one (ps_ret pe_bl)) pss_nil)
      (pss_cons (ps_set (i := 7) scKeep.nd rfl (Or.inl rfl) (pe_op op_cat (pe_op op_cat (pe_op op_cat (pv 3) (pv 4)) (pv 5)) (pe_lst (pa_cons (pe_e0 T.tw rfl) (pa_cons (pe_e0 T.ne rfl) (pa_cons (pe_e0 T.nr rfl) (pa_cons (pe_e0 T.ir rfl) (pa_cons (pe_e0 T.cb rfl) pa_nil))))))))
      (pss_one (ps_ret (pe_cmpR (op_eqD hr.units) (pe_lc (own := [("e", 8)]) (g := gName 8) (tt := tOr (tNot (tB (tCB (rIsX K) (tCons (tVar 8) (tCons (tC (.ref A.CB)) tNil))))) (tNot (tB (tCB (rIsX K) (tCons (tVar 8) (tCons (tC (.ty "Exception")) tNil)))))) (te := tVar 8) rfl scKeep.nd (pi_list (pv 7)) (blkOk_by (own := [("e", 8)]) (N := nKeep) (sc := fnScope sKeep) (by decide +kernel)) (fun _ _ _ _ _ => pg_name (i := 8) scKeep.nd rfl (Or.inl rfl)) (fun _ _ _ _ _ => pts_one (PW.pt (pw_or (pt_not (pt_val (pe_callB call_isX rfl mIs PyProof.Rows.boot_isinstance (pa_cons (pv 8) (pa_cons (pe_glob (v := .ref A.CB) rfl T.cb.gC rfl) pa_nil))))) (pw_or1 (pt_not (pt_val (pe_callB call_isX rfl mIs PyProof.Rows.boot_isinstance (pa_cons (pv 8) (pa_cons (pe_bltn (v := .ty "Exception") rfl mEx boot_Exc rfl) pa_nil))))))))) (fun _ _ _ _ _ => pv 8)) (pe_lst pa_nil) (nomark _)))))))))))))))))))))), ?_⟩
    -- scroll, seal
    have B : Same H H := Same.refl H
    refine ⟨Nat.zero_le _, fun s hs => ?_⟩
    have S := same_upd (o := .lst []) hs
    have es : upd H s (.lst []) s = some (.lst []) := upd_same
    generalize upd H s (.lst []) = H1 at S es ⊢
    replace B := B.trans S
    clear S
    refine ⟨.ref c, rfl, ?_⟩
    refine ⟨Nat.zero_le _, fun t0 ht0 => ?_⟩
    have S := same_upd (o := .tup []) ht0
    have e0 : upd H1 t0 (.tup []) t0 = some (.tup []) := upd_same
    generalize upd H1 t0 (.tup []) = H2 at S e0 ⊢
    replace B := B.trans S
    replace es := S _ _ es
    clear S
    refine ⟨(by rw [sizeLine_eq]; decide), fun t1 ht1 => ?_⟩
    have S := same_upd (o := .tup [.int 1, .int 3]) ht1
    have e1 : upd H2 t1 (.tup [.int 1, .int 3]) t1 = some (.tup [.int 1, .int 3]) := upd_same
    generalize upd H2 t1 (.tup [.int 1, .int 3]) = H3 at S e1 ⊢
    replace B := B.trans S
    replace es := S _ _ es
    replace e0 := S _ _ e0
    clear S
    refine fun dk hdk => ⟨upd_same, [(.inr "k", .int 0)], rfl, by decide, ?_⟩
    rw [upd_upd]
    have ek0 : mergeK [] [((.inr "k" : Key), V.int 0)] = [(.inr "k", .int 0)] := rfl
    rw [ek0]
    have S := same_upd (o := .dK [(.inr "k", .int 0)]) hdk
    have ek : upd H3 dk (.dK [(.inr "k", .int 0)]) dk = some (.dK [(.inr "k", .int 0)]) := upd_same
    generalize upd H3 dk (.dK [(.inr "k", .int 0)]) = H4 at S ek ⊢
    replace B := B.trans S
    replace es := S _ _ es
    replace e0 := S _ _ e0
    replace e1 := S _ _ e1
    clear S
    refine ⟨23, rfl, 10, 18, rfl, rfl, ⟨by decide, by decide, by decide⟩, (by rw [sizeLine_eq]; decide), fun l9 hl9 => ?_⟩
    have S := same_upd (o := .lst [.int 9]) hl9
    have e9 : upd H4 l9 (.lst [.int 9]) l9 = some (.lst [.int 9]) := upd_same
    generalize upd H4 l9 (.lst [.int 9]) = H5 at S e9 ⊢
    replace B := B.trans S
    replace es := S _ _ es
    replace e0 := S _ _ e0
    replace e1 := S _ _ e1
    replace ek := S _ _ ek
    clear S
    refine ⟨(by rw [sizeLine_eq]; decide), fun t2 ht2 => ?_⟩
    have S := same_upd (o := .tup [.str "a", .int 2]) ht2
    have e2 : upd H5 t2 (.tup [.str "a", .int 2]) t2 = some (.tup [.str "a", .int 2]) := upd_same
    generalize upd H5 t2 (.tup [.str "a", .int 2]) = H6 at S e2 ⊢
    replace B := B.trans S
    replace es := S _ _ es
    replace e0 := S _ _ e0
    replace e1 := S _ _ e1
    replace ek := S _ _ ek
    replace e9 := S _ _ e9
    clear S
    refine ⟨(by rw [sizeLine_eq]; show 11 ≤ 16777216; decide), fun L hL => ?_⟩
    have hsL := e2
    refine ⟨c, L, r, h, _, rfl, same_upd hL _ _ (B _ _ hc), hC, upd_same, (by show 0 < 11; decide), (by show 11 < 1000; decide), fun H7 i x r7 h7 B7 c7 C7 ex => ?_⟩
    have ncs : s ≠ c := ne_of es (B _ _ hc) (by intro q; cases q)
    have S6 := same_upd (o := .lst [.non, .int 37, .str "name", .ref t0, .ref t1, .ref dk, .bl true, .int (-23), .int (10 ^ 18), .ref l9, .ref t2]) hL
    obtain ⟨dx, sl⟩ := sl_at (S6 _ _ e0) (S6 _ _ e1) (S6 _ _ ek) (S6 _ _ e9) (S6 _ _ e2) i x ex
    replace sl := sl.but B7 (S6 _ _ (B _ _ hc)) (no_crt r h)
    replace es := B7 _ _ ncs (S6 _ _ es)
    have b7 : But c H H7 := ((But.of_same B).trans (But.of_same S6)).trans B7
    clear B7 S6 e0 e1 ek e9 e2 hsL ex B hL
    refine ⟨_, _, rfl, ?_⟩
    have slf : ∃ o, SlO o x dx := ⟨_, sl.choose_spec.1⟩
    refine seq_set (fun z => [some (.ref c), some (.ref s), some x, some z, none, none, none, none, none]) (fun _ => rfl) (lst_es (CB := A.CB) (v := .ref s) (by rfl) (ac T.tx.c (ac T.bk.c (ac T.ki.c (ac T.tr.c (ac T.na.c an))))) (by show 5 ≤ 1000; decide) fun H8 p3_0 us3_0 S _ e3_0 x3_0 => ?_)
    replace es := S _ _ es
    replace c7 := S _ _ c7
    replace sl := sl.same S
    replace b7 := b7.trans (But.of_same S)
    clear S
    refine seq_set (fun z => [some (.ref c), some (.ref s), some x, some z, none, none, none, none, none]) (fun _ => rfl) (cat_es (CB := A.CB) (v := .ref s) (n := 5) (b := p3_0) (by rfl) e3_0 x3_0 (by rfl) (ac T.ju.c (ac T.tu.c (ac T.pa.c (ac T.ro.c an)))) (by show 9 ≤ 1000; decide) fun H9 p3_1 us3_1 S e3_1 x3_1 => ?_)
    replace es := S _ _ es
    replace c7 := S _ _ c7
    replace sl := sl.same S
    replace b7 := b7.trans (But.of_same S)
    clear S
    clear e3_0 x3_0
    refine seq_set (fun z => [some (.ref c), some (.ref s), some x, some z, none, none, none, none, none]) (fun _ => rfl) (cat_es (CB := A.CB) (v := .ref s) (n := 9) (b := p3_1) (by rfl) e3_1 x3_1 (by rfl) (ac T.tg.c (ac T.tb.c (ac T.co.c (ac T.nu.c an)))) (by show 13 ≤ 1000; decide) fun H10 p3_2 us3_2 S e3_2 x3_2 => ?_)
    replace es := S _ _ es
    replace c7 := S _ _ c7
    replace sl := sl.same S
    replace b7 := b7.trans (But.of_same S)
    clear S
    clear e3_1 x3_1
    refine seq_set (fun z => [some (.ref c), some (.ref s), some x, some z, none, none, none, none, none]) (fun _ => rfl) (cat_es (CB := A.CB) (v := .ref s) (n := 13) (b := p3_2) (by rfl) e3_2 x3_2 (by rfl) (ac T.li.c (ac T.dk.c an)) (by show 15 ≤ 1000; decide) fun H11 p3_3 us3_3 S e3_3 x3_3 => ?_)
    replace es := S _ _ es
    replace c7 := S _ _ c7
    replace sl := sl.same S
    replace b7 := b7.trans (But.of_same S)
    clear S
    clear e3_2 x3_2
    refine seq_set (fun z => [some (.ref c), some (.ref s), some x, some (.ref p3_3), some z, none, none, none, none]) (fun _ => rfl) (lst_es (CB := A.CB) (v := x) (by rfl) (ac T.tx.c (ac T.bk.c (ac T.ki.c (ac T.tr.c an)))) (by show 4 ≤ 1000; decide) fun H12 p4_0 us4_0 S _ e4_0 x4_0 => ?_)
    replace es := S _ _ es
    replace c7 := S _ _ c7
    replace sl := sl.same S
    replace b7 := b7.trans (But.of_same S)
    replace e3_3 := S _ _ e3_3
    replace x3_3 := x3_3.same S
    clear S
    refine seq_set (fun z => [some (.ref c), some (.ref s), some x, some (.ref p3_3), some z, none, none, none, none]) (fun _ => rfl) (cat_es (CB := A.CB) (v := x) (n := 4) (b := p4_0) (by rfl) e4_0 x4_0 (by rfl) (ac T.na.c (ac T.ju.c (ac T.tu.c an))) (by show 7 ≤ 1000; decide) fun H13 p4_1 us4_1 S e4_1 x4_1 => ?_)
    replace es := S _ _ es
    replace c7 := S _ _ c7
    replace sl := sl.same S
    replace b7 := b7.trans (But.of_same S)
    replace e3_3 := S _ _ e3_3
    replace x3_3 := x3_3.same S
    clear S
    clear e4_0 x4_0
    refine seq_set (fun z => [some (.ref c), some (.ref s), some x, some (.ref p3_3), some z, none, none, none, none]) (fun _ => rfl) (cat_es (CB := A.CB) (v := x) (n := 7) (b := p4_1) (by rfl) e4_1 x4_1 (by rfl) (ac T.pa.c (ac T.ro.c (ac T.tg.c an))) (by show 10 ≤ 1000; decide) fun H14 p4_2 us4_2 S e4_2 x4_2 => ?_)
    replace es := S _ _ es
    replace c7 := S _ _ c7
    replace sl := sl.same S
    replace b7 := b7.trans (But.of_same S)
    replace e3_3 := S _ _ e3_3
    replace x3_3 := x3_3.same S
    clear S
    clear e4_1 x4_1
    refine seq_set (fun z => [some (.ref c), some (.ref s), some x, some (.ref p3_3), some z, none, none, none, none]) (fun _ => rfl) (cat_es (CB := A.CB) (v := x) (n := 10) (b := p4_2) (by rfl) e4_2 x4_2 (by rfl) (ac T.tb.c (ac T.co.c (ac T.nu.c an))) (by show 13 ≤ 1000; decide) fun H15 p4_3 us4_3 S e4_3 x4_3 => ?_)
    replace es := S _ _ es
    replace c7 := S _ _ c7
    replace sl := sl.same S
    replace b7 := b7.trans (But.of_same S)
    replace e3_3 := S _ _ e3_3
    replace x3_3 := x3_3.same S
    clear S
    clear e4_2 x4_2
    refine seq_set (fun z => [some (.ref c), some (.ref s), some x, some (.ref p3_3), some z, none, none, none, none]) (fun _ => rfl) (cat_es (CB := A.CB) (v := x) (n := 13) (b := p4_3) (by rfl) e4_3 x4_3 (by rfl) (ac T.li.c (ac T.dk.c an)) (by show 15 ≤ 1000; decide) fun H16 p4_4 us4_4 S e4_4 x4_4 => ?_)
    replace es := S _ _ es
    replace c7 := S _ _ c7
    replace sl := sl.same S
    replace b7 := b7.trans (But.of_same S)
    replace e3_3 := S _ _ e3_3
    replace x3_3 := x3_3.same S
    clear S
    clear e4_3 x4_3
    refine seq_set (fun z => [some (.ref c), some (.ref s), some x, some (.ref p3_3), some (.ref p4_4), some z, none, none, none]) (by intro _; rfl) ?_
    refine ⟨_, _, rfl, rfl, fun H17 z0 S i0 => ?_⟩
    replace es := S _ _ es
    replace c7 := S _ _ c7
    replace sl := sl.same S
    replace b7 := b7.trans (But.of_same S)
    replace e3_3 := S _ _ e3_3
    replace x3_3 := x3_3.same S
    replace e4_4 := S _ _ e4_4
    replace x4_4 := x4_4.same S
    clear S
    refine ⟨_, _, rfl, rfl, fun H18 z1 S i1 => ?_⟩
    replace es := S _ _ es
    replace c7 := S _ _ c7
    replace sl := sl.same S
    replace b7 := b7.trans (But.of_same S)
    replace e3_3 := S _ _ e3_3
    replace x3_3 := x3_3.same S
    replace e4_4 := S _ _ e4_4
    replace x4_4 := x4_4.same S
    replace i0 := i0.same S
    clear S
    refine ⟨_, rfl, fun H19 z2 S i2 => ?_⟩
    replace es := S _ _ es
    replace c7 := S _ _ c7
    replace sl := sl.same S
    replace b7 := b7.trans (But.of_same S)
    replace e3_3 := S _ _ e3_3
    replace x3_3 := x3_3.same S
    replace e4_4 := S _ _ e4_4
    replace x4_4 := x4_4.same S
    replace i0 := i0.same S
    replace i1 := i1.same S
    clear S
    refine ⟨_, rfl, fun H20 z3 S i3 => ?_⟩
    replace es := S _ _ es
    replace c7 := S _ _ c7
    replace sl := sl.same S
    replace b7 := b7.trans (But.of_same S)
    replace e3_3 := S _ _ e3_3
    replace x3_3 := x3_3.same S
    replace e4_4 := S _ _ e4_4
    replace x4_4 := x4_4.same S
    replace i0 := i0.same S
    replace i1 := i1.same S
    replace i2 := i2.same S
    clear S
    refine ⟨(by rw [sizeLine_eq]; show 4 ≤ 16777216; decide), fun p5 hp5 => ?_⟩
    have S := same_upd (o := .lst [z0, z1, z2, z3]) hp5
    have e5 : upd H20 p5 (.lst [z0, z1, z2, z3]) p5 = some (.lst [z0, z1, z2, z3]) := upd_same
    generalize upd H20 p5 (.lst [z0, z1, z2, z3]) = H21 at S e5 ⊢
    replace es := S _ _ es
    replace c7 := S _ _ c7
    replace sl := sl.same S
    replace b7 := b7.trans (But.of_same S)
    replace e3_3 := S _ _ e3_3
    replace x3_3 := x3_3.same S
    replace e4_4 := S _ _ e4_4
    replace x4_4 := x4_4.same S
    replace i0 := i0.same S
    replace i1 := i1.same S
    replace i2 := i2.same S
    replace i3 := i3.same S
    clear S
    refine seq_set (fun z => [some (.ref c), some (.ref s), some x, some (.ref p3_3), some (.ref p4_4), some z, none, none, none]) (by intro _; rfl) ?_
    refine ⟨_, rfl, ?_⟩
    refine ⟨_, rfl, fun H22 z4 S i4 => ?_⟩
    replace es := S _ _ es
    replace c7 := S _ _ c7
    replace sl := sl.same S
    replace b7 := b7.trans (But.of_same S)
    replace e3_3 := S _ _ e3_3
    replace x3_3 := x3_3.same S
    replace e4_4 := S _ _ e4_4
    replace x4_4 := x4_4.same S
    replace i0 := i0.same S
    replace i1 := i1.same S
    replace i2 := i2.same S
    replace i3 := i3.same S
    replace e5 := S _ _ e5
    clear S
    refine ⟨_, rfl, fun H23 z5 S i5 => ?_⟩
    replace es := S _ _ es
    replace c7 := S _ _ c7
    replace sl := sl.same S
    replace b7 := b7.trans (But.of_same S)
    replace e3_3 := S _ _ e3_3
    replace x3_3 := x3_3.same S
    replace e4_4 := S _ _ e4_4
    replace x4_4 := x4_4.same S
    replace i0 := i0.same S
    replace i1 := i1.same S
    replace i2 := i2.same S
    replace i3 := i3.same S
    replace e5 := S _ _ e5
    replace i4 := i4.same S
    clear S
    refine ⟨(by rw [sizeLine_eq]; show 2 ≤ 16777216; decide), fun q5 hq5 => ?_⟩
    have S := same_upd (o := .lst [z4, z5]) hq5
    have eq5 : upd H23 q5 (.lst [z4, z5]) q5 = some (.lst [z4, z5]) := upd_same
    generalize upd H23 q5 (.lst [z4, z5]) = H24 at S eq5 ⊢
    replace es := S _ _ es
    replace c7 := S _ _ c7
    replace sl := sl.same S
    replace b7 := b7.trans (But.of_same S)
    replace e3_3 := S _ _ e3_3
    replace x3_3 := x3_3.same S
    replace e4_4 := S _ _ e4_4
    replace x4_4 := x4_4.same S
    replace i0 := i0.same S
    replace i1 := i1.same S
    replace i2 := i2.same S
    replace i3 := i3.same S
    replace e5 := S _ _ e5
    replace i4 := i4.same S
    replace i5 := i5.same S
    clear S
    refine ⟨p5, q5, [z0, z1, z2, z3], [z4, z5], rfl, rfl, e5, eq5, (by rw [sizeLine_eq]; show 6 ≤ 16777216; decide), fun r5 hr5 => ?_⟩
    have S := same_upd (o := .lst ([z0, z1, z2, z3] ++ [z4, z5])) hr5
    clear eq5
    clear e5
    have e5 : upd H24 r5 (.lst ([z0, z1, z2, z3] ++ [z4, z5])) r5 = some (.lst [z0, z1, z2, z3, z4, z5]) := upd_same
    generalize upd H24 r5 (.lst ([z0, z1, z2, z3] ++ [z4, z5])) = H25 at S e5 ⊢
    replace es := S _ _ es
    replace c7 := S _ _ c7
    replace sl := sl.same S
    replace b7 := b7.trans (But.of_same S)
    replace e3_3 := S _ _ e3_3
    replace x3_3 := x3_3.same S
    replace e4_4 := S _ _ e4_4
    replace x4_4 := x4_4.same S
    replace i0 := i0.same S
    replace i1 := i1.same S
    replace i2 := i2.same S
    replace i3 := i3.same S
    replace i4 := i4.same S
    replace i5 := i5.same S
    clear S
    -- scroll.append
    have n3c := ne_of e3_3 c7 (by intro q; cases q)
    have n4c := ne_of e4_4 c7 (by intro q; cases q)
    have n5c := ne_of e5 c7 (by intro q; cases q)
    refine seq_drop ?_
    refine ⟨_, rfl, .inl ⟨rfl, _, SqL.of es⟩, _, rfl, c, r7, h7, 90, rfl, c7, C7, by decide, by decide, fun H26 v r8 h8 B8 c8 C8 v0 v1 => ?_⟩
    replace sl := sl.but B8 c7 (no_crt r7 h7)
    replace es := B8 _ _ ncs es
    replace e3_3 := B8 _ _ n3c e3_3
    replace e4_4 := B8 _ _ n4c e4_4
    replace e5 := B8 _ _ n5c e5
    replace x3_3 := x3_3.but B8 c7 (.inr ⟨_, rfl⟩)
    replace x4_4 := x4_4.but B8 c7 (.inr ⟨_, rfl⟩)
    replace i0 := i0.but B8 c7 (.inr ⟨_, rfl⟩)
    replace i1 := i1.but B8 c7 (.inr ⟨_, rfl⟩)
    replace i2 := i2.but B8 c7 (.inr ⟨_, rfl⟩)
    replace i3 := i3.but B8 c7 (.inr ⟨_, rfl⟩)
    replace i4 := i4.but B8 c7 (.inr ⟨_, rfl⟩)
    replace i5 := i5.but B8 c7 (.inr ⟨_, rfl⟩)
    replace b7 := b7.trans B8
    clear B8 c7 C7
    refine ⟨s, [], _, rfl, rfl, es, (by rw [sizeLine_eq]; decide), ?_⟩
    have n3 := ne_of e3_3 es (by intro q; have z := x3_3.1; cases q; cases z)
    have n4 := ne_of e4_4 es (by intro q; have z := x4_4.1; cases q; cases z)
    have n5 := ne_of e5 es (by intro q; cases q)
    have B9 : But s H26 (upd H26 s (.lst ([] ++ [.int v]))) := but_upd
    have es9 : upd H26 s (.lst ([] ++ [.int v])) s = some (.lst [.int v]) := upd_same
    have b9 : But c H (upd H26 s (.lst ([] ++ [.int v]))) := fun b o n e => by rw [upd_ne (ne_of_none e hs)]; exact b7 b o n e
    generalize upd H26 s (.lst ([] ++ [.int v])) = H27 at B9 es9 b9 ⊢
    replace sl := sl.but B9 es no_nil
    replace e3_3 := B9 _ _ n3 e3_3
    replace e4_4 := B9 _ _ n4 e4_4
    replace e5 := B9 _ _ n5 e5
    replace x3_3 := x3_3.but B9 es (.inl ⟨_, rfl⟩)
    replace x4_4 := x4_4.but B9 es (.inl ⟨_, rfl⟩)
    replace i0 := i0.but B9 es (.inl ⟨_, rfl⟩)
    replace i1 := i1.but B9 es (.inl ⟨_, rfl⟩)
    replace i2 := i2.but B9 es (.inl ⟨_, rfl⟩)
    replace i3 := i3.but B9 es (.inl ⟨_, rfl⟩)
    replace i4 := i4.but B9 es (.inl ⟨_, rfl⟩)
    replace i5 := i5.but B9 es (.inl ⟨_, rfl⟩)
    clear b7 es B9
    have es := es9
    have b7 := b9
    clear es9 b9
    obtain ⟨a0, d0, rfl, ha0, hd0⟩ := i0
    obtain ⟨a1, d1, rfl, ha1, hd1⟩ := i1
    obtain ⟨a2, d2, rfl, ha2, hd2⟩ := i2
    obtain ⟨a3, d3, rfl, ha3, hd3⟩ := i3
    obtain ⟨a4, d4, rfl, ha4, hd4⟩ := i4
    obtain ⟨a5, d5, rfl, ha5, hd5⟩ := i5
    refine seq_set (fun z => [some (.ref c), some (.ref s), some x, some (.ref p3_3), some (.ref p4_4), some (.ref r5), some z, none, none]) (fun _ => rfl) (op_go (lc_es (CB := A.CB) (g := "given") (v := .ref s) (n := 15) (ie := 8) (by show 8 < 9; decide) (by rfl) e3_3 x3_3 (by decide) fun H28 D1 S eD1 => ?_))
    replace es := S _ _ es
    replace sl := sl.same S
    replace b7 := b7.trans (But.of_same S)
    replace e3_3 := S _ _ e3_3
    replace x3_3 := x3_3.same S
    replace e4_4 := S _ _ e4_4
    replace x4_4 := x4_4.same S
    replace e5 := S _ _ e5
    replace ha0 := S _ _ ha0
    replace hd0 := S _ _ hd0
    replace ha1 := S _ _ ha1
    replace hd1 := S _ _ hd1
    replace ha2 := S _ _ ha2
    replace hd2 := S _ _ hd2
    replace ha3 := S _ _ ha3
    replace hd3 := S _ _ hd3
    replace ha4 := S _ _ ha4
    replace hd4 := S _ _ hd4
    replace ha5 := S _ _ ha5
    replace hd5 := S _ _ hd5
    clear S
    refine ⟨_, rfl, r5, _, 0, .ref a0, rfl, rfl, SqL.of e5, rfl, a0, _, d0, _, .ref s, rfl, T.nw.cl.xf, T.nw.noF, ha0, hd0, (by rfl), _, rfl, r5, _, 1, .ref a1, rfl, rfl, SqL.of e5, rfl, a1, _, d1, _, .ref s, rfl, T.nw.cl.xf, T.nw.noG, ha1, hd1, (by rfl), _, rfl, r5, _, 2, .ref a2, rfl, rfl, SqL.of e5, rfl, a2, _, d2, _, .ref s, rfl, T.ba.cl.xf, T.ba.no, ha2, hd2, (by rfl), _, rfl, r5, _, 4, .ref a4, rfl, rfl, SqL.of e5, rfl, a4, _, d4, _, .ref s, rfl, T.de.cl.xf, T.de.no, ha4, hd4, (by rfl), (by rw [sizeLine_eq]; show 4 ≤ 16777216; decide), fun p hp => ?_⟩
    have S := same_upd (o := .lst [.ref s, .ref s, .ref s, .ref s]) hp
    have ep : upd H28 p (.lst [.ref s, .ref s, .ref s, .ref s]) p = some _ := upd_same
    generalize upd H28 p (.lst [.ref s, .ref s, .ref s, .ref s]) = H29 at S ep ⊢
    replace es := S _ _ es
    replace sl := sl.same S
    replace b7 := b7.trans (But.of_same S)
    replace e3_3 := S _ _ e3_3
    replace x3_3 := x3_3.same S
    replace e4_4 := S _ _ e4_4
    replace x4_4 := x4_4.same S
    replace e5 := S _ _ e5
    replace ha0 := S _ _ ha0
    replace hd0 := S _ _ hd0
    replace ha1 := S _ _ ha1
    replace hd1 := S _ _ hd1
    replace ha2 := S _ _ ha2
    replace hd2 := S _ _ hd2
    replace ha3 := S _ _ ha3
    replace hd3 := S _ _ hd3
    replace ha4 := S _ _ ha4
    replace hd4 := S _ _ hd4
    replace ha5 := S _ _ ha5
    replace hd5 := S _ _ hd5
    replace eD1 := S _ _ eD1
    clear S
    refine ⟨D1, p, _, _, rfl, rfl, eD1, ep, (by rw [sizeLine_eq]; show 19 ≤ 16777216; decide), fun q hq => ?_⟩
    have S := same_upd (o := .lst (List.replicate 15 (.ref s) ++ [.ref s, .ref s, .ref s, .ref s])) hq
    have eq1 : upd H29 q (.lst (List.replicate 15 (.ref s) ++ [.ref s, .ref s, .ref s, .ref s])) q = some (.lst (List.replicate 19 (.ref s))) := upd_same
    clear ep
    clear eD1
    generalize upd H29 q (.lst (List.replicate 15 (.ref s) ++ [.ref s, .ref s, .ref s, .ref s])) = H30 at S eq1 ⊢
    replace es := S _ _ es
    replace sl := sl.same S
    replace b7 := b7.trans (But.of_same S)
    replace e3_3 := S _ _ e3_3
    replace x3_3 := x3_3.same S
    replace e4_4 := S _ _ e4_4
    replace x4_4 := x4_4.same S
    replace e5 := S _ _ e5
    replace ha0 := S _ _ ha0
    replace hd0 := S _ _ hd0
    replace ha1 := S _ _ ha1
    replace hd1 := S _ _ hd1
    replace ha2 := S _ _ ha2
    replace hd2 := S _ _ hd2
    replace ha3 := S _ _ ha3
    replace hd3 := S _ _ hd3
    replace ha4 := S _ _ ha4
    replace hd4 := S _ _ hd4
    replace ha5 := S _ _ ha5
    replace hd5 := S _ _ hd5
    clear S
    refine seq_if ?_
    refine ⟨_, rfl, _, rfl, (by rw [sizeLine_eq]; show 1 ≤ 16777216; decide), fun p hp => ?_⟩
    have S := same_upd (o := .lst [.ref s]) hp
    have ep : upd H30 p (.lst [.ref s]) p = some _ := upd_same
    generalize upd H30 p (.lst [.ref s]) = H31 at S ep ⊢
    replace es := S _ _ es
    replace sl := sl.same S
    replace b7 := b7.trans (But.of_same S)
    replace e3_3 := S _ _ e3_3
    replace x3_3 := x3_3.same S
    replace e4_4 := S _ _ e4_4
    replace x4_4 := x4_4.same S
    replace e5 := S _ _ e5
    replace ha0 := S _ _ ha0
    replace hd0 := S _ _ hd0
    replace ha1 := S _ _ ha1
    replace hd1 := S _ _ hd1
    replace ha2 := S _ _ ha2
    replace hd2 := S _ _ hd2
    replace ha3 := S _ _ ha3
    replace hd3 := S _ _ hd3
    replace ha4 := S _ _ ha4
    replace hd4 := S _ _ hd4
    replace ha5 := S _ _ ha5
    replace hd5 := S _ _ hd5
    replace eq1 := S _ _ eq1
    clear S
    refine ⟨p, 19, [.ref s], rfl, rfl, ep, by decide, by decide, (by rw [sizeLine_eq]; show 19 ≤ 16777216; decide), fun q2 hq2 => ?_⟩
    have S := same_upd (o := .lst (List.replicate (19 : Int).toNat [.ref s]).flatten) hq2
    have ed : upd H31 q2 (.lst (List.replicate (19 : Int).toNat [.ref s]).flatten) q2 = some (.lst (List.replicate 19 (.ref s))) := upd_same
    clear ep
    generalize upd H31 q2 (.lst (List.replicate (19 : Int).toNat [.ref s]).flatten) = H32 at S ed ⊢
    replace es := S _ _ es
    replace sl := sl.same S
    replace b7 := b7.trans (But.of_same S)
    replace e3_3 := S _ _ e3_3
    replace x3_3 := x3_3.same S
    replace e4_4 := S _ _ e4_4
    replace x4_4 := x4_4.same S
    replace e5 := S _ _ e5
    replace ha0 := S _ _ ha0
    replace hd0 := S _ _ hd0
    replace ha1 := S _ _ ha1
    replace hd1 := S _ _ hd1
    replace ha2 := S _ _ ha2
    replace hd2 := S _ _ hd2
    replace ha3 := S _ _ ha3
    replace hd3 := S _ _ hd3
    replace ha4 := S _ _ ha4
    replace hd4 := S _ _ hd4
    replace ha5 := S _ _ ha5
    replace hd5 := S _ _ hd5
    replace eq1 := S _ _ eq1
    clear S
    obtain ⟨vn, rfl⟩ : ∃ m : Nat, v = m := ⟨v.toNat, by omega⟩
    obtain ⟨f1, f2, f3⟩ := of_fits (num_fits vn (by omega))
    have dq : Dq _ (.ref s) (.list [.int vn]) := Dq.lst es (.cons (.int _) .nil)
    refine ⟨q, q2, _, rfl, .inl ⟨.lst eq1 (dq.rep' 19), rfl⟩, .inl ⟨.lst ed (dq.rep' 19), rfl⟩, f1, f2, f3, true, rfl, ?_⟩
    refine ite2 (fun z => absurd z (by decide)) (fun _ => ?_)
    refine ⟨_, rfl, s, _, rfl, .inl (SqL.of es), rfl, _, rfl, ?_⟩
    refine ite2 (fun z => absurd z (by simp)) (fun _ => ?_)
    clear ed
    refine next_go ?_
    refine seq_set (fun z => [some (.ref c), some (.ref s), some x, some (.ref p3_3), some (.ref p4_4), some (.ref r5), some z, none, none]) (fun _ => rfl) (op_go (lc_es (CB := A.CB) (g := "given") (v := x) (n := 15) (ie := 8) (by show 8 < 9; decide) (by rfl) e4_4 x4_4 (by decide) fun H33 D2 S eD2 => ?_))
    replace es := S _ _ es
    replace sl := sl.same S
    replace b7 := b7.trans (But.of_same S)
    replace e3_3 := S _ _ e3_3
    replace x3_3 := x3_3.same S
    replace e4_4 := S _ _ e4_4
    replace x4_4 := x4_4.same S
    replace e5 := S _ _ e5
    replace ha0 := S _ _ ha0
    replace hd0 := S _ _ hd0
    replace ha1 := S _ _ ha1
    replace hd1 := S _ _ hd1
    replace ha2 := S _ _ ha2
    replace hd2 := S _ _ hd2
    replace ha3 := S _ _ ha3
    replace hd3 := S _ _ hd3
    replace ha4 := S _ _ ha4
    replace hd4 := S _ _ hd4
    replace ha5 := S _ _ ha5
    replace hd5 := S _ _ hd5
    replace eq1 := S _ _ eq1
    clear S
    refine ⟨_, rfl, r5, _, 0, .ref a0, rfl, rfl, SqL.of e5, rfl, a0, _, d0, _, x, rfl, T.nw.cl.xf, T.nw.noG, ha0, hd0, (by rfl), _, rfl, r5, _, 1, .ref a1, rfl, rfl, SqL.of e5, rfl, a1, _, d1, _, x, rfl, T.nw.cl.xf, T.nw.noF, ha1, hd1, (by rfl), _, rfl, r5, _, 3, .ref a3, rfl, rfl, SqL.of e5, rfl, a3, _, d3, _, x, rfl, T.ba.cl.xf, T.ba.no, ha3, hd3, (by rfl), _, rfl, r5, _, 5, .ref a5, rfl, rfl, SqL.of e5, rfl, a5, _, d5, _, x, rfl, T.de.cl.xf, T.de.no, ha5, hd5, (by rfl), (by rw [sizeLine_eq]; show 4 ≤ 16777216; decide), fun p hp => ?_⟩
    have S := same_upd (o := .lst [x, x, x, x]) hp
    have ep : upd H33 p (.lst [x, x, x, x]) p = some _ := upd_same
    generalize upd H33 p (.lst [x, x, x, x]) = H34 at S ep ⊢
    replace es := S _ _ es
    replace sl := sl.same S
    replace b7 := b7.trans (But.of_same S)
    replace e3_3 := S _ _ e3_3
    replace x3_3 := x3_3.same S
    replace e4_4 := S _ _ e4_4
    replace x4_4 := x4_4.same S
    replace e5 := S _ _ e5
    replace ha0 := S _ _ ha0
    replace hd0 := S _ _ hd0
    replace ha1 := S _ _ ha1
    replace hd1 := S _ _ hd1
    replace ha2 := S _ _ ha2
    replace hd2 := S _ _ hd2
    replace ha3 := S _ _ ha3
    replace hd3 := S _ _ hd3
    replace ha4 := S _ _ ha4
    replace hd4 := S _ _ hd4
    replace ha5 := S _ _ ha5
    replace hd5 := S _ _ hd5
    replace eq1 := S _ _ eq1
    replace eD2 := S _ _ eD2
    clear S
    refine ⟨D2, p, _, _, rfl, rfl, eD2, ep, (by rw [sizeLine_eq]; show 19 ≤ 16777216; decide), fun q hq => ?_⟩
    have S := same_upd (o := .lst (List.replicate 15 (x) ++ [x, x, x, x])) hq
    have eq2 : upd H34 q (.lst (List.replicate 15 (x) ++ [x, x, x, x])) q = some (.lst (List.replicate 19 (x))) := upd_same
    clear ep
    clear eD2
    generalize upd H34 q (.lst (List.replicate 15 (x) ++ [x, x, x, x])) = H35 at S eq2 ⊢
    replace es := S _ _ es
    replace sl := sl.same S
    replace b7 := b7.trans (But.of_same S)
    replace e3_3 := S _ _ e3_3
    replace x3_3 := x3_3.same S
    replace e4_4 := S _ _ e4_4
    replace x4_4 := x4_4.same S
    replace e5 := S _ _ e5
    replace ha0 := S _ _ ha0
    replace hd0 := S _ _ hd0
    replace ha1 := S _ _ ha1
    replace hd1 := S _ _ hd1
    replace ha2 := S _ _ ha2
    replace hd2 := S _ _ hd2
    replace ha3 := S _ _ ha3
    replace hd3 := S _ _ hd3
    replace ha4 := S _ _ ha4
    replace hd4 := S _ _ hd4
    replace ha5 := S _ _ ha5
    replace hd5 := S _ _ hd5
    replace eq1 := S _ _ eq1
    clear S
    refine seq_if ?_
    refine ⟨_, rfl, _, rfl, (by rw [sizeLine_eq]; show 1 ≤ 16777216; decide), fun p hp => ?_⟩
    have S := same_upd (o := .lst [x]) hp
    have ep : upd H35 p (.lst [x]) p = some _ := upd_same
    generalize upd H35 p (.lst [x]) = H36 at S ep ⊢
    replace es := S _ _ es
    replace sl := sl.same S
    replace b7 := b7.trans (But.of_same S)
    replace e3_3 := S _ _ e3_3
    replace x3_3 := x3_3.same S
    replace e4_4 := S _ _ e4_4
    replace x4_4 := x4_4.same S
    replace e5 := S _ _ e5
    replace ha0 := S _ _ ha0
    replace hd0 := S _ _ hd0
    replace ha1 := S _ _ ha1
    replace hd1 := S _ _ hd1
    replace ha2 := S _ _ ha2
    replace hd2 := S _ _ hd2
    replace ha3 := S _ _ ha3
    replace hd3 := S _ _ hd3
    replace ha4 := S _ _ ha4
    replace hd4 := S _ _ hd4
    replace ha5 := S _ _ ha5
    replace hd5 := S _ _ hd5
    replace eq1 := S _ _ eq1
    replace eq2 := S _ _ eq2
    clear S
    refine ⟨p, 19, [x], rfl, rfl, ep, by decide, by decide, (by rw [sizeLine_eq]; show 19 ≤ 16777216; decide), fun q2 hq2 => ?_⟩
    have S := same_upd (o := .lst (List.replicate (19 : Int).toNat [x]).flatten) hq2
    have ed : upd H36 q2 (.lst (List.replicate (19 : Int).toNat [x]).flatten) q2 = some (.lst (List.replicate 19 (x))) := upd_same
    clear ep
    generalize upd H36 q2 (.lst (List.replicate (19 : Int).toNat [x]).flatten) = H37 at S ed ⊢
    replace es := S _ _ es
    replace sl := sl.same S
    replace b7 := b7.trans (But.of_same S)
    replace e3_3 := S _ _ e3_3
    replace x3_3 := x3_3.same S
    replace e4_4 := S _ _ e4_4
    replace x4_4 := x4_4.same S
    replace e5 := S _ _ e5
    replace ha0 := S _ _ ha0
    replace hd0 := S _ _ hd0
    replace ha1 := S _ _ ha1
    replace hd1 := S _ _ hd1
    replace ha2 := S _ _ ha2
    replace hd2 := S _ _ hd2
    replace ha3 := S _ _ ha3
    replace hd3 := S _ _ hd3
    replace ha4 := S _ _ ha4
    replace hd4 := S _ _ hd4
    replace ha5 := S _ _ ha5
    replace hd5 := S _ _ hd5
    replace eq1 := S _ _ eq1
    replace eq2 := S _ _ eq2
    clear S
    obtain ⟨ox, so⟩ := slf
    obtain ⟨g1, g2, g3⟩ := of_fits so.fits
    refine ⟨q, q2, _, rfl, sl.sh eq2, sl.sh ed, g1, g2, g3, true, rfl, ?_⟩
    refine ite2 (fun z => absurd z (by decide)) (fun _ => ?_)
    clear ed eq1 eq2
    refine next_go ?_
    have A3 : Eal K A.CB _ _ := Eal.ers x3_3
    have A4 : Eal K A.CB _ _ := Eal.ers x4_4
    have A5 : Eal K A.CB _ [.ref a0, .ref a1, .ref a2, .ref a3, .ref a4, .ref a5] := Eal.cons ⟨_, ha0⟩ T.nw.cl (Eal.cons ⟨_, ha1⟩ T.nw.cl (Eal.cons ⟨_, ha2⟩ T.ba.cl (Eal.cons ⟨_, ha3⟩ T.ba.cl (Eal.cons ⟨_, ha4⟩ T.de.cl (Eal.cons ⟨_, ha5⟩ T.de.cl Eal.nil)))))
    have l3 := x3_3.1
    have l4 := x4_4.1
    clear x3_3 x4_4 ha0 ha1 ha2 ha3 ha4 ha5 hd0 hd1 hd2 hd3 hd4 hd5 sl es
    refine go7 ?_
    refine seq_set (fun z => [some (.ref c), some (.ref s), some x, some (.ref p3_3), some (.ref p4_4), some (.ref r5), some (.ref q), some z, none]) (by intro _; rfl) ?_
    refine ⟨_, rfl, _, rfl, p3_3, p4_4, _, _, rfl, rfl, e3_3, e4_4, (by rw [l3, l4, sizeLine_eq]; show 30 ≤ 16777216; decide), fun q1 hq1 => ?_⟩
    have S := same_upd (o := .lst (us3_3 ++ us4_4)) hq1
    have f1 : upd H37 q1 (.lst (us3_3 ++ us4_4)) q1 = some _ := upd_same
    have Z1 := (A3.append A4).same S
    have Z5 := A5.same S
    have k5 := S _ _ e5
    have k7 := b7.trans (But.of_same S)
    clear A3 A4 A5 e5 b7 e3_3 e4_4
    generalize upd H37 q1 (.lst (us3_3 ++ us4_4)) = G1 at S f1 Z1 Z5 k5 k7 ⊢
    clear S
    refine ⟨_, rfl, q1, r5, _, _, rfl, rfl, f1, k5, (by rw [List.length_append, l3, l4, sizeLine_eq]; show 36 ≤ 16777216; decide), fun q2 hq2 => ?_⟩
    have S := same_upd (o := .lst ((us3_3 ++ us4_4) ++ [.ref a0, .ref a1, .ref a2, .ref a3, .ref a4, .ref a5])) hq2
    have f2 : upd G1 q2 (.lst ((us3_3 ++ us4_4) ++ [.ref a0, .ref a1, .ref a2, .ref a3, .ref a4, .ref a5])) q2 = some _ := upd_same
    have Z2 := (Z1.append Z5).same S
    have m7 := k7.trans (But.of_same S)
    clear Z1 Z5 k5 k7 f1
    generalize upd G1 q2 (.lst ((us3_3 ++ us4_4) ++ [.ref a0, .ref a1, .ref a2, .ref a3, .ref a4, .ref a5])) = G2 at S f2 Z2 m7 ⊢
    clear S
    refine fun G3 b0 s0 y0 G4 b1 s1 y1 G5 b2 s2 y2 G6 b3 s3 y3 G7 b4 s4 y4 => ?_
    have S7 : Same G2 G7 := (((s0.trans s1).trans s2).trans s3).trans s4
    have Z7 : Eal K A.CB G7 [.ref b0, .ref b1, .ref b2, .ref b3, .ref b4] := Eal.cons (errAt_same (errAt_same (errAt_same (errAt_same y0 s1) s2) s3) s4) T.tw.cl (Eal.cons (errAt_same (errAt_same (errAt_same y1 s2) s3) s4) T.ne.cl
      (Eal.cons (errAt_same (errAt_same y2 s3) s4) T.nr.cl (Eal.cons (errAt_same y3 s4) T.ir.cl (Eal.cons y4 T.cb.cl Eal.nil))))
    replace Z2 := Z2.same S7
    replace f2 := S7 _ _ f2
    replace m7 := m7.trans (But.of_same S7)
    clear S7 s0 s1 s2 s3 s4 y0 y1 y2 y3 y4
    refine ⟨(by rw [sizeLine_eq]; show 5 ≤ 16777216; decide), fun q3 hq3 => ?_⟩
    have S := same_upd (o := .lst [.ref b0, .ref b1, .ref b2, .ref b3, .ref b4]) hq3
    have f3 : upd G7 q3 (.lst [.ref b0, .ref b1, .ref b2, .ref b3, .ref b4]) q3 = some _ := upd_same
    replace Z2 := Z2.same S
    replace Z7 := Z7.same S
    replace f2 := S _ _ f2
    replace m7 := m7.trans (But.of_same S)
    generalize upd G7 q3 (.lst [.ref b0, .ref b1, .ref b2, .ref b3, .ref b4]) = G8 at S f3 f2 Z2 Z7 m7 ⊢
    clear S
    refine ⟨q2, q3, _, _, rfl, rfl, f2, f3, (by rw [List.length_append, List.length_append, l3, l4, sizeLine_eq]; show 41 ≤ 16777216; decide), fun q4 hq4 => ?_⟩
    generalize hE : (us3_3 ++ us4_4) ++ [V.ref a0, .ref a1, .ref a2, .ref a3, .ref a4, .ref a5] ++ [.ref b0, .ref b1, .ref b2, .ref b3, .ref b4] = us at hq4 ⊢
    have Z9 : Eal K A.CB G8 us := by rw [← hE]; exact Z2.append Z7
    have S := same_upd (o := .lst us) hq4
    have f4 : upd G8 q4 (.lst us) q4 = some (.lst us) := upd_same
    replace Z9 := Z9.same S
    replace m7 := m7.trans (But.of_same S)
    clear Z2 Z7 f2 f3
    generalize upd G8 q4 (.lst us) = G9 at S f4 Z9 m7 ⊢
    clear S
    refine ret_go (op_go (lc_none (ie := 8) T.isCB T.tyCB (by show 8 < 9; decide) (by rfl) f4 Z9 fun G10 D S eD => ?_))
    refine ⟨by rw [sizeLine_eq]; exact Nat.zero_le _, fun p hp => ?_⟩
    refine ⟨.list [], .list [], .lst (SqL.of (same_upd hp _ _ eD)) .nil, .lst (SqL.of upd_same) .nil, by decide, by decide, ?_⟩
    exact k _ ((m7.trans (But.of_same S)).trans (But.of_same (same_upd hp)))
end
end K01

/-! What the written part says of each class, from looks at it. -/
namespace K01
open PySem PySem.Spec C8 Xo
open L2 hiding Fun CX0 pass0 E0
open PySem.W (Frag nsIn findIn isFn excInitIn excOver hasDictIn ks_superIn subIn mroIn keepIn takerIn codeIn ksFn)
/-- the looks at every error class -/
def clsB (K : Frag) (CB C : Addr) : Bool :=
  excInitIn K C mroX "Exception.__new__" && (keepIn K (.ref C) && (xfB K C && (decide (subIn K (.ref C) (.ref CB) = some true) && decide (subIn K (.ref C) (.type "Exception") = some true))))
theorem er_of {K : Frag} {mg : Str → Option Value} {h : Heap} {x : Str} {CB C : Addr} (X : K.In h) (G : h.Ns mainGlobals mg) (aC : nsIn K mainGlobals x = some (some (.ref C))) (b : clsB K CB C = true) : Er K mg x CB C := by
  unfold clsB at b
  simp only [Bool.and_eq_true, decide_eq_true_eq] at b
  obtain ⟨h1, h2, h3, h4, h5⟩ := b
  exact ⟨⟨xfB_ok h3, h4, h5⟩, h1, h2, PySem.W.mg_of X G aC⟩
/-- .. at one with an __init__ of its own -/
def iniB (K : Frag) (C fI : Addr) (qual : Str) (cdv : Value) : Bool :=
  isFn K (.ref fI) && (excOver K C mroX && (hasDictIn K C && (decide (findIn K (.ref C) "__setattr__" = some (some (.builtin "object.__setattr__"))) && (decide (ks_superIn K C C "__init__" = some (some (.builtin "Exception.__init__"))) &&
    (decide (mroIn K C (.ref C) = some true) && (decide (nsIn K cStatics "thirdparty.any" = some none) && codeIn K cdv qual))))))
def fldB (K : Frag) (C : Addr) (g : Str) : Bool := decide (findIn K (.ref C) g = some none) && decide (takerIn K C g = some none)
theorem fld_of {K : Frag} {C : Addr} {g : Str} (h : fldB K C g = true) : findIn K (.ref C) g = some none ∧ takerIn K C g = some none := by
  unfold fldB at h
  simpa only [Bool.and_eq_true, decide_eq_true_eq] using h
section
variable {prog : Program} {K : Frag} {mg : Str → Option Value} {h : Heap} {x g f qual : Str} {params : Arguments} {body : List Stmt} {scope : Scope} {C CB fI cc cda : Addr} {oc : Value} {od : Option Addr} {kV doc pm : Value} {an : Option Addr} {ct : Value} {osl : Array (Option Value)}
  {cl : Value} {cld : Option Addr} {csl : Array (Option Value)} {ccl : Value} {cdd : Option Addr} {vs : Array Value} {ccs : Array (Option Value)} {file : Str} {tf : Tok} {p0 p1 p2 p3 q3 p4 p5 p6 p7 p8 p9 q6 q7 q8 q9 : Pos} {ar : Arg}
theorem ini_of (hC : excInitIn K C mroX "Exception.__new__" = true) (sE : subIn K (.ref C) (.type "Exception") = some true) (a1 : findIn K (.ref C) "__init__" = some (some (.ref fI)))
    (lI : K.lookup fI = some ⟨oc, od, .func (ksFn "__init__" qual params body scope .none kV doc pm an (.ref cda) ct cc), osl⟩) (lc : K.lookup cc = some ⟨cl, cld, .cell (some (.ref C)), csl⟩) (ld : K.lookup cda = some ⟨ccl, cdd, .fields vs, ccs⟩)
    (hv : vs[2]? = some (.str file tf)) (hfile : ((prog.main.file : Str) == file) = true) (top : (prog.main.scope.names.lookup ("super" : Str)).isSome = false) (b : iniB K C fI qual (.ref cda) = true) : IniOf prog K C fI qual params body scope := by
  unfold iniB at b
  simp only [Bool.and_eq_true, decide_eq_true_eq] at b
  obtain ⟨h1, h2, h3, h4, h5, h6, h7, h8⟩ := b
  exact ⟨⟨oc, od, kV, doc, pm, an, cda, ct, cc, osl, lI, h8, ⟨cl, cld, csl, lc⟩, ccl, cdd, vs, ccs, file, tf, ld, hv, hfile⟩, h1, a1, hC, h2, h3, h4, h5, sE, h6, h7, top⟩
def scpB (sc : Scope) : Bool := decide (sc.kind = .function) && (sc.names.all (fun y => !decide (y.2 = .cell)) && (decide (sc.names.lookup ("self" : Str) = some .local) && (decide (sc.names.lookup ("super" : Str) = some .globalImplicit) && (decide (sc.names.lookup ("__class__" : Str) = some .free) && (!sc.isCoroutine && !sc.isGenerator)))))
theorem scp_of {sc : Scope} (h : scpB sc = true) : ScpOf sc := by
  unfold scpB at h
  simp only [Bool.and_eq_true, decide_eq_true_eq, Bool.not_eq_true', List.all_eq_true, decide_eq_false_iff_not] at h
  obtain ⟨h1, h2, h3, h4, h5, h6, h7⟩ := h
  exact ⟨h1, h2, h3, h4, h5, h6, h7⟩
theorem er0_mk (X : K.In h) (G : h.Ns mainGlobals mg) (aC : nsIn K mainGlobals x = some (some (.ref C))) (b : clsB K CB C = true) (a1 : findIn K (.ref C) "__init__" = some (some (.builtin "Exception.__init__"))) : Er0 K mg x CB C := ⟨er_of X G aC b, a1⟩
theorem er1_mk (X : K.In h) (G : h.Ns mainGlobals mg) (aC : nsIn K mainGlobals x = some (some (.ref C))) (b : clsB K CB C = true) (a1 : findIn K (.ref C) "__init__" = some (some (.ref fI)))
    (lI : K.lookup fI = some ⟨oc, od, .func (ksFn "__init__" qual params [.Expr (supE p0 p1 p2 p4 [.Name g p3]) p5, keepS g p6 p7 p8 p9] scope .none kV doc pm an (.ref cda) ct cc), osl⟩) (lc : K.lookup cc = some ⟨cl, cld, .cell (some (.ref C)), csl⟩) (ld : K.lookup cda = some ⟨ccl, cdd, .fields vs, ccs⟩)
    (hv : vs[2]? = some (.str file tf)) (hfile : ((prog.main.file : Str) == file) = true) (top : (prog.main.scope.names.lookup ("super" : Str)).isSome = false) (bi : iniB K C fI qual (.ref cda) = true) (bf : fldB K C g = true)
    (S : scpB scope = true) (hp : (params.posonlyargs ++ params.args).head? = some ar) (har : ar.arg = "self") (hgl : scope.names.lookup g = some .local) (hgd : (g == ("__debug__" : Str)) = false) (hgs : (g == ("self" : Str)) = false) (hpos : (p2.endLine == p4.line) = true)
    (b1 : ∀ (x : Addr) (u : Value) (kV doc pm : Value) (an : Option Addr) (cdv ct : Value) (cc : Addr), bindArgs (ksFn "__init__" qual params [.Expr (supE p0 p1 p2 p4 [.Name g p3]) p5, keepS g p6 p7 p8 p9] scope .none kV doc pm an cdv ct cc) ⟨[.ref x, u], []⟩ = pure [(("self" : Str), .ref x), (g, u)])
    (b2 : ∀ (x : Addr) (u : Value) (kV doc pm : Value) (an : Option Addr) (cdv ct : Value) (cc : Addr), bindArgs (ksFn "__init__" qual params [.Expr (supE p0 p1 p2 p4 [.Name g p3]) p5, keepS g p6 p7 p8 p9] scope .none kV doc pm an cdv ct cc) ⟨[.ref x], [(g, u)]⟩ = pure [(("self" : Str), .ref x), (g, u)]) :
    Er1 prog K mg x g CB C := by
  have e := er_of X G aC b
  have I := ini_of e.hC e.cl.sE a1 lI lc ld hv hfile top bi
  obtain ⟨f1, f2⟩ := fld_of bf
  exact ⟨e, ⟨fI, a1, I.isF, fun w u A h gs d t os t0 y R M hk hx k => ini1 (scp_of S) I M hp har hgl hgd hgs f2 hpos (b1 y u) hx hk k, fun w u A h gs d t os t0 y R M hk hx k => ini1 (scp_of S) I M hp har hgl hgd hgs f2 hpos (b2 y u) hx hk k⟩, f1⟩
theorem er2_mk (X : K.In h) (G : h.Ns mainGlobals mg) (aC : nsIn K mainGlobals x = some (some (.ref C))) (b : clsB K CB C = true) (a1 : findIn K (.ref C) "__init__" = some (some (.ref fI)))
    (lI : K.lookup fI = some ⟨oc, od, .func (ksFn "__init__" qual params [.Expr (supE p0 p1 p2 p4 [.Name f p3, .Name g q3]) p5, keepS f p6 p7 p8 p9, keepS g q6 q7 q8 q9] scope .none kV doc pm an (.ref cda) ct cc), osl⟩) (lc : K.lookup cc = some ⟨cl, cld, .cell (some (.ref C)), csl⟩) (ld : K.lookup cda = some ⟨ccl, cdd, .fields vs, ccs⟩)
    (hv : vs[2]? = some (.str file tf)) (hfile : ((prog.main.file : Str) == file) = true) (top : (prog.main.scope.names.lookup ("super" : Str)).isSome = false) (bi : iniB K C fI qual (.ref cda) = true) (bf : fldB K C f = true) (bg : fldB K C g = true)
    (S : scpB scope = true) (hp : (params.posonlyargs ++ params.args).head? = some ar) (har : ar.arg = "self") (hfl : scope.names.lookup f = some .local) (hfd : (f == ("__debug__" : Str)) = false) (hgl : scope.names.lookup g = some .local) (hgd : (g == ("__debug__" : Str)) = false) (hpos : (p2.endLine == p4.line) = true)
    (e1 : ∀ (x u v : Value), ([(("self" : Str), x), (f, u), (g, v)] : List (Str × Value)).reverse.lookup ("self" : Str) = some x) (e2 : ∀ (x u v : Value), ([(("self" : Str), x), (f, u), (g, v)] : List (Str × Value)).reverse.lookup f = some u)
    (b1 : ∀ (x : Addr) (u v : Value) (kV doc pm : Value) (an : Option Addr) (cdv ct : Value) (cc : Addr), bindArgs (ksFn "__init__" qual params [.Expr (supE p0 p1 p2 p4 [.Name f p3, .Name g q3]) p5, keepS f p6 p7 p8 p9, keepS g q6 q7 q8 q9] scope .none kV doc pm an cdv ct cc) ⟨[.ref x, u, v], []⟩ = pure [(("self" : Str), .ref x), (f, u), (g, v)])
    (b2 : ∀ (x : Addr) (u v : Value) (kV doc pm : Value) (an : Option Addr) (cdv ct : Value) (cc : Addr), bindArgs (ksFn "__init__" qual params [.Expr (supE p0 p1 p2 p4 [.Name f p3, .Name g q3]) p5, keepS f p6 p7 p8 p9, keepS g q6 q7 q8 q9] scope .none kV doc pm an cdv ct cc) ⟨[.ref x], [(g, v), (f, u)]⟩ = pure [(("self" : Str), .ref x), (f, u), (g, v)]) :
    Er2 prog K mg x f g CB C := by
  have e := er_of X G aC b
  have I := ini_of e.hC e.cl.sE a1 lI lc ld hv hfile top bi
  obtain ⟨f1, f2⟩ := fld_of bf
  obtain ⟨g1, g2⟩ := fld_of bg
  exact ⟨e, ⟨fI, a1, I.isF, fun w u v A h gs d t os t0 y R M hk hx k => ini2 (scp_of S) I M hp har hfl hfd f2 hgl hgd g2 hpos (e1 _ _ _) (e2 _ _ _) (b1 y u v) hx hk k,
    fun w u v A h gs d t os t0 y R M hk hx k => ini2 (scp_of S) I M hp har hfl hfd f2 hgl hgd g2 hpos (e1 _ _ _) (e2 _ _ _) (b2 y u v) hx hk k⟩, f1, g1⟩
end
end K01

namespace K01
open PySem PySem.Spec C8 Xo
open L2 hiding Fun CX0 pass0 E0
abbrev prog : Program := PySem.Challenge.pw_bindertongue_k01_errors_keep_what_is_bou
set_option maxHeartbeats 0 in
theorem all_mk {w : World} {K : PySem.W.Frag} {h : Heap} {mg : Str → Option Value} {fa g_CB g_NW g_BA g_DE g_TX g_BK g_KI g_TR g_NA g_JU g_TU g_PA g_RO g_TG g_TB g_CO g_NU g_LI g_DK g_TW g_NE g_NR g_IR : Addr} (X : K.In h) (G : h.Ns mainGlobals mg) (hfa : mg "law" = some (.ref fa))
    {iNW ccNW cdNW : Addr} {ocNW kVNW dcNW pmNW ctNW clNW cclNW : Value} {odNW anNW cldNW cddNW : Option Addr} {slNW cslNW ccsNW : Array (Option Value)} {vsNW : Array Value} {flNW : Str} {tfNW : Tok}
    {iBA ccBA cdBA : Addr} {ocBA kVBA dcBA pmBA ctBA clBA cclBA : Value} {odBA anBA cldBA cddBA : Option Addr} {slBA cslBA ccsBA : Array (Option Value)} {vsBA : Array Value} {flBA : Str} {tfBA : Tok}
    {iDE ccDE cdDE : Addr} {ocDE kVDE dcDE pmDE ctDE clDE cclDE : Value} {odDE anDE cldDE cddDE : Option Addr} {slDE cslDE ccsDE : Array (Option Value)} {vsDE : Array Value} {flDE : Str} {tfDE : Tok}
    {iTX ccTX cdTX : Addr} {ocTX kVTX dcTX pmTX ctTX clTX cclTX : Value} {odTX anTX cldTX cddTX : Option Addr} {slTX cslTX ccsTX : Array (Option Value)} {vsTX : Array Value} {flTX : Str} {tfTX : Tok}
    {iBK ccBK cdBK : Addr} {ocBK kVBK dcBK pmBK ctBK clBK cclBK : Value} {odBK anBK cldBK cddBK : Option Addr} {slBK cslBK ccsBK : Array (Option Value)} {vsBK : Array Value} {flBK : Str} {tfBK : Tok}
    {iKI ccKI cdKI : Addr} {ocKI kVKI dcKI pmKI ctKI clKI cclKI : Value} {odKI anKI cldKI cddKI : Option Addr} {slKI cslKI ccsKI : Array (Option Value)} {vsKI : Array Value} {flKI : Str} {tfKI : Tok}
    {iTR ccTR cdTR : Addr} {ocTR kVTR dcTR pmTR ctTR clTR cclTR : Value} {odTR anTR cldTR cddTR : Option Addr} {slTR cslTR ccsTR : Array (Option Value)} {vsTR : Array Value} {flTR : Str} {tfTR : Tok}
    {iNA ccNA cdNA : Addr} {ocNA kVNA dcNA pmNA ctNA clNA cclNA : Value} {odNA anNA cldNA cddNA : Option Addr} {slNA cslNA ccsNA : Array (Option Value)} {vsNA : Array Value} {flNA : Str} {tfNA : Tok}
    {iJU ccJU cdJU : Addr} {ocJU kVJU dcJU pmJU ctJU clJU cclJU : Value} {odJU anJU cldJU cddJU : Option Addr} {slJU cslJU ccsJU : Array (Option Value)} {vsJU : Array Value} {flJU : Str} {tfJU : Tok}
    {iTU ccTU cdTU : Addr} {ocTU kVTU dcTU pmTU ctTU clTU cclTU : Value} {odTU anTU cldTU cddTU : Option Addr} {slTU cslTU ccsTU : Array (Option Value)} {vsTU : Array Value} {flTU : Str} {tfTU : Tok}
    {iPA ccPA cdPA : Addr} {ocPA kVPA dcPA pmPA ctPA clPA cclPA : Value} {odPA anPA cldPA cddPA : Option Addr} {slPA cslPA ccsPA : Array (Option Value)} {vsPA : Array Value} {flPA : Str} {tfPA : Tok}
    {iRO ccRO cdRO : Addr} {ocRO kVRO dcRO pmRO ctRO clRO cclRO : Value} {odRO anRO cldRO cddRO : Option Addr} {slRO cslRO ccsRO : Array (Option Value)} {vsRO : Array Value} {flRO : Str} {tfRO : Tok}
    {iTG ccTG cdTG : Addr} {ocTG kVTG dcTG pmTG ctTG clTG cclTG : Value} {odTG anTG cldTG cddTG : Option Addr} {slTG cslTG ccsTG : Array (Option Value)} {vsTG : Array Value} {flTG : Str} {tfTG : Tok}
    {iTB ccTB cdTB : Addr} {ocTB kVTB dcTB pmTB ctTB clTB cclTB : Value} {odTB anTB cldTB cddTB : Option Addr} {slTB cslTB ccsTB : Array (Option Value)} {vsTB : Array Value} {flTB : Str} {tfTB : Tok}
    {iCO ccCO cdCO : Addr} {ocCO kVCO dcCO pmCO ctCO clCO cclCO : Value} {odCO anCO cldCO cddCO : Option Addr} {slCO cslCO ccsCO : Array (Option Value)} {vsCO : Array Value} {flCO : Str} {tfCO : Tok}
    {iNU ccNU cdNU : Addr} {ocNU kVNU dcNU pmNU ctNU clNU cclNU : Value} {odNU anNU cldNU cddNU : Option Addr} {slNU cslNU ccsNU : Array (Option Value)} {vsNU : Array Value} {flNU : Str} {tfNU : Tok}
    {iLI ccLI cdLI : Addr} {ocLI kVLI dcLI pmLI ctLI clLI cclLI : Value} {odLI anLI cldLI cddLI : Option Addr} {slLI cslLI ccsLI : Array (Option Value)} {vsLI : Array Value} {flLI : Str} {tfLI : Tok}
    {iDK ccDK cdDK : Addr} {ocDK kVDK dcDK pmDK ctDK clDK cclDK : Value} {odDK anDK cldDK cddDK : Option Addr} {slDK cslDK ccsDK : Array (Option Value)} {vsDK : Array Value} {flDK : Str} {tfDK : Tok}
    {f_ct : Addr} {occt kVct dcct pmct cdct ctct : Value} {odct anct : Option Addr} {slct : Array (Option Value)}
    {f_cl : Addr} {occl kVcl dccl pmcl cdcl ctcl : Value} {odcl ancl : Option Addr} {slcl : Array (Option Value)}
    {f_oo : Addr} {ocoo kVoo dcoo pmoo cdoo ctoo : Value} {odoo anoo : Option Addr} {sloo : Array (Option Value)}
    {f_lk : Addr} {oclk kVlk dclk pmlk cdlk ctlk : Value} {odlk anlk : Option Addr} {sllk : Array (Option Value)}
    {f_kp : Addr} {ockp kVkp dckp pmkp cdkp ctkp : Value} {odkp ankp : Option Addr} {slkp : Array (Option Value)}
    {f_lw : Addr} {oclw kVlw dclw pmlw cdlw ctlw : Value} {odlw anlw : Option Addr} {sllw : Array (Option Value)}
    (cCB : PySem.W.nsIn K mainGlobals "BinderError" = some (some (.ref g_CB)))
    (bCB : clsB K g_CB g_CB = true)
    (aCB : PySem.W.findIn K (.ref g_CB) "__init__" = some (some (.builtin "Exception.__init__")))
    (cNW : PySem.W.nsIn K mainGlobals "NotWellRead" = some (some (.ref g_NW)))
    (bNW : clsB K g_CB g_NW = true)
    (aNW : PySem.W.findIn K (.ref g_NW) "__init__" = some (some (.ref iNW)))
    (lNW : K.lookup iNW = some ⟨ocNW, odNW, .func (PySem.W.ksFn "__init__" "NotWellRead.__init__" (fnArgs (inClass (top 2) 0)) (fnBody (inClass (top 2) 0)) (fnScope (inClass (top 2) 0)) .none kVNW dcNW pmNW anNW (.ref cdNW) ctNW ccNW), slNW⟩)
    (uNW : K.lookup ccNW = some ⟨clNW, cldNW, .cell (some (.ref g_NW)), cslNW⟩)
    (wNW : K.lookup cdNW = some ⟨cclNW, cddNW, .fields vsNW, ccsNW⟩)
    (vNW : vsNW[2]? = some (.str flNW tfNW))
    (fNW : ((prog.main.file : Str) == flNW) = true)
    (nNW : iniB K g_NW iNW "NotWellRead.__init__" (.ref cdNW) = true)
    (gNW : fldB K g_NW "row" = true)
    (hNW : fldB K g_NW "word" = true)
    (cBA : PySem.W.nsIn K mainGlobals "Barred" = some (some (.ref g_BA)))
    (bBA : clsB K g_CB g_BA = true)
    (aBA : PySem.W.findIn K (.ref g_BA) "__init__" = some (some (.ref iBA)))
    (lBA : K.lookup iBA = some ⟨ocBA, odBA, .func (PySem.W.ksFn "__init__" "Barred.__init__" (fnArgs (inClass (top 3) 0)) (fnBody (inClass (top 3) 0)) (fnScope (inClass (top 3) 0)) .none kVBA dcBA pmBA anBA (.ref cdBA) ctBA ccBA), slBA⟩)
    (uBA : K.lookup ccBA = some ⟨clBA, cldBA, .cell (some (.ref g_BA)), cslBA⟩)
    (wBA : K.lookup cdBA = some ⟨cclBA, cddBA, .fields vsBA, ccsBA⟩)
    (vBA : vsBA[2]? = some (.str flBA tfBA))
    (fBA : ((prog.main.file : Str) == flBA) = true)
    (nBA : iniB K g_BA iBA "Barred.__init__" (.ref cdBA) = true)
    (gBA : fldB K g_BA "reason" = true)
    (cDE : PySem.W.nsIn K mainGlobals "InvalidDeed" = some (some (.ref g_DE)))
    (bDE : clsB K g_CB g_DE = true)
    (aDE : PySem.W.findIn K (.ref g_DE) "__init__" = some (some (.ref iDE)))
    (lDE : K.lookup iDE = some ⟨ocDE, odDE, .func (PySem.W.ksFn "__init__" "InvalidDeed.__init__" (fnArgs (inClass (top 4) 0)) (fnBody (inClass (top 4) 0)) (fnScope (inClass (top 4) 0)) .none kVDE dcDE pmDE anDE (.ref cdDE) ctDE ccDE), slDE⟩)
    (uDE : K.lookup ccDE = some ⟨clDE, cldDE, .cell (some (.ref g_DE)), cslDE⟩)
    (wDE : K.lookup cdDE = some ⟨cclDE, cddDE, .fields vsDE, ccsDE⟩)
    (vDE : vsDE[2]? = some (.str flDE tfDE))
    (fDE : ((prog.main.file : Str) == flDE) = true)
    (nDE : iniB K g_DE iDE "InvalidDeed.__init__" (.ref cdDE) = true)
    (gDE : fldB K g_DE "index" = true)
    (cTW : PySem.W.nsIn K mainGlobals "TooWide" = some (some (.ref g_TW)))
    (bTW : clsB K g_CB g_TW = true)
    (aTW : PySem.W.findIn K (.ref g_TW) "__init__" = some (some (.builtin "Exception.__init__")))
    (cNE : PySem.W.nsIn K mainGlobals "Never" = some (some (.ref g_NE)))
    (bNE : clsB K g_CB g_NE = true)
    (aNE : PySem.W.findIn K (.ref g_NE) "__init__" = some (some (.builtin "Exception.__init__")))
    (cNR : PySem.W.nsIn K mainGlobals "NotRight" = some (some (.ref g_NR)))
    (bNR : clsB K g_CB g_NR = true)
    (aNR : PySem.W.findIn K (.ref g_NR) "__init__" = some (some (.builtin "Exception.__init__")))
    (cIR : PySem.W.nsIn K mainGlobals "IsRight" = some (some (.ref g_IR)))
    (bIR : clsB K g_CB g_IR = true)
    (aIR : PySem.W.findIn K (.ref g_IR) "__init__" = some (some (.builtin "Exception.__init__")))
    (cTX : PySem.W.nsIn K mainGlobals "InvalidText" = some (some (.ref g_TX)))
    (bTX : clsB K g_CB g_TX = true)
    (aTX : PySem.W.findIn K (.ref g_TX) "__init__" = some (some (.ref iTX)))
    (lTX : K.lookup iTX = some ⟨ocTX, odTX, .func (PySem.W.ksFn "__init__" "InvalidText.__init__" (fnArgs (inClass (top 9) 0)) (fnBody (inClass (top 9) 0)) (fnScope (inClass (top 9) 0)) .none kVTX dcTX pmTX anTX (.ref cdTX) ctTX ccTX), slTX⟩)
    (uTX : K.lookup ccTX = some ⟨clTX, cldTX, .cell (some (.ref g_TX)), cslTX⟩)
    (wTX : K.lookup cdTX = some ⟨cclTX, cddTX, .fields vsTX, ccsTX⟩)
    (vTX : vsTX[2]? = some (.str flTX tfTX))
    (fTX : ((prog.main.file : Str) == flTX) = true)
    (nTX : iniB K g_TX iTX "InvalidText.__init__" (.ref cdTX) = true)
    (gTX : fldB K g_TX "given" = true)
    (cBK : PySem.W.nsIn K mainGlobals "InvalidBook" = some (some (.ref g_BK)))
    (bBK : clsB K g_CB g_BK = true)
    (aBK : PySem.W.findIn K (.ref g_BK) "__init__" = some (some (.ref iBK)))
    (lBK : K.lookup iBK = some ⟨ocBK, odBK, .func (PySem.W.ksFn "__init__" "InvalidBook.__init__" (fnArgs (inClass (top 10) 0)) (fnBody (inClass (top 10) 0)) (fnScope (inClass (top 10) 0)) .none kVBK dcBK pmBK anBK (.ref cdBK) ctBK ccBK), slBK⟩)
    (uBK : K.lookup ccBK = some ⟨clBK, cldBK, .cell (some (.ref g_BK)), cslBK⟩)
    (wBK : K.lookup cdBK = some ⟨cclBK, cddBK, .fields vsBK, ccsBK⟩)
    (vBK : vsBK[2]? = some (.str flBK tfBK))
    (fBK : ((prog.main.file : Str) == flBK) = true)
    (nBK : iniB K g_BK iBK "InvalidBook.__init__" (.ref cdBK) = true)
    (gBK : fldB K g_BK "given" = true)
    (cKI : PySem.W.nsIn K mainGlobals "InvalidKind" = some (some (.ref g_KI)))
    (bKI : clsB K g_CB g_KI = true)
    (aKI : PySem.W.findIn K (.ref g_KI) "__init__" = some (some (.ref iKI)))
    (lKI : K.lookup iKI = some ⟨ocKI, odKI, .func (PySem.W.ksFn "__init__" "InvalidKind.__init__" (fnArgs (inClass (top 11) 0)) (fnBody (inClass (top 11) 0)) (fnScope (inClass (top 11) 0)) .none kVKI dcKI pmKI anKI (.ref cdKI) ctKI ccKI), slKI⟩)
    (uKI : K.lookup ccKI = some ⟨clKI, cldKI, .cell (some (.ref g_KI)), cslKI⟩)
    (wKI : K.lookup cdKI = some ⟨cclKI, cddKI, .fields vsKI, ccsKI⟩)
    (vKI : vsKI[2]? = some (.str flKI tfKI))
    (fKI : ((prog.main.file : Str) == flKI) = true)
    (nKI : iniB K g_KI iKI "InvalidKind.__init__" (.ref cdKI) = true)
    (gKI : fldB K g_KI "given" = true)
    (cTR : PySem.W.nsIn K mainGlobals "InvalidTree" = some (some (.ref g_TR)))
    (bTR : clsB K g_CB g_TR = true)
    (aTR : PySem.W.findIn K (.ref g_TR) "__init__" = some (some (.ref iTR)))
    (lTR : K.lookup iTR = some ⟨ocTR, odTR, .func (PySem.W.ksFn "__init__" "InvalidTree.__init__" (fnArgs (inClass (top 12) 0)) (fnBody (inClass (top 12) 0)) (fnScope (inClass (top 12) 0)) .none kVTR dcTR pmTR anTR (.ref cdTR) ctTR ccTR), slTR⟩)
    (uTR : K.lookup ccTR = some ⟨clTR, cldTR, .cell (some (.ref g_TR)), cslTR⟩)
    (wTR : K.lookup cdTR = some ⟨cclTR, cddTR, .fields vsTR, ccsTR⟩)
    (vTR : vsTR[2]? = some (.str flTR tfTR))
    (fTR : ((prog.main.file : Str) == flTR) = true)
    (nTR : iniB K g_TR iTR "InvalidTree.__init__" (.ref cdTR) = true)
    (gTR : fldB K g_TR "given" = true)
    (cNA : PySem.W.nsIn K mainGlobals "InvalidName" = some (some (.ref g_NA)))
    (bNA : clsB K g_CB g_NA = true)
    (aNA : PySem.W.findIn K (.ref g_NA) "__init__" = some (some (.ref iNA)))
    (lNA : K.lookup iNA = some ⟨ocNA, odNA, .func (PySem.W.ksFn "__init__" "InvalidName.__init__" (fnArgs (inClass (top 13) 0)) (fnBody (inClass (top 13) 0)) (fnScope (inClass (top 13) 0)) .none kVNA dcNA pmNA anNA (.ref cdNA) ctNA ccNA), slNA⟩)
    (uNA : K.lookup ccNA = some ⟨clNA, cldNA, .cell (some (.ref g_NA)), cslNA⟩)
    (wNA : K.lookup cdNA = some ⟨cclNA, cddNA, .fields vsNA, ccsNA⟩)
    (vNA : vsNA[2]? = some (.str flNA tfNA))
    (fNA : ((prog.main.file : Str) == flNA) = true)
    (nNA : iniB K g_NA iNA "InvalidName.__init__" (.ref cdNA) = true)
    (gNA : fldB K g_NA "given" = true)
    (cJU : PySem.W.nsIn K mainGlobals "InvalidJudge" = some (some (.ref g_JU)))
    (bJU : clsB K g_CB g_JU = true)
    (aJU : PySem.W.findIn K (.ref g_JU) "__init__" = some (some (.ref iJU)))
    (lJU : K.lookup iJU = some ⟨ocJU, odJU, .func (PySem.W.ksFn "__init__" "InvalidJudge.__init__" (fnArgs (inClass (top 14) 0)) (fnBody (inClass (top 14) 0)) (fnScope (inClass (top 14) 0)) .none kVJU dcJU pmJU anJU (.ref cdJU) ctJU ccJU), slJU⟩)
    (uJU : K.lookup ccJU = some ⟨clJU, cldJU, .cell (some (.ref g_JU)), cslJU⟩)
    (wJU : K.lookup cdJU = some ⟨cclJU, cddJU, .fields vsJU, ccsJU⟩)
    (vJU : vsJU[2]? = some (.str flJU tfJU))
    (fJU : ((prog.main.file : Str) == flJU) = true)
    (nJU : iniB K g_JU iJU "InvalidJudge.__init__" (.ref cdJU) = true)
    (gJU : fldB K g_JU "given" = true)
    (cTU : PySem.W.nsIn K mainGlobals "InvalidTurner" = some (some (.ref g_TU)))
    (bTU : clsB K g_CB g_TU = true)
    (aTU : PySem.W.findIn K (.ref g_TU) "__init__" = some (some (.ref iTU)))
    (lTU : K.lookup iTU = some ⟨ocTU, odTU, .func (PySem.W.ksFn "__init__" "InvalidTurner.__init__" (fnArgs (inClass (top 15) 0)) (fnBody (inClass (top 15) 0)) (fnScope (inClass (top 15) 0)) .none kVTU dcTU pmTU anTU (.ref cdTU) ctTU ccTU), slTU⟩)
    (uTU : K.lookup ccTU = some ⟨clTU, cldTU, .cell (some (.ref g_TU)), cslTU⟩)
    (wTU : K.lookup cdTU = some ⟨cclTU, cddTU, .fields vsTU, ccsTU⟩)
    (vTU : vsTU[2]? = some (.str flTU tfTU))
    (fTU : ((prog.main.file : Str) == flTU) = true)
    (nTU : iniB K g_TU iTU "InvalidTurner.__init__" (.ref cdTU) = true)
    (gTU : fldB K g_TU "given" = true)
    (cPA : PySem.W.nsIn K mainGlobals "InvalidPath" = some (some (.ref g_PA)))
    (bPA : clsB K g_CB g_PA = true)
    (aPA : PySem.W.findIn K (.ref g_PA) "__init__" = some (some (.ref iPA)))
    (lPA : K.lookup iPA = some ⟨ocPA, odPA, .func (PySem.W.ksFn "__init__" "InvalidPath.__init__" (fnArgs (inClass (top 16) 0)) (fnBody (inClass (top 16) 0)) (fnScope (inClass (top 16) 0)) .none kVPA dcPA pmPA anPA (.ref cdPA) ctPA ccPA), slPA⟩)
    (uPA : K.lookup ccPA = some ⟨clPA, cldPA, .cell (some (.ref g_PA)), cslPA⟩)
    (wPA : K.lookup cdPA = some ⟨cclPA, cddPA, .fields vsPA, ccsPA⟩)
    (vPA : vsPA[2]? = some (.str flPA tfPA))
    (fPA : ((prog.main.file : Str) == flPA) = true)
    (nPA : iniB K g_PA iPA "InvalidPath.__init__" (.ref cdPA) = true)
    (gPA : fldB K g_PA "given" = true)
    (cRO : PySem.W.nsIn K mainGlobals "InvalidRow" = some (some (.ref g_RO)))
    (bRO : clsB K g_CB g_RO = true)
    (aRO : PySem.W.findIn K (.ref g_RO) "__init__" = some (some (.ref iRO)))
    (lRO : K.lookup iRO = some ⟨ocRO, odRO, .func (PySem.W.ksFn "__init__" "InvalidRow.__init__" (fnArgs (inClass (top 17) 0)) (fnBody (inClass (top 17) 0)) (fnScope (inClass (top 17) 0)) .none kVRO dcRO pmRO anRO (.ref cdRO) ctRO ccRO), slRO⟩)
    (uRO : K.lookup ccRO = some ⟨clRO, cldRO, .cell (some (.ref g_RO)), cslRO⟩)
    (wRO : K.lookup cdRO = some ⟨cclRO, cddRO, .fields vsRO, ccsRO⟩)
    (vRO : vsRO[2]? = some (.str flRO tfRO))
    (fRO : ((prog.main.file : Str) == flRO) = true)
    (nRO : iniB K g_RO iRO "InvalidRow.__init__" (.ref cdRO) = true)
    (gRO : fldB K g_RO "given" = true)
    (cTG : PySem.W.nsIn K mainGlobals "InvalidTarget" = some (some (.ref g_TG)))
    (bTG : clsB K g_CB g_TG = true)
    (aTG : PySem.W.findIn K (.ref g_TG) "__init__" = some (some (.ref iTG)))
    (lTG : K.lookup iTG = some ⟨ocTG, odTG, .func (PySem.W.ksFn "__init__" "InvalidTarget.__init__" (fnArgs (inClass (top 18) 0)) (fnBody (inClass (top 18) 0)) (fnScope (inClass (top 18) 0)) .none kVTG dcTG pmTG anTG (.ref cdTG) ctTG ccTG), slTG⟩)
    (uTG : K.lookup ccTG = some ⟨clTG, cldTG, .cell (some (.ref g_TG)), cslTG⟩)
    (wTG : K.lookup cdTG = some ⟨cclTG, cddTG, .fields vsTG, ccsTG⟩)
    (vTG : vsTG[2]? = some (.str flTG tfTG))
    (fTG : ((prog.main.file : Str) == flTG) = true)
    (nTG : iniB K g_TG iTG "InvalidTarget.__init__" (.ref cdTG) = true)
    (gTG : fldB K g_TG "given" = true)
    (cTB : PySem.W.nsIn K mainGlobals "InvalidTable" = some (some (.ref g_TB)))
    (bTB : clsB K g_CB g_TB = true)
    (aTB : PySem.W.findIn K (.ref g_TB) "__init__" = some (some (.ref iTB)))
    (lTB : K.lookup iTB = some ⟨ocTB, odTB, .func (PySem.W.ksFn "__init__" "InvalidTable.__init__" (fnArgs (inClass (top 19) 0)) (fnBody (inClass (top 19) 0)) (fnScope (inClass (top 19) 0)) .none kVTB dcTB pmTB anTB (.ref cdTB) ctTB ccTB), slTB⟩)
    (uTB : K.lookup ccTB = some ⟨clTB, cldTB, .cell (some (.ref g_TB)), cslTB⟩)
    (wTB : K.lookup cdTB = some ⟨cclTB, cddTB, .fields vsTB, ccsTB⟩)
    (vTB : vsTB[2]? = some (.str flTB tfTB))
    (fTB : ((prog.main.file : Str) == flTB) = true)
    (nTB : iniB K g_TB iTB "InvalidTable.__init__" (.ref cdTB) = true)
    (gTB : fldB K g_TB "given" = true)
    (cCO : PySem.W.nsIn K mainGlobals "InvalidCode" = some (some (.ref g_CO)))
    (bCO : clsB K g_CB g_CO = true)
    (aCO : PySem.W.findIn K (.ref g_CO) "__init__" = some (some (.ref iCO)))
    (lCO : K.lookup iCO = some ⟨ocCO, odCO, .func (PySem.W.ksFn "__init__" "InvalidCode.__init__" (fnArgs (inClass (top 20) 0)) (fnBody (inClass (top 20) 0)) (fnScope (inClass (top 20) 0)) .none kVCO dcCO pmCO anCO (.ref cdCO) ctCO ccCO), slCO⟩)
    (uCO : K.lookup ccCO = some ⟨clCO, cldCO, .cell (some (.ref g_CO)), cslCO⟩)
    (wCO : K.lookup cdCO = some ⟨cclCO, cddCO, .fields vsCO, ccsCO⟩)
    (vCO : vsCO[2]? = some (.str flCO tfCO))
    (fCO : ((prog.main.file : Str) == flCO) = true)
    (nCO : iniB K g_CO iCO "InvalidCode.__init__" (.ref cdCO) = true)
    (gCO : fldB K g_CO "given" = true)
    (cNU : PySem.W.nsIn K mainGlobals "InvalidNumber" = some (some (.ref g_NU)))
    (bNU : clsB K g_CB g_NU = true)
    (aNU : PySem.W.findIn K (.ref g_NU) "__init__" = some (some (.ref iNU)))
    (lNU : K.lookup iNU = some ⟨ocNU, odNU, .func (PySem.W.ksFn "__init__" "InvalidNumber.__init__" (fnArgs (inClass (top 21) 0)) (fnBody (inClass (top 21) 0)) (fnScope (inClass (top 21) 0)) .none kVNU dcNU pmNU anNU (.ref cdNU) ctNU ccNU), slNU⟩)
    (uNU : K.lookup ccNU = some ⟨clNU, cldNU, .cell (some (.ref g_NU)), cslNU⟩)
    (wNU : K.lookup cdNU = some ⟨cclNU, cddNU, .fields vsNU, ccsNU⟩)
    (vNU : vsNU[2]? = some (.str flNU tfNU))
    (fNU : ((prog.main.file : Str) == flNU) = true)
    (nNU : iniB K g_NU iNU "InvalidNumber.__init__" (.ref cdNU) = true)
    (gNU : fldB K g_NU "given" = true)
    (cLI : PySem.W.nsIn K mainGlobals "InvalidLine" = some (some (.ref g_LI)))
    (bLI : clsB K g_CB g_LI = true)
    (aLI : PySem.W.findIn K (.ref g_LI) "__init__" = some (some (.ref iLI)))
    (lLI : K.lookup iLI = some ⟨ocLI, odLI, .func (PySem.W.ksFn "__init__" "InvalidLine.__init__" (fnArgs (inClass (top 22) 0)) (fnBody (inClass (top 22) 0)) (fnScope (inClass (top 22) 0)) .none kVLI dcLI pmLI anLI (.ref cdLI) ctLI ccLI), slLI⟩)
    (uLI : K.lookup ccLI = some ⟨clLI, cldLI, .cell (some (.ref g_LI)), cslLI⟩)
    (wLI : K.lookup cdLI = some ⟨cclLI, cddLI, .fields vsLI, ccsLI⟩)
    (vLI : vsLI[2]? = some (.str flLI tfLI))
    (fLI : ((prog.main.file : Str) == flLI) = true)
    (nLI : iniB K g_LI iLI "InvalidLine.__init__" (.ref cdLI) = true)
    (gLI : fldB K g_LI "given" = true)
    (cDK : PySem.W.nsIn K mainGlobals "NotADesk" = some (some (.ref g_DK)))
    (bDK : clsB K g_CB g_DK = true)
    (aDK : PySem.W.findIn K (.ref g_DK) "__init__" = some (some (.ref iDK)))
    (lDK : K.lookup iDK = some ⟨ocDK, odDK, .func (PySem.W.ksFn "__init__" "NotADesk.__init__" (fnArgs (inClass (top 23) 0)) (fnBody (inClass (top 23) 0)) (fnScope (inClass (top 23) 0)) .none kVDK dcDK pmDK anDK (.ref cdDK) ctDK ccDK), slDK⟩)
    (uDK : K.lookup ccDK = some ⟨clDK, cldDK, .cell (some (.ref g_DK)), cslDK⟩)
    (wDK : K.lookup cdDK = some ⟨cclDK, cddDK, .fields vsDK, ccsDK⟩)
    (vDK : vsDK[2]? = some (.str flDK tfDK))
    (fDK : ((prog.main.file : Str) == flDK) = true)
    (nDK : iniB K g_DK iDK "NotADesk.__init__" (.ref cdDK) = true)
    (gDK : fldB K g_DK "given" = true)
    (isCB : PySem.W.isClsIn K g_CB = true)
    (tyCB : PySem.W.typeIn K (.ref g_CB) = some (.type "type"))
    (z_super : PySem.W.nsIn K mainGlobals "super" = some none)
    (z_len : PySem.W.nsIn K mainGlobals "len" = some none)
    (z_isinstance : PySem.W.nsIn K mainGlobals "isinstance" = some none)
    (z_Exception : PySem.W.nsIn K mainGlobals "Exception" = some none)
    (z_divmod : PySem.W.nsIn K mainGlobals "divmod" = some none)
    (z_int : PySem.W.nsIn K mainGlobals "int" = some none)
    (z_enumerate : PySem.W.nsIn K mainGlobals "enumerate" = some none)
    (z_list : PySem.W.nsIn K mainGlobals "list" = some none)
    (z_abs : PySem.W.nsIn K mainGlobals "abs" = some none)
    (z_repr : PySem.W.nsIn K mainGlobals "repr" = some none)
    (qct : PySem.W.nsIn K mainGlobals "_law_court" = some (some (.ref f_ct)))
    (rct : K.lookup f_ct = some ⟨occt, odct, .func (PySem.W.fnOf "_law_court" "_law_court" (fnArgs sCourt) (fnBody sCourt) (fnScope sCourt) .none kVct dcct pmct anct cdct ctct), slct⟩)
    (sct : PySem.W.codeIn K cdct "_law_court" = true)
    (kct : PySem.W.keepIn K (.ref f_ct) = true)
    (qcl : PySem.W.nsIn K mainGlobals "_law_call" = some (some (.ref f_cl)))
    (rcl : K.lookup f_cl = some ⟨occl, odcl, .func (PySem.W.fnOf "_law_call" "_law_call" (fnArgs sCall) (fnBody sCall) (fnScope sCall) .none kVcl dccl pmcl ancl cdcl ctcl), slcl⟩)
    (scl : PySem.W.codeIn K cdcl "_law_call" = true)
    (kcl : PySem.W.keepIn K (.ref f_cl) = true)
    (qoo : PySem.W.nsIn K mainGlobals "_law_one_of" = some (some (.ref f_oo)))
    (roo : K.lookup f_oo = some ⟨ocoo, odoo, .func (PySem.W.fnOf "_law_one_of" "_law_one_of" (fnArgs sOne) (fnBody sOne) (fnScope sOne) .none kVoo dcoo pmoo anoo cdoo ctoo), sloo⟩)
    (soo : PySem.W.codeIn K cdoo "_law_one_of" = true)
    (koo : PySem.W.keepIn K (.ref f_oo) = true)
    (qlk : PySem.W.nsIn K mainGlobals "_law_like" = some (some (.ref f_lk)))
    (rlk : K.lookup f_lk = some ⟨oclk, odlk, .func (PySem.W.fnOf "_law_like" "_law_like" (fnArgs sLike) (fnBody sLike) (fnScope sLike) .none kVlk dclk pmlk anlk cdlk ctlk), sllk⟩)
    (slk : PySem.W.codeIn K cdlk "_law_like" = true)
    (klk : PySem.W.keepIn K (.ref f_lk) = true)
    (qkp : PySem.W.nsIn K mainGlobals "_law_do_keep" = some (some (.ref f_kp)))
    (rkp : K.lookup f_kp = some ⟨ockp, odkp, .func (PySem.W.fnOf "_law_do_keep" "_law_do_keep" (fnArgs sKeep) (fnBody sKeep) (fnScope sKeep) .none kVkp dckp pmkp ankp cdkp ctkp), slkp⟩)
    (skp : PySem.W.codeIn K cdkp "_law_do_keep" = true)
    (kkp : PySem.W.keepIn K (.ref f_kp) = true)
    (qlw : PySem.W.nsIn K mainGlobals "law" = some (some (.ref f_lw)))
    (rlw : K.lookup f_lw = some ⟨oclw, odlw, .func (PySem.W.fnOf "law" "law" (fnArgs sLaw) (fnBody sLaw) (fnScope sLaw) .none kVlw dclw pmlw anlw cdlw ctlw), sllw⟩)
    (slw : PySem.W.codeIn K cdlw "law" = true)
    (klw : PySem.W.keepIn K (.ref f_lw) = true) :
    ∃ fd : FuncData, (∀ (s : Shared) (v : Value), BindsTo s fd ⟨[v], []⟩ [("cells", v)]) ∧ ∀ base : Heap, K.In base → base.Ns mainGlobals mg → FnG prog w K mg base 4 fa fd ["cells"] (spLaw K) := by
  have top : (prog.main.scope.names.lookup ("super" : Str)).isSome = false := by kernel_rfl
  have t_cb : Er0 K mg "BinderError" g_CB g_CB := er0_mk X G cCB bCB aCB
  have t_nw : Er2 prog K mg "NotWellRead" "row" "word" g_CB g_NW := er2_mk X G cNW bNW aNW lNW uNW wNW vNW fNW top nNW gNW hNW (by kernel_rfl) (by rfl) (by rfl) (by kernel_rfl) (by kernel_rfl) (by kernel_rfl) (by kernel_rfl) (by rfl) (fun _ _ _ => rfl) (fun _ _ _ => rfl) (fun _ _ _ _ _ _ _ _ _ _ => rfl) (fun _ _ _ _ _ _ _ _ _ _ => rfl)
  have t_ba : Er1 prog K mg "Barred" "reason" g_CB g_BA := er1_mk X G cBA bBA aBA lBA uBA wBA vBA fBA top nBA gBA (by kernel_rfl) (by rfl) (by rfl) (by kernel_rfl) (by kernel_rfl) (by kernel_rfl) (by rfl) (fun _ _ _ _ _ _ _ _ _ => rfl) (fun _ _ _ _ _ _ _ _ _ => rfl)
  have t_de : Er1 prog K mg "InvalidDeed" "index" g_CB g_DE := er1_mk X G cDE bDE aDE lDE uDE wDE vDE fDE top nDE gDE (by kernel_rfl) (by rfl) (by rfl) (by kernel_rfl) (by kernel_rfl) (by kernel_rfl) (by rfl) (fun _ _ _ _ _ _ _ _ _ => rfl) (fun _ _ _ _ _ _ _ _ _ => rfl)
  have t_tw : Er0 K mg "TooWide" g_CB g_TW := er0_mk X G cTW bTW aTW
  have t_ne : Er0 K mg "Never" g_CB g_NE := er0_mk X G cNE bNE aNE
  have t_nr : Er0 K mg "NotRight" g_CB g_NR := er0_mk X G cNR bNR aNR
  have t_ir : Er0 K mg "IsRight" g_CB g_IR := er0_mk X G cIR bIR aIR
  have t_tx : Er1 prog K mg "InvalidText" "given" g_CB g_TX := er1_mk X G cTX bTX aTX lTX uTX wTX vTX fTX top nTX gTX (by kernel_rfl) (by rfl) (by rfl) (by kernel_rfl) (by kernel_rfl) (by kernel_rfl) (by rfl) (fun _ _ _ _ _ _ _ _ _ => rfl) (fun _ _ _ _ _ _ _ _ _ => rfl)
  have t_bk : Er1 prog K mg "InvalidBook" "given" g_CB g_BK := er1_mk X G cBK bBK aBK lBK uBK wBK vBK fBK top nBK gBK (by kernel_rfl) (by rfl) (by rfl) (by kernel_rfl) (by kernel_rfl) (by kernel_rfl) (by rfl) (fun _ _ _ _ _ _ _ _ _ => rfl) (fun _ _ _ _ _ _ _ _ _ => rfl)
  have t_ki : Er1 prog K mg "InvalidKind" "given" g_CB g_KI := er1_mk X G cKI bKI aKI lKI uKI wKI vKI fKI top nKI gKI (by kernel_rfl) (by rfl) (by rfl) (by kernel_rfl) (by kernel_rfl) (by kernel_rfl) (by rfl) (fun _ _ _ _ _ _ _ _ _ => rfl) (fun _ _ _ _ _ _ _ _ _ => rfl)
  have t_tr : Er1 prog K mg "InvalidTree" "given" g_CB g_TR := er1_mk X G cTR bTR aTR lTR uTR wTR vTR fTR top nTR gTR (by kernel_rfl) (by rfl) (by rfl) (by kernel_rfl) (by kernel_rfl) (by kernel_rfl) (by rfl) (fun _ _ _ _ _ _ _ _ _ => rfl) (fun _ _ _ _ _ _ _ _ _ => rfl)
  have t_na : Er1 prog K mg "InvalidName" "given" g_CB g_NA := er1_mk X G cNA bNA aNA lNA uNA wNA vNA fNA top nNA gNA (by kernel_rfl) (by rfl) (by rfl) (by kernel_rfl) (by kernel_rfl) (by kernel_rfl) (by rfl) (fun _ _ _ _ _ _ _ _ _ => rfl) (fun _ _ _ _ _ _ _ _ _ => rfl)
  have t_ju : Er1 prog K mg "InvalidJudge" "given" g_CB g_JU := er1_mk X G cJU bJU aJU lJU uJU wJU vJU fJU top nJU gJU (by kernel_rfl) (by rfl) (by rfl) (by kernel_rfl) (by kernel_rfl) (by kernel_rfl) (by rfl) (fun _ _ _ _ _ _ _ _ _ => rfl) (fun _ _ _ _ _ _ _ _ _ => rfl)
  have t_tu : Er1 prog K mg "InvalidTurner" "given" g_CB g_TU := er1_mk X G cTU bTU aTU lTU uTU wTU vTU fTU top nTU gTU (by kernel_rfl) (by rfl) (by rfl) (by kernel_rfl) (by kernel_rfl) (by kernel_rfl) (by rfl) (fun _ _ _ _ _ _ _ _ _ => rfl) (fun _ _ _ _ _ _ _ _ _ => rfl)
  have t_pa : Er1 prog K mg "InvalidPath" "given" g_CB g_PA := er1_mk X G cPA bPA aPA lPA uPA wPA vPA fPA top nPA gPA (by kernel_rfl) (by rfl) (by rfl) (by kernel_rfl) (by kernel_rfl) (by kernel_rfl) (by rfl) (fun _ _ _ _ _ _ _ _ _ => rfl) (fun _ _ _ _ _ _ _ _ _ => rfl)
  have t_ro : Er1 prog K mg "InvalidRow" "given" g_CB g_RO := er1_mk X G cRO bRO aRO lRO uRO wRO vRO fRO top nRO gRO (by kernel_rfl) (by rfl) (by rfl) (by kernel_rfl) (by kernel_rfl) (by kernel_rfl) (by rfl) (fun _ _ _ _ _ _ _ _ _ => rfl) (fun _ _ _ _ _ _ _ _ _ => rfl)
  have t_tg : Er1 prog K mg "InvalidTarget" "given" g_CB g_TG := er1_mk X G cTG bTG aTG lTG uTG wTG vTG fTG top nTG gTG (by kernel_rfl) (by rfl) (by rfl) (by kernel_rfl) (by kernel_rfl) (by kernel_rfl) (by rfl) (fun _ _ _ _ _ _ _ _ _ => rfl) (fun _ _ _ _ _ _ _ _ _ => rfl)
  have t_tb : Er1 prog K mg "InvalidTable" "given" g_CB g_TB := er1_mk X G cTB bTB aTB lTB uTB wTB vTB fTB top nTB gTB (by kernel_rfl) (by rfl) (by rfl) (by kernel_rfl) (by kernel_rfl) (by kernel_rfl) (by rfl) (fun _ _ _ _ _ _ _ _ _ => rfl) (fun _ _ _ _ _ _ _ _ _ => rfl)
  have t_co : Er1 prog K mg "InvalidCode" "given" g_CB g_CO := er1_mk X G cCO bCO aCO lCO uCO wCO vCO fCO top nCO gCO (by kernel_rfl) (by rfl) (by rfl) (by kernel_rfl) (by kernel_rfl) (by kernel_rfl) (by rfl) (fun _ _ _ _ _ _ _ _ _ => rfl) (fun _ _ _ _ _ _ _ _ _ => rfl)
  have t_nu : Er1 prog K mg "InvalidNumber" "given" g_CB g_NU := er1_mk X G cNU bNU aNU lNU uNU wNU vNU fNU top nNU gNU (by kernel_rfl) (by rfl) (by rfl) (by kernel_rfl) (by kernel_rfl) (by kernel_rfl) (by rfl) (fun _ _ _ _ _ _ _ _ _ => rfl) (fun _ _ _ _ _ _ _ _ _ => rfl)
  have t_li : Er1 prog K mg "InvalidLine" "given" g_CB g_LI := er1_mk X G cLI bLI aLI lLI uLI wLI vLI fLI top nLI gLI (by kernel_rfl) (by rfl) (by rfl) (by kernel_rfl) (by kernel_rfl) (by kernel_rfl) (by rfl) (fun _ _ _ _ _ _ _ _ _ => rfl) (fun _ _ _ _ _ _ _ _ _ => rfl)
  have t_dk : Er1 prog K mg "NotADesk" "given" g_CB g_DK := er1_mk X G cDK bDK aDK lDK uDK wDK vDK fDK top nDK gDK (by kernel_rfl) (by rfl) (by rfl) (by kernel_rfl) (by kernel_rfl) (by kernel_rfl) (by rfl) (fun _ _ _ _ _ _ _ _ _ => rfl) (fun _ _ _ _ _ _ _ _ _ => rfl)
  have F_ct : C8.Fun K "_law_court" "_law_court" sCourt f_ct (PySem.W.fnOf "_law_court" "_law_court" (fnArgs sCourt) (fnBody sCourt) (fnScope sCourt) .none kVct dcct pmct anct cdct ctct) := ⟨⟨_, _, _, _, _, _, _, _, _, _, rfl, rct, sct⟩⟩
  have B_ct := F_ct.binds rfl (ps := ["cells", "seat"]) fun _ _ _ _ _ _ us hl => match us, hl with | [_, _], _ => rfl
  have m_ct := PySem.W.mg_of X G qct
  have F_cl : C8.Fun K "_law_call" "_law_call" sCall f_cl (PySem.W.fnOf "_law_call" "_law_call" (fnArgs sCall) (fnBody sCall) (fnScope sCall) .none kVcl dccl pmcl ancl cdcl ctcl) := ⟨⟨_, _, _, _, _, _, _, _, _, _, rfl, rcl, scl⟩⟩
  have B_cl := F_cl.binds rfl (ps := ["court", "many"]) fun _ _ _ _ _ _ us hl => match us, hl with | [_, _], _ => rfl
  have m_cl := PySem.W.mg_of X G qcl
  have F_oo : C8.Fun K "_law_one_of" "_law_one_of" sOne f_oo (PySem.W.fnOf "_law_one_of" "_law_one_of" (fnArgs sOne) (fnBody sOne) (fnScope sOne) .none kVoo dcoo pmoo anoo cdoo ctoo) := ⟨⟨_, _, _, _, _, _, _, _, _, _, rfl, roo, soo⟩⟩
  have B_oo := F_oo.binds rfl (ps := ["court", "some"]) fun _ _ _ _ _ _ us hl => match us, hl with | [_, _], _ => rfl
  have m_oo := PySem.W.mg_of X G qoo
  have F_lk : C8.Fun K "_law_like" "_law_like" sLike f_lk (PySem.W.fnOf "_law_like" "_law_like" (fnArgs sLike) (fnBody sLike) (fnScope sLike) .none kVlk dclk pmlk anlk cdlk ctlk) := ⟨⟨_, _, _, _, _, _, _, _, _, _, rfl, rlk, slk⟩⟩
  have B_lk := F_lk.binds rfl (ps := ["seen", "due"]) fun _ _ _ _ _ _ us hl => match us, hl with | [_, _], _ => rfl
  have m_lk := PySem.W.mg_of X G qlk
  have F_kp : C8.Fun K "_law_do_keep" "_law_do_keep" sKeep f_kp (PySem.W.fnOf "_law_do_keep" "_law_do_keep" (fnArgs sKeep) (fnBody sKeep) (fnScope sKeep) .none kVkp dckp pmkp ankp cdkp ctkp) := ⟨⟨_, _, _, _, _, _, _, _, _, _, rfl, rkp, skp⟩⟩
  have B_kp := F_kp.binds rfl (ps := ["court"]) fun _ _ _ _ _ _ us hl => match us, hl with | [_], _ => rfl
  have m_kp := PySem.W.mg_of X G qkp
  have F_lw : C8.Fun K "law" "law" sLaw f_lw (PySem.W.fnOf "law" "law" (fnArgs sLaw) (fnBody sLaw) (fnScope sLaw) .none kVlw dclw pmlw anlw cdlw ctlw) := ⟨⟨_, _, _, _, _, _, _, _, _, _, rfl, rlw, slw⟩⟩
  have B_lw := F_lw.binds rfl (ps := ["cells"]) fun _ _ _ _ _ _ us hl => match us, hl with | [_], _ => rfl
  have m_lw := PySem.W.mg_of X G qlw
  have y_super := PySem.W.mg_none_of X G z_super
  have y_len := PySem.W.mg_none_of X G z_len
  have y_isinstance := PySem.W.mg_none_of X G z_isinstance
  have y_Exception := PySem.W.mg_none_of X G z_Exception
  have y_divmod := PySem.W.mg_none_of X G z_divmod
  have y_int := PySem.W.mg_none_of X G z_int
  have y_enumerate := PySem.W.mg_none_of X G z_enumerate
  have y_list := PySem.W.mg_none_of X G z_list
  have y_abs := PySem.W.mg_none_of X G z_abs
  have y_repr := PySem.W.mg_none_of X G z_repr
  have T : Txt prog K mg ⟨g_CB, g_NW, g_BA, g_DE, g_TX, g_BK, g_KI, g_TR, g_NA, g_JU, g_TU, g_PA, g_RO, g_TG, g_TB, g_CO, g_NU, g_LI, g_DK, g_TW, g_NE, g_NR, g_IR⟩ := { cb := t_cb, nw := t_nw, ba := t_ba, de := t_de, tw := t_tw, ne := t_ne, nr := t_nr, ir := t_ir, tx := t_tx, bk := t_bk, ki := t_ki, tr := t_tr, na := t_na, ju := t_ju, tu := t_tu, pa := t_pa, ro := t_ro, tg := t_tg, tb := t_tb, co := t_co, nu := t_nu, li := t_li, dk := t_dk, isCB := isCB, tyCB := tyCB }
  have e := hfa.symm.trans m_lw
  cases e
  refine ⟨PySem.W.fnOf "law" "law" (fnArgs sLaw) (fnBody sLaw) (fnScope sLaw) .none kVlw dclw pmlw anlw cdlw ctlw, fun s v => .of_eq rfl, fun base _ _ => ?_⟩
  have c1 := ok_call (P := prog) (w := w) (base := base) F_cl y_divmod y_int
  have c2 := ok_one F_oo c1 m_cl kcl B_cl y_len
  have c3 := ok_court (P := prog) (w := w) (base := base) F_ct y_enumerate y_list y_int y_abs
  have c4 := ok_like (P := prog) (w := w) (base := base) F_lk y_repr
  have c5 := ok_keep F_kp T c2 m_oo koo B_oo c1 m_cl kcl B_cl c4 m_lk klk B_lk y_super y_len y_isinstance y_Exception
  exact ok_law F_lw c3 m_ct kct B_ct c5 m_kp kkp B_kp
end K01

open PySem PySem.W PyProof.Rows in
set_option maxRecDepth 100000 in
set_option maxHeartbeats 0 in
theorem PySem.Challenge.cw_bindertongue_k01_errors_keep_what_is_bou_holds : PySem.Challenge.rw_bindertongue_k01_errors_keep_what_is_bou.Holds := by
  w_on; o_law; k_head; (case hw => w_witness2)
  k_fill
  refine Xo.walkG (n := 63) (k := 4) (x := "cells") (sp := K01.spLaw) (l := PySem.Challenge.rw_bindertongue_k01_errors_keep_what_is_bou) rfl (by decide) rfl ⟨rfl, by decide, by decide⟩ (fun w h Y => PySem.W.kIn_of Y) ?F (fun w H a ns hl hO hS => ⟨a, ns, rfl, hS, hO, hl, fun _ => rfl⟩)
  case F =>
    intro w mg fa h KX G hmg
    refine' K01.all_mk KX G hmg ?cCB ?bCB ?aCB ?cNW ?bNW ?aNW ?lNW ?uNW ?wNW ?vNW ?fNW ?nNW ?gNW ?hNW ?cBA ?bBA ?aBA ?lBA ?uBA ?wBA ?vBA ?fBA ?nBA ?gBA ?cDE ?bDE ?aDE ?lDE ?uDE ?wDE ?vDE ?fDE ?nDE ?gDE ?cTW ?bTW ?aTW ?cNE ?bNE ?aNE ?cNR ?bNR ?aNR ?cIR ?bIR ?aIR ?cTX ?bTX ?aTX ?lTX ?uTX ?wTX ?vTX ?fTX ?nTX ?gTX ?cBK ?bBK ?aBK ?lBK ?uBK ?wBK ?vBK ?fBK ?nBK ?gBK ?cKI ?bKI ?aKI ?lKI ?uKI ?wKI ?vKI ?fKI ?nKI ?gKI ?cTR ?bTR ?aTR ?lTR ?uTR ?wTR ?vTR ?fTR ?nTR ?gTR ?cNA ?bNA ?aNA ?lNA ?uNA ?wNA ?vNA ?fNA ?nNA ?gNA ?cJU ?bJU ?aJU ?lJU ?uJU ?wJU ?vJU ?fJU ?nJU ?gJU ?cTU ?bTU ?aTU ?lTU ?uTU ?wTU ?vTU ?fTU ?nTU ?gTU ?cPA ?bPA ?aPA ?lPA ?uPA ?wPA ?vPA ?fPA ?nPA ?gPA ?cRO ?bRO ?aRO ?lRO ?uRO ?wRO ?vRO ?fRO ?nRO ?gRO ?cTG ?bTG ?aTG ?lTG ?uTG ?wTG ?vTG ?fTG ?nTG ?gTG ?cTB ?bTB ?aTB ?lTB ?uTB ?wTB ?vTB ?fTB ?nTB ?gTB ?cCO ?bCO ?aCO ?lCO ?uCO ?wCO ?vCO ?fCO ?nCO ?gCO ?cNU ?bNU ?aNU ?lNU ?uNU ?wNU ?vNU ?fNU ?nNU ?gNU ?cLI ?bLI ?aLI ?lLI ?uLI ?wLI ?vLI ?fLI ?nLI ?gLI ?cDK ?bDK ?aDK ?lDK ?uDK ?wDK ?vDK ?fDK ?nDK ?gDK ?isCB ?tyCB ?z_super ?z_len ?z_isinstance ?z_Exception ?z_divmod ?z_int ?z_enumerate ?z_list ?z_abs ?z_repr ?qct ?rct ?sct ?kct ?qcl ?rcl ?scl ?kcl ?qoo ?roo ?soo ?koo ?qlk ?rlk ?slk ?klk ?qkp ?rkp ?skp ?kkp ?qlw ?rlw ?slw ?klw
    (case cCB => k_is)
    (case bCB => kernel_rfl)
    (case aCB => k_is)
    (case cNW => k_is)
    (case bNW => kernel_rfl)
    (case aNW => k_is)
    (case lNW => k_is)
    (case uNW => k_is)
    (case wNW => k_is)
    (case vNW => rfl)
    (case fNW => kernel_rfl)
    (case nNW => kernel_rfl)
    (case gNW => kernel_rfl)
    (case hNW => kernel_rfl)
    (case cBA => k_is)
    (case bBA => kernel_rfl)
    (case aBA => k_is)
    (case lBA => k_is)
    (case uBA => k_is)
    (case wBA => k_is)
    (case vBA => rfl)
    (case fBA => kernel_rfl)
    (case nBA => kernel_rfl)
    (case gBA => kernel_rfl)
    (case cDE => k_is)
    (case bDE => kernel_rfl)
    (case aDE => k_is)
    (case lDE => k_is)
    (case uDE => k_is)
    (case wDE => k_is)
    (case vDE => rfl)
    (case fDE => kernel_rfl)
    (case nDE => kernel_rfl)
    (case gDE => kernel_rfl)
    (case cTW => k_is)
    (case bTW => kernel_rfl)
    (case aTW => k_is)
    (case cNE => k_is)
    (case bNE => kernel_rfl)
    (case aNE => k_is)
    (case cNR => k_is)
    (case bNR => kernel_rfl)
    (case aNR => k_is)
    (case cIR => k_is)
    (case bIR => kernel_rfl)
    (case aIR => k_is)
    (case cTX => k_is)
    (case bTX => kernel_rfl)
    (case aTX => k_is)
    (case lTX => k_is)
    (case uTX => k_is)
    (case wTX => k_is)
    (case vTX => rfl)
    (case fTX => kernel_rfl)
    (case nTX => kernel_rfl)
    (case gTX => kernel_rfl)
    (case cBK => k_is)
    (case bBK => kernel_rfl)
    (case aBK => k_is)
    (case lBK => k_is)
    (case uBK => k_is)
    (case wBK => k_is)
    (case vBK => rfl)
    (case fBK => kernel_rfl)
    (case nBK => kernel_rfl)
    (case gBK => kernel_rfl)
    (case cKI => k_is)
    (case bKI => kernel_rfl)
    (case aKI => k_is)
    (case lKI => k_is)
    (case uKI => k_is)
    (case wKI => k_is)
    (case vKI => rfl)
    (case fKI => kernel_rfl)
    (case nKI => kernel_rfl)
    (case gKI => kernel_rfl)
    (case cTR => k_is)
    (case bTR => kernel_rfl)
    (case aTR => k_is)
    (case lTR => k_is)
    (case uTR => k_is)
    (case wTR => k_is)
    (case vTR => rfl)
    (case fTR => kernel_rfl)
    (case nTR => kernel_rfl)
    (case gTR => kernel_rfl)
    (case cNA => k_is)
    (case bNA => kernel_rfl)
    (case aNA => k_is)
    (case lNA => k_is)
    (case uNA => k_is)
    (case wNA => k_is)
    (case vNA => rfl)
    (case fNA => kernel_rfl)
    (case nNA => kernel_rfl)
    (case gNA => kernel_rfl)
    (case cJU => k_is)
    (case bJU => kernel_rfl)
    (case aJU => k_is)
    (case lJU => k_is)
    (case uJU => k_is)
    (case wJU => k_is)
    (case vJU => rfl)
    (case fJU => kernel_rfl)
    (case nJU => kernel_rfl)
    (case gJU => kernel_rfl)
    (case cTU => k_is)
    (case bTU => kernel_rfl)
    (case aTU => k_is)
    (case lTU => k_is)
    (case uTU => k_is)
    (case wTU => k_is)
    (case vTU => rfl)
    (case fTU => kernel_rfl)
    (case nTU => kernel_rfl)
    (case gTU => kernel_rfl)
    (case cPA => k_is)
    (case bPA => kernel_rfl)
    (case aPA => k_is)
    (case lPA => k_is)
    (case uPA => k_is)
    (case wPA => k_is)
    (case vPA => rfl)
    (case fPA => kernel_rfl)
    (case nPA => kernel_rfl)
    (case gPA => kernel_rfl)
    (case cRO => k_is)
    (case bRO => kernel_rfl)
    (case aRO => k_is)
    (case lRO => k_is)
    (case uRO => k_is)
    (case wRO => k_is)
    (case vRO => rfl)
    (case fRO => kernel_rfl)
    (case nRO => kernel_rfl)
    (case gRO => kernel_rfl)
    (case cTG => k_is)
    (case bTG => kernel_rfl)
    (case aTG => k_is)
    (case lTG => k_is)
    (case uTG => k_is)
    (case wTG => k_is)
    (case vTG => rfl)
    (case fTG => kernel_rfl)
    (case nTG => kernel_rfl)
    (case gTG => kernel_rfl)
    (case cTB => k_is)
    (case bTB => kernel_rfl)
    (case aTB => k_is)
    (case lTB => k_is)
    (case uTB => k_is)
    (case wTB => k_is)
    (case vTB => rfl)
    (case fTB => kernel_rfl)
    (case nTB => kernel_rfl)
    (case gTB => kernel_rfl)
    (case cCO => k_is)
    (case bCO => kernel_rfl)
    (case aCO => k_is)
    (case lCO => k_is)
    (case uCO => k_is)
    (case wCO => k_is)
    (case vCO => rfl)
    (case fCO => kernel_rfl)
    (case nCO => kernel_rfl)
    (case gCO => kernel_rfl)
    (case cNU => k_is)
    (case bNU => kernel_rfl)
    (case aNU => k_is)
    (case lNU => k_is)
    (case uNU => k_is)
    (case wNU => k_is)
    (case vNU => rfl)
    (case fNU => kernel_rfl)
    (case nNU => kernel_rfl)
    (case gNU => kernel_rfl)
    (case cLI => k_is)
    (case bLI => kernel_rfl)
    (case aLI => k_is)
    (case lLI => k_is)
    (case uLI => k_is)
    (case wLI => k_is)
    (case vLI => rfl)
    (case fLI => kernel_rfl)
    (case nLI => kernel_rfl)
    (case gLI => kernel_rfl)
    (case cDK => k_is)
    (case bDK => kernel_rfl)
    (case aDK => k_is)
    (case lDK => k_is)
    (case uDK => k_is)
    (case wDK => k_is)
    (case vDK => rfl)
    (case fDK => kernel_rfl)
    (case nDK => kernel_rfl)
    (case gDK => kernel_rfl)
    (case isCB => k_is)
    (case tyCB => k_is)
    (case z_super => k_is)
    (case z_len => k_is)
    (case z_isinstance => k_is)
    (case z_Exception => k_is)
    (case z_divmod => k_is)
    (case z_int => k_is)
    (case z_enumerate => k_is)
    (case z_list => k_is)
    (case z_abs => k_is)
    (case z_repr => k_is)
    (case qct => k_is)
    (case rct => k_is)
    (case sct => k_is)
    (case kct => k_is)
    (case qcl => k_is)
    (case rcl => k_is)
    (case scl => k_is)
    (case kcl => k_is)
    (case qoo => k_is)
    (case roo => k_is)
    (case soo => k_is)
    (case koo => k_is)
    (case qlk => k_is)
    (case rlk => k_is)
    (case slk => k_is)
    (case klk => k_is)
    (case qkp => k_is)
    (case rkp => k_is)
    (case skp => k_is)
    (case kkp => k_is)
    (case qlw => k_is)
    (case rlw => k_is)
    (case slw => k_is)
    (case klw => k_is)
#print axioms PySem.Challenge.cw_bindertongue_k01_errors_keep_what_is_bou_holds

