import PyProof.Rows.All
import Wide.All
import OpenK.AllK
import Wide.FinOn
import PySem.Challenge.RW_fewforces_k87_whole_wheels_that_roll_and
import KE.KExcSuper
import KE.KSuper
import HandS.ExcInit
import HandS.Exc
import KE.SortData
import KE.DataMinMax
import KE.DataFind
import KE.DataIsa
import KE.DataAny
import KE.DataCmp
import KE.KDictKeyed
import KE.KDictSum
import HandS.ForMost
import HandS.Wide
import HandS.Style
import HandS.Lambda
import HandS.HeadHook4
import HandS.TupMul
import HandS.TupAny
import HandS.TupLe
import KE.DatumIndex
import PyProof.Rows.TupTab
import PyProof.DictStraight
import PyProof.DictTruth
import HandS.ExcValue
import PyProof.Transfer
import HandS.Flow
import HandS.Zip
import KE.GoesEnum
import HandS.CallSlots
import HandS.Codes
import HandS.SetFor
import HandS.Conv
import HandS.Dict
import PyProof.Rows.TupDisplay
import HandS.Strs
import HandS.Defaults
import HandS.HotCalls
import HandS.ExcIs
import HandS.HeadWalk
import HandS.EndTab
import KE.KStateDown
import Lean
import HandS.Base
import HandS.Call
import HandS.Ends
import HandS.More
import HandS.Words
import HandS.WordsExc
import HandS.Head0
import HandS.Head1
import HandS.Head2
import HandS.HeadEnd
import HandS.HeadHook1
import HandS.HeadHook2
set_option autoImplicit false
set_option linter.all false
set_option Elab.async false
set_option maxRecDepth 100000
set_option maxHeartbeats 2000000
/-! PT1: the own __init__ is run. -/
namespace PL
open PySem PySem.Spec PyProof.Rows L2 PySem.W PySem.Calls PySem.Sem
section
variable {prog : Program} {w : World} {A : Around} {E : Value → Shared → Prop} {C : Addr}
/-- the bound ValueError.__init__ is called -/
theorem mw_call {s : Shared} {u e t0 : Addr} {nm q : Str} {N : Addr} {bs bm : List Value} {hdct : Bool} {sn : List Str} {sub : List Value} {ab : Bool} {col : Option Bool} {dd : Option Addr} {k0 k1 k2 k3 k5 : Option Value} {Q : Value → Shared → Prop}
    (hu : s.heap.get? u = some (kxs_mw "ValueError.__init__" e)) (hC : s.heap.get? C = some (excClassObj nm q C N bs bm hdct sn sub ab col dd k0 k1 k2 k3 k5 "ValueError.__new__")) (he : s.heap.get? e = some (PySem.HandSPX.excO C t0))
    (h : ∀ h' t1, (∀ b o, b ≠ e → s.heap.get? b = some o → h'.get? b = some o) → h'.get? e = some (PySem.HandSPX.excO C t1) → Q .none { s with heap := h' }) :
    wpAny (model prog w) A (call (.ref u) []) Q E s := by
  have FB := F.excBase_ValueError
  obtain ⟨hh, g, d, tk, os⟩ := s
  refine wpAny_call (codeAny_of_tree ?_)
  show wpAny _ A.in1 (callAny (.ref u) ⟨[], []⟩) _ _ _
  simp only [callAny]
  refine wpAny_bind (wpAny_load hu ?_)
  simp only [kxs_mw, show (Value.type "method-wrapper" == Value.type "method" || Value.type "method-wrapper" == Value.type "builtin_function_or_method" || Value.type "method-wrapper" == Value.type "method-wrapper") = true by decide, if_true]
  refine KFB.if_so (by decide) ?_
  refine wpAny_bind (check_bound_init FB.toExcCallFacts hC he rfl ?_)
  refine wpAny_bind (wpAny_pure (wpAny_pure ?_))
  refine ⟨plainId_quiet FB.init.plain _, codeAny_builtin FB.initEntry ?_⟩
  refine exc_init_tree (cls := .ref C) (t0 := t0) (dv := none) (c2 := .none) (c3 := .none) (b4 := .bool false) (rest := []) he (Nat.zero_le _) fun h' k e' _ => ?_
  exact h h' _ k e'
/-- the frame's first step: super() -/
theorem init_run {s : Shared} {R : Result → Shared → Prop} {K : PySem.W.Frag} {mg : Str → Option Value} {f cda cc e t0 : Addr} {name qual : Str} {params : Arguments} {scope : Scope} {dV kV doc pm ct oc ccl cl : Value} {an od cdd cld : Option Addr} {osl ccs csl : Array (Option Value)} {vs : Array Value} {file : Str} {tf : Tok} {ar : Arg} {cdD : ClassData} {p0 p1 p2 p3 p4 : Pos}
    {nm q : Str} {N : Addr} {bs bm : List Value} {sn : List Str} {sub : List Value} {ab : Bool} {col : Option Bool} {dd : Option Addr} {k0 k1 k2 k3 k5 : Option Value}
    (X : K.In s.heap) (G : s.heap.Ns mainGlobals mg) (hms : mg "super" = none) (B : ∃ mb, s.heap.Ns builtinsNs mb ∧ ∀ x : Str, x ≠ "__name__" → mb x = bootBuiltins x) (lim : s.heap.NoLimit) (hroom : A.depth < recursionLimit)
    (htop : (prog.main.scope.names.lookup ("super" : Str)).isSome = false) (he : s.heap.get? e = some (PySem.HandSPX.excO C t0))
    (hC : K.lookup C = some (excClassObj nm q C N bs bm true sn sub ab col dd k0 k1 k2 k3 k5 "ValueError.__new__")) (opq : Looks (model prog w) s.heap (opaqueClassAbove (.ref C)) none) (veC : subIn K (.ref C) (.type "ValueError") = some true)
    (lk : K.lookup f = some ⟨oc, od, .func (ksFn name qual params [.Expr (.Call (.Attribute (.Call (.Name "super" p0) [] [] p1) "__init__" p2) [] [] p3) p4] scope dV kV doc pm an (.ref cda) ct cc), osl⟩)
    (hcd : codeIn K (.ref cda) qual = true) (hcode : K.lookup cda = some ⟨ccl, cdd, .fields vs, ccs⟩) (hvs : vs[2]? = some (.str file tf)) (hfile : ((prog.main.file : Str) == file) = true)
    (hcell : K.lookup cc = some ⟨cl, cld, .cell (some (.ref C)), csl⟩) (hD : clsIn K C = some cdD) (hsub : mroIn K C (.ref C) = some true) (hsup : ks_superIn K C C "__init__" = some (some (.builtin "ValueError.__init__")))
    (hp : (params.posonlyargs ++ params.args).head? = some ar) (hbind : ∀ (s : Shared) (u : Value), BindsTo s (ksFn name qual params [.Expr (.Call (.Attribute (.Call (.Name "super" p0) [] [] p1) "__init__" p2) [] [] p3) p4] scope dV kV doc pm an (.ref cda) ct cc) ⟨[u], []⟩ [(ar.arg, u)])
    (hks : scope.names.lookup ("super" : Str) = some .globalImplicit) (hkc : scope.names.lookup ("__class__" : Str) = some .free) (hka : scope.names.lookup ar.arg = some .local) (hk : scope.kind = .function) (hcel : ∀ x ∈ scope.names, x.2 ≠ .cell) (hco : scope.isCoroutine = false) (hgen : scope.isGenerator = false)
    (hev : ∀ env : PySem.Env, ∃ pl : Sem Bool, eval (.Call (.Attribute (.Call (.Name "super" p0) [] [] p1) "__init__" p2) [] [] p3) env = (do
      let ov ← attributeBase (.Call (.Name "super" p0) [] [] p1) "__init__" env (eval (.Call (.Name "super" p0) [] [] p1) env)
      standAt p2.atName
      let (f, first) ← holding [ov] (getMethod ov "__init__" pl)
      callWith p3 f first (backTo p3 (starEach [] env)) []))
    (hsw : ∀ env : PySem.Env, swapsWith (.Call (.Attribute (.Call (.Name "super" p0) [] [] p1) "__init__" p2) [] [] p3) none p4.line env = Pure.pure false)
    (h : ∀ h' t1 tk, (∀ b o, b ≠ e → s.heap.get? b = some o → h'.get? b = some o) → h'.get? e = some (PySem.HandSPX.excO C t1) → R (.ok (.ret .none)) { s with heap := h', toks := tk }) :
    codeAny (model prog w) A (.call (.ref f) ⟨[.ref e], []⟩) R s := by
  refine ks_codeAny_call_defAt (binds := [(ar.arg, .ref e)]) hroom (X _ _ lk) rfl lim (codeRec_of X hcd) rfl (hbind s _) hcel (fun y hy => by
    rcases List.mem_cons.mp hy with rfl | hy
    · exact hka
    · cases hy) (fun h₀ hns kp => ?_) hco hgen hk
  have X1 : K.In h₀ := X.keeps kp
  obtain ⟨mb, B1, B2⟩ := B
  show PySem.wpAt _ _ _ (execs _ (ksEnv qual scope s.heap.objs.size f (.ref cda) cc)) _ _ _
  have hke : ∀ y, (ksEnv qual scope s.heap.objs.size f (.ref cda) cc).kindOf y = scope.names.lookup y := fun _ => rfl
  refine ks_wpAt_execs_cons (ks_wpAt_Expr_any ?_ (by show (scope.kind == .module && _) = false; rw [hk]; rfl) (hsw _))
  obtain ⟨pl, epl⟩ := hev (ksEnv qual scope s.heap.objs.size f (.ref cda) cc)
  refine ks_wpAt_MethodCall (pl := pl) ?_ epl
  have he1 := kp _ _ he
  have hc1 : InstAt h₀ e (PySem.HandSPX.excO C t0) C none := ⟨he1, rfl, rfl, trivial⟩
  refine ks_wpAt_super_base (env := ksEnv qual scope s.heap.objs.size f (.ref cda) cc) hks hkc (by decide) rfl (X1 _ _ lk) rfl hp rfl (X1 _ _ hcode) rfl hvs hfile htop ?_
  refine ks_loadName_global hk hks (loadGlobal_builtin (env := ksEnv qual scope s.heap.objs.size f (.ref cda) cc) (G.keeps kp) hms (B1.keeps kp) ((B2 _ (by decide)).trans PyProof.Rows.Boot.«super») ⟨rfl, ?_⟩)
  refine wpAny_loadName_free hk hkc rfl ⟨_, X1 _ _ hcell, rfl⟩ ?_
  refine wpAny_loadName_local hk hka hns (v := .ref e) (by show List.lookup ar.arg [(ar.arg, Value.ref e)] = some _; simp) ?_
  obtain ⟨oD, hD1, hD2⟩ : ∃ oD, h₀.get? C = some oD ∧ oD.data = .cls cdD := by
    unfold clsIn at hD
    split at hD
    · rename_i c d cd' sl ho
      cases hD
      exact ⟨_, X1 _ _ ho, rfl⟩
    · cases hD
  refine ks_wpAny_isType_cls hD1 hD2 ⟨rfl, ?_⟩
  obtain ⟨hp0, g, d, tk, os⟩ := s
  refine ks_wpAny_call_super hD1 hD2 hc1.at_ hc1.cls (fun c z => by cases z) (looks_mroIn X1 hsub) (fun h2 e2 k2 => ?_)
  have X2 : K.In h2 := X1.keeps k2
  have he2 := k2 _ _ he1
  have hc2 : InstAt h2 e (PySem.HandSPX.excO C t0) C none := ⟨he2, rfl, rfl, trivial⟩
  have hI : Looks (model prog w) h2 (isInstance (.ref e) (.type "ValueError")) true := hc2.type.andThen (looks_subIn X2 veC)
  cases hcd0 : clsIn K C with
  | none => unfold ks_superIn at hsup; rw [hcd0] at hsup; cases hsup
  | some cd =>
    unfold ks_superIn at hsup
    rw [hcd0] at hsup
    refine kxs_getMethod kxs_ValueError e2 (opq.keeps fun b o z => k2 _ _ (kp _ _ z)) (l₀ := cd.mro) (fun A Q E s k q => wpAny_bind ((looks_clsIn X2 hcd0) A _ E s k (wpAny_pure q))) rfl X2 hsup hI (ks_ne X2 hc2 hcd0) (by decide) ?_
    refine kxs_callWith (i := "ValueError.__init__") (x := e) rfl (evalArgs_empty ⟨Heap.get?_push_size _ rfl, ?_⟩)
    have k3 : ∀ b o, h2.get? b = some o → (h2.push (kxs_mw "ValueError.__init__" e)).get? b = some o := fun b o z => Heap.get?_push_of_some _ z
    refine mw_call (Heap.get?_push_size _ rfl) (k3 _ _ (X2 _ _ hC)) (k3 _ _ he2) fun h4 t1 k4 e4 => ?_
    show PySem.wpAt _ _ _ (execs [] _) _ _ _
    rw [execs_nil]
    refine wpAt_of_wpAny (wpAny_pure ?_)
    exact h h4 t1 _ (fun b o hb z => k4 _ _ hb (k3 _ _ (k2 _ _ (kp _ _ z)))) e4
end
end PL

set_option autoImplicit false
set_option linter.all false
set_option Elab.async false
set_option maxRecDepth 100000
set_option maxHeartbeats 2000000
/-! PT2: the expression that makes an error. -/
namespace PL
open PySem PySem.Spec PyProof.Rows L2
/-- the shape of super().__init__() -/
abbrev supE (p0 p1 p2 p3 : Pos) : Expr := .Call (.Attribute (.Call (.Name "super" p0) [] [] p1) "__init__" p2) [] [] p3
/-- what the text says of an error class's __init__ -/
structure IniT (name qual : Str) (params : Arguments) (body : List Stmt) (scope : Scope) : Prop where
  ex : ∃ (p0 p1 p2 p3 p4 : Pos) (ar : Arg), body = [.Expr (supE p0 p1 p2 p3) p4] ∧ (params.posonlyargs ++ params.args).head? = some ar ∧
    (∀ (dV kV doc pm cdv ct : Value) (an : Option Addr) (cc : Addr) (s : Shared) (u : Value), dV = .none → BindsTo s (PySem.W.ksFn name qual params body scope dV kV doc pm an cdv ct cc) ⟨[u], []⟩ [(ar.arg, u)]) ∧
    scope.names.lookup ar.arg = some .local ∧
    (∀ env : PySem.Env, ∃ pl : Sem Bool, eval (supE p0 p1 p2 p3) env = (do
      let ov ← attributeBase (.Call (.Name "super" p0) [] [] p1) "__init__" env (eval (.Call (.Name "super" p0) [] [] p1) env)
      standAt p2.atName
      let (f, first) ← holding [ov] (getMethod ov "__init__" pl)
      callWith p3 f first (backTo p3 (starEach [] env)) [])) ∧
    (∀ env : PySem.Env, swapsWith (supE p0 p1 p2 p3) none p4.line env = Pure.pure false)
  hks : scope.names.lookup ("super" : Str) = some .globalImplicit
  hkc : scope.names.lookup ("__class__" : Str) = some .free
  hk : scope.kind = .function
  hcel : ∀ x ∈ scope.names, x.2 ≠ .cell
  hco : scope.isCoroutine = false
  hgen : scope.isGenerator = false
/-- the written part's word of such a class: C, its __init__ at fI -/
structure ErrC (P : Program) (K : PySem.W.Frag) (C : Addr) : Prop where
  cls : ∃ nm q N bs bm sn sub ab col dd k0 k1 k2 k3 k5, K.lookup C = some (excClassObj nm q C N bs bm true sn sub ab col dd k0 k1 k2 k3 k5 "ValueError.__new__") ∧ PySem.HandSPX.refsVE bm = true
  exC : PySem.W.subIn K (.ref C) (.type "BaseException") = some true
  veC : PySem.W.subIn K (.ref C) (.type "ValueError") = some true
  tyC : PySem.W.typeIn K (.ref C) = some (.type "type")
  kC : PySem.W.keepIn K (.ref C) = true
  mro : PySem.W.mroIn K C (.ref C) = some true
  sup : PySem.W.ks_superIn K C C "__init__" = some (some (.builtin "ValueError.__init__"))
  htop : (P.main.scope.names.lookup ("super" : Str)).isSome = false
  ini : ∃ (fI cda cc : Addr) (name qual : Str) (params : Arguments) (body : List Stmt) (scope : Scope) (dV kV doc pm ct oc ccl cl : Value) (an od cdd cld : Option Addr) (osl ccs csl : Array (Option Value)) (vs : Array Value) (file : Str) (tf : Tok) (cdD : ClassData),
    PySem.W.findIn K (.ref C) "__init__" = some (some (.ref fI)) ∧ PySem.W.typeIn K (.ref fI) = some (.type "function") ∧
    K.lookup fI = some ⟨oc, od, .func (PySem.W.ksFn name qual params body scope dV kV doc pm an (.ref cda) ct cc), osl⟩ ∧ dV = .none ∧
    PySem.W.codeIn K (.ref cda) qual = true ∧ K.lookup cda = some ⟨ccl, cdd, .fields vs, ccs⟩ ∧ vs[2]? = some (.str file tf) ∧ ((P.main.file : Str) == file) = true ∧
    K.lookup cc = some ⟨cl, cld, .cell (some (.ref C)), csl⟩ ∧ PySem.W.clsIn K C = some cdD ∧ IniT name qual params body scope
/-- no class of what the machine cannot see -/
def Opq (base : Heap) : Prop := ∃ K0 : PySem.W.Frag, K0.In base ∧ PySem.W.nsIn K0 cStatics "thirdparty.any" = some none
theorem pmk_err {X : Cx} {x : Str} {C : Addr} {p pos : Pos} (c : ErrC X.prog X.K C) (o : Opq X.base) (hms : X.mg "super" = none) (hr : Room 1 X.A) (hg : Gl X x) (hm : X.mg x = some (.ref C)) (hdb : (x == ("__debug__" : Str)) = false) :
    PMk X (.Call (.Name x p) [] [] pos) (fun σ H Q => Q (.ref C) none H) := by
  intro pins s σ H Q I h
  obtain ⟨nm, q, N, bs, bm, sn, sub, ab, col, dd, k0, k1, k2, k3, k5, hC, hbm⟩ := c.cls
  obtain ⟨fI, cda, cc, name, qual, params, body, scope, dV, kV, doc, pm, ct, oc, ccl, cl, an, od, cdd, cld, osl, ccs, csl, vs, file, tf, cdD, iC, tI, lk, hdV, hcd, hcode, hvs, hfile, hcell, hD, T⟩ := c.ini
  obtain ⟨p0, p1, p2, p3, p4, ar, rfl, hp, hbind, hka, hev, hsw⟩ := T.ex
  obtain ⟨K0, hK0, hop⟩ := o
  refine wpAny_Call_Name_kw (ld_glob I hg hm ?_ hdb)
  refine PySem.W.callWith_K0 I.kIn c.kC ?_
  show wpAny _ _ (call (.ref C) []) _ _ _
  obtain ⟨hp0, g, dr, tk, os⟩ := s
  have kk : ∀ b o, hp0.get? b = some o → ((hp0.push (PySem.W.kdv_tup [])).push (PySem.HandSPX.excO C hp0.objs.size)).get? b = some o := fun b o e => Heap.get?_push_of_some _ (Heap.get?_push_of_some _ e)
  have hget : ((hp0.push (PySem.W.kdv_tup [])).push (PySem.HandSPX.excO C hp0.objs.size)).get? (hp0.objs.size + 1) = some (PySem.HandSPX.excO C hp0.objs.size) := by heap_get
  have ne1 : hp0.get? (hp0.objs.size + 1) = none := by
    cases z : hp0.get? (hp0.objs.size + 1) with
    | none => rfl
    | some o => exact absurd (Heap.lt_size z) (Nat.not_lt.mpr (Nat.le_succ _))
  obtain ⟨mb, B1, B2⟩ := I.mod.blt
  refine wpAny_call (PySem.HandSPX.call_own F.excBase_ValueError (fun Y => PySem.HandSPX.refsVE_contains Y bm hbm) (I.kIn _ _ hC) (PySem.W.looks_findIn I.kIn iC) (fun self => PySem.W.bind_fn I.kIn self tI) (Nat.zero_le _)
    (init_run (s := ⟨(hp0.push (PySem.W.kdv_tup [])).push (PySem.HandSPX.excO C hp0.objs.size), g, dr, tk, os⟩) (A := X.A.under (.builtin "type.__call__" ⟨[.ref C], []⟩)) (I.kIn.keeps kk) ((I.mod.glob.keeps I.bk).keeps kk) hms ⟨mb, (B1.keeps I.bk).keeps kk, B2⟩ (I.nolimit.keeps kk) (hr.make C [] []).depth c.htop hget hC
      (PySem.W.looks_opaque (hK0.keeps fun b o e => kk _ _ (I.bk _ _ e)) hop) c.veC lk hcd hcode hvs hfile hcell hD c.mro c.sup hp (fun s u => hbind _ _ _ _ _ _ _ _ s u hdV) T.hks T.hkc hka T.hk T.hcel T.hco T.hgen hev hsw fun h' t1 tk' k' e' => ?_))
  have kold : ∀ b o, hp0.get? b = some o → h'.get? b = some o := fun b o e => k' b o (fun z => by rw [z, ne1] at e; cases e) (kk b o e)
  refine ⟨rfl, ?_⟩
  exact ⟨hp0.objs.size + 1, _, _, ⟨hp0, g, dr, tk, os⟩, H, .ref C, none, rfl, I, kold, ne1, e', ⟨rfl, rfl⟩, rfl, rfl, I.hok.fresh (Nat.le_succ _), rfl, I.bare, raises_own c.exC c.tyC, h⟩
end PL

set_option autoImplicit false
/-! PL0: a small evaluator over data for the Python subset of the laws: expressions, statements, a table of defs. Pure Lean. -/
namespace PL
open PySem PySem.W

inductive Slot where
  | no
  | c (d : PyData)
  | h (io : Bool) (d : PyData)
abbrev Env := List Slot
inductive Out (α : Type) where
  | ok (a : α) (ρ : Env)
  | exc (c : Str) (ρ : Env)
  | stuck
inductive Res where
  | val (d : PyData)
  | fresh (d : PyData)
  | ref (i : Nat)
inductive SOut where
  | nx (ρ : Env)
  | rt (r : Slot) (ρ : Env)
  | exc (c : Str) (ρ : Env)
  | stuck
inductive CRes where
  | ok (r : Slot) (outs : List PyData)
  | exc (c : Str) (outs : List PyData)
  | stuck

def gets (ρ : Env) (i : Nat) : Slot := (ρ[i]?).getD .no
def peek (ρ : Env) : Res → Option PyData
  | .val d => some d
  | .fresh d => some d
  | .ref i => match gets ρ i with
    | .c d => some d
    | .h _ d => some d
    | .no => none
def cold (ρ : Env) : Res → Out PyData
  | .val d => .ok d ρ
  | .fresh d => .ok d ρ
  | .ref i => match gets ρ i with
    | .c d => .ok d ρ
    | .h _ d => .ok d (ρ.set i (.c d))
    | .no => .stuck
def peeks (ρ : Env) : List Res → Option (List PyData)
  | [] => some []
  | r :: rs => match peek ρ r, peeks ρ rs with
    | some d, some ds => some (d :: ds)
    | _, _ => none

inductive Ty where
  | int | bool | str | tuple | list | dict
  deriving DecidableEq
/-- built-ins, by what they are called with -/
inductive Bi where
  | len | abs | int | sum | min | max | all | any | sorted | list | tuple | lenset | sortedset | listzip | repr | isinst (T : Ty) | range | ranget
  deriving DecidableEq
inductive Me where
  | append | extend | pop | insert | update | index | count | join | get | upper
  deriving DecidableEq
/-- what is walked -/
inductive IK where
  | plain | r1 | r2 | r3 | enum | zip | zip3 | items
  deriving DecidableEq
inductive Tg where
  | nm (i : Nat)
  | tp (ts : List Tg)
/-- what a def makes of a lambda that it calls: told: ("told", value), else a word; by the class of the error -/
structure WSh where
  told : Bool
  cls : List (Str × PyData)
def WSh.ok (sh : WSh) (d : PyData) : PyData := if sh.told then .tuple [.str "told", d] else .str "let"
inductive Ex where
  | var (i : Nat)
  | con (d : PyData)
  | gl (x : Str) (d : PyData)
  | bin (op : Operator) (a b : Ex)
  | neg (a : Ex)
  | not (a : Ex)
  | band (es : List Ex)
  | bor (es : List Ex)
  | cmp (a : Ex) (ops : List CmpOp) (es : List Ex)
  | ife (c a b : Ex)
  | tup (es : List Ex)
  | lst (es : List Ex)
  | dct (ks vs : List Ex)
  | call (f : Str) (es : List Ex)
  | bi (b : Bi) (es : List Ex)
  | met (m : Me) (o : Ex) (es : List Ex)
  | idx (a i : Ex)
  | sli (a : Ex) (lo hi : List Ex)
  | slist (a : Ex) (lo : List Ex) (st : Int)
  | told (f : Str) (sh : WSh) (e : Ex)
  | lc (elt : Ex) (tg : Tg) (k : IK) (es cond : List Ex) (own : List Nat)
inductive St where
  | asg (i : Nat) (hot : Bool) (e : Ex)
  | par (is : List Nat) (hots : List Bool) (es : List Ex)
  | unp (tg : Tg) (e : Ex)
  | sub (i : Nat) (ix e : Ex)
  | ex (e : Ex)
  | ret (e : Ex)
  | retN
  | ite (c : Ex) (a b : List St)
  | wh (c : Ex) (b : List St)
  | fr (tg : Tg) (k : IK) (es : List Ex) (b : List St)
  | raise (c : Str)
  | pass
structure Def where
  np : Nat
  ns : Nat
  ios : List Nat
  body : List St
structure Ctx where
  defs : Str → Option Def
  call : Str → List PyData → CRes

/-! ### the operators -/
def small (i : Int) : Bool := decide (i.natAbs < 18446744073709551616)
def mid (i : Int) : Bool := decide (i.natAbs < 2 ^ 4096)
def mulOk (i j : Int) : Bool := small i || small j || (mid i && mid j)
def divOk (j : Int) : Bool := decide (0 < j) && mid j
def szOk (n : Nat) : Bool := decide (n ≤ 1000000)
def deepOk (d : PyData) : Bool := d.plain && decide (d.depth ≤ 30)
def deepOks (ds : List PyData) : Bool := PyData.plainAll ds && decide (PyData.depthAll ds ≤ 30)
def rep (n : Nat) (ds : List PyData) : List PyData := (List.replicate n ds).flatten
def notNone : PyData → Bool
  | .none => false
  | _ => true
def binD : Operator → PyData → PyData → Option Res
  | .Add, .int i, .int j => some (.val (.int (i + j)))
  | .Add, .str x, .str y => if szOk (x.length + y.length) then some (.val (.str (x ++ y))) else none
  | .Add, .tuple xs, .tuple ys => if szOk (xs.length + ys.length) then some (.val (.tuple (xs ++ ys))) else none
  | .Add, .list xs, .list ys => if szOk (xs.length + ys.length) then some (.fresh (.list (xs ++ ys))) else none
  | .Sub, .int i, .int j => some (.val (.int (i - j)))
  | .Mult, .int i, .int j => if mulOk i j then some (.val (.int (i * j))) else none
  | .Mult, .tuple xs, .int j => if j = 1 then some (.val (.tuple xs)) else if j = 0 then (if xs.isEmpty then none else some (.val (.tuple []))) else if !xs.isEmpty && decide (xs.length ≤ 1000) && decide (2 ≤ j) && decide (j ≤ 1000) then some (.val (.tuple (rep j.toNat xs))) else none
  | .Mult, .list xs, .int j => if decide (j ≤ 1000000) && decide (-1000000 ≤ j) && szOk (xs.length * j.toNat) then some (.fresh (.list (rep j.toNat xs))) else none
  | .FloorDiv, .int i, .int j => if divOk j then some (.val (.int (i / j))) else none
  | .Mod, .int i, .int j => if decide (0 < j) then some (.val (.int (i % j))) else none
  | .Pow, .int i, .int j => if decide (0 ≤ j) && decide (j ≤ 1000) && small i then some (.val (.int (i ^ j.toNat))) else none
  | .LShift, .int i, .int j => if decide (0 ≤ j) && decide (j ≤ 1000) && small i then some (.val (.int (i * 2 ^ j.toNat))) else none
  | _, _, _ => none
def isD : PyData → PyData → Option Bool
  | .none, .none => some true
  | .bool a, .bool b => some (a == b)
  | _, .none => some false
  | _, _ => none
def ordOk (x y : PyData) : Bool := alike x y && deepOk x && deepOk y && notNone x
mutual
/-- data as a key: whole numbers, None, tuples of such -/
def nkOf : PyData → Option NestedKey
  | .none => some .none
  | .int i => some (.num i)
  | .tuple xs => (nksOf xs).map .tup
  | .bool _ | .str _ | .list _ | .dict _ => none
def nksOf : List PyData → Option (List NestedKey)
  | [] => some []
  | x :: xs => match nkOf x, nksOf xs with
    | some k, some ks => some (k :: ks)
    | _, _ => none
end
def keyInt : PyData → Bool
  | .int _ => true
  | _ => false
def keyTup : PyData → Bool
  | .tuple xs => match nkOf (.tuple xs) with
    | some k => decide (k.depth ≤ 8)
    | none => false
  | _ => false
/-- keys of one kind -/
def keysOk (ks : List PyData) : Bool := ks.all keyInt || ks.all keyTup
def inD (x : PyData) : PyData → Option Bool
  | .list ys => if deepOk x && deepOks ys then some (ys.any fun y => PyData.eqv y x) else none
  | .tuple ys => if deepOk x && deepOks ys then some (ys.any fun y => PyData.eqv y x) else none
  | .dict kvs => if keysOk (x :: kvs.map (·.1)) then some (kvs.any fun kv => PyData.eqv kv.1 x) else none
  | .str y => match x with
    | .str z => some (!(Builtin.Str.occurrences y z 0 y.length 1).isEmpty)
    | _ => none
  | _ => none
def cmpD : CmpOp → PyData → PyData → Option Bool
  | .Eq, x, y => if deepOk x && deepOk y then some (PyData.eqv x y) else none
  | .NotEq, x, y => if deepOk x && deepOk y then some (!PyData.eqv x y) else none
  | .Lt, x, y => if ordOk x y then some (dataLt x y) else none
  | .Gt, x, y => if ordOk x y then some (dataLt y x) else none
  | .LtE, x, y => if ordOk x y then some (!dataLt y x) else none
  | .GtE, x, y => if ordOk x y then some (!dataLt x y) else none
  | .In, x, y => inD x y
  | .NotIn, x, y => (inD x y).map (!·)
  | .Is, x, y => isD x y
  | .IsNot, x, y => (isD x y).map (!·)
def truthD : PyData → Option Bool
  | .str x => if szOk x.length then some ((x.length : Int) != 0) else none
  | .dict kvs => some (!kvs.isEmpty)
  | d => some d.truthy
/-- the place that an index of any sign means -/
def ixD (n : Nat) (i : Int) : Option Nat := if 0 ≤ i then (if i < n then some i.toNat else none) else if -(n : Int) ≤ i then some (i + n).toNat else none
def look (kvs : List (PyData × PyData)) (k : PyData) : Option PyData := (kvs.find? fun kv => PyData.eqv kv.1 k).map (·.2)
def idxD (x i : PyData) : Option PyData := match x, i with
  | .list xs, .int i => (ixD xs.length i).bind fun j => xs[j]?
  | .tuple xs, .int i => (ixD xs.length i).bind fun j => xs[j]?
  | .str s, .int i => if szOk s.length then (ixD s.length i).bind fun j => (s.cps[j]?).map fun c => .str ⟨#[c]⟩ else none
  | .dict kvs, k => if keysOk (k :: kvs.map (·.1)) then look kvs k else none
  | _, _ => none
/-- a slice's bound as a place among n (d where it is left out) -/
def bnd (n d : Nat) : Option Int → Nat
  | none => d
  | some v => if v < 0 then (v + n).toNat else min v.toNat n
def cut {α : Type} (xs : List α) (lo hi : Option Int) : List α := (xs.drop (bnd xs.length 0 lo)).take (bnd xs.length xs.length hi - bnd xs.length 0 lo)
def sliD (x : PyData) (lo hi : Option Int) : Option Res := match x with
  | .list xs => some (.fresh (.list (cut xs lo hi)))
  | .tuple xs => some (.val (.tuple (cut xs lo hi)))
  | .str s => if szOk s.length then some (.val (.str ⟨(cut s.cps.toList lo hi).toArray⟩)) else none
  | _ => none
/-- every st-th from lo on -/
def everyNth {α : Type} (st : Nat) : Nat → List α → List α
  | _, [] => []
  | 0, x :: xs => x :: everyNth st (st - 1) xs
  | k + 1, _ :: xs => everyNth st k xs
def stepCut {α : Type} (xs : List α) (lo : Option Int) (st : Int) : List α :=
  if st < 0 then everyNth st.natAbs 0 xs.reverse else everyNth st.natAbs 0 (xs.drop (bnd xs.length 0 lo))
def slistD (x : PyData) (lo : Option Int) (st : Int) : Option Res := match x with
  | .list xs => some (.fresh (.list (stepCut xs lo st)))
  | .tuple xs => some (.val (.tuple (stepCut xs lo st)))
  | .str s => if szOk s.length then some (.val (.str ⟨(stepCut s.cps.toList lo st).toArray⟩)) else none
  | _ => none
def toInt? : PyData → Option Int
  | .int i => some i
  | _ => none
def ints? : List PyData → Option (List Int)
  | [] => some []
  | .int i :: r => (ints? r).map (i :: ·)
  | _ => none
def strs? : List PyData → Option (List Str)
  | [] => some []
  | .str i :: r => (strs? r).map (i :: ·)
  | _ => none
def seq? : PyData → Option (List PyData)
  | .list xs => some xs
  | .tuple xs => some xs
  | _ => none
/-- what may be asked for its truth by any, all -/
def plainTruth : PyData → Bool
  | .none | .bool _ | .int _ => true
  | _ => false
/-- all data of one kind, to be ordered -/
def alikes : List PyData → Bool
  | [] => true
  | x :: xs => xs.all (fun y => alike x y) && alikes xs
def hd? : List PyData → Option (PyData × List PyData)
  | [] => none
  | x :: xs => some (x, xs)
def selfAlike (xs : List PyData) : Bool := xs.all fun x => xs.all fun y => alike x y
def ordAll (xs : List PyData) : Bool := selfAlike xs && deepOks xs && xs.all notNone
def sortKind (xs : List PyData) : Bool := xs.all (fun x => match x with | .tuple (_ :: _) => true | _ => false) || xs.all (fun x => match x with | .tuple _ => false | .none => false | _ => true)
def insL {α : Type} (le : α → α → Bool) (a : α) : List α → List α
  | [] => [a]
  | b :: l => if le a b then a :: b :: l else b :: insL le a l
def insS {α : Type} (le : α → α → Bool) : List α → List α
  | [] => []
  | a :: l => insL le a (insS le l)
def sortD (xs : List PyData) : List PyData := insS (fun a b => !dataLt b a) xs
def hashable : PyData → Bool
  | .none | .bool _ | .int _ | .str _ => true
  | .tuple xs => xs.all fun x => match x with
    | .int _ => true
    | .str _ => true
    | _ => false
  | _ => false
/-- each once, the first ones -/
def firsts : List PyData → List PyData
  | [] => []
  | x :: xs => x :: (firsts xs).filter fun y => !PyData.eqv x y
def isInst (d : PyData) : Ty → Bool
  | .int => d.isInt
  | .bool => d.isBool
  | .str => d.isStr
  | .tuple => d.isTuple
  | .list => d.isList
  | .dict => d.isDict
def range1 (lo hi st : Int) : Option (List PyData) :=
  if decide (-1000000000 ≤ lo) && decide (lo ≤ 1000000000) && decide (-1000000000 ≤ hi) && decide (hi ≤ 1000000000) then
    (if st = 1 then some ((List.range (hi - lo).toNat).map fun (k : Nat) => .int (lo + (k : Int)))
     else if st = -1 then some ((List.range (lo - hi).toNat).map fun (k : Nat) => .int (lo - (k : Int)))
     else if decide (1 < st) && decide (st ≤ 1000000) then some ((List.range (if lo < hi then (hi - lo - 1) / st + 1 else 0).toNat).map fun (k : Nat) => .int (lo + (k : Int) * st))
     else none)
  else none
def lrange (a b : Int) : Option (List PyData) := if szOk (b - a).toNat && szOk a.natAbs && szOk b.natAbs then some ((List.range (b - a).toNat).map fun (k : Nat) => .int (a + (k : Int))) else none
def rangeL : Option (List Int) → Option (List PyData)
  | some [n] => lrange 0 n
  | some [a, b] => lrange a b
  | _ => none
def zip2 : List PyData → List PyData → List PyData
  | x :: xs, y :: ys => .tuple [x, y] :: zip2 xs ys
  | _, _ => []
def zip3 : List PyData → List PyData → List PyData → List PyData
  | x :: xs, y :: ys, z :: zs => .tuple [x, y, z] :: zip3 xs ys zs
  | _, _, _ => []
def enumFrom (k : Int) : List PyData → List PyData
  | [] => []
  | x :: xs => .tuple [.int k, x] :: enumFrom (k + 1) xs
def one (f : PyData → Option Res) : List PyData → Option Res
  | [x] => f x
  | _ => none
def ovS (f : List PyData → Option Res) (x : PyData) : Option Res := match seq? x with
  | some xs => f xs
  | none => none
def lenD : PyData → Option Res
  | .list xs => if szOk xs.length then some (.val (.int xs.length)) else none
  | .tuple xs => if szOk xs.length then some (.val (.int xs.length)) else none
  | .str x => if szOk x.length then some (.val (.int x.length)) else none
  | .dict xs => if szOk xs.length then some (.val (.int xs.length)) else none
  | _ => none
def absD : PyData → Option Res
  | .int i => some (.val (.int (if i < 0 then -i else i)))
  | _ => none
def intD : PyData → Option Res
  | .int i => some (.val (.int i))
  | .bool b => some (.val (.int (if b then 1 else 0)))
  | _ => none
def sumL (xs : List PyData) : Option Res := (ints? xs).map fun ns => .val (.int ns.sum)
def minL : List PyData → Option Res
  | [] => none
  | y :: ys => if ordAll (y :: ys) then some (.val (minD y ys)) else none
def maxL : List PyData → Option Res
  | [] => none
  | y :: ys => if ordAll (y :: ys) then some (.val (maxD y ys)) else none
def minI : List Int → Option Res
  | [i, j] => some (.val (.int (if j < i then j else i)))
  | [i, j, k] => some (.val (.int (if j < i then (if k < j then k else j) else (if k < i then k else i))))
  | _ => none
def maxI : List Int → Option Res
  | [i, j] => some (.val (.int (if j > i then j else i)))
  | [i, j, k] => some (.val (.int (if j > i then (if k > j then k else j) else (if k > i then k else i))))
  | _ => none
def ovI (f : List Int → Option Res) (ds : List PyData) : Option Res := match ints? ds with
  | some ns => f ns
  | none => none
def minA : List PyData → Option Res
  | [x] => ovS minL x
  | ds => ovI minI ds
def maxA : List PyData → Option Res
  | [x] => ovS maxL x
  | ds => ovI maxI ds
def allL (xs : List PyData) : Option Res := if xs.all plainTruth then some (.val (.bool (xs.all PyData.truthy))) else none
def anyL (xs : List PyData) : Option Res := if xs.all plainTruth then some (.val (.bool (xs.any PyData.truthy))) else none
def isTupD : PyData → Bool
  | .tuple _ => true
  | _ => false
/-- tuples, the first of them empty -/
def tup0 : List PyData → Bool
  | .tuple [] :: ys => ys.all isTupD
  | _ => false
def sortedL (xs : List PyData) : Option Res := if selfAlike xs && deepOks xs && (sortKind xs || tup0 xs) && szOk xs.length then some (.fresh (.list (sortD xs))) else none
def sortedK (xs : List PyData) : Option Res := if selfAlike xs && deepOks xs && sortKind xs && szOk xs.length then some (.fresh (.list (sortD xs))) else none
def sortedD : PyData → Option Res
  | .list xs => sortedL xs
  | .dict kvs => sortedK (kvs.map (·.1))
  | .tuple xs => sortedK xs
  | _ => none
/-- a set of ints, rising -/
def insI (x : Int) : List Int → List Int
  | [] => [x]
  | y :: l => if x < y then x :: y :: l else if x = y then y :: l else y :: insI x l
def usetI : List Int → List Int
  | [] => []
  | x :: l => insI x (usetI l)
def lensetL (xs : List PyData) : Option Res := match ints? xs with
  | some ns => if decide (ns.length < 4000) then some (.val (.int (usetI ns).length)) else none
  | none => none
def sortedsetL (xs : List PyData) : Option Res := match ints? xs with
  | some ns => if decide (ns.length < 4000) && decide ((usetI ns).length < 64) then some (.fresh (.list ((usetI ns).map .int))) else none
  | none => none
def onlyL (f : List PyData → Option Res) : PyData → Option Res
  | .list xs => f xs
  | _ => none
def listzipD : List PyData → Option Res
  | [x, y] => match seq? x, seq? y with
    | some xs, some ys => some (.fresh (.list (zip2 xs ys)))
    | _, _ => none
  | _ => none
def reprD : PyData → Option Res
  | .bool b => some (.val (.str (if b then "True" else "False")))
  | _ => none
def biD : Bi → List PyData → Option Res
  | .len => one lenD
  | .abs => one absD
  | .int => one intD
  | .sum => one (ovS sumL)
  | .min => minA
  | .max => maxA
  | .all => one (ovS allL)
  | .any => one (ovS anyL)
  | .sorted => one sortedD
  | .list => one (ovS fun xs => some (.fresh (.list xs)))
  | .tuple => one (ovS fun xs => some (.val (.tuple xs)))
  | .range => fun xs => (rangeL (ints? xs)).map fun ys => .fresh (.list ys)
  | .ranget => fun xs => (rangeL (ints? xs)).map fun ys => .val (.tuple ys)
  | .lenset => one (onlyL lensetL)
  | .sortedset => one (onlyL sortedsetL)
  | .listzip => listzipD
  | .isinst T => one fun x => some (.val (.bool (isInst x T)))
  | .repr => one reprD
/-- methods that change nothing -/
def indexD (xs : List PyData) (x : PyData) : Option Res := if deepOk x && deepOks xs && szOk xs.length then (xs.findIdx? fun y => PyData.eqv y x).map fun (j : Nat) => Res.val (.int (j : Int)) else none
def countD (xs : List PyData) (x : PyData) : Option Res := if deepOk x && deepOks xs then some (.val (.int (xs.countP fun y => PyData.eqv y x))) else none
def getD1 (kvs : List (PyData × PyData)) (k z : PyData) : Option Res := if keysOk (k :: kvs.map (·.1)) then some (.val ((look kvs k).getD z)) else none
def metD : Me → PyData → List PyData → Option Res
  | .index, .list xs, [x] => indexD xs x
  | .count, d, [x] => ovS (fun xs => countD xs x) d
  | .get, .dict kvs, [k] => getD1 kvs k .none
  | .get, .dict kvs, [k, z] => getD1 kvs k z
  | _, _, _ => none
def store (kvs : List (PyData × PyData)) (k v : PyData) : List (PyData × PyData) :=
  if kvs.any (fun kv => PyData.eqv kv.1 k) then kvs.map fun kv => if PyData.eqv kv.1 k then (kv.1, v) else kv else kvs ++ [(k, v)]
def stores (kvs more : List (PyData × PyData)) : List (PyData × PyData) := more.foldl (fun acc kv => store acc kv.1 kv.2) kvs
def updD (kvs more : List (PyData × PyData)) : Option (PyData × PyData) :=
  if (kvs.map (·.1)).all keyTup && (more.map (·.1)).all keyTup && !kvs.isEmpty && decide (kvs.length + more.length ≤ 1000000) then some (.none, .dict (stores kvs more)) else none
/-- methods that change their object: what comes, and the object behind it -/
def metM : Me → PyData → List PyData → Option (PyData × PyData)
  | .append, .list xs, [x] => if szOk xs.length then some (.none, .list (xs ++ [x])) else none
  | .extend, .list xs, [.list ys] => if szOk (xs.length + ys.length) then some (.none, .list (xs ++ ys)) else none
  | .pop, .list xs, [] => (xs[xs.length - 1]?).map fun x => (x, .list xs.dropLast)
  | .pop, .list xs, [.int i] => (ixD xs.length i).bind fun j => (xs[j]?).map fun x => (x, .list (xs.eraseIdx j))
  | .update, .dict kvs, [.dict more] => updD kvs more
  | _, _, _ => none
def setD (x i v : PyData) : Option PyData := match x, i with
  | .list xs, .int i => (ixD xs.length i).map fun j => .list (xs.set j v)
  | .dict kvs, k => if keysOk (k :: kvs.map (·.1)) && decide (kvs.length < 1000000) then some (.dict (store kvs k v)) else none
  | _, _ => none
def enumD : List PyData → Option (List PyData)
  | [.list xs] => some (enumFrom 0 xs)
  | [.tuple xs] => some (enumFrom 0 xs)
  | _ => none
def zipD : List PyData → Option (List PyData)
  | [.list xs, .list ys] => some (zip2 xs ys)
  | [.tuple xs, .tuple ys] => some (zip2 xs ys)
  | _ => none
def rg1 : Option (List Int) → Option (List PyData)
  | some [n] => range1 0 n 1
  | _ => none
def rg2 : Option (List Int) → Option (List PyData)
  | some [lo, hi] => range1 lo hi 1
  | _ => none
def rg3 : Option (List Int) → Option (List PyData)
  | some [lo, hi, st] => range1 lo hi st
  | _ => none
/-- what a for or a comprehension walks -/
def itemsD : IK → List PyData → Option (List PyData)
  | .plain, [.list xs] => some xs
  | .plain, [.tuple xs] => some xs
  | .plain, [.str x] => some (x.cps.toList.map fun c => .str ⟨#[c]⟩)
  | .plain, [.dict kvs] => some (kvs.map (·.1))
  | .r1, xs => rg1 (ints? xs)
  | .r2, xs => rg2 (ints? xs)
  | .r3, xs => rg3 (ints? xs)
  | .enum, xs => enumD xs
  | .zip, xs => zipD xs
  | .zip3, [x, y, z] => match seq? x, seq? y, seq? z with
    | some xs, some ys, some zs => some (zip3 xs ys zs)
    | _, _, _ => none
  | .items, [.dict kvs] => some (kvs.map fun kv => .tuple [kv.1, kv.2])
  | _, _ => none

/-! ### environments -/
mutual
def asgT : Tg → PyData → Env → Option Env
  | .nm i, d, ρ => some (ρ.set i (.c d))
  | .tp ts, .tuple ds, ρ => asgTs ts ds ρ
  | _, _, _ => none
def asgTs : List Tg → List PyData → Env → Option Env
  | [], [], ρ => some ρ
  | t :: ts, d :: ds, ρ => match asgT t d ρ with
    | some ρ1 => asgTs ts ds ρ1
    | none => none
  | _, _, _ => none
end
def wipeE (ρ : Env) : List Nat → Env
  | [] => ρ
  | i :: is => (wipeE ρ is).set i .no
/-- the slots at own as they were in ρ₀ -/
def backE (ρ0 : Env) (ρ : Env) : List Nat → Env
  | [] => ρ
  | i :: is => (backE ρ0 ρ is).set i (gets ρ0 i)
def notHot (ρ : Env) (i : Nat) : Bool := match gets ρ i with
  | .h _ _ => false
  | _ => true

def bind {α β : Type} (x : Out α) (f : α → Env → Out β) : Out β := match x with
  | .ok a ρ => f a ρ
  | .exc c ρ => .exc c ρ
  | .stuck => .stuck
def ofO {α : Type} (ρ : Env) : Option α → Out α
  | some a => .ok a ρ
  | none => .stuck
/-- a comprehension's block lets no error out -/
def shut {α : Type} : Out α → Out α
  | .exc _ _ => .stuck
  | x => x

inductive ArgR where
  | io (i : Nat)
  | val (d : PyData)
def derefs (ρ : Env) : List ArgR → Option (List PyData)
  | [] => some []
  | .val d :: r => (derefs ρ r).map (d :: ·)
  | .io i :: r => match gets ρ i, derefs ρ r with
    | .h _ d, some ds => some (d :: ds)
    | _, _ => none
def putBack (ρ : Env) : List ArgR → List PyData → Option Env
  | [], [] => some ρ
  | .val _ :: r, ds => putBack ρ r ds
  | .io i :: r, d :: ds => match gets ρ i with
    | .h io _ => putBack (ρ.set i (.h io d)) r ds
    | _ => none
  | _, _ => none
def iosOf : List ArgR → List Nat
  | [] => []
  | .io i :: r => i :: iosOf r
  | .val _ :: r => iosOf r

/-! ### expressions -/
/-- one turn after another of a comprehension -/
def lcL (step : PyData → Env → Out (Option PyData)) : List PyData → List PyData → Env → Out (List PyData)
  | [], acc, ρ => .ok acc ρ
  | d :: ds, acc, ρ => match step d ρ with
    | .ok (some x) ρ1 => if szOk acc.length then lcL step ds (acc ++ [x]) ρ1 else .stuck
    | .ok none ρ1 => lcL step ds acc ρ1
    | _ => .stuck
def truthR (r : Res) (ρ : Env) : Out Bool := match peek ρ r with
  | some d => ofO ρ (truthD d)
  | none => .stuck
def callR (G : Ctx) (f : Str) (as : List ArgR) (ρ : Env) : Out Res :=
  if (iosOf as).Nodup then
    match derefs ρ as with
    | some ds => match G.call f ds with
      | .ok r outs => match putBack ρ as outs with
        | some ρ2 => match r with
          | .c d => .ok (.val d) ρ2
          | .h _ d => .ok (.fresh d) ρ2
          | .no => .stuck
        | none => .stuck
      | .exc c outs => match putBack ρ as outs with
        | some ρ2 => .exc c ρ2
        | none => .stuck
      | .stuck => .stuck
    | none => .stuck
  else .stuck
/-- a lambda is called in a try -/
def toldR (sh : WSh) : Out Res → Out Res
  | .ok r ρ => bind (cold ρ r) fun d ρ1 => .ok (.val (sh.ok d)) ρ1
  | .exc c ρ => match sh.cls.lookup c with
    | some x => .ok (.val x) ρ
    | none => .stuck
  | .stuck => .stuck
def binR (op : Operator) (ra rb : Res) (ρ : Env) : Out Res := match peek ρ ra, peek ρ rb with
  | some x, some y => ofO ρ (binD op x y)
  | _, _ => .stuck
def negR (ra : Res) (ρ : Env) : Out Res := match peek ρ ra with
  | some (.int i) => .ok (.val (.int (-i))) ρ
  | _ => .stuck
def biR (b : Bi) (rs : List Res) (ρ : Env) : Out Res := match peeks ρ rs with
  | some ds => ofO ρ (biD b ds)
  | none => .stuck
def dctR (ks vs : List PyData) (ρ : Env) : Out Res := match ks, vs with
  | [], [] => .ok (.fresh (.dict [])) ρ
  | [k], [v] => if keysOk [k] = true then .ok (.fresh (.dict [(k, v)])) ρ else .stuck
  | _, _ => .stuck
def isMut : Me → Bool
  | .append | .extend | .pop | .insert | .update => true
  | _ => false
/-- what a method is asked of -/
def isUpd : Me → Bool
  | .update => true
  | _ => false
def recvD (m : Me) : PyData → Bool
  | .list _ => !isUpd m
  | .dict _ => isUpd m
  | _ => false
def recvOk (m : Me) (ro : Res) (ρ : Env) : Bool := if isMut m then match ro with
    | .ref i => match gets ρ i with
      | .h _ d => recvD m d
      | _ => false
    | _ => false
  else match m, peek ρ ro with
    | .index, some (.list _) => true
    | .count, some (.list _) => true
    | .get, some (.dict _) => true
    | .join, some (.str _) => true
    | .upper, some (.str _) => true
    | _, _ => false
def metR (m : Me) (ro : Res) (ds : List PyData) (ρ : Env) : Out Res :=
  if isMut m then match ro with
    | .ref i => match gets ρ i with
      | .h io d => match metM m d ds with
        | some (x, d') => .ok (.val x) (ρ.set i (.h io d'))
        | none => .stuck
      | _ => .stuck
    | _ => .stuck
  else match peek ρ ro with
    | some d => ofO ρ (metD m d ds)
    | none => .stuck
def idxR (ra ri : Res) (ρ : Env) : Out Res := match peek ρ ra, peek ρ ri with
  | some x, some y => match idxD x y with
    | some d => .ok (.val d) ρ
    | none => .stuck
  | _, _ => .stuck
def sliR (ra : Res) (l u : Option Int) (ρ : Env) : Out Res := match peek ρ ra with
  | some x => ofO ρ (sliD x l u)
  | none => .stuck
def slistR (ra : Res) (l : Option Int) (st : Int) (ρ : Env) : Out Res := match peek ρ ra with
  | some x => ofO ρ (slistD x l st)
  | none => .stuck
/-- a bound of a slice -/
def intR (r : Res) (ρ : Env) : Out (Option Int) := match r with
  | .val (.int i) => .ok (some i) ρ
  | _ => .stuck
def cmpR (op : CmpOp) (ra rb : Res) (ρ : Env) : Out Bool := match peek ρ ra, peek ρ rb with
  | some x, some y => ofO ρ (cmpD op x y)
  | _, _ => .stuck
mutual
def ev (G : Ctx) : Ex → Env → Out Res
  | .var i, ρ => match gets ρ i with
    | .no => .stuck
    | .c d => .ok (.val d) ρ
    | .h _ _ => .ok (.ref i) ρ
  | .con d, ρ => .ok (.val d) ρ
  | .gl _ d, ρ => .ok (.val d) ρ
  | .bin op a b, ρ => bind (ev G a ρ) fun ra ρ1 => bind (ev G b ρ1) fun rb ρ2 => binR op ra rb ρ2
  | .neg a, ρ => bind (ev G a ρ) fun ra ρ1 => negR ra ρ1
  | .not a, ρ => bind (ev G a ρ) fun r ρ1 => bind (truthR r ρ1) fun b ρ2 => .ok (.val (.bool (!b))) ρ2
  | .band es, ρ => evAnd G es ρ
  | .bor es, ρ => evOr G es ρ
  | .cmp a ops es, ρ => bind (ev G a ρ) fun ra ρ1 => bind (evCh G ra ops es ρ1) fun b ρ2 => .ok (.val (.bool b)) ρ2
  | .ife c a b, ρ => bind (ev G c ρ) fun r ρ1 => bind (truthR r ρ1) fun t ρ2 => if t then ev G a ρ2 else ev G b ρ2
  | .tup es, ρ => bind (evC G es ρ) fun ds ρ1 => if szOk ds.length then .ok (.val (.tuple ds)) ρ1 else .stuck
  | .lst es, ρ => bind (evC G es ρ) fun ds ρ1 => if szOk ds.length then .ok (.fresh (.list ds)) ρ1 else .stuck
  | .dct ks vs, ρ => bind (evC G ks ρ) fun ds ρ1 => bind (evC G vs ρ1) fun es ρ2 => dctR ds es ρ2
  | .call f es, ρ => match G.defs f with
    | some D => bind (evA G D.ios 0 es ρ) fun as ρ1 => callR G f as ρ1
    | none => .stuck
  | .bi b es, ρ => bind (evR G es ρ) fun rs ρ1 => biR b rs ρ1
  | .met m o es, ρ => bind (ev G o ρ) fun ro ρ1 => if recvOk m ro ρ1 then bind (evC G es ρ1) fun ds ρ2 => metR m ro ds ρ2 else .stuck
  | .idx a i, ρ => bind (ev G a ρ) fun ra ρ1 => bind (ev G i ρ1) fun ri ρ2 => idxR ra ri ρ2
  | .sli a lo hi, ρ => bind (ev G a ρ) fun ra ρ1 => bind (evO G lo ρ1) fun l ρ2 => bind (evO G hi ρ2) fun u ρ3 => sliR ra l u ρ3
  | .slist a lo st, ρ => bind (ev G a ρ) fun ra ρ1 => bind (evO G lo ρ1) fun l ρ2 => slistR ra l st ρ2
  | .told _ sh e, ρ => toldR sh (ev G e ρ)
  | .lc elt tg k es cond own, ρ => bind (evC G es ρ) fun ds ρ1 => match itemsD k ds with
    | some items => if own.all (notHot ρ1) then
        bind (lcL (fun d ρ2 => match asgT tg d (wipeE ρ2 own) with
          | some ρ3 => bind (evIf G cond ρ3) fun b ρ4 => if b then bind (ev G elt ρ4) fun r ρ5 => bind (cold ρ5 r) fun x ρ6 => .ok (some x) (wipeE ρ6 own) else .ok none (wipeE ρ4 own)
          | none => .stuck) items [] (wipeE ρ1 own)) fun acc ρ9 => .ok (.fresh (.list acc)) (backE ρ1 ρ9 own)
      else .stuck
    | none => .stuck
/-- a comprehension's test -/
def evIf (G : Ctx) : List Ex → Env → Out Bool
  | [], ρ => .ok true ρ
  | e :: es, ρ => bind (ev G e ρ) fun r ρ1 => bind (truthR r ρ1) fun b ρ2 => if b then evIf G es ρ2 else .ok false ρ2
def evAnd (G : Ctx) : List Ex → Env → Out Res
  | [], _ => .stuck
  | e :: es, ρ => bind (ev G e ρ) fun r ρ1 => match es with
    | [] => .ok r ρ1
    | _ :: _ => match peek ρ1 r with
      | some (.bool true) => evAnd G es ρ1
      | some (.bool false) => .ok (.val (.bool false)) ρ1
      | _ => .stuck
def evOr (G : Ctx) : List Ex → Env → Out Res
  | [], _ => .stuck
  | e :: es, ρ => bind (ev G e ρ) fun r ρ1 => match es with
    | [] => .ok r ρ1
    | _ :: _ => match peek ρ1 r with
      | some (.bool false) => evOr G es ρ1
      | some (.bool true) => .ok (.val (.bool true)) ρ1
      | _ => .stuck
/-- a chain of comparisons behind its first operand -/
def evCh (G : Ctx) (ra : Res) : List CmpOp → List Ex → Env → Out Bool
  | [], _, _ => .stuck
  | _ :: _, [], _ => .stuck
  | op :: ops, e :: es, ρ => bind (ev G e ρ) fun rb ρ1 => bind (cmpR op ra rb ρ1) fun b ρ2 => match es with
    | [] => .ok b ρ2
    | _ :: _ => if b then evCh G rb ops es ρ2 else .ok false ρ2
/-- a bound that may lack -/
def evO (G : Ctx) : List Ex → Env → Out (Option Int)
  | [], ρ => .ok none ρ
  | e :: es, ρ => match es with
    | [] => bind (ev G e ρ) intR
    | _ :: _ => .stuck
/-- operands -/
def evR (G : Ctx) : List Ex → Env → Out (List Res)
  | [], ρ => .ok [] ρ
  | e :: es, ρ => bind (ev G e ρ) fun r ρ1 => bind (evR G es ρ1) fun rs ρ2 => .ok (r :: rs) ρ2
/-- values that are kept -/
def evC (G : Ctx) : List Ex → Env → Out (List PyData)
  | [], ρ => .ok [] ρ
  | e :: es, ρ => bind (ev G e ρ) fun r ρ1 => bind (cold ρ1 r) fun d ρ2 => bind (evC G es ρ2) fun ds ρ3 => .ok (d :: ds) ρ3
/-- a call's arguments -/
def evA (G : Ctx) (ios : List Nat) (j : Nat) : List Ex → Env → Out (List ArgR)
  | [], ρ => .ok [] ρ
  | e :: es, ρ => bind (ev G e ρ) fun r ρ1 =>
    if ios.contains j then
      match r with
      | .ref i => bind (evA G ios (j + 1) es ρ1) fun as ρ2 => .ok (.io i :: as) ρ2
      | _ => .stuck
    else bind (cold ρ1 r) fun d ρ2 => bind (evA G ios (j + 1) es ρ2) fun as ρ3 => .ok (.val d :: as) ρ3
end
/-- as a test -/
def evT (G : Ctx) (e : Ex) (ρ : Env) : Out Bool := bind (ev G e ρ) truthR

/-! ### statements -/
def whileN (t : Env → Out Bool) (b : Env → SOut) : Nat → Env → SOut
  | 0, _ => .stuck
  | n + 1, ρ => match t ρ with
    | .ok true ρ1 => match b ρ1 with
      | .nx ρ2 => whileN t b n ρ2
      | r => r
    | .ok false ρ1 => .nx ρ1
    | .exc c ρ1 => .exc c ρ1
    | .stuck => .stuck
def forL (tg : Tg) (b : Env → SOut) : List PyData → Env → SOut
  | [], ρ => .nx ρ
  | d :: ds, ρ => match asgT tg d ρ with
    | some ρ1 => match b ρ1 with
      | .nx ρ2 => forL tg b ds ρ2
      | r => r
    | none => .stuck
def sb {α : Type} (x : Out α) (f : α → Env → SOut) : SOut := match x with
  | .ok a ρ => f a ρ
  | .exc c ρ => .exc c ρ
  | .stuck => .stuck
/-- a name's new slot -/
def slotOf (hot : Bool) (r : Res) (ρ : Env) : Out Slot := match hot, r with
  | true, .fresh d => .ok (.h false d) ρ
  | _, r => bind (cold ρ r) fun d ρ1 => .ok (.c d) ρ1
def evP (G : Ctx) : List Bool → List Ex → Env → Out (List Slot)
  | [], [], ρ => .ok [] ρ
  | h :: hs, e :: es, ρ => bind (ev G e ρ) fun r ρ1 => bind (slotOf h r ρ1) fun s ρ2 => bind (evP G hs es ρ2) fun ss ρ3 => .ok (s :: ss) ρ3
  | _, _, _ => .stuck
def setAll (ρ : Env) : List Nat → List Slot → Option Env
  | [], [] => some ρ
  | i :: is, s :: ss => match setAll ρ is ss with
    | some ρ1 => some (ρ1.set i s)
    | none => none
  | _, _ => none
def isHot (ρ : Env) (i : Nat) : Bool := match gets ρ i with
  | .h _ _ => true
  | _ => false
def subAt (i : Nat) (k v : PyData) (ρ : Env) : Option Env := match gets ρ i with
  | .h io d => (setD d k v).map fun d' => ρ.set i (.h io d')
  | _ => none
def retOf (r : Res) (ρ : Env) : SOut := match r with
  | .val d => .rt (.c d) ρ
  | .fresh d => .rt (.h false d) ρ
  | .ref i => match gets ρ i with
    | .c d => .rt (.c d) ρ
    | .h false d => .rt (.h false d) ρ
    | _ => .stuck
mutual
def exec (G : Ctx) (N : Nat) : St → Env → SOut
  | .asg i hot e, ρ => sb (ev G e ρ) fun r ρ1 => sb (slotOf hot r ρ1) fun s ρ2 => .nx (ρ2.set i s)
  | .par is hots es, ρ => sb (evP G hots es ρ) fun ss ρ1 => match setAll ρ1 is ss with
    | some ρ2 => .nx ρ2
    | none => .stuck
  | .unp tg e, ρ => sb (ev G e ρ) fun r ρ1 => sb (cold ρ1 r) fun d ρ2 => match asgT tg d ρ2 with
    | some ρ3 => .nx ρ3
    | none => .stuck
  | .sub i ix e, ρ => sb (ev G e ρ) fun r ρ1 => sb (cold ρ1 r) fun v ρ2 => if isHot ρ2 i then sb (ev G ix ρ2) fun rk ρ3 => sb (cold ρ3 rk) fun k ρ4 => match subAt i k v ρ4 with
      | some ρ5 => .nx ρ5
      | none => .stuck
    else .stuck
  | .ex e, ρ => sb (ev G e ρ) fun _ ρ1 => .nx ρ1
  | .ret e, ρ => sb (ev G e ρ) fun r ρ1 => retOf r ρ1
  | .retN, ρ => .rt (.c .none) ρ
  | .ite c a b, ρ => sb (evT G c ρ) fun t ρ1 => if t then execs G N a ρ1 else execs G N b ρ1
  | .wh c b, ρ => whileN (evT G c) (execs G N b) N ρ
  | .fr tg k es b, ρ => sb (evC G es ρ) fun ds ρ1 => match itemsD k ds with
    | some items => forL tg (execs G N b) items ρ1
    | none => .stuck
  | .raise c, ρ => if c == ("" : Str) then .stuck else .exc c ρ
  | .pass, ρ => .nx ρ
def execs (G : Ctx) (N : Nat) : List St → Env → SOut
  | [], ρ => .nx ρ
  | s :: ss, ρ => match exec G N s ρ with
    | .nx ρ1 => execs G N ss ρ1
    | r => r
end

/-! ### calls -/
def entry (D : Def) (ds : List PyData) : Env := (List.range D.ns).map fun i => match ds[i]? with
  | some d => if D.ios.contains i then .h true d else .c d
  | none => .no
def outsOf (ρ : Env) : List Nat → Option (List PyData)
  | [] => some []
  | i :: is => match gets ρ i, outsOf ρ is with
    | .h true d, some ds => some (d :: ds)
    | _, _ => none
def callD (defs : Str → Option Def) (N : Nat) : Nat → Str → List PyData → CRes
  | 0, _, _ => .stuck
  | n + 1, f, ds => match defs f with
    | some D => if ds.length = D.np then
        match execs ⟨defs, callD defs N n⟩ N D.body (entry D ds) with
        | .nx ρ => match outsOf ρ D.ios with
          | some os => .ok (.c .none) os
          | none => .stuck
        | .rt r ρ => match outsOf ρ D.ios with
          | some os => .ok r os
          | none => .stuck
        | .exc c ρ => match outsOf ρ D.ios with
          | some os => .exc c os
          | none => .stuck
        | .stuck => .stuck
      else .stuck
    | none => .stuck
end PL

set_option autoImplicit false
set_option linter.all false
set_option Elab.async false
set_option maxRecDepth 100000
/-! PL1: what stands for data: values and slots over the abstract heap. -/
namespace PL
open PySem PySem.Spec PyProof.Rows L2

/-- a tuple of the written part -/
def KTup (K : PySem.W.Frag) (a : Addr) (xs : List V) : Prop := ∃ (o : Obj) (its : Array Value) (n : Nat), K.lookup a = some o ∧ o.cls = .type "tuple" ∧ o.data = .seq its n ∧ its.size ≤ sizeLine ∧ Vals xs its.toList
/-- a dict's object, to the sign -/
def DctO (a : Addr) (es : Array DictEntry) (ep : Nat) : HO := .ext fun h => h.DictRaw a es ep
/-- a key, its value, what is kept there -/
abbrev DE := NestedKey × V × V
def Ent (p : DE) (e : DictEntry) : Prop := (∀ w : World, e.hash = p.1.hash w) ∧ RelV p.2.1 e.key ∧ RelV p.2.2 e.val
structure DctAt (H : Hp) (a : Addr) (ps : List DE) (kds : List PyData) : Prop where
  ob : ∃ es ep, H a = some (DctO a es ep) ∧ Paired Ent ps es.toList
  ks : kds.map nkOf = ps.map fun p => some p.1
  nd : (ps.map (·.1)).Nodup
  sys : (a == sysModules) = false
  len : ps.length ≤ 1000000
theorem DctAt.move {H H' : Hp} {a : Addr} {ps : List DE} {kds : List PyData} (d : DctAt H a ps kds) (h : ∀ o, H a = some o → (∀ ps, o ≠ .tbl ps) → H' a = some o) : DctAt H' a ps kds := by
  obtain ⟨⟨es, ep, e, r⟩, h2, h3, h4, h5⟩ := d
  exact ⟨⟨es, ep, h _ e (fun _ z => nomatch z), r⟩, h2, h3, h4, h5⟩
theorem DctAt.there {H : Hp} {a : Addr} {ps : List DE} {kds : List PyData} (d : DctAt H a ps kds) : H a ≠ none := by
  obtain ⟨es, ep, e, r⟩ := d.ob
  rw [e]; exact fun z => nomatch z
theorem DctAt.ne {H : Hp} {a p : Addr} {ps : List DE} {kds : List PyData} (d : DctAt H a ps kds) (h : H p = none) : a ≠ p := fun z => d.there (by rw [z]; exact h)
mutual
/-- the value stands for the data; nothing of it lies at a forbidden place (Y) -/
inductive Rp (K : PySem.W.Frag) (Y : Addr → Prop) (H : Hp) : V → PyData → Prop
  | non : Rp K Y H .non .none
  | bl (b : Bool) : Rp K Y H (.bl b) (.bool b)
  | int (i : Int) : Rp K Y H (.int i) (.int i)
  | str (x : Str) : Rp K Y H (.str x) (.str x)
  | tup {a : Addr} {xs : List V} {ds : List PyData} : ¬ Y a → Rd H a (.tup xs) → RpA K Y H xs ds → Rp K Y H (.ref a) (.tuple ds)
  | tupK {a : Addr} {xs : List V} {ds : List PyData} : KTup K a xs → RpA K Y H xs ds → Rp K Y H (.ref a) (.tuple ds)
  | lst {a : Addr} {xs : List V} {ds : List PyData} : ¬ Y a → Rd H a (.lst xs) → RpA K Y H xs ds → Rp K Y H (.ref a) (.list ds)
  | dct {a : Addr} {ps : List DE} {kvs : List (PyData × PyData)} : ¬ Y a → DctAt H a ps (kvs.map (·.1)) → RpA K Y H (ps.map (·.2.1)) (kvs.map (·.1)) → RpA K Y H (ps.map (·.2.2)) (kvs.map (·.2)) → Rp K Y H (.ref a) (.dict kvs)
inductive RpA (K : PySem.W.Frag) (Y : Addr → Prop) (H : Hp) : List V → List PyData → Prop
  | nil : RpA K Y H [] []
  | cons {v : V} {vs : List V} {d : PyData} {ds : List PyData} : Rp K Y H v d → RpA K Y H vs ds → RpA K Y H (v :: vs) (d :: ds)
end
/-- the tables of code objects that are watched -/
class TabL where
  T : List (Addr × Str)
instance tabNone : TabL := ⟨[]⟩
variable [TabL]
/-- no table of code objects -/
def NTb (o : HO) : Prop := ∀ ps, o ≠ .tbl ps
/-- neither a table nor a code object -/
def Plain (a : Addr) (o : HO) : Prop := NTb o ∧ ∀ q, o ≠ LamX.CodeO a q
theorem ntb_tup {xs : List V} : NTb (.tup xs) := fun _ z => nomatch z
theorem ntb_lst {xs : List V} : NTb (.lst xs) := fun _ z => nomatch z
theorem ntb_frz {o : Obj} {u : HO} : NTb (.frz o u) := fun _ z => nomatch z
theorem ntb_dct {a : Addr} {es : Array DictEntry} {ep : Nat} : NTb (DctO a es ep) := fun _ z => nomatch z
theorem ntb_code {a : Addr} {q : Str} : NTb (LamX.CodeO a q) := fun _ z => LamX.codeO_ne _ z
theorem plain_lst {a : Addr} {xs : List V} : Plain a (.lst xs) := ⟨ntb_lst, fun _ z => nomatch z⟩
theorem plain_dct {b : Addr} {es : Array DictEntry} {ep : Nat} : Plain b (DctO b es ep) := ⟨ntb_dct, fun q z => by
  have e : (fun h : Heap => h.DictRaw b es ep) = fun h => ∃ (oc : Obj) (vs : Array Value) (t : Tok), h.get? b = some oc ∧ oc.data = .fields vs ∧ vs[1]? = some (.str q t) := HO.ext.inj z
  have g : (⟨Array.replicate (b + 1) { cls := .none, data := .fields #[.none, .str q 0] }, {}⟩ : Heap).get? b = some { cls := .none, data := .fields #[.none, .str q 0] } := by
    unfold Heap.get?
    simp
  have c := congrFun e ⟨Array.replicate (b + 1) { cls := .none, data := .fields #[.none, .str q 0] }, {}⟩
  obtain ⟨o, e1, _, e2⟩ := c.mpr ⟨_, _, 0, g, rfl, rfl⟩
  rw [g] at e1
  cases e1
  cases e2⟩
/-- tracked, no table -/
def Thr (H : Hp) (a : Addr) : Prop := ∃ o, H a = some o ∧ NTb o
theorem fre {H : Hp} {a : Addr} (h : H a = none) : ¬ Thr H a := fun ⟨_, e, _⟩ => by rw [h] at e; cases e
theorem Thr.ne {H : Hp} {a : Addr} (t : Thr H a) : H a ≠ none := fun z => fre z t
/-- all that is tracked outside M stays (a table of code objects may grow); what is tracked stays tracked -/
structure Keeps (M : Addr → Prop) (H H' : Hp) : Prop where
  old : ∀ a o, H a = some o → NTb o → ¬ M a → H' a = some o
  there : ∀ a, Thr H a → Thr H' a
  tab : LamX.Tabs TabL.T H → LamX.Tabs TabL.T H'
def NoM : Addr → Prop := fun _ => False
theorem Keeps.refl {M : Addr → Prop} {H : Hp} : Keeps M H H := ⟨fun _ _ e _ _ => e, fun _ z => z, fun t => t⟩
theorem Keeps.trans {M : Addr → Prop} {H H1 H2 : Hp} (a : Keeps M H H1) (b : Keeps M H1 H2) : Keeps M H H2 := ⟨fun p o e t n => b.old p o (a.old p o e t n) t n, fun p z => b.there p (a.there p z), fun t => b.tab (a.tab t)⟩
theorem Keeps.mono {M M' : Addr → Prop} {H H' : Hp} (k : Keeps M H H') (h : ∀ a, M a → M' a) : Keeps M' H H' := ⟨fun p o e t n => k.old p o e t fun z => n (h p z), k.there, k.tab⟩
theorem Keeps.any {M : Addr → Prop} {H H' : Hp} (k : Keeps NoM H H') : Keeps M H H' := k.mono fun _ z => z.elim
theorem Keeps.all {H H' : Hp} (k : Keeps NoM H H') {a : Addr} {o : HO} (e : H a = some o) (t : NTb o) : H' a = some o := k.old a o e t fun z => z
theorem Keeps.notnew {M : Addr → Prop} {H H' : Hp} (k : Keeps M H H') {a : Addr} (e : ¬ Thr H' a) : ¬ Thr H a := fun z => e (k.there a z)
theorem Keeps.new {H : Hp} {p : Addr} {o : HO} (h : H p = none) : Keeps NoM H (upd H p o) := ⟨fun a u e _ _ => by
  rw [upd_ne (ne_of_none (H := H) e h)]; exact e, fun a ⟨u, e, t⟩ => ⟨u, by rw [upd_ne (ne_of_none (H := H) e h)]; exact e, t⟩, fun t => t.ext fun a u e => by
  rw [upd_ne (ne_of_none (H := H) e h)]; exact e⟩
theorem tabs_put {H : Hp} {p : Addr} {o o0 : HO} (h0 : H p = some o0) (hp : Plain p o0) {T : List (Addr × Str)} (t : LamX.Tabs T H) : LamX.Tabs T (upd H p o) := fun x hx => by
  obtain ⟨ps, h1, h2, h3⟩ := t x hx
  refine ⟨ps, by rw [upd_ne (fun z => by rw [z, h0] at h1; exact hp.1 _ (Option.some.inj h1))]; exact h1, h2, fun pos cv hc => ?_⟩
  obtain ⟨c, e1, e2⟩ := h3 pos cv hc
  exact ⟨c, e1, by rw [upd_ne (fun z => by rw [z, h0] at e2; exact hp.2 _ (Option.some.inj e2))]; exact e2⟩
theorem Keeps.put {H : Hp} {p : Addr} {o o0 : HO} {M : Addr → Prop} (h0 : H p = some o0) (hp : Plain p o0) (no : NTb o) (h : M p) : Keeps M H (upd H p o) := ⟨fun a u e _ n => by
  rw [upd_ne (fun z => n (by rw [z]; exact h))]; exact e, fun a z => by
  by_cases q : a = p
  · exact ⟨o, by rw [q, upd_same], no⟩
  · obtain ⟨u, e, t⟩ := z
    exact ⟨u, by rw [upd_ne q]; exact e, t⟩, fun t => tabs_put h0 hp t⟩
theorem rdKeeps {H H' : Hp} {M : Addr → Prop} {a : Addr} {u : HO} (k : Keeps M H H') (n : ¬ M a) (r : Rd H a u) (t : NTb u) : Rd H' a u := by
  rcases r with r | ⟨o, r⟩
  · exact .inl (k.old _ _ r t n)
  · exact .inr ⟨o, k.old _ _ r ntb_frz n⟩
/-- the defs of a law that make lambdas -/
def lamDefs : List Str := ["_law_is_refused", "_law_refused_right", "_law_more_refused", "law"]
/-- their tables, with the lambdas' name -/
def tabsOf (K : PySem.W.Frag) : List (Addr × Str) := (lamDefs.filter fun x => (K.lookup (He.fAd K (x, none))).isSome).map fun x => ((He.cT K (x, none)).2, x ++ ".<locals>." ++ "<lambda>")
section
variable {K : PySem.W.Frag} {Y Y' : Addr → Prop} {H H' : Hp}
mutual
theorem Rp.move (k : Keeps Y H H') (hY : ∀ a, Y' a → Y a) : ∀ {v : V} {d : PyData}, Rp K Y H v d → Rp K Y' H' v d
  | _, _, .non => .non
  | _, _, .bl b => .bl b
  | _, _, .int i => .int i
  | _, _, .str x => .str x
  | _, _, .tup n r a => .tup (fun z => n (hY _ z)) (rdKeeps k n r ntb_tup) (a.move k hY)
  | _, _, .tupK r a => .tupK r (a.move k hY)
  | _, _, .lst n r a => .lst (fun z => n (hY _ z)) (rdKeeps k n r ntb_lst) (a.move k hY)
  | _, _, .dct n r a b => .dct (fun z => n (hY _ z)) (r.move fun o e t => k.old _ o e t n) (a.move k hY) (b.move k hY)
theorem RpA.move (k : Keeps Y H H') (hY : ∀ a, Y' a → Y a) : ∀ {v : List V} {d : List PyData}, RpA K Y H v d → RpA K Y' H' v d
  | _, _, .nil => .nil
  | _, _, .cons a b => .cons (a.move k hY) (b.move k hY)
end
theorem rdNe {H : Hp} {a p : Addr} {u : HO} (r : Rd H a u) (h : H p = none) : a ≠ p := by
  rcases r with r | ⟨o, r⟩
  · exact ne_of_none r h
  · exact ne_of_none r h
mutual
/-- a place that nothing stands at may be forbidden -/
theorem Rp.bar {p : Addr} (h : H p = none) : ∀ {v : V} {d : PyData}, Rp K Y H v d → Rp K (fun a => a = p ∨ Y a) H v d
  | _, _, .non => .non
  | _, _, .bl b => .bl b
  | _, _, .int i => .int i
  | _, _, .str x => .str x
  | _, _, .tup n r a => .tup (fun z => z.elim (rdNe r h) n) r (a.bar h)
  | _, _, .tupK r a => .tupK r (a.bar h)
  | _, _, .lst n r a => .lst (fun z => z.elim (rdNe r h) n) r (a.bar h)
  | _, _, .dct n r a b => .dct (fun z => z.elim (r.ne h) n) r (a.bar h) (b.bar h)
theorem RpA.bar {p : Addr} (h : H p = none) : ∀ {v : List V} {d : List PyData}, RpA K Y H v d → RpA K (fun a => a = p ∨ Y a) H v d
  | _, _, .nil => .nil
  | _, _, .cons a b => .cons (a.bar h) (b.bar h)
end
theorem Rp.less (hY : ∀ a, Y' a → Y a) {v : V} {d : PyData} (r : Rp K Y H v d) : Rp K Y' H v d := r.move Keeps.refl hY
theorem RpA.less (hY : ∀ a, Y' a → Y a) {v : List V} {d : List PyData} (r : RpA K Y H v d) : RpA K Y' H v d := r.move Keeps.refl hY
theorem KTup.sq {a : Addr} {xs : List V} (h : KTup K a xs) : SqT K H a xs := .inr h
theorem RpA.length : ∀ {vs : List V} {ds : List PyData}, RpA K Y H vs ds → vs.length = ds.length
  | _, _, .nil => rfl
  | _, _, .cons _ b => by rw [List.length_cons, List.length_cons, b.length]
theorem RpA.get : ∀ {vs : List V} {ds : List PyData} {i : Nat} {d : PyData}, RpA K Y H vs ds → ds[i]? = some d → ∃ v, vs[i]? = some v ∧ Rp K Y H v d
  | _, _, i, _, .nil, e => by simp at e
  | _, _, 0, _, .cons a _, e => by simp at e; subst e; exact ⟨_, rfl, a⟩
  | _, _, i + 1, d, .cons _ b, e => by
    obtain ⟨v, e1, r⟩ := b.get (i := i) (d := d) (by simpa using e)
    exact ⟨v, by simpa using e1, r⟩
theorem RpA.at : ∀ {vs : List V} {ds : List PyData} {i : Nat} {v : V}, RpA K Y H vs ds → vs[i]? = some v → ∃ d, ds[i]? = some d ∧ Rp K Y H v d
  | _, _, i, _, .nil, e => by simp at e
  | _, _, 0, _, .cons a _, e => by simp at e; subst e; exact ⟨_, rfl, a⟩
  | _, _, i + 1, v, .cons _ b, e => by
    obtain ⟨d, e1, r⟩ := b.at (i := i) (v := v) (by simpa using e)
    exact ⟨d, by simpa using e1, r⟩
theorem RpA.append : ∀ {vs ws : List V} {ds es : List PyData}, RpA K Y H vs ds → RpA K Y H ws es → RpA K Y H (vs ++ ws) (ds ++ es)
  | _, _, _, _, .nil, b => b
  | _, _, _, _, .cons a r, b => .cons a (r.append b)
theorem RpA.set {v : V} {d : PyData} (r : Rp K Y H v d) : ∀ {vs : List V} {ds : List PyData} (i : Nat), RpA K Y H vs ds → RpA K Y H (vs.set i v) (ds.set i d)
  | _, _, _, .nil => .nil
  | _, _, 0, .cons _ b => .cons r b
  | _, _, i + 1, .cons a b => .cons a (RpA.set r i b)
theorem RpA.take : ∀ {vs : List V} {ds : List PyData} (n : Nat), RpA K Y H vs ds → RpA K Y H (vs.take n) (ds.take n)
  | _, _, 0, _ => .nil
  | _, _, _ + 1, .nil => .nil
  | _, _, n + 1, .cons a b => .cons a (b.take n)
theorem RpA.drop : ∀ {vs : List V} {ds : List PyData} (n : Nat), RpA K Y H vs ds → RpA K Y H (vs.drop n) (ds.drop n)
  | _, _, 0, r => r
  | _, _, _ + 1, .nil => .nil
  | _, _, n + 1, .cons _ b => b.drop n
theorem RpA.eraseIdx : ∀ {vs : List V} {ds : List PyData} (i : Nat), RpA K Y H vs ds → RpA K Y H (vs.eraseIdx i) (ds.eraseIdx i)
  | _, _, _, .nil => .nil
  | _, _, 0, .cons _ b => b
  | _, _, i + 1, .cons a b => .cons a (b.eraseIdx i)
theorem RpA.dropLast {vs : List V} {ds : List PyData} (r : RpA K Y H vs ds) : RpA K Y H vs.dropLast ds.dropLast := by
  rw [List.dropLast_eq_take, List.dropLast_eq_take, r.length]
  exact r.take _
theorem RpA.rev : ∀ {vs : List V} {ds : List PyData}, RpA K Y H vs ds → RpA K Y H vs.reverse ds.reverse
  | _, _, .nil => .nil
  | _, _, .cons a b => by
    rw [List.reverse_cons, List.reverse_cons]
    exact b.rev.append (.cons a .nil)
end

/-- at a stands what is one's own: a list or a dict that nothing else knows -/
def Own (K : PySem.W.Frag) (Y : Addr → Prop) (H : Hp) (a : Addr) : PyData → Prop
  | .list ds => ∃ xs, H a = some (.lst xs) ∧ RpA K Y H xs ds
  | .dict kvs => ∃ ps, DctAt H a ps (kvs.map (·.1)) ∧ RpA K Y H (ps.map (·.2.1)) (kvs.map (·.1)) ∧ RpA K Y H (ps.map (·.2.2)) (kvs.map (·.2))
  | _ => False
theorem Own.move {K : PySem.W.Frag} {Y Y' : Addr → Prop} {H H' : Hp} {a : Addr} {d : PyData} (o : Own K Y H a d) (k : Keeps Y H H') (hY : ∀ a, Y' a → Y a) (ha : ∀ u, H a = some u → NTb u → H' a = some u) : Own K Y' H' a d := by
  cases d with
  | list ds =>
    obtain ⟨xs, e, r⟩ := o
    exact ⟨xs, ha _ e ntb_lst, r.move k hY⟩
  | dict kvs =>
    obtain ⟨ps, e, r, r2⟩ := o
    exact ⟨ps, e.move ha, r.move k hY, r2.move k hY⟩
  | _ => exact o.elim
theorem Own.bar {K : PySem.W.Frag} {Y : Addr → Prop} {H : Hp} {a p : Addr} {d : PyData} (o : Own K Y H a d) (h : H p = none) : Own K (fun b => b = p ∨ Y b) H a d := by
  cases d with
  | list ds =>
    obtain ⟨xs, e, r⟩ := o
    exact ⟨xs, e, r.bar h⟩
  | dict kvs =>
    obtain ⟨ps, e, r, r2⟩ := o
    exact ⟨ps, e, r.bar h, r2.bar h⟩
  | _ => exact o.elim
theorem Own.there {K : PySem.W.Frag} {Y : Addr → Prop} {H : Hp} {a : Addr} {d : PyData} (o : Own K Y H a d) : Thr H a := by
  cases d with
  | list ds =>
    obtain ⟨xs, e, r⟩ := o
    exact ⟨_, e, ntb_lst⟩
  | dict kvs =>
    obtain ⟨ps, ⟨⟨es, ep, e, _⟩, _, _, _, _⟩, _⟩ := o
    exact ⟨_, e, ntb_dct⟩
  | _ => exact o.elim
theorem DctAt.thr {H : Hp} {a : Addr} {ps : List DE} {kds : List PyData} (d : DctAt H a ps kds) : Thr H a := by
  obtain ⟨es, ep, e, r⟩ := d.ob
  exact ⟨_, e, ntb_dct⟩
theorem Own.plain {K : PySem.W.Frag} {Y : Addr → Prop} {H : Hp} {a : Addr} {d : PyData} (o : Own K Y H a d) : ∃ o0, H a = some o0 ∧ Plain a o0 := by
  cases d with
  | list ds =>
    obtain ⟨xs, e, _⟩ := o
    exact ⟨_, e, plain_lst⟩
  | dict kvs =>
    obtain ⟨ps, ⟨⟨es, ep, e, _⟩, _, _, _, _⟩, _⟩ := o
    exact ⟨_, e, plain_dct⟩
  | _ => exact o.elim
/-- given up: it is data as any other -/
theorem Own.rp {K : PySem.W.Frag} {Y Y' : Addr → Prop} {H : Hp} {a : Addr} {d : PyData} (o : Own K Y H a d) (hY : ∀ a, Y' a → Y a) (n : ¬ Y' a) : Rp K Y' H (.ref a) d := by
  cases d with
  | list ds =>
    obtain ⟨xs, e, r⟩ := o
    exact .lst n (.inl e) (r.less hY)
  | dict kvs =>
    obtain ⟨ps, e, r, r2⟩ := o
    exact .dct n e (r.less hY) (r2.less hY)
  | _ => exact o.elim

/-- slot i of ρ holds a thing of its own, that stands at a -/
def HotAt (ρ : PL.Env) (σ : L2.St) (a : Addr) : Prop := ∃ (i : Nat) (io : Bool) (d : PyData), ρ[i]? = some (Slot.h io d) ∧ σ[i]? = some (some (V.ref a))
def Fb (Z : Addr → Prop) (ρ : PL.Env) (σ : L2.St) (a : Addr) : Prop := Z a ∨ HotAt ρ σ a
/-- the slots ρ, over σ and H. B: what stood at the entry; Z: what is forbidden (others' own things) -/
structure Conc (K : PySem.W.Frag) (B Z : Addr → Prop) (ρ : PL.Env) (σ : L2.St) (H : Hp) : Prop where
  cold : ∀ (i : Nat) (d : PyData), ρ[i]? = some (Slot.c d) → ∃ v, σ[i]? = some (some v) ∧ Rp K (Fb Z ρ σ) H v d
  hot : ∀ (i : Nat) (io : Bool) (d : PyData), ρ[i]? = some (Slot.h io d) → ∃ a, σ[i]? = some (some (V.ref a)) ∧ ¬ Z a ∧ (io = false → ¬ B a) ∧ Own K (Fb Z ρ σ) H a d
  inj : ∀ (i j : Nat) (io io' : Bool) (d d' : PyData) (a : Addr), ρ[i]? = some (Slot.h io d) → ρ[j]? = some (Slot.h io' d') → σ[i]? = some (some (V.ref a)) → σ[j]? = some (some (V.ref a)) → i = j
  tr : ∀ a, Z a → Thr H a
  trB : ∀ a, B a → Thr H a
  len : ρ.length ≤ σ.length
  tabs : LamX.Tabs TabL.T H
section
variable {K : PySem.W.Frag} {B Z Z' : Addr → Prop} {ρ ρ' : PL.Env} {σ : L2.St} {H H' : Hp}
theorem Conc.fb (C : Conc K B Z ρ σ H) {a : Addr} (h : Fb Z ρ σ a) : Thr H a := by
  rcases h with h | ⟨i, io, d, e1, e2⟩
  · exact C.tr a h
  · obtain ⟨b, e3, _, _, o⟩ := C.hot i io d e1
    rw [e2] at e3
    cases e3
    exact o.there
theorem Conc.nfb (C : Conc K B Z ρ σ H) {p : Addr} (h : H p = none) : ¬ Fb Z ρ σ p := fun z => fre h (C.fb z)
theorem Conc.nhot (C : Conc K B Z ρ σ H) {a : Addr} (h : Z a) : ¬ HotAt ρ σ a := fun ⟨i, io, d, e1, e2⟩ => by
  obtain ⟨b, e3, n, _⟩ := C.hot i io d e1
  rw [e2] at e3
  cases e3
  exact n h
/-- the heap grows -/
theorem Conc.grow (C : Conc K B Z ρ σ H) (k : Keeps NoM H H') : Conc K B Z ρ σ H' := by
  refine ⟨fun i d e => ?_, fun i io d e => ?_, C.inj, fun a z => k.there a (C.tr a z), fun a z => k.there a (C.trB a z), C.len, k.tab C.tabs⟩
  · obtain ⟨v, e1, r⟩ := C.cold i d e
    exact ⟨v, e1, r.move k.any fun _ z => z⟩
  · obtain ⟨a, e1, n, b, o⟩ := C.hot i io d e
    exact ⟨a, e1, n, b, o.move k.any (fun _ z => z) fun u e t => k.all e t⟩
theorem Conc.less (C : Conc K B Z ρ σ H) (h : ∀ a, Z' a → Z a) : Conc K B Z' ρ σ H := by
  have hY : ∀ a, Fb Z' ρ σ a → Fb Z ρ σ a := fun a z => z.imp (h a) id
  refine ⟨fun i d e => ?_, fun i io d e => ?_, C.inj, fun a z => C.tr a (h a z), C.trB, C.len, C.tabs⟩
  · obtain ⟨v, e1, r⟩ := C.cold i d e
    exact ⟨v, e1, r.less hY⟩
  · obtain ⟨a, e1, n, b, o⟩ := C.hot i io d e
    exact ⟨a, e1, fun z => n (h a z), b, o.move Keeps.refl hY fun u e _ => e⟩
abbrev Plus (p : Addr) (Z : Addr → Prop) : Addr → Prop := fun a => a = p ∨ Z a
theorem fb_plus {p a : Addr} (z : Fb (Plus p Z) ρ σ a) : a = p ∨ Fb Z ρ σ a := by
  rcases z with (z | z) | z
  · exact .inl z
  · exact .inr (.inl z)
  · exact .inr (.inr z)
theorem plus_fb {p a : Addr} (z : a = p ∨ Fb Z ρ σ a) : Fb (Plus p Z) ρ σ a := by
  rcases z with z | z | z
  · exact .inl (.inl z)
  · exact .inl (.inr z)
  · exact .inr z
/-- a new thing is forbidden too -/
theorem Conc.bar (C : Conc K B Z ρ σ H) {p : Addr} (h : H p = none) (h' : Thr H' p) (k : Keeps NoM H H') : Conc K B (Plus p Z) ρ σ H' := by
  refine ⟨fun i d e => ?_, fun i io d e => ?_, C.inj, fun a z => ?_, fun a z => k.there a (C.trB a z), C.len, k.tab C.tabs⟩
  · obtain ⟨v, e1, r⟩ := C.cold i d e
    exact ⟨v, e1, (r.bar h).move k.any fun _ => fb_plus⟩
  · obtain ⟨a, e1, n, b, o⟩ := C.hot i io d e
    refine ⟨a, e1, fun z => z.elim (fun z => ?_) n, b, (o.bar h).move k.any (fun _ => fb_plus) fun u e t => k.all e t⟩
    exact fre (by rw [z]; exact h) (C.fb (.inr ⟨i, io, d, e, e1⟩))
  · rcases z with z | z
    · rw [z]; exact h'
    · exact k.there a (C.tr a z)
end
end PL

set_option autoImplicit false
set_option linter.all false
set_option Elab.async false
set_option maxRecDepth 100000
/-! PL2: an expression does what the evaluator says. -/
namespace PL
open PySem PySem.Spec PyProof.Rows L2
variable [TabL]

/-- an operand: data, or a thing of one's own that is looked at -/
inductive Op (K : PySem.W.Frag) (Y : Addr → Prop) (H : Hp) : V → PyData → Prop
  | rp {v : V} {d : PyData} : Rp K Y H v d → Op K Y H v d
  | own {a : Addr} {d : PyData} : Own K Y H a d → Op K Y H (.ref a) d
inductive OpA (K : PySem.W.Frag) (Y : Addr → Prop) (H : Hp) : List V → List PyData → Prop
  | nil : OpA K Y H [] []
  | cons {v : V} {vs : List V} {d : PyData} {ds : List PyData} : Op K Y H v d → OpA K Y H vs ds → OpA K Y H (v :: vs) (d :: ds)
/-- what comes new -/
def New (K : PySem.W.Frag) (Y : Addr → Prop) (H H' : Hp) (v : V) : Res → Prop
  | .val d => Keeps NoM H H' ∧ Rp K Y H' v d
  | .fresh d => ∃ a, v = .ref a ∧ H a = none ∧ Keeps NoM H H' ∧ Own K (Plus a Y) H' a d
  | .ref _ => False
section
variable {K : PySem.W.Frag} {Y : Addr → Prop} {H : Hp} {v : V} {d : PyData}
theorem Own.asRp {a : Addr} (o : Own K Y H a d) : Rp K (fun _ => False) H (.ref a) d := o.rp (fun _ z => z.elim) fun z => z
/-- looked at as data -/
theorem Op.asRp (o : Op K Y H v d) : Rp K (fun _ => False) H v d := by
  cases o with
  | rp r => exact r.less fun _ z => z.elim
  | own o => exact o.asRp
theorem OpA.asRp : ∀ {vs : List V} {ds : List PyData}, OpA K Y H vs ds → RpA K (fun _ => False) H vs ds
  | _, _, .nil => .nil
  | _, _, .cons a b => .cons a.asRp b.asRp
theorem Op.dict {kvs : List (PyData × PyData)} (o : Op K Y H v (.dict kvs)) : ∃ a ps, v = .ref a ∧ DctAt H a ps (kvs.map (·.1)) ∧ RpA K Y H (ps.map (·.2.1)) (kvs.map (·.1)) ∧ RpA K Y H (ps.map (·.2.2)) (kvs.map (·.2)) := by
  cases o with
  | rp r =>
    cases r with
    | dct n e r r2 => exact ⟨_, _, rfl, e, r, r2⟩
  | own o =>
    obtain ⟨ps, e, r, r2⟩ := o
    exact ⟨_, ps, rfl, e, r, r2⟩
theorem Op.int {i : Int} (o : Op K Y H v (.int i)) : v = .int i := by
  cases o with
  | rp r => cases r; rfl
  | own o => exact o.elim
theorem Op.bl {i : Bool} (o : Op K Y H v (.bool i)) : v = .bl i := by
  cases o with
  | rp r => cases r; rfl
  | own o => exact o.elim
theorem Op.str {i : Str} (o : Op K Y H v (.str i)) : v = .str i := by
  cases o with
  | rp r => cases r; rfl
  | own o => exact o.elim
theorem Op.non (o : Op K Y H v .none) : v = .non := by
  cases o with
  | rp r => cases r; rfl
  | own o => exact o.elim
theorem Op.list {ds : List PyData} (o : Op K Y H v (.list ds)) : ∃ a xs, v = .ref a ∧ SqL K H a xs ∧ RpA K Y H xs ds := by
  cases o with
  | rp r =>
    cases r with
    | lst n e r => exact ⟨_, _, rfl, .inl e, r⟩
  | own o =>
    obtain ⟨xs, e, r⟩ := o
    exact ⟨_, xs, rfl, SqL.of e, r⟩
theorem Op.tuple {ds : List PyData} (o : Op K Y H v (.tuple ds)) : ∃ a xs, v = .ref a ∧ SqT K H a xs ∧ RpA K Y H xs ds := by
  cases o with
  | rp r =>
    cases r with
    | tup n e r => exact ⟨_, _, rfl, .inl e, r⟩
    | tupK e r => exact ⟨_, _, rfl, e.sq, r⟩
  | own o => exact o.elim
theorem Op.tupRp {ds : List PyData} (o : Op K Y H v (.tuple ds)) : Rp K Y H v (.tuple ds) := by
  cases o with
  | rp r => exact r
  | own o => exact o.elim
end

def PostR (K : PySem.W.Frag) (B Z : Addr → Prop) (ρ' : PL.Env) (σ : L2.St) (H' : Hp) (v : V) : Res → Prop
  | .val d => Conc K B Z ρ' σ H' ∧ Rp K (Fb Z ρ' σ) H' v d
  | .fresh d => ∃ a, v = .ref a ∧ ¬ Z a ∧ ¬ B a ∧ Conc K B (Plus a Z) ρ' σ H' ∧ Own K (Fb (Plus a Z) ρ' σ) H' a d
  | .ref i => σ[i]? = some (some v) ∧ Conc K B Z ρ' σ H'
/-- no slot becomes one's own -/
def Sub (ρ ρ' : PL.Env) : Prop := ∀ (i : Nat) (io : Bool) (d' : PyData), ρ'[i]? = some (Slot.h io d') → ∃ d, ρ[i]? = some (Slot.h io d)
theorem Sub.refl {ρ : PL.Env} : Sub ρ ρ := fun _ _ d e => ⟨d, e⟩
theorem Sub.trans {ρ ρ1 ρ2 : PL.Env} (a : Sub ρ ρ1) (b : Sub ρ1 ρ2) : Sub ρ ρ2 := fun i io d e => by
  obtain ⟨d1, e1⟩ := b i io d e
  exact a i io d1 e1
theorem Sub.hot {ρ ρ' : PL.Env} {σ : L2.St} (s : Sub ρ ρ') : ∀ a, HotAt ρ' σ a → HotAt ρ σ a := fun a ⟨i, io, d, e1, e2⟩ => by
  obtain ⟨d1, e3⟩ := s i io d e1
  exact ⟨i, io, d1, e3, e2⟩
structure PostX (K : PySem.W.Frag) (B Z : Addr → Prop) (ρ ρ' : PL.Env) (σ : L2.St) (H H' : Hp) : Prop where
  keep : Keeps (HotAt ρ σ) H H'
  sl : Sub ρ ρ'
  conc : Conc K B Z ρ' σ H'
structure Post (K : PySem.W.Frag) (B Z : Addr → Prop) (ρ ρ' : PL.Env) (σ : L2.St) (H H' : Hp) (v : V) (r : Res) : Prop where
  keep : Keeps (HotAt ρ σ) H H'
  sl : Sub ρ ρ'
  res : PostR K B Z ρ' σ H' v r
  nw : ∀ d a, r = .fresh d → v = .ref a → ¬ Thr H a
section
variable {K : PySem.W.Frag} {B Z : Addr → Prop} {ρ ρ1 ρ2 : PL.Env} {σ : L2.St} {H H1 H2 : Hp} {v : V} {r : Res}
theorem PostX.sub (p : PostX K B Z ρ ρ1 σ H H1) : ∀ a, HotAt ρ1 σ a → HotAt ρ σ a := p.sl.hot
theorem Post.sub (p : Post K B Z ρ ρ1 σ H H1 v r) : ∀ a, HotAt ρ1 σ a → HotAt ρ σ a := p.sl.hot
theorem PostR.conc (p : PostR K B Z ρ1 σ H1 v r) : Conc K B Z ρ1 σ H1 := by
  cases r with
  | val d => exact p.1
  | fresh d => obtain ⟨a, _, _, _, c, _⟩ := p; exact c.less fun _ z => .inr z
  | ref i => exact p.2
theorem Post.x (p : Post K B Z ρ ρ1 σ H H1 v r) : PostX K B Z ρ ρ1 σ H H1 := ⟨p.keep, p.sl, p.res.conc⟩
theorem Post.conc (p : Post K B Z ρ ρ1 σ H H1 v r) : Conc K B Z ρ1 σ H1 := p.res.conc
theorem PostX.refl (C : Conc K B Z ρ σ H) : PostX K B Z ρ ρ σ H H := ⟨Keeps.refl, Sub.refl, C⟩
theorem Keeps.seq {M M' : Addr → Prop} (a : Keeps M H H1) (b : Keeps M' H1 H2) (h : ∀ p, M' p → M p) : Keeps M H H2 := a.trans (b.mono h)
theorem PostX.seq (p : PostX K B Z ρ ρ1 σ H H1) (q : PostX K B Z ρ1 ρ2 σ H1 H2) : PostX K B Z ρ ρ2 σ H H2 :=
  ⟨p.keep.seq q.keep p.sub, p.sl.trans q.sl, q.conc⟩
theorem PostX.post (p : PostX K B Z ρ ρ1 σ H H1) (q : Post K B Z ρ1 ρ2 σ H1 H2 v r) : Post K B Z ρ ρ2 σ H H2 v r :=
  ⟨p.keep.seq q.keep p.sub, p.sl.trans q.sl, q.res, fun d a e1 e2 => p.keep.notnew (q.nw d a e1 e2)⟩
/-- nothing but what is new -/
theorem post_new (C : Conc K B Z ρ σ H) (n : New K (Fb Z ρ σ) H H1 v r) : Post K B Z ρ ρ σ H H1 v r := by
  cases r with
  | val d => exact ⟨n.1.any, Sub.refl, ⟨C.grow n.1, n.2⟩, fun _ _ e => nomatch e⟩
  | fresh d =>
    obtain ⟨a, e, h, k, o⟩ := n
    refine ⟨k.any, Sub.refl, ⟨a, e, fun z => fre h (C.tr a z), fun z => fre h (C.trB a z), C.bar h o.there k, o.move Keeps.refl (fun _ => fb_plus) fun u e _ => e⟩, fun _ b _ e2 => by rw [e] at e2; cases e2; exact fre h⟩
  | ref i => exact n.elim
theorem post_val {d : PyData} (C : Conc K B Z ρ σ H) (h : Rp K (Fb Z ρ σ) H v d) : Post K B Z ρ ρ σ H H v (.val d) := ⟨Keeps.refl, Sub.refl, ⟨C, h⟩, fun _ _ e => nomatch e⟩
theorem fb_sub (s : ∀ a, HotAt ρ1 σ a → HotAt ρ σ a) : ∀ a, Fb Z ρ1 σ a → Fb Z ρ σ a := fun a z => z.imp id (s a)
theorem keep_fb (k : Keeps (HotAt ρ σ) H H1) : Keeps (Fb Z ρ σ) H H1 := k.mono fun _ z => .inr z
/-- an earlier operand, looked at later -/
theorem peek_op {d : PyData} (p : PostR K B Z ρ1 σ H1 v r) (q : PostX K B Z ρ1 ρ2 σ H1 H2) (e : peek ρ2 r = some d) : Op K (Fb Z ρ2 σ) H2 v d := by
  cases r with
  | val d' =>
    cases e
    exact .rp (p.2.move (keep_fb q.keep) (fb_sub q.sub))
  | fresh d' =>
    cases e
    obtain ⟨a, rfl, n, _, c, o⟩ := p
    refine .own (o.move (keep_fb q.keep |>.mono fun a z => z.imp .inr id) (fun b z => (fb_sub q.sub b z).imp .inr id) fun u e t => q.keep.old a u e t fun z => ?_)
    exact c.nhot (.inl rfl) z
  | ref i =>
    obtain ⟨hv, _⟩ := p
    have C := q.conc
    unfold peek gets at e
    dsimp only at e
    cases h : ρ2[i]? with
    | none => rw [h] at e; cases e
    | some s =>
      rw [h] at e
      cases s with
      | no => cases e
      | c d' =>
        cases e
        obtain ⟨w, e1, rr⟩ := C.cold i d h
        rw [hv] at e1
        cases e1
        exact .rp rr
      | h io d' =>
        cases e
        obtain ⟨a, e1, n, _, o⟩ := C.hot i io d h
        rw [hv] at e1
        cases e1
        exact .own o
end

/-! ### the judgement -/
def tOut {α : Type} (o : Out α) (Qok : α → PL.Env → Prop) (Qx : Str → PL.Env → Prop) : Prop := match o with
  | .ok a ρ => Qok a ρ
  | .exc c ρ => Qx c ρ
  | .stuck => False
/-- what is wanted if an error of the class named c leaves -/
abbrev WX := Str → L2.St → Hp → Prop
def Gx (K : PySem.W.Frag) (Wx : WX) (B Z : Addr → Prop) (ρ : PL.Env) (σ : L2.St) (H : Hp) (c : Str) (ρ' : PL.Env) : Prop := ∀ H', PostX K B Z ρ ρ' σ H H' → Wx c σ H'
theorem Gx.step {K : PySem.W.Frag} {Wx : WX} {B Z : Addr → Prop} {ρ ρ1 : PL.Env} {σ : L2.St} {H H1 : Hp} {c : Str} {ρ' : PL.Env} (g : Gx K Wx B Z ρ σ H c ρ') (p : PostX K B Z ρ ρ1 σ H H1) : Gx K Wx B Z ρ1 σ H1 c ρ' :=
  fun H' q => g H' (p.seq q)
/-- the reading of an evaluation -/
def tSE (K : PySem.W.Frag) (Wx : WX) (f : PL.Env → Out Res) : TE := fun σ H Q => ∃ B Z ρ, Conc K B Z ρ σ H ∧ tOut (f ρ) (fun r ρ' => ∀ v H', Post K B Z ρ ρ' σ H H' v r → Q v H') (Gx K Wx B Z ρ σ H)
def SE (X : Cx) (Wx : WX) (e : Expr) (f : PL.Env → Out Res) : Prop := PE X e (tSE X.K Wx f)
theorem pe_mono {X : Cx} {e : Expr} {t t' : TE} (h : PE X e t) (i : ∀ σ H Q, t' σ H Q → t σ H Q) : PE X e t' := ⟨fun pins s σ H Q I q => h.run pins s σ H Q I (i σ H Q q)⟩
theorem pt_mono {X : Cx} {e : Expr} {t t' : TT} (h : PT X e t) (i : ∀ σ H Q, t' σ H Q → t σ H Q) : PT X e t' := ⟨fun pins s σ H Q I q => h.run pins s σ H Q I (i σ H Q q)⟩
theorem pw_mono {X : Cx} {e : Expr} {t t' : TT} (h : PW X e t) (i : ∀ σ H Q, t' σ H Q → t σ H Q) : PW X e t' := ⟨fun wh pins s σ H Q I q => h.run wh pins s σ H Q I (i σ H Q q)⟩
/-- a part is run, then what is left -/
theorem sub_run {K : PySem.W.Frag} {Wx : WX} {B Z : Addr → Prop} {ρ : PL.Env} {σ : L2.St} {H : Hp} {β : Type} {fa : PL.Env → Out Res} {k : Res → PL.Env → Out β} {Qok : β → PL.Env → Prop} {Qx : Str → PL.Env → Prop} {T : V → Hp → Prop}
    (C : Conc K B Z ρ σ H) (h : tOut (bind (fa ρ) k) Qok Qx) (hx : ∀ c ρ', Qx c ρ' → Gx K Wx B Z ρ σ H c ρ')
    (next : ∀ r ρ1 v H1, Post K B Z ρ ρ1 σ H H1 v r → tOut (k r ρ1) Qok Qx → T v H1) : tSE K Wx fa σ H T := by
  refine ⟨B, Z, ρ, C, ?_⟩
  cases e : fa ρ with
  | ok r ρ1 =>
    rw [e] at h
    exact fun v H1 p => next r ρ1 v H1 p h
  | exc c ρ1 =>
    rw [e] at h
    exact hx c ρ1 h
  | stuck =>
    rw [e] at h
    exact h
theorem tOut.mono {α : Type} {o : Out α} {Qok Qok' : α → PL.Env → Prop} {Qx Qx' : Str → PL.Env → Prop} (h : tOut o Qok Qx) (h1 : ∀ a ρ, Qok a ρ → Qok' a ρ) (h2 : ∀ c ρ, Qx c ρ → Qx' c ρ) : tOut o Qok' Qx' := by
  cases o with
  | ok a ρ => exact h1 a ρ h
  | exc c ρ => exact h2 c ρ h
  | stuck => exact h
theorem tOut.ofO {α : Type} {o : Option α} {ρ : PL.Env} {Qok : α → PL.Env → Prop} {Qx : Str → PL.Env → Prop} (h : tOut (ofO ρ o) Qok Qx) : ∃ a, o = some a ∧ Qok a ρ := by
  cases o with
  | none => exact h.elim
  | some a => exact ⟨a, rfl, h⟩

/-! ### rules by values -/
def Trk (Y : Addr → Prop) (H : Hp) : Prop := ∀ a, Y a → Thr H a
def rOp2 (K : PySem.W.Frag) (g : PyData → PyData → Option Res) : R2 := fun x y H Q => ∃ Y d e r, Trk Y H ∧ Op K Y H x d ∧ Op K Y H y e ∧ g d e = some r ∧ ∀ v H', New K Y H H' v r → Q v H'
def rCl (K : PySem.W.Frag) (g : List PyData → Option Res) : List V → Hp → VK → Prop := fun xs H Q => ∃ Y ds r, Trk Y H ∧ OpA K Y H xs ds ∧ g ds = some r ∧ ∀ v H', New K Y H H' v r → Q v H'
section
variable {X : Cx} {Wx : WX} {a b c : Expr} {fa fb fc : PL.Env → Out Res} {pos : Pos}
theorem se_bin {op : Operator} (ho : OpR X (binaryOp op) (rOp2 X.K (binD op))) (ha : SE X Wx a fa) (hb : SE X Wx b fb) :
    SE X Wx (.BinOp a op b pos) (fun ρ => bind (fa ρ) fun ra ρ1 => bind (fb ρ1) fun rb ρ2 => binR op ra rb ρ2) := by
  refine pe_mono (pe_op ho ha hb) fun σ H Q ⟨B, Z, ρ, C, h⟩ => ?_
  refine sub_run C h (fun _ _ z => z) fun ra ρ1 x H1 P1 h1 => sub_run P1.conc h1 (fun c ρ' z => z.step P1.x) fun rb ρ2 y H2 P2 h2 => ?_
  unfold binR at h2
  cases e1 : peek ρ2 ra with
  | none => rw [e1] at h2; exact h2.elim
  | some d =>
    cases e2 : peek ρ2 rb with
    | none => rw [e1, e2] at h2; exact h2.elim
    | some e =>
      rw [e1, e2] at h2
      obtain ⟨r, e3, q⟩ := h2.ofO
      exact ⟨Fb Z ρ2 σ, d, e, r, fun a z => P2.conc.fb z, peek_op P1.res P2.x e1, peek_op P2.res (.refl P2.conc) e2, e3, fun v H' n => q v H' ((P1.x.seq P2.x).post (post_new P2.conc n))⟩
end
end PL

set_option autoImplicit false
set_option linter.all false
set_option Elab.async false
set_option maxRecDepth 100000
set_option maxHeartbeats 1000000
/-! PE1: a tuple once. -/
namespace PL
open PySem PySem.Spec PyProof.Rows L2
variable [TabL]
theorem tuple_mul1 (l : Addr) (items : Array Value) (n : Nat) (dd : Option Addr) (sl : Array (Option Value)) (x : Int) (u : Tok) (c0 : (decide (x < -(2 ^ 63)) || decide (x ≥ 2 ^ 63)) = false) (c1 : (items.isEmpty || x == 1) = true) :
    Meets (Builtin.«tuple.__mul__» ⟨[.ref l, .int x u], []⟩) (fun _ R s => s.heap.get? l = some { cls := .type "tuple", dict := dd, data := .seq items n, slots := sl } ∧
      R (.ok (.ret (Value.ref l))) s) :=
  .of_wp fun prog w A R s h => by
    obtain ⟨hp, g, d, tk, os⟩ := s
    obtain ⟨hl, h⟩ := h
    have f1 := AutoSeq1.idx_int
    wp_walk using wpAny_loadPart' hl
    repeat (first
      | (refine wpAny_ite_false (decide_eq_false (by rw [c0]; exact Bool.false_ne_true)) ?_; wp_walk using wpAny_loadPart' hl)
      | (refine wpAny_ite_true (decide_eq_true c1) ?_; wp_walk using wpAny_loadPart' hl))
    exact ⟨_, rfl, h⟩
section
variable {X : Cx}
theorem op_repT1 : OpR X (binaryOp .Mult) (fun x y H Q => ∃ l xs, x = .ref l ∧ y = .int 1 ∧ SqT X.K H l xs ∧ Q (.ref l) H) := by
  intro pins s σ H x y v u Q I rx ry h
  obtain ⟨l, xs, rfl, rfl, hT, q⟩ := h
  cases rx
  obtain ⟨t, rfl⟩ := ry
  obtain ⟨its, r, ⟨⟨cls, dd, data, sl⟩, ho, hc, n, hd⟩, hs⟩ := I.tuple hT
  simp only at hc hd
  subst hc hd
  have c1 : (its.toArray.isEmpty || ((1 : Int) == 1)) = true := by rw [Bool.or_eq_true]; exact .inr rfl
  exact wpAny_binaryOp_repeat_ref (T := "tuple") (U := "int") (by decide) ⟨_, ho, rfl⟩ (fun s' => typeIs_int s' 1 t) noFill_tuple_mul F.fills_int_mul F.slot_int_rmul repeat_tuple F.slot_int_index.lookup
    (call_meets F.slot_int_rmul (typeIs_int s 1 t) F.entry_int_rmul (F.args_int_rmul_2 _ _) (int_rmul_tuple 1 t l its.toArray n dd sl)
      ⟨ho, rfl, ⟨_, ho, rfl⟩, call_meets F.slot_tuple_mul ⟨_, ho, rfl⟩ F.entry_tuple_mul (F.args_tuple_mul_2 _ _) (tuple_mul1 l its.toArray n dd sl 1 t rfl c1) ⟨ho, ⟨.ref l, H, I, rfl, q⟩⟩⟩)
end
theorem tuple_mul0 (l : Addr) (items : Array Value) (n : Nat) (dd : Option Addr) (sl : Array (Option Value)) (x : Int) (u : Tok) (c0 : (decide (x < -(2 ^ 63)) || decide (x ≥ 2 ^ 63)) = false) (c1 : (items.isEmpty || x == 1) = false) (c2 : (decide (x ≤ 0) || items.isEmpty) = true) :
    Meets (Builtin.«tuple.__mul__» ⟨[.ref l, .int x u], []⟩) (fun _ R s => s.heap.get? l = some { cls := .type "tuple", dict := dd, data := .seq items n, slots := sl } ∧
      R (.ok (.ret (Value.ref s.heap.objs.size))) { s with heap := s.heap.push { cls := Value.type "tuple", data := Data.seq #[] }, toks := s.toks }) :=
  .of_wp fun prog w A R s h => by
    obtain ⟨hp, g, d, tk, os⟩ := s
    obtain ⟨hl, h⟩ := h
    have f1 := AutoSeq1.idx_int
    wp_walk using wpAny_loadPart' hl
    repeat (first
      | (refine wpAny_ite_false (decide_eq_false (by rw [c0]; exact Bool.false_ne_true)) ?_; wp_walk using wpAny_loadPart' hl)
      | (refine wpAny_ite_false (decide_eq_false (by rw [c1]; exact Bool.false_ne_true)) ?_; wp_walk using wpAny_loadPart' hl)
      | (refine wpAny_ite_true (decide_eq_true c2) ?_; wp_walk using wpAny_loadPart' hl))
    exact ⟨_, rfl, h⟩
section
variable {X : Cx}
theorem op_repT0 : OpR X (binaryOp .Mult) (fun x y H Q => ∃ l xs, x = .ref l ∧ y = .int 0 ∧ SqT X.K H l xs ∧ xs ≠ [] ∧ ∀ p, H p = none → Q (.ref p) (upd H p (.tup []))) := by
  intro pins s σ H x y v u Q I rx ry h
  obtain ⟨l, xs, rfl, rfl, hT, hne, q⟩ := h
  cases rx
  obtain ⟨t, rfl⟩ := ry
  obtain ⟨its, r, ⟨⟨cls, dd, data, sl⟩, ho, hc, n, hd⟩, hs⟩ := I.tuple hT
  simp only at hc hd
  subst hc hd
  have hi : its.toArray.isEmpty = false := by
    cases its with
    | nil =>
      have hle := r.length
      exact absurd (List.eq_nil_of_length_eq_zero hle) hne
    | cons a b => rfl
  have c1 : (its.toArray.isEmpty || ((0 : Int) == 1)) = false := by rw [hi]; rfl
  refine wpAny_binaryOp_repeat_ref (T := "tuple") (U := "int") (by decide) ⟨_, ho, rfl⟩ (fun s' => typeIs_int s' 0 t) noFill_tuple_mul F.fills_int_mul F.slot_int_rmul repeat_tuple F.slot_int_index.lookup
    (call_meets F.slot_int_rmul (typeIs_int s 0 t) F.entry_int_rmul (F.args_int_rmul_2 _ _) (int_rmul_tuple 0 t l its.toArray n dd sl)
      ⟨ho, rfl, ⟨_, ho, rfl⟩, call_meets F.slot_tuple_mul ⟨_, ho, rfl⟩ F.entry_tuple_mul (F.args_tuple_mul_2 _ _) (tuple_mul0 l its.toArray n dd sl 0 t rfl c1 rfl) ⟨ho, ?_⟩⟩)
  refine ⟨.ref s.heap.objs.size, _, I.laid (t' := s.toks) (o := .tup []) (fun b ob q => Heap.get?_push_of_some _ q) (Nat.le_refl _) ?_, rfl, q _ (I.hok.fresh (Nat.le_refl _))⟩
  exact ⟨Nat.zero_le _, [], .nil, IsTup.new _ _⟩
end
end PL

set_option autoImplicit false
set_option linter.all false
set_option Elab.async false
set_option maxRecDepth 100000
set_option maxHeartbeats 1000000
/-! PL3: the operators, by values. -/
namespace PL
open PySem PySem.Spec PyProof.Rows L2
variable [TabL]

structure XOk (X : Cx) : Prop where
  calm : X.calm = true
  un : X.A.units + 200 < cLine
section
variable {K : PySem.W.Frag} {Y : Addr → Prop} {H H' : Hp} {v : V} {d : PyData}
theorem new_keep (r : Rp K Y H v d) : New K Y H H v (.val d) := ⟨Keeps.refl, r⟩
theorem new_int (i : Int) : New K Y H H (.int i) (.val (.int i)) := new_keep (.int i)
theorem new_bl (i : Bool) : New K Y H H (.bl i) (.val (.bool i)) := new_keep (.bl i)
theorem new_str (i : Str) : New K Y H H (.str i) (.val (.str i)) := new_keep (.str i)
theorem new_tup {p : Addr} {xs : List V} {ds : List PyData} (t : Trk Y H) (h : H p = none) (r : RpA K Y H xs ds) : New K Y H (upd H p (.tup xs)) (.ref p) (.val (.tuple ds)) :=
  ⟨Keeps.new h, .tup (fun z => fre h (t p z)) (.inl upd_same) (r.move (Keeps.new h).any fun _ z => z)⟩
theorem new_lst {p : Addr} {xs : List V} {ds : List PyData} (h : H p = none) (r : RpA K Y H xs ds) : New K Y H (upd H p (.lst xs)) (.ref p) (.fresh (.list ds)) :=
  ⟨p, rfl, h, Keeps.new h, xs, upd_same, (r.bar h).move (Keeps.new h).any fun _ z => z⟩
theorem szOk_le {n : Nat} (h : szOk n = true) : n ≤ sizeLine := by
  unfold szOk at h
  have := of_decide_eq_true h
  rw [sizeLine_eq]; omega
theorem szOk_lt {n : Nat} (h : szOk n = true) : n < sizeLine := by
  unfold szOk at h
  have := of_decide_eq_true h
  rw [sizeLine_eq]; omega
theorem RpA.ne {xs : List V} {ds : List PyData} (r : RpA K Y H xs ds) : xs = [] ↔ ds = [] := by
  cases r with
  | nil => simp
  | cons a b => simp
theorem RpA.flat {xs : List V} {ds : List PyData} (r : RpA K Y H xs ds) : ∀ n : Nat, RpA K Y H (List.replicate n xs).flatten (rep n ds)
  | 0 => .nil
  | n + 1 => by
    rw [List.replicate_succ, List.flatten_cons]
    unfold rep
    rw [List.replicate_succ, List.flatten_cons]
    exact r.append (r.flat n)
theorem Op.rdl {ds : List PyData} (o : Op K Y H v (.list ds)) : ∃ a xs, v = .ref a ∧ Rd H a (.lst xs) ∧ RpA K Y H xs ds := by
  cases o with
  | rp r =>
    cases r with
    | lst n e r => exact ⟨_, _, rfl, e, r⟩
  | own o =>
    obtain ⟨xs, e, r⟩ := o
    exact ⟨_, xs, rfl, .inl e, r⟩
end
theorem rd_list {X : Cx} {pins : List (Addr × Obj)} {σ : L2.St} {H : Hp} {s : Shared} {a : Addr} {xs : List V} (I : L2.Inv X pins σ H s) (r : Rd H a (.lst xs)) :
    xs.length ≤ sizeLine ∧ ∃ (its : List Value) (n : Nat), Vals xs its ∧ s.heap.get? a = some { cls := .type "list", data := .seq its.toArray n } := r.ok I.hok
theorem ite_some {α : Type} {c : Bool} {a r : α} (h : (if c = true then some a else none) = some r) : c = true ∧ a = r := by
  cases c with
  | true => exact ⟨rfl, Option.some.inj h⟩
  | false => cases h
theorem small_ok {i : Int} (h : small i = true) : -(2 ^ 64) < i ∧ i < 2 ^ 64 := by
  unfold small at h
  have := of_decide_eq_true h
  omega
theorem mul_ok {i j : Int} (h : mulOk i j = true) : CMul i j ∨ CMulW i j := by
  unfold mulOk at h
  rw [Bool.or_eq_true, Bool.or_eq_true, Bool.and_eq_true] at h
  rcases h with (h | h) | ⟨h1, h2⟩
  · exact .inl (.inl (small_ok h))
  · exact .inl (.inr (small_ok h))
  · unfold mid at h1 h2
    exact .inr (wide_mul (of_decide_eq_true h1) (of_decide_eq_true h2) (by decide) (by decide) (by decide))
theorem rep_at {X : Cx} {pins : List (Addr × Obj)} {σ : L2.St} {H : Hp} {s : Shared} {l : Addr} {xs : List V} {k : Int} {tk : Tok} {Q : VK} (I : L2.Inv X pins σ H s) (r : Rd H l (.lst xs))
    (h1 : -(2 ^ 63) ≤ k) (h2 : k < 2 ^ 63) (hz : xs.length * k.toNat ≤ sizeLine) (q : ∀ p, H p = none → Q (.ref p) (upd H p (.lst (List.replicate k.toNat xs).flatten))) :
    wpAny (model X.prog X.w) X.A (binaryOp .Mult (.ref l) (.int k tk)) (EP X pins σ Q) X.xe s := by
  obtain ⟨z, its, n, rv, e⟩ := rd_list I r
  have hl : its.toArray.size = xs.length := by rw [List.size_toArray]; exact rv.length.symm
  have cap : its.toArray.size * k.toNat ≤ (2 ^ 63 - 1) / 8 := by
    have : (sizeLine : Nat) ≤ (2 ^ 63 - 1) / 8 := by decide
    rw [hl]; omega
  have fit : Builtin.List.listFitsIndex k = true := fitsIndex_both h1 h2
  have lng : Builtin.List.listTooLong (its.toArray.size * k.toNat) = false := notLongL (by rw [hl]; exact hz)
  have all : List.foldl (fun x1 x2 => x1 ++ x2) #[] (List.replicate (if its.toArray.isEmpty = true then 0 else k.toNat) its.toArray) = (List.replicate k.toNat its).flatten.toArray := by
    cases its with
    | nil => simp
    | cons a r' =>
      rw [if_neg (by simp)]
      exact (foldl_rep (a :: r') k.toNat []).trans (by simp)
  have mul := AutoListH.list___mul___list_int_3 l its.toArray n k tk (by rw [fit]; decide) (by omega) (by rw [lng]; decide)
  have rmul := int___rmul___int_list k tk l its.toArray n
  refine wpAny_binaryOp_repeat_ref (T := "list") (U := "int") (by decide) ⟨_, e, rfl⟩ (fun s2 => typeIs_int s2 k tk) noFill_list_mul F.fills_int_mul F.slot_int_rmul repeat_list F.slot_int_index.lookup ?_
  refine call_meets F.slot_int_rmul (typeIs_int s k tk) F.entry_int_rmul (F.args_int_rmul_2 _ _) rmul ⟨e, rfl, ⟨_, e, rfl⟩, ?_⟩
  refine call_meets F.slot_list_mul ⟨_, e, rfl⟩ F.entry_list_mul (F.args_list_mul_2 _ _) mul ⟨e, ?_⟩
  rw [all]
  exact ⟨.ref _, _, I.lnew (t' := s.toks) (rv.rep k.toNat) (by rw [PyProof.Rows.lm_len_rep_flat, Nat.mul_comm]; exact hz), rfl, q _ I.fresh⟩
section
variable {X : Cx}
theorem op_bin_add (ok : XOk X) : OpR X (binaryOp .Add) (rOp2 X.K (binD .Add)) := by
  rintro pins s σ H x y v u Q I rx ry ⟨Y, d, e, r, t, hx, hy, hg, q⟩
  cases d with
  | int i =>
    cases e with
    | int j =>
      cases hg
      rw [hx.int] at rx
      rw [hy.int] at ry
      exact op_add pins s σ H _ _ v u Q I rx ry ⟨i, j, rfl, rfl, q _ _ (new_int _)⟩
    | _ => cases hg
  | str i =>
    cases e with
    | str j =>
      rw [hx.str] at rx
      rw [hy.str] at ry
      obtain ⟨hz, rfl⟩ := ite_some hg
      exact op_add_str pins s σ H _ _ v u Q I rx ry ⟨i, j, rfl, rfl, szOk_le hz, q _ _ (new_str _)⟩
    | _ => cases hg
  | tuple ds =>
    cases e with
    | tuple es =>
      obtain ⟨a, xs, ex, sx, ax⟩ := hx.tuple
      obtain ⟨b, ys, ey, sy, ay⟩ := hy.tuple
      obtain ⟨hz, rfl⟩ := ite_some hg
      refine op_catA pins s σ H x y v u Q I rx ry ⟨a, b, xs, ys, ex, ey, sx, sy, by rw [ax.length, ay.length]; exact szOk_le hz, fun h0 => ?_, fun h0 h1 => ?_, fun h0 h1 p hp => ?_⟩
      · have := ax.ne.mp h0
        subst this
        exact q _ _ (new_keep (by rw [← ey]; exact hy.tupRp))
      · have := ay.ne.mp h1
        subst this
        rw [List.append_nil] at q
        exact q _ _ (new_keep (by rw [← ex]; exact hx.tupRp))
      · exact q _ _ (new_tup t hp (ax.append ay))
    | _ => cases hg
  | list ds =>
    cases e with
    | list es =>
      obtain ⟨a, xs, ex, sx, ax⟩ := hx.rdl
      obtain ⟨b, ys, ey, sy, ay⟩ := hy.rdl
      obtain ⟨hz, rfl⟩ := ite_some hg
      subst ex ey
      cases rx
      cases ry
      obtain ⟨z1, its, n, r1, e1⟩ := rd_list I sx
      obtain ⟨z2, its2, n2, r2, e2⟩ := rd_list I sy
      have hl := r1.length
      have hl2 := r2.length
      have hs := szOk_le hz
      have h1 := ax.length
      have h2 := ay.length
      refine PySem.P.add_list e1 e2 ?_ (by rw [List.size_toArray, List.size_toArray]; omega)
      have ea : its.toArray ++ its2.toArray = (its ++ its2).toArray := by simp
      rw [ea]
      exact ⟨.ref _, _, I.lnew (t' := s.toks) (r1.append r2) (by rw [List.length_append]; omega), rfl, q _ _ (new_lst I.fresh (ax.append ay))⟩
    | _ => cases hg
  | _ => cases e <;> cases hg
theorem op_bin_sub (ok : XOk X) : OpR X (binaryOp .Sub) (rOp2 X.K (binD .Sub)) := by
  rintro pins s σ H x y v u Q I rx ry ⟨Y, d, e, r, t, hx, hy, hg, q⟩
  cases d with
  | int i =>
    cases e with
    | int j =>
      cases hg
      rw [hx.int] at rx
      rw [hy.int] at ry
      exact op_sub pins s σ H _ _ v u Q I rx ry ⟨i, j, rfl, rfl, q _ _ (new_int _)⟩
    | _ => cases hg
  | _ => cases e <;> cases hg
theorem op_bin_mod (ok : XOk X) : OpR X (binaryOp .Mod) (rOp2 X.K (binD .Mod)) := by
  rintro pins s σ H x y v u Q I rx ry ⟨Y, d, e, r, t, hx, hy, hg, q⟩
  cases d with
  | int i =>
    cases e with
    | int j =>
      obtain ⟨hz, rfl⟩ := ite_some hg
      rw [hx.int] at rx
      rw [hy.int] at ry
      exact op_mod pins s σ H _ _ v u Q I rx ry ⟨i, j, rfl, rfl, of_decide_eq_true hz, q _ _ (new_int _)⟩
    | _ => cases hg
  | _ => cases e <;> cases hg
theorem op_bin_fdiv (ok : XOk X) : OpR X (binaryOp .FloorDiv) (rOp2 X.K (binD .FloorDiv)) := by
  rintro pins s σ H x y v u Q I rx ry ⟨Y, d, e, r, t, hx, hy, hg, q⟩
  cases d with
  | int i =>
    cases e with
    | int j =>
      obtain ⟨hz, rfl⟩ := ite_some hg
      unfold divOk at hz
      rw [Bool.and_eq_true] at hz
      rw [hx.int] at rx
      rw [hy.int] at ry
      exact op_fdivW pins s σ H _ _ v u Q I rx ry ⟨i, j, rfl, rfl, wide_div (of_decide_eq_true hz.1) (of_decide_eq_true hz.2) (by decide) (by decide), q _ _ (new_int _)⟩
    | _ => cases hg
  | _ => cases e <;> cases hg
theorem op_bin_pow (ok : XOk X) : OpR X (binaryOp .Pow) (rOp2 X.K (binD .Pow)) := by
  rintro pins s σ H x y v u Q I rx ry ⟨Y, d, e, r, t, hx, hy, hg, q⟩
  cases d with
  | int i =>
    cases e with
    | int j =>
      obtain ⟨hz, rfl⟩ := ite_some hg
      rw [Bool.and_eq_true, Bool.and_eq_true] at hz
      have h1 := of_decide_eq_true hz.1.1
      have h2 := of_decide_eq_true hz.1.2
      have h3 := hz.2
      unfold small at h3
      have h3 := of_decide_eq_true h3
      rw [hx.int] at rx
      rw [hy.int] at ry
      exact L2.op_pow pins s σ H _ _ v u Q I rx ry ⟨i, j, rfl, rfl, ⟨h1, by omega, by omega⟩, q _ _ (new_int _)⟩
    | _ => cases hg
  | _ => cases e <;> cases hg
theorem op_bin_shl (ok : XOk X) : OpR X (binaryOp .LShift) (rOp2 X.K (binD .LShift)) := by
  rintro pins s σ H x y v u Q I rx ry ⟨Y, d, e, r, t, hx, hy, hg, q⟩
  cases d with
  | int i =>
    cases e with
    | int j =>
      obtain ⟨hz, rfl⟩ := ite_some hg
      rw [Bool.and_eq_true, Bool.and_eq_true] at hz
      have h1 := of_decide_eq_true hz.1.1
      have h2 := of_decide_eq_true hz.1.2
      have h3 := hz.2
      unfold small at h3
      have h3 := of_decide_eq_true h3
      rw [hx.int] at rx
      rw [hy.int] at ry
      exact L2.op_shl pins s σ H _ _ v u Q I rx ry ⟨i, j, rfl, rfl, ⟨h1, by omega, by omega⟩, q _ _ (new_int _)⟩
    | _ => cases hg
  | _ => cases e <;> cases hg
theorem op_bin_mul (ok : XOk X) : OpR X (binaryOp .Mult) (rOp2 X.K (binD .Mult)) := by
  rintro pins s σ H x y v u Q I rx ry ⟨Y, d, e, r, t, hx, hy, hg, q⟩
  cases d with
  | int i =>
    cases e with
    | int j =>
      obtain ⟨hz, rfl⟩ := ite_some hg
      rw [hx.int] at rx
      rw [hy.int] at ry
      rcases mul_ok hz with hz | hz
      · exact op_mul pins s σ H _ _ v u Q I rx ry ⟨i, j, rfl, rfl, hz, q _ _ (new_int _)⟩
      · exact op_mulW pins s σ H _ _ v u Q I rx ry ⟨i, j, rfl, rfl, hz, q _ _ (new_int _)⟩
    | _ => cases hg
  | tuple ds =>
    cases e with
    | int j =>
      by_cases j1 : j = 1
      · subst j1
        cases hg
        obtain ⟨a, xs, ex, sx, ax⟩ := hx.tuple
        exact op_repT1 pins s σ H x y v u Q I rx ry ⟨a, xs, ex, hy.int, sx, q _ _ (new_keep (by rw [← ex]; exact hx.tupRp))⟩
      have hg : (if j = 0 then (if ds.isEmpty = true then none else some (Res.val (.tuple []))) else if (!ds.isEmpty && decide (ds.length ≤ 1000) && decide (2 ≤ j) && decide (j ≤ 1000)) = true then some (Res.val (.tuple (rep j.toNat ds))) else none) = some r := by
        have hg : (if j = 1 then some (Res.val (.tuple ds)) else if j = 0 then (if ds.isEmpty = true then none else some (Res.val (.tuple []))) else if (!ds.isEmpty && decide (ds.length ≤ 1000) && decide (2 ≤ j) && decide (j ≤ 1000)) = true then some (Res.val (.tuple (rep j.toNat ds))) else none) = some r := hg
        rw [if_neg j1] at hg
        exact hg
      obtain ⟨a, xs, ex, sx, ax⟩ := hx.tuple
      by_cases j0 : j = 0
      · subst j0
        rw [if_pos rfl] at hg
        by_cases de : ds.isEmpty = true
        · rw [if_pos de] at hg; cases hg
        rw [if_neg de] at hg
        cases hg
        exact op_repT0 pins s σ H x y v u Q I rx ry ⟨a, xs, ex, hy.int, sx, fun z => de (by rw [ax.ne.mp z]; rfl), fun p hp => q _ _ (new_tup t hp (.nil))⟩
      rw [if_neg j0] at hg
      obtain ⟨hz, rfl⟩ := ite_some hg
      rw [Bool.and_eq_true, Bool.and_eq_true, Bool.and_eq_true] at hz
      have h1 := of_decide_eq_true hz.1.1.2
      have h2 := of_decide_eq_true hz.1.2
      have h3 := of_decide_eq_true hz.2
      have h4 := hz.1.1.1
      exact op_repT pins s σ H x y v u Q I rx ry ⟨a, j, xs, ex, hy.int, sx, fun z => (by rw [ax.ne.mp z] at h4; cases h4), h2, h3, by rw [ax.length]; exact h1, fun p hp => q _ _ (new_tup t hp (ax.flat _))⟩
    | _ => cases hg
  | list ds =>
    cases e with
    | int j =>
      obtain ⟨hz, rfl⟩ := ite_some hg
      rw [Bool.and_eq_true, Bool.and_eq_true] at hz
      have h1 := of_decide_eq_true hz.1.1
      have h2 := of_decide_eq_true hz.1.2
      have h3 := szOk_le hz.2
      obtain ⟨a, xs, ex, sx, ax⟩ := hx.rdl
      subst ex
      cases rx
      rw [hy.int] at ry
      obtain ⟨tk, rfl⟩ := ry
      exact rep_at I sx (by omega) (by omega) (by rw [ax.length]; exact h3) fun p hp => q _ _ (new_lst hp (ax.flat _))
    | _ => cases hg
  | _ => cases e <;> cases hg
end
end PL

set_option autoImplicit false
set_option linter.all false
set_option Elab.async false
set_option maxRecDepth 100000
set_option maxHeartbeats 1000000
/-! PE0: sorting tuples, the first of them empty. -/
namespace PL
open PySem PySem.Spec PyProof.Rows PySem.SeqAt PySem.W
variable [TabL]
section
variable {prog : Program} {w : World} {A : Around} {E : Value → Shared → Prop} {s : Shared}
theorem call_tuple_lt {Q : Value → Shared → Prop} {l b : Addr} {items items2 : Array Value} {e r : Nat → Bool} (hl : s.heap.IsTuple l items) (hb : s.heap.IsTuple b items2)
    (he : ∀ j (h1 : j < items.size) (h2 : j < items2.size), EqAt A.in1 s items[j] items2[j] (e j)) (hr : ∀ j (h1 : j < items.size) (h2 : j < items2.size), e j = false → RcLt A.in1 s items[j] items2[j] (r j))
    (h : Q (.bool (firstLt e r (decide (items.size < items2.size)) (List.range (min items.size items2.size)))) s) : wpAny (model prog w) A (call (.builtin "tuple.__lt__") [.ref l, .ref b]) Q E s := by
  obtain ⟨⟨cls, dd, data, sl⟩, ho, hc, n, hd⟩ := id hl
  obtain ⟨⟨cls2, dd2, data2, sl2⟩, ho2, hc2, n2, hd2⟩ := id hb
  simp only at hc hd hc2 hd2
  subst hc hd hc2 hd2
  exact call_meets F.slot_tuple_lt ⟨_, ho, rfl⟩ F.entry_tuple_lt (F.args_tuple_lt_2 _ _) (tuple_ltAt l b items items2 n n2 dd dd2 sl sl2 e r) ⟨ho, ho2, he, hr, h⟩
theorem oneLt_tup {xs ys : List PyData} {a b : Value} {as bs : List Addr} {Q : Bool → Shared → Prop} (ra : Reads s.heap a (.tuple xs) as) (rb : Reads s.heap b (.tuple ys) bs) (h : alike (.tuple xs) (.tuple ys) = true)
    (hu : A.units + min (PyData.tuple xs).depth (PyData.tuple ys).depth < cLine) (hq : Q (dataLt (.tuple xs) (.tuple ys)) s) : wpAny (model prog w) A (oneLt' true a b) Q E s := by
  have hal : alikeAll xs ys = true := by simpa [alike] using h
  cases ra with
  | @tuple l o vs n _ as₁ h1 h2 h3 h4 =>
    cases rb with
    | @tuple l' o' vs' n' _ bs₁ k1 k2 k3 k4 =>
      have n1 : vs.size = xs.length := by simpa using ReadsAll.length _ _ _ h4
      have n2 : vs'.size = ys.length := by simpa using ReadsAll.length _ _ _ k4
      rw [dataLt_tuple, ← firstLt_toks xs ys hal, ← n1, ← n2] at hq
      rw [oneLt'_eq]
      simp only [if_true]
      refine wpAny_bind (wpAny_cRoomFor (room_here hu) ?_)
      refine wpAny_bind (wpAny_callSpecialIfBound?_slot (T := "tuple") ⟨_, h1, h2⟩ F.slot_tuple_lt (call_tuple_lt (e := pairEq xs ys) (r := fun j => dataLt (xs.getD j .none) (ys.getD j .none)) ⟨_, h1, h2, _, h3⟩ ⟨_, k1, k2, _, k3⟩ (fun j j1 j2 => ?_) (fun j j1 j2 hj => ?_) ?_))
      · have := eqAt_alikeAll xs ys A.in1 s vs.toList vs'.toList _ _ h4 k4 hal (room_in hu) j (by simpa using j1) (by simpa using j2)
        simpa using this
      · have := rcLt_alikeAll xs ys A.in1 s vs.toList vs'.toList _ _ h4 k4 hal (room_in hu) j (by simpa using j1) (by simpa using j2) hj
        simpa using this
      · exact wpAny_truthy_bool hq
/-- the first items, of tuples -/
theorem firsts_tup {M : Model} : ∀ (vs : List Value) (ds : List PyData) {Q : List (Option Value) → Shared → Prop}, EachIs (fun v d => ∃ as, Reads s.heap v d as) vs ds → (∀ d ∈ ds, ∃ xs, d = .tuple xs) →
    (∀ fs : List (Option Value), fs.length = vs.length → (∀ r, ds = .tuple [] :: r → ∃ r', fs = none :: r') → Q fs s) → wpAny M A (vs.mapM firstOfTuple') Q E s
  | [], _, _, .nil, _, h => by rw [List.mapM_nil]; exact wpAny_pure (h [] rfl fun _ z => nomatch z)
  | v :: vs, d :: ds, Q, .cons ⟨as, r⟩ t, ht, h => by
    obtain ⟨xs, rfl⟩ := ht d (List.mem_cons_self ..)
    rw [List.mapM_cons]
    refine wpAny_bind ?_
    rw [kas_first_eq]
    cases r with
    | @tuple a o its n _ _ h1 h2 h3 h4 =>
      refine wpAny_bind (Looks.here (show Looks M s.heap (typeOf (.ref a)) o.cls from (Looks.ld h1).andThen .now) ?_)
      rw [h2, if_neg (by first | decide | simp)]
      refine wpAny_bind (listItems_at h1 h3 (wpAny_pure ?_))
      refine wpAny_bind (firsts_tup vs ds (Q := fun bs s' => wpAny M A (pure (its[0]? :: bs)) Q E s') t (fun d hd => ht d (List.mem_cons_of_mem _ hd)) fun fs hl _ => wpAny_pure (h _ (by rw [List.length_cons, List.length_cons, hl]) fun r z => ?_))
      injection z with z1 z2
      injection z1 with z1
      subst z1
      have hz : its.toList.length = 0 := by simpa using SeqAt.ReadsAll.length _ _ _ h4
      have : its[0]? = none := by
        rw [Array.getElem?_eq_none]
        rw [← Array.length_toList]; omega
      rw [this]
      exact ⟨fs, rfl⟩
theorem kind_tup0 {M : Model} {vs : List Value} {ds : List PyData} {Q : SortKind → Shared → Prop} (e : EachIs (fun v d => ∃ as, Reads s.heap v d as) vs (.tuple [] :: ds)) (ht : ∀ d ∈ ds, ∃ xs, d = .tuple xs) (h : Q oneType' s) :
    wpAny M A (keyKind' vs.toArray) Q E s := by
  have ht' : ∀ d ∈ PyData.tuple [] :: ds, ∃ xs, d = .tuple xs := fun d hd => by
    rcases List.mem_cons.mp hd with rfl | hd
    · exact ⟨_, rfl⟩
    · exact ht d hd
  rw [kat_kind_eq, List.mapM_toArray, map_eq_pure_bind]
  refine wpAny_bind (wpAny_bind (firsts_tup vs _ e ht' fun fs hl h0 => wpAny_pure ?_))
  obtain ⟨r', rfl⟩ := h0 ds rfl
  rw [if_neg (by simp), if_neg (by simp)]
  rw [oneTypeOnly'_eq, List.mapM_toArray, map_eq_pure_bind]
  have hT : ∀ v ∈ vs, Looks M s.heap (typeOf v) (Value.type "tuple") := fun v hv => by
    obtain ⟨d, hd, as, r⟩ := e.left v hv
    obtain ⟨xs, rfl⟩ := ht' d hd
    exact looks_reads r
  refine wpAny_bind (wpAny_bind (wpAny_bind (kas_mapM (r := Value.type "tuple") _ (fun v hv Q' hq => (hT v hv).here hq) (wpAny_pure ?_))))
  cases e with
  | @cons v _ vs _ r t =>
    have hall : ((List.map (fun _ => Value.type "tuple") (v :: vs)).toArray.all fun x => x == Value.type "tuple") = true := by
      simp only [List.all_toArray, List.all_map, List.all_eq_true]
      intro _ _
      exact beq_self_eq_true _
    have h0 : (List.map (fun _ => Value.type "tuple") (v :: vs)).toArray[0]? = some (Value.type "tuple") := by simp
    rw [h0]
    simp only [hall, if_true]
    exact wpAny_pure (wpAny_pure h)
theorem sortsAt_tup0 {vs : List Value} {ds : List PyData} (e : EachIs (fun v d => ∃ as, Reads s.heap v d as) vs (.tuple [] :: ds)) (hal : AllAlike (.tuple [] :: ds)) (ht : ∀ d ∈ ds, ∃ xs, d = .tuple xs) (hu : ∀ d, d ∈ PyData.tuple [] :: ds → A.units + d.depth < cLine) : SortsAt prog w A s (dataKind s.heap (.tuple [] :: ds)) vs := by
  have ht' : ∀ d ∈ PyData.tuple [] :: ds, ∃ xs, d = .tuple xs := fun d hd => by
    rcases List.mem_cons.mp hd with rfl | hd
    · exact ⟨_, rfl⟩
    · exact ht d hd
  refine ⟨fun v hv => ?_, oneType', ?_, fun h2 E Q hq => kind_tup0 e ht hq⟩
  · obtain ⟨d, hd, as, r⟩ := e.left v hv
    exact ⟨_, dataKind_some hal hd r⟩
  · intro E x y a b Q ha hb hq
    obtain ⟨d, as, hd, ra, rfl⟩ := dataKind_inv ha
    obtain ⟨d', as', hd', rb, rfl⟩ := dataKind_inv hb
    rw [keyLt'_oneType]
    have hdd := hal d hd d' hd'
    obtain ⟨xs, rfl⟩ := ht' d hd
    obtain ⟨ys, rfl⟩ := ht' d' hd'
    exact oneLt_tup ra rb hdd (Nat.lt_of_le_of_lt (Nat.add_le_add_left (Nat.min_le_left _ _) _) (hu _ hd)) hq
theorem sorted_tup0 {vs : List Value} {ds : List PyData} {R : Value → PyData → Prop} {l : Addr} {Q : Value → Shared → Prop} (hl : s.heap.IsList l vs.toArray) (e : EachIs R vs (.tuple [] :: ds)) (er : EachIs (fun v b => ∃ as, Reads s.heap v b as) vs (.tuple [] :: ds)) (hal : AllAlike (.tuple [] :: ds)) (ht : ∀ d ∈ ds, ∃ xs, d = .tuple xs) (hL : ds.length + 1 ≤ sizeLine)
    (hu : ∀ b, b ∈ PyData.tuple [] :: ds → A.units + 2 + b.depth < cLine) (h : ∀ out, out.length = ds.length + 1 → EachIs R out ((PyData.tuple [] :: ds).mergeSort (dataLe false fun d => d)) → Q (.ref (s.heap.objs.size + 1)) { s with heap := sortedAll s.heap vs (List.toArray out) }) :
    wpAny (model prog w) A (call (.builtin "sorted") [.ref l]) Q E s := by
  have er' : EachIs (fun v b => ∃ as, Reads (sortingHeap (copyHeap s.heap vs) (s.heap.objs.size + 1) vs) v b as) vs (PyData.tuple [] :: ds) := er.mono fun _ _ ⟨as, r⟩ => ⟨as, PyProof.Rows.Reads.keeps (fun _ _ => sorting_copy_old) r⟩
  have sv := sortVals_data (R := R) (enc := fun d => d) false e er' (by rw [List.map_id']; exact hal)
  rw [List.map_id'] at sv
  exact sorted_vals hl (sortsAt_tup0 (s := { s with heap := sortingHeap (copyHeap s.heap vs) (s.heap.objs.size + 1) vs }) er' hal ht (fun d hd => hu d hd)) (by rw [e.length]; exact hL)
    (h _ (by rw [sortVals_length false rfl]; exact e.length) sv)
end
/-! ### an order by insertion -/
theorem insL_at {α : Type} {le : α → α → Bool} {a : α} : ∀ {l1 l2 : List α}, (∀ b ∈ l1, (!le a b) = true) → (∀ b ∈ l2, le a b = true) → insL le a (l1 ++ l2) = l1 ++ a :: l2
  | [], [], _, _ => rfl
  | [], b :: l2, _, h2 => by
    show (if le a b then a :: b :: l2 else b :: insL le a l2) = _
    rw [if_pos (h2 b (List.mem_cons_self ..))]; rfl
  | b :: l1, l2, h1, h2 => by
    have hb : le a b = false := by simpa using h1 b (List.mem_cons_self ..)
    show (if le a b then a :: b :: (l1 ++ l2) else b :: insL le a (l1 ++ l2)) = _
    rw [hb, if_neg Bool.false_ne_true, insL_at (fun c hc => h1 c (List.mem_cons_of_mem _ hc)) h2]
    rfl
theorem insS_merge {α : Type} {le : α → α → Bool} (T : PySem.W.TotalLe le) : ∀ l : List α, insS le l = l.mergeSort le
  | [] => by rw [List.mergeSort_nil]; rfl
  | a :: l => by
    have tot : ∀ a b, (le a b || le b a) = true := fun a b => by
      rw [Bool.or_eq_true]; exact T.total a b
    obtain ⟨l1, l2, e1, e2, h1⟩ := List.mergeSort_cons (le := le) T.trans tot a l
    have sorted := List.pairwise_mergeSort (le := le) T.trans tot (a :: l)
    rw [e1] at sorted
    have h2 : ∀ b ∈ l2, le a b = true := fun b hb => by
      have := (List.pairwise_append.mp sorted).2.1
      exact (List.pairwise_cons.mp this).1 b hb
    show insL le a (insS le l) = _
    rw [insS_merge T l, e2, e1]
    exact insL_at h1 h2
theorem sortD_merge (xs : List PyData) : sortD xs = xs.mergeSort fun a b => !dataLt b a := insS_merge (PySem.W.sortLe_total (listOrd itemOrd) false keyToks) xs
end PL

set_option autoImplicit false
set_option linter.all false
set_option Elab.async false
set_option maxRecDepth 100000
set_option maxHeartbeats 1000000
/-! PD0: dicts: keys as data, the object as the library sees it. -/
namespace PL
open PySem PySem.Spec PyProof.Rows L2
variable [TabL]
/-! ### keys as data -/
mutual
theorem key_free : ∀ {d : PyData} {k : NestedKey}, nkOf d = some k → ∀ w w' : World, k.hash w = k.hash w'
  | .none, k, e, w, w' => by rw [nkOf] at e; cases e; rfl
  | .int i, k, e, w, w' => by rw [nkOf] at e; cases e; rfl
  | .tuple xs, k, e, w, w' => by
    rw [nkOf] at e
    obtain ⟨ks, e1, rfl⟩ := Option.map_eq_some_iff.mp e
    rw [NestedKey.hash, NestedKey.hash, keys_free e1 w w']
  | .bool _, k, e, w, w' => by rw [nkOf] at e; cases e
  | .str _, k, e, w, w' => by rw [nkOf] at e; cases e
  | .list _, k, e, w, w' => by rw [nkOf] at e; cases e
  | .dict _, k, e, w, w' => by rw [nkOf] at e; cases e
theorem keys_free : ∀ {ds : List PyData} {ks : List NestedKey}, nksOf ds = some ks → ∀ w w' : World, NestedKey.hashes w ks = NestedKey.hashes w' ks
  | [], ks, e, w, w' => by rw [nksOf] at e; cases e; rfl
  | d :: ds, ks, e, w, w' => by
    rw [nksOf] at e
    cases e1 : nkOf d with
    | none => rw [e1] at e; cases e
    | some k =>
      cases e2 : nksOf ds with
      | none => rw [e1, e2] at e; cases e
      | some r =>
        rw [e1, e2] at e
        cases e
        rw [NestedKey.hashes, NestedKey.hashes, key_free e1 w w', keys_free e2 w w']
end
mutual
theorem eqv_key : ∀ {a b : PyData} {x y : NestedKey}, nkOf a = some x → nkOf b = some y → PyData.eqv a b = NestedKey.beq x y
  | a, .none, x, y, ea, eb => by
    rw [nkOf] at eb; cases eb
    cases a <;> rw [nkOf] at ea <;> first | (cases ea; done) | skip
    · cases ea; rfl
    · cases ea; rfl
    · obtain ⟨ks, _, rfl⟩ := Option.map_eq_some_iff.mp ea
      simp [PyData.eqv, NestedKey.beq]
  | a, .int j, x, y, ea, eb => by
    rw [nkOf] at eb; cases eb
    cases a <;> rw [nkOf] at ea <;> first | (cases ea; done) | skip
    · cases ea; simp [PyData.eqv, NestedKey.beq]
    · cases ea; rfl
    · obtain ⟨ks, _, rfl⟩ := Option.map_eq_some_iff.mp ea
      simp [PyData.eqv, NestedKey.beq]
  | a, .tuple ys, x, y, ea, eb => by
    rw [nkOf] at eb
    obtain ⟨ls, e2, rfl⟩ := Option.map_eq_some_iff.mp eb
    cases a <;> rw [nkOf] at ea <;> first | (cases ea; done) | skip
    · cases ea; simp [PyData.eqv, NestedKey.beq]
    · cases ea; simp [PyData.eqv, NestedKey.beq]
    · rename_i xs
      obtain ⟨ks, e1, rfl⟩ := Option.map_eq_some_iff.mp ea
      rw [NestedKey.beq, PyData.eqv]
      exact eqv_keys e1 e2
  | a, .bool _, x, y, ea, eb => by rw [nkOf] at eb; cases eb
  | a, .str _, x, y, ea, eb => by rw [nkOf] at eb; cases eb
  | a, .list _, x, y, ea, eb => by rw [nkOf] at eb; cases eb
  | a, .dict _, x, y, ea, eb => by rw [nkOf] at eb; cases eb
theorem eqv_keys : ∀ {as bs : List PyData} {xs ys : List NestedKey}, nksOf as = some xs → nksOf bs = some ys → PyData.eqvAll as bs = NestedKey.beqAll xs ys
  | as, [], xs, ys, ea, eb => by
    rw [nksOf] at eb; cases eb
    cases as with
    | nil => rw [nksOf] at ea; cases ea; simp [PyData.eqvAll, NestedKey.beqAll]
    | cons a as =>
      rw [nksOf] at ea
      cases e1 : nkOf a with
      | none => rw [e1] at ea; cases ea
      | some k =>
        cases e2 : nksOf as with
        | none => rw [e1, e2] at ea; cases ea
        | some r => rw [e1, e2] at ea; cases ea; simp [PyData.eqvAll, NestedKey.beqAll]
  | as, b :: bs, xs, ys, ea, eb => by
    rw [nksOf] at eb
    cases f1 : nkOf b with
    | none => rw [f1] at eb; cases eb
    | some l =>
      cases f2 : nksOf bs with
      | none => rw [f1, f2] at eb; cases eb
      | some ls =>
        rw [f1, f2] at eb
        cases eb
        cases as with
        | nil => rw [nksOf] at ea; cases ea; simp [PyData.eqvAll, NestedKey.beqAll]
        | cons a as =>
          rw [nksOf] at ea
          cases e1 : nkOf a with
          | none => rw [e1] at ea; cases ea
          | some k =>
            cases e2 : nksOf as with
            | none => rw [e1, e2] at ea; cases ea
            | some r =>
              rw [e1, e2] at ea
              cases ea
              rw [W.eqv_all_cons, NestedKey.beqAll, eqv_key e1 f1, eqv_keys e2 f2]
end
theorem eqv_keyD {a b : PyData} {x y : NestedKey} (ea : nkOf a = some x) (eb : nkOf b = some y) : PyData.eqv a b = decide (x = y) := by
  rw [NestedKey.decide_eq]; exact eqv_key ea eb
section
variable {X : Cx} {pins : List (Addr × Obj)} {σ : L2.St} {H : Hp} {s : Shared} {Y : Addr → Prop}
mutual
theorem Rp.nested (I : L2.Inv X pins σ H s) : ∀ {d : PyData} {v : V}, Rp X.K Y H v d → ∀ {k : NestedKey}, nkOf d = some k → ∀ {u : Value}, RelV v u → NestedIs s.heap k u
  | .none, _, r, k, e, u, ru => by
    rw [nkOf] at e; cases e
    cases r
    cases ru
    exact .none
  | .int i, _, r, k, e, u, ru => by
    rw [nkOf] at e; cases e
    cases r
    obtain ⟨t, rfl⟩ := ru
    exact .int i t
  | .tuple xs, _, r, k, e, u, ru => by
    rw [nkOf] at e
    obtain ⟨ks, e1, rfl⟩ := Option.map_eq_some_iff.mp e
    cases r with
    | tup n rd ra =>
      cases ru
      obtain ⟨its, rv, ⟨o, ho, hc, m, hd⟩, _⟩ := I.tuple (.inl rd)
      exact .tup ho hc hd (by simpa using ra.nestedAll I e1 rv)
    | tupK rd ra =>
      cases ru
      obtain ⟨its, rv, ⟨o, ho, hc, m, hd⟩, _⟩ := I.tuple rd.sq
      exact .tup ho hc hd (by simpa using ra.nestedAll I e1 rv)
  | .bool _, _, r, k, e, u, ru => by rw [nkOf] at e; cases e
  | .str _, _, r, k, e, u, ru => by rw [nkOf] at e; cases e
  | .list _, _, r, k, e, u, ru => by rw [nkOf] at e; cases e
  | .dict _, _, r, k, e, u, ru => by rw [nkOf] at e; cases e
theorem RpA.nestedAll (I : L2.Inv X pins σ H s) : ∀ {ds : List PyData} {vs : List V}, RpA X.K Y H vs ds → ∀ {ks : List NestedKey}, nksOf ds = some ks → ∀ {us : List Value}, Vals vs us → NestedAll s.heap ks us
  | [], _, r, ks, e, us, ru => by
    rw [nksOf] at e; cases e
    cases r
    cases ru
    exact .nil
  | d :: ds, _, r, ks, e, us, ru => by
    rw [nksOf] at e
    cases e1 : nkOf d with
    | none => rw [e1] at e; cases e
    | some k =>
      cases e2 : nksOf ds with
      | none => rw [e1, e2] at e; cases e
      | some rr =>
        rw [e1, e2] at e
        cases e
        cases r with
        | cons a b =>
          cases ru with
          | cons u1 u2 => exact .cons (a.nested I e1 u1) (b.nestedAll I e2 u2)
end
end
section
variable {X : Cx} {pins : List (Addr × Obj)} {σ : L2.St} {H : Hp} {s : Shared} {Y : Addr → Prop}
theorem ent_keys : ∀ {ps : List DE} {es : List DictEntry}, Paired Ent ps es → Vals (ps.map (·.2.1)) (es.map (·.key)) ∧ Vals (ps.map (·.2.2)) (es.map (·.val))
  | _, _, .nil => ⟨.nil, .nil⟩
  | _, _, .cons r t => ⟨.cons r.2.1 (ent_keys t).1, .cons r.2.2 (ent_keys t).2⟩
theorem DctAt.raw {a : Addr} {ps : List DE} {kds : List PyData} (d : DctAt H a ps kds) (I : L2.Inv X pins σ H s) : ∃ es ep, H a = some (DctO a es ep) ∧ Paired Ent ps es.toList ∧ s.heap.DictRaw a es ep := by
  obtain ⟨es, ep, e, r⟩ := d.ob
  exact ⟨es, ep, e, r, (I.hok a _ e).1⟩
end
theorem Rp.tupRef {K : PySem.W.Frag} {Y : Addr → Prop} {H : Hp} {v : V} {ds : List PyData} (r : Rp K Y H v (.tuple ds)) : ∃ b, v = .ref b := by
  cases r with
  | tup _ _ _ => exact ⟨_, rfl⟩
  | tupK _ _ => exact ⟨_, rfl⟩
theorem Rp.intEq {K : PySem.W.Frag} {Y : Addr → Prop} {H : Hp} {v : V} {i : Int} (r : Rp K Y H v (.int i)) : v = .int i := by
  cases r; rfl
theorem paired_app {α β : Type} {F : α → β → Prop} : ∀ {as cs : List α} {bs ds : List β}, Paired F as bs → Paired F cs ds → Paired F (as ++ cs) (bs ++ ds)
  | _, _, _, _, .nil, h => h
  | _, _, _, _, .cons r t, h => .cons r (paired_app t h)
/-! ### the pairs, side by side -/
def PKV (K : PySem.W.Frag) (Y : Addr → Prop) (H : Hp) (p : DE) (kv : PyData × PyData) : Prop := nkOf kv.1 = some p.1 ∧ Rp K Y H p.2.1 kv.1 ∧ Rp K Y H p.2.2 kv.2
section
variable {K : PySem.W.Frag} {Y : Addr → Prop} {H : Hp}
theorem pkv_of : ∀ {ps : List DE} {kvs : List (PyData × PyData)}, (kvs.map (·.1)).map nkOf = ps.map (fun p => some p.1) → RpA K Y H (ps.map (·.2.1)) (kvs.map (·.1)) → RpA K Y H (ps.map (·.2.2)) (kvs.map (·.2)) → Paired (PKV K Y H) ps kvs
  | [], [], _, _, _ => .nil
  | [], _ :: _, e, _, _ => by simp at e
  | _ :: _, [], e, _, _ => by simp at e
  | p :: ps, kv :: kvs, e, a, b => by
    simp only [List.map_cons, List.cons.injEq] at e
    cases a with
    | cons a1 a2 =>
      cases b with
      | cons b1 b2 => exact .cons ⟨e.1, a1, b1⟩ (pkv_of e.2 a2 b2)
theorem pkv_back : ∀ {ps : List DE} {kvs : List (PyData × PyData)}, Paired (PKV K Y H) ps kvs → (kvs.map (·.1)).map nkOf = ps.map (fun p => some p.1) ∧ RpA K Y H (ps.map (·.2.1)) (kvs.map (·.1)) ∧ RpA K Y H (ps.map (·.2.2)) (kvs.map (·.2))
  | _, _, .nil => ⟨rfl, .nil, .nil⟩
  | _, _, .cons r t => by
    obtain ⟨a, b, c⟩ := pkv_back t
    exact ⟨by rw [List.map_cons, List.map_cons, List.map_cons, a, r.1], .cons r.2.1 b, .cons r.2.2 c⟩
def pfind (ps : List DE) (k : NestedKey) : Option DE := ps.find? fun p => decide (p.1 = k)
def pput (ps : List DE) (k : NestedKey) (x v : V) : List DE := if (pfind ps k).isSome then ps.map (fun p => if p.1 = k then (p.1, p.2.1, v) else p) else ps ++ [(k, x, v)]
theorem pk_any {k : NestedKey} {kd : PyData} (ek : nkOf kd = some k) : ∀ {ps : List DE} {kvs : List (PyData × PyData)}, Paired (PKV K Y H) ps kvs → (kvs.any fun kv => PyData.eqv kv.1 kd) = (pfind ps k).isSome
  | _, _, .nil => rfl
  | p :: ps, kv :: kvs, .cons r t => by
    rw [List.any_cons, eqv_keyD r.1 ek, pk_any ek t]
    unfold pfind
    rw [List.find?_cons]
    cases decide (p.1 = k) <;> rfl
theorem pk_look {k : NestedKey} {kd d : PyData} (ek : nkOf kd = some k) : ∀ {ps : List DE} {kvs : List (PyData × PyData)}, Paired (PKV K Y H) ps kvs → look kvs kd = some d → ∃ p, pfind ps k = some p ∧ Rp K Y H p.2.2 d
  | _, _, .nil, e => by cases e
  | p :: ps, kv :: kvs, .cons r t, e => by
    unfold look at e
    rw [List.find?_cons, eqv_keyD r.1 ek] at e
    unfold pfind
    rw [List.find?_cons]
    cases h : decide (p.1 = k) with
    | true =>
      rw [h] at e
      cases e
      exact ⟨p, rfl, r.2.2⟩
    | false =>
      rw [h] at e
      exact pk_look ek t e
theorem pk_none {k : NestedKey} {kd : PyData} (ek : nkOf kd = some k) : ∀ {ps : List DE} {kvs : List (PyData × PyData)}, Paired (PKV K Y H) ps kvs → look kvs kd = none → pfind ps k = none
  | _, _, .nil, e => rfl
  | p :: ps, kv :: kvs, .cons r t, e => by
    unfold look at e
    rw [List.find?_cons, eqv_keyD r.1 ek] at e
    unfold pfind
    rw [List.find?_cons]
    cases h : decide (p.1 = k) with
    | true => rw [h] at e; cases e
    | false =>
      rw [h] at e
      exact pk_none ek t e
theorem pk_over {k : NestedKey} {kd vd : PyData} {v : V} (ek : nkOf kd = some k) (rv : Rp K Y H v vd) : ∀ {ps : List DE} {kvs : List (PyData × PyData)}, Paired (PKV K Y H) ps kvs → Paired (PKV K Y H) (ps.map (fun p => if p.1 = k then (p.1, p.2.1, v) else p)) (kvs.map fun kv => if PyData.eqv kv.1 kd then (kv.1, vd) else kv)
  | _, _, .nil => .nil
  | p :: ps, kv :: kvs, .cons r t => by
    refine .cons ?_ (pk_over ek rv t)
    dsimp only
    rw [eqv_keyD r.1 ek]
    by_cases c : p.1 = k
    · rw [if_pos (decide_eq_true c), if_pos c]; exact ⟨r.1, r.2.1, rv⟩
    · rw [if_neg c, if_neg (by simpa using c)]; exact r
theorem pk_store {k : NestedKey} {kd vd : PyData} {x v : V} (ek : nkOf kd = some k) (rx : Rp K Y H x kd) (rv : Rp K Y H v vd) {ps : List DE} {kvs : List (PyData × PyData)} (h : Paired (PKV K Y H) ps kvs) : Paired (PKV K Y H) (pput ps k x v) (store kvs kd vd) := by
  unfold pput store
  rw [pk_any ek h]
  split
  · exact pk_over ek rv h
  · exact paired_app h (.cons ⟨ek, rx, rv⟩ .nil)
theorem pput_nodup {ps : List DE} {k : NestedKey} {x v : V} (h : (ps.map (·.1)).Nodup) : ((pput ps k x v).map (·.1)).Nodup := by
  unfold pput
  split
  · have : (ps.map (fun p => if p.1 = k then (p.1, p.2.1, v) else p)).map (·.1) = ps.map (·.1) := by
      rw [List.map_map]
      refine List.map_congr_left fun p _ => ?_
      dsimp only [Function.comp]
      split <;> rfl
    rw [this]; exact h
  · rename_i hn
    rw [List.map_append, List.map_cons, List.map_nil]
    refine List.nodup_append.mpr ⟨h, by simp, fun a ha b hb => ?_⟩
    have hb : b = k := by simpa using hb
    subst hb
    obtain ⟨p, hp, rfl⟩ := List.mem_map.mp ha
    intro z
    apply hn
    unfold pfind
    rw [List.find?_isSome]
    exact ⟨p, hp, decide_eq_true z⟩
theorem pput_len (ps : List DE) (k : NestedKey) (x v : V) : (pput ps k x v).length ≤ ps.length + 1 := by
  unfold pput
  split
  · rw [List.length_map]; omega
  · rw [List.length_append, List.length_singleton]; omega
theorem pput_mem {ps : List DE} {k : NestedKey} {x v : V} {q : DE} (h : q ∈ pput ps k x v) : q.1 = k ∨ ∃ p ∈ ps, p.1 = q.1 := by
  unfold pput at h
  split at h
  · obtain ⟨p, hp, e⟩ := List.mem_map.mp h
    refine .inr ⟨p, hp, ?_⟩
    rw [← e]
    split <;> rfl
  · rcases List.mem_append.mp h with h | h
    · exact .inr ⟨q, h, rfl⟩
    · have : q = (k, x, v) := by simpa using h
      exact .inl (by rw [this])
end
end PL

set_option autoImplicit false
set_option linter.all false
set_option Elab.async false
set_option maxRecDepth 100000
set_option maxHeartbeats 1000000
/-! PD1: a dict as the library sees it; what is read of it. -/
namespace PL
open PySem PySem.Spec PyProof.Rows L2
variable [TabL]
theorem keyInt_shape {d : PyData} (h : keyInt d = true) : ∃ i, d = .int i := by
  cases d with
  | int i => exact ⟨i, rfl⟩
  | _ => cases h
theorem keyTup_shape {d : PyData} (h : keyTup d = true) : ∃ xs ks, d = .tuple xs ∧ nkOf d = some (.tup ks) ∧ (NestedKey.tup ks).depth ≤ 8 := by
  cases d with
  | tuple xs =>
    have h : (match nkOf (.tuple xs) with
      | some k => decide (k.depth ≤ 8)
      | none => false) = true := h
    cases e : nkOf (.tuple xs) with
    | none => rw [e] at h; cases h
    | some k =>
      rw [e] at h
      have h := of_decide_eq_true h
      have e' := e
      rw [nkOf] at e
      obtain ⟨ks, _, rfl⟩ := Option.map_eq_some_iff.mp e
      exact ⟨xs, ks, rfl, rfl, h⟩
  | _ => cases h
theorem keysOk_cases {ks : List PyData} (h : keysOk ks = true) : (∀ d ∈ ks, keyInt d = true) ∨ ∀ d ∈ ks, keyTup d = true := by
  unfold keysOk at h
  rw [Bool.or_eq_true] at h
  exact h.imp (fun h d hd => List.all_eq_true.mp h d hd) fun h d hd => List.all_eq_true.mp h d hd
def RX (p : DE) (x : NestedKey × Addr × Value) : Prop := p.1 = x.1 ∧ p.2.1 = .ref x.2.1 ∧ RelV p.2.2 x.2.2
def RI (p : DE) (x : Int × Value) : Prop := p.1 = .num x.1 ∧ p.2.1 = .int x.1 ∧ RelV p.2.2 x.2
theorem rx_keys : ∀ {ps : List DE} {xs : List (NestedKey × Addr × Value)}, Paired RX ps xs → xs.map (·.1) = ps.map (·.1)
  | _, _, .nil => rfl
  | _, _, .cons r t => by rw [List.map_cons, List.map_cons, rx_keys t, r.1]
theorem ri_keys : ∀ {ps : List DE} {xs : List (Int × Value)}, Paired RI ps xs → ps.map (·.1) = xs.map fun x => NestedKey.num x.1
  | _, _, .nil => rfl
  | _, _, .cons r t => by rw [List.map_cons, List.map_cons, ri_keys t, r.1]
theorem rx_at {k : NestedKey} : ∀ {ps : List DE} {xs : List (NestedKey × Addr × Value)}, Paired RX ps xs → (atKey xs k).isSome = (pfind ps k).isSome ∧ ∀ p, pfind ps k = some p → ∃ q, atKey xs k = some q ∧ RelV p.2.2 q.2
  | _, _, .nil => ⟨rfl, fun _ e => nomatch e⟩
  | p :: ps, x :: xs, .cons r t => by
    have ih := rx_at (k := k) t
    unfold atKey pfind at ih ⊢
    rw [List.find?_cons, List.find?_cons, r.1]
    cases h : decide (x.1 = k) with
    | true => exact ⟨rfl, fun q e => by cases e; exact ⟨_, rfl, r.2.2⟩⟩
    | false => exact ih
theorem ri_at {k : Int} : ∀ {ps : List DE} {xs : List (Int × Value)}, Paired RI ps xs → (valueAt xs k).isSome = (pfind ps (.num k)).isSome ∧ ∀ p, pfind ps (.num k) = some p → ∃ q, valueAt xs k = some q ∧ RelV p.2.2 q
  | _, _, .nil => ⟨rfl, fun _ e => nomatch e⟩
  | p :: ps, x :: xs, .cons r t => by
    have ih := ri_at (k := k) t
    unfold valueAt pfind at ih ⊢
    rw [List.find?_cons, List.find?_cons, r.1]
    have hd : decide (NestedKey.num x.1 = .num k) = decide (x.1 = k) := by
      by_cases c : x.1 = k
      · rw [decide_eq_true c, c]; simp
      · rw [decide_eq_false c]; exact decide_eq_false fun z => c (by injection z)
    rw [hd]
    cases h : decide (x.1 = k) with
    | true => exact ⟨rfl, fun q e => by cases e; exact ⟨_, rfl, r.2.2⟩⟩
    | false => exact ih
section
variable {X : Cx} {pins : List (Addr × Obj)} {σ : L2.St} {H : Hp} {s : Shared} {Y Y2 : Addr → Prop}
theorem mkX (I : L2.Inv X pins σ H s) : ∀ {ps : List DE} {es : List DictEntry} {kds : List PyData}, Paired Ent ps es → RpA X.K Y H (ps.map (·.2.1)) kds → kds.map nkOf = ps.map (fun p => some p.1) → (∀ d ∈ kds, keyTup d = true) →
    ∃ xs, es = xs.map (entryOfKey (nestedKind X.prog X.w)) ∧ Paired RX ps xs ∧ ∀ x ∈ xs, (nestedKind X.prog X.w).is s.heap x.1 x.2.1
  | _, _, _, .nil, _, _, _ => ⟨[], rfl, .nil, fun _ z => nomatch z⟩
  | p :: ps, e :: es, kds, .cons r t, a, q, hk => by
    cases kds with
    | nil => cases q
    | cons kd kds =>
      simp only [List.map_cons, List.cons.injEq] at q
      cases a with
      | cons a1 a2 =>
        obtain ⟨xs, e1, r1, h1⟩ := mkX I t a2 q.2 fun d hd => hk d (List.mem_cons_of_mem _ hd)
        obtain ⟨ds, ks, rfl, e2, hdep⟩ := keyTup_shape (hk kd (List.mem_cons_self ..))
        have ek := q.1
        rw [e2] at ek
        have ek := Option.some.inj ek
        have hn := a1.nested I e2 r.2.1
        obtain ⟨b, eb⟩ : ∃ b, p.2.1 = .ref b := a1.tupRef
        have r2 := r.2.1
        rw [eb] at r2
        have ev : e.key = .ref b := r2
        rw [ev] at hn
        refine ⟨(p.1, b, e.val) :: xs, ?_, .cons ⟨rfl, eb, r.2.2⟩ r1, fun x hx => ?_⟩
        · rw [List.map_cons, ← e1]
          congr 1
          show e = ⟨p.1.hash X.w, .ref b, e.val⟩
          rw [← r.1 X.w, ← ev]
        · rcases List.mem_cons.mp hx with rfl | hx
          · refine ⟨?_, ?_⟩
            · show NestedIs s.heap p.1 (.ref b)
              rw [← ek]; exact hn
            · show p.1.depth ≤ 8
              rw [← ek]; exact hdep
          · exact h1 x hx
theorem mkI (I : L2.Inv X pins σ H s) : ∀ {ps : List DE} {es : List DictEntry} {kds : List PyData}, Paired Ent ps es → RpA X.K Y H (ps.map (·.2.1)) kds → kds.map nkOf = ps.map (fun p => some p.1) → (∀ d ∈ kds, keyInt d = true) →
    ∃ xs, Pairs (intKind X.prog X.w) es xs ∧ Paired RI ps xs ∧ ∀ e ∈ es, ∃ k, (intKind X.prog X.w).is k e.key = true ∧ e.hash = hashInt k
  | _, _, _, .nil, _, _, _ => ⟨[], .nil, .nil, fun _ z => nomatch z⟩
  | p :: ps, e :: es, kds, .cons r t, a, q, hk => by
    cases kds with
    | nil => cases q
    | cons kd kds =>
      simp only [List.map_cons, List.cons.injEq] at q
      cases a with
      | cons a1 a2 =>
        obtain ⟨xs, e1, r1, h1⟩ := mkI I t a2 q.2 fun d hd => hk d (List.mem_cons_of_mem _ hd)
        obtain ⟨i, rfl⟩ := keyInt_shape (hk kd (List.mem_cons_self ..))
        have ek := q.1
        rw [nkOf] at ek
        have ek := Option.some.inj ek
        have eb : p.2.1 = .int i := a1.intEq
        have r2 := r.2.1
        rw [eb] at r2
        obtain ⟨tk, ev⟩ := r2
        have his : (intKind X.prog X.w).is i e.key = true := by rw [ev]; simp [PySem.intKind, Value.isInt]
        refine ⟨(i, e.val) :: xs, .cons his rfl e1, .cons ⟨ek.symm, eb, r.2.2⟩ r1, fun x hx => ?_⟩
        rcases List.mem_cons.mp hx with rfl | hx
        · refine ⟨i, his, ?_⟩
          rw [r.1 X.w, ← ek]; rfl
        · exact h1 x hx
/-- what a dict's reader needs -/
structure DView (X : Cx) (Y : Addr → Prop) (H : Hp) (a : Addr) (ps : List DE) (kvs : List (PyData × PyData)) : Prop where
  at' : DctAt H a ps (kvs.map (·.1))
  ra : RpA X.K Y H (ps.map (·.2.1)) (kvs.map (·.1))
  rb : RpA X.K Y H (ps.map (·.2.2)) (kvs.map (·.2))
variable {a : Addr} {ps : List DE} {kvs : List (PyData × PyData)}
theorem DView.pk (D : DView X Y H a ps kvs) : Paired (PKV X.K Y H) ps kvs := pkv_of D.at'.ks D.ra D.rb
theorem DView.viewT (D : DView X Y H a ps kvs) (I : L2.Inv X pins σ H s) (h : ∀ d ∈ kvs.map (·.1), keyTup d = true) : ∃ xs, s.heap.DictOfH (nestedKind X.prog X.w) a xs ∧ Paired RX ps xs := by
  obtain ⟨es, ep, e, pe, o, ho, hc, hd⟩ := D.at'.raw I
  obtain ⟨xs, e1, r1, h1⟩ := mkX I pe D.ra D.at'.ks h
  exact ⟨xs, ⟨o, es, ep, ho, hc, hd, e1, h1, by rw [rx_keys r1]; exact D.at'.nd⟩, r1⟩
theorem nodup_num : ∀ {xs : List (Int × Value)}, (xs.map fun x => NestedKey.num x.1).Nodup → (xs.map (·.1)).Nodup
  | [], _ => List.nodup_nil
  | x :: xs, h => by
    rw [List.map_cons, List.nodup_cons] at h
    rw [List.map_cons, List.nodup_cons]
    refine ⟨fun z => h.1 ?_, nodup_num h.2⟩
    obtain ⟨y, hy, e⟩ := List.mem_map.mp z
    exact List.mem_map.mpr ⟨y, hy, by rw [e]⟩
theorem DView.viewI (D : DView X Y H a ps kvs) (I : L2.Inv X pins σ H s) (h : ∀ d ∈ kvs.map (·.1), keyInt d = true) : ∃ xs, s.heap.DictOf (intKind X.prog X.w) a xs ∧ Paired RI ps xs := by
  obtain ⟨es, ep, e, pe, o, ho, hc, hd⟩ := D.at'.raw I
  obtain ⟨xs, e1, r1, h1⟩ := mkI I pe D.ra D.at'.ks h
  refine ⟨xs, ⟨o, es, ep, ho, hc, hd, fun x hx => h1 x (Array.mem_toList_iff.mpr hx), e1, nodup_num ?_⟩, r1⟩
  rw [← ri_keys r1]; exact D.at'.nd
theorem Op.view {v : V} (o : Op X.K Y H v (.dict kvs)) : ∃ a ps, v = .ref a ∧ DView X Y H a ps kvs := by
  obtain ⟨a, ps, e, h1, h2, h3⟩ := o.dict
  exact ⟨a, ps, e, h1, h2, h3⟩
/-- an operand as a key -/
theorem Op.tupKey {v : V} {u : Value} {d : PyData} (o : Op X.K Y H v d) (I : L2.Inv X pins σ H s) (r : RelV v u) (h : keyTup d = true) : ∃ k b, nkOf d = some k ∧ v = .ref b ∧ u = .ref b ∧ (nestedKind X.prog X.w).is s.heap k b := by
  obtain ⟨xs, ks, rfl, e, hd⟩ := keyTup_shape h
  have o := o.tupRp
  have hn := o.nested I e r
  cases o with
  | tup _ _ _ => cases r; exact ⟨_, _, e, rfl, rfl, hn, hd⟩
  | tupK _ _ => cases r; exact ⟨_, _, e, rfl, rfl, hn, hd⟩
theorem Op.intKey {v : V} {u : Value} {d : PyData} (o : Op X.K Y H v d) (r : RelV v u) (h : keyInt d = true) : ∃ i, d = .int i ∧ v = .int i ∧ (intKind X.prog X.w).is i u = true := by
  obtain ⟨i, rfl⟩ := keyInt_shape h
  have e := o.int
  subst e
  obtain ⟨t, rfl⟩ := r
  exact ⟨i, rfl, rfl, by simp [PySem.intKind, Value.isInt]⟩
theorem room8 (ok : XOk X) : (nestedKind X.prog X.w).room X.A.in1 := by
  have := ok.un
  show X.A.units + 1 + 8 < cLine
  omega
theorem d_in {Q : VK} {v : V} {u : Value} {d : PyData} (ok : XOk X) (D : DView X Y H a ps kvs) (I : L2.Inv X pins σ H s) (o : Op X.K Y2 H v d) (r : RelV v u) (hk : keysOk (d :: kvs.map (·.1)) = true) (q : Q (.bl (kvs.any fun kv => PyData.eqv kv.1 d)) H) :
    wpAny (model X.prog X.w) X.A (compareOp .In u (.ref a)) (EP X pins σ Q) X.xe s := by
  rcases keysOk_cases hk with h | h
  · obtain ⟨i, rfl, rfl, hi⟩ := o.intKey r (h _ (List.mem_cons_self ..))
    obtain ⟨xs, dv, rx⟩ := D.viewI I fun d hd => h d (List.mem_cons_of_mem _ hd)
    refine wpAny_in_of hi D.at'.sys dv.mapOf ?_
    rw [(ri_at rx).1, ← pk_any (k := .num i) (kd := .int i) (by rw [nkOf]) D.pk]
    exact ⟨.bl _, H, I.tok _, rfl, q⟩
  · obtain ⟨k, b, ek, rfl, rfl, hi⟩ := o.tupKey I r (h _ (List.mem_cons_self ..))
    obtain ⟨xs, dv, rx⟩ := D.viewT I fun d hd => h d (List.mem_cons_of_mem _ hd)
    refine wpAny_in_heap (room8 ok) hi D.at'.sys dv ?_
    rw [(rx_at rx).1, ← pk_any ek D.pk]
    exact ⟨.bl _, H, I.tok _, rfl, q⟩
theorem d_notIn {Q : VK} {v : V} {u : Value} {d : PyData} (ok : XOk X) (D : DView X Y H a ps kvs) (I : L2.Inv X pins σ H s) (o : Op X.K Y2 H v d) (r : RelV v u) (hk : keysOk (d :: kvs.map (·.1)) = true) (q : Q (.bl (!kvs.any fun kv => PyData.eqv kv.1 d)) H) :
    wpAny (model X.prog X.w) X.A (compareOp .NotIn u (.ref a)) (EP X pins σ Q) X.xe s := by
  rcases keysOk_cases hk with h | h
  · obtain ⟨i, rfl, rfl, hi⟩ := o.intKey r (h _ (List.mem_cons_self ..))
    obtain ⟨xs, dv, rx⟩ := D.viewI I fun d hd => h d (List.mem_cons_of_mem _ hd)
    refine wpAny_notIn_of hi D.at'.sys dv.mapOf ?_
    rw [(ri_at rx).1, ← pk_any (k := .num i) (kd := .int i) (by rw [nkOf]) D.pk]
    exact ⟨.bl _, H, I.tok _, rfl, q⟩
  · obtain ⟨k, b, ek, rfl, rfl, hi⟩ := o.tupKey I r (h _ (List.mem_cons_self ..))
    obtain ⟨xs, dv, rx⟩ := D.viewT I fun d hd => h d (List.mem_cons_of_mem _ hd)
    refine wpAny_notIn_heap (room8 ok) hi D.at'.sys dv ?_
    rw [(rx_at rx).1, ← pk_any ek D.pk]
    exact ⟨.bl _, H, I.tok _, rfl, q⟩
theorem d_item {Q : VK} {v : V} {u : Value} {d c : PyData} (ok : XOk X) (D : DView X Y H a ps kvs) (I : L2.Inv X pins σ H s) (o : Op X.K Y2 H v d) (r : RelV v u) (hk : keysOk (d :: kvs.map (·.1)) = true) (hc : look kvs d = some c) (q : ∀ w, Rp X.K Y H w c → Q w H) :
    wpAny (model X.prog X.w) X.A (getItem (.ref a) u) (EP X pins σ Q) X.xe s := by
  rcases keysOk_cases hk with h | h
  · obtain ⟨i, rfl, rfl, hi⟩ := o.intKey r (h _ (List.mem_cons_self ..))
    obtain ⟨xs, dv, rx⟩ := D.viewI I fun d hd => h d (List.mem_cons_of_mem _ hd)
    obtain ⟨p, e1, r1⟩ := pk_look (k := .num i) (kd := .int i) (by rw [nkOf]) D.pk hc
    obtain ⟨w, e2, r2⟩ := (ri_at rx).2 p e1
    exact wpAny_getItem_of hi dv.mapOf e2 ⟨_, H, I.tok _, r2, q _ r1⟩
  · obtain ⟨k, b, ek, rfl, rfl, hi⟩ := o.tupKey I r (h _ (List.mem_cons_self ..))
    obtain ⟨xs, dv, rx⟩ := D.viewT I fun d hd => h d (List.mem_cons_of_mem _ hd)
    obtain ⟨p, e1, r1⟩ := pk_look ek D.pk hc
    obtain ⟨w, e2, r2⟩ := (rx_at rx).2 p e1
    exact wpAny_getItem_heap (room8 ok) hi dv e2 ⟨_, H, I.tok _, r2, q _ r1⟩
end
end PL

set_option autoImplicit false
set_option linter.all false
set_option Elab.async false
set_option maxRecDepth 100000
set_option maxHeartbeats 1000000
/-! PD2: len, truth, subscripts, get, stores of dicts. -/
namespace PL
open PySem PySem.Spec PyProof.Rows L2
variable [TabL]
section
variable {prog : Program} {w : World} {A : Around} {E : Value → Shared → Prop} {s : Shared} {d : Addr} {es : Array DictEntry} {ep : Nat}
theorem len_body_raw {Q : Value → Shared → Prop} (hd : (d == sysModules) = false) (hm : s.heap.DictRaw d es ep) (hfit : (es.size : Int) < 2 ^ 63)
    (h : Q (.int es.size (s.toks + 1)) { s with toks := s.toks + 1 + 1 }) : wpAny (model prog w) A (Builtin.«len» ⟨[.ref d], []⟩) (fun fin s' => ∃ r, fin = .done (.ret r) ∧ Q r s') E s := by
  unfold Builtin.«len»
  refine wpAny_bind (m := oneArg "len" _) (wpAny_pure ?_)
  refine wpAny_bind (m := callSpecial? (.ref d) (Str.ofString "__len__")) (wpAny_callSpecial?_slot (name := Str.ofString "__len__") hm.typeIs F.slot_dict_len
    (call_meetsIn F.slot_dict_len hm.typeIs F.entry_dict_len (F.args_dict_len_1 _) (meets_dict_len_raw d hd) ⟨es, ep, hm, ?_⟩))
  show wpAny _ _ _ _ _ { s with toks := s.toks + 1 }
  refine wpAny_bind (wpAny_holding (wpAny_pure ?_))
  refine wpAny_bind (wpAny_letGo ?_)
  show wpAny _ _ (if ((es.size : Nat) : Int) < 0 then _ else _) _ _ _
  rw [if_neg (by omega)]
  show wpAny _ _ (if ((es.size : Nat) : Int) ≥ 2 ^ 63 then _ else _) _ _ _
  rw [if_neg (by omega)]
  exact wpAny_bind (wpAny_mkInt (wpAny_pure ⟨_, rfl, h⟩))
theorem call_len_rawd {Q : Value → Shared → Prop} (hd : (d == sysModules) = false) (hm : s.heap.DictRaw d es ep) (hfit : (es.size : Int) < 2 ^ 63)
    (h : Q (.int es.size (s.toks + 1)) { s with toks := s.toks + 1 + 1 }) : wpAny (model prog w) A (call (.builtin "len") [.ref d]) Q E s :=
  Calls.call_function_entry kind_len plain_len entry_len (args_len1 _) (len_body_raw hd hm hfit h)
theorem truthy_rawd {Q : Bool → Shared → Prop} (hd : (d == sysModules) = false) (hm : s.heap.DictRaw d es ep) (hfit : (es.size : Int) < 2 ^ 63)
    (h : Q (!(es.size == 0)) { s with toks := s.toks + 1 + 1 }) : wpAny (model prog w) A (truthy (.ref d)) Q E s := by
  have hne : ((es.size : Int) != 0) = !(es.size == 0) := by
    by_cases c : es.size = 0
    · rw [c]; rfl
    · have : (es.size == 0) = false := by simpa using c
      rw [this]
      have : ((es.size : Int) != 0) = true := by simpa using c
      rw [this]; rfl
  have key : wpAny (model prog w) A (runValue (.builtin "len" ⟨[.ref d], []⟩)) (fun r s' => r = .int es.size (s.toks + 1) ∧ Q (!(es.size == 0)) s') E s := by
    refine wpAny_runValue (codeAny_builtin entry_len ?_)
    rw [Around.under_plainId plain_len _]
    exact wpAny_mono (len_body_raw (Q := fun r s' => r = .int es.size (s.toks + 1) ∧ Q (!(es.size == 0)) s') hd hm hfit ⟨rfl, h⟩)
      (fun fin s' h' => by obtain ⟨r, rfl, hq⟩ := h'; exact hq) fun _ _ e => e
  unfold truthy
  first
    | refine wpAny_bind (wpAny_callSpecial?_none (name := Str.ofString "__bool__") hm.typeIs noBool_dict ?_)
    | refine wpAny_bind (wpAny_pure (wpAny_bind (wpAny_callSpecial?_none (name := Str.ofString "__bool__") hm.typeIs noBool_dict ?_)))
  first
    | refine wpAny_bind (wpAny_specialOf (name := Str.ofString "__len__") hm.typeIs F.slot_dict_len.lookup ?_)
    | refine wpAny_bind (wpAny_pure (wpAny_bind (wpAny_specialOf (name := Str.ofString "__len__") hm.typeIs F.slot_dict_len.lookup ?_)))
  first
    | exact wpAny_bind (wpAny_mono key (fun r s' h' => by obtain ⟨rfl, hq⟩ := h'; exact wpAny_pure (hne ▸ hq)) fun _ _ e => e)
    | exact wpAny_bind (wpAny_pure (wpAny_bind (wpAny_mono key (fun r s' h' => by obtain ⟨rfl, hq⟩ := h'; exact wpAny_pure (hne ▸ hq)) fun _ _ e => e)))
theorem subTail {value slice : Expr} {o i : Value} {T id : String} {Q : Value → Shared → Prop} (hT : s.TypeIs o T)
    (hl : typeLookup (.type T) "__getitem__" = pure (some (.builtin id))) (h : wpAny (model prog w) A (getItem o i) Q E s)
    (hs : subscripted slice false o i = operate [o, i] (getItem o i)) : wpAny (model prog w) A (subscriptTail value slice o i) Q E s := by
  unfold subscriptTail
  refine wpAny_bind ?_
  rw [getitemInPython_of_ne hT.not_modules]
  refine wpAny_bind (wpAny_specialOf hT hl ?_)
  have fin : wpAny (model prog w) A (subscripted slice false o i) (fun r s₃ => wpAny (model prog w) A (letTemporaryGo value o r >>= fun _ => pure r) Q E s₃) E s := by
    rw [hs]
    exact wpAny_operating (wpAny_mono h (fun r s₃ h₃ => wpAny_bind (wpAny_letTemporaryGo (wpAny_pure h₃))) fun _ _ x => x)
  first
    | exact wpAny_pure (wpAny_bind fin)
    | exact wpAny_bind (wpAny_pure (wpAny_bind fin))
    | exact wpAny_bind fin
end
section
variable {X : Cx} {pins : List (Addr × Obj)} {σ : L2.St} {H : Hp} {s : Shared} {Y Y2 : Addr → Prop} {a : Addr} {ps : List DE} {kvs : List (PyData × PyData)}
theorem paired_len {α β : Type} {F : α → β → Prop} : ∀ {as : List α} {bs : List β}, Paired F as bs → as.length = bs.length
  | _, _, .nil => rfl
  | _, _, .cons _ t => by rw [List.length_cons, List.length_cons, paired_len t]
theorem DView.sizes (D : DView X Y H a ps kvs) (I : L2.Inv X pins σ H s) : ∃ es ep, s.heap.DictRaw a es ep ∧ Paired Ent ps es.toList ∧ es.size = kvs.length ∧ kvs.length ≤ 1000000 ∧ H a = some (DctO a es ep) := by
  obtain ⟨es, ep, e, pe, hr⟩ := D.at'.raw I
  have h1 := paired_len pe
  have h2 := paired_len D.pk
  have h3 := D.at'.len
  exact ⟨es, ep, hr, pe, by rw [← h2, h1, Array.length_toList], by omega, e⟩
theorem d_len {Q : VK} (D : DView X Y H a ps kvs) (I : L2.Inv X pins σ H s) (q : Q (.int kvs.length) H) : wpAny (model X.prog X.w) X.A (call (.builtin "len") [.ref a]) (EP X pins σ Q) X.xe s := by
  obtain ⟨es, ep, hr, _, h1, h2, _⟩ := D.sizes I
  refine call_len_rawd D.at'.sys hr (by omega) ?_
  rw [h1]
  exact ⟨.int _, H, I.tok _, ⟨_, rfl⟩, q⟩
theorem d_truth {Q : Bool → Hp → Prop} (D : DView X Y H a ps kvs) (I : L2.Inv X pins σ H s) (q : Q (!kvs.isEmpty) H) : wpAny (model X.prog X.w) X.A (truthy (.ref a)) (TP X pins σ Q) X.xe s := by
  obtain ⟨es, ep, hr, _, h1, h2, _⟩ := D.sizes I
  refine truthy_rawd D.at'.sys hr (by omega) ?_
  have : (es.size == 0) = kvs.isEmpty := by
    rw [h1]
    cases kvs <;> rfl
  rw [this]
  exact ⟨H, I.tok _, q⟩
theorem d_sub {Q : VK} {v : V} {u : Value} {d c : PyData} {value slice : Expr} (ok : XOk X) (D : DView X Y H a ps kvs) (I : L2.Inv X pins σ H s) (o : Op X.K Y2 H v d) (r : RelV v u) (hk : keysOk (d :: kvs.map (·.1)) = true) (hc : look kvs d = some c) (q : ∀ w, Rp X.K Y H w c → Q w H)
    (hs : subscripted slice false (.ref a) u = operate [.ref a, u] (getItem (.ref a) u)) : wpAny (model X.prog X.w) X.A (subscriptTail value slice (.ref a) u) (EP X pins σ Q) X.xe s := by
  obtain ⟨es, ep, hr, _, h1, h2, _⟩ := D.sizes I
  exact subTail hr.typeIs slot_dict_getitem.lookup (d_item ok D I o r hk hc q) hs
/-! ### stores -/
theorem rx_over {k : NestedKey} {v : V} {r : Value} (rv : RelV v r) : ∀ {ps : List DE} {xs : List (NestedKey × Addr × Value)}, Paired RX ps xs → Paired RX (ps.map (fun p => if p.1 = k then (p.1, p.2.1, v) else p)) (xs.map (putAt k r))
  | _, _, .nil => .nil
  | p :: ps, x :: xs, .cons r1 t => by
    refine .cons ?_ (rx_over rv t)
    unfold putAt
    dsimp only
    by_cases c : p.1 = k
    · rw [if_pos c, if_pos (by rw [← r1.1]; exact c)]; exact ⟨r1.1, r1.2.1, rv⟩
    · rw [if_neg c, if_neg (by rw [← r1.1]; exact c)]; exact r1
theorem rx_put {k : NestedKey} {b : Addr} {v : V} {r : Value} (rv : RelV v r) {ps : List DE} {xs : List (NestedKey × Addr × Value)} (h : Paired RX ps xs) : Paired RX (pput ps k (.ref b) v) (storedH xs k b r) := by
  unfold pput storedH
  rw [(rx_at h).1]
  split
  · exact rx_over rv h
  · exact paired_app h (.cons ⟨rfl, rfl, rv⟩ .nil)
theorem ri_over {k : Int} {v : V} {r : Value} (rv : RelV v r) : ∀ {ps : List DE} {xs : List (Int × Value)}, Paired RI ps xs → Paired RI (ps.map (fun p => if p.1 = .num k then (p.1, p.2.1, v) else p)) (xs.map fun kv => if kv.1 = k then (kv.1, r) else kv)
  | _, _, .nil => .nil
  | p :: ps, x :: xs, .cons r1 t => by
    refine .cons ?_ (ri_over rv t)
    dsimp only
    have e : p.1 = .num k ↔ x.1 = k := by
      rw [r1.1]
      exact ⟨fun z => by injection z, fun z => by rw [z]⟩
    by_cases c : x.1 = k
    · rw [if_pos (e.mpr c), if_pos c]; exact ⟨r1.1, r1.2.1, rv⟩
    · rw [if_neg (fun z => c (e.mp z)), if_neg c]; exact r1
theorem ri_any {k : Int} : ∀ {ps : List DE} {xs : List (Int × Value)}, Paired RI ps xs → (xs.any fun kv => decide (kv.1 = k)) = (pfind ps (.num k)).isSome
  | _, _, .nil => rfl
  | p :: ps, x :: xs, .cons r1 t => by
    have ih := ri_any (k := k) t
    rw [List.any_cons, ih]
    unfold pfind
    rw [List.find?_cons, r1.1]
    have hd : decide (NestedKey.num x.1 = .num k) = decide (x.1 = k) := by
      by_cases c : x.1 = k
      · rw [decide_eq_true c, c]; simp
      · rw [decide_eq_false c]; exact decide_eq_false fun z => c (by injection z)
    rw [hd]
    cases decide (x.1 = k) <;> rfl
theorem ri_put {k : Int} {v : V} {r : Value} (rv : RelV v r) {ps : List DE} {xs : List (Int × Value)} (h : Paired RI ps xs) : Paired RI (pput ps (.num k) (.int k) v) (stored xs k r) := by
  unfold pput stored
  rw [ri_any h]
  split
  · exact ri_over rv h
  · exact paired_app h (.cons ⟨rfl, rfl, rv⟩ .nil)
theorem ent_rx {P : Program} {w : World} : ∀ {ps : List DE} {xs : List (NestedKey × Addr × Value)}, Paired RX ps xs → (∀ p ∈ ps, ∃ d, nkOf d = some p.1) → Paired Ent ps (xs.map (entryOfKey (nestedKind P w)))
  | _, _, .nil, _ => .nil
  | p :: ps, x :: xs, .cons r1 t, h => by
    refine .cons ⟨fun w' => ?_, ?_, r1.2.2⟩ (ent_rx t fun p hp => h p (List.mem_cons_of_mem _ hp))
    · obtain ⟨d, e⟩ := h p (List.mem_cons_self ..)
      show x.1.hash w = _
      rw [← r1.1]
      exact key_free e w w'
    · rw [r1.2.1]; exact rfl
theorem ent_ri {P : Program} {w : World} : ∀ {es : List DictEntry} {ps : List DE} {xs : List (Int × Value)}, Paired RI ps xs → Pairs (PySem.intKind P w) es xs → (∀ e ∈ es, ∃ k, (PySem.intKind P w).is k e.key = true ∧ e.hash = (PySem.intKind P w).hash k) → Paired Ent ps es
  | _, _, _, .nil, .nil, _ => .nil
  | e :: es, p :: ps, x :: xs, .cons r1 t, .cons h1 h2 t2, h => by
    refine .cons ⟨fun w' => ?_, ?_, ?_⟩ (ent_ri t t2 fun p hp => h p (List.mem_cons_of_mem _ hp))
    · obtain ⟨k, e1, e2⟩ := h e (List.mem_cons_self ..)
      have := (PySem.intKind P w).inj _ _ _ e1 h1
      rw [e2, this, r1.1]
      rfl
    · rw [r1.2.1]
      obtain ⟨tk, z⟩ := Value.isInt_shape (show Value.isInt x.1 e.key = true from h1)
      exact ⟨tk, z⟩
    · rw [h2]; exact r1.2.2
theorem keys_src {ps : List DE} {kds : List PyData} (h : kds.map nkOf = ps.map fun p => some p.1) : ∀ p ∈ ps, ∃ d, nkOf d = some p.1 := fun p hp => by
  have : some p.1 ∈ kds.map nkOf := by rw [h]; exact List.mem_map.mpr ⟨p, hp, rfl⟩
  obtain ⟨d, _, e⟩ := List.mem_map.mp this
  exact ⟨d, e⟩
/-- the description after a store -/
theorem dct_ok {P : Program} {w : World} {H' : Hp} {h' : Heap} {es : Array DictEntry} {ep : Nat} (r : h'.DictRaw a es ep) : ObjOk P w H' h' a (DctO a es ep) :=
  ⟨r, let ⟨o, e, _⟩ := r; ⟨o, e⟩, fun h1 h2 x k => x.at k⟩
theorem d_store {Q : Unit → Shared → Prop} {vk v : V} {u r : Value} {kd vd : PyData} (ok : XOk X) (D : DView X Y H a ps kvs) (I : L2.Inv X pins σ H s) (o : Rp X.K Y H vk kd) (rk : RelV vk u) (ov : Rp X.K Y H v vd) (rv : RelV v r)
    (hk : keysOk (kd :: kvs.map (·.1)) = true) (hl : kvs.length < 1000000) (hY : Y a) (h : ∀ ho ps' s', L2.Inv X pins σ (upd H a ho) s' → DView X Y (upd H a ho) a ps' (store kvs kd vd) → Q () s') :
    wpAny (model X.prog X.w) X.A (setItem (.ref a) u r) Q X.xe s := by
  obtain ⟨es0, ep0, _, _, _, h2, eH⟩ := D.sizes I
  have lp := paired_len D.pk
  have fin : ∀ (k : NestedKey) (h' : Heap) (es : Array DictEntry) (ep tk : Nat), nkOf kd = some k → h'.DictRaw a es ep → Heap.SameBut a s.heap h' → ((∀ p ∈ pput ps k vk v, ∃ d, nkOf d = some p.1) → Paired Ent (pput ps k vk v) es.toList) → Q () { s with heap := h', toks := tk } := by
    intro k h' es ep tk ek raw hs pe
    have K0 : Keeps (fun b => b = a) H (upd H a (DctO a es ep)) := Keeps.put eH plain_dct ntb_dct rfl
    have K1 : Keeps Y H (upd H a (DctO a es ep)) := K0.mono fun b z => by rw [z]; exact hY
    have pk := pk_store (x := vk) ek o ov D.pk
    obtain ⟨b1, b2, b3⟩ := pkv_back pk
    refine h _ (pput ps k vk v) _ (d_write I (by rw [eH]; exact True.intro) hs (let ⟨q, e, _⟩ := raw; ⟨q, e⟩) (dct_ok raw)) ⟨⟨⟨es, ep, upd_same, pe (keys_src b1)⟩, b1, pput_nodup D.at'.nd, D.at'.sys, ?_⟩, b2.move K1 fun _ z => z, b3.move K1 fun _ z => z⟩
    have := pput_len ps k vk v
    omega
  have hsl : kvs.length ≤ sizeLine := by rw [sizeLine_eq]; omega
  rcases keysOk_cases hk with hh | hh
  · obtain ⟨i, rfl, rfl, hi⟩ := (Op.rp o).intKey rk (hh _ (List.mem_cons_self ..))
    obtain ⟨xs, dv, rx⟩ := D.viewI I fun d hd => hh d (List.mem_cons_of_mem _ hd)
    refine wpAny_setItem_pairs (hsz := by rw [← paired_len rx, lp]; exact hsl) hi dv fun h' dv' hs => ?_
    obtain ⟨ob, es, ep, e1, e2, e3, e4, e5, e6⟩ := dv'
    exact fin (.num i) h' es ep _ (by rw [nkOf]) ⟨ob, e1, e2, e3⟩ hs fun _ => ent_ri (ri_put rv rx) e5 fun e he => e4 e (Array.mem_toList_iff.mp he)
  · obtain ⟨k, b, ek, rfl, rfl, hi⟩ := (Op.rp o).tupKey I rk (hh _ (List.mem_cons_self ..))
    obtain ⟨xs, dv, rx⟩ := D.viewT I fun d hd => hh d (List.mem_cons_of_mem _ hd)
    refine wpAny_setItem_heap (hsz := by rw [← paired_len rx, lp]; exact hsl) (room8 ok) hi dv fun h' dv' hs => ?_
    obtain ⟨ob, es, ep, e1, e2, e3, e4, e5, e6⟩ := dv'
    refine fin k h' es ep _ ek ⟨ob, e1, e2, e3⟩ hs fun src => ?_
    rw [e4]
    exact ent_rx (rx_put rv rx) src
end
end PL

set_option autoImplicit false
set_option linter.all false
set_option Elab.async false
set_option maxRecDepth 100000
set_option maxHeartbeats 1000000
/-! PL4: comparisons, truth, items, slices. -/
namespace PL
open PySem PySem.Spec PyProof.Rows L2
variable [TabL]
def boolR (o : Option Bool) : Option Res := o.map fun b => .val (.bool b)
theorem boolR_some {o : Option Bool} {r : Res} (h : boolR o = some r) : ∃ b, o = some b ∧ r = .val (.bool b) := by
  cases o with
  | none => cases h
  | some b => exact ⟨b, rfl, (Option.some.inj h).symm⟩
theorem deep_ok {d : PyData} (h : deepOk d = true) : d.plain = true ∧ d.depth ≤ 30 := by
  unfold deepOk at h
  rw [Bool.and_eq_true] at h
  exact ⟨h.1, of_decide_eq_true h.2⟩
theorem deeps_ok {d : List PyData} (h : deepOks d = true) : PyData.plainAll d = true ∧ PyData.depthAll d ≤ 30 := by
  unfold deepOks at h
  rw [Bool.and_eq_true] at h
  exact ⟨h.1, of_decide_eq_true h.2⟩
section
variable {X : Cx} {pins : List (Addr × Obj)} {σ : L2.St} {H : Hp} {s : Shared} {Y : Addr → Prop}
mutual
theorem Rp.reads (I : L2.Inv X pins σ H s) : ∀ {v : V} {d : PyData}, Rp X.K Y H v d → ∀ {u : Value}, RelV v u → ∃ as, Reads s.heap u d as
  | _, _, .non, _, r => by cases r; exact ⟨_, .none⟩
  | _, _, .bl b, _, r => by cases r; exact ⟨_, .bool b⟩
  | _, _, .int i, _, r => by obtain ⟨t, rfl⟩ := r; exact ⟨_, .int i t⟩
  | _, _, .str x, _, r => by obtain ⟨t, rfl⟩ := r; exact ⟨_, .str x t⟩
  | _, _, .tup n rd ra, _, r => by
    cases r
    obtain ⟨its, rv, ⟨o, ho, hc, n, hd⟩, _⟩ := I.tuple (.inl rd)
    obtain ⟨as, hr⟩ := ra.readsAll I rv
    exact ⟨_, .tuple ho hc hd hr⟩
  | _, _, .tupK rd ra, _, r => by
    cases r
    obtain ⟨its, rv, ⟨o, ho, hc, n, hd⟩, _⟩ := I.tuple rd.sq
    obtain ⟨as, hr⟩ := ra.readsAll I rv
    exact ⟨_, .tuple ho hc hd hr⟩
  | _, _, .lst n rd ra, _, r => by
    cases r
    obtain ⟨its, rv, ⟨o, n, ho, hc, _, hd⟩, _⟩ := I.list (.inl rd)
    obtain ⟨as, hr⟩ := ra.readsAll I rv
    exact ⟨_, .list ho hc hd hr⟩
  | _, _, .dct n rd ra rb, _, r => by
    cases r
    obtain ⟨es, ep, e, pe, o, ho, hc, hd⟩ := rd.raw I
    obtain ⟨k1, k2⟩ := ent_keys pe
    obtain ⟨as, hr⟩ := ra.readsAll I k1
    obtain ⟨bs, hr2⟩ := rb.readsAll I k2
    exact ⟨_, .dict ho hc.1 hd hr hr2⟩
theorem RpA.readsAll (I : L2.Inv X pins σ H s) : ∀ {vs : List V} {ds : List PyData}, RpA X.K Y H vs ds → ∀ {us : List Value}, Vals vs us → ∃ as, ReadsAll s.heap us ds as
  | _, _, .nil, _, r => by cases r; exact ⟨_, .nil⟩
  | _, _, .cons a b, _, r => by
    cases r with
    | cons r1 r2 =>
      obtain ⟨as, q1⟩ := a.reads I r1
      obtain ⟨bs, q2⟩ := b.readsAll I r2
      exact ⟨_, .cons q1 q2⟩
end
theorem Op.reads {v : V} {u : Value} {d : PyData} (o : Op X.K Y H v d) (I : L2.Inv X pins σ H s) (r : RelV v u) : ∃ as, Reads s.heap u d as := o.asRp.reads I r
theorem fin_b {Q : VK} {k : Bool} (I : L2.Inv X pins σ H s) (q : ∀ v H', New X.K Y H H' v (.val (.bool k)) → Q v H') : EP X pins σ Q (.bool k) s := ⟨.bl k, H, I, rfl, q _ _ (new_bl k)⟩
/-- a comparison's rule -/
def CmpOk (X : Cx) (op : CmpOp) : Prop := OpR X (compareOp op) (rOp2 X.K fun d e => boolR (cmpD op d e))
theorem op_cmp_eq (ok : XOk X) : CmpOk X .Eq := by
  rintro pins s σ H x y v u Q I rx ry ⟨Y, d, e, r, t, hx, hy, hg, q⟩
  obtain ⟨b, hb, rfl⟩ := boolR_some hg
  obtain ⟨hz, rfl⟩ := ite_some hb
  rw [Bool.and_eq_true] at hz
  have h1 := deep_ok hz.1
  have h2 := deep_ok hz.2
  obtain ⟨as, r1⟩ := hx.reads I rx
  obtain ⟨bs, r2⟩ := hy.reads I ry
  exact SeqAt.eq_plain r1 r2 h1.1 h2.1 (by have := ok.un; omega) (fin_b I q)
theorem op_cmp_ne (ok : XOk X) : CmpOk X .NotEq := by
  rintro pins s σ H x y v u Q I rx ry ⟨Y, d, e, r, t, hx, hy, hg, q⟩
  obtain ⟨b, hb, rfl⟩ := boolR_some hg
  obtain ⟨hz, rfl⟩ := ite_some hb
  rw [Bool.and_eq_true] at hz
  have h1 := deep_ok hz.1
  have h2 := deep_ok hz.2
  obtain ⟨as, r1⟩ := hx.reads I rx
  obtain ⟨bs, r2⟩ := hy.reads I ry
  exact SeqAt.ne_plain r1 r2 h1.1 h2.1 (by have := ok.un; omega) (fin_b I q)
theorem ord_ok {d e : PyData} (h : ordOk d e = true) : W.alike d e = true ∧ d.depth ≤ 30 ∧ e.depth ≤ 30 ∧ d ≠ .none := by
  unfold ordOk at h
  rw [Bool.and_eq_true, Bool.and_eq_true, Bool.and_eq_true] at h
  refine ⟨h.1.1.1, (deep_ok h.1.1.2).2, (deep_ok h.1.2).2, fun z => ?_⟩
  have := h.2
  rw [z] at this
  cases this
theorem op_cmp_lt (ok : XOk X) : CmpOk X .Lt := by
  rintro pins s σ H x y v u Q I rx ry ⟨Y, d, e, r, t, hx, hy, hg, q⟩
  obtain ⟨b, hb, rfl⟩ := boolR_some hg
  obtain ⟨hz, rfl⟩ := ite_some hb
  obtain ⟨h1, h2, h3, h4⟩ := ord_ok hz
  obtain ⟨as, r1⟩ := hx.reads I rx
  obtain ⟨bs, r2⟩ := hy.reads I ry
  exact W.lt_data r1 r2 h1 h4 (by have := ok.un; omega) (fin_b I q)
theorem op_cmp_gt (ok : XOk X) : CmpOk X .Gt := by
  rintro pins s σ H x y v u Q I rx ry ⟨Y, d, e, r, t, hx, hy, hg, q⟩
  obtain ⟨b, hb, rfl⟩ := boolR_some hg
  obtain ⟨hz, rfl⟩ := ite_some hb
  obtain ⟨h1, h2, h3, h4⟩ := ord_ok hz
  obtain ⟨as, r1⟩ := hx.reads I rx
  obtain ⟨bs, r2⟩ := hy.reads I ry
  exact W.gt_data r1 r2 h1 h4 (by have := ok.un; omega) (fin_b I q)
theorem op_cmp_le (ok : XOk X) : CmpOk X .LtE := by
  rintro pins s σ H x y v u Q I rx ry ⟨Y, d, e, r, t, hx, hy, hg, q⟩
  obtain ⟨b, hb, rfl⟩ := boolR_some hg
  obtain ⟨hz, rfl⟩ := ite_some hb
  obtain ⟨h1, h2, h3, h4⟩ := ord_ok hz
  obtain ⟨as, r1⟩ := hx.reads I rx
  obtain ⟨bs, r2⟩ := hy.reads I ry
  exact W.le_data r1 r2 h1 h4 (by have := ok.un; omega) (fin_b I q)
theorem op_cmp_ge (ok : XOk X) : CmpOk X .GtE := by
  rintro pins s σ H x y v u Q I rx ry ⟨Y, d, e, r, t, hx, hy, hg, q⟩
  obtain ⟨b, hb, rfl⟩ := boolR_some hg
  obtain ⟨hz, rfl⟩ := ite_some hb
  obtain ⟨h1, h2, h3, h4⟩ := ord_ok hz
  obtain ⟨as, r1⟩ := hx.reads I rx
  obtain ⟨bs, r2⟩ := hy.reads I ry
  exact W.ge_data r1 r2 h1 h4 (by have := ok.un; omega) (fin_b I q)
theorem op_cmp_in (ok : XOk X) : CmpOk X .In := by
  rintro pins s σ H x y v u Q I rx ry ⟨Y, d, e, r, t, hx, hy, hg, q⟩
  obtain ⟨b, hb, rfl⟩ := boolR_some hg
  have hun := ok.un
  cases e with
  | list ys =>
    obtain ⟨hz, rfl⟩ := ite_some (show (if (deepOk d && deepOks ys) = true then _ else none) = some b from hb)
    rw [Bool.and_eq_true] at hz
    have h1 := deep_ok hz.1
    have h2 := deeps_ok hz.2
    obtain ⟨as, r1⟩ := hx.reads I rx
    obtain ⟨bs, r2⟩ := hy.reads I ry
    exact SeqAt.in_list_data r2 r1 h2.1 h1.1 (by omega) (fin_b I q)
  | tuple ys =>
    obtain ⟨hz, rfl⟩ := ite_some (show (if (deepOk d && deepOks ys) = true then _ else none) = some b from hb)
    rw [Bool.and_eq_true] at hz
    have h1 := deep_ok hz.1
    have h2 := deeps_ok hz.2
    obtain ⟨as, r1⟩ := hx.reads I rx
    obtain ⟨bs, r2⟩ := hy.reads I ry
    exact SeqAt.in_tuple_data r2 r1 h2.1 h1.1 (by omega) (fin_b I q)
  | str z =>
    cases d with
    | str w =>
      cases hb
      rw [hx.str] at rx
      rw [hy.str] at ry
      exact op_in_str pins s σ H _ _ v u Q I rx ry ⟨w, z, rfl, rfl, q _ _ (new_bl _)⟩
    | _ => cases hb
  | dict kvs =>
    obtain ⟨hz, rfl⟩ := ite_some (show (if keysOk (d :: kvs.map (·.1)) = true then _ else none) = some b from hb)
    obtain ⟨a, ps, rfl, D⟩ := hy.view
    cases ry
    exact d_in ok D I hx rx hz (q _ _ (new_bl _))
  | _ => cases hb
theorem op_cmp_notIn (ok : XOk X) : CmpOk X .NotIn := by
  rintro pins s σ H x y v u Q I rx ry ⟨Y, d, e, r, t, hx, hy, hg, q⟩
  obtain ⟨b, hb, rfl⟩ := boolR_some hg
  have hun := ok.un
  obtain ⟨b', hc, rfl⟩ : ∃ b', inD d e = some b' ∧ b = !b' := by
    have hb : (inD d e).map (!·) = some b := hb
    cases h : inD d e with
    | none => rw [h] at hb; cases hb
    | some b' => rw [h] at hb; exact ⟨b', rfl, (Option.some.inj hb).symm⟩
  cases e with
  | list ys =>
    obtain ⟨hz, rfl⟩ := ite_some (show (if (deepOk d && deepOks ys) = true then _ else none) = some b' from hc)
    rw [Bool.and_eq_true] at hz
    have h1 := deep_ok hz.1
    have h2 := deeps_ok hz.2
    obtain ⟨as, r1⟩ := hx.reads I rx
    obtain ⟨bs, r2⟩ := hy.reads I ry
    exact SeqAt.notIn_list_data r2 r1 h2.1 h1.1 (by omega) (fin_b I q)
  | tuple ys =>
    obtain ⟨hz, rfl⟩ := ite_some (show (if (deepOk d && deepOks ys) = true then _ else none) = some b' from hc)
    rw [Bool.and_eq_true] at hz
    have h1 := deep_ok hz.1
    have h2 := deeps_ok hz.2
    obtain ⟨as, r1⟩ := hx.reads I rx
    obtain ⟨bs, r2⟩ := hy.reads I ry
    exact SeqAt.notIn_tuple_data r2 r1 h2.1 h1.1 (by omega) (fin_b I q)
  | str z =>
    cases d with
    | str w =>
      cases hc
      rw [hx.str] at rx
      rw [hy.str] at ry
      exact L2.op_notin_str pins s σ H _ _ v u Q I rx ry ⟨w, z, rfl, rfl, q _ _ (new_bl _)⟩
    | _ => cases hc
  | dict kvs =>
    obtain ⟨hz, rfl⟩ := ite_some (show (if keysOk (d :: kvs.map (·.1)) = true then _ else none) = some b' from hc)
    obtain ⟨a, ps, rfl, D⟩ := hy.view
    cases ry
    exact d_notIn ok D I hx rx hz (q _ _ (new_bl _))
  | _ => cases hc
theorem op_cmp_is (ok : XOk X) : CmpOk X .Is := by
  rintro pins s σ H x y v u Q I rx ry ⟨Y, d, e, r, t, hx, hy, hg, q⟩
  obtain ⟨b, hb, rfl⟩ := boolR_some hg
  cases e with
  | none =>
    refine op_isN pins s σ H x y v u Q I rx ry ⟨hy.non, ?_⟩
    have : decide (x = V.non) = b := by
      cases d with
      | none => rw [hx.non]; cases hb; rfl
      | bool i => rw [hx.bl]; cases hb; rfl
      | int i => rw [hx.int]; cases hb; rfl
      | str i => rw [hx.str]; cases hb; rfl
      | list i => obtain ⟨a, xs, e, _⟩ := hx.list; rw [e]; cases hb; rfl
      | tuple i => obtain ⟨a, xs, e, _⟩ := hx.tuple; rw [e]; cases hb; rfl
      | dict i => obtain ⟨a, ps, e, _⟩ := hx.view; rw [e]; cases hb; rfl
    rw [this]
    exact q _ _ (new_bl b)
  | bool j =>
    cases d with
    | bool i =>
      cases hb
      refine op_is_bl pins s σ H x y v u Q I rx ry ⟨i, j, hx.bl, hy.bl, ?_⟩
      rw [← Bool.beq_eq_decide_eq]
      exact q _ _ (new_bl _)
    | _ => cases hb
  | _ => cases d <;> cases hb
theorem op_cmp_isNot (ok : XOk X) : CmpOk X .IsNot := by
  rintro pins s σ H x y v u Q I rx ry ⟨Y, d, e, r, t, hx, hy, hg, q⟩
  obtain ⟨b, hb, rfl⟩ := boolR_some hg
  obtain ⟨b', hc, rfl⟩ : ∃ b', isD d e = some b' ∧ b = !b' := by
    have hb : (isD d e).map (!·) = some b := hb
    cases h : isD d e with
    | none => rw [h] at hb; cases hb
    | some b' => rw [h] at hb; exact ⟨b', rfl, (Option.some.inj hb).symm⟩
  cases e with
  | none =>
    refine op_notN pins s σ H x y v u Q I rx ry ⟨hy.non, ?_⟩
    have : decide (x = V.non) = b' := by
      cases d with
      | none => rw [hx.non]; cases hc; rfl
      | bool i => rw [hx.bl]; cases hc; rfl
      | int i => rw [hx.int]; cases hc; rfl
      | str i => rw [hx.str]; cases hc; rfl
      | list i => obtain ⟨a, xs, e, _⟩ := hx.list; rw [e]; cases hc; rfl
      | tuple i => obtain ⟨a, xs, e, _⟩ := hx.tuple; rw [e]; cases hc; rfl
      | dict i => obtain ⟨a, ps, e, _⟩ := hx.view; rw [e]; cases hc; rfl
    rw [this]
    exact q _ _ (new_bl _)
  | bool j =>
    cases d with
    | bool i =>
      cases hc
      refine op_isnot_bl pins s σ H x y v u Q I rx ry ⟨i, j, hx.bl, hy.bl, ?_⟩
      rw [← Bool.beq_eq_decide_eq]
      exact q _ _ (new_bl _)
    | _ => cases hc
  | _ => cases d <;> cases hc
theorem op_cmp (ok : XOk X) (op : CmpOp) : CmpOk X op := by
  cases op with
  | Eq => exact op_cmp_eq ok
  | NotEq => exact op_cmp_ne ok
  | Lt => exact op_cmp_lt ok
  | LtE => exact op_cmp_le ok
  | Gt => exact op_cmp_gt ok
  | GtE => exact op_cmp_ge ok
  | Is => exact op_cmp_is ok
  | IsNot => exact op_cmp_isNot ok
  | In => exact op_cmp_in ok
  | NotIn => exact op_cmp_notIn ok
theorem op_bin (ok : XOk X) (op : Operator) : OpR X (binaryOp op) (rOp2 X.K (binD op)) := by
  cases op with
  | Add => exact op_bin_add ok
  | Sub => exact op_bin_sub ok
  | Mult => exact op_bin_mul ok
  | Mod => exact op_bin_mod ok
  | FloorDiv => exact op_bin_fdiv ok
  | Pow => exact op_bin_pow ok
  | LShift => exact op_bin_shl ok
  | _ =>
    rintro pins s σ H x y v u Q I rx ry ⟨Y, d, e, r, t, hx, hy, hg, q⟩
    cases d <;> cases e <;> cases hg

/-! ### truth -/
def rTr (K : PySem.W.Frag) : V → Hp → (Bool → Hp → Prop) → Prop := fun x H Q => ∃ Y d b, Trk Y H ∧ Op K Y H x d ∧ truthD d = some b ∧ Q b H
theorem tru_v {K : PySem.W.Frag} {x : V} {d : PyData} {b : Bool} (hn : ∀ kvs, d ≠ .dict kvs) (hx : Op K Y H x d) (hb : truthD d = some b) : TruV K x H b := by
  cases d with
  | none => rw [hx.non]; cases hb; exact (rfl : false = false)
  | bool i => rw [hx.bl]; cases hb; exact (rfl : i = i)
  | int i => rw [hx.int]; cases hb; exact (rfl : (i != 0) = _)
  | str i =>
    rw [hx.str]
    obtain ⟨hz, rfl⟩ := ite_some (show (if szOk i.length = true then _ else none) = some b from hb)
    exact ⟨szOk_le hz, rfl⟩
  | list i =>
    obtain ⟨a, xs, e, h, r⟩ := hx.list
    rw [e]
    cases hb
    exact .inl ⟨xs, h, by cases r <;> rfl⟩
  | tuple i =>
    obtain ⟨a, xs, e, h, r⟩ := hx.tuple
    rw [e]
    cases hb
    exact .inr (.inl ⟨xs, h, by cases r <;> rfl⟩)
  | dict i => exact absurd rfl (hn i)
theorem tru_op (ok : XOk X) : TruR X (rTr X.K) := by
  rintro pins s σ H x v Q I rx ⟨Y, d, b, t, hx, hb, q⟩
  cases d with
  | dict kvs =>
    obtain ⟨a, ps, rfl, D⟩ := hx.view
    cases rx
    cases hb
    exact d_truth D I q
  | _ => exact tru_ok pins s σ H x v Q I rx ⟨b, tru_v (by intro _ z; cases z) hx hb, q⟩

/-! ### a[i], a[lo:hi] -/
def valR (o : Option PyData) : Option Res := o.map .val
theorem ix_eq (n : Nat) (i : Int) : ixD n i = ixN n i := rfl
theorem ix_at {K : PySem.W.Frag} {xs : List V} {ds : List PyData} {i : Int} {d : PyData} (r : RpA K Y H xs ds) (h : ((ixD ds.length i).bind fun j => ds[j]?) = some d) : ∃ v, atI xs i = some v ∧ Rp K Y H v d := by
  unfold atI
  rw [← ix_eq, r.length]
  cases e : ixD ds.length i with
  | none => rw [e] at h; cases h
  | some j =>
    rw [e] at h
    obtain ⟨v, e1, rr⟩ := r.get (show ds[j]? = some d from h)
    exact ⟨v, e1, rr⟩
theorem ix_op (ok : XOk X) : IxR X (rOp2 X.K fun d e => valR (idxD d e)) := by
  rintro value slice pins s σ H x y v u Q I rx ry ⟨Y, d, e, r, t, hx, hy, hg, q⟩ hs
  have hg : valR (idxD d e) = some r := hg
  obtain ⟨c, hc, rfl⟩ : ∃ c, idxD d e = some c ∧ r = .val c := by
    cases h : idxD d e with
    | none => rw [h] at hg; cases hg
    | some c => rw [h] at hg; exact ⟨c, rfl, (Option.some.inj hg).symm⟩
  by_cases isd : ∃ kvs, d = .dict kvs
  · obtain ⟨kvs, rfl⟩ := isd
    obtain ⟨a, ps, rfl, D⟩ := hx.view
    have hc : (if keysOk (e :: kvs.map (·.1)) = true then look kvs e else none) = some c := hc
    split at hc
    · rename_i hk
      cases rx
      exact d_sub ok D I hy ry hk hc (fun w r => q _ _ (new_keep (r.move Keeps.refl fun _ z => z))) hs
    · cases hc
  refine ix_seq value slice pins s σ H x y v u Q I rx ry ?_ hs
  cases d with
  | list ds =>
    cases e with
    | int i =>
      obtain ⟨a, xs, e1, h, rr⟩ := hx.list
      obtain ⟨w, e2, r2⟩ := ix_at rr hc
      exact .inl ⟨a, xs, i, w, e1, hy.int, h, e2, q _ _ (new_keep r2)⟩
    | _ => cases hc
  | tuple ds =>
    cases e with
    | int i =>
      obtain ⟨a, xs, e1, h, rr⟩ := hx.tuple
      obtain ⟨w, e2, r2⟩ := ix_at rr hc
      exact .inr (.inl ⟨a, xs, i, w, e1, hy.int, h, e2, q _ _ (new_keep r2)⟩)
    | _ => cases hc
  | str z =>
    cases e with
    | int i =>
      obtain ⟨hz, hc⟩ : szOk z.length = true ∧ ((ixD z.length i).bind fun j => (z.cps[j]?).map fun c => PyData.str ⟨#[c]⟩) = some c := by
        have hc : (if szOk z.length = true then ((ixD z.length i).bind fun j => (z.cps[j]?).map fun c => PyData.str ⟨#[c]⟩) else none) = some c := hc
        split at hc
        · rename_i h; exact ⟨h, hc⟩
        · cases hc
      obtain ⟨w, e2, rfl⟩ : ∃ w, atI z.cps.toList i = some w ∧ c = PyData.str ⟨#[w]⟩ := by
        unfold atI
        rw [← ix_eq]
        have hl : z.cps.toList.length = z.length := by simp [Str.length]
        rw [hl]
        cases e3 : ixD z.length i with
        | none => rw [e3] at hc; cases hc
        | some j =>
          rw [e3] at hc
          have hc : (z.cps[j]?).map (fun c => PyData.str ⟨#[c]⟩) = some c := hc
          cases e4 : z.cps[j]? with
          | none => rw [e4] at hc; cases hc
          | some w =>
            rw [e4] at hc
            exact ⟨w, by simpa using e4, (Option.some.inj hc).symm⟩
      exact .inr (.inr ⟨z, i, w, hx.str, hy.int, szOk_le hz, e2, q _ _ (new_str _)⟩)
    | _ => cases hc
  | dict ds => exact absurd ⟨ds, rfl⟩ isd
  | _ => cases e <;> cases hc
theorem bnd_eq (n d : Nat) (o : Option Int) : bnd n d o = HT.sIx n d o := by
  cases o with
  | none => rfl
  | some v => rfl
theorem RpA.cut {K : PySem.W.Frag} {xs : List V} {ds : List PyData} (r : RpA K Y H xs ds) (lo hi : Option Int) : RpA K Y H (cutV xs lo hi) (cut ds lo hi) := by
  unfold cutV PL.cut
  rw [bnd_eq, bnd_eq, r.length]
  exact (r.drop _).take _
/-- a[lo:hi], by values -/
def rSl (K : PySem.W.Frag) : V → Option Int → Option Int → Hp → VK → Prop := fun x lo hi H Q => ∃ Y d r, Trk Y H ∧ Op K Y H x d ∧ sliD d lo hi = some r ∧ ∀ v H', New K Y H H' v r → Q v H'
theorem sl_op (ok : XOk X) : SlR X (rSl X.K) := by
  rintro pins s σ H x v vl vu lo hi sl Q I rx hs pl pu ⟨Y, d, r, t, hx, hg, q⟩
  cases d with
  | list ds =>
    cases hg
    obtain ⟨a, xs, e, h, rr⟩ := hx.list
    exact sl_list pins s σ H x v vl vu lo hi sl Q I rx hs pl pu ⟨a, xs, e, h, fun p hp => q _ _ (new_lst hp (rr.cut lo hi))⟩
  | tuple ds =>
    cases hg
    obtain ⟨a, xs, e, h, rr⟩ := hx.tuple
    refine sl_tupA pins s σ H x v vl vu lo hi sl Q I rx hs pl pu ⟨a, xs, e, h, fun z => ?_, fun _ p hp => q _ _ (new_tup t hp (rr.cut lo hi))⟩
    have : PL.cut ds lo hi = ds := by
      unfold PL.cut
      rw [bnd_eq, bnd_eq, ← rr.length, z.1, z.2, List.drop_zero, Nat.sub_zero, rr.length, List.take_length]
    rw [this] at q
    exact q _ _ (new_keep (by rw [← e]; exact hx.tupRp))
  | str z =>
    obtain ⟨hz, rfl⟩ := ite_some (show (if szOk z.length = true then _ else none) = some r from hg)
    have : (⟨(PL.cut z.cps.toList lo hi).toArray⟩ : Str) = cutS z lo hi := by
      unfold PL.cut cutS
      first | rfl | (rw [bnd_eq, bnd_eq]; rfl) | skip
    rw [this] at q
    exact sl_str pins s σ H x v vl vu lo hi sl Q I rx hs pl pu ⟨z, hx.str, szOk_le hz, q _ _ (new_str _)⟩
  | _ => cases hg
end
end PL

set_option autoImplicit false
set_option linter.all false
set_option Elab.async false
set_option maxRecDepth 100000
set_option maxHeartbeats 1000000
/-! PL5: built-ins, by values. -/
namespace PL
open PySem PySem.Spec PyProof.Rows L2
variable [TabL]
section
variable {X : Cx} {pins : List (Addr × Obj)} {σ : L2.St} {H : Hp} {s : Shared} {Y : Addr → Prop}
theorem OpA.one {vs : List V} {d : PyData} (o : OpA X.K Y H vs [d]) : ∃ v, vs = [v] ∧ Op X.K Y H v d := by
  cases o with
  | cons a b => cases b; exact ⟨_, rfl, a⟩
theorem OpA.two {vs : List V} {d e : PyData} (o : OpA X.K Y H vs [d, e]) : ∃ v w, vs = [v, w] ∧ Op X.K Y H v d ∧ Op X.K Y H w e := by
  cases o with
  | cons a b => obtain ⟨w, rfl, r⟩ := b.one; exact ⟨_, w, rfl, a, r⟩
theorem OpA.three {vs : List V} {d e f : PyData} (o : OpA X.K Y H vs [d, e, f]) : ∃ v w z, vs = [v, w, z] ∧ Op X.K Y H v d ∧ Op X.K Y H w e ∧ Op X.K Y H z f := by
  cases o with
  | cons a b => obtain ⟨w, z, rfl, r, t⟩ := b.two; exact ⟨_, w, z, rfl, a, r, t⟩
/-- a list or tuple that is looked at -/
theorem op_seq {v : V} {u : Value} {d : PyData} {ds : List PyData} (o : Op X.K Y H v d) (hs : seq? d = some ds) (I : L2.Inv X pins σ H s) (r : RelV v u) :
    ∃ a xs its, v = .ref a ∧ u = .ref a ∧ RpA X.K Y H xs ds ∧ Vals xs its ∧ xs.length ≤ sizeLine ∧ (∃ as, ReadsAll s.heap its ds as) ∧ (s.heap.IsList a its.toArray ∨ s.heap.IsTuple a its.toArray) ∧ (d = .list ds → s.heap.IsList a its.toArray) ∧ (d = .tuple ds → s.heap.IsTuple a its.toArray) := by
  cases d with
  | list es =>
    cases hs
    obtain ⟨a, xs, rfl, h, rr⟩ := o.list
    cases r
    obtain ⟨its, rv, pl, z⟩ := I.list h
    exact ⟨a, xs, its, rfl, rfl, rr, rv, z, rr.readsAll I rv, .inl pl.isList, (fun _ => pl.isList), (fun q => nomatch q)⟩
  | tuple es =>
    cases hs
    obtain ⟨a, xs, rfl, h, rr⟩ := o.tuple
    cases r
    obtain ⟨its, rv, pl, z⟩ := I.tuple h
    exact ⟨a, xs, its, rfl, rfl, rr, rv, z, rr.readsAll I rv, .inr pl, (fun q => nomatch q), (fun _ => pl)⟩
  | _ => cases hs
theorem one_some {f : PyData → Option Res} {ds : List PyData} {r : Res} (h : one f ds = some r) : ∃ x, ds = [x] ∧ f x = some r := by
  match ds, h with
  | [x], h => exact ⟨x, rfl, h⟩
  | [], h => cases h
  | _ :: _ :: _, h => cases h
theorem ovS_some {f : List PyData → Option Res} {d : PyData} {r : Res} (h : ovS f d = some r) : ∃ xs, seq? d = some xs ∧ f xs = some r := by
  unfold ovS at h
  cases e : seq? d with
  | none => rw [e] at h; cases h
  | some xs => rw [e] at h; exact ⟨xs, rfl, h⟩
theorem bi_len (ok : XOk X) : CallR X (.builtin "len") (rCl X.K (biD .len)) := by
  rintro pins s σ H xs us Q I rv ⟨Y, ds, r, t, ho, hg, q⟩
  obtain ⟨d, rfl, hg⟩ := one_some hg
  obtain ⟨v, rfl, o⟩ := ho.one
  cases d with
  | list ys =>
    obtain ⟨hz, rfl⟩ := ite_some hg
    obtain ⟨a, xs, rfl, h, rr⟩ := o.list
    exact call_len pins s σ H _ us Q I rv ⟨_, ys.length, rfl, .inl ⟨xs, h, rr.length.symm⟩, q _ _ (new_int _)⟩
  | tuple ys =>
    obtain ⟨hz, rfl⟩ := ite_some hg
    obtain ⟨a, xs, rfl, h, rr⟩ := o.tuple
    exact call_len pins s σ H _ us Q I rv ⟨_, ys.length, rfl, .inr ⟨xs, h, rr.length.symm⟩, q _ _ (new_int _)⟩
  | str z =>
    obtain ⟨hz, rfl⟩ := ite_some hg
    rw [o.str] at rv
    exact call_len pins s σ H _ us Q I rv ⟨_, z.length, rfl, ⟨szOk_le hz, rfl⟩, q _ _ (new_int _)⟩
  | dict kvs =>
    obtain ⟨hz, rfl⟩ := ite_some hg
    obtain ⟨a, ps, rfl, D⟩ := o.view
    obtain ⟨u, rfl, ru⟩ := vals1 rv
    cases ru
    exact d_len D I (q _ _ (new_int _))
  | _ => cases hg
theorem bi_abs (ok : XOk X) : CallR X (.builtin "abs") (rCl X.K (biD .abs)) := by
  rintro pins s σ H xs us Q I rv ⟨Y, ds, r, t, ho, hg, q⟩
  obtain ⟨d, rfl, hg⟩ := one_some hg
  obtain ⟨v, rfl, o⟩ := ho.one
  cases d with
  | int i =>
    cases hg
    rw [o.int] at rv
    exact call_abs pins s σ H _ us Q I rv ⟨i, rfl, q _ _ (new_int _)⟩
  | _ => cases hg
theorem bi_int (ok : XOk X) : CallR X (.type "int") (rCl X.K (biD .int)) := by
  rintro pins s σ H xs us Q I rv ⟨Y, ds, r, t, ho, hg, q⟩
  obtain ⟨d, rfl, hg⟩ := one_some hg
  obtain ⟨v, rfl, o⟩ := ho.one
  cases d with
  | int i =>
    cases hg
    rw [o.int] at rv
    exact call_int1 pins s σ H _ us Q I rv (.inl ⟨i, rfl, q _ _ (new_int _)⟩)
  | bool i =>
    cases hg
    rw [o.bl] at rv
    exact call_int1 pins s σ H _ us Q I rv (.inr ⟨i, rfl, q _ _ (new_int _)⟩)
  | _ => cases hg
theorem ints_vals : ∀ {ds : List PyData} {ns : List Int} {vs : List V}, ints? ds = some ns → RpA X.K Y H vs ds → vs = ns.map V.int
  | [], ns, _, h, r => by cases h; cases r; rfl
  | .int i :: ds, ns, _, h, r => by
    cases r with
    | cons a b =>
      cases a
      cases e : ints? ds with
      | none => rw [ints?, e] at h; cases h
      | some m =>
        rw [ints?, e] at h
        cases h
        rw [ints_vals e b]; rfl
  | .none :: _, _, _, h, _ => by cases h
  | .bool _ :: _, _, _, h, _ => by cases h
  | .str _ :: _, _, _, h, _ => by cases h
  | .list _ :: _, _, _, h, _ => by cases h
  | .tuple _ :: _, _, _, h, _ => by cases h
  | .dict _ :: _, _, _, h, _ => by cases h
theorem sum_tup (hh : X.A.handled = none) {a : Addr} {its : List Value} {ns : List Int} {Q : Value → Shared → Prop} {E : Value → Shared → Prop} (hl : s.heap.IsTuple a its.toArray) (hi : IntsAre its ns)
    (h : ∀ h' tk t', (∀ b o, s.heap.get? b = some o → h'.get? b = some o) → Q (.int ns.sum t') { s with heap := h', toks := tk }) : wpAny (model X.prog X.w) X.A (call (.builtin "sum") [.ref a]) Q E s := by
  obtain ⟨xs, e⟩ := hi.allInts.items
  have hn : numsOf (intItems xs).toList = ns := by rw [← e]; exact hi.numsOf
  rw [nums_intItems] at hn
  rw [e] at hl
  refine W.ktm_sumG hh hl fun h' tk t' hk => ?_
  have z := h h' tk t' hk
  rw [preSum_eq, List.take_of_length_le (by simp), hn]
  exact z
theorem bi_sum (ok : XOk X) : CallR X (.builtin "sum") (rCl X.K (biD .sum)) := by
  rintro pins s σ H xs us Q I rv ⟨Y, ds, r, t, ho, hg, q⟩
  obtain ⟨d, rfl, hg⟩ := one_some hg
  obtain ⟨v, rfl, o⟩ := ho.one
  obtain ⟨u, rfl, ru⟩ := vals1 rv
  obtain ⟨es, e, hg⟩ := ovS_some hg
  unfold sumL at hg
  cases e2 : ints? es with
  | none => rw [e2] at hg; cases hg
  | some ns =>
    rw [e2] at hg
    cases hg
    obtain ⟨a, ws, its, rfl, rfl, rr, rw', z, _, hl, _, _⟩ := op_seq o e I ru
    rw [ints_vals e2 rr] at rw'
    rcases hl with hl | hl
    · exact sum_raw (I.ok.hd ok.calm) hl rw'.ints fun h' tk t' hk => ⟨.int _, H, I.kept hk, ⟨_, rfl⟩, q _ _ (new_int _)⟩
    · exact sum_tup (I.ok.hd ok.calm) hl rw'.ints fun h' tk t' hk => ⟨.int _, H, I.kept hk, ⟨_, rfl⟩, q _ _ (new_int _)⟩
theorem self_alike {xs : List PyData} (h : selfAlike xs = true) : ∀ x ∈ xs, ∀ y ∈ xs, W.alike x y = true := fun x hx y hy =>
  List.all_eq_true.mp (List.all_eq_true.mp h x hx) y hy
theorem ord_all {xs : List PyData} (h : ordAll xs = true) : W.AlikeAll xs ∧ PyData.plainAll xs = true ∧ PyData.depthAll xs ≤ 30 := by
  unfold ordAll at h
  rw [Bool.and_eq_true, Bool.and_eq_true] at h
  have h2 := deeps_ok h.1.2
  refine ⟨⟨self_alike h.1.1, fun x hx z => ?_⟩, h2.1, h2.2⟩
  have := List.all_eq_true.mp h.2 x hx
  rw [z] at this
  cases this
/-- an item that is handed on -/
theorem pick_item {xs : List V} {its : List Value} {ds : List PyData} {i : Nat} {u : Value} {m : PyData} {h' : Heap} {bs : List Addr} (I : L2.Inv X pins σ H s) (rr : RpA X.K Y H xs ds) (rv : Vals xs its) (hp : PyData.plainAll ds = true)
    (k : ∀ b o, s.heap.get? b = some o → h'.get? b = some o) (hi : its.toArray[i]? = some u) (hm : Reads h' u m bs) : ∃ v, RelV v u ∧ Rp X.K Y H v m := by
  have hi : its[i]? = some u := by simpa using hi
  have hlt : i < xs.length := by
    rw [rv.length]
    exact (List.getElem?_eq_some_iff.mp hi).1
  obtain ⟨w, e1, r1⟩ := rv.get (List.getElem?_eq_getElem hlt)
  rw [hi] at e1
  cases e1
  obtain ⟨d, e2, r2⟩ := rr.at (List.getElem?_eq_getElem hlt)
  obtain ⟨as, r3⟩ := r2.reads I r1
  have e := SeqAt.plain_unique d m u as bs (W.plain_mem hp (List.mem_of_getElem? e2)) (PyProof.Rows.Reads.keeps k r3) hm
  subst e
  exact ⟨_, r1, r2⟩
theorem ints_ops : ∀ {ds : List PyData} {ns : List Int} {vs : List V}, ints? ds = some ns → OpA X.K Y H vs ds → vs = ns.map V.int
  | [], ns, _, h, r => by cases h; cases r; rfl
  | .int i :: ds, ns, _, h, r => by
    cases r with
    | cons a b =>
      have := a.int
      subst this
      cases e : ints? ds with
      | none => rw [ints?, e] at h; cases h
      | some m =>
        rw [ints?, e] at h
        cases h
        rw [ints_ops e b]; rfl
  | .none :: _, _, _, h, _ => by cases h
  | .bool _ :: _, _, _, h, _ => by cases h
  | .str _ :: _, _, _, h, _ => by cases h
  | .list _ :: _, _, _, h, _ => by cases h
  | .tuple _ :: _, _, _, h, _ => by cases h
  | .dict _ :: _, _, _, h, _ => by cases h
theorem ovI_some {f : List Int → Option Res} {ds : List PyData} {r : Res} (h : ovI f ds = some r) : ∃ ns, ints? ds = some ns ∧ f ns = some r := by
  unfold ovI at h
  cases e : ints? ds with
  | none => rw [e] at h; cases h
  | some xs => rw [e] at h; exact ⟨xs, rfl, h⟩
theorem minA_some {ds : List PyData} {r : Res} (h : minA ds = some r) : (∃ x, ds = [x] ∧ ovS minL x = some r) ∨ ovI minI ds = some r := by
  match ds, h with
  | [x], h => exact .inl ⟨x, rfl, h⟩
  | [], h => exact .inr h
  | _ :: _ :: _, h => exact .inr h
theorem maxA_some {ds : List PyData} {r : Res} (h : maxA ds = some r) : (∃ x, ds = [x] ∧ ovS maxL x = some r) ∨ ovI maxI ds = some r := by
  match ds, h with
  | [x], h => exact .inl ⟨x, rfl, h⟩
  | [], h => exact .inr h
  | _ :: _ :: _, h => exact .inr h
theorem int3 {i j k : Int} {us : List Value} (r : Vals [V.int i, V.int j, V.int k] us) : ∃ a b c, us = [Value.int i a, Value.int j b, Value.int k c] := by
  cases r with
  | cons r1 rv =>
    obtain ⟨u2, u3, rfl, r2, r3⟩ := vals2 rv
    obtain ⟨t1, rfl⟩ := r1
    obtain ⟨t2, rfl⟩ := r2
    obtain ⟨t3, rfl⟩ := r3
    exact ⟨t1, t2, t3, rfl⟩
theorem bi_min (ok : XOk X) : CallR X (.builtin "min") (rCl X.K (biD .min)) := by
  rintro pins s σ H xs us Q I rv ⟨Y, ds, r, t, ho, hg, q⟩
  have hun := ok.un
  rcases minA_some hg with ⟨d, rfl, hg⟩ | hg
  · obtain ⟨v, rfl, o⟩ := ho.one
    obtain ⟨u, rfl, ru⟩ := vals1 rv
    obtain ⟨es, e, hg⟩ := ovS_some hg
    cases es with
    | nil => cases hg
    | cons y ys =>
      obtain ⟨hz, rfl⟩ := ite_some hg
      obtain ⟨h1, h2, h3⟩ := ord_all hz
      obtain ⟨a, ws, its, rfl, rfl, rr, rw', z, ⟨as, ra⟩, hl, _, _⟩ := op_seq o e I ru
      have fin : ∀ (i : Nat) (u : Value) (h' : Heap) (tk : Nat) (bs : List Addr), its.toArray[i]? = some u → Reads h' u (W.minD y ys) bs → (∀ b o, s.heap.get? b = some o → h'.get? b = some o) → EP X pins σ Q u { s with heap := h', toks := tk } := fun i u h' tk bs hi hm k => by
        obtain ⟨w, r1, r2⟩ := pick_item I rr rw' h2 k hi hm
        exact ⟨w, H, I.kept k, r1, q _ _ (new_keep r2)⟩
      rcases hl with hl | hl
      · exact W.min_list_data (I.ok.hd ok.calm) hl (by simpa using ra) h1 (by omega) fin
      · exact W.min_tuple_data (I.ok.hd ok.calm) hl (by simpa using ra) h1 (by omega) fin
  · obtain ⟨ns, e, hg⟩ := ovI_some hg
    have ev := ints_ops e ho
    match ns, hg with
    | [i, j], hg =>
      cases hg
      rw [ev] at rv
      exact call_min2 ok.calm pins s σ H _ us Q I rv ⟨i, j, rfl, q _ _ (new_int _)⟩
    | [i, j, k], hg =>
      cases hg
      rw [ev] at rv
      obtain ⟨t1, t2, t3, rfl⟩ := int3 rv
      refine PySem.min_three_ints (I.ok.hd ok.calm) fun h' tk k' => ⟨_, H, I.kept k', ?_, q _ _ (new_int _)⟩
      by_cases h1 : j < i
      · by_cases h2 : k < j
        · rw [if_pos h1, if_pos h2, if_pos h1, if_pos h2]; exact ⟨_, rfl⟩
        · rw [if_pos h1, if_neg h2, if_pos h1, if_neg h2]; exact ⟨_, rfl⟩
      · by_cases h2 : k < i
        · rw [if_neg h1, if_pos h2, if_neg h1, if_pos h2]; exact ⟨_, rfl⟩
        · rw [if_neg h1, if_neg h2, if_neg h1, if_neg h2]; exact ⟨_, rfl⟩
    | [], hg => cases hg
    | [_], hg => cases hg
    | _ :: _ :: _ :: _ :: _, hg => cases hg
theorem bi_max (ok : XOk X) : CallR X (.builtin "max") (rCl X.K (biD .max)) := by
  rintro pins s σ H xs us Q I rv ⟨Y, ds, r, t, ho, hg, q⟩
  have hun := ok.un
  rcases maxA_some hg with ⟨d, rfl, hg⟩ | hg
  · obtain ⟨v, rfl, o⟩ := ho.one
    obtain ⟨u, rfl, ru⟩ := vals1 rv
    obtain ⟨es, e, hg⟩ := ovS_some hg
    cases es with
    | nil => cases hg
    | cons y ys =>
      obtain ⟨hz, rfl⟩ := ite_some hg
      obtain ⟨h1, h2, h3⟩ := ord_all hz
      obtain ⟨a, ws, its, rfl, rfl, rr, rw', z, ⟨as, ra⟩, hl, _, _⟩ := op_seq o e I ru
      have fin : ∀ (i : Nat) (u : Value) (h' : Heap) (tk : Nat) (bs : List Addr), its.toArray[i]? = some u → Reads h' u (W.maxD y ys) bs → (∀ b o, s.heap.get? b = some o → h'.get? b = some o) → EP X pins σ Q u { s with heap := h', toks := tk } := fun i u h' tk bs hi hm k => by
        obtain ⟨w, r1, r2⟩ := pick_item I rr rw' h2 k hi hm
        exact ⟨w, H, I.kept k, r1, q _ _ (new_keep r2)⟩
      rcases hl with hl | hl
      · exact W.max_list_data (I.ok.hd ok.calm) hl (by simpa using ra) h1 (by omega) fin
      · exact W.max_tuple_data (I.ok.hd ok.calm) hl (by simpa using ra) h1 (by omega) fin
  · obtain ⟨ns, e, hg⟩ := ovI_some hg
    have ev := ints_ops e ho
    match ns, hg with
    | [i, j], hg =>
      cases hg
      rw [ev] at rv
      exact call_max2 ok.calm pins s σ H _ us Q I rv ⟨i, j, rfl, q _ _ (new_int _)⟩
    | [i, j, k], hg =>
      cases hg
      rw [ev] at rv
      obtain ⟨t1, t2, t3, rfl⟩ := int3 rv
      refine PySem.max_three_ints (I.ok.hd ok.calm) fun h' tk k' => ⟨_, H, I.kept k', ?_, q _ _ (new_int _)⟩
      by_cases h1 : j > i
      · by_cases h2 : k > j
        · rw [if_pos h1, if_pos h2, if_pos h1, if_pos h2]; exact ⟨_, rfl⟩
        · rw [if_pos h1, if_neg h2, if_pos h1, if_neg h2]; exact ⟨_, rfl⟩
      · by_cases h2 : k > i
        · rw [if_neg h1, if_pos h2, if_neg h1, if_pos h2]; exact ⟨_, rfl⟩
        · rw [if_neg h1, if_neg h2, if_neg h1, if_neg h2]; exact ⟨_, rfl⟩
    | [], hg => cases hg
    | [_], hg => cases hg
    | _ :: _ :: _ :: _ :: _, hg => cases hg
theorem plain_truths {xs : List PyData} (h : xs.all plainTruth = true) : PyData.plainAll xs = true ∧ ∀ x ∈ xs, x.fits63 := by
  induction xs with
  | nil => exact ⟨rfl, fun _ z => nomatch z⟩
  | cons x xs ih =>
    rw [List.all_cons, Bool.and_eq_true] at h
    obtain ⟨i1, i2⟩ := ih h.2
    refine ⟨?_, fun y hy => ?_⟩
    · rw [PyData.plainAll, i1, Bool.and_true]
      cases x <;> first | rfl | exact absurd h.1 (by simp [plainTruth])
    · rcases List.mem_cons.mp hy with rfl | hy
      · cases y <;> first | trivial | exact absurd h.1 (by simp [plainTruth])
      · exact i2 y hy
theorem bi_all (ok : XOk X) : CallR X (.builtin "all") (rCl X.K (biD .all)) := by
  rintro pins s σ H xs us Q I rv ⟨Y, ds, r, t, ho, hg, q⟩
  obtain ⟨d, rfl, hg⟩ := one_some hg
  obtain ⟨v, rfl, o⟩ := ho.one
  obtain ⟨u, rfl, ru⟩ := vals1 rv
  obtain ⟨es, e, hg⟩ := ovS_some hg
  obtain ⟨hz, rfl⟩ := ite_some hg
  obtain ⟨h1, h2⟩ := plain_truths hz
  obtain ⟨a, ws, its, rfl, rfl, rr, rw', z, ⟨as, ra⟩, hl, _, _⟩ := op_seq o e I ru
  rcases hl with hl | hl
  · exact W.all_list_data (I.ok.hd ok.calm) hl (by simpa using ra) h1 h2 fun h' tk k => ⟨.bl _, H, I.kept k, rfl, q _ _ (new_bl _)⟩
  · exact W.all_tuple_data (I.ok.hd ok.calm) hl (by simpa using ra) h1 h2 fun h' tk k => ⟨.bl _, H, I.kept k, rfl, q _ _ (new_bl _)⟩
theorem bi_any (ok : XOk X) : CallR X (.builtin "any") (rCl X.K (biD .any)) := by
  rintro pins s σ H xs us Q I rv ⟨Y, ds, r, t, ho, hg, q⟩
  obtain ⟨d, rfl, hg⟩ := one_some hg
  obtain ⟨v, rfl, o⟩ := ho.one
  obtain ⟨u, rfl, ru⟩ := vals1 rv
  obtain ⟨es, e, hg⟩ := ovS_some hg
  obtain ⟨hz, rfl⟩ := ite_some hg
  obtain ⟨h1, h2⟩ := plain_truths hz
  obtain ⟨a, ws, its, rfl, rfl, rr, rw', z, ⟨as, ra⟩, hl, _, _⟩ := op_seq o e I ru
  rcases hl with hl | hl
  · exact W.any_list_data (I.ok.hd ok.calm) hl (by simpa using ra) h1 h2 fun h' tk k => ⟨.bl _, H, I.kept k, rfl, q _ _ (new_bl _)⟩
  · exact W.any_tuple_data (I.ok.hd ok.calm) hl (by simpa using ra) h1 h2 fun h' tk k => ⟨.bl _, H, I.kept k, rfl, q _ _ (new_bl _)⟩
theorem bi_list (ok : XOk X) : CallR X (.type "list") (rCl X.K (biD .list)) := by
  rintro pins s σ H xs us Q I rv ⟨Y, ds, r, t, ho, hg, q⟩
  obtain ⟨d, rfl, hg⟩ := one_some hg
  obtain ⟨v, rfl, o⟩ := ho.one
  obtain ⟨es, e, hg⟩ := ovS_some hg
  cases hg
  cases d with
  | list ys =>
    cases e
    obtain ⟨a, xs, rfl, h, rr⟩ := o.list
    exact call_list_of pins s σ H _ us Q I rv ⟨a, xs, rfl, .inl h, fun l hl => q _ _ (new_lst hl rr)⟩
  | tuple ys =>
    cases e
    obtain ⟨a, xs, rfl, h, rr⟩ := o.tuple
    exact call_list_of pins s σ H _ us Q I rv ⟨a, xs, rfl, .inr h, fun l hl => q _ _ (new_lst hl rr)⟩
  | _ => cases e
theorem bi_tuple (ok : XOk X) : CallR X (.type "tuple") (rCl X.K (biD .tuple)) := by
  rintro pins s σ H xs us Q I rv ⟨Y, ds, r, t, ho, hg, q⟩
  obtain ⟨d, rfl, hg⟩ := one_some hg
  obtain ⟨v, rfl, o⟩ := ho.one
  obtain ⟨es, e, hg⟩ := ovS_some hg
  cases hg
  cases d with
  | list ys =>
    cases e
    obtain ⟨a, xs, rfl, h, rr⟩ := o.list
    exact call_tuple_of pins s σ H _ us Q I rv ⟨a, xs, rfl, .inl ⟨h, fun l hl => q _ _ (new_tup t hl rr)⟩⟩
  | tuple ys =>
    cases e
    have hr := o.tupRp
    obtain ⟨a, xs, rfl, h, rr⟩ := o.tuple
    exact call_tuple_of pins s σ H _ us Q I rv ⟨a, xs, rfl, .inr ⟨h, q _ _ (new_keep hr)⟩⟩
  | _ => cases e
theorem each_rp : ∀ {xs : List V} {its : List Value} {ds : List PyData}, RpA X.K Y H xs ds → Vals xs its → PySem.W.EachIs (fun u d => ∃ x, RelV x u ∧ Rp X.K Y H x d) its ds
  | _, _, _, .nil, .nil => .nil
  | _, _, _, .cons a b, .cons r rs => .cons ⟨_, r, a⟩ (each_rp b rs)
theorem rp_each : ∀ {its : List Value} {ds : List PyData}, PySem.W.EachIs (fun u d => ∃ x, RelV x u ∧ Rp X.K Y H x d) its ds → ∃ xs : List V, Vals xs its ∧ RpA X.K Y H xs ds
  | _, _, .nil => ⟨[], .nil, .nil⟩
  | _, _, .cons ⟨x, r, a⟩ b => by
    obtain ⟨xs, rs, b'⟩ := rp_each b
    exact ⟨x :: xs, .cons r rs, .cons a b'⟩
theorem each_reads (I : L2.Inv X pins σ H s) : ∀ {xs : List V} {its : List Value} {ds : List PyData}, RpA X.K Y H xs ds → Vals xs its → PySem.W.EachIs (fun u d => ∃ as, Reads s.heap u d as) its ds
  | _, _, _, .nil, .nil => .nil
  | _, _, _, .cons a b, .cons r rs => .cons (a.reads I r) (each_reads I b rs)
theorem sort_kind {xs : List PyData} (h : sortKind xs = true) : W.Sortable xs := by
  unfold sortKind at h
  rw [Bool.or_eq_true] at h
  rcases h with h | h
  · refine .inl fun d hd => ?_
    have := List.all_eq_true.mp h d hd
    cases d with
    | tuple ys =>
      cases ys with
      | nil => cases this
      | cons y ys => exact ⟨y, ys, rfl⟩
    | _ => cases this
  · refine .inr fun d hd => ?_
    have := List.all_eq_true.mp h d hd
    cases d with
    | tuple ys => cases this
    | none => cases this
    | _ => exact ⟨(fun z => nomatch z), (fun _ z => nomatch z)⟩
theorem depth_mem : ∀ {xs : List PyData} {x : PyData}, x ∈ xs → x.depth ≤ PyData.depthAll xs
  | y :: ys, x, h => by
    rw [PyData.depthAll]
    rcases List.mem_cons.mp h with rfl | h
    · exact Nat.le_max_left _ _
    · exact Nat.le_trans (depth_mem h) (Nat.le_max_right _ _)
theorem es_keys {es : Array DictEntry} {acc : Array Value} (h : ItemsOf (fun i v => ∃ hi : i < es.size, v = es[i].key) acc es.size) : acc.toList = es.toList.map (·.key) := by
  refine List.ext_getElem? fun j => ?_
  rw [Array.getElem?_toList, List.getElem?_map, Array.getElem?_toList]
  by_cases hj : j < es.size
  · have hz : j < acc.size := by rw [h.1]; exact hj
    obtain ⟨_, e⟩ := h.2 j acc[j] (Array.getElem?_eq_getElem hz)
    rw [Array.getElem?_eq_getElem hz, Array.getElem?_eq_getElem hj, e]; rfl
  · rw [Array.getElem?_eq_none (by rw [h.1]; omega), Array.getElem?_eq_none (by omega)]; rfl
/-- sorted(d), by the raw entries -/
theorem sorted_rawd {a : Addr} {es : Array DictEntry} {ep : Nat} {Q : Value → Shared → Prop} {E : Value → Shared → Prop} (lo : (a == sysModules) = false) (hm : s.heap.DictRaw a es ep) (hh : X.A.handled = none) (hn : es.size ≤ sizeLine)
    (h : ∀ (h' : Heap) (tk : Nat), (∀ b o, s.heap.get? b = some o → h'.get? b = some o) →
      wpAny (model X.prog X.w) X.A.in1 (call (.builtin "list.sort") [.ref h'.objs.size]) (fun _ s' => Q (.ref h'.objs.size) s') E { s with heap := h'.push { cls := .type "list", data := .seq (es.toList.map (·.key)).toArray }, toks := tk }) :
    wpAny (model X.prog X.w) X.A (call (.builtin "sorted") [.ref a]) Q E s := by
  refine Calls.call_function_entry kind_sorted plain_sorted entry_sorted (args_sorted1 _) ?_
  unfold Builtin.«sorted»
  refine wpAny_bind (m := checkCount "sorted" 1 1 _) (wpAny_pure ?_)
  refine wpAny_bind (W.kdu_collect (A := X.A.in1) (KdlSrc.rawDict lo) hh hm hn fun h' tk acc hk hacc => ?_)
  have hl : acc.toList = es.toList.map (·.key) := es_keys hacc
  refine wpAny_bind (wpAny_newList ?_ (by rw [hl, List.length_map, Array.length_toList]; exact hn))
  have hg := h h' tk hk
  rw [← hl] at hg
  refine wpAny_bind (wpAny_holding (wpAny_mono hg (fun _ s' x => ?_) fun _ _ e => e))
  exact wpAny_pure ⟨_, rfl, x⟩
theorem each_mono {α β : Type} {R S : α → β → Prop} (f : ∀ a b, R a b → S a b) {xs : List α} {ys : List β} (h : PySem.W.EachIs R xs ys) : PySem.W.EachIs S xs ys := h.mono f
theorem tup0_shape {es : List PyData} (h : tup0 es = true) : ∃ ys, es = .tuple [] :: ys ∧ ∀ d ∈ ys, ∃ xs, d = .tuple xs := by
  unfold tup0 at h
  split at h
  · refine ⟨_, rfl, fun d hd => ?_⟩
    have := List.all_eq_true.mp h d hd
    cases d with
    | tuple xs => exact ⟨xs, rfl⟩
    | _ => cases this
  · cases h
/-- sorted(t) of a tuple -/
theorem sorted_tupS {a : Addr} {o : Obj} {its : Array Value} {n : Nat} {Q : Value → Shared → Prop} {E : Value → Shared → Prop} (ho : s.heap.get? a = some o) (hc : o.cls = .type "tuple") (hd : o.data = .seq its n) (hn : its.size ≤ sizeLine)
    (h : ∀ (h' : Heap), (∀ b o, s.heap.get? b = some o → h'.get? b = some o) →
      wpAny (model X.prog X.w) X.A.in1 (call (.builtin "list.sort") [.ref h'.objs.size]) (fun _ s' => Q (.ref h'.objs.size) s') E { s with heap := h'.push { cls := .type "list", data := .seq its.toList.toArray } }) :
    wpAny (model X.prog X.w) X.A (call (.builtin "sorted") [.ref a]) Q E s := by
  refine Calls.call_function_entry kind_sorted plain_sorted entry_sorted (args_sorted1 _) ?_
  unfold Builtin.«sorted»
  refine wpAny_bind (m := checkCount "sorted" 1 1 _) (wpAny_pure ?_)
  refine wpAny_bind (wpAny_collect_seq a (.inr rfl) ho hc hd (fun h' hk => ?_) hn)
  refine wpAny_bind (wpAny_newList ?_ (by rw [Array.length_toList]; exact hn))
  have hg := h h' hk
  refine wpAny_bind (wpAny_holding (wpAny_mono hg (fun _ s' x => ?_) fun _ _ e => e))
  exact wpAny_pure ⟨_, rfl, x⟩
theorem bi_sorted (ok : XOk X) : CallR X (.builtin "sorted") (rCl X.K (biD .sorted)) := by
  rintro pins s σ H xs us Q I rv ⟨Y, ds, r, t, ho, hg, q⟩
  have hun := ok.un
  obtain ⟨d, rfl, hg⟩ := one_some hg
  obtain ⟨v, rfl, o⟩ := ho.one
  cases d with
  | list es =>
    obtain ⟨hz, rfl⟩ := ite_some hg
    rw [Bool.and_eq_true, Bool.and_eq_true, Bool.and_eq_true] at hz
    obtain ⟨⟨⟨h1, h2⟩, h3⟩, h4⟩ := hz
    have h2 := deeps_ok h2
    obtain ⟨u, rfl, ru⟩ := vals1 rv
    obtain ⟨a, ws, its, rfl, rfl, rr, rw', z, _, _, hl, _⟩ := op_seq o rfl I ru
    rw [sortD_merge] at q
    by_cases h5 : sortKind es = true
    case neg =>
      have h3 : tup0 es = true := by simpa [h5] using h3
      obtain ⟨ys, rfl, ht⟩ := tup0_shape h3
      · refine sorted_tup0 (R := fun u d => ∃ x, RelV x u ∧ Rp X.K Y H x d) (hl rfl) (each_rp rr rw') (each_reads I rr rw') (self_alike h1) ht (szOk_le h4) (fun b hb => ?_) fun out ho' e => ?_
        · have := depth_mem hb
          omega
        · obtain ⟨zs, r1, r2⟩ := rp_each e
          obtain ⟨n, hn⟩ := sortedAll_at s.heap its out.toArray
          have hlen := r1.length
          have hs := szOk_le h4
          rw [List.length_cons] at hs
          refine ⟨.ref (s.heap.objs.size + 1), _, I.laid (t' := s.toks) (o := .lst zs) (fun b o' h => sortedAll_old h) (Nat.le_succ _) ⟨by omega, out, n, r1, hn⟩, rfl, q _ _ (new_lst (I.hok.fresh (Nat.le_succ _)) r2)⟩
    have h3 := h5
    refine W.sorted_data (enc := fun d => d) (bs := es) (R := fun u d => ∃ x, RelV x u ∧ Rp X.K Y H x d) (hl rfl) (each_rp rr rw') (each_reads I rr rw') (by rw [List.map_id']; exact self_alike h1) (by rw [List.map_id']; exact sort_kind h3) (szOk_le h4) (fun b hb => ?_) fun out ho' e => ?_
    · have := depth_mem hb
      omega
    · obtain ⟨ys, r1, r2⟩ := rp_each e
      obtain ⟨n, hn⟩ := sortedAll_at s.heap its out.toArray
      have hlen := r1.length
      have hs := szOk_le h4
      refine ⟨.ref (s.heap.objs.size + 1), _, I.laid (t' := s.toks) (o := .lst ys) (fun b o' h => sortedAll_old h) (Nat.le_succ _) ⟨by omega, out, n, r1, hn⟩, rfl, q _ _ (new_lst (I.hok.fresh (Nat.le_succ _)) r2)⟩
  | dict kvs =>
    obtain ⟨hz, rfl⟩ := ite_some (show (if (selfAlike (kvs.map (·.1)) && deepOks (kvs.map (·.1)) && sortKind (kvs.map (·.1)) && szOk (kvs.map (·.1)).length) = true then _ else none) = some r from hg)
    rw [Bool.and_eq_true, Bool.and_eq_true, Bool.and_eq_true] at hz
    obtain ⟨⟨⟨h1, h2⟩, h3⟩, h4⟩ := hz
    have h2 := deeps_ok h2
    obtain ⟨u, rfl, ru⟩ := vals1 rv
    obtain ⟨a, ps, rfl, D⟩ := o.view
    cases ru
    rw [sortD_merge] at q
    obtain ⟨es, ep, hr, pe, z1, z2, _⟩ := D.sizes I
    have rk := (ent_keys pe).1
    have hlen := rk.length
    have hs := szOk_le h4
    rw [List.length_map] at hs
    refine sorted_rawd D.at'.sys hr (I.ok.hd ok.calm) (by omega) fun h' tk hk => ?_
    have hD : s.heap.get? h'.objs.size = none := by
      cases q : s.heap.get? h'.objs.size with
      | none => rfl
      | some u => exact absurd (Heap.lt_size (hk _ _ q)) (Nat.lt_irrefl _)
    have I1 : L2.Inv X pins σ H { s with heap := h', toks := tk } := I.kept hk
    have hH : H h'.objs.size = none := I1.hok.fresh (Nat.le_refl _)
    have here : (h'.push { cls := .type "list", data := .seq (es.toList.map (·.key)).toArray }).get? h'.objs.size = some (seqObj "list" (es.toList.map (·.key)).toArray 0) := Heap.get?_push_size _ rfl
    refine W.list_sort_data (enc := fun d => d) (bs := kvs.map (·.1)) (R := fun u d => ∃ x, RelV x u ∧ Rp X.K Y H x d) here (each_rp D.ra rk) (each_mono (fun v b ⟨as, r⟩ => ⟨as, PyProof.Rows.Reads.keeps (fun b o e => Heap.get?_push_of_some _ (hk b o e)) r, fun z => by
      obtain ⟨o, e⟩ := PyProof.On.reads_mem_get r _ z
      rw [hD] at e; cases e⟩) (each_reads I D.ra rk)) (by rw [List.map_id']; exact self_alike h1) (by rw [List.map_id']; exact sort_kind h3) (szOk_le h4) (fun b hb => ?_) fun out ho' e => ?_
    · have := depth_mem hb
      show X.A.units + 1 + 1 + b.depth < cLine
      omega
    · obtain ⟨ys, r1, r2⟩ := rp_each e
      obtain ⟨n, hn⟩ := sortedHeap_at (vs := es.toList.map (·.key)) (out := out.toArray) here
      have hlen := r1.length
      have hs := szOk_le h4
      refine ⟨.ref h'.objs.size, _, I.laidN (a := h'.objs.size) (o := .lst ys) (fun b o' q => ?_) hD hH ⟨by omega, out, n, r1, hn⟩, rfl, q _ _ (new_lst hH r2)⟩
      have hb : b ≠ h'.objs.size := fun z => by rw [z, hD] at q; cases q
      rw [sortedHeap_old hb (by rw [size_push']; exact Nat.lt_succ_of_lt (Heap.lt_size (hk _ _ q)))]
      exact Heap.get?_push_of_some _ (hk _ _ q)
  | tuple es =>
    obtain ⟨hz, rfl⟩ := ite_some (show (if (selfAlike es && deepOks es && sortKind es && szOk es.length) = true then _ else none) = some r from hg)
    rw [Bool.and_eq_true, Bool.and_eq_true, Bool.and_eq_true] at hz
    obtain ⟨⟨⟨h1, h2⟩, h3⟩, h4⟩ := hz
    have h2 := deeps_ok h2
    obtain ⟨u, rfl, ru⟩ := vals1 rv
    obtain ⟨a, ws, its, rfl, rfl, rr, rw', z, _, hlen0, _, hT⟩ := op_seq o rfl I ru
    rw [sortD_merge] at q
    have hs := szOk_le h4
    obtain ⟨o0, ho, hc, n, hd⟩ := hT rfl
    have hlen := rw'.length
    have hle : ws.length = es.length := rr.length
    refine sorted_tupS ho hc hd (by rw [List.size_toArray]; omega) fun h' hk => ?_
    have hD : s.heap.get? h'.objs.size = none := by
      cases q : s.heap.get? h'.objs.size with
      | none => rfl
      | some u => exact absurd (Heap.lt_size (hk _ _ q)) (Nat.lt_irrefl _)
    have I1 : L2.Inv X pins σ H { s with heap := h' } := I.kept (t' := s.toks) hk
    have hH : H h'.objs.size = none := I1.hok.fresh (Nat.le_refl _)
    have here : (h'.push { cls := .type "list", data := .seq its.toArray.toList.toArray }).get? h'.objs.size = some (seqObj "list" its.toArray 0) := Heap.get?_push_size _ rfl
    refine W.list_sort_data (enc := fun d => d) (bs := es) (vs := its) (R := fun u d => ∃ x, RelV x u ∧ Rp X.K Y H x d) here (each_rp rr rw') (each_mono (fun v b ⟨as, r⟩ => ⟨as, PyProof.Rows.Reads.keeps (fun b o e => Heap.get?_push_of_some _ (hk b o e)) r, fun z => by
      obtain ⟨o, e⟩ := PyProof.On.reads_mem_get r _ z
      rw [hD] at e; cases e⟩) (each_reads I rr rw')) (by rw [List.map_id']; exact self_alike h1) (by rw [List.map_id']; exact sort_kind h3) (szOk_le h4) (fun b hb => ?_) fun out ho' e => ?_
    · have := depth_mem hb
      show X.A.units + 1 + 1 + b.depth < cLine
      omega
    · obtain ⟨ys, r1, r2⟩ := rp_each e
      obtain ⟨n, hn⟩ := sortedHeap_at (vs := its) (out := out.toArray) here
      have hlen := r1.length
      have hs := szOk_le h4
      refine ⟨.ref h'.objs.size, _, I.laidN (a := h'.objs.size) (o := .lst ys) (fun b o' q => ?_) hD hH ⟨by omega, out, n, r1, hn⟩, rfl, q _ _ (new_lst hH r2)⟩
      have hb : b ≠ h'.objs.size := fun z => by rw [z, hD] at q; cases q
      rw [sortedHeap_old hb (by rw [size_push']; exact Nat.lt_succ_of_lt (Heap.lt_size (hk _ _ q)))]
      exact Heap.get?_push_of_some _ (hk _ _ q)
  | _ => cases hg
end
end PL

set_option autoImplicit false
set_option linter.all false
set_option Elab.async false
set_option maxRecDepth 100000
set_option maxHeartbeats 1000000
/-! PL6: expressions. -/
namespace PL
open PySem PySem.Spec PyProof.Rows L2
variable [TabL]

/-- an operand that waits -/
def Held (K : PySem.W.Frag) (Z : Addr → Prop) (ρ : PL.Env) (σ : L2.St) (H : Hp) (v : V) : Res → Prop
  | .val d => Rp K (Fb Z ρ σ) H v d
  | .fresh d => ∃ a, v = .ref a ∧ ¬ HotAt ρ σ a ∧ Own K (Fb Z ρ σ) H a d
  | .ref i => σ[i]? = some (some v)
inductive HeldA (K : PySem.W.Frag) (Z : Addr → Prop) (ρ : PL.Env) (σ : L2.St) (H : Hp) : List V → List Res → Prop
  | nil : HeldA K Z ρ σ H [] []
  | cons {v : V} {vs : List V} {r : Res} {rs : List Res} : Held K Z ρ σ H v r → HeldA K Z ρ σ H vs rs → HeldA K Z ρ σ H (v :: vs) (r :: rs)
section
variable {K : PySem.W.Frag} {B Z : Addr → Prop} {ρ ρ1 ρ2 : PL.Env} {σ : L2.St} {H H1 H2 : Hp} {v : V} {r : Res}
theorem PostR.held (p : PostR K B Z ρ σ H v r) : Held K Z ρ σ H v r := by
  cases r with
  | val d => exact p.2
  | fresh d =>
    obtain ⟨a, e, n, _, c, o⟩ := p
    exact ⟨a, e, c.nhot (.inl rfl), o.move Keeps.refl (fun b z => plus_fb (.inr z)) fun u e _ => e⟩
  | ref i => exact p.1
theorem Held.move (h : Held K Z ρ1 σ H1 v r) (q : PostX K B Z ρ1 ρ2 σ H1 H2) : Held K Z ρ2 σ H2 v r := by
  cases r with
  | val d => exact Rp.move (keep_fb q.keep) (fb_sub q.sub) h
  | fresh d =>
    obtain ⟨a, e, n, o⟩ := h
    exact ⟨a, e, fun z => n (q.sub a z), o.move (keep_fb q.keep) (fb_sub q.sub) fun u e t => q.keep.old a u e t n⟩
  | ref i => exact h
theorem HeldA.move (q : PostX K B Z ρ1 ρ2 σ H1 H2) : ∀ {vs : List V} {rs : List Res}, HeldA K Z ρ1 σ H1 vs rs → HeldA K Z ρ2 σ H2 vs rs
  | _, _, .nil => .nil
  | _, _, .cons a b => .cons (a.move q) (b.move q)
theorem Held.op {d : PyData} (h : Held K Z ρ σ H v r) (C : Conc K B Z ρ σ H) (e : peek ρ r = some d) : Op K (Fb Z ρ σ) H v d := by
  cases r with
  | val d' => cases e; exact .rp h
  | fresh d' =>
    cases e
    obtain ⟨a, rfl, _, o⟩ := h
    exact .own o
  | ref i =>
    unfold peek gets at e
    dsimp only at e
    have hv : σ[i]? = some (some v) := h
    cases h : ρ[i]? with
    | none => rw [h] at e; cases e
    | some s =>
      rw [h] at e
      cases s with
      | no => cases e
      | c d' =>
        cases e
        obtain ⟨w, e1, rr⟩ := C.cold i d h
        rw [hv] at e1
        cases e1
        exact .rp rr
      | h io d' =>
        cases e
        obtain ⟨a, e1, n, _, o⟩ := C.hot i io d h
        rw [hv] at e1
        cases e1
        exact .own o
theorem HeldA.op (C : Conc K B Z ρ σ H) : ∀ {vs : List V} {rs : List Res} {ds : List PyData}, HeldA K Z ρ σ H vs rs → peeks ρ rs = some ds → OpA K (Fb Z ρ σ) H vs ds
  | _, _, ds, .nil, e => by cases e; exact .nil
  | v :: vs, r :: rs, ds, .cons a b, e => by
    unfold peeks at e
    cases h1 : peek ρ r with
    | none => rw [h1] at e; cases e
    | some d =>
      cases h2 : peeks ρ rs with
      | none => rw [h1, h2] at e; cases e
      | some es =>
        rw [h1, h2] at e
        cases e
        exact .cons (a.op C h1) (b.op C h2)

theorem gets_some {i : Nat} {s : Slot} (e : gets ρ i = s) (n : s ≠ .no) : ρ[i]? = some s := by
  unfold gets at e
  cases h : ρ[i]? with
  | none => rw [h] at e; exact absurd e.symm n
  | some t => rw [h] at e; rw [← e]; rfl
theorem set_get {i j : Nat} {s t : Slot} (h : (ρ.set i s)[j]? = some t) : (i = j ∧ s = t) ∨ (i ≠ j ∧ ρ[j]? = some t) := by
  by_cases e : i = j
  · subst e
    by_cases l : i < ρ.length
    · rw [List.getElem?_set_self l] at h
      exact .inl ⟨rfl, Option.some.inj h⟩
    · rw [List.getElem?_eq_none (by rw [List.length_set]; omega)] at h
      cases h
  · rw [List.getElem?_set_ne e] at h
    exact .inr ⟨e, h⟩
theorem hot_set_c {i : Nat} {d : PyData} {a : Addr} (h : HotAt (ρ.set i (.c d)) σ a) : HotAt ρ σ a := by
  obtain ⟨j, io, e, h1, h2⟩ := h
  rcases set_get h1 with ⟨_, z⟩ | ⟨_, z⟩
  · cases z
  · exact ⟨j, io, e, z, h2⟩
theorem sub_set_c {i : Nat} {d : PyData} : Sub ρ (ρ.set i (.c d)) := fun j io e h => by
  rcases set_get h with ⟨_, z⟩ | ⟨_, z⟩
  · cases z
  · exact ⟨e, z⟩
/-- one's own thing is given up -/
theorem Conc.freeze (C : Conc K B Z ρ σ H) {i : Nat} {io : Bool} {d : PyData} (h : ρ[i]? = some (.h io d)) : Conc K B Z (ρ.set i (.c d)) σ H ∧ ∀ v, σ[i]? = some (some v) → Rp K (Fb Z (ρ.set i (.c d)) σ) H v d := by
  have sub : ∀ a, HotAt (ρ.set i (.c d)) σ a → HotAt ρ σ a := fun a => hot_set_c
  have key : ∀ v, σ[i]? = some (some v) → Rp K (Fb Z (ρ.set i (.c d)) σ) H v d := fun v hv => by
    obtain ⟨a, e1, n, _, o⟩ := C.hot i io d h
    rw [hv] at e1
    cases e1
    refine o.rp (fb_sub sub) fun z => ?_
    rcases z with z | ⟨j, io', d', z1, z2⟩
    · exact n z
    · rcases set_get z1 with ⟨_, z⟩ | ⟨ne, z⟩
      · cases z
      · exact ne (C.inj i j io io' d d' a h z hv z2)
  refine ⟨⟨fun j e hj => ?_, fun j io' e hj => ?_, fun j k io1 io2 d1 d2 a h1 h2 => ?_, C.tr, C.trB, by rw [List.length_set]; exact C.len, C.tabs⟩, key⟩
  · rcases set_get hj with ⟨rfl, z⟩ | ⟨ne, z⟩
    · cases z
      obtain ⟨a, e1, _⟩ := C.hot i io d h
      exact ⟨_, e1, key _ e1⟩
    · obtain ⟨w, e1, rr⟩ := C.cold j e z
      exact ⟨w, e1, rr.less (fb_sub sub)⟩
  · rcases set_get hj with ⟨_, z⟩ | ⟨ne, z⟩
    · cases z
    · obtain ⟨a, e1, n, b, o⟩ := C.hot j io' e z
      exact ⟨a, e1, n, b, o.move Keeps.refl (fb_sub sub) fun u e _ => e⟩
  · rcases set_get h1 with ⟨_, z⟩ | ⟨_, z1⟩
    · cases z
    · rcases set_get h2 with ⟨_, z⟩ | ⟨_, z2⟩
      · cases z
      · exact C.inj j k io1 io2 d1 d2 a z1 z2
theorem cold_ok {ρ' : PL.Env} {d : PyData} (p : PostR K B Z ρ σ H v r) (e : PL.cold ρ r = .ok d ρ') : PostX K B Z ρ ρ' σ H H ∧ Rp K (Fb Z ρ' σ) H v d := by
  have C := p.conc
  cases r with
  | val d' => cases e; exact ⟨.refl C, p.2⟩
  | fresh d' =>
    cases e
    obtain ⟨a, rfl, n, _, c, o⟩ := p
    exact ⟨.refl C, o.rp (fun b z => plus_fb (.inr z)) fun z => z.elim n (c.nhot (.inl rfl))⟩
  | ref i =>
    obtain ⟨hv, _⟩ := p
    unfold PL.cold at e
    dsimp only at e
    cases h : gets ρ i with
    | no => rw [h] at e; cases e
    | c d' =>
      rw [h] at e
      cases e
      obtain ⟨w, e1, rr⟩ := C.cold i d (gets_some h (by intro z; cases z))
      rw [hv] at e1
      cases e1
      exact ⟨.refl C, rr⟩
    | h io d' =>
      rw [h] at e
      cases e
      obtain ⟨C', k⟩ := C.freeze (gets_some h (by intro z; cases z))
      exact ⟨⟨Keeps.refl, sub_set_c, C'⟩, k v hv⟩
theorem cold_exc {c : Str} {ρ' : PL.Env} (e : PL.cold ρ r = .exc c ρ') : False := by
  cases r with
  | val d' => cases e
  | fresh d' => cases e
  | ref i =>
    unfold PL.cold at e
    dsimp only at e
    cases h : gets ρ i <;> rw [h] at e <;> cases e
end

/-! ### lists of operands -/
def tSA (K : PySem.W.Frag) (Wx : WX) (f : PL.Env → Out (List Res)) : TA := fun σ H Q => ∃ B Z ρ, Conc K B Z ρ σ H ∧ tOut (f ρ) (fun rs ρ' => ∀ vs H', PostX K B Z ρ ρ' σ H H' → HeldA K Z ρ' σ H' vs rs → Q vs H') (Gx K Wx B Z ρ σ H)
def SA (X : Cx) (Wx : WX) (es : List Expr) (f : PL.Env → Out (List Res)) : Prop := PA X es (tSA X.K Wx f)
def tSC (K : PySem.W.Frag) (Wx : WX) (f : PL.Env → Out (List PyData)) : TA := fun σ H Q => ∃ B Z ρ, Conc K B Z ρ σ H ∧ tOut (f ρ) (fun ds ρ' => ∀ vs H', PostX K B Z ρ ρ' σ H H' → RpA K (Fb Z ρ' σ) H' vs ds → Q vs H') (Gx K Wx B Z ρ σ H)
def SC (X : Cx) (Wx : WX) (es : List Expr) (f : PL.Env → Out (List PyData)) : Prop := PA X es (tSC X.K Wx f)
theorem pa_mono {X : Cx} {es : List Expr} {t t' : TA} (h : PA X es t) (i : ∀ σ H Q, t' σ H Q → t σ H Q) : PA X es t' := ⟨fun pos pins s σ H Q I q => h.run pos pins s σ H Q I (i σ H Q q)⟩
section
variable {X : Cx} {Wx : WX} {e : Expr} {es : List Expr} {fa : PL.Env → Out Res} {fr : PL.Env → Out (List Res)} {fc : PL.Env → Out (List PyData)}
theorem sa_nil : SA X Wx [] (fun ρ => .ok [] ρ) := pa_mono pa_nil fun σ H Q ⟨B, Z, ρ, C, h⟩ => h [] H (.refl C) .nil
theorem sc_nil : SC X Wx [] (fun ρ => .ok [] ρ) := pa_mono pa_nil fun σ H Q ⟨B, Z, ρ, C, h⟩ => h [] H (.refl C) .nil
theorem sa_run {K : PySem.W.Frag} {B Z : Addr → Prop} {ρ : PL.Env} {σ : L2.St} {H : Hp} {β : Type} {k : List Res → PL.Env → Out β} {Qok : β → PL.Env → Prop} {Qx : Str → PL.Env → Prop} {T : List V → Hp → Prop}
    (C : Conc K B Z ρ σ H) (h : tOut (bind (fr ρ) k) Qok Qx) (hx : ∀ c ρ', Qx c ρ' → Gx K Wx B Z ρ σ H c ρ')
    (next : ∀ rs ρ1 vs H1, PostX K B Z ρ ρ1 σ H H1 → HeldA K Z ρ1 σ H1 vs rs → tOut (k rs ρ1) Qok Qx → T vs H1) : tSA K Wx fr σ H T := by
  refine ⟨B, Z, ρ, C, ?_⟩
  cases e : fr ρ with
  | ok r ρ1 =>
    rw [e] at h
    exact fun vs H1 p a => next r ρ1 vs H1 p a h
  | exc c ρ1 =>
    rw [e] at h
    exact hx c ρ1 h
  | stuck =>
    rw [e] at h
    exact h
theorem sc_run {K : PySem.W.Frag} {B Z : Addr → Prop} {ρ : PL.Env} {σ : L2.St} {H : Hp} {β : Type} {k : List PyData → PL.Env → Out β} {Qok : β → PL.Env → Prop} {Qx : Str → PL.Env → Prop} {T : List V → Hp → Prop}
    (C : Conc K B Z ρ σ H) (h : tOut (bind (fc ρ) k) Qok Qx) (hx : ∀ c ρ', Qx c ρ' → Gx K Wx B Z ρ σ H c ρ')
    (next : ∀ ds ρ1 vs H1, PostX K B Z ρ ρ1 σ H H1 → RpA K (Fb Z ρ1 σ) H1 vs ds → tOut (k ds ρ1) Qok Qx → T vs H1) : tSC K Wx fc σ H T := by
  refine ⟨B, Z, ρ, C, ?_⟩
  cases e : fc ρ with
  | ok r ρ1 =>
    rw [e] at h
    exact fun vs H1 p a => next r ρ1 vs H1 p a h
  | exc c ρ1 =>
    rw [e] at h
    exact hx c ρ1 h
  | stuck =>
    rw [e] at h
    exact h
theorem sa_cons (ha : SE X Wx e fa) (hr : SA X Wx es fr) (hs : starEach (e :: es) X.env = (false, eval e X.env) :: starEach es X.env) : SA X Wx (e :: es) (fun ρ => bind (fa ρ) fun r ρ1 => bind (fr ρ1) fun rs ρ2 => .ok (r :: rs) ρ2) := by
  refine pa_mono (pa_cons ha hr hs) fun σ H Q ⟨B, Z, ρ, C, h⟩ => ?_
  refine sub_run C h (fun _ _ z => z) fun r ρ1 x H1 P1 h1 => sa_run P1.conc h1 (fun c ρ' z => z.step P1.x) fun rs ρ2 vs H2 P2 a h2 => ?_
  exact h2 (x :: vs) H2 (P1.x.seq P2) (.cons (P1.res.held.move P2) a)
/-- behind a cold -/
theorem cold_run {K : PySem.W.Frag} {B Z : Addr → Prop} {ρ : PL.Env} {σ : L2.St} {H : Hp} {v : V} {r : Res} {β : Type} {k : PyData → PL.Env → Out β} {Qok : β → PL.Env → Prop} {Qx : Str → PL.Env → Prop} {T : Prop}
    (p : PostR K B Z ρ σ H v r) (h : tOut (bind (PL.cold ρ r) k) Qok Qx) (next : ∀ d ρ1, PostX K B Z ρ ρ1 σ H H → Rp K (Fb Z ρ1 σ) H v d → tOut (k d ρ1) Qok Qx → T) : T := by
  cases e : PL.cold ρ r with
  | ok d ρ1 =>
    rw [e] at h
    obtain ⟨q1, q2⟩ := cold_ok p e
    exact next d ρ1 q1 q2 h
  | exc c ρ1 => exact (cold_exc e).elim
  | stuck =>
    rw [e] at h
    exact h.elim
theorem sc_cons (ha : SE X Wx e fa) (hr : SC X Wx es fc) (hs : starEach (e :: es) X.env = (false, eval e X.env) :: starEach es X.env) : SC X Wx (e :: es) (fun ρ => bind (fa ρ) fun r ρ1 => bind (PL.cold ρ1 r) fun d ρ2 => bind (fc ρ2) fun ds ρ3 => .ok (d :: ds) ρ3) := by
  refine pa_mono (pa_cons ha hr hs) fun σ H Q ⟨B, Z, ρ, C, h⟩ => ?_
  refine sub_run C h (fun _ _ z => z) fun r ρ1 x H1 P1 h1 => ?_
  refine cold_run P1.res h1 fun d ρ2 P2 rp h2 => ?_
  refine sc_run P2.conc h2 (fun c ρ' z => z.step (P1.x.seq P2)) fun ds ρ3 vs H3 P3 a h3 => ?_
  exact h3 (x :: vs) H3 ((P1.x.seq P2).seq P3) (.cons (rp.move (keep_fb P3.keep) (fb_sub P3.sub)) a)
end

/-! ### the forms -/
section
variable {X : Cx} {Wx : WX} {a b c : Expr} {fa fb fc' : PL.Env → Out Res} {pos : Pos}
theorem se_var {i : Nat} {x : Str} {pos : Pos} (hN : X.N[i]? = some x) (hv : Vis X.env.scope x) (hd : (x == ("__debug__" : Str)) = false) (hcd : (x == ("__classdict__" : Str)) = false) :
    SE X Wx (.Name x pos) (fun ρ => match gets ρ i with | .no => .stuck | .c d => .ok (.val d) ρ | .h _ _ => .ok (.ref i) ρ) := by
  refine pe_mono (pe_var hN hv hd hcd) fun σ H Q ⟨B, Z, ρ, C, h⟩ => ?_
  dsimp only at h
  cases e : gets ρ i with
  | no => rw [e] at h; exact h.elim
  | c d =>
    rw [e] at h
    obtain ⟨v, e1, r⟩ := C.cold i d (gets_some e (by intro z; cases z))
    exact ⟨v, e1, h v H (post_val C r)⟩
  | h io d =>
    rw [e] at h
    obtain ⟨a, e1, n, _, o⟩ := C.hot i io d (gets_some e (by intro z; cases z))
    exact ⟨_, e1, h _ H ⟨Keeps.refl, Sub.refl, ⟨e1, C⟩, fun _ _ e => nomatch e⟩⟩
theorem se_val {e : Expr} {v : V} {d : PyData} (h : PE X e (tC v)) (r : ∀ Y H, Rp X.K Y H v d) : SE X Wx e (fun ρ => .ok (.val d) ρ) :=
  pe_mono h fun σ H Q ⟨B, Z, ρ, C, h⟩ => h v H (post_val C (r _ _))
/-- as a test -/
def tST (K : PySem.W.Frag) (Wx : WX) (f : PL.Env → Out Bool) : TT := fun σ H Q => ∃ B Z ρ, Conc K B Z ρ σ H ∧ tOut (f ρ) (fun b ρ' => ∀ H', PostX K B Z ρ ρ' σ H H' → Q b H') (Gx K Wx B Z ρ σ H)
def ST (X : Cx) (Wx : WX) (e : Expr) (f : PL.Env → Out Bool) : Prop := PT X e (tST X.K Wx f)
theorem st_run {K : PySem.W.Frag} {B Z : Addr → Prop} {ρ : PL.Env} {σ : L2.St} {H : Hp} {β : Type} {ft : PL.Env → Out Bool} {k : Bool → PL.Env → Out β} {Qok : β → PL.Env → Prop} {Qx : Str → PL.Env → Prop} {T : Bool → Hp → Prop}
    (C : Conc K B Z ρ σ H) (h : tOut (bind (ft ρ) k) Qok Qx) (hx : ∀ c ρ', Qx c ρ' → Gx K Wx B Z ρ σ H c ρ')
    (next : ∀ b ρ1 H1, PostX K B Z ρ ρ1 σ H H1 → tOut (k b ρ1) Qok Qx → T b H1) : tST K Wx ft σ H T := by
  refine ⟨B, Z, ρ, C, ?_⟩
  cases e : ft ρ with
  | ok r ρ1 =>
    rw [e] at h
    exact fun H1 p => next r ρ1 H1 p h
  | exc c ρ1 =>
    rw [e] at h
    exact hx c ρ1 h
  | stuck =>
    rw [e] at h
    exact h
theorem truth_run {K : PySem.W.Frag} {B Z : Addr → Prop} {ρ : PL.Env} {σ : L2.St} {H : Hp} {v : V} {r : Res} {Qok : Bool → PL.Env → Prop} {Qx : Str → PL.Env → Prop}
    (p : PostR K B Z ρ σ H v r) (h : tOut (truthR r ρ) Qok Qx) : ∃ d b, Op K (Fb Z ρ σ) H v d ∧ peek ρ r = some d ∧ truthD d = some b ∧ Qok b ρ := by
  unfold truthR at h
  cases e : peek ρ r with
  | none => rw [e] at h; exact h.elim
  | some d =>
    rw [e] at h
    obtain ⟨b, e2, q⟩ := h.ofO
    exact ⟨d, b, p.held.op p.conc e, rfl, e2, q⟩
/-- any expression whose test is its value's truth -/
theorem st_val (ok : XOk X) (ha : SE X Wx a fa) (he : ∀ whole, isTrue a X.env whole = (do let v ← whole; standAt a.pos; holding [v] (truthy v))) : ST X Wx a (fun ρ => bind (fa ρ) truthR) := by
  refine ⟨fun pins s σ H Q I ⟨B, Z, ρ, C, h⟩ => ?_⟩
  refine isTrue_plain (thn (ha.run pins s σ H (fun v H1 => rTr X.K v H1 Q) I ?_) fun v s1 ⟨x, H1, I1, r1, q1⟩ => tru_op ok pins s1 σ H1 x v Q I1 r1 q1) (he _)
  refine sub_run C h (fun _ _ z => z) fun r ρ1 v H1 P1 h1 => ?_
  obtain ⟨d, b, o, _, e2, q⟩ := truth_run P1.res h1
  exact ⟨_, d, b, fun a z => P1.conc.fb z, o, e2, q H1 P1.x⟩
theorem bind_bind {α β γ : Type} (x : Out α) (f : α → PL.Env → Out β) (g : β → PL.Env → Out γ) : bind (bind x f) g = bind x fun a ρ => bind (f a ρ) g := by
  cases x <;> rfl
theorem bind_ok {α β : Type} (a : α) (ρ : PL.Env) (f : α → PL.Env → Out β) : bind (.ok a ρ) f = f a ρ := rfl
theorem pe_notR {ta : TE} {r : V → Hp → (Bool → Hp → Prop) → Prop} (ha : PE X a ta) (hr : TruR X r) : PE X (.UnaryOp .Not a pos) (fun σ H Q => ta σ H fun x H' => r x H' fun c H2 => Q (.bl (!c)) H2) := by
  refine ⟨fun pins s σ H Q I h => ?_⟩
  refine UnaryOp_ (thn (ha.run pins s σ H _ I h) fun v s1 ⟨x, H1, I1, r1, q1⟩ => ?_)
  exact not_of (thn (hr pins s1 σ H1 x v (fun c H2 => Q (.bl (!c)) H2) I1 r1 q1) fun c s2 ⟨H2, I2, q2⟩ => ⟨.bl (!c), H2, I2, rfl, q2⟩)
theorem se_not (ok : XOk X) (ha : SE X Wx a fa) : SE X Wx (.UnaryOp .Not a pos) (fun ρ => bind (fa ρ) fun r ρ1 => bind (truthR r ρ1) fun b ρ2 => .ok (.val (.bool (!b))) ρ2) := by
  refine pe_mono (pe_notR ha (tru_op ok)) fun σ H Q ⟨B, Z, ρ, C, h⟩ => ?_
  refine sub_run C h (fun _ _ z => z) fun r ρ1 v H1 P1 h1 => ?_
  unfold truthR at h1
  cases e : peek ρ1 r with
  | none => rw [e] at h1; exact h1.elim
  | some d =>
    rw [e] at h1
    cases e2 : truthD d with
    | none => dsimp only at h1; rw [e2] at h1; exact h1.elim
    | some b =>
      dsimp only at h1
      rw [e2] at h1
      exact ⟨_, d, b, fun a z => P1.conc.fb z, P1.res.held.op P1.conc e, e2, h1 _ H1 (P1.x.post (post_val P1.conc (.bl _)))⟩
theorem st_not (ha : ST X Wx a (fun ρ => bind (fa ρ) truthR)) : ST X Wx (.UnaryOp .Not a pos) (fun ρ => bind (bind (fa ρ) fun r ρ1 => bind (truthR r ρ1) fun b ρ2 => .ok (.val (.bool (!b))) ρ2) truthR) := by
  refine pt_mono (pt_not ha) fun σ H Q ⟨B, Z, ρ, C, h⟩ => ?_
  have h : tOut (bind (bind (fa ρ) truthR) fun b ρ2 => .ok (!b) ρ2) (fun b ρ' => ∀ H', PostX X.K B Z ρ ρ' σ H H' → Q b H') (Gx X.K Wx B Z ρ σ H) := by
    dsimp only at h
    rw [bind_bind] at h ⊢
    cases e : fa ρ with
    | ok r ρ1 =>
      rw [e] at h
      dsimp only [PL.bind] at h ⊢
      cases e2 : truthR r ρ1 with
      | ok b ρ2 => rw [e2] at h; exact h
      | exc c ρ2 => rw [e2] at h; exact h
      | stuck => rw [e2] at h; exact h
    | exc c ρ1 => rw [e] at h; exact h
    | stuck => rw [e] at h; exact h
  refine st_run (ft := fun ρ => bind (fa ρ) truthR) C h (fun _ _ z => z) fun b ρ1 H1 P1 h1 => ?_
  exact h1 H1 P1
theorem se_neg (ha : SE X Wx a fa) : SE X Wx (.UnaryOp .USub a pos) (fun ρ => bind (fa ρ) fun ra ρ1 => negR ra ρ1) := by
  refine pe_mono (pe_un un_neg ha) fun σ H Q ⟨B, Z, ρ, C, h⟩ => ?_
  refine sub_run C h (fun _ _ z => z) fun r ρ1 v H1 P1 h1 => ?_
  unfold negR at h1
  cases e : peek ρ1 r with
  | none => rw [e] at h1; exact h1.elim
  | some d =>
    rw [e] at h1
    have o := P1.res.held.op P1.conc e
    cases d with
    | int i => exact ⟨i, o.int, h1 _ H1 (P1.x.post (post_val P1.conc (.int _)))⟩
    | _ => exact h1.elim
theorem se_ife (hc : ST X Wx c (fun ρ => bind (fc' ρ) truthR)) (ha : SE X Wx a fa) (hb : SE X Wx b fb) :
    SE X Wx (.IfExp c a b pos) (fun ρ => bind (fc' ρ) fun r ρ1 => bind (truthR r ρ1) fun t ρ2 => if t then fa ρ2 else fb ρ2) := by
  refine pe_mono (pe_ifExp hc ha hb) fun σ H Q ⟨B, Z, ρ, C, h⟩ => ?_
  have h : tOut (bind (bind (fc' ρ) truthR) fun t ρ2 => if t then fa ρ2 else fb ρ2) (fun r ρ' => ∀ v H', Post X.K B Z ρ ρ' σ H H' v r → Q v H') (Gx X.K Wx B Z ρ σ H) := by
    rw [bind_bind]; exact h
  refine st_run (ft := fun ρ => bind (fc' ρ) truthR) C h (fun _ _ z => z) fun t ρ1 H1 P1 h1 => ?_
  cases t with
  | true => exact ⟨B, Z, ρ1, P1.conc, tOut.mono h1 (fun r ρ' q v H' p => q v H' (P1.post p)) fun c ρ' g => g.step P1⟩
  | false => exact ⟨B, Z, ρ1, P1.conc, tOut.mono h1 (fun r ρ' q v H' p => q v H' (P1.post p)) fun c ρ' g => g.step P1⟩

/-! ### and, or -/
theorem se_one {op : BoolOp} (ha : SE X Wx a fa) : SE X Wx (.BoolOp op [a] pos) (fun ρ => bind (fa ρ) fun r ρ1 => .ok r ρ1) := by
  refine pe_mono (pe_one ha) fun σ H Q ⟨B, Z, ρ, C, h⟩ => ?_
  exact sub_run C h (fun _ _ z => z) fun r ρ1 v H1 P1 h1 => h1 v H1 P1
theorem se_and {rest : List Expr} (ha : SE X Wx a fa) (hb : SE X Wx (.BoolOp .And (b :: rest) pos) fb) :
    SE X Wx (.BoolOp .And (a :: b :: rest) pos) (fun ρ => bind (fa ρ) fun r ρ1 => match peek ρ1 r with | some (.bool true) => fb ρ1 | some (.bool false) => .ok (.val (.bool false)) ρ1 | _ => .stuck) := by
  refine pe_mono (pe_and ha hb) fun σ H Q ⟨B, Z, ρ, C, h⟩ => ?_
  refine sub_run C h (fun _ _ z => z) fun r ρ1 v H1 P1 h1 => ?_
  cases e : peek ρ1 r with
  | none => rw [e] at h1; exact h1.elim
  | some d =>
    rw [e] at h1
    have o := P1.res.held.op P1.conc e
    cases d with
    | bool t =>
      cases t with
      | true => exact ⟨true, o.bl, (if_pos rfl).mpr ⟨B, Z, ρ1, P1.conc, tOut.mono h1 (fun r ρ' q v H' p => q v H' (P1.x.post p)) fun c ρ' g => g.step P1.x⟩⟩
      | false => exact ⟨false, o.bl, (if_neg Bool.false_ne_true).mpr (h1 _ H1 (P1.x.post (post_val P1.conc (.bl _))))⟩
    | _ => exact h1.elim
theorem se_or {rest : List Expr} (ha : SE X Wx a fa) (hb : SE X Wx (.BoolOp .Or (b :: rest) pos) fb) :
    SE X Wx (.BoolOp .Or (a :: b :: rest) pos) (fun ρ => bind (fa ρ) fun r ρ1 => match peek ρ1 r with | some (.bool false) => fb ρ1 | some (.bool true) => .ok (.val (.bool true)) ρ1 | _ => .stuck) := by
  refine pe_mono (pe_or ha hb) fun σ H Q ⟨B, Z, ρ, C, h⟩ => ?_
  refine sub_run C h (fun _ _ z => z) fun r ρ1 v H1 P1 h1 => ?_
  cases e : peek ρ1 r with
  | none => rw [e] at h1; exact h1.elim
  | some d =>
    rw [e] at h1
    have o := P1.res.held.op P1.conc e
    cases d with
    | bool t =>
      cases t with
      | false => exact ⟨false, o.bl, (if_neg Bool.false_ne_true).mpr ⟨B, Z, ρ1, P1.conc, tOut.mono h1 (fun r ρ' q v H' p => q v H' (P1.x.post p)) fun c ρ' g => g.step P1.x⟩⟩
      | true => exact ⟨true, o.bl, (if_pos rfl).mpr (h1 _ H1 (P1.x.post (post_val P1.conc (.bl _))))⟩
    | _ => exact h1.elim
/-- .. as tests: whatever 'whole' is -/
def SW (X : Cx) (Wx : WX) (e : Expr) (f : PL.Env → Out Bool) : Prop := PW X e (tST X.K Wx f)
theorem SW.st {e : Expr} {f : PL.Env → Out Bool} (h : SW X Wx e f) : ST X Wx e f := PW.pt h
theorem tST.of {K : PySem.W.Frag} {f g : PL.Env → Out Bool} (e : ∀ ρ, f ρ = g ρ) {σ : L2.St} {H : Hp} {Q : Bool → Hp → Prop} (h : tST K Wx f σ H Q) : tST K Wx g σ H Q := by
  obtain ⟨B, Z, ρ, C, h⟩ := h
  exact ⟨B, Z, ρ, C, by rw [← e]; exact h⟩
theorem sw_one {op : BoolOp} (ha : ST X Wx a (fun ρ => bind (fa ρ) truthR)) : SW X Wx (.BoolOp op [a] pos) (fun ρ => bind (bind (fa ρ) fun r ρ1 => .ok r ρ1) truthR) := by
  have e : ∀ ρ, bind (bind (fa ρ) fun r ρ1 => .ok r ρ1) truthR = bind (fa ρ) truthR := fun ρ => by rw [bind_bind]; rfl
  cases op with
  | And => exact pw_mono (pw_and1 ha) fun σ H Q h => h.of e
  | Or => exact pw_mono (pw_or1 ha) fun σ H Q h => h.of e
theorem sw_and {rest : List Expr} (ha : ST X Wx a (fun ρ => bind (fa ρ) truthR)) (hb : SW X Wx (.BoolOp .And (b :: rest) pos) (fun ρ => bind (fb ρ) truthR)) :
    SW X Wx (.BoolOp .And (a :: b :: rest) pos) (fun ρ => bind (bind (fa ρ) fun r ρ1 => match peek ρ1 r with | some (.bool true) => fb ρ1 | some (.bool false) => .ok (.val (.bool false)) ρ1 | _ => .stuck) truthR) := by
  refine pw_mono (pw_and ha hb) fun σ H Q ⟨B, Z, ρ, C, h⟩ => ?_
  have h : tOut (bind (bind (fa ρ) truthR) fun t ρ2 => if t = true then bind (fb ρ2) truthR else .ok false ρ2) (fun b ρ' => ∀ H', PostX X.K B Z ρ ρ' σ H H' → Q b H') (Gx X.K Wx B Z ρ σ H) := by
    dsimp only at h
    rw [bind_bind] at h ⊢
    cases e : fa ρ with
    | ok r ρ1 =>
      rw [e] at h
      dsimp only [PL.bind] at h ⊢
      unfold truthR
      cases e2 : peek ρ1 r with
      | none => rw [e2] at h; exact h.elim
      | some d =>
        rw [e2] at h
        cases d with
        | bool t => cases t <;> exact h
        | _ => exact h.elim
    | exc c ρ1 => rw [e] at h; exact h
    | stuck => rw [e] at h; exact h
  refine st_run (ft := fun ρ => bind (fa ρ) truthR) C h (fun _ _ z => z) fun t ρ1 H1 P1 h1 => ?_
  cases t with
  | true => exact ⟨B, Z, ρ1, P1.conc, tOut.mono h1 (fun r ρ' q H' p => q H' (P1.seq p)) fun c ρ' g => g.step P1⟩
  | false => exact h1 H1 P1
theorem sw_or {rest : List Expr} (ha : ST X Wx a (fun ρ => bind (fa ρ) truthR)) (hb : SW X Wx (.BoolOp .Or (b :: rest) pos) (fun ρ => bind (fb ρ) truthR)) :
    SW X Wx (.BoolOp .Or (a :: b :: rest) pos) (fun ρ => bind (bind (fa ρ) fun r ρ1 => match peek ρ1 r with | some (.bool false) => fb ρ1 | some (.bool true) => .ok (.val (.bool true)) ρ1 | _ => .stuck) truthR) := by
  refine pw_mono (pw_or ha hb) fun σ H Q ⟨B, Z, ρ, C, h⟩ => ?_
  have h : tOut (bind (bind (fa ρ) truthR) fun t ρ2 => if t = true then .ok true ρ2 else bind (fb ρ2) truthR) (fun b ρ' => ∀ H', PostX X.K B Z ρ ρ' σ H H' → Q b H') (Gx X.K Wx B Z ρ σ H) := by
    dsimp only at h
    rw [bind_bind] at h ⊢
    cases e : fa ρ with
    | ok r ρ1 =>
      rw [e] at h
      dsimp only [PL.bind] at h ⊢
      unfold truthR
      cases e2 : peek ρ1 r with
      | none => rw [e2] at h; exact h.elim
      | some d =>
        rw [e2] at h
        cases d with
        | bool t => cases t <;> exact h
        | _ => exact h.elim
    | exc c ρ1 => rw [e] at h; exact h
    | stuck => rw [e] at h; exact h
  refine st_run (ft := fun ρ => bind (fa ρ) truthR) C h (fun _ _ z => z) fun t ρ1 H1 P1 h1 => ?_
  cases t with
  | true => exact h1 H1 P1
  | false => exact ⟨B, Z, ρ1, P1.conc, tOut.mono h1 (fun r ρ' q H' p => q H' (P1.seq p)) fun c ρ' g => g.step P1⟩
end
end PL

set_option autoImplicit false
set_option linter.all false
set_option Elab.async false
set_option maxRecDepth 100000
set_option maxHeartbeats 1000000
/-! PL7: chains of comparisons, displays, built-in calls, items, slices. -/
namespace PL
open PySem PySem.Spec PyProof.Rows L2
variable [TabL]
structure SCh (X : Cx) (Wx : WX) (ops : List CmpOp) (es : List Expr) (g : Res → PL.Env → Out Bool) : Prop where
  val : ∀ (pos : Pos) (pins : List (Addr × Obj)) (s : Shared) (σ : L2.St) (H : Hp) (u : Value) (x : V) (B Z : Addr → Prop) (ρ : PL.Env) (ra : Res) (Q : VK), L2.Inv X pins σ H s → RelV x u → Conc X.K B Z ρ σ H → Held X.K Z ρ σ H x ra →
    tOut (g ra ρ) (fun b ρ' => ∀ H', PostX X.K B Z ρ ρ' σ H H' → Q (.bl b) H') (Gx X.K Wx B Z ρ σ H) → wpAny (model X.prog X.w) X.A (compareChain pos u ops (evalEach es X.env)) (EP X pins σ Q) X.xe s
  tst : ∀ (pos : Pos) (pins : List (Addr × Obj)) (s : Shared) (σ : L2.St) (H : Hp) (u : Value) (x : V) (B Z : Addr → Prop) (ρ : PL.Env) (ra : Res) (Q : Bool → Hp → Prop), L2.Inv X pins σ H s → RelV x u → Conc X.K B Z ρ σ H → Held X.K Z ρ σ H x ra →
    tOut (g ra ρ) (fun b ρ' => ∀ H', PostX X.K B Z ρ ρ' σ H H' → Q b H') (Gx X.K Wx B Z ρ σ H) → wpAny (model X.prog X.w) X.A (testChain pos u ops (evalEach es X.env)) (TP X pins σ Q) X.xe s
section
variable {X : Cx} {Wx : WX}
theorem cmp_run {K : PySem.W.Frag} {B Z : Addr → Prop} {ρ1 : PL.Env} {σ : L2.St} {H1 : Hp} {x y : V} {ra rb : Res} {op : CmpOp} {β : Type} {k : Bool → PL.Env → Out β} {Qok : β → PL.Env → Prop} {Qx : Str → PL.Env → Prop}
    (ha : Held K Z ρ1 σ H1 x ra) (p : PostR K B Z ρ1 σ H1 y rb) (h : tOut (bind (cmpR op ra rb ρ1) k) Qok Qx) : ∃ d e b, Op K (Fb Z ρ1 σ) H1 x d ∧ Op K (Fb Z ρ1 σ) H1 y e ∧ cmpD op d e = some b ∧ tOut (k b ρ1) Qok Qx := by
  unfold cmpR at h
  cases e1 : peek ρ1 ra with
  | none => rw [e1] at h; exact h.elim
  | some d =>
    cases e2 : peek ρ1 rb with
    | none => rw [e1, e2] at h; exact h.elim
    | some e =>
      rw [e1, e2] at h
      dsimp only at h
      cases e3 : cmpD op d e with
      | none => rw [e3] at h; exact h.elim
      | some b =>
        rw [e3] at h
        exact ⟨d, e, b, ha.op p.conc e1, p.held.op p.conc e2, e3, h⟩
theorem cmp_do {op : CmpOp} (ho : CmpOk X op) {pins : List (Addr × Obj)} {s : Shared} {σ : L2.St} {H : Hp} {x y : V} {v u : Value} {B Z : Addr → Prop} {ρ : PL.Env} {d e : PyData} {b : Bool} {R : Value → Shared → Prop}
    (I : L2.Inv X pins σ H s) (rx : RelV x v) (ry : RelV y u) (C : Conc X.K B Z ρ σ H) (o1 : Op X.K (Fb Z ρ σ) H x d) (o2 : Op X.K (Fb Z ρ σ) H y e) (h : cmpD op d e = some b)
    (q : ∀ s' H', L2.Inv X pins σ H' s' → PostX X.K B Z ρ ρ σ H H' → R (.bool b) s') : wpAny (model X.prog X.w) X.A (compareOp op v u) R X.xe s := by
  refine thn (ho pins s σ H x y v u (fun z H' => z = .bl b ∧ PostX X.K B Z ρ ρ σ H H') I rx ry ⟨Fb Z ρ σ, d, e, _, fun a z => C.fb z, o1, o2, (show Option.map (fun b => Res.val (PyData.bool b)) (cmpD op d e) = some (.val (.bool b)) by rw [h]; rfl), fun z H' n => ?_⟩) fun c s' ⟨z, H', I', r', ez, p⟩ => ?_
  · obtain ⟨k, rp⟩ := n
    cases rp
    exact ⟨rfl, (post_new C ⟨k, Rp.bl b⟩ : Post X.K B Z ρ ρ σ H H' (.bl b) (.val (.bool b))).x⟩
  · subst ez
    cases r'
    exact q s' H' I' p
theorem sch_last {op : CmpOp} {e : Expr} {f : PL.Env → Out Res} (ho : CmpOk X op) (he : SE X Wx e f) : SCh X Wx [op] [e] (fun ra ρ => bind (f ρ) fun rb ρ1 => bind (cmpR op ra rb ρ1) fun b ρ2 => .ok b ρ2) := by
  constructor
  · intro pos pins s σ H u x B Z ρ ra Q I r C ha h
    refine chain_last (thn (he.run pins s σ H (fun y H1 => ∀ s1 w, L2.Inv X pins σ H1 s1 → RelV y w → wpAny (model X.prog X.w) X.A (compareOp op u w) (EP X pins σ Q) X.xe s1) I ?_) fun w s1 ⟨y, H1, I1, r1, q1⟩ => q1 s1 w I1 r1)
    refine sub_run C h (fun _ _ z => z) fun rb ρ1 y H1 P1 h1 s1 w I1 r1 => ?_
    obtain ⟨d, e', b, o1, o2, hc, h2⟩ := cmp_run (ha.move P1.x) P1.res h1
    exact cmp_do ho I1 r r1 P1.conc o1 o2 hc fun s' H' I' p => ⟨.bl b, H', I', rfl, h2 H' (P1.x.seq p)⟩
  · intro pos pins s σ H u x B Z ρ ra Q I r C ha h
    refine test_last (thn (he.run pins s σ H (fun y H1 => ∀ s1 w, L2.Inv X pins σ H1 s1 → RelV y w → wpAny (model X.prog X.w) X.A (compareOp op u w) (fun c s2 => wpAny (model X.prog X.w) X.A (truthy c) (TP X pins σ Q) X.xe s2) X.xe s1) I ?_) fun w s1 ⟨y, H1, I1, r1, q1⟩ => q1 s1 w I1 r1)
    refine sub_run C h (fun _ _ z => z) fun rb ρ1 y H1 P1 h1 s1 w I1 r1 => ?_
    obtain ⟨d, e', b, o1, o2, hc, h2⟩ := cmp_run (ha.move P1.x) P1.res h1
    exact cmp_do ho I1 r r1 P1.conc o1 o2 hc fun s' H' I' p => wpAny_truthy_bool ⟨H', I', h2 H' (P1.x.seq p)⟩
theorem sch_link {op op' : CmpOp} {ops : List CmpOp} {e e2 : Expr} {es : List Expr} {f : PL.Env → Out Res} {g : Res → PL.Env → Out Bool} (ho : CmpOk X op) (he : SE X Wx e f) (hr : SCh X Wx (op' :: ops) (e2 :: es) g) :
    SCh X Wx (op :: op' :: ops) (e :: e2 :: es) (fun ra ρ => bind (f ρ) fun rb ρ1 => bind (cmpR op ra rb ρ1) fun b ρ2 => if b then g rb ρ2 else .ok false ρ2) := by
  constructor
  · intro pos pins s σ H u x B Z ρ ra Q I r C ha h
    refine chain_link (thn (he.run pins s σ H (fun y H1 => ∀ s1 w, L2.Inv X pins σ H1 s1 → RelV y w → wpAny (model X.prog X.w) X.A (compareOp op u w) (fun c s2 => wpAny (model X.prog X.w) X.A (truthy c)
      (fun t s3 => if t then wpAny (model X.prog X.w) X.A (compareChain pos w (op' :: ops) (evalEach (e2 :: es) X.env)) (EP X pins σ Q) X.xe s3 else EP X pins σ Q c s3) X.xe s2) X.xe s1) I ?_) fun w s1 ⟨y, H1, I1, r1, q1⟩ => q1 s1 w I1 r1)
    refine sub_run C h (fun _ _ z => z) fun rb ρ1 y H1 P1 h1 s1 w I1 r1 => ?_
    obtain ⟨d, e', b, o1, o2, hc, h2⟩ := cmp_run (ha.move P1.x) P1.res h1
    refine cmp_do ho I1 r r1 P1.conc o1 o2 hc fun s' H' I' p => wpAny_truthy_bool ?_
    have pp := P1.x.seq p
    cases b with
    | false => exact ite_ff ⟨.bl false, H', I', rfl, h2 H' pp⟩
    | true => exact ite_tt (hr.val pos pins s' σ H' w y B Z ρ1 rb Q I' r1 pp.conc (P1.res.held.move p) (tOut.mono h2 (fun b ρ' q H2 p2 => q H2 (pp.seq p2)) fun c ρ' z => z.step pp))
  · intro pos pins s σ H u x B Z ρ ra Q I r C ha h
    refine test_link (thn (he.run pins s σ H (fun y H1 => ∀ s1 w, L2.Inv X pins σ H1 s1 → RelV y w → wpAny (model X.prog X.w) X.A (compareOp op u w) (fun c s2 => wpAny (model X.prog X.w) X.A (truthy c)
      (fun t s3 => if t then wpAny (model X.prog X.w) X.A (testChain pos w (op' :: ops) (evalEach (e2 :: es) X.env)) (TP X pins σ Q) X.xe s3 else TP X pins σ Q false s3) X.xe s2) X.xe s1) I ?_) fun w s1 ⟨y, H1, I1, r1, q1⟩ => q1 s1 w I1 r1)
    refine sub_run C h (fun _ _ z => z) fun rb ρ1 y H1 P1 h1 s1 w I1 r1 => ?_
    obtain ⟨d, e', b, o1, o2, hc, h2⟩ := cmp_run (ha.move P1.x) P1.res h1
    refine cmp_do ho I1 r r1 P1.conc o1 o2 hc fun s' H' I' p => wpAny_truthy_bool ?_
    have pp := P1.x.seq p
    cases b with
    | false => exact ite_ff ⟨H', I', h2 H' pp⟩
    | true => exact ite_tt (hr.tst pos pins s' σ H' w y B Z ρ1 rb Q I' r1 pp.conc (P1.res.held.move p) (tOut.mono h2 (fun b ρ' q H2 p2 => q H2 (pp.seq p2)) fun c ρ' z => z.step pp))
theorem se_cmp {a : Expr} {ops : List CmpOp} {es : List Expr} {pos : Pos} {fa : PL.Env → Out Res} {g : Res → PL.Env → Out Bool} (ha : SE X Wx a fa) (hr : SCh X Wx ops es g) (hm : lastMarks ops es = false) :
    SE X Wx (.Compare a ops es pos) (fun ρ => bind (fa ρ) fun ra ρ1 => bind (g ra ρ1) fun b ρ2 => .ok (.val (.bool b)) ρ2) := by
  refine ⟨fun pins s σ H Q I ⟨B, Z, ρ, C, h⟩ => ?_⟩
  show wpAny _ _ (do compareChain pos (← eval a X.env) ops (markedEach ops es (evalEach es X.env))) _ _ _
  rw [markedEach_of_false _ _ _ hm]
  refine wpAny_bind (thn (ha.run pins s σ H (fun x H1 => ∀ s1 u, L2.Inv X pins σ H1 s1 → RelV x u → wpAny (model X.prog X.w) X.A (compareChain pos u ops (evalEach es X.env)) (EP X pins σ Q) X.xe s1) I ?_) fun u s1 ⟨x, H1, I1, r1, q1⟩ => q1 s1 u I1 r1)
  refine sub_run C h (fun _ _ z => z) fun ra ρ1 x H1 P1 h1 s1 u I1 r1 => ?_
  refine hr.val pos pins s1 σ H1 u x B Z ρ1 ra Q I1 r1 P1.conc P1.res.held ?_
  cases e : g ra ρ1 with
  | ok b ρ2 =>
    rw [e] at h1
    exact fun H' p => h1 _ H' ((P1.x.seq p).post (post_val p.conc (.bl b)))
  | exc c ρ2 =>
    rw [e] at h1
    exact Gx.step h1 P1.x
  | stuck =>
    rw [e] at h1
    exact h1
theorem st_cmp {a : Expr} {ops : List CmpOp} {es : List Expr} {pos : Pos} {fa : PL.Env → Out Res} {g : Res → PL.Env → Out Bool} (ha : SE X Wx a fa) (hr : SCh X Wx ops es g) (hm : lastMarks ops es = false) :
    ST X Wx (.Compare a ops es pos) (fun ρ => bind (bind (fa ρ) fun ra ρ1 => bind (g ra ρ1) fun b ρ2 => .ok (.val (.bool b)) ρ2) truthR) := by
  refine ⟨fun pins s σ H Q I ⟨B, Z, ρ, C, h⟩ => ?_⟩
  show wpAny _ _ (do testChain pos (← eval a X.env) ops (markedEach ops es (evalEach es X.env))) _ _ _
  rw [markedEach_of_false _ _ _ hm]
  refine wpAny_bind (thn (ha.run pins s σ H (fun x H1 => ∀ s1 u, L2.Inv X pins σ H1 s1 → RelV x u → wpAny (model X.prog X.w) X.A (testChain pos u ops (evalEach es X.env)) (TP X pins σ Q) X.xe s1) I ?_) fun u s1 ⟨x, H1, I1, r1, q1⟩ => q1 s1 u I1 r1)
  dsimp only at h
  rw [bind_bind] at h
  refine sub_run C h (fun _ _ z => z) fun ra ρ1 x H1 P1 h1 s1 u I1 r1 => ?_
  refine hr.tst pos pins s1 σ H1 u x B Z ρ1 ra Q I1 r1 P1.conc P1.res.held ?_
  rw [bind_bind] at h1
  cases e : g ra ρ1 with
  | ok b ρ2 =>
    rw [e] at h1
    exact fun H' p => h1 H' (P1.x.seq p)
  | exc c ρ2 =>
    rw [e] at h1
    exact Gx.step h1 P1.x
  | stuck =>
    rw [e] at h1
    exact h1

/-! ### displays -/
theorem se_tup {es : List Expr} {fc : PL.Env → Out (List PyData)} {k : Nat} {pos : Pos} (h : SC X Wx es fc) : SE X Wx (.Tuple es k pos) (fun ρ => bind (fc ρ) fun ds ρ1 => if szOk ds.length then .ok (.val (.tuple ds)) ρ1 else .stuck) := by
  refine pe_mono (pe_tup h) fun σ H Q ⟨B, Z, ρ, C, h⟩ => ?_
  refine sc_run C h (fun _ _ z => z) fun ds ρ1 vs H1 P1 rp h1 => ?_
  by_cases hz : szOk ds.length = true
  · rw [if_pos hz] at h1
    refine ⟨by rw [rp.length]; exact szOk_le hz, fun p hp => h1 _ _ (P1.post (post_new P1.conc (new_tup (fun a z => P1.conc.fb z) hp rp)))⟩
  · rw [if_neg hz] at h1
    exact h1.elim
theorem se_lst {es : List Expr} {fc : PL.Env → Out (List PyData)} {pos : Pos} (h : SC X Wx es fc) : SE X Wx (.List es pos) (fun ρ => bind (fc ρ) fun ds ρ1 => if szOk ds.length then .ok (.fresh (.list ds)) ρ1 else .stuck) := by
  refine pe_mono (pe_lst h) fun σ H Q ⟨B, Z, ρ, C, h⟩ => ?_
  refine sc_run C h (fun _ _ z => z) fun ds ρ1 vs H1 P1 rp h1 => ?_
  by_cases hz : szOk ds.length = true
  · rw [if_pos hz] at h1
    refine ⟨by rw [rp.length]; exact szOk_le hz, fun p hp => h1 _ _ (P1.post (post_new P1.conc (new_lst hp rp)))⟩
  · rw [if_neg hz] at h1
    exact h1.elim

/-! ### no stars -/
def unstar : Expr → Bool
  | .Starred .. => false
  | _ => true
theorem star_cons {e : Expr} {es : List Expr} {env : PySem.Env} (h : unstar e = true) : starEach (e :: es) env = (false, eval e env) :: starEach es env := by
  cases e <;> first | rfl | cases h
theorem star_any {pos : Pos} {env : PySem.Env} : ∀ {es : List Expr}, es.all unstar = true → (backTo pos (starEach es env)).any (·.1) = false
  | [], _ => rfl
  | e :: es, h => by
    rw [List.all_cons, Bool.and_eq_true] at h
    rw [star_cons h.1]
    exact star_any (es := es) h.2

/-! ### calls of built-ins -/
section
variable {x : Str} {e : Expr} {es : List Expr} {fr : PL.Env → Out (List Res)} {p pos : Pos} {b : Bi}
theorem bi_run {K : PySem.W.Frag} {B Z : Addr → Prop} {ρ : PL.Env} {σ : L2.St} {H : Hp} {b : Bi} {Q : VK} (C : Conc K B Z ρ σ H)
    (h : tOut (bind (fr ρ) fun rs ρ1 => biR b rs ρ1) (fun r ρ' => ∀ v H', Post K B Z ρ ρ' σ H H' v r → Q v H') (Gx K Wx B Z ρ σ H)) : tSA K Wx fr σ H fun vs H1 => rCl K (biD b) vs H1 Q := by
  refine sa_run C h (fun _ _ z => z) fun rs ρ1 vs H1 P1 a h1 => ?_
  unfold biR at h1
  cases e1 : peeks ρ1 rs with
  | none => rw [e1] at h1; exact h1.elim
  | some ds =>
    rw [e1] at h1
    obtain ⟨r, e2, q⟩ := h1.ofO
    exact ⟨Fb Z ρ1 σ, ds, r, fun a z => P1.conc.fb z, a.op P1.conc e1, e2, fun v H' n => q v H' (P1.post (post_new P1.conc n))⟩
theorem se_callB {id : String} (hc : CallR X (.builtin id) (rCl X.K (biD b))) (hg : Gl X x) (hm : X.mg x = none) (hv : bootBuiltins x = some (.builtin id)) (ha : SA X Wx (e :: es) fr) (hn : x ≠ "__name__") (hdb : (x == ("__debug__" : Str)) = false)
    (hs : (e :: es).all unstar = true) : SE X Wx (.Call (.Name x p) (e :: es) [] pos) (fun ρ => bind (fr ρ) fun rs ρ1 => biR b rs ρ1) := by
  rw [List.all_cons, Bool.and_eq_true] at hs
  refine pe_mono (pe_callB hc hg hm hv ha hn hdb (star_cons hs.1) (star_any hs.2)) fun σ H Q ⟨B, Z, ρ, C, h⟩ => bi_run C h
theorem se_callTy {T : String} (hc : CallR X (.type T) (rCl X.K (biD b))) (hg : Gl X x) (hm : X.mg x = none) (hv : bootBuiltins x = some (.type T)) (ha : SA X Wx (e :: es) fr) (hn : x ≠ "__name__") (hdb : (x == ("__debug__" : Str)) = false)
    (hs : (e :: es).all unstar = true) : SE X Wx (.Call (.Name x p) (e :: es) [] pos) (fun ρ => bind (fr ρ) fun rs ρ1 => biR b rs ρ1) := by
  rw [List.all_cons, Bool.and_eq_true] at hs
  refine pe_mono (pe_callTy hc hg hm hv ha hn hdb (star_cons hs.1) (star_any hs.2)) fun σ H Q ⟨B, Z, ρ, C, h⟩ => bi_run C h
end

/-! ### items, slices -/
def plainIx : Expr → Bool
  | .Slice .. => false
  | _ => true
theorem plain_ix {b : Expr} (h : plainIx b = true) : PlainIx b := by
  intro o i
  cases b <;> first | rfl | cases h
section
variable {a i : Expr} {fa fi : PL.Env → Out Res} {pos p2 : Pos}
theorem se_idx (ok : XOk X) (ha : SE X Wx a fa) (hi : SE X Wx i fi) (hp : plainIx i = true) : SE X Wx (.Subscript a i pos) (fun ρ => bind (fa ρ) fun ra ρ1 => bind (fi ρ1) fun ri ρ2 => idxR ra ri ρ2) := by
  refine pe_mono (pe_ix (ix_op ok) ha hi (plain_ix hp)) fun σ H Q ⟨B, Z, ρ, C, h⟩ => ?_
  refine sub_run C h (fun _ _ z => z) fun ra ρ1 x H1 P1 h1 => sub_run P1.conc h1 (fun c ρ' z => z.step P1.x) fun rb ρ2 y H2 P2 h2 => ?_
  unfold idxR at h2
  cases e1 : peek ρ2 ra with
  | none => rw [e1] at h2; exact h2.elim
  | some d =>
    cases e2 : peek ρ2 rb with
    | none => rw [e1, e2] at h2; exact h2.elim
    | some e =>
      rw [e1, e2] at h2
      dsimp only at h2
      cases e3 : idxD d e with
      | none => rw [e3] at h2; exact h2.elim
      | some m =>
        rw [e3] at h2
        exact ⟨Fb Z ρ2 σ, d, e, _, fun a z => P2.conc.fb z, peek_op P1.res P2.x e1, peek_op P2.res (.refl P2.conc) e2, by show Option.map Res.val (idxD d e) = _; rw [e3]; rfl, fun v H' n => h2 v H' ((P1.x.seq P2.x).post (post_new P2.conc n))⟩
/-- a slice's bound -/
def tSO (K : PySem.W.Frag) (Wx : WX) (f : PL.Env → Out (Option Int)) : TO := fun σ H Q => ∃ B Z ρ, Conc K B Z ρ σ H ∧ tOut (f ρ) (fun o ρ' => ∀ H', PostX K B Z ρ ρ' σ H H' → Q o H') (Gx K Wx B Z ρ σ H)
def SO (X : Cx) (Wx : WX) (e : Option Expr) (f : PL.Env → Out (Option Int)) : Prop := PO X e (tSO X.K Wx f)
theorem po_mono {e : Option Expr} {t t' : TO} (h : PO X e t) (i : ∀ σ H Q, t' σ H Q → t σ H Q) : PO X e t' := ⟨fun pins s σ H Q I q => h.run pins s σ H Q I (i σ H Q q)⟩
theorem so_none : SO X Wx none (fun ρ => .ok none ρ) := po_mono po_none fun σ H Q ⟨B, Z, ρ, C, h⟩ => h H (.refl C)
theorem so_some (ha : SE X Wx a fa) : SO X Wx (some a) (fun ρ => bind (fa ρ) intR) := by
  refine po_mono (po_some ha) fun σ H Q ⟨B, Z, ρ, C, h⟩ => ?_
  refine sub_run C h (fun _ _ z => z) fun r ρ1 x H1 P1 h1 => ?_
  unfold intR at h1
  cases r with
  | val d =>
    cases d with
    | int i =>
      have o : Op X.K (Fb Z ρ1 σ) H1 x (.int i) := .rp P1.res.2
      exact ⟨i, o.int, h1 H1 P1.x⟩
    | _ => exact h1.elim
  | _ => exact h1.elim
theorem so_run {K : PySem.W.Frag} {B Z : Addr → Prop} {ρ : PL.Env} {σ : L2.St} {H : Hp} {β : Type} {fo : PL.Env → Out (Option Int)} {k : Option Int → PL.Env → Out β} {Qok : β → PL.Env → Prop} {Qx : Str → PL.Env → Prop} {T : Option Int → Hp → Prop}
    (C : Conc K B Z ρ σ H) (h : tOut (bind (fo ρ) k) Qok Qx) (hx : ∀ c ρ', Qx c ρ' → Gx K Wx B Z ρ σ H c ρ')
    (next : ∀ o ρ1 H1, PostX K B Z ρ ρ1 σ H H1 → tOut (k o ρ1) Qok Qx → T o H1) : tSO K Wx fo σ H T := by
  refine ⟨B, Z, ρ, C, ?_⟩
  cases e : fo ρ with
  | ok r ρ1 =>
    rw [e] at h
    exact fun H1 p => next r ρ1 H1 p h
  | exc c ρ1 =>
    rw [e] at h
    exact hx c ρ1 h
  | stuck =>
    rw [e] at h
    exact h
theorem se_sli {lo hi : Option Expr} {fl fh : PL.Env → Out (Option Int)} (ok : XOk X) (ha : SE X Wx a fa) (hl : SO X Wx lo fl) (hh : SO X Wx hi fh) :
    SE X Wx (.Subscript a (.Slice lo hi none p2) pos) (fun ρ => bind (fa ρ) fun ra ρ1 => bind (fl ρ1) fun l ρ2 => bind (fh ρ2) fun u ρ3 => sliR ra l u ρ3) := by
  refine pe_mono (pe_slice (sl_op ok) ha hl hh) fun σ H Q ⟨B, Z, ρ, C, h⟩ => ?_
  refine sub_run C h (fun _ _ z => z) fun ra ρ1 x H1 P1 h1 => so_run P1.conc h1 (fun c ρ' z => z.step P1.x) fun l ρ2 H2 P2 h2 => so_run P2.conc h2 (fun c ρ' z => z.step (P1.x.seq P2)) fun u ρ3 H3 P3 h3 => ?_
  unfold sliR at h3
  cases e1 : peek ρ3 ra with
  | none => rw [e1] at h3; exact h3.elim
  | some d =>
    rw [e1] at h3
    obtain ⟨r, e3, q⟩ := h3.ofO
    exact ⟨Fb Z ρ3 σ, d, r, fun a z => P3.conc.fb z, peek_op P1.res (P2.seq P3) e1, e3, fun v H' n => q v H' ((P1.x.seq (P2.seq P3)).post (post_new P3.conc n))⟩
end

/-! ### methods that change a list of one's own -/
section
variable {K : PySem.W.Frag} {B Z : Addr → Prop} {ρ : PL.Env} {σ : L2.St} {H : Hp}
theorem set_sub {i : Nat} {io : Bool} {d d' : PyData} (h : ρ[i]? = some (.h io d)) : Sub ρ (ρ.set i (.h io d')) := fun j io' e z => by
  rcases set_get z with ⟨rfl, w⟩ | ⟨_, z⟩
  · cases w; exact ⟨d, h⟩
  · exact ⟨e, z⟩
theorem Conc.write (C : Conc K B Z ρ σ H) {i : Nat} {io : Bool} {d d' : PyData} {a : Addr} {o : HO} (h : ρ[i]? = some (.h io d)) (ha : σ[i]? = some (some (.ref a))) (ow : Own K (Fb Z ρ σ) (upd H a o) a d') :
    PostX K B Z ρ (ρ.set i (.h io d')) σ H (upd H a o) := by
  have hot : HotAt ρ σ a := ⟨i, io, d, h, ha⟩
  have sub : Sub ρ (ρ.set i (.h io d')) := set_sub h
  obtain ⟨o0, h0, pl⟩ : ∃ o0, H a = some o0 ∧ Plain a o0 := by
    obtain ⟨b, e1, _, _, w⟩ := C.hot i io d h
    rw [ha] at e1
    cases e1
    exact w.plain
  have no : NTb o := by
    obtain ⟨o1, h1, p1⟩ := ow.plain
    rw [upd_same] at h1
    cases h1
    exact p1.1
  have kp : Keeps (Fb Z ρ σ) H (upd H a o) := Keeps.put h0 pl no (.inr hot)
  have li : i < ρ.length := by
    rcases Nat.lt_or_ge i ρ.length with l | l
    · exact l
    · rw [List.getElem?_eq_none l] at h; cases h
  refine ⟨Keeps.put h0 pl no hot, sub, fun j e z => ?_, fun j io' e z => ?_, fun j k io1 io2 d1 d2 b h1 h2 s1 s2 => ?_, fun b z => kp.there b (C.tr b z), fun b z => kp.there b (C.trB b z), by rw [List.length_set]; exact C.len, kp.tab C.tabs⟩
  · rcases set_get z with ⟨_, z⟩ | ⟨_, z⟩
    · cases z
    · obtain ⟨w, e1, r⟩ := C.cold j e z
      exact ⟨w, e1, r.move kp (fb_sub sub.hot)⟩
  · rcases set_get z with ⟨rfl, w⟩ | ⟨ne, z⟩
    · cases w
      obtain ⟨b, e1, n, nb, _⟩ := C.hot i io d h
      rw [ha] at e1
      cases e1
      exact ⟨a, ha, n, nb, ow.move Keeps.refl (fb_sub sub.hot) fun u e _ => e⟩
    · obtain ⟨b, e1, n, nb, ob⟩ := C.hot j io' e z
      refine ⟨b, e1, n, nb, ob.move kp (fb_sub sub.hot) fun u eu _ => ?_⟩
      rw [upd_ne (fun q => ne (C.inj i j io io' d e a h z ha (by rw [← q]; exact e1)))]
      exact eu
  · obtain ⟨e1, h1⟩ := sub j io1 d1 h1
    obtain ⟨e2, h2⟩ := sub k io2 d2 h2
    exact C.inj j k io1 io2 e1 e2 b h1 h2 s1 s2
end
end
end PL

set_option autoImplicit false
set_option linter.all false
set_option Elab.async false
set_option maxRecDepth 100000
set_option maxHeartbeats 1000000
/-! PL8: methods that change a list of one's own. -/
namespace PL
open PySem PySem.Spec PyProof.Rows L2
variable [TabL]
section
variable {X : Cx} {Wx : WX}
def rMt (K : PySem.W.Frag) (m : Me) : V → List V → Hp → VK → Prop := fun x vs H Q => ∃ (Y : Addr → Prop) (a : Addr) (xs : List V) (es ds : List PyData) (y d' : PyData), x = .ref a ∧ Y a ∧ H a = some (.lst xs) ∧ RpA K Y H xs es ∧ RpA K Y H vs ds ∧
  metM m (.list es) ds = some (y, d') ∧ ∀ v o, Own K Y (upd H a o) a d' → Rp K Y (upd H a o) v y → Q v (upd H a o)
theorem own_new {K : PySem.W.Frag} {Y : Addr → Prop} {H : Hp} {a : Addr} {xs zs : List V} {ds : List PyData} (h0 : H a = some (.lst zs)) (hY : Y a) (r : RpA K Y H xs ds) : Own K Y (upd H a (.lst xs)) a (.list ds) :=
  ⟨xs, upd_same, r.move (Keeps.put h0 plain_lst ntb_lst hY) fun _ z => z⟩
theorem RpA.nil' {K : PySem.W.Frag} {Y : Addr → Prop} {H : Hp} {vs : List V} (r : RpA K Y H vs []) : vs = [] := by cases r; rfl
theorem RpA.one' {K : PySem.W.Frag} {Y : Addr → Prop} {H : Hp} {vs : List V} {d : PyData} (r : RpA K Y H vs [d]) : ∃ v, vs = [v] ∧ Rp K Y H v d := by
  cases r with
  | cons a b => rw [b.nil']; exact ⟨_, rfl, a⟩
theorem mtm_append : MtR X "list.append" (rMt X.K .append) := by
  rintro pins s σ H x vs v us Q I rx rv ⟨Y, a, xs, es, ds, y, d', rfl, hY, hH, r, rd, h, q⟩
  match ds, rd, h with
  | [], _, h => cases h
  | _ :: _ :: _, _, h => cases h
  | [d], rd, h =>
    obtain ⟨z, rfl, rz⟩ := rd.one'
    by_cases hz : szOk es.length = true
    · rw [metM, if_pos hz] at h
      cases h
      refine mt_append pins s σ H _ _ v us Q I rx rv ⟨a, xs, z, rfl, rfl, hH, by rw [r.length]; exact szOk_lt hz, q _ _ (own_new hH hY (r.append (.cons rz .nil))) .non⟩
    · rw [metM, if_neg hz] at h
      cases h
theorem mtm_extend : MtR X "list.extend" (rMt X.K .extend) := by
  rintro pins s σ H x vs v us Q I rx rv ⟨Y, a, xs, es, ds, y, d', rfl, hY, hH, r, rd, h, q⟩
  match ds, rd, h with
  | [], _, h => cases h
  | _ :: _ :: _, _, h => exact absurd h (by simp [metM])
  | [d], rd, h =>
    obtain ⟨z, rfl, rz⟩ := rd.one'
    cases d with
    | list ys =>
      by_cases hz : szOk (es.length + ys.length) = true
      · rw [metM, if_pos hz] at h
        cases h
        cases rz with
        | @lst b zs _ nb hb rb =>
          cases rx
          obtain ⟨u, rfl, ru⟩ := L2.Vals.one rv
          cases ru
          obtain ⟨z, its, n, ri, hl, e⟩ := I.lstM hH
          obtain ⟨z2, its2, n2, r2, e2⟩ := rd_list I hb
          have hle := szOk_le hz
          have hl2 := r2.length
          have len1 := r.length
          have len2 := rb.length
          have hsz : its.toArray.size + its2.toArray.size ≤ sizeLine := by rw [List.size_toArray, List.size_toArray]; omega
          have hlong : ¬ (!its.toArray.isEmpty && Builtin.List.listTooLong (its.toArray.size + its2.toArray.size)) = true := by
            rw [notLongL hsz, Bool.and_false]
            exact Bool.false_ne_true
          refine call_meets F.slot_list_extend ⟨_, e, rfl⟩ F.entry_list_extend (F.args_list_extend_2 _ _)
            (AutoSeq1.list_extend_list_list_0 a its.toArray n b its2.toArray n2 hlong (by rw [List.size_toArray]; omega) (by omega)) ⟨e, e2, ?_⟩
          refine ⟨.non, _, I.lset (its' := its ++ its2) hH e (by simp) (ri.append r2) ?_, rfl, q _ _ (own_new hH hY (r.append rb)) .non⟩
          rw [List.length_append]
          omega
      · rw [metM, if_neg hz] at h
        cases h
    | _ => cases h
theorem mtm_pop : MtR X "list.pop" (rMt X.K .pop) := by
  rintro pins s σ H x vs v us Q I rx rv ⟨Y, a, xs, es, ds, y, d', rfl, hY, hH, r, rd, h, q⟩
  match ds, rd, h with
  | [], rd, h =>
    cases rd.nil'
    rw [metM] at h
    cases e : es[es.length - 1]? with
    | none => rw [e] at h; cases h
    | some w =>
      rw [e] at h
      cases h
      obtain ⟨v', e1, r1⟩ := r.get e
      have e1' : xs[xs.length - 1]? = some v' := by rw [r.length]; exact e1
      exact mt_pop pins s σ H _ _ v us Q I rx rv ⟨a, xs, v', rfl, rfl, hH, e1', q _ _ (own_new hH hY r.dropLast) (r1.move (Keeps.put hH plain_lst ntb_lst hY) fun _ z => z)⟩
  | _ :: _ :: _, _, h => exact absurd h (by simp [metM])
  | [d], rd, h =>
    obtain ⟨z, rfl, rz⟩ := rd.one'
    cases d with
    | int i =>
      cases rz
      rw [metM] at h
      cases e : ixD es.length i with
      | none => rw [e] at h; cases h
      | some j =>
        rw [e] at h
        dsimp only [Option.bind_some] at h
        cases e2 : es[j]? with
        | none => rw [e2] at h; cases h
        | some w =>
          rw [e2] at h
          cases h
          obtain ⟨v', e1, r1⟩ := r.get e2
          rw [ix_eq, ← r.length] at e
          obtain ⟨k1, k2, k3, k4⟩ := ixN_seq e
          have hz := (I.lstM hH).1
          have hn := line63
          exact mt_popAt pins s σ H _ _ v us Q I rx rv ⟨a, xs, i, j, v', rfl, rfl, hH, by omega, by omega, k1, e1, q _ _ (own_new hH hY (r.eraseIdx j)) (r1.move (Keeps.put hH plain_lst ntb_lst hY) fun _ z => z)⟩
    | _ => cases h

/-! ### o.m(..) as an expression -/
section
variable {o e : Expr} {es : List Expr} {name : Str} {apos cpos : Pos} {fo : PL.Env → Out Res} {fc : PL.Env → Out (List PyData)} {m : Me} {id : String}
/-- what stands ahead of an attribute: no call of super -/
def plainBase : Expr → Bool
  | .Call .. => false
  | _ => true
theorem plain_base {o : Expr} {name : Str} {env : PySem.Env} (h : plainBase o = true) : attributeBase o name env (eval o env) = eval o env := by
  cases o <;> first | rfl | cases h
theorem recv_hot {m : Me} {ro : Res} {ρ : PL.Env} (hm : isMut m = true) (hu : isUpd m = false) (h : recvOk m ro ρ = true) : ∃ i io ds, ro = .ref i ∧ gets ρ i = .h io (.list ds) := by
  unfold recvOk at h
  rw [if_pos hm] at h
  cases ro with
  | ref i =>
    dsimp only at h
    cases e : gets ρ i with
    | h io d =>
      rw [e] at h
      dsimp only at h
      cases d with
      | list ds => exact ⟨i, io, ds, rfl, e⟩
      | dict ds => rw [recvD, hu] at h; cases h
      | _ => cases h
    | _ => rw [e] at h; cases h
  | _ => cases h
theorem met_run {K : PySem.W.Frag} {B Z : Addr → Prop} {ρ ρ1 ρ2 : PL.Env} {σ : L2.St} {H H1 H2 : Hp} {x : V} {vs : List V} {ro : Res} {ds : List PyData} {Q : VK} (hm : isMut m = true) (hu : isUpd m = false) (P1 : Post K B Z ρ ρ1 σ H H1 x ro) (P2 : PostX K B Z ρ1 ρ2 σ H1 H2) (rp : RpA K (Fb Z ρ2 σ) H2 vs ds)
    (h : tOut (metR m ro ds ρ2) (fun r ρ' => ∀ v H', Post K B Z ρ ρ' σ H H' v r → Q v H') (Gx K Wx B Z ρ σ H)) : rMt K m x vs H2 Q := by
  unfold metR at h
  rw [if_pos hm] at h
  cases ro with
  | ref i =>
    dsimp only at h
    cases e : gets ρ2 i with
    | h io d =>
      rw [e] at h
      dsimp only at h
      cases e2 : metM m d ds with
      | none => rw [e2] at h; exact h.elim
      | some p =>
        obtain ⟨y, d'⟩ := p
        rw [e2] at h
        have hs := gets_some e (by intro z; cases z)
        obtain ⟨a, e3, n, nb, ow⟩ := P2.conc.hot i io d hs
        have hv : σ[i]? = some (some x) := P1.res.1
        rw [hv] at e3
        cases e3
        cases d with
        | list es =>
          obtain ⟨xs, hH, r⟩ := ow
          refine ⟨Fb Z ρ2 σ, a, xs, es, ds, y, d', rfl, .inr ⟨i, io, _, hs, hv⟩, hH, r, rp, e2, fun v o ow' rv => ?_⟩
          have W := P2.conc.write hs hv ow'
          exact h v _ ((P1.x.seq (P2.seq W)).post (post_val W.conc (rv.less (fb_sub W.sub))))
        | dict kvs => exact absurd e2 (by cases m <;> first | (cases hu; done) | simp [metM])
        | _ => exact ow.elim
    | _ => rw [e] at h; exact h.elim
  | _ => exact h.elim
theorem recv_ty {K : PySem.W.Frag} {B Z : Addr → Prop} {ρ1 : PL.Env} {σ : L2.St} {H1 : Hp} {x : V} {ro : Res} (hm : isMut m = true) (hu : isUpd m = false) (p : PostR K B Z ρ1 σ H1 x ro) (h : recvOk m ro ρ1 = true) : tyV K "list" x H1 := by
  obtain ⟨i, io, es, rfl, e⟩ := recv_hot hm hu h
  obtain ⟨a, e3, n, nb, xs, hH, r⟩ := p.2.hot i io _ (gets_some e (by intro z; cases z))
  have hv : σ[i]? = some (some x) := p.1
  rw [hv] at e3
  cases e3
  exact .inl ⟨rfl, xs, SqL.of hH⟩
theorem se_metM (hm : isMut m = true) (hu : isUpd m = false) (slot : PySem.Slot "list" name id) (hty : typeOf (.builtin id) = pure (.type "method_descriptor")) (hr : MtR X id (rMt X.K m)) (ho : SE X Wx o fo) (ha : SC X Wx (e :: es) fc)
    (hb : plainBase o = true) (hs : (e :: es).all unstar = true) (hn : decide ((e :: es).length < 30) = true) (hline : (apos.endLine == cpos.line) = true) :
    SE X Wx (.Call (.Attribute o name apos) (e :: es) [] cpos) (fun ρ => bind (fo ρ) fun ro ρ1 => if recvOk m ro ρ1 then bind (fc ρ1) fun ds ρ2 => metR m ro ds ρ2 else .stuck) := by
  have hs' := hs
  rw [List.all_cons, Bool.and_eq_true] at hs'
  have few : ∀ {es : List Expr}, es.all unstar = true → (backTo cpos (starEach es X.env)).all (fun x => !x.1) = true := by
    intro es
    induction es with
    | nil => intro _; rfl
    | cons a r ih =>
      intro h
      rw [List.all_cons, Bool.and_eq_true] at h
      rw [star_cons h.1]
      exact ih h.2
  refine pe_mono (pe_bm PySem.F.plainAttrs_list slot hty hr ho ha (plain_base hb) ?_ hline (star_cons hs'.1) (star_any hs'.2)) fun σ H Q ⟨B, Z, ρ, C, h⟩ => ?_
  · rw [few hs]
    show (true && true && decide ((e :: es).length + 0 + 0 < 30)) = true
    simpa using hn
  · refine sub_run C h (fun _ _ z => z) fun ro ρ1 x H1 P1 h1 => ?_
    by_cases hk : recvOk m ro ρ1 = true
    · rw [if_pos hk] at h1
      refine ⟨recv_ty hm hu P1.res hk, sc_run P1.conc h1 (fun c ρ' z => z.step P1.x) fun ds ρ2 vs H2 P2 rp h2 => met_run hm hu P1 P2 rp h2⟩
    · rw [if_neg hk] at h1
      exact h1.elim
theorem se_metM0 (hm : isMut m = true) (hu : isUpd m = false) (slot : PySem.Slot "list" name id) (hty : typeOf (.builtin id) = pure (.type "method_descriptor")) (hr : MtR X id (rMt X.K m)) (ho : SE X Wx o fo)
    (hb : plainBase o = true) (hline : (apos.endLine == cpos.line) = true) :
    SE X Wx (.Call (.Attribute o name apos) [] [] cpos) (fun ρ => bind (fo ρ) fun ro ρ1 => if recvOk m ro ρ1 then bind (.ok [] ρ1) fun ds ρ2 => metR m ro ds ρ2 else .stuck) := by
  refine pe_mono (pe_bm0 PySem.F.plainAttrs_list slot hty hr ho (plain_base hb) hline) fun σ H Q ⟨B, Z, ρ, C, h⟩ => ?_
  refine sub_run C h (fun _ _ z => z) fun ro ρ1 x H1 P1 h1 => ?_
  by_cases hk : recvOk m ro ρ1 = true
  · rw [if_pos hk] at h1
    exact ⟨recv_ty hm hu P1.res hk, met_run hm hu P1 (.refl P1.conc) .nil h1⟩
  · rw [if_neg hk] at h1
    exact h1.elim
end
end
end PL

set_option autoImplicit false
set_option linter.all false
set_option Elab.async false
set_option maxRecDepth 100000
set_option maxHeartbeats 1000000
/-! PL9: the slots change. -/
namespace PL
open PySem PySem.Spec PyProof.Rows L2
variable [TabL]
section
variable {K : PySem.W.Frag} {Y Y' : Addr → Prop} {H H' : Hp}
theorem rdThere {a : Addr} {u : HO} (r : Rd H a u) (t : NTb u) (h : ¬ Thr H a) : False := by
  rcases r with r | ⟨o, r⟩
  · exact h ⟨_, r, t⟩
  · exact h ⟨_, r, ntb_frz⟩
mutual
/-- what is newly forbidden did not stand -/
theorem Rp.shift (k : Keeps Y H H') (hY : ∀ a, Y' a → Y a ∨ ¬ Thr H a) : ∀ {v : V} {d : PyData}, Rp K Y H v d → Rp K Y' H' v d
  | _, _, .non => .non
  | _, _, .bl b => .bl b
  | _, _, .int i => .int i
  | _, _, .str x => .str x
  | _, _, .tup n r a => .tup (fun z => (hY _ z).elim n (rdThere r ntb_tup)) (rdKeeps k n r ntb_tup) (a.shift k hY)
  | _, _, .tupK r a => .tupK r (a.shift k hY)
  | _, _, .lst n r a => .lst (fun z => (hY _ z).elim n (rdThere r ntb_lst)) (rdKeeps k n r ntb_lst) (a.shift k hY)
  | _, _, .dct n r a b => .dct (fun z => (hY _ z).elim n fun z => z r.thr) (r.move fun o e t => k.old _ o e t n) (a.shift k hY) (b.shift k hY)
theorem RpA.shift (k : Keeps Y H H') (hY : ∀ a, Y' a → Y a ∨ ¬ Thr H a) : ∀ {v : List V} {d : List PyData}, RpA K Y H v d → RpA K Y' H' v d
  | _, _, .nil => .nil
  | _, _, .cons a b => .cons (a.shift k hY) (b.shift k hY)
end
theorem Own.shift {a : Addr} {d : PyData} (o : Own K Y H a d) (k : Keeps Y H H') (hY : ∀ a, Y' a → Y a ∨ ¬ Thr H a) (ha : ∀ u, H a = some u → NTb u → H' a = some u) : Own K Y' H' a d := by
  cases d with
  | list ds =>
    obtain ⟨xs, e, r⟩ := o
    exact ⟨xs, ha _ e ntb_lst, r.shift k hY⟩
  | dict kvs =>
    obtain ⟨ps, e, r, r2⟩ := o
    exact ⟨ps, e.move ha, r.shift k hY, r2.shift k hY⟩
  | _ => exact o.elim
end
/-- behind a statement -/
structure PostS (K : PySem.W.Frag) (B Z : Addr → Prop) (ρ ρ' : PL.Env) (σ σ' : L2.St) (H H' : Hp) : Prop where
  keep : Keeps (HotAt ρ σ) H H'
  sub : ∀ a, HotAt ρ' σ' a → HotAt ρ σ a ∨ ¬ Thr H a
  io : ∀ (i : Nat) (d' : PyData), ρ'[i]? = some (Slot.h true d') → (∃ d, ρ[i]? = some (Slot.h true d)) ∧ σ'[i]? = σ[i]?
  conc : Conc K B Z ρ' σ' H'
section
variable {K : PySem.W.Frag} {B Z : Addr → Prop} {ρ ρ1 ρ2 : PL.Env} {σ σ1 σ2 : L2.St} {H H1 H2 : Hp} {v : V} {d : PyData}
theorem PostX.s (p : PostX K B Z ρ ρ1 σ H H1) : PostS K B Z ρ ρ1 σ σ H H1 := ⟨p.keep, fun a z => .inl (p.sub a z), fun i d e => by
  obtain ⟨d1, e1⟩ := p.sl i true d e
  exact ⟨⟨d1, e1⟩, rfl⟩, p.conc⟩
theorem PostS.refl (C : Conc K B Z ρ σ H) : PostS K B Z ρ ρ σ σ H H := (PostX.refl C).s
theorem PostS.seq (p : PostS K B Z ρ ρ1 σ σ1 H H1) (q : PostS K B Z ρ1 ρ2 σ1 σ2 H1 H2) : PostS K B Z ρ ρ2 σ σ2 H H2 := by
  refine ⟨⟨fun a o e t n => q.keep.old a o (p.keep.old a o e t n) t fun z => (p.sub a z).elim n (fun z => z ⟨o, e, t⟩), fun a z => q.keep.there a (p.keep.there a z), fun t => q.keep.tab (p.keep.tab t)⟩, fun a z => ?_, fun i d e => ?_, q.conc⟩
  · rcases q.sub a z with z | z
    · exact p.sub a z
    · exact .inr (p.keep.notnew z)
  · obtain ⟨⟨d1, e1⟩, s1⟩ := q.io i d e
    obtain ⟨e2, s2⟩ := p.io i d1 e1
    exact ⟨e2, s1.trans s2⟩
theorem PostS.fb (p : PostS K B Z ρ ρ1 σ σ1 H H1) : ∀ a, Fb Z ρ1 σ1 a → Fb Z ρ σ a ∨ ¬ Thr H a := fun a z => by
  rcases z with z | z
  · exact .inl (.inl z)
  · exact (p.sub a z).imp .inr id
theorem PostS.kfb (p : PostS K B Z ρ ρ1 σ σ1 H H1) : Keeps (Fb Z ρ σ) H H1 := keep_fb p.keep
theorem setO_get {i j : Nat} {v : V} {x : Option V} (h : (σ.set i (some v))[j]? = some x) : (i = j ∧ x = some v) ∨ (i ≠ j ∧ σ[j]? = some x) := by
  by_cases e : i = j
  · subst e
    by_cases l : i < σ.length
    · rw [List.getElem?_set_self l] at h
      exact .inl ⟨rfl, (Option.some.inj h).symm⟩
    · rw [List.getElem?_eq_none (by rw [List.length_set]; omega)] at h
      cases h
  · rw [List.getElem?_set_ne e] at h
    exact .inr ⟨e, h⟩
theorem get_len {α : Type} {l : List α} {i : Nat} {x : α} (h : l[i]? = some x) : i < l.length := by
  rcases Nat.lt_or_ge i l.length with z | z
  · exact z
  · rw [List.getElem?_eq_none z] at h; cases h
theorem hot_setC {i : Nat} {a : Addr} (h : HotAt (ρ.set i (.c d)) (σ.set i (some v)) a) : HotAt ρ σ a := by
  obtain ⟨j, io, e, h1, h2⟩ := h
  rcases set_get h1 with ⟨_, z⟩ | ⟨ne, z⟩
  · cases z
  · rw [List.getElem?_set_ne ne] at h2
    exact ⟨j, io, e, z, h2⟩
/-- data into a slot -/
theorem Conc.setC (C : Conc K B Z ρ σ H) (i : Nat) (r : Rp K (Fb Z ρ σ) H v d) : PostS K B Z ρ (ρ.set i (.c d)) σ (σ.set i (some v)) H H := by
  have sub : ∀ a, HotAt (ρ.set i (.c d)) (σ.set i (some v)) a → HotAt ρ σ a := fun a ⟨j, io, e, h1, h2⟩ => by
    rcases set_get h1 with ⟨_, z⟩ | ⟨ne, z⟩
    · cases z
    · rw [List.getElem?_set_ne ne] at h2
      exact ⟨j, io, e, z, h2⟩
  refine ⟨Keeps.refl, fun a z => .inl (sub a z), fun j e h => ?_, fun j e h => ?_, fun j io e h => ?_, fun j k io1 io2 d1 d2 a h1 h2 s1 s2 => ?_, C.tr, C.trB, by rw [List.length_set, List.length_set]; exact C.len, C.tabs⟩
  · rcases set_get h with ⟨_, z⟩ | ⟨ne, z⟩
    · cases z
    · exact ⟨⟨e, z⟩, by rw [List.getElem?_set_ne ne]⟩
  · rcases set_get h with ⟨rfl, z⟩ | ⟨ne, z⟩
    · cases z
      have l : i < σ.length := Nat.lt_of_lt_of_le (by have := get_len h; rw [List.length_set] at this; exact this) C.len
      exact ⟨v, by rw [List.getElem?_set_self l], r.less (fun a z => z.imp id (sub a))⟩
    · obtain ⟨w, e1, r1⟩ := C.cold j e z
      exact ⟨w, by rw [List.getElem?_set_ne ne]; exact e1, r1.less (fun a z => z.imp id (sub a))⟩
  · rcases set_get h with ⟨_, z⟩ | ⟨ne, z⟩
    · cases z
    · obtain ⟨a, e1, n, nb, o⟩ := C.hot j io e z
      exact ⟨a, by rw [List.getElem?_set_ne ne]; exact e1, n, nb, o.move Keeps.refl (fun a z => z.imp id (sub a)) fun u e _ => e⟩
  · rcases set_get h1 with ⟨_, z⟩ | ⟨n1, z1⟩
    · cases z
    · rcases set_get h2 with ⟨_, z⟩ | ⟨n2, z2⟩
      · cases z
      · rw [List.getElem?_set_ne n1] at s1
        rw [List.getElem?_set_ne n2] at s2
        exact C.inj j k io1 io2 d1 d2 a z1 z2 s1 s2
/-- a thing of one's own into a slot -/
theorem Conc.setH {p : Addr} (C : Conc K B (Plus p Z) ρ σ H) (i : Nat) (nz : ¬ Z p) (nb : ¬ B p) (o : Own K (Fb (Plus p Z) ρ σ) H p d) : Conc K B Z (ρ.set i (.h false d)) (σ.set i (some (.ref p))) H ∧
    (∀ a, Fb Z (ρ.set i (.h false d)) (σ.set i (some (.ref p))) a → Fb (Plus p Z) ρ σ a) ∧ (∀ a, HotAt (ρ.set i (.h false d)) (σ.set i (some (.ref p))) a → a = p ∨ HotAt ρ σ a) := by
  have sub : ∀ a, HotAt (ρ.set i (.h false d)) (σ.set i (some (.ref p))) a → a = p ∨ HotAt ρ σ a := fun a ⟨j, io, e, h1, h2⟩ => by
    rcases set_get h1 with ⟨rfl, z⟩ | ⟨ne, z⟩
    · rcases setO_get h2 with ⟨_, z⟩ | ⟨ne, _⟩
      · cases z; exact .inl rfl
      · exact absurd rfl ne
    · rw [List.getElem?_set_ne ne] at h2
      exact .inr ⟨j, io, e, z, h2⟩
  have fb : ∀ a, Fb Z (ρ.set i (.h false d)) (σ.set i (some (.ref p))) a → Fb (Plus p Z) ρ σ a := fun a z => by
    rcases z with z | z
    · exact .inl (.inr z)
    · exact (sub a z).imp .inl id
  refine ⟨⟨fun j e h => ?_, fun j io e h => ?_, fun j k io1 io2 d1 d2 a h1 h2 s1 s2 => ?_, fun a z => C.tr a (.inr z), C.trB, by rw [List.length_set, List.length_set]; exact C.len, C.tabs⟩, fb, sub⟩
  · rcases set_get h with ⟨_, z⟩ | ⟨ne, z⟩
    · cases z
    · obtain ⟨w, e1, r1⟩ := C.cold j e z
      exact ⟨w, by rw [List.getElem?_set_ne ne]; exact e1, r1.less fb⟩
  · rcases set_get h with ⟨rfl, z⟩ | ⟨ne, z⟩
    · cases z
      have l : i < σ.length := Nat.lt_of_lt_of_le (by have := get_len h; rw [List.length_set] at this; exact this) C.len
      exact ⟨p, by rw [List.getElem?_set_self l], nz, fun _ => nb, o.move Keeps.refl fb fun u e _ => e⟩
    · obtain ⟨a, e1, n, nb, o⟩ := C.hot j io e z
      exact ⟨a, by rw [List.getElem?_set_ne ne]; exact e1, fun z => n (.inr z), nb, o.move Keeps.refl fb fun u e _ => e⟩
  · rcases set_get h1 with ⟨rfl, z1⟩ | ⟨n1, z1⟩
    · rcases set_get h2 with ⟨e2, _⟩ | ⟨n2, z2⟩
      · exact e2
      · rcases setO_get s1 with ⟨_, z⟩ | ⟨ne, _⟩
        · cases z
          rw [List.getElem?_set_ne n2] at s2
          exact absurd ⟨k, io2, d2, z2, s2⟩ (C.nhot (.inl rfl))
        · exact absurd rfl ne
    · rw [List.getElem?_set_ne n1] at s1
      rcases set_get h2 with ⟨rfl, _⟩ | ⟨n2, z2⟩
      · rcases setO_get s2 with ⟨_, z⟩ | ⟨ne, _⟩
        · cases z
          exact absurd ⟨j, io1, d1, z1, s1⟩ (C.nhot (.inl rfl))
        · exact absurd rfl ne
      · rw [List.getElem?_set_ne n2] at s2
        exact C.inj j k io1 io2 d1 d2 a z1 z2 s1 s2
end
end PL

set_option autoImplicit false
set_option linter.all false
set_option Elab.async false
set_option maxRecDepth 100000
set_option maxHeartbeats 1000000
/-! PL10: statements. -/
namespace PL
open PySem PySem.Spec PyProof.Rows L2
variable [TabL]
def tSt (o : SOut) (Qn : PL.Env → Prop) (Qr : Slot → PL.Env → Prop) (Qx : Str → PL.Env → Prop) : Prop := match o with
  | .nx ρ => Qn ρ
  | .rt s ρ => Qr s ρ
  | .exc c ρ => Qx c ρ
  | .stuck => False
theorem tSt.mono {o : SOut} {Qn Qn' : PL.Env → Prop} {Qr Qr' : Slot → PL.Env → Prop} {Qx Qx' : Str → PL.Env → Prop} (h : tSt o Qn Qr Qx) (h1 : ∀ ρ, Qn ρ → Qn' ρ) (h2 : ∀ s ρ, Qr s ρ → Qr' s ρ) (h3 : ∀ c ρ, Qx c ρ → Qx' c ρ) : tSt o Qn' Qr' Qx' := by
  cases o with
  | nx ρ => exact h1 ρ h
  | rt s ρ => exact h2 s ρ h
  | exc c ρ => exact h3 c ρ h
  | stuck => exact h
/-- what is handed back -/
def RetV (K : PySem.W.Frag) (B Z : Addr → Prop) (ρ : PL.Env) (σ : L2.St) (H : Hp) (v : V) : Slot → Prop
  | .no => False
  | .c d => Rp K (Fb Z ρ σ) H v d
  | .h _ d => ∃ a, v = .ref a ∧ ¬ B a ∧ ¬ Z a ∧ Own K (fun b => b = a ∨ Fb Z ρ σ b) H a d ∧ ∀ (i : Nat) (io : Bool) (d' : PyData), ρ[i]? = some (Slot.h io d') → ∃ b, σ[i]? = some (some (.ref b)) ∧ Own K (fun b => b = a ∨ Fb Z ρ σ b) H b d'
def Gs (K : PySem.W.Frag) (Wx : WX) (B Z : Addr → Prop) (ρ : PL.Env) (σ : L2.St) (H : Hp) (c : Str) (ρ' : PL.Env) : Prop := ∀ σ' H', PostS K B Z ρ ρ' σ σ' H H' → Wx c σ' H'
theorem Gs.step {K : PySem.W.Frag} {Wx : WX} {B Z : Addr → Prop} {ρ ρ1 : PL.Env} {σ σ1 : L2.St} {H H1 : Hp} {c : Str} {ρ' : PL.Env} (g : Gs K Wx B Z ρ σ H c ρ') (p : PostS K B Z ρ ρ1 σ σ1 H H1) : Gs K Wx B Z ρ1 σ1 H1 c ρ' :=
  fun σ' H' q => g σ' H' (p.seq q)
theorem Gs.x {K : PySem.W.Frag} {Wx : WX} {B Z : Addr → Prop} {ρ : PL.Env} {σ : L2.St} {H : Hp} {c : Str} {ρ' : PL.Env} (g : Gs K Wx B Z ρ σ H c ρ') : Gx K Wx B Z ρ σ H c ρ' := fun H' p => g σ H' p.s
def tSS (K : PySem.W.Frag) (Wx : WX) (f : PL.Env → SOut) : TS := fun D σ H => ∃ B Z ρ, Conc K B Z ρ σ H ∧ tSt (f ρ) (fun ρ' => ∀ σ' H', PostS K B Z ρ ρ' σ σ' H H' → D.nx σ' H')
  (fun s ρ' => ∀ v σ' H', PostS K B Z ρ ρ' σ σ' H H' → RetV K B Z ρ' σ' H' v s → D.rt v H') (Gs K Wx B Z ρ σ H)
def SS (X : Cx) (Wx : WX) (st : Stmt) (f : PL.Env → SOut) : Prop := PS X st (tSS X.K Wx f)
def SSs (X : Cx) (Wx : WX) (sts : List Stmt) (f : PL.Env → SOut) : Prop := PSs X sts (tSS X.K Wx f)
theorem ps_mono {X : Cx} {st : Stmt} {t t' : TS} (h : PS X st t) (i : ∀ D σ H, t' D σ H → t D σ H) : PS X st t' := ⟨fun pins s σ H D I q => h.run pins s σ H D I (i D σ H q)⟩
theorem pss_mono {X : Cx} {st : List Stmt} {t t' : TS} (h : PSs X st t) (i : ∀ D σ H, t' D σ H → t D σ H) : PSs X st t' := ⟨fun pins s σ H D I q => h.run pins s σ H D I (i D σ H q)⟩
theorem pg_mono {X : Cx} {tg : Expr} {t t' : TG} (h : PG X tg t) (i : ∀ x σ H Q, t' x σ H Q → t x σ H Q) : PG X tg t' := ⟨fun pins s σ H v u Q I r q => h.run pins s σ H v u Q I r (i v σ H Q q)⟩
theorem pgs_mono {X : Cx} {tg : List Expr} {t t' : TGs} (h : PGs X tg t) (i : ∀ x σ H Q, t' x σ H Q → t x σ H Q) : PGs X tg t' := ⟨fun pins s σ H v u Q I r q => h.run pins s σ H v u Q I r (i v σ H Q q)⟩
section
variable {K : PySem.W.Frag} {Wx : WX} {B Z : Addr → Prop} {ρ ρ0 ρ1 : PL.Env} {σ : L2.St} {H H0 H1 : Hp} {α : Type} {Qn : PL.Env → Prop} {Qr : Slot → PL.Env → Prop} {Qx : Str → PL.Env → Prop}
theorem sub_runS {fa : PL.Env → Out Res} {k : Res → PL.Env → SOut} {T : V → Hp → Prop} (C : Conc K B Z ρ σ H) (h : tSt (sb (fa ρ) k) Qn Qr Qx) (hx : ∀ c ρ', Qx c ρ' → Gx K Wx B Z ρ σ H c ρ')
    (next : ∀ r ρ1 v H1, Post K B Z ρ ρ1 σ H H1 v r → tSt (k r ρ1) Qn Qr Qx → T v H1) : tSE K Wx fa σ H T := by
  refine ⟨B, Z, ρ, C, ?_⟩
  cases e : fa ρ with
  | ok r ρ1 =>
    rw [e] at h
    exact fun v H1 p => next r ρ1 v H1 p h
  | exc c ρ1 =>
    rw [e] at h
    exact hx c ρ1 h
  | stuck =>
    rw [e] at h
    exact h
theorem st_runS {ft : PL.Env → Out Bool} {k : Bool → PL.Env → SOut} {T : Bool → Hp → Prop} (C : Conc K B Z ρ σ H) (h : tSt (sb (ft ρ) k) Qn Qr Qx) (hx : ∀ c ρ', Qx c ρ' → Gx K Wx B Z ρ σ H c ρ')
    (next : ∀ b ρ1 H1, PostX K B Z ρ ρ1 σ H H1 → tSt (k b ρ1) Qn Qr Qx → T b H1) : tST K Wx ft σ H T := by
  refine ⟨B, Z, ρ, C, ?_⟩
  cases e : ft ρ with
  | ok r ρ1 =>
    rw [e] at h
    exact fun H1 p => next r ρ1 H1 p h
  | exc c ρ1 =>
    rw [e] at h
    exact hx c ρ1 h
  | stuck =>
    rw [e] at h
    exact h
theorem cold_runS {v : V} {r : Res} {k : PyData → PL.Env → SOut} {T : Prop} (p : PostR K B Z ρ σ H v r) (h : tSt (sb (PL.cold ρ r) k) Qn Qr Qx)
    (next : ∀ d ρ1, PostX K B Z ρ ρ1 σ H H → Rp K (Fb Z ρ1 σ) H v d → tSt (k d ρ1) Qn Qr Qx → T) : T := by
  cases e : PL.cold ρ r with
  | ok d ρ1 =>
    rw [e] at h
    obtain ⟨q1, q2⟩ := cold_ok p e
    exact next d ρ1 q1 q2 h
  | exc c ρ1 => exact (cold_exc e).elim
  | stuck =>
    rw [e] at h
    exact h.elim
theorem slot_cases {v : V} {r : Res} {hot : Bool} {s : Slot} {ρ2 : PL.Env} {T : Prop} (P : Post K B Z ρ0 ρ1 σ H0 H1 v r) (e : slotOf hot r ρ1 = .ok s ρ2)
    (nextC : ∀ d, s = .c d → PostX K B Z ρ0 ρ2 σ H0 H1 → Rp K (Fb Z ρ2 σ) H1 v d → T)
    (nextH : ∀ p d, ρ2 = ρ1 → s = .h false d → v = .ref p → ¬ Z p → ¬ B p → ¬ Thr H0 p → PostX K B Z ρ0 ρ1 σ H0 H1 → Conc K B (Plus p Z) ρ1 σ H1 → Own K (Fb (Plus p Z) ρ1 σ) H1 p d → T) : T := by
  have key : ∀ r', r = r' → bind (PL.cold ρ1 r') (fun d ρ1 => .ok (Slot.c d) ρ1) = .ok s ρ2 → T := fun r' er e => by
    subst er
    cases e2 : PL.cold ρ1 r with
    | ok d ρ3 =>
      rw [e2] at e
      cases e
      obtain ⟨q1, q2⟩ := cold_ok P.res e2
      exact nextC d rfl (P.x.seq q1) q2
    | exc c ρ3 => rw [e2] at e; cases e
    | stuck => rw [e2] at e; cases e
  cases hot with
  | false => exact key r rfl (by cases r <;> exact e)
  | true =>
    cases r with
    | fresh d =>
      cases e
      obtain ⟨p, ev, nz, nb, c, o⟩ := P.res
      exact nextH p d rfl rfl ev nz nb (P.nw d p rfl ev) P.x c o
    | val d => exact key _ rfl e
    | ref i => exact key _ rfl e
theorem slot_exc {r : Res} {hot : Bool} {c : Str} {ρ2 : PL.Env} (e : slotOf hot r ρ1 = .exc c ρ2) : False := by
  have key : ∀ r', bind (PL.cold ρ1 r') (fun d ρ1 => .ok (Slot.c d) ρ1) = .exc c ρ2 → False := fun r' e => by
    cases e2 : PL.cold ρ1 r' with
    | ok d ρ3 => rw [e2] at e; cases e
    | exc c ρ3 => exact cold_exc e2
    | stuck => rw [e2] at e; cases e
  cases hot with
  | false => exact key r (by cases r <;> exact e)
  | true =>
    cases r with
    | fresh d => cases e
    | val d => exact key (.val d) e
    | ref i => exact key (.ref i) e
theorem asg_post {v : V} {r : Res} {hot : Bool} {s : Slot} {ρ2 : PL.Env} (P : Post K B Z ρ0 ρ1 σ H0 H1 v r) (e : slotOf hot r ρ1 = .ok s ρ2) (i : Nat) : PostS K B Z ρ0 (ρ2.set i s) σ (σ.set i (some v)) H0 H1 := by
  refine slot_cases P e (fun d es px rp => ?_) fun p d e2 es ev nz nb hn px C o => ?_
  · subst es
    exact px.s.seq (px.conc.setC i rp)
  · subst e2 es ev
    obtain ⟨C', fb, sub⟩ := C.setH i nz nb o
    refine ⟨px.keep, fun a z => ?_, fun j d' h => ?_, C'⟩
    · rcases sub a z with z | z
      · exact .inr (by rw [z]; exact hn)
      · exact .inl (px.sub a z)
    · rcases set_get h with ⟨_, z⟩ | ⟨ne, z⟩
      · cases z
      · exact ⟨px.sl j true d' z, by rw [List.getElem?_set_ne ne]⟩
end
section
variable {X : Cx} {Wx : WX} {e : Expr} {fa : PL.Env → Out Res} {pos : Pos}
/-- name = e, however it is stored -/
theorem ss_asgT {st : Stmt} {i : Nat} {hot : Bool} (h : PS X st (tAsg (tSE X.K Wx fa) (gName i))) : SS X Wx st (fun ρ => sb (fa ρ) fun r ρ1 => sb (slotOf hot r ρ1) fun s ρ2 => .nx (ρ2.set i s)) := by
  refine ps_mono h fun D σ H ⟨B, Z, ρ, C, h⟩ => ?_
  refine sub_runS C h (fun _ _ z => z.x) fun r ρ1 v H1 P1 h1 => ?_
  cases e2 : slotOf hot r ρ1 with
  | ok s ρ2 =>
    rw [e2] at h1
    exact h1 _ H1 (asg_post P1 e2 i)
  | exc c ρ2 => exact (slot_exc e2).elim
  | stuck => rw [e2] at h1; exact h1.elim
def isComp : Expr → Bool
  | .ListComp .. | .SetComp .. | .DictComp .. => true
  | _ => false
theorem no_swap {e : Expr} {t : Option Expr} {l : Nat} {env : PySem.Env} (h : isComp e = false) : swapsWith e t l env = pure false := by
  cases e <;> first | rfl | cases h
theorem asg_set {i : Nat} {x : Str} {pos' : Pos} (hN : X.N.Nodup) (hi : X.N[i]? = some x) (hx : Loc X.env.scope x) (hf : X.fn x = true ∨ X.env.scope.names.lookup x = some .local) (he : SE X Wx e fa) (hs : swapsWith e (some (.Name x pos')) pos.line X.env = pure false) : PS X (.Assign [.Name x pos'] e pos) (tAsg (tSE X.K Wx fa) (gName i)) :=
  ps_set hN hi hx he hs hf
theorem ss_expr (he : SE X Wx e fa) (hs : isComp e = false) : SS X Wx (.Expr e pos) (fun ρ => sb (fa ρ) fun _ ρ1 => .nx ρ1) := by
  refine ps_mono (ps_expr he (no_swap hs)) fun D σ H ⟨B, Z, ρ, C, h⟩ => ?_
  exact sub_runS C h (fun _ _ z => z.x) fun r ρ1 v H1 P1 h1 => h1 σ H1 P1.x.s
theorem ss_pass : SS X Wx (.Pass pos) (fun ρ => .nx ρ) := ps_mono ps_pass fun D σ H ⟨B, Z, ρ, C, h⟩ => h σ H (.refl C)
theorem ss_ret (he : SE X Wx e fa) : SS X Wx (.Return (some e) pos) (fun ρ => sb (fa ρ) fun r ρ1 => retOf r ρ1) := by
  refine ps_mono (ps_ret he) fun D σ H ⟨B, Z, ρ, C, h⟩ => ?_
  refine sub_runS C h (fun _ _ z => z.x) fun r ρ1 v H1 P1 h1 => ?_
  unfold retOf at h1
  cases r with
  | val d => exact h1 v σ H1 P1.x.s P1.res.2
  | fresh d =>
    obtain ⟨a, ev, nz, nb, c, o⟩ := P1.res
    exact h1 v σ H1 P1.x.s ⟨a, ev, nb, nz, o.move Keeps.refl (fun b z => plus_fb z) fun u e _ => e, fun i io d' e => by
      obtain ⟨b, e1, _, _, ob⟩ := c.hot i io d' e
      exact ⟨b, e1, ob.move Keeps.refl (fun b z => plus_fb z) fun u e _ => e⟩⟩
  | ref i =>
    have hv : σ[i]? = some (some v) := P1.res.1
    dsimp only at h1
    cases e : gets ρ1 i with
    | no => rw [e] at h1; exact h1.elim
    | c d =>
      rw [e] at h1
      obtain ⟨w, e1, r⟩ := P1.conc.cold i d (gets_some e (by intro z; cases z))
      rw [hv] at e1
      cases e1
      exact h1 v σ H1 P1.x.s r
    | h io d =>
      cases io with
      | true => rw [e] at h1; exact h1.elim
      | false =>
        rw [e] at h1
        have hs := gets_some e (by intro z; cases z)
        obtain ⟨a, e1, nz, nb, o⟩ := P1.conc.hot i false d hs
        rw [hv] at e1
        cases e1
        have fb : ∀ b, (b = a ∨ Fb Z ρ1 σ b) → Fb Z ρ1 σ b := fun b z => z.elim (fun z => by rw [z]; exact .inr ⟨i, false, d, hs, hv⟩) id
        exact h1 (.ref a) σ H1 P1.x.s ⟨a, rfl, nb rfl, nz, o.move Keeps.refl fb fun u e _ => e, fun j io d' e => by
          obtain ⟨b, e1, _, _, ob⟩ := P1.conc.hot j io d' e
          exact ⟨b, e1, ob.move Keeps.refl fb fun u e _ => e⟩⟩
theorem ss_retN : SS X Wx (.Return none pos) (fun ρ => .rt (.c .none) ρ) := ps_mono ps_retN fun D σ H ⟨B, Z, ρ, C, h⟩ => h .non σ H (.refl C) .non
theorem ss_if {c : Expr} {a b : List Stmt} {fc : PL.Env → Out Bool} {ga gb : PL.Env → SOut} (hc : ST X Wx c fc) (ha : SSs X Wx a ga) (hb : SSs X Wx b gb) :
    SS X Wx (.If c a b pos) (fun ρ => sb (fc ρ) fun t ρ1 => if t then ga ρ1 else gb ρ1) := by
  refine ps_mono (ps_if hc ha hb) fun D σ H ⟨B, Z, ρ, C, h⟩ => ?_
  refine st_runS C h (fun _ _ z => z.x) fun t ρ1 H1 P1 h1 => ?_
  cases t with
  | true => exact (if_pos rfl).mpr ⟨B, Z, ρ1, P1.conc, tSt.mono h1 (fun ρ' q σ' H' p => q σ' H' (P1.s.seq p)) (fun s ρ' q v σ' H' p => q v σ' H' (P1.s.seq p)) fun c ρ' g => g.step P1.s⟩
  | false => exact (if_neg Bool.false_ne_true).mpr ⟨B, Z, ρ1, P1.conc, tSt.mono h1 (fun ρ' q σ' H' p => q σ' H' (P1.s.seq p)) (fun s ρ' q v σ' H' p => q v σ' H' (P1.s.seq p)) fun c ρ' g => g.step P1.s⟩
theorem sss_nil : SSs X Wx [] (fun ρ => .nx ρ) := pss_mono pss_nil fun D σ H ⟨B, Z, ρ, C, h⟩ => h σ H (.refl C)
theorem sss_cons {st : Stmt} {sts : List Stmt} {f g : PL.Env → SOut} (h1 : SS X Wx st f) (h2 : SSs X Wx sts g) : SSs X Wx (st :: sts) (fun ρ => match f ρ with | .nx ρ1 => g ρ1 | r => r) := by
  refine pss_mono (pss_cons h1 h2) fun D σ H ⟨B, Z, ρ, C, h⟩ => ?_
  refine ⟨B, Z, ρ, C, ?_⟩
  dsimp only at h
  cases e : f ρ with
  | nx ρ1 =>
    rw [e] at h
    exact fun σ1 H1 P1 => ⟨B, Z, ρ1, P1.conc, tSt.mono h (fun ρ' q σ' H' p => q σ' H' (P1.seq p)) (fun s ρ' q v σ' H' p => q v σ' H' (P1.seq p)) fun c ρ' g => g.step P1⟩
  | rt s ρ1 => rw [e] at h; exact h
  | exc c ρ1 => rw [e] at h; exact h
  | stuck => rw [e] at h; exact h
/-- a while -/
theorem ss_while {c : Expr} {b : List Stmt} {fc : PL.Env → Out Bool} {gb : PL.Env → SOut} {N : Nat} (hp : PassesOwn (model X.prog X.w) X.A X.env X.xe) (hc : ST X Wx c fc) (hb : SSs X Wx b gb) : SS X Wx (.While c b [] pos) (fun ρ => whileN fc gb N ρ) := by
  refine ps_mono (ps_while hp hc hb) fun D σ0 H0 ⟨B, Z, ρ0, C, h⟩ => ?_
  refine ⟨fun m σ H => ∃ ρ, PostS X.K B Z ρ0 ρ σ0 σ H0 H ∧ tSt (whileN fc gb m ρ) (fun ρ' => ∀ σ' H', PostS X.K B Z ρ0 ρ' σ0 σ' H0 H' → D.nx σ' H')
    (fun s ρ' => ∀ v σ' H', PostS X.K B Z ρ0 ρ' σ0 σ' H0 H' → RetV X.K B Z ρ' σ' H' v s → D.rt v H') (Gs X.K Wx B Z ρ0 σ0 H0), ⟨N, ρ0, .refl C, h⟩, ?_⟩
  rintro m σ H ⟨ρ, P, h⟩
  cases m with
  | zero => exact h.elim
  | succ m =>
    refine ⟨B, Z, ρ, P.conc, ?_⟩
    rw [whileN] at h
    cases e : fc ρ with
    | stuck => rw [e] at h; exact h.elim
    | exc c ρ1 =>
      rw [e] at h
      exact (Gs.step h P).x
    | ok t ρ1 =>
      rw [e] at h
      intro H1 P1
      have P2 := P.seq P1.s
      cases t with
      | false =>
        rw [if_neg Bool.false_ne_true]
        exact h σ H1 P2
      | true =>
        rw [if_pos rfl]
        refine ⟨fun σ' H' => ∃ ρ', PostS X.K B Z ρ0 ρ' σ0 σ' H0 H' ∧ tSt (whileN fc gb m ρ') (fun ρ' => ∀ σ' H', PostS X.K B Z ρ0 ρ' σ0 σ' H0 H' → D.nx σ' H')
          (fun s ρ' => ∀ v σ' H', PostS X.K B Z ρ0 ρ' σ0 σ' H0 H' → RetV X.K B Z ρ' σ' H' v s → D.rt v H') (Gs X.K Wx B Z ρ0 σ0 H0), fun σ' H' q => ⟨m, Nat.lt_succ_self m, q⟩, B, Z, ρ1, P1.conc, ?_⟩
        dsimp only at h
        cases e2 : gb ρ1 with
        | nx ρ2 =>
          rw [e2] at h
          exact fun σ' H' p => ⟨ρ2, P2.seq p, h⟩
        | rt s ρ2 =>
          rw [e2] at h
          exact fun v σ' H' p => h v σ' H' (P2.seq p)
        | exc c ρ2 =>
          rw [e2] at h
          exact Gs.step h P2
        | stuck =>
          rw [e2] at h
          exact h
end
end PL

set_option autoImplicit false
set_option linter.all false
set_option Elab.async false
set_option maxRecDepth 100000
set_option maxHeartbeats 1000000
/-! PL11: targets, stores, several names at once. -/
namespace PL
open PySem PySem.Spec PyProof.Rows L2
variable [TabL]
mutual
def tgIn (vs : List Nat) : Tg → Bool
  | .nm i => vs.contains i
  | .tp ts => tgsIn vs ts
def tgsIn (vs : List Nat) : List Tg → Bool
  | [] => true
  | t :: ts => tgIn vs t && tgsIn vs ts
end
theorem wipe_set {σ : L2.St} {i : Nat} {x : V} : ∀ {vs : List Nat}, i ∈ vs → wipe (σ.set i (some x)) vs = wipe σ vs
  | [], h => by cases h
  | v :: vs, h => by
    unfold wipe
    by_cases e : i ∈ vs
    · rw [wipe_set e]
    · have ev : i = v := by
        rcases List.mem_cons.mp h with h | h
        · exact h
        · exact absurd h e
      subst ev
      clear h
      have key : ∀ (ws : List Nat) (τ : L2.St), i ∉ ws → wipe (τ.set i (some x)) ws = (wipe τ ws).set i (some x) := by
        intro ws
        induction ws with
        | nil => intro τ _; rfl
        | cons w ws ih =>
          intro τ hn
          have h1 : i ≠ w := fun z => hn (by rw [z]; exact List.mem_cons_self)
          have h2 : i ∉ ws := fun z => hn (List.mem_cons_of_mem _ z)
          show (wipe (τ.set i (some x)) ws).set w none = ((wipe τ ws).set w none).set i (some x)
          rw [ih τ h2, List.set_comm _ _ h1]
      rw [key vs σ e, List.set_set]
section
variable {X : Cx} {Wx : WX} {pos : Pos}
def tSG (K : PySem.W.Frag) (T : Tg) : TG := fun x σ H Q => ∃ B Z ρ d ρ', Conc K B Z ρ σ H ∧ Rp K (Fb Z ρ σ) H x d ∧ asgT T d ρ = some ρ' ∧ ∀ σ', PostS K B Z ρ ρ' σ σ' H H → (∀ vs, tgIn vs T = true → wipe σ' vs = wipe σ vs) → Q σ' H
def tSGs (K : PySem.W.Frag) (Ts : List Tg) : TGs := fun xs σ H Q => ∃ B Z ρ ds ρ', Conc K B Z ρ σ H ∧ RpA K (Fb Z ρ σ) H xs ds ∧ asgTs Ts ds ρ = some ρ' ∧ ∀ σ', PostS K B Z ρ ρ' σ σ' H H → (∀ vs, tgsIn vs Ts = true → wipe σ' vs = wipe σ vs) → Q σ' H
def SG (X : Cx) (tg : Expr) (T : Tg) : Prop := PG X tg (tSG X.K T)
def SGs (X : Cx) (tgs : List Expr) (Ts : List Tg) : Prop := PGs X tgs (tSGs X.K Ts)
theorem sg_nm {i : Nat} {x : Str} (hN : X.N.Nodup) (hi : X.N[i]? = some x) (hx : Loc X.env.scope x) (hf : X.fn x = true ∨ X.env.scope.names.lookup x = some .local) : SG X (.Name x pos) (.nm i) := by
  refine pg_mono (pg_name hN hi hx hf) fun v σ H Q ⟨B, Z, ρ, d, ρ', C, r, e, q⟩ => ?_
  cases e
  exact q _ (C.setC i r) fun vs h => wipe_set (by simpa [tgIn] using h)
theorem sgs_nil : SGs X [] [] := pgs_mono pgs_nil fun v σ H Q ⟨B, Z, ρ, d, ρ', C, r, e, q⟩ => by
  cases r with
  | nil =>
    cases e
    exact ⟨rfl, q σ (.refl C) fun _ _ => rfl⟩
  | cons a b => cases e
theorem asg_cons {e : Expr} {es : List Expr} {env : PySem.Env} (h : unstar e = true) : (assignEach (e :: es) env).map (·.2) = assign e env :: (assignEach es env).map (·.2) := by
  cases e <;> first | rfl | cases h
theorem sgs_cons {t : Expr} {ts : List Expr} {T : Tg} {Ts : List Tg} (h1 : SG X t T) (h2 : SGs X ts Ts) (hs : unstar t = true) : SGs X (t :: ts) (T :: Ts) := by
  refine pgs_mono (pgs_cons h1 h2 (asg_cons hs)) fun xs σ H Q ⟨B, Z, ρ, ds, ρ', C, r, e, q⟩ => ?_
  cases r with
  | nil => cases e
  | @cons v vs d ds a b =>
    rw [asgTs] at e
    cases e1 : asgT T d ρ with
    | none => rw [e1] at e; cases e
    | some ρ1 =>
      rw [e1] at e
      refine ⟨v, vs, rfl, B, Z, ρ, d, ρ1, C, a, e1, fun σ1 P1 w1 => ⟨B, Z, ρ1, ds, ρ', P1.conc, b.shift P1.kfb P1.fb, e, fun σ2 P2 w2 => q σ2 (P1.seq P2) fun ws hw => ?_⟩⟩
      rw [tgsIn, Bool.and_eq_true] at hw
      rw [w2 ws hw.2, w1 ws hw.1]
theorem asg_each : ∀ {es : List Expr} {env : PySem.Env}, es.all unstar = true → (assignEach es env).length = es.length ∧ (assignEach es env).findIdx? (·.1) = none
  | [], _, _ => ⟨rfl, rfl⟩
  | e :: es, env, h => by
    rw [List.all_cons, Bool.and_eq_true] at h
    obtain ⟨h1, h2⟩ := asg_each (env := env) h.2
    have e1 : assignEach (e :: es) env = (false, assign e env) :: assignEach es env := by
      cases e <;> first | rfl | (have := h.1; cases this)
    rw [e1]
    refine ⟨by rw [List.length_cons, List.length_cons, h1], ?_⟩
    rw [List.findIdx?_cons]
    simp [h2]
theorem asgTs_len : ∀ {Ts : List Tg} {ds : List PyData} {ρ ρ' : PL.Env}, asgTs Ts ds ρ = some ρ' → Ts.length = ds.length
  | [], [], _, _, _ => rfl
  | [], _ :: _, _, _, h => by cases h
  | _ :: _, [], _, _, h => by cases h
  | T :: Ts, d :: ds, ρ, ρ', h => by
    rw [asgTs] at h
    cases e1 : asgT T d ρ with
    | none => rw [e1] at h; cases h
    | some ρ1 =>
      rw [e1] at h
      rw [List.length_cons, List.length_cons, asgTs_len h]
theorem sg_tp {ts : List Expr} {Ts : List Tg} {k : Nat} (hc : X.calm = true) (h : SGs X ts Ts) (hs : ts.all unstar = true) (hl : ts.length = Ts.length) : SG X (.Tuple ts k pos) (.tp Ts) := by
  obtain ⟨a1, a2⟩ := asg_each (env := X.env) hs
  refine pg_mono (pg_tup hc h a1 a2) fun x σ H Q ⟨B, Z, ρ, d, ρ', C, r, e, q⟩ => ?_
  cases d with
  | tuple ds =>
    rw [asgT] at e
    have hl2 := asgTs_len e
    cases r with
    | tup n rd ra => exact ⟨_, _, rfl, .inl rd, by rw [ra.length]; omega, B, Z, ρ, ds, ρ', C, ra, e, fun σ' P w => q σ' P fun vs hv => w vs (by rw [tgIn] at hv; exact hv)⟩
    | tupK rd ra => exact ⟨_, _, rfl, rd.sq, by rw [ra.length]; omega, B, Z, ρ, ds, ρ', C, ra, e, fun σ' P w => q σ' P fun vs hv => w vs (by rw [tgIn] at hv; exact hv)⟩
  | _ => cases e
/-- no stores in turn -/
def foldAll (vs : List Expr) : Bool := vs.all (foldedForSure 8)
def nameLocal (sc : Scope) (line : Nat) : Expr → Option Str
  | .Name id pos => if sc.names.lookup id == some .local && pos.line == line then some id else none
  | _ => none
def swapNone (sc : Scope) (tg e : Expr) : Bool := match tg, e with
  | .Tuple ts _ _, .Tuple vs _ _ => !(ts.length == 2 || ts.length == 3) || vs.length != ts.length || (!vs.any (fun | .Starred .. => true | _ => false) && ((ts.filterMap (nameLocal sc ((ts.head?.map (·.pos.line)).getD 0))).length != ts.length || foldAll vs))
  | .List _ _, _ => false
  | .Tuple _ _ _, _ => true
  | _, _ => true
theorem ss_unp {tg e : Expr} {T : Tg} {fa : PL.Env → Out Res} (he : SE X Wx e fa) (hg : SG X tg T) (hs : swapsWithSole [tg] e pos.line X.env = pure false) (hw : swappedStores [tg] e X.env = pure none) (hu : unstar tg = true) :
    SS X Wx (.Assign [tg] e pos) (fun ρ => sb (fa ρ) fun r ρ1 => sb (PL.cold ρ1 r) fun d ρ2 => match asgT T d ρ2 with | some ρ3 => .nx ρ3 | none => .stuck) := by
  refine ps_mono (ps_asg he hg hs hw (by rw [asg_cons hu]; rfl)) fun D σ H ⟨B, Z, ρ, C, h⟩ => ?_
  refine sub_runS C h (fun _ _ z => z.x) fun r ρ1 x H1 P1 h1 => cold_runS P1.res h1 fun d ρ2 P2 rp h2 => ?_
  cases e : asgT T d ρ2 with
  | none => rw [e] at h2; exact h2.elim
  | some ρ3 =>
    rw [e] at h2
    exact ⟨B, Z, ρ2, d, ρ3, P2.conc, rp, e, fun σ' P3 _ => h2 σ' H1 ((P1.x.s.seq P2.s).seq P3)⟩
/-- d[k] = v -/
def rSetD (X : Cx) : V → V → V → Hp → (Hp → Prop) → Prop := fun o i v H Q => ∃ Y a kvs k vd ps, o = .ref a ∧ Y a ∧ DView X Y H a ps kvs ∧ Rp X.K Y H i k ∧ Rp X.K Y H v vd ∧ keysOk (k :: kvs.map (·.1)) = true ∧ kvs.length < 1000000 ∧
  ∀ ho ps', DView X Y (upd H a ho) a ps' (store kvs k vd) → Q (upd H a ho)
theorem set_dict (ok : XOk X) : PSet X (rSetD X) := by
  intro pins s σ H o i v ov iv u Q I ro ri rv h
  obtain ⟨Y, a, kvs, k, vd, ps, rfl, hY, D, oi, ow, hk, hl, q⟩ := h
  cases ro
  exact d_store ok D I oi ri ow rv hk hl hY fun ho ps' s' I' D' => ⟨_, I', q ho ps' D'⟩
theorem set_both (ok : XOk X) : PSet X (fun o i v H Q => rSetL o i v H Q ∨ rSetD X o i v H Q) := by
  intro pins s σ H o i v ov iv u Q I ro ri rv h
  rcases h with h | h
  · exact set_list pins s σ H o i v ov iv u Q I ro ri rv h
  · exact set_dict ok pins s σ H o i v ov iv u Q I ro ri rv h
/-- o[i] = e -/
theorem ss_sub (ok : XOk X) {i : Nat} {x : Str} {px pt : Pos} {ix e : Expr} {fa fi : PL.Env → Out Res} (hN : X.N[i]? = some x) (hv : Vis X.env.scope x) (hd : (x == ("__debug__" : Str)) = false) (hcd : (x == ("__classdict__" : Str)) = false)
    (he : SE X Wx e fa) (hi : SE X Wx ix fi) (hs : swapsWithSole [.Subscript (.Name x px) ix pt] e pos.line X.env = pure false) (hpi : plainIx ix = true) :
    SS X Wx (.Assign [.Subscript (.Name x px) ix pt] e pos) (fun ρ => sb (fa ρ) fun r ρ1 => sb (PL.cold ρ1 r) fun v ρ2 => if isHot ρ2 i then sb (fi ρ2) fun rk ρ3 => sb (PL.cold ρ3 rk) fun k ρ4 => match subAt i k v ρ4 with
      | some ρ5 => .nx ρ5
      | none => .stuck
    else .stuck) := by
  refine ps_mono (ps_asg he (pg_sub (pe_var hN hv hd hcd) hi (set_both ok) (by intro v; cases ix <;> first | rfl | cases hpi)) hs) fun D σ H ⟨B, Z, ρ, C, h⟩ => ?_
  refine sub_runS C h (fun _ _ z => z.x) fun r ρ1 w H1 P1 h1 => cold_runS P1.res h1 fun v ρ2 P2 rp h2 => ?_
  by_cases hh : isHot ρ2 i = true
  · rw [if_pos hh] at h2
    unfold isHot at hh
    cases e1 : gets ρ2 i with
    | h io d0 =>
      obtain ⟨a, ea, _⟩ := P2.conc.hot i io d0 (gets_some e1 (by intro z; cases z))
      refine ⟨.ref a, ea, sub_runS P2.conc h2 (fun _ _ z => ((z.step P1.x.s).step P2.s).x) fun rk ρ3 y H2 P3 h3 => cold_runS P3.res h3 fun k ρ4 P4 rk' h4 => ?_⟩
      cases e2 : subAt i k v ρ4 with
      | none => rw [e2] at h4; exact h4.elim
      | some ρ5 =>
        rw [e2] at h4
        unfold subAt at e2
        cases e3 : gets ρ4 i with
        | h io' d =>
          rw [e3] at e2
          dsimp only at e2
          cases e4 : setD d k v with
          | none => rw [e4] at e2; cases e2
          | some d' =>
            rw [e4] at e2
            cases e2
            have hs4 := gets_some e3 (by intro z; cases z)
            obtain ⟨a', ea', nz, nb, ow⟩ := P4.conc.hot i io' d hs4
            rw [ea] at ea'
            cases ea'
            cases d with
            | list ds =>
              obtain ⟨xs, hH, ra⟩ := ow
              cases k with
              | int j =>
                cases rk'
                cases e5 : ixD ds.length j with
                | none => rw [setD, e5] at e4; cases e4
                | some n =>
                  rw [setD, e5] at e4
                  cases e4
                  have px := (P3.x.seq P4)
                  have rp4 : Rp X.K (Fb Z ρ4 σ) H2 w v := rp.move (keep_fb px.keep) (fb_sub px.sub)
                  have hot : Fb Z ρ4 σ a := .inr ⟨i, io', _, hs4, ea⟩
                  refine .inl ⟨a, xs, j, n, rfl, rfl, hH, by rw [ra.length, ← ix_eq]; exact e5, ?_⟩
                  exact h4 σ _ ((P1.x.s.seq P2.s).seq ((px.s).seq (P4.conc.write hs4 ea (own_new hH hot (ra.set rp4 n))).s))
              | _ => cases e4
            | dict kvs =>
              obtain ⟨ps, D1, D2, D3⟩ := ow
              obtain ⟨hz, rfl⟩ := ite_some (show (if (keysOk (k :: kvs.map (·.1)) && decide (kvs.length < 1000000)) = true then some (PyData.dict (store kvs k v)) else none) = some d' from e4)
              rw [Bool.and_eq_true] at hz
              have px := (P3.x.seq P4)
              have rp4 : Rp X.K (Fb Z ρ4 σ) H2 w v := rp.move (keep_fb px.keep) (fb_sub px.sub)
              have hot : Fb Z ρ4 σ a := .inr ⟨i, io', _, hs4, ea⟩
              refine .inr ⟨Fb Z ρ4 σ, a, kvs, k, v, ps, rfl, hot, ⟨D1, D2, D3⟩, rk', rp4, hz.1, of_decide_eq_true hz.2, fun ho ps' D' => ?_⟩
              have ow2 : Own X.K (Fb Z ρ4 σ) (upd H2 a ho) a (.dict (store kvs k v)) := ⟨ps', D'.at', D'.ra, D'.rb⟩
              exact h4 σ _ ((P1.x.s.seq P2.s).seq ((px.s).seq (P4.conc.write hs4 ea ow2).s))
            | _ => exact ow.elim
        | _ => rw [e3] at e2; cases e2
    | _ => rw [e1] at hh; cases hh
  · rw [if_neg hh] at h2
    exact h2.elim

/-! ### several names at once -/
/-- slots that wait; Zf forbids those of one's own too, N: they are new -/
inductive PndA (K : PySem.W.Frag) (B N Zf : Addr → Prop) (ρ : PL.Env) (σ : L2.St) (H : Hp) : (Addr → Prop) → List V → List Slot → Prop
  | nil : PndA K B N Zf ρ σ H Zf [] []
  | c {Z : Addr → Prop} {v : V} {d : PyData} {vs : List V} {ss : List Slot} : Rp K (Fb Zf ρ σ) H v d → PndA K B N Zf ρ σ H Z vs ss → PndA K B N Zf ρ σ H Z (v :: vs) (.c d :: ss)
  | h {Z : Addr → Prop} {p : Addr} {d : PyData} {vs : List V} {ss : List Slot} : ¬ Z p → ¬ B p → N p → Own K (Fb Zf ρ σ) H p d → PndA K B N Zf ρ σ H (Plus p Z) vs ss → PndA K B N Zf ρ σ H Z (.ref p :: vs) (.h false d :: ss)
def setV (σ : L2.St) : List Nat → List V → L2.St
  | i :: is, v :: vs => (setV σ is vs).set i (some v)
  | _, _ => σ
theorem par_store {K : PySem.W.Frag} {B N Zf : Addr → Prop} {ρ : PL.Env} {σ : L2.St} {H : Hp} (C : Conc K B Zf ρ σ H) : ∀ {Z : Addr → Prop} {vs : List V} {ss : List Slot}, PndA K B N Zf ρ σ H Z vs ss → ∀ {is : List Nat} {ρ2 : PL.Env}, setAll ρ is ss = some ρ2 →
    Conc K B Z ρ2 (setV σ is vs) H ∧ (∀ a, Fb Z ρ2 (setV σ is vs) a → Fb Zf ρ σ a) ∧ (∀ a, HotAt ρ2 (setV σ is vs) a → HotAt ρ σ a ∨ N a) ∧
      ∀ (i : Nat) (d' : PyData), ρ2[i]? = some (Slot.h true d') → (∃ d, ρ[i]? = some (Slot.h true d)) ∧ (setV σ is vs)[i]? = σ[i]? := by
  intro Z vs ss p
  induction p with
  | nil =>
    intro is ρ2 e
    cases is with
    | nil =>
      cases e
      exact ⟨C, fun a z => z, fun a z => .inl z, fun i d e => ⟨⟨d, e⟩, rfl⟩⟩
    | cons i is => cases e
  | @c Z v d vs ss r p ih =>
    intro is ρ2 e
    cases is with
    | nil => cases e
    | cons i is =>
      rw [setAll] at e
      cases e1 : setAll ρ is ss with
      | none => rw [e1] at e; cases e
      | some ρ1 =>
        rw [e1] at e
        cases e
        obtain ⟨c1, f1, h1, i1⟩ := ih e1
        have P := c1.setC i (r.less f1)
        refine ⟨P.conc, fun a z => ?_, fun a z => ?_, fun j d' e => ?_⟩
        · rcases z with z | z
          · exact f1 a (.inl z)
          · exact f1 a (.inr (hot_setC z))
        · exact h1 a (hot_setC z)
        · obtain ⟨⟨d1, q1⟩, q2⟩ := P.io j d' e
          obtain ⟨q3, q4⟩ := i1 j d1 q1
          exact ⟨q3, q2.trans q4⟩
  | @h Z p d vs ss nz nb np o pp ih =>
    intro is ρ2 e
    cases is with
    | nil => cases e
    | cons i is =>
      rw [setAll] at e
      cases e1 : setAll ρ is ss with
      | none => rw [e1] at e; cases e
      | some ρ1 =>
        rw [e1] at e
        cases e
        obtain ⟨c1, f1, h1, i1⟩ := ih e1
        obtain ⟨c2, f2, s2⟩ := c1.setH i nz nb (o.move Keeps.refl f1 fun u e _ => e)
        refine ⟨c2, fun a z => f1 a (f2 a z), fun a z => ?_, fun j d' e => ?_⟩
        · rcases s2 a z with z | z
          · exact .inr (by rw [z]; exact np)
          · exact h1 a z
        · rcases set_get e with ⟨_, z⟩ | ⟨ne, z⟩
          · cases z
          · obtain ⟨q3, q4⟩ := i1 j d' z
            exact ⟨q3, by rw [setV, List.getElem?_set_ne ne]; exact q4⟩
end
end PL

set_option autoImplicit false
set_option linter.all false
set_option Elab.async false
set_option maxRecDepth 100000
set_option maxHeartbeats 1000000
/-! PL12: several names at once. -/
namespace PL
open PySem PySem.Spec PyProof.Rows L2
variable [TabL]
section
variable {K : PySem.W.Frag} {B N N' Zf Z : Addr → Prop} {ρ : PL.Env} {σ : L2.St} {H : Hp} {vs : List V} {ss : List Slot}
theorem PndA.mono (p : PndA K B N Zf ρ σ H Z vs ss) (h : ∀ a, N a → N' a) : PndA K B N' Zf ρ σ H Z vs ss := by
  induction p with
  | nil => exact .nil
  | c r _ ih => exact .c r ih
  | h a b c d _ ih => exact .h a b (h _ c) d ih
theorem PndA.new (p : PndA K B N Zf ρ σ H Z vs ss) : ∀ a, Zf a → Z a ∨ N a := by
  induction p with
  | nil => exact fun a z => .inl z
  | c r _ ih => exact ih
  | h a b c d _ ih =>
    intro x z
    rcases ih x z with (z | z) | z
    · exact .inr (by rw [z]; exact c)
    · exact .inl z
    · exact .inr z
theorem PndA.length (p : PndA K B N Zf ρ σ H Z vs ss) : vs.length = ss.length := by
  induction p with
  | nil => rfl
  | c r _ ih => rw [List.length_cons, List.length_cons, ih]
  | h a b c d _ ih => rw [List.length_cons, List.length_cons, ih]
end
def tSP (K : PySem.W.Frag) (Wx : WX) (f : PL.Env → Out (List Slot)) : TA := fun σ H Q => ∃ B Z ρ, Conc K B Z ρ σ H ∧
  tOut (f ρ) (fun ss ρ' => ∀ vs H', (∃ Zf, Keeps (HotAt ρ σ) H H' ∧ Sub ρ ρ' ∧ Conc K B Zf ρ' σ H' ∧ PndA K B (fun a => ¬ Thr H a) Zf ρ' σ H' Z vs ss) → Q vs H') (Gx K Wx B Z ρ σ H)
def SPr (X : Cx) (Wx : WX) (es : List Expr) (f : PL.Env → Out (List Slot)) : Prop := PA X es (tSP X.K Wx f)
section
variable {X : Cx} {Wx : WX} {e : Expr} {es : List Expr} {fa : PL.Env → Out Res} {fp : PL.Env → Out (List Slot)} {hot : Bool}
theorem sp_nil : SPr X Wx [] (fun ρ => .ok [] ρ) := pa_mono pa_nil fun σ H Q ⟨B, Z, ρ, C, h⟩ => h [] H ⟨Z, Keeps.refl, Sub.refl, C, .nil⟩
theorem sp_cons (ha : SE X Wx e fa) (hr : SPr X Wx es fp) (hs : unstar e = true) : SPr X Wx (e :: es) (fun ρ => bind (fa ρ) fun r ρ1 => bind (slotOf hot r ρ1) fun s ρ2 => bind (fp ρ2) fun ss ρ3 => .ok (s :: ss) ρ3) := by
  refine pa_mono (pa_cons ha hr (star_cons hs)) fun σ H Q ⟨B, Z, ρ, C, h⟩ => ?_
  refine sub_run C h (fun _ _ z => z) fun r ρ1 v H1 P1 h1 => ?_
  cases e2 : slotOf hot r ρ1 with
  | exc c ρ2 => exact (slot_exc e2).elim
  | stuck => rw [e2] at h1; exact h1.elim
  | ok s ρ2 =>
    rw [e2] at h1
    have h1 : tOut (bind (fp ρ2) fun ss ρ3 => .ok (s :: ss) ρ3) _ _ := h1
    refine slot_cases P1 e2 (fun d es px rp => ?_) fun p d e3 es ev nz nb hn px C' o => ?_
    · subst es
      refine ⟨B, Z, ρ2, px.conc, ?_⟩
      cases e4 : fp ρ2 with
      | stuck => rw [e4] at h1; exact h1
      | exc c ρ3 => rw [e4] at h1; exact Gx.step h1 px
      | ok ss ρ3 =>
        rw [e4] at h1
        rintro vs H2 ⟨Zf, k2, s2, C2, pn⟩
        refine h1 (v :: vs) H2 ⟨Zf, px.keep.seq k2 px.sub, px.sl.trans s2, C2, .c (rp.shift (keep_fb k2) fun a z => ?_) (pn.mono fun a z => px.keep.notnew z)⟩
        rcases z with z | z
        · exact (pn.new a z).imp .inl id
        · exact .inl (.inr (s2.hot a z))
    · subst e3 es ev
      refine ⟨B, Plus p Z, ρ2, C', ?_⟩
      cases e4 : fp ρ2 with
      | stuck => rw [e4] at h1; exact h1
      | exc c ρ3 =>
        rw [e4] at h1
        exact fun H' q => h1 H' (px.seq ⟨q.keep, q.sl, q.conc.less fun _ z => .inr z⟩)
      | ok ss ρ3 =>
        rw [e4] at h1
        rintro vs H2 ⟨Zf, k2, s2, C2, pn⟩
        refine h1 (.ref p :: vs) H2 ⟨Zf, px.keep.seq k2 px.sub, px.sl.trans s2, C2, .h nz nb hn (o.shift (keep_fb k2) (fun a z => ?_) fun u e t => k2.old p u e t fun z => C'.nhot (.inl rfl) z) (pn.mono fun a z => px.keep.notnew z)⟩
        rcases z with z | z
        · exact (pn.new a z).imp .inl id
        · exact .inl (.inr (s2.hot a z))
theorem par_post {K : PySem.W.Frag} {B Z Zf : Addr → Prop} {ρ ρ1 ρ2 : PL.Env} {σ : L2.St} {H H1 : Hp} {vs : List V} {ss : List Slot} {is : List Nat} (k : Keeps (HotAt ρ σ) H H1) (s : Sub ρ ρ1) (C : Conc K B Zf ρ1 σ H1) (p : PndA K B (fun a => ¬ Thr H a) Zf ρ1 σ H1 Z vs ss)
    (e : setAll ρ1 is ss = some ρ2) : PostS K B Z ρ ρ2 σ (setV σ is vs) H H1 := by
  obtain ⟨c, f, h, i⟩ := par_store C p e
  refine ⟨k, fun a z => (h a z).imp (s.hot a) id, fun j d' q => ?_, c⟩
  obtain ⟨⟨d, q1⟩, q2⟩ := i j d' q
  exact ⟨s j true d q1, q2⟩
theorem setAll_len {ρ : PL.Env} : ∀ {is : List Nat} {ss : List Slot} {ρ2 : PL.Env}, setAll ρ is ss = some ρ2 → is.length = ss.length
  | [], [], _, _ => rfl
  | [], _ :: _, _, h => by cases h
  | _ :: _, [], _, h => by cases h
  | i :: is, s :: ss, _, h => by
    rw [setAll] at h
    cases e : setAll ρ is ss with
    | none => rw [e] at h; cases h
    | some ρ1 => rw [List.length_cons, List.length_cons, setAll_len e]
theorem any_star : ∀ {es : List Expr}, es.all unstar = true → (es.any fun | .Starred .. => true | _ => false) = false
  | [], _ => rfl
  | e :: es, h => by
    rw [List.all_cons, Bool.and_eq_true] at h
    rw [List.any_cons, any_star h.2]
    have h1 := h.1
    cases e <;> first | rfl | (exact absurd h1 (by decide)) | (simp [unstar] at h1)
theorem swap_two {x y : Str} {px py pt pt2 : Pos} {kt k2 : Nat} {a b : Expr} {env : PySem.Env} (hk : env.scope.kind = .function) (hx : env.scope.names.lookup x = some .local) (hy : env.scope.names.lookup y = some .local) (hl : (py.line == px.line) = true) (hxy : (x == y) = false)
    (hs : [a, b].all unstar = true) (hf : foldAll [a, b] = false) (hc : [a, b].all (constantsAlone 8) = false) : swappedStores [.Tuple [.Name x px, .Name y py] kt pt] (.Tuple [a, b] k2 pt2) env = pure (some [x, y]) := by
  have kx : env.kindOf x = some .local := hx
  have ky : env.kindOf y = some .local := hy
  have hb : env.blockKind = .function := by unfold Env.blockKind; rw [hk]; rfl
  have hxy' : (y == x) = false := by
    rw [beq_eq_false_iff_ne] at hxy ⊢
    exact fun z => hxy z.symm
  have st := any_star hs
  unfold foldAll at hf
  unfold swappedStores
  simp only [List.length_cons, List.length_nil, hb, st, hf, hc, List.filterMap_cons, List.filterMap_nil, kx, ky, List.head?_cons, Option.map_some, Option.getD_some, Expr.pos, hl]
  simp [hl, hxy, hxy', Expr.pos, List.eraseDups_cons]
  intro h
  rw [List.any_cons, List.any_cons, List.any_nil, Bool.or_false, Bool.or_eq_false_iff] at st
  rcases h with h | h
  · exact Bool.noConfusion (h.symm.trans st.1)
  · exact Bool.noConfusion (h.symm.trans st.2)
theorem swap_three {x y z : Str} {px py pz pt pt2 : Pos} {kt k2 : Nat} {a b c : Expr} {env : PySem.Env} (hk : env.scope.kind = .function) (hx : env.scope.names.lookup x = some .local) (hy : env.scope.names.lookup y = some .local) (hz : env.scope.names.lookup z = some .local)
    (hl : (py.line == px.line) = true) (hl2 : (pz.line == px.line) = true) (hxy : (x == y) = false) (hxz : (x == z) = false) (hyz : (y == z) = false)
    (hs : [a, b, c].all unstar = true) (hf : foldAll [a, b, c] = false) (hc : [a, b, c].all (constantsAlone 8) = false) : swappedStores [.Tuple [.Name x px, .Name y py, .Name z pz] kt pt] (.Tuple [a, b, c] k2 pt2) env = pure (some [x, y, z]) := by
  have kx : env.kindOf x = some .local := hx
  have ky : env.kindOf y = some .local := hy
  have kz : env.kindOf z = some .local := hz
  have hb : env.blockKind = .function := by unfold Env.blockKind; rw [hk]; rfl
  have fl : ∀ {u w : Str}, (u == w) = false → (w == u) = false := fun {u w} h => by
    rw [beq_eq_false_iff_ne] at h ⊢
    exact fun z => h z.symm
  have st := any_star hs
  unfold foldAll at hf
  unfold swappedStores
  simp only [List.length_cons, List.length_nil, hb, st, hf, hc, List.filterMap_cons, List.filterMap_nil, kx, ky, kz, List.head?_cons, Option.map_some, Option.getD_some, Expr.pos, hl, hl2]
  simp [hl, hl2, hxy, hxz, hyz, fl hxy, fl hxz, fl hyz, Expr.pos, List.eraseDups_cons]
  intro h
  rw [List.any_cons, List.any_cons, List.any_cons, List.any_nil, Bool.or_false, Bool.or_eq_false_iff, Bool.or_eq_false_iff] at st
  rcases h with h | h | h
  · exact Bool.noConfusion (h.symm.trans st.1)
  · exact Bool.noConfusion (h.symm.trans st.2.1)
  · exact Bool.noConfusion (h.symm.trans st.2.2)
theorem swap_none {tg e : Expr} {env : PySem.Env} (hk : env.scope.kind = .function) (h : swapNone env.scope tg e = true) : swappedStores [tg] e env = pure none := by
  have hb : env.blockKind = .function := by unfold Env.blockKind; rw [hk]; rfl
  cases tg <;> first | rfl | (cases h; done) | skip
  rename_i ts kt pt
  cases e <;> first | rfl | skip
  rename_i vs k2 pt2
  unfold swappedStores
  dsimp only
  rw [swapNone] at h
  by_cases h1 : (!(ts.length == 2 || ts.length == 3) || vs.length != ts.length) = true
  · exact if_pos (by rw [h1]; rfl)
  · rw [Bool.not_eq_true] at h1
    rw [h1, Bool.false_or, Bool.and_eq_true, Bool.not_eq_true', Bool.or_eq_true] at h
    rw [if_neg (by rw [h1, hb]; decide)]
    rw [if_neg (fun q => Bool.noConfusion (q.symm.trans h.1))]
    rcases h.2 with h2 | h2
    · exact if_pos ((Bool.or_eq_true _ _).mpr (.inl h2))
    · by_cases h3 : ((ts.filterMap (nameLocal env.scope ((ts.head?.map (·.pos.line)).getD 0))).length != ts.length || (ts.filterMap (nameLocal env.scope ((ts.head?.map (·.pos.line)).getD 0))).eraseDups.length != (ts.filterMap (nameLocal env.scope ((ts.head?.map (·.pos.line)).getD 0))).length) = true
      · exact if_pos h3
      · exact (if_neg h3).trans (if_pos h2)
theorem ss_par2 {i j : Nat} {x y : Str} {px py pt pt2 pos : Pos} {kt k2 : Nat} {a b : Expr} {f : PL.Env → Out (List Slot)} (hc : X.calm = true) (hk : X.env.scope.kind = .function) (hN : X.N.Nodup) (hi : X.N[i]? = some x) (hj : X.N[j]? = some y)
    (hx : X.env.scope.names.lookup x = some .local) (hy : X.env.scope.names.lookup y = some .local) (hl : (py.line == px.line) = true) (hxy : (x == y) = false) (hs : [a, b].all unstar = true) (hf : foldAll [a, b] = false) (hca : [a, b].all (constantsAlone 8) = false)
    (ha : SPr X Wx [a, b] f) : SS X Wx (.Assign [.Tuple [.Name x px, .Name y py] kt pt] (.Tuple [a, b] k2 pt2) pos) (fun ρ => sb (f ρ) fun ss ρ1 => match setAll ρ1 [i, j] ss with | some ρ2 => .nx ρ2 | none => .stuck) := by
  have hij : i ≠ j := fun z => by
    rw [z, hj] at hi
    cases hi
    simp at hxy
  refine ps_mono (ps_par hc hN hi hj hij hx hy ha (swap_two hk hx hy hl hxy hs hf hca) rfl) fun D σ H ⟨B, Z, ρ, C, h⟩ => ?_
  refine ⟨B, Z, ρ, C, ?_⟩
  dsimp only at h
  cases e : f ρ with
  | stuck => rw [e] at h; exact h
  | exc c ρ1 => rw [e] at h; exact Gs.x h
  | ok ss ρ1 =>
    rw [e] at h
    rintro vs H1 ⟨Zf, kp, sl, C1, pn⟩
    cases e2 : setAll ρ1 [i, j] ss with
    | none => exact (show False by simpa [sb, e2, tSt] using h).elim
    | some ρ2 =>
      replace h : ∀ σ' H', PostS X.K B Z ρ ρ2 σ σ' H H' → D.nx σ' H' := by simpa [sb, e2, tSt] using h
      have l := setAll_len e2
      have l2 := pn.length
      match vs, l2.trans l.symm with
      | [v, w], _ =>
        refine ⟨v, w, rfl, ?_⟩
        have P : PostS X.K B Z ρ ρ2 σ ((σ.set j (some w)).set i (some v)) H H1 := par_post kp sl C1 pn e2
        rw [List.set_comm _ _ (Ne.symm hij)] at P
        exact h _ H1 P
theorem ss_par3 {i j l : Nat} {x y z : Str} {px py pz pt pt2 pos : Pos} {kt k2 : Nat} {a b c : Expr} {f : PL.Env → Out (List Slot)} (hc : X.calm = true) (hk : X.env.scope.kind = .function) (hN : X.N.Nodup) (hi : X.N[i]? = some x) (hj : X.N[j]? = some y) (hl : X.N[l]? = some z)
    (hx : X.env.scope.names.lookup x = some .local) (hy : X.env.scope.names.lookup y = some .local) (hz : X.env.scope.names.lookup z = some .local) (hl1 : (py.line == px.line) = true) (hl2 : (pz.line == px.line) = true) (hxy : (x == y) = false) (hxz : (x == z) = false) (hyz : (y == z) = false)
    (hs : [a, b, c].all unstar = true) (hf : foldAll [a, b, c] = false) (hca : [a, b, c].all (constantsAlone 8) = false)
    (ha : SPr X Wx [a, b, c] f) : SS X Wx (.Assign [.Tuple [.Name x px, .Name y py, .Name z pz] kt pt] (.Tuple [a, b, c] k2 pt2) pos) (fun ρ => sb (f ρ) fun ss ρ1 => match setAll ρ1 [i, j, l] ss with | some ρ2 => .nx ρ2 | none => .stuck) := by
  have key : ∀ {i j : Nat} {x y : Str}, X.N[i]? = some x → X.N[j]? = some y → (x == y) = false → i ≠ j := fun {i j x y} hi hj hxy z => by
    rw [z, hj] at hi
    cases hi
    simp at hxy
  have hij := key hi hj hxy
  have hil := key hi hl hxz
  have hjl := key hj hl hyz
  refine ps_mono (ps_par3 hc hN hi hj hl hij hil hjl hx hy hz ha (swap_three hk hx hy hz hl1 hl2 hxy hxz hyz hs hf hca) rfl) fun D σ H ⟨B, Z, ρ, C, h⟩ => ?_
  refine ⟨B, Z, ρ, C, ?_⟩
  dsimp only at h
  cases e : f ρ with
  | stuck => rw [e] at h; exact h
  | exc c ρ1 => rw [e] at h; exact Gs.x h
  | ok ss ρ1 =>
    rw [e] at h
    rintro vs H1 ⟨Zf, kp, sl, C1, pn⟩
    cases e2 : setAll ρ1 [i, j, l] ss with
    | none => exact (show False by simpa [sb, e2, tSt] using h).elim
    | some ρ2 =>
      replace h : ∀ σ' H', PostS X.K B Z ρ ρ2 σ σ' H H' → D.nx σ' H' := by simpa [sb, e2, tSt] using h
      have ln := setAll_len e2
      have l2 := pn.length
      match vs, l2.trans ln.symm with
      | [u, v, w], _ =>
        refine ⟨u, v, w, rfl, ?_⟩
        have P : PostS X.K B Z ρ ρ2 σ (((σ.set l (some w)).set j (some v)).set i (some u)) H H1 := par_post kp sl C1 pn e2
        have e3 : ((σ.set l (some w)).set j (some v)).set i (some u) = ((σ.set i (some u)).set j (some v)).set l (some w) := by
          rw [List.set_comm (l := σ.set l (some w)) _ _ (Ne.symm hij), List.set_comm (l := σ) _ _ (Ne.symm hil), List.set_comm _ _ (Ne.symm hjl)]
        rw [e3] at P
        exact h _ H1 P
end
end PL

set_option autoImplicit false
set_option linter.all false
set_option Elab.async false
set_option maxRecDepth 100000
set_option maxHeartbeats 4000000
/-! PW0: enumerate over a tuple. -/
namespace PL
open PySem PySem.Spec PyProof.Rows L2
variable [TabL]
theorem meets_enumerate_newTup (l : Addr) (items : Array Value) (n : Nat) (dct : Option Addr) (sl : Array (Option Value)) :
    Meets (Builtin.«enumerate.__new__» ⟨[.type "enumerate", .ref l], []⟩) (fun _ R s => s.heap.get? l = some { cls := .type "tuple", dict := dct, data := .seq items n, slots := sl } ∧
      R (.ok (.ret (.ref (s.heap.push { cls := .type "tuple_iterator", data := .fields #[.ref l, .int 0 0] }).objs.size)))
        { s with heap := (s.heap.push { cls := .type "tuple_iterator", data := .fields #[.ref l, .int 0 0] }).push { cls := .type "enumerate", data := .fields #[.none, .bool false, .ref s.heap.objs.size, rawInt 0, .none, .none] } }) :=
  .of_wp fun prog w A R s h => by
    obtain ⟨hp, g, d, tk, os⟩ := s; obtain ⟨hl, h⟩ := h
    have isub := sub_enumerate
    have hL : Heap.IsTuple (Shared.heap ⟨hp, g, d, tk, os⟩) l items := ⟨_, hl, rfl, n, rfl⟩
    wp_walk using AutoSeq1.wpAny_loadPart' hl
    refine wpAny_stack_any fun st => wpAny_pure ?_
    split
    · rename_i c _ _ _ _ _
      cases (c == Value.type "enumerate")
      · wp_walk using AutoSeq1.wpAny_loadPart' hl, wpAny_pyIter_tuple hL
        exact ⟨_, rfl, h⟩
      · wp_walk using AutoSeq1.wpAny_loadPart' hl, wpAny_pyIter_tuple hL
        exact ⟨_, rfl, h⟩
    · wp_walk using AutoSeq1.wpAny_loadPart' hl, wpAny_pyIter_tuple hL
      exact ⟨_, rfl, h⟩
section
variable {prog : Program} {w : World} {A : Around} {E : Value → Shared → Prop} {s : Shared}
theorem call_enumerate_tup {l : Addr} {items : Array Value} {Q : Value → Shared → Prop} (tL : s.heap.IsTuple l items)
    (fin : ∀ h', IsEnum h' (s.heap.objs.size + 1) s.heap.objs.size 0 .none → h'.IsTupleIter s.heap.objs.size l 0 → h'.objs.size = s.heap.objs.size + 2 →
      (∀ b o, s.heap.get? b = some o → h'.get? b = some o) → Q (.ref (s.heap.objs.size + 1)) { s with heap := h' }) :
    wpAny (model prog w) A (call (.type "enumerate") [.ref l]) Q E s := by
  obtain ⟨⟨c, dct, dt, sl⟩, hl, hc, n, hd⟩ := tL
  replace hc : c = .type "tuple" := hc
  replace hd : dt = .seq items n := hd
  subst hc hd
  refine callType_new F.called_enumerate (by decide) (F.typeCall_enumerate_1 _) (F.newCall_enumerate_1 _) (fun obj => F.args_object_init_2 obj _) F.entry_enumerate_new
    (meets_enumerate_newTup l items n dct sl) ⟨hl, ?_⟩
  have hz : (s.heap.push { cls := .type "tuple_iterator", data := .fields #[.ref l, .int 0 0] }).objs.size = s.heap.objs.size + 1 := Heap.size_push ..
  show _ ∧ _
  rw [hz]
  have en : IsEnum ((s.heap.push { cls := .type "tuple_iterator", data := .fields #[.ref l, .int 0 0] }).push
      { cls := .type "enumerate", data := .fields #[.none, .bool false, .ref s.heap.objs.size, rawInt 0, .none, .none] }) (s.heap.objs.size + 1) s.heap.objs.size 0 .none := by
    have := Heap.get?_push_size (s.heap.push { cls := .type "tuple_iterator", data := .fields #[.ref l, .int 0 0] })
      (o := { cls := .type "enumerate", data := .fields #[.none, .bool false, .ref s.heap.objs.size, rawInt 0, .none, .none] }) rfl
    rw [hz] at this; exact this
  refine ⟨⟨_, en, rfl⟩, fin _ en ⟨_, Heap.get?_push_of_some _ (Heap.get?_push_size _ rfl), rfl, rfl⟩ (by rw [Heap.size_push, hz]) fun b o x => Heap.get?_push_of_some _ (Heap.get?_push_of_some _ x)⟩
end
/-- the tuple at a, each item in a new pair -/
def IteT (K : PySem.W.Frag) (a : Addr) : It :=
  ⟨fun i H => ∃ (xs : List V) (x : V), SqT K H a xs ∧ xs[i]? = some x, fun i H v H' => ∃ T x, v = .ref T ∧ H T = none ∧ H' = upd H T (.tup [.int (i : Nat), x]) ∧ ∀ xs, SqT K H a xs → xs[i]? = some x, fun i H => ∃ xs : List V, SqT K H a xs ∧ xs.length ≤ i⟩
theorem turn_enumTup {P : Program} {w : World} {K : PySem.W.Frag} {elts : List Expr} {kk : Nat} {tpos : Pos} (a e it : Addr) (nea : a ≠ e) (nia : a ≠ it) :
    Turn P w K (.Tuple elts kk tpos) (IteT K a) [e, it] e (fun i h => (∃ old, IsEnum h e it ((i : Nat) : Int) old) ∧ h.IsTupleIter it a i ∧ e ≠ it) where
  mem := by simp
  obj := fun i h st b hb => by
    obtain ⟨⟨old, he⟩, ⟨o, ho, hc, hd⟩, _⟩ := st
    have e' : b = e ∨ b = it := by simpa using hb
    rcases e' with z | z
    · rw [z]; exact ⟨_, he, fun v q => nomatch q⟩
    · rw [z]; exact ⟨o, ho, fun v q => by rw [hd] at q; cases q⟩
  keep := fun i h h' st k => let ⟨⟨old, he⟩, hi, ne⟩ := st; ⟨⟨old, k e (by simp) _ he⟩, hi.at fun o q => k it (by simp) o q, ne⟩
  item := by
    intro X hP hw hK hc i pins s σ H E I hf st hg
    subst hP hw hK
    obtain ⟨⟨old, he⟩, hit, ne⟩ := st
    obtain ⟨xs, x, hq, hx⟩ := hg
    obtain ⟨its, rv, p, hz⟩ := I.tuple hq
    obtain ⟨u, hu, ru⟩ := rv.get hx
    have hel : e < s.heap.objs.size := Heap.lt_size he
    have hil : it < s.heap.objs.size := by obtain ⟨_, q, _⟩ := hit; exact Heap.lt_size q
    have li : i < its.toArray.size := by
      have := (List.getElem?_eq_some_iff.mp hu).1
      simpa using this
    refine wpAny_pyNext_enum_itemD (Draws.tuple (A := X.A.in1) (by exact I.ok.hd hc) it a nia its.toArray) he ⟨hit, p⟩ li ne (by simp; exact ⟨ne, fun z => nea z.symm⟩) fun x' h' tk hP ho hs' hT hsz hk => ?_
    have ex : x' = u := by
      have : its.toArray[i]? = some x' := hP
      rw [show its.toArray[i]? = some u by simpa using hu] at this
      exact (Option.some.inj this).symm
    subst ex
    refine ⟨_, rfl, wpAny_letOwnedTupleGo_enum (s := { s with heap := h', toks := tk + 1 }) ho fun h'' he' sb => ?_⟩
    have hT2 : h''.get? s.heap.objs.size = some { cls := .type "tuple", data := .seq #[.int i tk, x'] } := (sb.2 _ (Nat.ne_of_gt hel)).trans hT
    have new : ObjOk X.prog X.w (upd H s.heap.objs.size (.tup [.int (i : Nat), x])) h'' s.heap.objs.size (.tup [.int (i : Nat), x]) :=
      ⟨by show 2 ≤ sizeLine; decide, [.int i tk, x'], .cons ⟨_, rfl⟩ (.cons ru .nil), ⟨_, hT2, rfl, _, rfl⟩⟩
    have I1 : Inv X pins σ (upd H s.heap.objs.size (.tup [.int (i : Nat), x])) { s with heap := h'', toks := tk + 1 } :=
      I.turnedNew (ch := [e, it]) (fun b ob hb q => (sb.2 b (fun z => hb (by simp [z]))).trans (hk b ob (fun z => hb (by simp [z])) (fun z => hb (by simp [z])) q)) hf (Nat.le_refl _) new
    refine ⟨.ref s.heap.objs.size, _, I1, rfl, ⟨_, x, rfl, I.hok.fresh (Nat.le_refl _), rfl, fun ys hy => by rw [I.tuple_inj hy hq]; exact hx⟩, ⟨⟨x', ?_⟩, hs'.1.at fun o q => (sb.2 it (Ne.symm ne)).trans q, ne⟩, fun b hb => ?_⟩
    · have e1 : ((i + 1 : Nat) : Int) = (i : Int) + 1 := by omega
      rw [e1]; exact he'
    · have hb' : b < s.heap.objs.size := by
        have e' : b = e ∨ b = it := by simpa using hb
        rcases e' with z | z
        · rw [z]; exact hel
        · rw [z]; exact hil
      rw [upd_ne (Nat.ne_of_lt hb')]
      exact (hf b hb).1
  done := by
    intro X hP hw hK hc i pins s σ H E I hf st hg
    subst hP hw hK
    obtain ⟨⟨old, he⟩, hit, ne⟩ := st
    obtain ⟨xs, hq, hx⟩ := hg
    obtain ⟨its, rv, p, hz⟩ := I.tuple hq
    obtain ⟨f0, f1, f2, f3, f4, f5⟩ := hf it (by simp)
    have hl := rv.length
    unfold pyNext
    have tI : s.TypeIs (.ref e) "enumerate" := ⟨_, he, rfl⟩
    refine wpAny_bind (wpAny_attempt (wpAny_callSpecial?_slot (name := Str.ofString "__next__") tI F.slot_enumerate_next
      (wpAny_call_entry F.slot_enumerate_next tI F.entry_enumerate_next ?_ (F.args_enumerate_next_1 _))))
    show wpAny _ _ (field (.ref e) 2 >>= _) _ _ _
    refine wpAny_bind (wpAny_field he rfl (x := .ref it) rfl ?_)
    refine wpAny_bind (wpAny_nextOf_tuple_end (by exact I.ok.hd hc) hit p (by simp; omega) fun h' x eb hx' => ?_)
    obtain ⟨o, ho, hcl⟩ := hx'
    refine wpAny_bind (wpAny_isInstance (T := "StopIteration") (b := true) ⟨o, ho, hcl⟩ isSubtype_stop ?_)
    exact wpAny_pure ⟨rfl, I.turned (t' := s.toks) (fun b o hb q => eb b o hb q) f0 f1 f3 f4 f5⟩
  self := fun A i s Q E st h => let ⟨⟨_, he⟩, _⟩ := st; wpAny_pyIter_enum he h
def iEnumA (K : PySem.W.Frag) (ta : TA) : TI := fun σ H R => ta σ H fun vs H1 => ∃ a xs, vs = [.ref a] ∧ ((SqL K H1 a xs ∧ R (Ite K a) H1) ∨ (SqT K H1 a xs ∧ R (IteT K a) H1))
theorem pi_enumA {X : Cx} {e : Expr} {ta : TA} {p pos tpos : Pos} {elts : List Expr} {kk : Nat} (hg : Gl X "enumerate") (hm : X.mg "enumerate" = none) (ha : PA X [e] ta) (hs : starEach [e] X.env = [(false, eval e X.env)] := by rfl) :
    PI X (.Tuple elts kk tpos) (.Call (.Name "enumerate" p) [e] [] pos) (iEnumA X.K ta) := by
  refine ⟨fun pins s σ H R I h => ?_⟩
  refine Call_ (ld_blt I hg hm boot_enumerate (PyProof.Rows.callWith_type1 (thn (ha.run pos pins s σ H _ I h) fun us s1 ⟨vs, H1, I1, r1, q1⟩ => ?_) hs rfl))
  obtain ⟨a, xs, ex, q1⟩ := q1
  subst ex
  cases r1 with
  | cons r rr =>
    cases rr
    cases r
    have fpk : ∀ b, b ∈ [s1.heap.objs.size + 1, s1.heap.objs.size] → FpOk X pins H1 b := fun b hb => by
      have e' : b = s1.heap.objs.size + 1 ∨ b = s1.heap.objs.size := by simpa using hb
      have hle : s1.heap.objs.size ≤ b := by
        rcases e' with z | z
        · rw [z]; exact Nat.le_add_right _ _
        · rw [z]; exact Nat.le_refl _
      exact I1.fpOk hle (I1.hok.fresh hle)
    rcases q1 with ⟨hq, q⟩ | ⟨hq, q⟩
    · obtain ⟨its, rv, p', hz⟩ := I1.list hq
      refine call_enumerate_list p'.isList fun h' he hit hsz hk => wpAny_pyIter_enum he ?_
      have I2 : Inv X pins σ H1 { s1 with heap := h' } := I1.kept (t' := s1.toks) hk
      exact ⟨s1.heap.objs.size + 1, [s1.heap.objs.size + 1, s1.heap.objs.size], _, _, H1, rfl, I2, turn_enum a (s1.heap.objs.size + 1) s1.heap.objs.size, ⟨⟨.none, he⟩, hit, Nat.succ_ne_self _⟩, fpk, q⟩
    · obtain ⟨its, rv, p', hz⟩ := I1.tuple hq
      obtain ⟨o1, ho1, _⟩ := id p'
      have la := Heap.lt_size ho1
      refine call_enumerate_tup (show s1.heap.IsTuple a its.toArray from p') fun h' he hit hsz hk => wpAny_pyIter_enum he ?_
      have I2 : Inv X pins σ H1 { s1 with heap := h' } := I1.kept (t' := s1.toks) hk
      exact ⟨s1.heap.objs.size + 1, [s1.heap.objs.size + 1, s1.heap.objs.size], _, _, H1, rfl, I2, turn_enumTup a (s1.heap.objs.size + 1) s1.heap.objs.size (Nat.ne_of_lt (Nat.lt_succ_of_lt la)) (Nat.ne_of_lt la), ⟨⟨.none, he⟩, hit, Nat.succ_ne_self _⟩, fpk, q⟩
end PL

set_option autoImplicit false
set_option linter.all false
set_option Elab.async false
set_option maxRecDepth 100000
set_option maxHeartbeats 1000000
/-! PL13: what is walked; for. -/
namespace PL
open PySem PySem.Spec PyProof.Rows L2
variable [TabL]
/-- the walk of J hands out the items, while the heap keeps what Y0 does not forbid -/
structure WalkD (K : PySem.W.Frag) (Y0 : Addr → Prop) (H0 : Hp) (J : It) (items : List PyData) : Prop where
  goes : ∀ i H, i < items.length → Keeps Y0 H0 H → J.go i H
  stops : ∀ H, Keeps Y0 H0 H → J.stop items.length H
  yields : ∀ (i : Nat) (H : Hp) (x : V) (H' : Hp) (d : PyData) (Y' : Addr → Prop), items[i]? = some d → Keeps Y0 H0 H → (∀ a, Y' a → Y0 a ∨ ¬ Thr H0 a) → (∀ a, Y' a → Thr H a) → J.yld i H x H' → Keeps NoM H H' ∧ Rp K Y' H' x d
section
variable {K : PySem.W.Frag} {Y0 : Addr → Prop} {H0 : Hp} {a b : Addr} {xs ys : List V} {ds es : List PyData}
theorem keep_L {M : Addr → Prop} {H H' : Hp} (k : Keeps M H H') (n : ¬ M a) (r : Rd H a (.lst xs)) : SqL K H' a xs := .inl (rdKeeps k n r ntb_lst)
theorem walkD_list (n : ¬ Y0 a) (r : Rd H0 a (.lst xs)) (ra : RpA K Y0 H0 xs ds) : WalkD K Y0 H0 (Itl K a) ds := by
  refine ⟨fun i H hi k => ?_, fun H k => ⟨xs, keep_L k n r, by rw [ra.length]; exact Nat.le_refl _⟩, fun i H x H' d Y' hi k hY hn y => ?_⟩
  · obtain ⟨v, e, _⟩ := ra.get (List.getElem?_eq_getElem hi)
    exact ⟨xs, v, keep_L k n r, e⟩
  · obtain ⟨e, y⟩ := y
    subst e
    obtain ⟨v, e, rp⟩ := ra.get hi
    have ev := y xs (keep_L k n r)
    rw [e] at ev
    cases ev
    exact ⟨Keeps.refl, rp.shift k hY⟩
theorem walkD_tup (r : ∀ H, Keeps Y0 H0 H → SqT K H a xs) (ra : RpA K Y0 H0 xs ds) : WalkD K Y0 H0 (Itt K a) ds := by
  refine ⟨fun i H hi k => ?_, fun H k => ⟨xs, r H k, by rw [ra.length]; exact Nat.le_refl _⟩, fun i H x H' d Y' hi k hY hn y => ?_⟩
  · obtain ⟨v, e, _⟩ := ra.get (List.getElem?_eq_getElem hi)
    exact ⟨xs, v, r H k, e⟩
  · obtain ⟨e, y⟩ := y
    subst e
    obtain ⟨v, e, rp⟩ := ra.get hi
    have ev := y xs (r H' k)
    rw [e] at ev
    cases ev
    exact ⟨Keeps.refl, rp.shift k hY⟩
theorem walkD_str {z : Str} : WalkD K Y0 H0 (Its z) (z.cps.toList.map fun c => PyData.str ⟨#[c]⟩) := by
  refine ⟨fun i H hi k => ?_, fun H k => ?_, fun i H x H' d Y' hi k hY hn y => ?_⟩
  · show i < z.cps.size
    simpa using hi
  · show z.cps.size ≤ _
    simp
  · obtain ⟨e, c, hc, ex⟩ := y
    subst e ex
    rw [List.getElem?_map, Array.getElem?_toList, hc] at hi
    cases hi
    exact ⟨Keeps.refl, .str _⟩
theorem walkD_range {lo : Int} {n : Nat} : WalkD K Y0 H0 (Itr lo n) ((List.range n).map fun (k : Nat) => PyData.int (lo + (k : Int))) := by
  refine ⟨fun i H hi k => ?_, fun H k => ?_, fun i H x H' d Y' hi k hY hn y => ?_⟩
  · show i < n
    simpa using hi
  · show n ≤ _
    simp
  · obtain ⟨e, ex⟩ := y
    subst e ex
    rw [List.getElem?_map] at hi
    obtain ⟨j, ej, ed⟩ := Option.map_eq_some_iff.mp hi
    obtain ⟨_, rfl⟩ := List.getElem?_eq_some_iff.mp ej
    subst ed
    rw [List.getElem_range]
    exact ⟨Keeps.refl, .int _⟩
theorem walkD_rangeC {lo c : Int} {n : Nat} {f : Nat → Int} (hf : ∀ k : Nat, f k = lo + (k : Int) * c) : WalkD K Y0 H0 (Itc lo c n) ((List.range n).map fun (k : Nat) => PyData.int (f k)) := by
  refine ⟨fun i H hi k => ?_, fun H k => ?_, fun i H x H' d Y' hi k hY hn y => ?_⟩
  · show i < n
    simpa using hi
  · show n ≤ _
    simp
  · obtain ⟨e, ex⟩ := y
    subst e ex
    rw [List.getElem?_map] at hi
    obtain ⟨j, ej, ed⟩ := Option.map_eq_some_iff.mp hi
    obtain ⟨_, rfl⟩ := List.getElem?_eq_some_iff.mp ej
    subst ed
    rw [List.getElem_range, hf]
    exact ⟨Keeps.refl, .int _⟩
theorem new_pair {Y' : Addr → Prop} {H H' : Hp} {T : Addr} {x y : V} {d e : PyData} (hn : ∀ a, Y' a → Thr H a) (hT : H T = none) (eH : H' = upd H T (.tup [x, y])) (r1 : Rp K Y' H x d) (r2 : Rp K Y' H y e) : Keeps NoM H H' ∧ Rp K Y' H' (.ref T) (.tuple [d, e]) := by
  subst eH
  have k : Keeps NoM H (upd H T (.tup [x, y])) := Keeps.new hT
  exact ⟨k, .tup (fun z => fre hT (hn T z)) (.inl upd_same) (.cons (r1.move k.any fun _ z => z) (.cons (r2.move k.any fun _ z => z) .nil))⟩
theorem enum_get : ∀ {ds : List PyData} {k : Int} {i : Nat} {d : PyData}, (enumFrom k ds)[i]? = some d → ∃ e, ds[i]? = some e ∧ d = .tuple [.int (k + i), e]
  | [], k, i, d, h => by simp [enumFrom] at h
  | x :: xs, k, 0, d, h => by
    simp [enumFrom] at h
    exact ⟨x, rfl, by rw [← h]; simp⟩
  | x :: xs, k, i + 1, d, h => by
    rw [enumFrom, List.getElem?_cons_succ] at h
    obtain ⟨e, h1, h2⟩ := enum_get h
    exact ⟨e, by rw [List.getElem?_cons_succ]; exact h1, by rw [h2]; congr 3; omega⟩
theorem enum_len : ∀ {ds : List PyData} {k : Int}, (enumFrom k ds).length = ds.length
  | [], _ => rfl
  | _ :: xs, k => by rw [enumFrom, List.length_cons, List.length_cons, enum_len]
theorem walkD_enum (n : ¬ Y0 a) (r : Rd H0 a (.lst xs)) (ra : RpA K Y0 H0 xs ds) : WalkD K Y0 H0 (Ite K a) (enumFrom 0 ds) := by
  refine ⟨fun i H hi k => ?_, fun H k => ⟨xs, keep_L k n r, by rw [ra.length, enum_len]; exact Nat.le_refl _⟩, fun i H x H' d Y' hi k hY hn y => ?_⟩
  · rw [enum_len] at hi
    obtain ⟨v, e, _⟩ := ra.get (List.getElem?_eq_getElem hi)
    exact ⟨xs, v, keep_L k n r, e⟩
  · obtain ⟨T, w, ex, hT, eH, y⟩ := y
    subst ex
    obtain ⟨e, he, ed⟩ := enum_get hi
    obtain ⟨v, ev, rp⟩ := ra.get he
    have ew := y xs (keep_L k n r)
    rw [ev] at ew
    cases ew
    have ei : (0 : Int) + (i : Int) = (i : Int) := by omega
    rw [ei] at ed
    rw [ed]
    exact new_pair hn hT eH (.int _) (rp.shift k hY)
theorem walkD_enumT (r : ∀ H, Keeps Y0 H0 H → SqT K H a xs) (ra : RpA K Y0 H0 xs ds) : WalkD K Y0 H0 (IteT K a) (enumFrom 0 ds) := by
  refine ⟨fun i H hi k => ?_, fun H k => ⟨xs, r H k, by rw [ra.length, enum_len]; exact Nat.le_refl _⟩, fun i H x H' d Y' hi k hY hn y => ?_⟩
  · rw [enum_len] at hi
    obtain ⟨v, e, _⟩ := ra.get (List.getElem?_eq_getElem hi)
    exact ⟨xs, v, r H k, e⟩
  · obtain ⟨T, w, ex, hT, eH, y⟩ := y
    subst ex
    obtain ⟨e, he, ed⟩ := enum_get hi
    obtain ⟨v, ev, rp⟩ := ra.get he
    have ew := y xs (r H k)
    rw [ev] at ew
    cases ew
    have ei : (0 : Int) + (i : Int) = (i : Int) := by omega
    rw [ei] at ed
    rw [ed]
    exact new_pair hn hT eH (.int _) (rp.shift k hY)
theorem zip_get : ∀ {ds es : List PyData} {i : Nat} {d : PyData}, (zip2 ds es)[i]? = some d → ∃ u w, ds[i]? = some u ∧ es[i]? = some w ∧ d = .tuple [u, w]
  | [], es, i, d, h => by simp [zip2] at h
  | x :: xs, [], i, d, h => by simp [zip2] at h
  | x :: xs, y :: ys, 0, d, h => by
    simp [zip2] at h
    exact ⟨x, y, rfl, rfl, h.symm⟩
  | x :: xs, y :: ys, i + 1, d, h => by
    rw [zip2, List.getElem?_cons_succ] at h
    obtain ⟨u, w, h1, h2, h3⟩ := zip_get h
    exact ⟨u, w, by rw [List.getElem?_cons_succ]; exact h1, by rw [List.getElem?_cons_succ]; exact h2, h3⟩
theorem zip_len : ∀ {ds es : List PyData}, (zip2 ds es).length = min ds.length es.length
  | [], es => by simp [zip2]
  | _ :: _, [] => by simp [zip2]
  | x :: xs, y :: ys => by rw [zip2, List.length_cons, List.length_cons, List.length_cons, zip_len]; omega
theorem walkD_zip (na : ¬ Y0 a) (r : Rd H0 a (.lst xs)) (ra : RpA K Y0 H0 xs ds) (nb : ¬ Y0 b) (r2 : Rd H0 b (.lst ys)) (ra2 : RpA K Y0 H0 ys es) : WalkD K Y0 H0 (Itz K a b) (zip2 ds es) := by
  refine ⟨fun i H hi k => ?_, fun H k => ⟨xs, ys, keep_L k na r, keep_L k nb r2, by rw [ra.length, ra2.length, zip_len]; omega⟩, fun i H x H' d Y' hi k hY hn y => ?_⟩
  · rw [zip_len] at hi
    obtain ⟨v, e, _⟩ := ra.get (List.getElem?_eq_getElem (show i < ds.length by omega))
    obtain ⟨w, e2, _⟩ := ra2.get (List.getElem?_eq_getElem (show i < es.length by omega))
    exact ⟨xs, ys, v, w, keep_L k na r, keep_L k nb r2, e, e2⟩
  · obtain ⟨T, u, w, ex, hT, eH, y1, y2⟩ := y
    subst ex
    obtain ⟨e1, e2, h1, h2, ed⟩ := zip_get hi
    obtain ⟨v1, ev1, rp1⟩ := ra.get h1
    obtain ⟨v2, ev2, rp2⟩ := ra2.get h2
    have ew := y1 xs (keep_L k na r)
    rw [ev1] at ew
    cases ew
    have ew := y2 ys (keep_L k nb r2)
    rw [ev2] at ew
    cases ew
    rw [ed]
    exact new_pair hn hT eH (rp1.shift k hY) (rp2.shift k hY)
theorem walkD_zipT (r : ∀ H, Keeps Y0 H0 H → SqT K H a xs) (ra : RpA K Y0 H0 xs ds) (r2 : ∀ H, Keeps Y0 H0 H → SqT K H b ys) (ra2 : RpA K Y0 H0 ys es) : WalkD K Y0 H0 (RZ.ItzT K a b) (zip2 ds es) := by
  refine ⟨fun i H hi k => ?_, fun H k => ⟨xs, ys, r H k, r2 H k, by rw [ra.length, ra2.length, zip_len]; omega⟩, fun i H x H' d Y' hi k hY hn y => ?_⟩
  · rw [zip_len] at hi
    obtain ⟨v, e, _⟩ := ra.get (List.getElem?_eq_getElem (show i < ds.length by omega))
    obtain ⟨w, e2, _⟩ := ra2.get (List.getElem?_eq_getElem (show i < es.length by omega))
    exact ⟨xs, ys, v, w, r H k, r2 H k, e, e2⟩
  · obtain ⟨T, u, w, ex, hT, eH, y1, y2⟩ := y
    subst ex
    obtain ⟨e1, e2, h1, h2, ed⟩ := zip_get hi
    obtain ⟨v1, ev1, rp1⟩ := ra.get h1
    obtain ⟨v2, ev2, rp2⟩ := ra2.get h2
    have ew := y1 xs (r H k)
    rw [ev1] at ew
    cases ew
    have ew := y2 ys (r2 H k)
    rw [ev2] at ew
    cases ew
    rw [ed]
    exact new_pair hn hT eH (rp1.shift k hY) (rp2.shift k hY)
/-- a tuple stays -/
theorem tup_keep {v : V} {es : List PyData} (r : Rp K Y0 H0 v (.tuple es)) : ∃ a xs, v = .ref a ∧ (∀ H, Keeps Y0 H0 H → SqT K H a xs) ∧ RpA K Y0 H0 xs es := by
  cases r with
  | tup n rd ra => exact ⟨_, _, rfl, fun H k => .inl (rdKeeps k n rd ntb_tup), ra⟩
  | tupK rd ra => exact ⟨_, _, rfl, fun H k => rd.sq, ra⟩
end
/-- a dict's keys -/
def ItD (a : Addr) (es : Array DictEntry) (ep : Nat) (ps : List DE) : It :=
  ⟨fun i H => H a = some (DctO a es ep) ∧ i < es.size, fun i H x H' => H' = H ∧ ∃ p, ps[i]? = some p ∧ x = p.2.1, fun i H => H a = some (DctO a es ep) ∧ es.size ≤ i⟩
theorem pair_get {α β : Type} {F : α → β → Prop} : ∀ {as : List α} {bs : List β}, Paired F as bs → ∀ {i : Nat} {b : β}, bs[i]? = some b → ∃ a, as[i]? = some a ∧ F a b
  | _, _, .nil, i, b, h => by simp at h
  | _, _, .cons r t, 0, b, h => by simp at h; subst h; exact ⟨_, rfl, r⟩
  | _, _, .cons r t, i + 1, b, h => by
    obtain ⟨a, e, q⟩ := pair_get t (i := i) (b := b) (by simpa using h)
    exact ⟨a, by simpa using e, q⟩
theorem turn_dict {P : Program} {w : World} {K : PySem.W.Frag} {tg : Expr} {a : Addr} {es : Array DictEntry} {ep : Nat} {ps : List DE} (it : Addr) (pe : Paired Ent ps es.toList) : Turn P w K tg (ItD a es ep ps) [it] it (fun i h => h.IsKeyIter it a i es.size ep) where
  mem := by simp
  obj := fun i h st b hb => by
    have e : b = it := by simpa using hb
    subst e
    obtain ⟨oi, e, c, dd⟩ := st
    exact ⟨oi, e, fun v z => by rw [dd] at z; cases z⟩
  keep := fun i h h' st k => st.at fun oi e => k it (by simp) oi e
  item := by
    intro X hP hw hK hc i pins s σ H E I hf st hg
    subst hP hw hK
    obtain ⟨hd, hi⟩ := hg
    obtain ⟨f0, f1, f2, f3, f4, f5⟩ := hf it (by simp)
    have hr : s.heap.DictRaw a es ep := (I.hok a _ hd).1
    obtain ⟨p, ep', r⟩ := pair_get pe (i := i) (b := es[i]) (by simp [hi])
    refine wpAny_pyNext_keys_item_raw st hr hi fun h' st' sb => ?_
    have I1 : L2.Inv X pins σ H { s with heap := h' } := I.turned (t' := s.toks) (fun b ob hb e => (sb.2 b hb).trans e) f0 f1 f3 f4 f5
    obtain ⟨oi, e, c, dd⟩ := id st'
    exact ⟨_, rfl, go_of (s := { s with heap := h' }) e c dd (by decide) ⟨p.2.1, H, I1, r.2.1, ⟨rfl, p, ep', rfl⟩, st', fun b hb => (hf b hb).1⟩⟩
  done := by
    intro X hP hw hK hc i pins s σ H E I hf st hg
    subst hP hw hK
    obtain ⟨hd, hi⟩ := hg
    obtain ⟨f0, f1, f2, f3, f4, f5⟩ := hf it (by simp)
    have hr : s.heap.DictRaw a es ep := (I.hok a _ hd).1
    exact wpAny_pyNext_keys_end_raw (I.ok.hd hc) st hr hi fun h' eb => ⟨rfl, I.turned (t' := s.toks) (fun b ob hb e => eb b ob hb e) f0 f1 f3 f4 f5⟩
  self := fun A i s Q E st h => wpAny_pyIter_keyiter st h
theorem walkD_dict {K : PySem.W.Frag} {Y0 : Addr → Prop} {H0 : Hp} {a : Addr} {es : Array DictEntry} {ep : Nat} {ps : List DE} {ks : List PyData} (n : ¬ Y0 a) (e : H0 a = some (DctO a es ep)) (hs : es.size = ks.length) (ra : RpA K Y0 H0 (ps.map (·.2.1)) ks) : WalkD K Y0 H0 (ItD a es ep ps) ks := by
  refine ⟨fun i H hi k => ⟨k.old _ _ e ntb_dct n, by omega⟩, fun H k => ⟨k.old _ _ e ntb_dct n, by omega⟩, fun i H x H' d Y' hi k hY hn y => ?_⟩
  obtain ⟨eH, p, ep, ex⟩ := y
  subst eH ex
  obtain ⟨v, e1, rp⟩ := ra.get hi
  rw [List.getElem?_map, ep] at e1
  cases e1
  exact ⟨Keeps.refl, rp.shift k hY⟩
def tSI (K : PySem.W.Frag) (Wx : WX) (f : PL.Env → Out (List PyData)) : TI := fun σ H R => ∃ B Z ρ, Conc K B Z ρ σ H ∧ tOut (f ρ) (fun items ρ' => ∀ J H', PostX K B Z ρ ρ' σ H H' → WalkD K (Fb Z ρ' σ) H' J items → R J H') (Gx K Wx B Z ρ σ H)
def SI (X : Cx) (Wx : WX) (tg iter : Expr) (f : PL.Env → Out (List PyData)) : Prop := PI X tg iter (tSI X.K Wx f)
theorem pi_mono {X : Cx} {tg iter : Expr} {t t' : TI} (h : PI X tg iter t) (i : ∀ σ H R, t' σ H R → t σ H R) : PI X tg iter t' := ⟨fun pins s σ H R I q => h.run pins s σ H R I (i σ H R q)⟩
/-- what is walked, of the operands' data -/
def walkF (k : IK) (fc : PL.Env → Out (List PyData)) : PL.Env → Out (List PyData) := fun ρ => bind (fc ρ) fun ds ρ1 => match itemsD k ds with
  | some items => .ok items ρ1
  | none => .stuck
theorem walk_run {Wx : WX} {K : PySem.W.Frag} {fc : PL.Env → Out (List PyData)} {k : IK} {σ : L2.St} {H : Hp} {R : It → Hp → Prop} {T : List V → Hp → Prop} (h : tSI K Wx (walkF k fc) σ H R)
    (next : ∀ (B Z : Addr → Prop) (ρ ρ1 : PL.Env) (ds items : List PyData) (vs : List V) (H1 : Hp), PostX K B Z ρ ρ1 σ H H1 → RpA K (Fb Z ρ1 σ) H1 vs ds → itemsD k ds = some items → (∀ J, WalkD K (Fb Z ρ1 σ) H1 J items → R J H1) → T vs H1) : tSC K Wx fc σ H T := by
  obtain ⟨B, Z, ρ, C, h⟩ := h
  refine sc_run C h (fun _ _ z => z) fun ds ρ1 vs H1 P1 rp h1 => ?_
  cases e : itemsD k ds with
  | none => rw [e] at h1; exact h1.elim
  | some items =>
    rw [e] at h1
    exact next B Z ρ ρ1 ds items vs H1 P1 rp e fun J w => h1 J H1 P1 w
section
variable {X : Cx} {Wx : WX} {tg e e2 e3 : Expr} {fa : PL.Env → Out Res} {fc : PL.Env → Out (List PyData)} {p pos tpos : Pos}
theorem si_plain (he : SE X Wx e fa) : SI X Wx tg e (walkF .plain fun ρ => bind (fa ρ) fun r ρ1 => bind (PL.cold ρ1 r) fun d ρ2 => bind (.ok [] ρ2) fun ds ρ3 => .ok (d :: ds) ρ3) := by
  refine ⟨fun pins s σ H R I ⟨B, Z, ρ, C, h⟩ => ?_⟩
  refine thn (he.run pins s σ H (fun x H1 => ∃ (d : PyData) (items : List PyData) (ρ2 : PL.Env), Rp X.K (Fb Z ρ2 σ) H1 x d ∧ itemsD .plain [d] = some items ∧ ∀ J, WalkD X.K (Fb Z ρ2 σ) H1 J items → R J H1) I ?_) fun v s1 ⟨x, H1, I1, r1, d, items, ρ2, rp, e, q⟩ => ?_
  · unfold walkF at h
    rw [bind_bind] at h
    refine sub_run C h (fun _ _ z => z) fun r ρ1 x H1 P1 h1 => ?_
    rw [bind_bind] at h1
    refine cold_run P1.res h1 fun d ρ2 P2 rp h2 => ?_
    have h2 : tOut (match itemsD .plain [d] with | some items => Out.ok items ρ2 | none => Out.stuck) _ _ := h2
    cases e : itemsD .plain [d] with
    | none => rw [e] at h2; exact h2.elim
    | some items =>
      rw [e] at h2
      exact ⟨d, items, ρ2, rp, e, fun J w => h2 J H1 (P1.x.seq P2) w⟩
  · cases d with
    | list ds =>
      cases e
      cases rp with
      | @lst a xs _ n rd ra =>
        cases r1
        obtain ⟨its, rv, p, hz⟩ := I1.list (show SqL X.K H1 a xs from .inl rd)
        refine wpAny_pyIter_list p.isList ?_
        exact pi_one (tk := s1.toks) I1 _ (turn_list a _) ⟨_, Heap.get?_push_size _ rfl, rfl, rfl⟩ (q _ (walkD_list n rd ra))
    | tuple ds =>
      cases e
      obtain ⟨a, xs, rfl, ht, ra⟩ := tup_keep rp
      cases r1
      obtain ⟨its, rv, p, hz⟩ := I1.tuple (ht H1 Keeps.refl)
      refine wpAny_pyIter_tuple (show s1.heap.IsTuple a its.toArray from p) ?_
      exact pi_one (tk := s1.toks) I1 _ (turn_tuple a _) ⟨_, Heap.get?_push_size _ rfl, rfl, rfl⟩ (q _ (walkD_tup ht ra))
    | str x =>
      cases e
      cases rp
      obtain ⟨t, rfl⟩ := r1
      have q := q _ walkD_str
      cases ha : x.cps.all (· < 128)
      · exact wpAny_pyIter_wide ha (pi_one (tk := s1.toks) I1 _ (turn_str _ x t "str_iterator" (.inr rfl)) ⟨_, Heap.get?_push_size _ rfl, rfl, rfl⟩ q)
      · exact wpAny_pyIter_ascii ha (pi_one (tk := s1.toks) I1 _ (turn_str _ x t "str_ascii_iterator" (.inl rfl)) ⟨_, Heap.get?_push_size _ rfl, rfl, rfl⟩ q)
    | dict kvs =>
      cases e
      cases rp with
      | @dct a ps _ n rd ra rb =>
        cases r1
        obtain ⟨es, ep, hr, pe, z1, z2, eH⟩ := (DView.mk rd ra rb : DView X (Fb Z ρ2 σ) H1 a ps kvs).sizes I1
        refine wpAny_pyIter_dict_raw rd.sys hr ?_
        exact pi_one (tk := s1.toks) I1 _ (turn_dict _ pe) ⟨_, Heap.get?_push_size _ rfl, rfl, rfl⟩ (q _ (walkD_dict n eH (by rw [z1, List.length_map]) ra))
    | _ => cases e
theorem range1_ok {lo hi st : Int} {items : List PyData} (h : range1 lo hi st = some items) : -1000000000 ≤ lo ∧ lo ≤ 1000000000 ∧ -1000000000 ≤ hi ∧ hi ≤ 1000000000 ∧
    ((st = 1 ∧ items = (List.range (hi - lo).toNat).map fun (k : Nat) => .int (lo + (k : Int))) ∨ (st = -1 ∧ items = (List.range (lo - hi).toNat).map fun (k : Nat) => .int (lo - (k : Int))) ∨
      (1 < st ∧ st ≤ 1000000 ∧ items = (List.range (if lo < hi then (hi - lo - 1) / st + 1 else 0).toNat).map fun (k : Nat) => .int (lo + (k : Int) * st))) := by
  unfold range1 at h
  split at h
  · rename_i hb
    simp only [Bool.and_eq_true, decide_eq_true_eq] at hb
    refine ⟨hb.1.1.1, hb.1.1.2, hb.1.2, hb.2, ?_⟩
    split at h
    · cases h; exact .inl ⟨by assumption, rfl⟩
    · split at h
      · cases h; exact .inr (.inl ⟨by assumption, rfl⟩)
      · split at h
        · rename_i hc
          simp only [Bool.and_eq_true, decide_eq_true_eq] at hc
          cases h
          exact .inr (.inr ⟨hc.1, hc.2, rfl⟩)
        · cases h
  · cases h
theorem RpA.ints1 {K : PySem.W.Frag} {Y : Addr → Prop} {H : Hp} {vs : List V} {i : Int} (r : RpA K Y H vs [.int i]) : vs = [.int i] := by
  cases r with
  | cons a b => cases a; cases b; rfl
theorem RpA.ints2 {K : PySem.W.Frag} {Y : Addr → Prop} {H : Hp} {vs : List V} {i j : Int} (r : RpA K Y H vs [.int i, .int j]) : vs = [.int i, .int j] := by
  cases r with
  | cons a b => cases a; rw [b.ints1]
theorem RpA.ints3 {K : PySem.W.Frag} {Y : Addr → Prop} {H : Hp} {vs : List V} {i j k : Int} (r : RpA K Y H vs [.int i, .int j, .int k]) : vs = [.int i, .int j, .int k] := by
  cases r with
  | cons a b => cases a; rw [b.ints2]
theorem range1_st {lo hi : Int} {items : List PyData} (h : range1 lo hi 1 = some items) : items = (List.range (hi - lo).toNat).map fun (k : Nat) => .int (lo + (k : Int)) := by
  obtain ⟨_, _, _, _, h | h | h⟩ := range1_ok h
  · exact h.2
  · exact absurd h.1 (by decide)
  · exact absurd h.1 (by decide)
theorem ints_eq : ∀ {ds : List PyData} {ns : List Int}, ints? ds = some ns → ds = ns.map .int
  | [], ns, h => by cases h; rfl
  | d :: ds, ns, h => by
    cases d with
    | int i =>
      cases e : ints? ds with
      | none => rw [ints?, e] at h; cases h
      | some m =>
        rw [ints?, e] at h
        cases h
        rw [ints_eq e]; rfl
    | _ => cases h
theorem r1_some {ds items : List PyData} (h : itemsD .r1 ds = some items) : ∃ n, ds = [.int n] ∧ range1 0 n 1 = some items := by
  have h : rg1 (ints? ds) = some items := h
  unfold rg1 at h
  split at h
  · rename_i n e; exact ⟨n, ints_eq e, h⟩
  · cases h
theorem r2_some {ds items : List PyData} (h : itemsD .r2 ds = some items) : ∃ lo hi, ds = [.int lo, .int hi] ∧ range1 lo hi 1 = some items := by
  have h : rg2 (ints? ds) = some items := h
  unfold rg2 at h
  split at h
  · rename_i lo hi e; exact ⟨lo, hi, ints_eq e, h⟩
  · cases h
theorem r3_some {ds items : List PyData} (h : itemsD .r3 ds = some items) : ∃ lo hi st, ds = [.int lo, .int hi, .int st] ∧ range1 lo hi st = some items := by
  have h : rg3 (ints? ds) = some items := h
  unfold rg3 at h
  split at h
  · rename_i lo hi st e; exact ⟨lo, hi, st, ints_eq e, h⟩
  · cases h
theorem si_range1 (hg : Gl X "range") (hm : X.mg "range" = none) (ha : SC X Wx [e] fc) (hs : unstar e = true) : SI X Wx tg (.Call (.Name "range" p) [e] [] pos) (walkF .r1 fc) := by
  refine pi_mono (pi_range1 hg hm ha (by rw [star_cons hs]; rfl)) fun σ H R h => walk_run h fun B Z ρ ρ1 ds items vs H1 P rp ei q => ?_
  obtain ⟨n, rfl, ei⟩ := r1_some ei
  obtain ⟨h1, h2, h3, h4, _⟩ := range1_ok ei
  have e2 := range1_st ei
  subst e2
  rw [rp.ints1]
  refine ⟨n, rfl, by omega, by omega, ?_⟩
  exact q (Itr 0 n.toNat) (by rw [show (n - 0).toNat = n.toNat by omega]; exact walkD_range)
theorem si_range2 (hg : Gl X "range") (hm : X.mg "range" = none) (ha : SC X Wx [e, e2] fc) (hs : unstar e = true) (hs2 : unstar e2 = true) : SI X Wx tg (.Call (.Name "range" p) [e, e2] [] pos) (walkF .r2 fc) := by
  refine pi_mono (pi_range2 hg hm ha (by rw [star_cons hs, star_cons hs2]; rfl) (by rw [star_cons hs2]; rfl)) fun σ H R h => walk_run h fun B Z ρ ρ1 ds items vs H1 P rp ei q => ?_
  obtain ⟨lo, hi, rfl, ei⟩ := r2_some ei
  obtain ⟨h1, h2, h3, h4, _⟩ := range1_ok ei
  have e2 := range1_st ei
  subst e2
  rw [rp.ints2]
  exact ⟨lo, hi, rfl, ⟨by omega, by omega, by omega, by omega⟩, q _ walkD_range⟩
theorem size_up {i j c : Int} (h5 : 1 < c) : Builtin.Range.rangeSize i j c = (((if i < j then (j - i - 1) / c + 1 else 0).toNat : Nat) : Int) := by
  unfold Builtin.Range.rangeSize
  rw [if_pos (by omega)]
  by_cases h : i < j
  · rw [if_pos h]
    have := Int.ediv_nonneg (a := j - i - 1) (b := c) (by omega) (by omega)
    omega
  · rw [if_neg h]; rfl
theorem small_up {i j c : Int} (h1 : -1000000000 ≤ i) (h2 : i ≤ 1000000000) (h3 : -1000000000 ≤ j) (h4 : j ≤ 1000000000) (h5 : 1 < c) (h6 : c ≤ 1000000) : Builtin.Range.small i j c = true := by
  have hs : 0 ≤ Builtin.Range.rangeSize i j c ∧ Builtin.Range.rangeSize i j c ≤ 2000000001 := by
    unfold Builtin.Range.rangeSize
    rw [if_pos (by omega)]
    split
    · have := Int.ediv_nonneg (a := j - i - 1) (b := c) (by omega) (by omega)
      have := Int.ediv_le_self (a := j - i - 1) c (by omega)
      omega
    · omega
  unfold Builtin.Range.small
  simp only [Builtin.Range.rangeFitsLong, Bool.and_eq_true, Bool.or_eq_true, decide_eq_true_eq, beq_iff_eq, show c > 0 by omega, if_true]
  refine ⟨⟨⟨⟨?_, ?_⟩, ?_⟩, ?_⟩, .inr ?_⟩ <;> omega
theorem si_range3 (hg : Gl X "range") (hm : X.mg "range" = none) (ha : SC X Wx [e, e2, e3] fc) (hs : [e, e2, e3].all unstar = true) : SI X Wx tg (.Call (.Name "range" p) [e, e2, e3] [] pos) (walkF .r3 fc) := by
  rw [List.all_cons, Bool.and_eq_true] at hs
  refine pi_mono (pi_range3 hg hm ha (star_cons hs.1) (star_any hs.2)) fun σ H R h => walk_run h fun B Z ρ ρ1 ds items vs H1 P rp ei q => ?_
  obtain ⟨lo, hi, st, rfl, ei⟩ := r3_some ei
  obtain ⟨h1, h2, h3, h4, h5⟩ := range1_ok ei
  rw [rp.ints3]
  rcases h5 with ⟨rfl, rfl⟩ | ⟨rfl, rfl⟩ | ⟨h5, h6, rfl⟩
  · refine ⟨lo, hi, 1, (hi - lo).toNat, rfl, ⟨by decide, by decide, small_one (by omega) (by omega) (by omega) (by omega), rangeSize_nat lo hi⟩, q _ (walkD_rangeC fun k => by omega)⟩
  · refine ⟨lo, hi, -1, (lo - hi).toNat, rfl, RgC.neg (by omega) (by omega) (by omega) (by omega), q _ (walkD_rangeC fun k => by omega)⟩
  · exact ⟨lo, hi, st, _, rfl, ⟨by omega, by omega, small_up h1 h2 h3 h4 h5 h6, size_up h5⟩, q _ (walkD_rangeC fun k => rfl)⟩
theorem si_enum {elts : List Expr} {kk : Nat} (hg : Gl X "enumerate") (hm : X.mg "enumerate" = none) (ha : SC X Wx [e] fc) (hs : unstar e = true) : SI X Wx (.Tuple elts kk tpos) (.Call (.Name "enumerate" p) [e] [] pos) (walkF .enum fc) := by
  refine pi_mono (pi_enumA hg hm ha (by rw [star_cons hs]; rfl)) fun σ H R h => walk_run h fun B Z ρ ρ1 ds items vs H1 P rp ei q => ?_
  have ei : enumD ds = some items := ei
  unfold enumD at ei
  split at ei
  · cases ei
    obtain ⟨v, rfl, r⟩ := rp.one'
    cases r with
    | @lst a xs _ n rd ra => exact ⟨a, xs, rfl, .inl ⟨.inl rd, q _ (walkD_enum n rd ra)⟩⟩
  · cases ei
    obtain ⟨v, rfl, r⟩ := rp.one'
    obtain ⟨a, xs, rfl, t1, ra⟩ := tup_keep r
    exact ⟨a, xs, rfl, .inr ⟨t1 H1 Keeps.refl, q _ (walkD_enumT t1 ra)⟩⟩
  · cases ei
theorem si_zip {elts : List Expr} {kk : Nat} (hg : Gl X "zip") (hm : X.mg "zip" = none) (ha : SC X Wx [e, e2] fc) (hs : unstar e = true) (hs2 : unstar e2 = true) : SI X Wx (.Tuple elts kk tpos) (.Call (.Name "zip" p) [e, e2] [] pos) (walkF .zip fc) := by
  refine pi_mono (RZ.pi_zipA hg hm ha (star_cons hs) (star_any (by rw [List.all_cons, hs2]; rfl))) fun σ H R h => walk_run h fun B Z ρ ρ1 ds items vs H1 P rp ei q => ?_
  have ei : zipD ds = some items := ei
  unfold zipD at ei
  split at ei
  · cases ei
    cases rp with
    | cons r1 rr =>
      obtain ⟨w, rfl, r2⟩ := rr.one'
      cases r1 with
      | @lst a xs _ n rd ra =>
        cases r2 with
        | @lst b ys _ n2 rd2 ra2 => exact ⟨a, b, xs, ys, rfl, .inl ⟨.inl rd, .inl rd2, q _ (walkD_zip n rd ra n2 rd2 ra2)⟩⟩
  · cases ei
    cases rp with
    | cons r1 rr =>
      obtain ⟨w, rfl, r2⟩ := rr.one'
      obtain ⟨a, xs, rfl, t1, ra⟩ := tup_keep r1
      obtain ⟨b, ys, rfl, t2, ra2⟩ := tup_keep r2
      exact ⟨a, b, xs, ys, rfl, .inr ⟨t1 H1 Keeps.refl, t2 H1 Keeps.refl, q _ (walkD_zipT t1 ra t2 ra2)⟩⟩
  · cases ei

/-! ### for -/
/-- the turns' invariant: the walked stands -/
theorem ss_for {T : Tg} {body : List Stmt} {fi : PL.Env → Out (List PyData)} {gb : PL.Env → SOut} (hp : PassesOwn (model X.prog X.w) X.A X.env X.xe) (hc : X.calm = true) (hi : SI X Wx tg e fi) (hg : SG X tg T) (hb : SSs X Wx body gb) (hs : ∀ x, foldedSetIterable e X.env x = pure x) :
    SS X Wx (.For tg e body [] pos) (fun ρ => sb (fi ρ) fun items ρ1 => forL T gb items ρ1) := by
  refine ps_mono (ps_for hp hc hi hg hb hs) fun D σ H ⟨B, Z, ρ, C, h⟩ => ?_
  refine ⟨B, Z, ρ, C, ?_⟩
  dsimp only at h
  cases e1 : fi ρ with
  | stuck => rw [e1] at h; exact h
  | exc c ρ1 => rw [e1] at h; exact Gs.x h
  | ok items ρ1 =>
    rw [e1] at h
    intro J H1 P1 W
    have h : tSt (forL T gb items ρ1) _ _ _ := h
    refine ⟨fun i m σ2 H2 => m = items.length - i ∧ i ≤ items.length ∧ ∃ ρ2, PostS X.K B Z ρ1 ρ2 σ σ2 H1 H2 ∧ tSt (forL T gb (items.drop i) ρ2) (fun ρ' => ∀ σ' H', PostS X.K B Z ρ ρ' σ σ' H H' → D.nx σ' H')
      (fun s ρ' => ∀ v σ' H', PostS X.K B Z ρ ρ' σ σ' H H' → RetV X.K B Z ρ' σ' H' v s → D.rt v H') (Gs X.K Wx B Z ρ σ H), ⟨items.length, by simp, Nat.zero_le _, ρ1, .refl P1.conc, h⟩, ?_⟩
    rintro i m σ2 H2 ⟨rfl, hi, ρ2, P2, h2⟩
    have kp := P2.kfb
    by_cases hlt : i < items.length
    · refine .inr ⟨W.goes i H2 hlt kp, fun σ3 H3 => ∃ ρ3, PostS X.K B Z ρ1 ρ3 σ σ3 H1 H3 ∧ tSt (forL T gb (items.drop (i + 1)) ρ3) (fun ρ' => ∀ σ' H', PostS X.K B Z ρ ρ' σ σ' H H' → D.nx σ' H')
        (fun s ρ' => ∀ v σ' H', PostS X.K B Z ρ ρ' σ σ' H H' → RetV X.K B Z ρ' σ' H' v s → D.rt v H') (Gs X.K Wx B Z ρ σ H), fun σ3 H3 q => ⟨items.length - (i + 1), by omega, rfl, hlt, q⟩, fun x H3 y => ?_⟩
      have ed : items[i]? = some items[i] := List.getElem?_eq_getElem hlt
      obtain ⟨k3, rx⟩ := W.yields i H2 x H3 _ (Fb Z ρ2 σ2) ed kp P2.fb (fun a z => P2.conc.fb z) y
      have C3 := P2.conc.grow k3
      have P3 : PostS X.K B Z ρ2 ρ2 σ2 σ2 H2 H3 := (⟨k3.any, Sub.refl, C3⟩ : PostX X.K B Z ρ2 ρ2 σ2 H2 H3).s
      rw [List.drop_eq_getElem_cons hlt, forL] at h2
      cases e2 : asgT T items[i] ρ2 with
      | none => rw [e2] at h2; exact h2.elim
      | some ρ3 =>
        rw [e2] at h2
        refine ⟨B, Z, ρ2, items[i], ρ3, C3, rx, e2, fun σ4 P4 _ => ⟨B, Z, ρ3, P4.conc, ?_⟩⟩
        have P5 := P2.seq (P3.seq P4)
        have h2 : tSt (match gb ρ3 with | .nx ρ2 => forL T gb (items.drop (i + 1)) ρ2 | r => r) _ _ _ := h2
        cases e4 : gb ρ3 with
        | nx ρ4 =>
          rw [e4] at h2
          exact fun σ' H' p => ⟨ρ4, P5.seq p, h2⟩
        | rt s ρ4 =>
          rw [e4] at h2
          exact fun v σ' H' p => h2 v σ' H' (P1.s.seq (P5.seq p))
        | exc c ρ4 =>
          rw [e4] at h2
          exact (Gs.step (Gs.step h2 P1.s) P5)
        | stuck =>
          rw [e4] at h2
          exact h2
    · have e : i = items.length := by omega
      subst e
      refine .inl ⟨W.stops H2 kp, ?_⟩
      rw [List.drop_length, forL] at h2
      exact h2 σ2 H2 (P1.s.seq P2)
end
end PL

set_option autoImplicit false
set_option linter.all false
set_option Elab.async false
set_option maxRecDepth 100000
set_option maxHeartbeats 1000000
/-! PL14: list comprehensions. -/
namespace PL
open PySem PySem.Spec PyProof.Rows L2
variable [TabL]
section
variable {ρ ρ' : PL.Env} {σ : L2.St}
theorem wipeE_get {i : Nat} {s : Slot} : ∀ {own : List Nat}, (wipeE ρ own)[i]? = some s → (i ∈ own ∧ s = .no) ∨ (i ∉ own ∧ ρ[i]? = some s)
  | [], h => .inr ⟨by simp, h⟩
  | j :: js, h => by
    rw [wipeE] at h
    rcases set_get h with ⟨rfl, z⟩ | ⟨ne, z⟩
    · exact .inl ⟨List.mem_cons_self, z.symm⟩
    · rcases wipeE_get z with ⟨h1, h2⟩ | ⟨h1, h2⟩
      · exact .inl ⟨List.mem_cons_of_mem _ h1, h2⟩
      · exact .inr ⟨fun q => (List.mem_cons.mp q).elim (fun q => ne q.symm) h1, h2⟩
theorem wipe_other {i : Nat} : ∀ {own : List Nat}, i ∉ own → (wipe σ own)[i]? = σ[i]?
  | [], _ => rfl
  | j :: js, h => by
    have h1 : j ≠ i := fun z => h (by rw [z]; exact List.mem_cons_self)
    have h2 : i ∉ js := fun z => h (List.mem_cons_of_mem _ z)
    rw [wipe, List.getElem?_set_ne h1]
    exact wipe_other h2
theorem wipeE_len : ∀ {own : List Nat}, (wipeE ρ own).length = ρ.length
  | [] => rfl
  | j :: js => by rw [wipeE, List.length_set]; exact wipeE_len
theorem wipe_len (σ : L2.St) : ∀ (own : List Nat), (wipe σ own).length = σ.length
  | [] => rfl
  | j :: js => by rw [wipe, List.length_set]; exact wipe_len σ js
theorem wipe_in {i : Nat} {x : Option V} : ∀ {own : List Nat}, i ∈ own → (wipe σ own)[i]? = some x → x = none
  | [], h, _ => by cases h
  | j :: js, h, e => by
    rw [wipe] at e
    by_cases q : j = i
    · subst q
      by_cases l : j < (wipe σ js).length
      · rw [List.getElem?_set_self l] at e; exact (Option.some.inj e).symm
      · rw [List.getElem?_eq_none (by rw [List.length_set]; omega)] at e; cases e
    · rw [List.getElem?_set_ne q] at e
      exact wipe_in ((List.mem_cons.mp h).resolve_left fun z => q z.symm) e
theorem wipe_idem (own : List Nat) : wipe (wipe σ own) own = wipe σ own := by
  apply List.ext_getElem?
  intro i
  by_cases h : i ∈ own
  · by_cases l : i < σ.length
    · have l1 : i < (wipe σ own).length := by rw [wipe_len]; exact l
      have l2 : i < (wipe (wipe σ own) own).length := by rw [wipe_len]; exact l1
      rw [List.getElem?_eq_getElem l1, List.getElem?_eq_getElem l2]
      rw [wipe_in h (List.getElem?_eq_getElem l1), wipe_in h (List.getElem?_eq_getElem l2)]
    · rw [List.getElem?_eq_none (by rw [wipe_len, wipe_len]; omega), List.getElem?_eq_none (by rw [wipe_len]; omega)]
  · rw [wipe_other h]
theorem backE_get {ρ0 : PL.Env} {i : Nat} {s : Slot} : ∀ {own : List Nat}, (backE ρ0 ρ own)[i]? = some s → (i ∈ own ∧ gets ρ0 i = s) ∨ (i ∉ own ∧ ρ[i]? = some s)
  | [], h => .inr ⟨by simp, h⟩
  | j :: js, h => by
    rw [backE] at h
    rcases set_get h with ⟨rfl, z⟩ | ⟨ne, z⟩
    · exact .inl ⟨List.mem_cons_self, z⟩
    · rcases backE_get z with ⟨h1, h2⟩ | ⟨h1, h2⟩
      · exact .inl ⟨List.mem_cons_of_mem _ h1, h2⟩
      · exact .inr ⟨fun q => (List.mem_cons.mp q).elim (fun q => ne q.symm) h1, h2⟩
theorem backE_len {ρ0 : PL.Env} : ∀ {own : List Nat}, (backE ρ0 ρ own).length = ρ.length
  | [] => rfl
  | j :: js => by rw [backE, List.length_set]; exact backE_len
/-- none of these slots is one's own -/
def Cool (ρ : PL.Env) (own : List Nat) : Prop := ∀ i ∈ own, ∀ io d, ρ[i]? ≠ some (Slot.h io d)
theorem cool_of {own : List Nat} (h : own.all (notHot ρ) = true) : Cool ρ own := fun i hi io d e => by
  have z := List.all_eq_true.mp h i hi
  unfold notHot gets at z
  rw [e] at z
  cases z
theorem Cool.wipe (own : List Nat) : Cool (wipeE ρ own) own := fun i hi io d e => by
  rcases wipeE_get e with ⟨_, z⟩ | ⟨z, _⟩
  · cases z
  · exact z hi
theorem Cool.sub {own : List Nat} (c : Cool ρ own) (s : Sub ρ ρ') : Cool ρ' own := fun i hi io d e => by
  obtain ⟨d1, e1⟩ := s i io d e
  exact c i hi io d1 e1
theorem wipe_sub {own : List Nat} : Sub ρ (wipeE ρ own) := fun i io d e => by
  rcases wipeE_get e with ⟨_, z⟩ | ⟨_, z⟩
  · cases z
  · exact ⟨d, z⟩
theorem hot_wipe {own : List Nat} {a : Addr} (h : HotAt (wipeE ρ own) (wipe σ own) a) : HotAt ρ σ a := by
  obtain ⟨i, io, d, e1, e2⟩ := h
  rcases wipeE_get e1 with ⟨_, z⟩ | ⟨n, z⟩
  · cases z
  · rw [wipe_other n] at e2
    exact ⟨i, io, d, z, e2⟩
end
mutual
theorem asgT_sub : ∀ {T : Tg} {d : PyData} {ρ ρ' : PL.Env}, asgT T d ρ = some ρ' → Sub ρ ρ' ∧ ρ'.length = ρ.length
  | .nm i, d, ρ, ρ', h => by
    rw [asgT] at h
    cases h
    exact ⟨sub_set_c, List.length_set⟩
  | .tp ts, d, ρ, ρ', h => by
    cases d with
    | tuple ds =>
      rw [asgT] at h
      exact asgTs_sub h
    | _ => cases h
theorem asgTs_sub : ∀ {T : List Tg} {d : List PyData} {ρ ρ' : PL.Env}, asgTs T d ρ = some ρ' → Sub ρ ρ' ∧ ρ'.length = ρ.length
  | [], [], ρ, ρ', h => by cases h; exact ⟨Sub.refl, rfl⟩
  | [], _ :: _, _, _, h => by cases h
  | _ :: _, [], _, _, h => by cases h
  | T :: Ts, d :: ds, ρ, ρ', h => by
    rw [asgTs] at h
    cases e : asgT T d ρ with
    | none => rw [e] at h; cases h
    | some ρ1 =>
      rw [e] at h
      obtain ⟨a, l⟩ := asgT_sub e
      obtain ⟨b, l2⟩ := asgTs_sub h
      exact ⟨a.trans b, l2.trans l⟩
end
section
variable {K : PySem.W.Frag} {B Z : Addr → Prop} {ρ ρ1 : PL.Env} {σ : L2.St} {H H1 : Hp} {own : List Nat}
theorem Conc.wipeE (C : Conc K B Z ρ σ H) (own : List Nat) : Conc K B Z (wipeE ρ own) (wipe σ own) H := by
  have fb : ∀ a, Fb Z (PL.wipeE ρ own) (wipe σ own) a → Fb Z ρ σ a := fun a z => z.imp id hot_wipe
  refine ⟨fun i d e => ?_, fun i io d e => ?_, fun i j io1 io2 d1 d2 a h1 h2 s1 s2 => ?_, C.tr, C.trB, by rw [wipeE_len, wipe_len]; exact C.len, C.tabs⟩
  · rcases wipeE_get e with ⟨_, z⟩ | ⟨n, z⟩
    · cases z
    · obtain ⟨v, e1, r⟩ := C.cold i d z
      exact ⟨v, by rw [wipe_other n]; exact e1, r.less fb⟩
  · rcases wipeE_get e with ⟨_, z⟩ | ⟨n, z⟩
    · cases z
    · obtain ⟨a, e1, nz, nb, o⟩ := C.hot i io d z
      exact ⟨a, by rw [wipe_other n]; exact e1, nz, nb, o.move Keeps.refl fb fun u e _ => e⟩
  · rcases wipeE_get h1 with ⟨_, z⟩ | ⟨n1, z1⟩
    · cases z
    · rcases wipeE_get h2 with ⟨_, z⟩ | ⟨n2, z2⟩
      · cases z
      · rw [wipe_other n1] at s1
        rw [wipe_other n2] at s2
        exact C.inj i j io1 io2 d1 d2 a z1 z2 s1 s2
/-- a write at a forbidden place -/
theorem Conc.put (C : Conc K B Z ρ σ H) {p : Addr} {o o0 : HO} (h0 : H p = some o0) (pl : Plain p o0) (no : NTb o) (h : Z p) : Conc K B Z ρ σ (upd H p o) := by
  have kp : Keeps (Fb Z ρ σ) H (upd H p o) := Keeps.put h0 pl no (.inl h)
  refine ⟨fun i d e => ?_, fun i io d e => ?_, C.inj, fun a z => kp.there a (C.tr a z), fun a z => kp.there a (C.trB a z), C.len, kp.tab C.tabs⟩
  · obtain ⟨v, e1, r⟩ := C.cold i d e
    exact ⟨v, e1, r.move kp fun _ z => z⟩
  · obtain ⟨a, e1, nz, nb, w⟩ := C.hot i io d e
    exact ⟨a, e1, nz, nb, w.move kp (fun _ z => z) fun u eu _ => by rw [upd_ne (fun q => nz (by rw [q]; exact h))]; exact eu⟩
theorem Conc.back {D : Addr} {ρt : PL.Env} (C1 : Conc K B Z ρ1 σ H1) (Ct : Conc K B (Plus D Z) ρt (wipe σ own) H) (hD : H1 D = none) (cool : Cool ρ1 own) (sub : Sub (PL.wipeE ρ1 own) ρt) (kp : Keeps (Fb Z ρ1 σ) H1 H) :
    Conc K B (Plus D Z) (backE ρ1 ρt own) σ H ∧ Sub ρ1 (backE ρ1 ρt own) ∧ ∀ a, HotAt (backE ρ1 ρt own) σ a → HotAt ρt (wipe σ own) a := by
  have hs : ∀ {i : Nat} {io : Bool} {d : PyData}, (backE ρ1 ρt own)[i]? = some (.h io d) → i ∉ own ∧ ρt[i]? = some (.h io d) := fun {i io d} e => by
    rcases backE_get e with ⟨h1, h2⟩ | z
    · exact absurd (gets_some h2 (by intro z; cases z)) (cool i h1 io d)
    · exact z
  have sb : Sub ρ1 (backE ρ1 ρt own) := fun i io d e => by
    obtain ⟨n, e1⟩ := hs e
    obtain ⟨d1, e2⟩ := sub i io d e1
    rcases wipeE_get e2 with ⟨z, _⟩ | ⟨_, z⟩
    · exact absurd z n
    · exact ⟨d1, z⟩
  have hot : ∀ a, HotAt (backE ρ1 ρt own) σ a → HotAt ρt (wipe σ own) a := fun a ⟨i, io, d, e1, e2⟩ => by
    obtain ⟨n, e3⟩ := hs e1
    exact ⟨i, io, d, e3, by rw [wipe_other n]; exact e2⟩
  have fb : ∀ a, Fb (Plus D Z) (backE ρ1 ρt own) σ a → Fb (Plus D Z) ρt (wipe σ own) a := fun a z => z.imp id (hot a)
  refine ⟨⟨fun i d e => ?_, fun i io d e => ?_, fun i j io1 io2 d1 d2 a h1 h2 s1 s2 => ?_, Ct.tr, Ct.trB, by rw [backE_len]; have q := Ct.len; rw [wipe_len] at q; exact q, Ct.tabs⟩, sb, hot⟩
  · rcases backE_get e with ⟨h1, h2⟩ | ⟨n, h2⟩
    · obtain ⟨v, e1, r⟩ := C1.cold i d (gets_some h2 (by intro z; cases z))
      refine ⟨v, e1, r.shift kp fun a z => ?_⟩
      rcases z with (z | z) | z
      · exact .inr (by rw [z]; exact fre hD)
      · exact .inl (.inl z)
      · exact .inl (.inr (sb.hot a z))
    · obtain ⟨v, e1, r⟩ := Ct.cold i d h2
      exact ⟨v, by rw [wipe_other n] at e1; exact e1, r.less fb⟩
  · obtain ⟨n, e1⟩ := hs e
    obtain ⟨a, e2, nz, nb, o⟩ := Ct.hot i io d e1
    exact ⟨a, by rw [wipe_other n] at e2; exact e2, nz, nb, o.move Keeps.refl fb fun u e _ => e⟩
  · obtain ⟨n1, e1⟩ := hs h1
    obtain ⟨n2, e2⟩ := hs h2
    exact Ct.inj i j io1 io2 d1 d2 a e1 e2 (by rw [wipe_other n1]; exact s1) (by rw [wipe_other n2]; exact s2)
end
/-- one turn -/
def stepF (T : Tg) (ft : PL.Env → Out Bool) (fe : PL.Env → Out Res) (own : List Nat) (d : PyData) (ρ2 : PL.Env) : Out (Option PyData) := match asgT T d (wipeE ρ2 own) with
  | some ρ3 => bind (ft ρ3) fun b ρ4 => if b then bind (fe ρ4) fun r ρ5 => bind (PL.cold ρ5 r) fun x ρ6 => .ok (some x) (wipeE ρ6 own) else .ok none (wipeE ρ4 own)
  | none => .stuck
def lcF (fi : PL.Env → Out (List PyData)) (T : Tg) (ft : PL.Env → Out Bool) (fe : PL.Env → Out Res) (own : List Nat) : PL.Env → Out Res := fun ρ => bind (fi ρ) fun items ρ1 => if own.all (notHot ρ1) then
  bind (lcL (stepF T ft fe own) items [] (wipeE ρ1 own)) fun acc ρ9 => Out.ok (Res.fresh (PyData.list acc)) (backE ρ1 ρ9 own) else .stuck
def WF : WX := fun _ _ _ => False
theorem lc_reads {K : PySem.W.Frag} {Wx : WX} {fi : PL.Env → Out (List PyData)} {T : Tg} {ft : PL.Env → Out Bool} {fe : PL.Env → Out Res} {own : List Nat} {σ : L2.St} {H : Hp} {Q : VK} (ht : tgIn own T = true)
    (h : tSE K Wx (lcF fi T ft fe own) σ H Q) : tLc (tSI K Wx fi) (tSG K T) (tST K WF ft) (tSE K WF fe) own σ H Q := by
  obtain ⟨B, Z, ρ, C, h⟩ := h
  refine ⟨B, Z, ρ, C, ?_⟩
  unfold lcF at h
  cases e1 : fi ρ with
  | stuck => rw [e1] at h; exact h
  | exc c ρ1 => rw [e1] at h; exact h
  | ok items ρ1 =>
    rw [e1] at h
    intro J H1 P1 W D hD
    have h : tOut (if own.all (notHot ρ1) = true then bind (lcL (stepF T ft fe own) items [] (wipeE ρ1 own)) fun acc ρ9 => Out.ok (Res.fresh (PyData.list acc)) (backE ρ1 ρ9 own) else .stuck) _ _ := h
    by_cases hc : own.all (notHot ρ1) = true
    · rw [if_pos hc] at h
      have cool := cool_of hc
      have C1 := P1.conc
      have Cw := (C1.wipeE own)
      have nz : ¬ Z D := fun z => fre hD (C1.tr D z)
      have nb : ¬ B D := fun z => fre hD (C1.trB D z)
      have k0 : Keeps NoM H1 (upd H1 D (.lst [])) := Keeps.new hD
      have Cs : Conc K B (Plus D Z) (wipeE ρ1 own) (wipe σ own) (upd H1 D (.lst [])) := Cw.bar hD ⟨_, upd_same, ntb_lst⟩ k0
      refine ⟨fun i m H2 => m = items.length - i ∧ i ≤ items.length ∧ ∃ (ρt : PL.Env) (av : List V) (ad : List PyData), Sub (wipeE ρ1 own) ρt ∧ Cool ρt own ∧ Conc K B (Plus D Z) ρt (wipe σ own) H2 ∧
        Keeps (Fb Z ρ1 σ) H1 H2 ∧ Keeps (HotAt ρ1 σ) H1 H2 ∧ H2 D = some (.lst av) ∧ RpA K (Fb (Plus D Z) ρt (wipe σ own)) H2 av ad ∧
        tOut (bind (lcL (stepF T ft fe own) (items.drop i) ad ρt) fun acc ρ9 => Out.ok (Res.fresh (PyData.list acc)) (backE ρ1 ρ9 own)) (fun r ρ' => ∀ v H', Post K B Z ρ ρ' σ H H' v r → Q v H') (Gx K Wx B Z ρ σ H),
        ⟨items.length, by simp, Nat.zero_le _, wipeE ρ1 own, [], [], Sub.refl, Cool.wipe own, Cs, k0.any, k0.any, upd_same, .nil, h⟩, ?_⟩
      rintro i m H2 ⟨rfl, hi, ρt, av, ad, sub, cl, Ct, kp, kh, hHD, ra, h2⟩
      have sub1 : ∀ a, HotAt ρt (wipe σ own) a → HotAt ρ1 σ a := fun a z => hot_wipe (sub.hot a z)
      by_cases hlt : i < items.length
      · -- the next state
        refine .inr ⟨W.goes i H2 hlt kp, fun H3 => i + 1 ≤ items.length ∧ ∃ (ρt : PL.Env) (av : List V) (ad : List PyData), Sub (wipeE ρ1 own) ρt ∧ Cool ρt own ∧ Conc K B (Plus D Z) ρt (wipe σ own) H3 ∧
          Keeps (Fb Z ρ1 σ) H1 H3 ∧ Keeps (HotAt ρ1 σ) H1 H3 ∧ H3 D = some (.lst av) ∧ RpA K (Fb (Plus D Z) ρt (wipe σ own)) H3 av ad ∧
          tOut (bind (lcL (stepF T ft fe own) (items.drop (i + 1)) ad ρt) fun acc ρ9 => Out.ok (Res.fresh (PyData.list acc)) (backE ρ1 ρ9 own)) (fun r ρ' => ∀ v H', Post K B Z ρ ρ' σ H H' v r → Q v H') (Gx K Wx B Z ρ σ H),
          fun H3 q => ⟨items.length - (i + 1), by omega, rfl, q⟩, fun x H3 y => ?_⟩
        have ed : items[i]? = some items[i] := List.getElem?_eq_getElem hlt
        obtain ⟨k3, rx⟩ := W.yields i H2 x H3 _ (Fb (Plus D Z) (wipeE ρt own) (wipe σ own)) ed kp (fun a z => by
          rcases z with (z | z) | z
          · exact .inr (by rw [z]; exact fre hD)
          · exact .inl (.inl z)
          · exact .inl (.inr (sub1 a (wipe_sub.hot a z)))) (fun a z => by
          rcases z with z | z
          · exact Ct.tr a z
          · exact Ct.fb (.inr (wipe_sub.hot a z))) y
        have C3 : Conc K B (Plus D Z) (wipeE ρt own) (wipe σ own) H3 := by
          have q := (Ct.grow k3).wipeE own
          rw [wipe_idem] at q
          exact q
        rw [List.drop_eq_getElem_cons hlt, lcL] at h2
        have hst : stepF T ft fe own items[i] ρt = (match asgT T items[i] (wipeE ρt own) with
          | some ρ3 => bind (ft ρ3) fun b ρ4 => if b then bind (fe ρ4) fun r ρ5 => bind (PL.cold ρ5 r) fun x ρ6 => .ok (some x) (wipeE ρ6 own) else .ok none (wipeE ρ4 own)
          | none => .stuck) := rfl
        cases e2 : asgT T items[i] (wipeE ρt own) with
        | none => rw [e2] at hst; rw [hst] at h2; exact h2.elim
        | some ρ3 =>
          rw [e2] at hst
          dsimp only at hst
          obtain ⟨asub, alen⟩ := asgT_sub e2
          refine ⟨B, Plus D Z, wipeE ρt own, items[i], ρ3, C3, rx, e2, fun σ4 P4 w4 => ⟨by rw [w4 own ht, wipe_idem], ?_⟩⟩
          have wσ : wipe σ4 own = wipe σ own := by rw [w4 own ht, wipe_idem]
          refine ⟨B, Plus D Z, ρ3, P4.conc, ?_⟩
          cases e4 : ft ρ3 with
          | stuck => rw [e4] at hst; rw [hst] at h2; exact h2.elim
          | exc c ρ4 => rw [e4] at hst; rw [hst] at h2; exact h2.elim
          | ok b ρ4 =>
            rw [e4, bind_ok] at hst
            intro H4 P5
            -- behind the test
            have done : ∀ {ρ6 : PL.Env} {H6 : Hp}, PostX K B (Plus D Z) ρ3 ρ6 σ4 H3 H6 → Sub (wipeE ρ1 own) (wipeE ρ6 own) ∧ Cool (wipeE ρ6 own) own ∧ Conc K B (Plus D Z) (wipeE ρ6 own) (wipe σ own) H6 ∧
                Keeps (Fb Z ρ1 σ) H1 H6 ∧ Keeps (HotAt ρ1 σ) H1 H6 ∧ H6 D = some (.lst av) ∧ RpA K (Fb (Plus D Z) (wipeE ρ6 own) (wipe σ own)) H6 av ad ∧ (∀ a, Fb (Plus D Z) (wipeE ρ6 own) (wipe σ own) a → Fb (Plus D Z) ρ6 σ4 a) := fun {ρ6 H6} P6 => by
              have s6 : Sub (wipeE ρt own) ρ6 := asub.trans P6.sl
              have hot4 : ∀ a, HotAt ρ3 σ4 a → HotAt (wipeE ρt own) (wipe σ own) a := fun a ⟨j, io, d, q1, q2⟩ => by
                obtain ⟨d1, q3⟩ := asub j io d q1
                rcases wipeE_get q3 with ⟨_, z⟩ | ⟨n, z⟩
                · cases z
                · refine ⟨j, io, d1, q3, ?_⟩
                  rw [← wσ, wipe_other n]; exact q2
              have k6 : Keeps (HotAt (wipeE ρt own) (wipe σ own)) H2 H6 := (k3.any).trans (P6.keep.mono hot4)
              have k7 : Keeps (HotAt ρ1 σ) H2 H6 := k6.mono fun a z => sub1 a (wipe_sub.hot a z)
              have C6 : Conc K B (Plus D Z) (wipeE ρ6 own) (wipe σ own) H6 := by
                have q := P6.conc.wipeE own
                rw [wσ] at q
                exact q
              have fb6 : ∀ a, HotAt (wipeE ρ6 own) (wipe σ own) a → HotAt ρt (wipe σ own) a := fun a z => wipe_sub.hot a (s6.hot a (wipe_sub.hot a z))
              refine ⟨(sub.trans wipe_sub).trans (s6.trans wipe_sub), Cool.wipe own, C6, kp.trans (k7.mono fun a z => .inr z), kh.trans k7, k6.old D _ hHD ntb_lst fun z => C3.nhot (.inl rfl) z, ?_, fun a z => ?_⟩
              · exact ra.move (keep_fb (Z := Plus D Z) (k6.mono fun a z => wipe_sub.hot a z)) fun a z => z.imp id (fb6 a)
              · refine z.imp id fun z => ?_
                rw [← wσ] at z
                exact hot_wipe z
            cases b with
            | false =>
              rw [if_neg Bool.false_ne_true]
              rw [if_neg Bool.false_ne_true] at hst
              rw [hst] at h2
              have h2 : tOut (bind (lcL (stepF T ft fe own) (items.drop (i + 1)) ad (wipeE ρ4 own)) fun acc ρ9 => Out.ok (Res.fresh (PyData.list acc)) (backE ρ1 ρ9 own)) _ _ := h2
              obtain ⟨a1, a3, a4, a5, a6, a7, a8, _⟩ := done P5
              exact ⟨hlt, wipeE ρ4 own, av, ad, a1, a3, a4, a5, a6, a7, a8, h2⟩
            | true =>
              rw [if_pos rfl]
              refine ⟨B, Plus D Z, ρ4, P5.conc, ?_⟩
              rw [if_pos rfl] at hst
              cases e5 : fe ρ4 with
              | stuck => rw [e5] at hst; rw [hst] at h2; exact h2.elim
              | exc c ρ5 => rw [e5] at hst; rw [hst] at h2; exact h2.elim
              | ok r ρ5 =>
                rw [e5, bind_ok] at hst
                intro v H5 P7
                cases e6 : PL.cold ρ5 r with
                | stuck => rw [e6] at hst; rw [hst] at h2; exact h2.elim
                | exc c ρ6 => rw [e6] at hst; rw [hst] at h2; exact h2.elim
                | ok d ρ6 =>
                  rw [e6, bind_ok] at hst
                  rw [hst] at h2
                  obtain ⟨P8, rv⟩ := cold_ok P7.res e6
                  obtain ⟨a1, a3, a4, a5, a6, a7, a8, a9⟩ := done ((P5.seq P7.x).seq P8)
                  have h2 : tOut (bind (if szOk ad.length = true then lcL (stepF T ft fe own) (items.drop (i + 1)) (ad ++ [d]) (wipeE ρ6 own) else .stuck) fun acc ρ9 => Out.ok (Res.fresh (PyData.list acc)) (backE ρ1 ρ9 own)) _ _ := h2
                  by_cases hz : szOk ad.length = true
                  · rw [if_pos hz] at h2
                    have kD : Keeps (Fb (Plus D Z) (wipeE ρ6 own) (wipe σ own)) H5 (upd H5 D (.lst (av ++ [v]))) := Keeps.put a7 plain_lst ntb_lst (.inl (.inl rfl))
                    have kn : ∀ {M : Addr → Prop}, Keeps M H1 H5 → Keeps M H1 (upd H5 D (.lst (av ++ [v]))) := fun {M} k => ⟨fun a o e t n => by rw [upd_ne (fun q => by rw [q, hD] at e; cases e)]; exact k.old a o e t n, fun a z => kD.there a (k.there a z), fun t => kD.tab (k.tab t)⟩
                    exact ⟨av, a7, by rw [ra.length]; exact szOk_lt hz, hlt, wipeE ρ6 own, av ++ [v], ad ++ [d], a1, a3, a4.put a7 plain_lst ntb_lst (.inl rfl), kn a5, kn a6, upd_same, (a8.append (.cons (rv.less a9) .nil)).move kD fun _ z => z, h2⟩
                  · rw [if_neg hz] at h2
                    exact h2.elim
      · have e : i = items.length := by omega
        subst e
        refine .inl ⟨W.stops H2 kp, ?_⟩
        rw [List.drop_length, lcL] at h2
        obtain ⟨Cb, sb, hb⟩ := Conc.back C1 Ct hD cool sub kp
        refine h2 (.ref D) H2 ⟨P1.keep.seq kh P1.sub, P1.sl.trans sb, ⟨D, rfl, nz, nb, Cb, ⟨av, hHD, ra.less fun a z => z.imp id (hb a)⟩⟩, fun _ a _ ea => ?_⟩
        cases ea
        exact P1.keep.notnew (fre hD)
    · rw [if_neg hc] at h
      exact h.elim
end PL

set_option autoImplicit false
set_option linter.all false
set_option Elab.async false
set_option maxRecDepth 100000
set_option maxHeartbeats 1000000
/-! PL15: comprehensions as expressions and stored; calls of defs. -/
namespace PL
open PySem PySem.Spec PyProof.Rows L2
variable [TabL]
section
variable {X : Cx} {Wx : WX} {elt tg iter : Expr} {ifs : List Expr} {scope : Scope} {own : List (Str × Nat)} {pos spos : Pos} {fi : PL.Env → Out (List PyData)} {T : Tg} {ft : PL.Env → Out Bool} {fe : PL.Env → Out Res}
theorem se_lc (hc : X.calm = true) (hN : X.N.Nodup) (hi : SI X Wx tg iter fi) (ok : BlkOk X.N X.env.scope scope own) (hg : ∀ (s : Shared) (H : Hp) (C : Addr) (cl : List (Str × Addr)) (fp : List Addr), SG (X.blk s H scope (compEnvC scope cl C X.env) fp) tg T)
    (ht : ∀ (s : Shared) (H : Hp) (C : Addr) (cl : List (Str × Addr)) (fp : List Addr), PTs (X.blk s H scope (compEnvC scope cl C X.env) fp) ifs (tST X.K WF ft))
    (he : ∀ (s : Shared) (H : Hp) (C : Addr) (cl : List (Str × Addr)) (fp : List Addr), SE (X.blk s H scope (compEnvC scope cl C X.env) fp) WF elt fe) (hs : ∀ x, foldedSetIterable iter X.env x = pure x) (htg : tgIn (own.map (·.2)) T = true) :
    SE X Wx (.ListComp elt [⟨tg, iter, ifs, 0⟩] scope pos) (lcF fi T ft fe (own.map (·.2))) :=
  pe_mono (pe_lc (g := tSG X.K T) (tt := tST X.K WF ft) (te := tSE X.K WF fe) hc hN hi ok hg ht he hs) fun σ H Q h => lc_reads htg h
theorem asg_lc {i : Nat} {y : Str} {py : Pos} (hc : X.calm = true) (hN : X.N.Nodup) (hy : X.N[i]? = some y) (hyl : X.env.scope.names.lookup y = some .local) (hsw : swapsWith (.ListComp elt [⟨tg, iter, ifs, 0⟩] scope pos) (some (.Name y py)) spos.line X.env = pure true)
    (hi : SI X Wx tg iter fi) (ok : BlkOk X.N X.env.scope scope own) (hg : ∀ (s : Shared) (H : Hp) (C : Addr) (cl : List (Str × Addr)) (fp : List Addr), SG (X.blk s H scope (compEnvC scope cl C X.env) fp) tg T)
    (ht : ∀ (s : Shared) (H : Hp) (C : Addr) (cl : List (Str × Addr)) (fp : List Addr), PTs (X.blk s H scope (compEnvC scope cl C X.env) fp) ifs (tST X.K WF ft))
    (he : ∀ (s : Shared) (H : Hp) (C : Addr) (cl : List (Str × Addr)) (fp : List Addr), SE (X.blk s H scope (compEnvC scope cl C X.env) fp) WF elt fe) (hs : ∀ x, foldedSetIterable iter X.env x = pure x) (htg : tgIn (own.map (·.2)) T = true) :
    PS X (.Assign [.Name y py] (.ListComp elt [⟨tg, iter, ifs, 0⟩] scope pos) spos) (tAsg (tSE X.K Wx (lcF fi T ft fe (own.map (·.2)))) (gName i)) :=
  ps_mono (ps_setLc (g := tSG X.K T) (tt := tST X.K WF ft) (te := tSE X.K WF fe) hc hN hy hyl hsw hi ok hg ht he hs) fun D σ H h => lc_reads htg h
end

/-! ### arguments -/
def refs : V → List Addr
  | .ref a => [a]
  | _ => []
def ioA (ios : List Nat) : Nat → List V → List Addr
  | _, [] => []
  | j, v :: vs => if ios.contains j then refs v ++ ioA ios (j + 1) vs else ioA ios (j + 1) vs
def Args (K : PySem.W.Frag) (Y : Addr → Prop) (H : Hp) (ios : List Nat) : Nat → List V → List PyData → Prop
  | _, [], [] => True
  | j, v :: vs, d :: ds => (if ios.contains j then ∃ a, v = .ref a ∧ Y a ∧ Own K Y H a d else Rp K Y H v d) ∧ Args K Y H ios (j + 1) vs ds
  | _, _, _ => False
def OutsR (K : PySem.W.Frag) (Y : Addr → Prop) (H : Hp) (ios : List Nat) : Nat → List V → List PyData → Prop
  | _, [], os => os = []
  | j, v :: vs, os => if ios.contains j then ∃ d os' a, os = d :: os' ∧ v = .ref a ∧ Own K Y H a d ∧ OutsR K Y H ios (j + 1) vs os' else OutsR K Y H ios (j + 1) vs os
/-- what comes back is forbidden too, if it is one's own -/
def RetY (Y : Addr → Prop) (v : V) : Slot → Addr → Prop
  | .h _ _ => fun b => Y b ∨ v = .ref b
  | _ => Y
def RetOk (K : PySem.W.Frag) (Y : Addr → Prop) (H H' : Hp) (v : V) : Slot → Prop
  | .no => False
  | .c d => Rp K Y H' v d
  | .h _ d => ∃ a, v = .ref a ∧ ¬ Thr H a ∧ Own K (Plus a Y) H' a d
/-- a def's promise: what the evaluator says -/
def spD (K : PySem.W.Frag) (mg : Str → Option Value) (call : Str → List PyData → CRes) (f : Str) (D : Def) : Sp := fun vs H Q E => ∃ (Y : Addr → Prop) (ds : List PyData), Trk Y H ∧ Args K Y H D.ios 0 vs ds ∧ (ioA D.ios 0 vs).Nodup ∧ LamX.Tabs TabL.T H ∧ (match call f ds with
  | .ok r outs => ∀ v H', Keeps (fun a => a ∈ ioA D.ios 0 vs) H H' → OutsR K (RetY Y v r) H' D.ios 0 vs outs → RetOk K Y H H' v r → Q v H'
  | .exc c outs => ∀ H' C, mg c = some (.ref C) → Keeps (fun a => a ∈ ioA D.ios 0 vs) H H' → OutsR K Y H' D.ios 0 vs outs → E (.ref C) none H'
  | .stuck => False)
/-- a wish about errors by their names, as the layer has it -/
def LW (mg : Str → Option Value) (Wx : WX) : L2.WX := fun cls d σ H => d = none ∧ ∃ c C, cls = .ref C ∧ mg c = some (.ref C) ∧ Wx c σ H
theorem takes_WF {X : Cx} : Takes X (LW X.mg WF) := Takes.imp LamX.takes0 fun _ _ _ _ ⟨_, _, _, _, _, z⟩ => z
theorem passesAt_of {X : Cx} {Wx : WX} (tk : Takes X (LW X.mg Wx)) (σ : L2.St) : PassesAt (L2.CX X.prog X.w) X σ (fun cls d H' => LW X.mg Wx cls d σ H') :=
  fun _ _ _ e s' I c => tk e s' (XE.of_call I (fun _ _ _ h => h) c)
/-- the arguments as they wait -/
def ArgH (K : PySem.W.Frag) (Z : Addr → Prop) (ρ : PL.Env) (σ : L2.St) (H : Hp) (ios : List Nat) : Nat → List V → List ArgR → Prop
  | _, [], [] => True
  | j, v :: vs, .io i :: as => ios.contains j = true ∧ σ[i]? = some (some v) ∧ ArgH K Z ρ σ H ios (j + 1) vs as
  | j, v :: vs, .val d :: as => ios.contains j = false ∧ Rp K (Fb Z ρ σ) H v d ∧ ArgH K Z ρ σ H ios (j + 1) vs as
  | _, _, _ => False
section
variable {K : PySem.W.Frag} {B Z : Addr → Prop} {ρ ρ1 ρ2 : PL.Env} {σ : L2.St} {H H1 H' : Hp} {ios : List Nat}
theorem ArgH.move (q : PostX K B Z ρ ρ1 σ H H1) : ∀ {j : Nat} {vs : List V} {as : List ArgR}, ArgH K Z ρ σ H ios j vs as → ArgH K Z ρ1 σ H1 ios j vs as
  | _, [], [], _ => True.intro
  | j, v :: vs, .io i :: as, h => ⟨h.1, h.2.1, ArgH.move q h.2.2⟩
  | j, v :: vs, .val d :: as, h => ⟨h.1, h.2.1.move (keep_fb q.keep) (fb_sub q.sub), ArgH.move q h.2.2⟩
  | _, [], _ :: _, h => h.elim
  | _, _ :: _, [], h => h.elim
theorem args_of (C : Conc K B Z ρ σ H) : ∀ {j : Nat} {vs : List V} {as : List ArgR} {ds : List PyData}, ArgH K Z ρ σ H ios j vs as → derefs ρ as = some ds → Args K (Fb Z ρ σ) H ios j vs ds
  | _, [], [], _, _, e => by cases e; exact True.intro
  | j, v :: vs, .val d :: as, ds, h, e => by
    rw [derefs] at e
    cases e1 : derefs ρ as with
    | none => rw [e1] at e; cases e
    | some es =>
      rw [e1] at e
      cases e
      refine ⟨?_, args_of C h.2.2 e1⟩
      rw [if_neg (by rw [h.1]; exact Bool.false_ne_true)]
      exact h.2.1
  | j, v :: vs, .io i :: as, ds, h, e => by
    rw [derefs] at e
    cases e2 : gets ρ i with
    | h io d =>
      cases e1 : derefs ρ as with
      | none => rw [e1, e2] at e; cases e
      | some es =>
        rw [e1, e2] at e
        cases e
        refine ⟨?_, args_of C h.2.2 e1⟩
        rw [if_pos h.1]
        have hs := gets_some e2 (by intro z; cases z)
        obtain ⟨a, e3, nz, nb, o⟩ := C.hot i io d hs
        have hv := h.2.1
        rw [hv] at e3
        cases e3
        exact ⟨a, rfl, .inr ⟨i, io, d, hs, hv⟩, o⟩
    | _ => rw [e2] at e; cases e
  | _, [], _ :: _, _, h, _ => h.elim
  | _, _ :: _, [], _, h, _ => h.elim
/-- an io argument's address is that of its slot -/
theorem ioA_mem {a : Addr} : ∀ {j : Nat} {vs : List V} {as : List ArgR}, ArgH K Z ρ σ H ios j vs as → (a ∈ ioA ios j vs ↔ ∃ i ∈ iosOf as, σ[i]? = some (some (.ref a)))
  | _, [], [], _ => by simp [ioA, iosOf]
  | j, v :: vs, .val d :: as, h => by
    rw [ioA, if_neg (by rw [h.1]; exact Bool.false_ne_true), iosOf]
    exact ioA_mem h.2.2
  | j, v :: vs, .io i :: as, h => by
    rw [ioA, if_pos h.1, iosOf]
    have ih := ioA_mem (a := a) h.2.2
    cases v with
    | ref b =>
      rw [refs, List.singleton_append, List.mem_cons, ih]
      constructor
      · rintro (rfl | ⟨k, hk, e⟩)
        · exact ⟨i, List.mem_cons_self, h.2.1⟩
        · exact ⟨k, List.mem_cons_of_mem _ hk, e⟩
      · rintro ⟨k, hk, e⟩
        rcases List.mem_cons.mp hk with rfl | hk
        · have := h.2.1
          rw [this] at e
          cases e
          exact .inl rfl
        · exact .inr ⟨k, hk, e⟩
    | _ =>
      refine Iff.trans ih ?_
      constructor
      · rintro ⟨k, hk, e⟩
        exact ⟨k, List.mem_cons_of_mem _ hk, e⟩
      · rintro ⟨k, hk, e⟩
        rcases List.mem_cons.mp hk with rfl | hk
        · have := h.2.1
          rw [this] at e
          cases e
        · exact ⟨k, hk, e⟩
  | _, [], _ :: _, h => h.elim
  | _, _ :: _, [], h => h.elim
theorem derefs_hot : ∀ {as : List ArgR} {ds : List PyData}, derefs ρ as = some ds → ∀ i ∈ iosOf as, ∃ io d, ρ[i]? = some (Slot.h io d)
  | [], _, _, i, hi => by cases hi
  | .val d :: as, ds, e, i, hi => by
    rw [derefs] at e
    cases e1 : derefs ρ as with
    | none => rw [e1] at e; cases e
    | some es => exact derefs_hot e1 i hi
  | .io k :: as, ds, e, i, hi => by
    rw [derefs] at e
    cases e2 : gets ρ k with
    | h io d =>
      cases e1 : derefs ρ as with
      | none => rw [e1, e2] at e; cases e
      | some es =>
        rcases List.mem_cons.mp hi with rfl | hi
        · exact ⟨io, d, gets_some e2 (by intro z; cases z)⟩
        · exact derefs_hot e1 i hi
    | _ => rw [e2] at e; cases e
theorem ioA_nodup (C : Conc K B Z ρ σ H) : ∀ {j : Nat} {vs : List V} {as : List ArgR} {ds : List PyData}, ArgH K Z ρ σ H ios j vs as → derefs ρ as = some ds → (iosOf as).Nodup → (ioA ios j vs).Nodup
  | _, [], [], _, _, _, _ => by simp [ioA]
  | j, v :: vs, .val d :: as, ds, h, e, n => by
    rw [derefs] at e
    cases e1 : derefs ρ as with
    | none => rw [e1] at e; cases e
    | some es =>
      rw [ioA, if_neg (by rw [h.1]; exact Bool.false_ne_true)]
      exact ioA_nodup C h.2.2 e1 n
  | j, v :: vs, .io i :: as, ds, h, e, n => by
    rw [iosOf, List.nodup_cons] at n
    have e0 := e
    rw [derefs] at e
    cases e2 : gets ρ i with
    | h io d =>
      cases e1 : derefs ρ as with
      | none => rw [e1, e2] at e; cases e
      | some es =>
        have ih := ioA_nodup C h.2.2 e1 n.2
        rw [ioA, if_pos h.1]
        cases v with
        | ref b =>
          rw [refs, List.singleton_append, List.nodup_cons]
          refine ⟨fun z => ?_, ih⟩
          obtain ⟨k, hk, e3⟩ := (ioA_mem h.2.2).mp z
          obtain ⟨io2, d2, e4⟩ := derefs_hot e1 k hk
          have := C.inj i k io io2 d d2 b (gets_some e2 (by intro z; cases z)) e4 h.2.1 e3
          rw [this] at n
          exact n.1 hk
        | _ => exact ih
    | _ => rw [e2] at e; cases e
  | _, [], _ :: _, _, h, _, _ => h.elim
  | _, _ :: _, [], _, h, _, _ => h.elim
theorem put_back {Y : Addr → Prop} : ∀ {j : Nat} {vs : List V} {as : List ArgR} {os : List PyData} {ρ ρ2 : PL.Env} {ρ0 : PL.Env}, ArgH K Z ρ0 σ H ios j vs as → OutsR K Y H' ios j vs os → (iosOf as).Nodup → putBack ρ as os = some ρ2 →
    (∀ (i : Nat) (d : PyData), ρ2[i]? = some (Slot.c d) → ρ[i]? = some (Slot.c d)) ∧ Sub ρ ρ2 ∧ ρ2.length = ρ.length ∧
    ∀ (i : Nat) (io : Bool) (d : PyData), ρ2[i]? = some (Slot.h io d) → (i ∉ iosOf as ∧ ρ[i]? = some (Slot.h io d)) ∨ (i ∈ iosOf as ∧ ∃ a, σ[i]? = some (some (.ref a)) ∧ Own K Y H' a d)
  | _, [], [], os, ρ, ρ2, _, _, ho, _, e => by
    have ho : os = [] := ho
    subst ho
    cases e
    exact ⟨fun _ _ z => z, Sub.refl, rfl, fun i io d z => .inl ⟨by simp [iosOf], z⟩⟩
  | j, v :: vs, .val d :: as, os, ρ, ρ2, _, h, ho, n, e => by
    have e' : putBack ρ as os = some ρ2 := by
      cases os <;> exact e
    unfold OutsR at ho
    rw [if_neg (by rw [h.1]; exact Bool.false_ne_true)] at ho
    have n' : (iosOf as).Nodup := n
    have q := put_back h.2.2 ho n' e'
    exact q
  | j, v :: vs, .io i :: as, os, ρ, ρ2, _, h, ho, n, e => by
    unfold OutsR at ho
    rw [if_pos h.1] at ho
    obtain ⟨d, os, a, rfl, ev, ow, ho⟩ := ho
    · subst ev
      rw [iosOf, List.nodup_cons] at n
      rw [putBack] at e
      cases e2 : gets ρ i with
      | h io d0 =>
        rw [e2] at e
        dsimp only at e
        obtain ⟨a1, a2, a3, a4⟩ := put_back h.2.2 ho n.2 e
        have hs := gets_some e2 (by intro z; cases z)
        refine ⟨fun k d' z => ?_, (set_sub hs).trans a2, a3.trans List.length_set, fun k io' d' z => ?_⟩
        · rcases set_get (a1 k d' z) with ⟨_, z⟩ | ⟨_, z⟩
          · cases z
          · exact z
        · rcases a4 k io' d' z with ⟨n1, z⟩ | ⟨m1, b, e3, o⟩
          · rcases set_get z with ⟨rfl, w⟩ | ⟨ne, w⟩
            · cases w
              exact .inr ⟨List.mem_cons_self, a, h.2.1, ow⟩
            · exact .inl ⟨fun q => (List.mem_cons.mp q).elim (fun q => ne q.symm) n1, w⟩
          · exact .inr ⟨List.mem_cons_of_mem _ m1, b, e3, o⟩
      | _ => rw [e2] at e; cases e
  | _, [], .val _ :: _, _, _, _, _, h, _, _, _ => h.elim
  | _, [], .io _ :: _, _, _, _, _, h, _, _, _ => h.elim
  | _, _ :: _, [], _, _, _, _, h, _, _, _ => h.elim
/-- behind a call -/
theorem call_post {as : List ArgR} {vs : List V} {ds os : List PyData} {v : V} {r : Slot} {res : Res} (C : Conc K B Z ρ σ H) (h : ArgH K Z ρ σ H ios 0 vs as) (n : (iosOf as).Nodup) (hd : derefs ρ as = some ds) (k : Keeps (fun a => a ∈ ioA ios 0 vs) H H')
    (ho : OutsR K (RetY (Fb Z ρ σ) v r) H' ios 0 vs os) (hr : RetOk K (Fb Z ρ σ) H H' v r) (e : putBack ρ as os = some ρ2) (er : (match r with | .c d => some (Res.val d) | .h _ d => some (Res.fresh d) | .no => none) = some res) : Post K B Z ρ ρ2 σ H H' v res := by
  obtain ⟨p1, p2, p3, p4⟩ := put_back h ho n e
  have hio : ∀ a, a ∈ ioA ios 0 vs → HotAt ρ σ a := fun a ha => by
    obtain ⟨i, hi, e1⟩ := (ioA_mem h).mp ha
    obtain ⟨io, d, e2⟩ := derefs_hot hd i hi
    exact ⟨i, io, d, e2, e1⟩
  have kh : Keeps (HotAt ρ σ) H H' := k.mono hio
  have kf : Keeps (Fb Z ρ σ) H H' := keep_fb kh
  -- over any wider ban whose news did not stand
  have conc : ∀ Z2 : Addr → Prop, (∀ a, Z2 a → Z a ∨ ¬ Thr H a) → (∀ a, Z2 a → Thr H' a) → (∀ a, Fb Z2 ρ2 σ a → RetY (Fb Z ρ σ) v r a) → Conc K B Z2 ρ2 σ H' := fun Z2 h1 h2 h3 => by
    have hY : ∀ a, Fb Z2 ρ2 σ a → Fb Z ρ σ a ∨ ¬ Thr H a := fun a z => by
      rcases z with z | z
      · exact (h1 a z).imp .inl id
      · exact .inl (.inr (p2.hot a z))
    refine ⟨fun i d q => ?_, fun i io d q => ?_, fun i j io1 io2 d1 d2 a q1 q2 s1 s2 => ?_, h2, fun a z => k.there a (C.trB a z), by rw [p3]; exact C.len, k.tab C.tabs⟩
    · obtain ⟨w, e1, rr⟩ := C.cold i d (p1 i d q)
      exact ⟨w, e1, rr.shift kf hY⟩
    · obtain ⟨d0, e0⟩ := p2 i io d q
      obtain ⟨a, e1, nz, nb, o⟩ := C.hot i io d0 e0
      have nz2 : ¬ Z2 a := fun z => (h1 a z).elim nz fun z => z o.there
      rcases p4 i io d q with ⟨n1, z⟩ | ⟨m1, b, e3, o2⟩
      · rw [e0] at z
        cases z
        refine ⟨a, e1, nz2, nb, o.shift kf hY fun u eu t => k.old a u eu t fun z => ?_⟩
        obtain ⟨i2, hi2, e4⟩ := (ioA_mem h).mp z
        obtain ⟨io2, d2, e5⟩ := derefs_hot hd i2 hi2
        exact n1 (by rw [C.inj i i2 io io2 _ d2 a e0 e5 e1 e4]; exact hi2)
      · rw [e1] at e3
        cases e3
        exact ⟨a, e1, nz2, nb, o2.move Keeps.refl h3 fun u eu _ => eu⟩
    · obtain ⟨d3, q3⟩ := p2 i io1 d1 q1
      obtain ⟨d4, q4⟩ := p2 j io2 d2 q2
      exact C.inj i j io1 io2 d3 d4 a q3 q4 s1 s2
  cases r with
  | no => exact hr.elim
  | c d =>
    cases er
    refine ⟨kh, p2, ⟨conc Z (fun a z => .inl z) (fun a z => k.there a (C.tr a z)) (fun a z => fb_sub p2.hot a z), hr.less (fb_sub p2.hot)⟩, fun _ _ z => nomatch z⟩
  | h io d =>
    cases er
    obtain ⟨a, rfl, hn, o⟩ := hr
    have fb : ∀ b, Fb (Plus a Z) ρ2 σ b → b = a ∨ Fb Z ρ σ b := fun b z => (fb_plus z).imp id fun z => fb_sub p2.hot b z
    refine ⟨kh, p2, ⟨a, rfl, fun z => hn (C.tr a z), fun z => hn (C.trB a z), conc (Plus a Z) (fun b z => ?_) (fun b z => ?_) (fun b z => ?_), o.move Keeps.refl fb fun u e _ => e⟩, fun _ b _ eb => ?_⟩
    · rcases z with z | z
      · exact .inr (by rw [z]; exact hn)
      · exact .inl z
    · rcases z with z | z
      · rw [z]; exact o.there
      · exact k.there b (C.tr b z)
    · rcases fb b z with z | z
      · exact .inr (by rw [z])
      · exact .inl z
    · cases eb
      exact hn
end
def tSR (K : PySem.W.Frag) (Wx : WX) (ios : List Nat) (j : Nat) (f : PL.Env → Out (List ArgR)) : TA := fun σ H Q => ∃ B Z ρ, Conc K B Z ρ σ H ∧ tOut (f ρ) (fun as ρ' => ∀ vs H', PostX K B Z ρ ρ' σ H H' → ArgH K Z ρ' σ H' ios j vs as → Q vs H') (Gx K Wx B Z ρ σ H)
def SRg (X : Cx) (Wx : WX) (ios : List Nat) (j : Nat) (es : List Expr) (f : PL.Env → Out (List ArgR)) : Prop := PA X es (tSR X.K Wx ios j f)
section
variable {X : Cx} {Wx : WX} {e : Expr} {es : List Expr} {fa : PL.Env → Out Res} {fr : PL.Env → Out (List ArgR)} {ios : List Nat} {j : Nat}
theorem sr_nil : SRg X Wx ios j [] (fun ρ => .ok [] ρ) := pa_mono pa_nil fun σ H Q ⟨B, Z, ρ, C, h⟩ => h [] H (.refl C) True.intro
theorem sr_cons (ha : SE X Wx e fa) (hr : SRg X Wx ios (j + 1) es fr) (hs : unstar e = true) : SRg X Wx ios j (e :: es) (fun ρ => bind (fa ρ) fun r ρ1 =>
    if ios.contains j then
      match r with
      | .ref i => bind (fr ρ1) fun as ρ2 => .ok (.io i :: as) ρ2
      | _ => .stuck
    else bind (PL.cold ρ1 r) fun d ρ2 => bind (fr ρ2) fun as ρ3 => .ok (.val d :: as) ρ3) := by
  refine pa_mono (pa_cons ha hr (star_cons hs)) fun σ H Q ⟨B, Z, ρ, C, h⟩ => ?_
  refine sub_run C h (fun _ _ z => z) fun r ρ1 x H1 P1 h1 => ?_
  have run : ∀ {ρ2 : PL.Env} {mk : List ArgR → List ArgR} (P2 : PostX X.K B Z ρ ρ2 σ H H1), tOut (bind (fr ρ2) fun as ρ3 => .ok (mk as) ρ3) (fun as ρ' => ∀ vs H', PostX X.K B Z ρ ρ' σ H H' → ArgH X.K Z ρ' σ H' ios j vs as → Q vs H') (Gx X.K Wx B Z ρ σ H) →
      (∀ {ρ3 : PL.Env} {vs : List V} {as : List ArgR} {H2 : Hp}, PostX X.K B Z ρ2 ρ3 σ H1 H2 → ArgH X.K Z ρ3 σ H2 ios (j + 1) vs as → ArgH X.K Z ρ3 σ H2 ios j (x :: vs) (mk as)) → tSR X.K Wx ios (j + 1) fr σ H1 fun vs H' => Q (x :: vs) H' := fun {ρ2 mk} P2 h2 hm => by
    refine ⟨B, Z, ρ2, P2.conc, ?_⟩
    cases e3 : fr ρ2 with
    | stuck => rw [e3] at h2; exact h2
    | exc c ρ3 => rw [e3] at h2; exact Gx.step h2 P2
    | ok as ρ3 =>
      rw [e3] at h2
      exact fun vs H2 P3 a => h2 (x :: vs) H2 (P2.seq P3) (hm P3 a)
  by_cases hc : ios.contains j = true
  · rw [if_pos hc] at h1
    cases r with
    | ref i => exact run (mk := fun as => .io i :: as) P1.x h1 fun P3 a => ⟨hc, P1.res.1, a⟩
    | val d => exact h1.elim
    | fresh d => exact h1.elim
  · rw [if_neg hc] at h1
    refine cold_run P1.res h1 fun d ρ2 P2 rp h2 => ?_
    exact run (mk := fun as => .val d :: as) (P1.x.seq P2) h2 fun P3 a => ⟨Bool.eq_false_iff.mpr hc, rp.move (keep_fb P3.keep) (fb_sub P3.sub), a⟩
/-- f may be called -/
structure CallOk (X : Cx) (call : Str → List PyData → CRes) (k : Nat) (f : Str) (D : Def) : Prop where
  ex : ∃ (fa : Addr) (fd : FuncData) (ps : List Str), X.mg f = some (.ref fa) ∧ PySem.W.keepIn X.K (.ref fa) = true ∧ FnOk X.prog X.w X.K X.mg X.base (L2.CX X.prog X.w) k fa fd ps (spD X.K X.mg call f D) ∧ Binds X.K fd ps []
theorem se_call {G : Ctx} {x : Str} {D : Def} {k : Nat} {p pos : Pos} (c : CallOk X G.call k x D) (hr : Room k X.A) (tk : Takes X (LW X.mg Wx)) (hg : Gl X x) (hdb : (x == ("__debug__" : Str)) = false) (ha : SRg X Wx D.ios 0 (e :: es) fr) (hs : (e :: es).all unstar = true) :
    SE X Wx (.Call (.Name x p) (e :: es) [] pos) (fun ρ => bind (fr ρ) fun as ρ1 => callR G x as ρ1) := by
  obtain ⟨fa, fd, ps, hm, hk, F, hb⟩ := c.ex
  rw [List.all_cons, Bool.and_eq_true] at hs
  refine pe_mono (pe_callSD F hr hg hm hk hb .nil (E := fun σ cls d H' => LW X.mg Wx cls d σ H') (passesAt_of tk) ha hdb (star_cons hs.1) (star_any hs.2)) fun σ H Q ⟨B, Z, ρ, C, h⟩ => ?_
  refine ⟨B, Z, ρ, C, ?_⟩
  dsimp only at h
  cases e1 : fr ρ with
  | stuck => rw [e1] at h; exact h
  | exc c ρ1 => rw [e1] at h; exact h
  | ok as ρ1 =>
    rw [e1, bind_ok] at h
    intro vs H1 P1 a
    unfold callR at h
    by_cases hn : (iosOf as).Nodup
    · rw [if_pos hn] at h
      cases e2 : derefs ρ1 as with
      | none => rw [e2] at h; exact h.elim
      | some ds =>
        rw [e2] at h
        dsimp only at h
        cases e3 : G.call x ds with
        | ok r outs =>
          rw [e3] at h
          dsimp only at h
          rw [List.append_nil]
          refine ⟨Fb Z ρ1 σ, ds, fun a z => P1.conc.fb z, args_of P1.conc a e2, ioA_nodup P1.conc a e2 hn, P1.conc.tabs, ?_⟩
          rw [e3]
          intro v H' kp ho hr
          · cases e4 : putBack ρ1 as outs with
            | none => rw [e4] at h; exact h.elim
            | some ρ2 =>
              rw [e4] at h
              cases r with
              | no => exact h.elim
              | c d => exact h v H' (P1.post (call_post P1.conc a hn e2 kp ho hr e4 rfl))
              | h io d => exact h v H' (P1.post (call_post P1.conc a hn e2 kp ho hr e4 rfl))
        | exc c outs =>
          rw [e3] at h
          dsimp only at h
          rw [List.append_nil]
          refine ⟨Fb Z ρ1 σ, ds, fun a z => P1.conc.fb z, args_of P1.conc a e2, ioA_nodup P1.conc a e2 hn, P1.conc.tabs, ?_⟩
          rw [e3]
          intro H' Cc hC kp ho
          cases e4 : putBack ρ1 as outs with
          | none => rw [e4] at h; exact h.elim
          | some ρ2 =>
            rw [e4] at h
            have P2 := call_post (r := .c .none) (v := .non) P1.conc a hn e2 kp ho .non e4 rfl
            exact ⟨rfl, c, Cc, rfl, hC, h H' (P1.seq P2.x)⟩
        | stuck => rw [e3] at h; exact h.elim
    · rw [if_neg hn] at h
      exact h.elim
end
end PL

set_option autoImplicit false
set_option linter.all false
set_option Elab.async false
set_option maxRecDepth 100000
set_option maxHeartbeats 4000000
/-! PL16: a list of hnums as a set: its size, its members in order. isinstance, lists of ranges. -/
namespace PL
open PySem PySem.Spec PyProof.Rows L2
variable [TabL]
section
variable {P : Program} {w : World} {A : Around} {E : Value → Shared → Prop} {s : Shared}
/-- an empty set's object -/
abbrev emptyS (w : World) : Obj := { cls := .type "set", dict := none, data := .set #[] 0 (.fresh 0 0 (!w.params.followText "set-order")) }
set_option maxHeartbeats 6400000 in
theorem call_set_lst {l : Addr} {items : Array Value} (ms : List Int) {Q : Value → Shared → Prop} (calm : A.handled = none) (lies : s.heap.IsList l items) (hnums : IntsAre items.toList ms) (few : ms.length + 1 < scanBound)
    (fin : ∀ (hp1 : Heap) (tk c : Nat), SetR w hp1 s.heap.objs.size (fun j => decide (j ∈ ms)) c → c ≤ ms.length → (∀ b o, s.heap.get? b = some o → hp1.get? b = some o) → Q (.ref s.heap.objs.size) { s with heap := hp1, toks := tk }) :
    wpAny (model P w) A (call (.type "set") [.ref l]) Q E s := by
  have hsz : items.size = ms.length := by
    have q := IntsAre.length hnums
    rw [Array.length_toList] at q
    exact q
  obtain ⟨c, rest1, mro⟩ := F.called_set.mro
  have made := F.called_set.made
  have isub := F.called_set.sub
  refine wpAny_call (codeAny_of_tree (show wpAny _ _ (callAny (.type "set") _) _ _ _ from ?_))
  refine wpAny_pure ⟨Code.quiet_builtin _ (by decide +kernel), codeAny_builtin F.entry_type_call ?_⟩
  rw [Around.under_plain (weight_type_call_type "set" [.ref l] []) rfl]
  have ty1 := F.called_set.notType
  have ty2 := F.called_set.canCreate
  have tcall := F.typeCall_set_1 (.ref l)
  repeat (any_goals (first | assumption | wp_step))

  refine codeAny_mono (code_set_led1 (.ref l) (E := E) (Q₁ := fun obj st1 => obj = .ref s.heap.objs.size ∧ st1 = { s with heap := s.heap.push (emptyS w) }) ⟨rfl, rfl⟩) fun r st1 ans => ?_
  cases r with
  | error e => exact ans
  | ok fl =>
    cases fl with
    | ret obj =>
      obtain ⟨rfl, rfl⟩ := ans
      have stands : (s.heap.push (emptyS w)).get? s.heap.objs.size = some (emptyS w) := Heap.get?_push_size _ rfl
      have hknd : Shared.TypeIs { s with heap := s.heap.push (emptyS w) } (.ref s.heap.objs.size) "set" := ⟨_, stands, rfl⟩
      have ini := F.called_set.init.lookup
      have bnd := F.called_set.init.bind (.ref s.heap.objs.size)
      repeat (any_goals (first | assumption | wp_step))

      refine codeAny_mono (codeAny_call_builtin (R := wants (fun r st2 => r = .none ∧ ∃ hp1 tk c, st2 = { s with heap := hp1, toks := tk } ∧ SetR w hp1 s.heap.objs.size (fun j => decide (j ∈ ms)) c ∧ c ≤ ms.length ∧
          (∀ b o, s.heap.get? b = some o → hp1.get? b = some o)) E) F.called_set.init.plain F.entry_set_init (check_set_init_1 hknd ?_)) fun res2 st2 ans2 => ?_
      · obtain ⟨obj1, at1, cl1, cap, da1⟩ := lies
        obtain ⟨w1, w2, w3, w4⟩ := obj1
        simp only at cl1 da1
        subst cl1; subst da1
        have at2 : (s.heap.push (emptyS w)).get? l = some { cls := .type "list", dict := w2, data := .seq items cap, slots := w4 } := Heap.get?_push_of_some _ at1
        have ns1 := F.sub_list_set
        have ns2 := F.sub_list_frozenset
        have ns3 : (Value.type "list" == Value.type "dict") = false := by decide
        have lies1 : (s.heap.push (emptyS w)).IsList l items := ⟨_, at2, rfl, cap, rfl⟩
        unfold Builtin.«set.__init__» noKeywords Builtin.Frozenset.updateFrom
        generalize gen1 : pyIter = PI
        wp_walk
        subst gen1

        refine wpAny_pyIter_list lies1 (wpAny_bind (wpAny_runValue ?_))
        have below : l < s.heap.objs.size := Heap.lt_size at1
        have calm3 : A.in1.in1.in1.handled = none := by simp [calm]
        have sz1 : (s.heap.push (emptyS w)).objs.size = s.heap.objs.size + 1 := Heap.size_push ..
        have apart1 : l ≠ (s.heap.push (emptyS w)).objs.size := by
          rw [Heap.size_push]; exact Nat.ne_of_lt (Nat.lt_succ_of_lt below)
        have apart2 : s.heap.objs.size ∉ [(s.heap.push (emptyS w)).objs.size, l] := by
          rw [Heap.size_push]; simp only [List.mem_cons, List.mem_singleton, List.not_mem_nil, or_false, not_or]
          exact ⟨Nat.ne_of_lt (Nat.lt_succ_self _), Nat.ne_of_gt below⟩
        have each1 : ∀ (i : Nat) (v : Value), items[i]? = some v → ∃ k t, ms[i]? = some k ∧ v = .int k t := fun i v got => by
          have lt1 : i < ms.length := by rw [← hsz]; exact (Array.getElem?_eq_some_iff.mp got).1
          obtain ⟨t, e⟩ := PyProof.Rows.IntsAre.int_at hnums i v (by rw [Array.getElem?_toList]; exact got)
          refine ⟨ms[i], t, List.getElem?_eq_getElem lt1, ?_⟩
          rw [e, List.getD_eq_getElem?_getD, List.getElem?_eq_getElem lt1] <;> rfl
        refine set_update_ints ((Walks.list calm3 _ l apart1 items).toS) s.heap.objs.size
          apart2 ms hsz few each1 (items.size - 0) 0 _ (by omega) (Nat.zero_le _)
          ⟨⟨_, Heap.get?_push_size _ rfl, rfl, rfl⟩, (lies1.push _)⟩ ?goal1 ?goal2
        case goal1 =>
          have get1 : ((s.heap.push (emptyS w)).push { cls := .type "list_iterator", data := .fields #[.ref l, .int 0 0] }).get? s.heap.objs.size
              = some (emptyS w) := Heap.get?_push_of_some _ stands
          exact ⟨0, Nat.le_refl 0, setR_new_at get1⟩
        case goal2 =>
          intro sh1 c1 moved cnt1 set1
          obtain ⟨hp1, g2, dr1, tk1, os1⟩ := sh1
          have g1 : g2 = s.gens := moved.gens
          have g2e : dr1 = s.drawn := moved.drawn
          have g3 : os1 = s.os := moved.os
          subst g1; subst g2e; subst g3
          show wpAny _ _ _ _ _ _
          refine wpAny_pure ?_
          show wpAny _ _ (ret Value.none) _ _ _
          rw [hsz] at cnt1
          refine wpAny_pure ⟨rfl, hp1, tk1, c1, rfl, set1, cnt1, fun b o e => ?_⟩
          have b0 : b < s.heap.objs.size := Heap.lt_size e
          have b1 : b ≠ s.heap.objs.size := Nat.ne_of_lt b0
          have b2 : b ≠ (s.heap.push (emptyS w)).objs.size := by
            rw [Heap.size_push]; exact Nat.ne_of_lt (Nat.lt_succ_of_lt b0)
          exact moved.heap b o (by simp only [List.mem_cons, List.mem_singleton, List.not_mem_nil, or_false, not_or]; exact ⟨b1, b2⟩) (Heap.get?_push_of_some _ (Heap.get?_push_of_some _ e))

      · cases res2 with
        | error e => exact ans2
        | ok fl₂ =>
          cases fl₂ with
          | ret r =>
            obtain ⟨rfl, hp1, tk, c1, rfl, set1, cnt1, kept1⟩ := ans2
            repeat (any_goals (first | assumption | wp_step))
            exact fin _ _ _ set1 cnt1 kept1
          | _ => exact ans2.elim
    | _ => exact ans.elim

end
end PL

set_option autoImplicit false
set_option linter.all false
set_option Elab.async false
set_option maxRecDepth 100000
set_option maxHeartbeats 1000000
/-! PL17: sets of ints: their size, their members in order; isinstance; lists of ranges. -/
namespace PL
open PySem PySem.Spec PyProof.Rows L2
variable [TabL]
/-! ### rising lists -/
theorem ins_mem {x z : Int} : ∀ {l : List Int}, z ∈ insI x l ↔ z = x ∨ z ∈ l
  | [] => by simp [insI]
  | y :: l => by
    rw [insI]
    split
    · simp
    · split
      · rename_i h; subst h; simp
      · rw [List.mem_cons, ins_mem, List.mem_cons]
        constructor
        · rintro (h | h | h)
          · exact .inr (.inl h)
          · exact .inl h
          · exact .inr (.inr h)
        · rintro (h | h | h)
          · exact .inr (.inl h)
          · exact .inl h
          · exact .inr (.inr h)
theorem ins_rise {x : Int} : ∀ {l : List Int}, l.Pairwise (· < ·) → (insI x l).Pairwise (· < ·)
  | [], _ => by simp [insI]
  | y :: l, h => by
    obtain ⟨h1, h2⟩ := List.pairwise_cons.mp h
    rw [insI]
    split
    · rename_i hx
      refine List.pairwise_cons.mpr ⟨fun z hz => ?_, h⟩
      rcases List.mem_cons.mp hz with rfl | hz
      · exact hx
      · have := h1 z hz; omega
    · split
      · exact h
      · refine List.pairwise_cons.mpr ⟨fun z hz => ?_, ins_rise h2⟩
        rcases ins_mem.mp hz with rfl | hz
        · omega
        · exact h1 z hz
theorem uset_mem {z : Int} : ∀ {l : List Int}, z ∈ usetI l ↔ z ∈ l
  | [] => Iff.rfl
  | x :: l => by rw [usetI, ins_mem, uset_mem, List.mem_cons]
theorem uset_rise : ∀ {l : List Int}, (usetI l).Pairwise (· < ·)
  | [] => List.Pairwise.nil
  | x :: l => ins_rise uset_rise
theorem rise_eq : ∀ {l m : List Int}, l.Pairwise (· < ·) → m.Pairwise (· < ·) → (∀ z, z ∈ l ↔ z ∈ m) → l = m
  | [], [], _, _, _ => rfl
  | [], y :: m, _, _, h => absurd ((h y).mpr List.mem_cons_self) (by simp)
  | x :: l, [], _, _, h => absurd ((h x).mp List.mem_cons_self) (by simp)
  | x :: l, y :: m, hl, hm, h => by
    obtain ⟨l1, l2⟩ := List.pairwise_cons.mp hl
    obtain ⟨m1, m2⟩ := List.pairwise_cons.mp hm
    have e : x = y := by
      rcases List.mem_cons.mp ((h x).mp List.mem_cons_self) with e | e
      · exact e
      · rcases List.mem_cons.mp ((h y).mpr List.mem_cons_self) with e2 | e2
        · exact e2.symm
        · have a1 := m1 x e
          have a2 := l1 y e2
          omega
    subst e
    rw [rise_eq l2 m2 fun z => ⟨fun hz => ?_, fun hz => ?_⟩]
    · rcases List.mem_cons.mp ((h z).mp (List.mem_cons_of_mem _ hz)) with e | e
      · have := l1 z hz; omega
      · exact e
    · rcases List.mem_cons.mp ((h z).mpr (List.mem_cons_of_mem _ hz)) with e | e
      · have := m1 z hz; omega
      · exact e
theorem nodup_len : ∀ {l m : List Int}, l.Nodup → m.Nodup → (∀ z, z ∈ l → z ∈ m) → l.length ≤ m.length
  | [], m, _, _, _ => Nat.zero_le _
  | x :: l, m, hl, hm, h => by
    obtain ⟨l1, l2⟩ := List.nodup_cons.mp hl
    have hx := h x List.mem_cons_self
    have := nodup_len (l := l) (m := m.erase x) l2 (hm.erase x) fun z hz => (List.Nodup.mem_erase_iff hm).mpr ⟨fun e => l1 (e ▸ hz), h z (List.mem_cons_of_mem _ hz)⟩
    rw [List.length_erase_of_mem hx] at this
    have := List.length_pos_of_mem hx
    rw [List.length_cons]
    omega
theorem ins_len {x : Int} : ∀ {l : List Int}, (insI x l).length ≤ l.length + 1
  | [] => Nat.le_refl _
  | y :: l => by
    rw [insI]
    split
    · exact Nat.le_refl _
    · split
      · exact Nat.le_succ _
      · rw [List.length_cons, List.length_cons]; exact Nat.succ_le_succ ins_len
theorem uset_len : ∀ {l : List Int}, (usetI l).length ≤ l.length
  | [] => Nat.le_refl _
  | x :: l => Nat.le_trans ins_len (Nat.succ_le_succ uset_len)
theorem rise_nodup {l : List Int} (h : l.Pairwise (· < ·)) : l.Nodup := h.imp fun {a b} h => by omega
section
variable {X : Cx} {Wx : WX} {e : Expr} {fr : PL.Env → Out (List Res)} {p p2 q pos : Pos}
theorem set_card {w : World} {h : Heap} {a : Addr} {ns : List Int} {c : Nat} (R : SetR w h a (fun j => decide (j ∈ ns)) c) : c = (usetI ns).length := by
  obtain ⟨o, es, ep, t, ho, hex, hd, g, nd, hm, hb, hf, hn, hr, hl⟩ := R
  have l1 : (es.toList.map keyOf).length = c := by rw [List.length_map, Array.length_toList]; exact hn
  have a1 := nodup_len nd (rise_nodup (uset_rise (l := ns))) fun z hz => uset_mem.mpr (by simpa using (hm z).mpr hz)
  have a2 := nodup_len (rise_nodup (uset_rise (l := ns))) nd fun z hz => (hm z).mp (by simpa using uset_mem.mp hz)
  omega
theorem onlyL_some {f : List PyData → Option Res} {d : PyData} {r : Res} (h : onlyL f d = some r) : ∃ xs, d = .list xs ∧ f xs = some r := by
  cases d with
  | list xs => exact ⟨xs, rfl, h⟩
  | _ => cases h
theorem lenset_some {xs : List PyData} {r : Res} (h : lensetL xs = some r) : ∃ ns, ints? xs = some ns ∧ ns.length < 4000 ∧ r = .val (.int (usetI ns).length) := by
  unfold lensetL at h
  cases e : ints? xs with
  | none => rw [e] at h; cases h
  | some ns =>
    rw [e] at h
    obtain ⟨h1, h2⟩ := ite_some h
    exact ⟨ns, rfl, by simpa using h1, h2.symm⟩
theorem sortedset_some {xs : List PyData} {r : Res} (h : sortedsetL xs = some r) : ∃ ns, ints? xs = some ns ∧ ns.length < 4000 ∧ (usetI ns).length < 64 ∧ r = .fresh (.list ((usetI ns).map .int)) := by
  unfold sortedsetL at h
  cases e : ints? xs with
  | none => rw [e] at h; cases h
  | some ns =>
    rw [e] at h
    obtain ⟨h1, h2⟩ := ite_some h
    rw [Bool.and_eq_true] at h1
    exact ⟨ns, rfl, of_decide_eq_true h1.1, of_decide_eq_true h1.2, h2.symm⟩
theorem rp_ints {K : PySem.W.Frag} {Y : Addr → Prop} {H : Hp} : ∀ ns : List Int, RpA K Y H (ns.map V.int) (ns.map PyData.int)
  | [] => .nil
  | n :: ns => .cons (.int n) (rp_ints ns)
/-- set(x), x a list of ints; then what is done with it -/
theorem set_run {ns : List Int} {pins : List (Addr × Obj)} {σ : L2.St} {H : Hp} {s : Shared} {Y : Addr → Prop} {v : V} {u : Value} {xs : List PyData} {R : Value → Shared → Prop} (ok : XOk X) (I : L2.Inv X pins σ H s) (r : RelV v u) (o : Op X.K Y H v (.list xs)) (hi : ints? xs = some ns) (hl : ns.length < 4000)
    (fin : ∀ (s2 : Shared) (a : Addr), SetR X.w s2.heap a (fun j => decide (j ∈ ns)) (usetI ns).length → L2.Inv X pins σ H s2 → R (.ref a) s2) : wpAny (model X.prog X.w) X.A (call (.type "set") [u]) R X.xe s := by
  obtain ⟨a, vs, rfl, h, rr⟩ := o.list
  cases r
  obtain ⟨its, rv, pl, z⟩ := I.list h
  rw [ints_vals hi rr] at rv
  refine call_set_lst ns (I.ok.hd ok.calm) pl.isList (by simpa using rv.ints) (by unfold scanBound; omega) fun h' tk c R' hc kp => ?_
  have ec := set_card R'
  subst ec
  exact fin { s with heap := h', toks := tk } _ R' (I.kept kp)
theorem se_lenset (ok : XOk X) (hg : Gl X "len") (hm : X.mg "len" = none) (hg2 : Gl X "set") (hm2 : X.mg "set" = none) (ha : SA X Wx [e] fr) (hs : unstar e = true) :
    SE X Wx (.Call (.Name "len" p) [.Call (.Name "set" p2) [e] [] q] [] pos) (fun ρ => bind (fr ρ) fun rs ρ1 => biR .lenset rs ρ1) := by
  refine ⟨fun pins s σ H Q I ⟨B, Z, ρ, C, h⟩ => ?_⟩
  refine Call_ (ld_blt I hg hm PySem.boot_len (PyProof.Rows.callWith_builtin1 (PyProof.Rows.args_cons (Call_ (ld_blt I hg2 hm2 PyProof.Rows.boot_set (PyProof.Rows.callWith_type1 (thn (ha.run q pins s σ H _ I (bi_run C h)) fun us s1 ⟨vs, H1, I1, r1, q1⟩ => ?_) (star_cons hs) rfl))) rfl) rfl rfl))
  obtain ⟨Y, ds, r, t, ho, hb, qq⟩ := q1
  obtain ⟨d, rfl, hb⟩ := one_some hb
  obtain ⟨v, rfl, o⟩ := ho.one
  obtain ⟨xs, rfl, hb⟩ := onlyL_some hb
  obtain ⟨ns, hi, hl, rfl⟩ := lenset_some hb
  obtain ⟨u, rfl, ru⟩ := L2.Vals.one r1
  refine set_run ok I1 ru o hi hl fun s2 a R I2 => PyProof.Rows.args_nil ?_
  obtain ⟨o, es, ep, t, ho, hex, hd, g, nd, hm, hb, hf, hn, hr, hl⟩ := R
  have := uset_len (l := ns)
  exact call_len_set ho hex hd hf (by omega) ⟨.int (usetI ns).length, H1, I2.tok _, ⟨_, by rw [hn]⟩, qq _ _ (new_int _)⟩
theorem se_sortedset (ok : XOk X) (hg : Gl X "sorted") (hm : X.mg "sorted" = none) (hg2 : Gl X "set") (hm2 : X.mg "set" = none) (ha : SA X Wx [e] fr) (hs : unstar e = true) :
    SE X Wx (.Call (.Name "sorted" p) [.Call (.Name "set" p2) [e] [] q] [] pos) (fun ρ => bind (fr ρ) fun rs ρ1 => biR .sortedset rs ρ1) := by
  refine ⟨fun pins s σ H Q I ⟨B, Z, ρ, C, h⟩ => ?_⟩
  refine Call_ (ld_blt I hg hm PyProof.Rows.boot_sorted (PyProof.Rows.callWith_builtin1 (PyProof.Rows.args_cons (Call_ (ld_blt I hg2 hm2 PyProof.Rows.boot_set (PyProof.Rows.callWith_type1 (thn (ha.run q pins s σ H _ I (bi_run C h)) fun us s1 ⟨vs, H1, I1, r1, q1⟩ => ?_) (star_cons hs) rfl))) rfl) rfl rfl))
  obtain ⟨Y, ds, r, t, ho, hb, qq⟩ := q1
  obtain ⟨d, rfl, hb⟩ := one_some hb
  obtain ⟨v, rfl, o⟩ := ho.one
  obtain ⟨xs, rfl, hb⟩ := onlyL_some hb
  obtain ⟨ns, hi, hl, hl2, rfl⟩ := sortedset_some hb
  obtain ⟨u, rfl, ru⟩ := L2.Vals.one r1
  refine set_run ok I1 ru o hi hl fun s2 a R I2 => PyProof.Rows.args_nil ?_
  refine sorted_set R (I2.ok.hd ok.calm) hl2 fun s3 pa out c ms k1 g1 o1 hz hc a1 a2 a3 a4 => ?_
  have em : ms = usetI ns := rise_eq a2 uset_rise fun z => by rw [a3, uset_mem]; simp
  subst em
  have fresh : H1 pa = none := I2.hok.fresh hz
  have size : ((usetI ns).map V.int).length ≤ sizeLine := by rw [List.length_map, sizeLine_eq]; omega
  have J : L2.Inv X pins σ (upd H1 pa (.lst ((usetI ns).map V.int))) { s2 with heap := s3.heap, gens := s3.gens, drawn := s3.drawn, toks := s3.toks } :=
    I2.call (ch := []) (Un.laid k1 hz fresh) (I2.hok.laid k1 hz ⟨size, out.toList, c, vals_of_ints a1, hc⟩) (by rw [g1]; exact I2.bare) (fun _ z => nomatch z)
  have e3 : s3 = { s2 with heap := s3.heap, gens := s3.gens, drawn := s3.drawn, toks := s3.toks } := by
    cases s3; cases s2; cases o1; rfl
  rw [e3]
  exact ⟨.ref pa, _, J, rfl, qq _ _ (new_lst fresh (rp_ints _))⟩
/-! ### isinstance -/
def tyN : Ty → String
  | .int => "int"
  | .bool => "bool"
  | .str => "str"
  | .tuple => "tuple"
  | .list => "list"
  | .dict => "dict"
def tyS (T : Ty) : Str := Str.ofString (tyN T)
theorem boot_ty (T : Ty) : bootBuiltins (tyS T) = some (.type (tyN T)) ∧ tyS T ≠ "__name__" ∧ (tyS T == ("__debug__" : Str)) = false := by
  cases T <;> exact ⟨by decide +kernel, by decide, by decide⟩
theorem call_isT (T : Ty) : CallR X (.builtin "isinstance") (fun vs H Q => ∃ (Y : Addr → Prop) (x : V) (d : PyData), vs = [x, .ty (tyN T)] ∧ Op X.K Y H x d ∧ Q (.bl (isInst d T)) H) := by
  rintro pins s σ H vs us Q I rv ⟨Y, x, d, rfl, o, q⟩
  obtain ⟨u, w, rfl, r1, r2⟩ := L2.Vals.two rv
  cases r2
  obtain ⟨as, rd⟩ := o.reads I r1
  cases T
  · exact W.isinstance_int_data rd fun tk _ => ⟨.bl _, H, I.tok _, rfl, q⟩
  · exact W.isinstance_bool_data rd fun tk _ => ⟨.bl _, H, I.tok _, rfl, q⟩
  · exact W.isinstance_str_data rd fun tk _ => ⟨.bl _, H, I.tok _, rfl, q⟩
  · exact W.isinstance_tuple_data rd fun tk _ => ⟨.bl _, H, I.tok _, rfl, q⟩
  · exact W.isinstance_list_data rd fun tk _ => ⟨.bl _, H, I.tok _, rfl, q⟩
  · exact W.isinstance_dict_data rd fun tk _ => ⟨.bl _, H, I.tok _, rfl, q⟩
theorem se_isinst {fa : PL.Env → Out Res} (T : Ty) (hg : Gl X "isinstance") (hm : X.mg "isinstance" = none) (hg2 : Gl X (tyS T)) (hm2 : X.mg (tyS T) = none) (ha : SE X Wx e fa) (hs : unstar e = true) :
    SE X Wx (.Call (.Name "isinstance" p) [e, .Name (tyS T) p2] [] pos) (fun ρ => bind (bind (fa ρ) fun r ρ1 => bind (.ok [] ρ1) fun rs ρ2 => .ok (r :: rs) ρ2) fun rs ρ1 => biR (.isinst T) rs ρ1) := by
  obtain ⟨b1, b2, b3⟩ := boot_ty T
  refine pe_mono (pe_callB (call_isT T) hg hm PyProof.Rows.boot_isinstance (pa_cons ha (pa_cons (pe_bltn (v := .ty (tyN T)) hg2 hm2 b1 rfl b2 b3) pa_nil) (star_cons hs)) (by decide) (by decide) (star_cons hs) rfl) fun σ H Q ⟨B, Z, ρ, C, h⟩ => ?_
  dsimp only at h
  rw [bind_bind] at h
  refine sub_run C h (fun _ _ z => z) fun r ρ1 x H1 P1 h1 => ?_
  have h1 : tOut (biR (.isinst T) [r] ρ1) _ _ := h1
  unfold biR peeks at h1
  cases e1 : peek ρ1 r with
  | none => rw [e1] at h1; exact h1.elim
  | some d =>
    rw [e1] at h1
    exact ⟨Fb Z ρ1 σ, x, d, rfl, P1.res.held.op P1.conc e1, h1 _ H1 (P1.x.post (post_val P1.conc (.bl _)))⟩
/-! ### list(range(..)) -/
theorem lrange_some {a b : Int} {xs : List PyData} (h : lrange a b = some xs) : RgOk a b ∧ xs = (List.range (b - a).toNat).map fun (k : Nat) => .int (a + (k : Int)) := by
  unfold lrange at h
  obtain ⟨h1, h2⟩ := ite_some h
  rw [Bool.and_eq_true, Bool.and_eq_true] at h1
  have l1 : (b - a).toNat ≤ 1000000 := of_decide_eq_true h1.1.1
  have l2 : a.natAbs ≤ 1000000 := of_decide_eq_true h1.1.2
  have l3 : b.natAbs ≤ 1000000 := of_decide_eq_true h1.2
  exact ⟨⟨by omega, by omega, by omega, by omega, by omega⟩, h2.symm⟩
theorem rp_range {K : PySem.W.Frag} {Y : Addr → Prop} {H : Hp} (a b : Int) : RpA K Y H (rgV a b) ((List.range (b - a).toNat).map fun (k : Nat) => PyData.int (a + (k : Int))) := by
  unfold rgV
  have key : ∀ l : List Nat, RpA K Y H (l.map fun i => V.int (a + (i : Nat))) (l.map fun (k : Nat) => PyData.int (a + (k : Int))) := fun l => by
    induction l with
    | nil => exact .nil
    | cons x l ih => exact .cons (.int _) ih
  exact key _
section
variable {a b : Expr} {fa fb : PL.Env → Out Res}
theorem bi_rng {B Z : Addr → Prop} {ρ ρ1 : PL.Env} {σ : L2.St} {H H1 : Hp} {rs : List Res} {vs : List V} {Q : VK}  (P : PostX X.K B Z ρ ρ1 σ H H1) (hh : HeldA X.K Z ρ1 σ H1 vs rs)
    (h : tOut (biR .range rs ρ1) (fun r ρ' => ∀ v H', Post X.K B Z ρ ρ' σ H H' v r → Q v H') (Gx X.K Wx B Z ρ σ H)) :
    ∃ lo hi, (vs = [.int hi] ∧ lo = 0 ∨ vs = [.int lo, .int hi]) ∧ RgOk lo hi ∧ ∀ q, H1 q = none → Q (.ref q) (upd H1 q (.lst (rgV lo hi))) := by
  unfold biR at h
  cases e1 : peeks ρ1 rs with
  | none => rw [e1] at h; exact h.elim
  | some ds =>
    rw [e1] at h
    obtain ⟨r, e2, q⟩ := h.ofO
    have oa := hh.op P.conc e1
    have e2 : (rangeL (ints? ds)).map (fun ys => Res.fresh (.list ys)) = some r := e2
    obtain ⟨xs, e3, er⟩ := Option.map_eq_some_iff.mp e2
    subst er
    cases e4 : ints? ds with
    | none => rw [e4] at e3; cases e3
    | some ns =>
      rw [e4] at e3
      have ev := ints_ops e4 oa
      match ns, ev, e3 with
      | [n], ev, e3 =>
        obtain ⟨k, ex⟩ := lrange_some (a := 0) (b := n) e3
        subst ex
        exact ⟨0, n, .inl ⟨ev, rfl⟩, k, fun z hz => q _ _ (P.post (post_new P.conc (new_lst hz (rp_range 0 n))))⟩
      | [x, y], ev, e3 =>
        obtain ⟨k, ex⟩ := lrange_some (a := x) (b := y) e3
        subst ex
        exact ⟨x, y, .inr ev, k, fun z hz => q _ _ (P.post (post_new P.conc (new_lst hz (rp_range x y))))⟩
      | [], _, e3 => cases e3
      | _ :: _ :: _ :: _, _, e3 => cases e3
theorem se_lrange1 (ok : XOk X) (hg : Gl X "list") (hm : X.mg "list" = none) (hg2 : Gl X "range") (hm2 : X.mg "range" = none) (ha : SE X Wx a fa) (hs : unstar a = true) :
    SE X Wx (.Call (.Name "list" p) [.Call (.Name "range" p2) [a] [] q] [] pos) (fun ρ => bind (bind (fa ρ) fun r ρ1 => bind (.ok [] ρ1) fun rs ρ2 => .ok (r :: rs) ρ2) fun rs ρ1 => biR .range rs ρ1) := by
  refine pe_mono (pe_listRg ok.calm hg hm (prg_1 hg2 hm2 ha (star_cons hs)) rfl) fun σ H Q ⟨B, Z, ρ, C, h⟩ => ?_
  dsimp only at h
  rw [bind_bind] at h
  refine sub_run C h (fun _ _ z => z) fun r ρ1 x H1 P1 h1 => ?_
  obtain ⟨lo, hi, hv, k, f⟩ := bi_rng P1.x (.cons P1.res.held .nil) h1
  rcases hv with ⟨ev, rfl⟩ | ev
  · cases ev
    exact ⟨hi, rfl, k, f⟩
  · cases ev
theorem se_lrange2 (ok : XOk X) (hg : Gl X "list") (hm : X.mg "list" = none) (hg2 : Gl X "range") (hm2 : X.mg "range" = none) (ha : SE X Wx a fa) (hb : SE X Wx b fb) (hs : unstar a = true) (hs2 : unstar b = true) :
    SE X Wx (.Call (.Name "list" p) [.Call (.Name "range" p2) [a, b] [] q] [] pos) (fun ρ => bind (bind (fa ρ) fun r ρ1 => bind (bind (fb ρ1) fun r ρ1 => bind (.ok [] ρ1) fun rs ρ2 => .ok (r :: rs) ρ2) fun rs ρ2 => .ok (r :: rs) ρ2) fun rs ρ1 => biR .range rs ρ1) := by
  refine pe_mono (pe_listRg ok.calm hg hm (prg_2 hg2 hm2 ha hb (star_cons hs) (star_cons hs2) (star_any (by rw [List.all_cons, hs2]; rfl))) rfl) fun σ H Q ⟨B, Z, ρ, C, h⟩ => ?_
  dsimp only at h
  rw [bind_bind] at h
  refine sub_run C h (fun _ _ z => z) fun r ρ1 x H1 P1 h1 => ?_
  rw [bind_bind, bind_bind] at h1
  refine sub_run P1.conc h1 (fun c ρ' z => z.step P1.x) fun r2 ρ2 y H2 P2 h2 => ?_
  obtain ⟨lo, hi, hv, k, f⟩ := bi_rng (P1.x.seq P2.x) (.cons (P1.res.held.move P2.x) (.cons P2.res.held .nil)) h2
  rcases hv with ⟨ev, rfl⟩ | ev
  · cases ev
  · cases ev
    exact ⟨lo, hi, rfl, rfl, k, f⟩
theorem bi_trng {B Z : Addr → Prop} {ρ ρ1 : PL.Env} {σ : L2.St} {H H1 : Hp} {rs : List Res} {vs : List V} {Q : VK}  (P : PostX X.K B Z ρ ρ1 σ H H1) (hh : HeldA X.K Z ρ1 σ H1 vs rs)
    (h : tOut (biR .ranget rs ρ1) (fun r ρ' => ∀ v H', Post X.K B Z ρ ρ' σ H H' v r → Q v H') (Gx X.K Wx B Z ρ σ H)) :
    ∃ lo hi, (vs = [.int hi] ∧ lo = 0 ∨ vs = [.int lo, .int hi]) ∧ RgOk lo hi ∧ ∀ q, H1 q = none → Q (.ref q) (upd H1 q (.tup (rgV lo hi))) := by
  unfold biR at h
  cases e1 : peeks ρ1 rs with
  | none => rw [e1] at h; exact h.elim
  | some ds =>
    rw [e1] at h
    obtain ⟨r, e2, q⟩ := h.ofO
    have oa := hh.op P.conc e1
    have e2 : (rangeL (ints? ds)).map (fun ys => Res.val (.tuple ys)) = some r := e2
    obtain ⟨xs, e3, er⟩ := Option.map_eq_some_iff.mp e2
    subst er
    cases e4 : ints? ds with
    | none => rw [e4] at e3; cases e3
    | some ns =>
      rw [e4] at e3
      have ev := ints_ops e4 oa
      match ns, ev, e3 with
      | [n], ev, e3 =>
        obtain ⟨k, ex⟩ := lrange_some (a := 0) (b := n) e3
        subst ex
        exact ⟨0, n, .inl ⟨ev, rfl⟩, k, fun z hz => q _ _ (P.post (post_new P.conc (new_tup (fun a z => P.conc.fb z) hz (rp_range 0 n))))⟩
      | [x, y], ev, e3 =>
        obtain ⟨k, ex⟩ := lrange_some (a := x) (b := y) e3
        subst ex
        exact ⟨x, y, .inr ev, k, fun z hz => q _ _ (P.post (post_new P.conc (new_tup (fun a z => P.conc.fb z) hz (rp_range x y))))⟩
      | [], _, e3 => cases e3
      | _ :: _ :: _ :: _, _, e3 => cases e3
theorem se_trange1 (ok : XOk X) (hg : Gl X "tuple") (hm : X.mg "tuple" = none) (hg2 : Gl X "range") (hm2 : X.mg "range" = none) (ha : SE X Wx a fa) (hs : unstar a = true) :
    SE X Wx (.Call (.Name "tuple" p) [.Call (.Name "range" p2) [a] [] q] [] pos) (fun ρ => bind (bind (fa ρ) fun r ρ1 => bind (.ok [] ρ1) fun rs ρ2 => .ok (r :: rs) ρ2) fun rs ρ1 => biR .ranget rs ρ1) := by
  refine pe_mono (pe_tupRg ok.calm hg hm (prg_1 hg2 hm2 ha (star_cons hs)) rfl) fun σ H Q ⟨B, Z, ρ, C, h⟩ => ?_
  dsimp only at h
  rw [bind_bind] at h
  refine sub_run C h (fun _ _ z => z) fun r ρ1 x H1 P1 h1 => ?_
  obtain ⟨lo, hi, hv, k, f⟩ := bi_trng P1.x (.cons P1.res.held .nil) h1
  rcases hv with ⟨ev, rfl⟩ | ev
  · cases ev
    exact ⟨hi, rfl, k, f⟩
  · cases ev
theorem se_trange2 (ok : XOk X) (hg : Gl X "tuple") (hm : X.mg "tuple" = none) (hg2 : Gl X "range") (hm2 : X.mg "range" = none) (ha : SE X Wx a fa) (hb : SE X Wx b fb) (hs : unstar a = true) (hs2 : unstar b = true) :
    SE X Wx (.Call (.Name "tuple" p) [.Call (.Name "range" p2) [a, b] [] q] [] pos) (fun ρ => bind (bind (fa ρ) fun r ρ1 => bind (bind (fb ρ1) fun r ρ1 => bind (.ok [] ρ1) fun rs ρ2 => .ok (r :: rs) ρ2) fun rs ρ2 => .ok (r :: rs) ρ2) fun rs ρ1 => biR .ranget rs ρ1) := by
  refine pe_mono (pe_tupRg ok.calm hg hm (prg_2 hg2 hm2 ha hb (star_cons hs) (star_cons hs2) (star_any (by rw [List.all_cons, hs2]; rfl))) rfl) fun σ H Q ⟨B, Z, ρ, C, h⟩ => ?_
  dsimp only at h
  rw [bind_bind] at h
  refine sub_run C h (fun _ _ z => z) fun r ρ1 x H1 P1 h1 => ?_
  rw [bind_bind, bind_bind] at h1
  refine sub_run P1.conc h1 (fun c ρ' z => z.step P1.x) fun r2 ρ2 y H2 P2 h2 => ?_
  obtain ⟨lo, hi, hv, k, f⟩ := bi_trng (P1.x.seq P2.x) (.cons (P1.res.held.move P2.x) (.cons P2.res.held .nil)) h2
  rcases hv with ⟨ev, rfl⟩ | ev
  · cases ev
  · cases ev
    exact ⟨lo, hi, rfl, rfl, k, f⟩
end
end
end PL

set_option autoImplicit false
set_option linter.all false
set_option Elab.async false
set_option maxRecDepth 100000
set_option maxHeartbeats 1000000
/-! PD3: displays of dicts; update. -/
namespace PL
open PySem PySem.Spec PyProof.Rows L2
variable [TabL]
section
variable {X : Cx} {pins : List (Addr × Obj)} {σ : L2.St} {H : Hp} {s : Shared} {Y Y2 : Addr → Prop} {a : Addr} {ps : List DE} {kvs : List (PyData × PyData)}
theorem room8' (ok : XOk X) : (nestedKind X.prog X.w).room X.A := by
  have := ok.un
  show X.A.units + 8 < cLine
  omega
theorem d_dset {Q : Unit → Shared → Prop} {vk v : V} {u r : Value} {kd vd : PyData} (ok : XOk X) (D : DView X Y H a ps kvs) (I : L2.Inv X pins σ H s) (o : Rp X.K Y H vk kd) (rk : RelV vk u) (ov : Rp X.K Y H v vd) (rv : RelV v r)
    (hk : keysOk (kd :: kvs.map (·.1)) = true) (hl : kvs.length < 1000000) (hY : Y a) (h : ∀ ho ps' s', L2.Inv X pins σ (upd H a ho) s' → DView X Y (upd H a ho) a ps' (store kvs kd vd) → Q () s') :
    wpAny (model X.prog X.w) X.A (dictSet a u r) Q X.xe s := by
  obtain ⟨es0, ep0, _, _, _, h2, eH⟩ := D.sizes I
  have lp := paired_len D.pk
  have fin : ∀ (k : NestedKey) (h' : Heap) (es : Array DictEntry) (ep tk : Nat), nkOf kd = some k → h'.DictRaw a es ep → Heap.SameBut a s.heap h' → ((∀ p ∈ pput ps k vk v, ∃ d, nkOf d = some p.1) → Paired Ent (pput ps k vk v) es.toList) → Q () { s with heap := h', toks := tk } := by
    intro k h' es ep tk ek raw hs pe
    have K0 : Keeps (fun b => b = a) H (upd H a (DctO a es ep)) := Keeps.put eH plain_dct ntb_dct rfl
    have K1 : Keeps Y H (upd H a (DctO a es ep)) := K0.mono fun b z => by rw [z]; exact hY
    have pk := pk_store (x := vk) ek o ov D.pk
    obtain ⟨b1, b2, b3⟩ := pkv_back pk
    refine h _ (pput ps k vk v) _ (d_write I (by rw [eH]; exact True.intro) hs (let ⟨q, e, _⟩ := raw; ⟨q, e⟩) (dct_ok raw)) ⟨⟨⟨es, ep, upd_same, pe (keys_src b1)⟩, b1, pput_nodup D.at'.nd, D.at'.sys, ?_⟩, b2.move K1 fun _ z => z, b3.move K1 fun _ z => z⟩
    have := pput_len ps k vk v
    omega
  have hsl : kvs.length ≤ sizeLine := by rw [sizeLine_eq]; omega
  rcases keysOk_cases hk with hh | hh
  · obtain ⟨i, rfl, rfl, hi⟩ := (Op.rp o).intKey rk (hh _ (List.mem_cons_self ..))
    obtain ⟨xs, dv, rx⟩ := D.viewI I fun d hd => hh d (List.mem_cons_of_mem _ hd)
    refine wpAny_dictSet_pairs (hsz := by rw [← paired_len rx, lp]; exact hsl) hi dv fun h' dv' hs => ?_
    obtain ⟨ob, es, ep, e1, e2, e3, e4, e5, e6⟩ := dv'
    exact fin (.num i) h' es ep _ (by rw [nkOf]) ⟨ob, e1, e2, e3⟩ hs fun _ => ent_ri (ri_put rv rx) e5 fun e he => e4 e (Array.mem_toList_iff.mp he)
  · obtain ⟨k, b, ek, rfl, rfl, hi⟩ := (Op.rp o).tupKey I rk (hh _ (List.mem_cons_self ..))
    obtain ⟨xs, dv, rx⟩ := D.viewT I fun d hd => hh d (List.mem_cons_of_mem _ hd)
    refine wpAny_dictSet_heap (hsz := by rw [← paired_len rx, lp]; exact hsl) (room8' ok) hi dv fun h' dv' hs => ?_
    obtain ⟨ob, es, ep, e1, e2, e3, e4, e5, e6⟩ := dv'
    refine fin k h' es ep _ ek ⟨ob, e1, e2, e3⟩ hs fun src => ?_
    rw [e4]
    exact ent_rx (rx_put rv rx) src
end
theorem own_dct0 {K : PySem.W.Frag} {Y : Addr → Prop} {H : Hp} {a : Addr} {ep : Nat} (hs : (a == sysModules) = false) : Own K Y (upd H a (DctO a #[] ep)) a (.dict []) :=
  ⟨[], ⟨⟨#[], ep, upd_same, .nil⟩, rfl, List.nodup_nil, hs, Nat.zero_le _⟩, .nil, .nil⟩
section
variable {X : Cx} {Wx : WX} {k v : Expr} {fk fv : PL.Env → Out Res} {pos : Pos}
theorem new_dct {pins : List (Addr × Obj)} {σ : L2.St} {H : Hp} {s : Shared} (I : L2.Inv X pins σ H s) : L2.Inv X pins σ (upd H s.heap.objs.size (DctO s.heap.objs.size #[] 0)) { s with heap := s.heap.push { cls := .type "dict", data := .dict #[] } } :=
  I.laid (t' := s.toks) (fun _ _ q => Heap.get?_push_of_some _ q) (Nat.le_refl _) (dct_ok ⟨_, Heap.get?_push_size _ rfl, ⟨rfl, rfl, rfl⟩, rfl⟩)
theorem big_sys {pins : List (Addr × Obj)} {σ : L2.St} {H : Hp} {s : Shared} (I : L2.Inv X pins σ H s) : (s.heap.objs.size == sysModules) = false := beq_eq_false_iff_ne.mpr (Nat.ne_of_gt I.big)
theorem se_dct0 : SE X Wx (.Dict [] [] pos) (fun ρ => .ok (.fresh (.dict [])) ρ) := by
  refine ⟨fun pins s σ H Q I ⟨B, Z, ρ, C, h⟩ => wpAny_Dict_empty ?_⟩
  have hn := I.hok.fresh (Nat.le_refl _)
  exact ⟨.ref _, _, new_dct I, rfl, h _ _ (post_new C ⟨_, rfl, hn, Keeps.new hn, own_dct0 (big_sys I)⟩)⟩
theorem se_dct1 (ok : XOk X) (hk : SE X Wx k fk) (hv : SE X Wx v fv) : SE X Wx (.Dict [some k] [v] pos) (fun ρ => bind (fk ρ) fun rk ρ1 => bind (PL.cold ρ1 rk) fun kd ρ2 => bind (fv ρ2) fun rv ρ3 => bind (PL.cold ρ3 rv) fun vd ρ4 => if keysOk [kd] = true then .ok (.fresh (.dict [(kd, vd)])) ρ4 else .stuck) := by
  refine ⟨fun pins s σ H Q I ⟨B, Z, ρ, C, h⟩ => wpAny_Dict_any rfl rfl (fun z => nomatch z) (show 1 ≤ 15 by decide) ?_⟩
  have hn := I.hok.fresh (Nat.le_refl _)
  have hsys := big_sys I
  have I1 := new_dct I
  generalize hD : s.heap.objs.size = D at *
  have k0 : Keeps NoM H (upd H D (DctO D #[] 0)) := Keeps.new hn
  have C1 : Conc X.K B (Plus D Z) ρ σ (upd H D (DctO D #[] 0)) := C.bar hn ⟨_, upd_same, ntb_dct⟩ k0
  have low : ∀ {ρ' : PL.Env} {H' : Hp}, PostX X.K B (Plus D Z) ρ ρ' σ (upd H D (DctO D #[] 0)) H' → PostX X.K B Z ρ ρ' σ H H' := fun P => ⟨k0.any.trans P.keep, P.sl, P.conc.less fun _ z => .inr z⟩
  show wpAny _ _ (evalPairs [(eval k X.env, do let x ← eval v X.env; standAt pos; pure x)]) _ _ _
  unfold evalPairs
  refine wpAny_bind (thn (hk.run pins _ σ _ (fun x H2 => ∃ kd ρ2, PostX X.K B (Plus D Z) ρ ρ2 σ (upd H D (DctO D #[] 0)) H2 ∧ Rp X.K (Fb (Plus D Z) ρ2 σ) H2 x kd ∧
      tOut (bind (fv ρ2) fun rv ρ3 => bind (PL.cold ρ3 rv) fun vd ρ4 => if keysOk [kd] = true then .ok (.fresh (.dict [(kd, vd)])) ρ4 else .stuck) (fun r ρ' => ∀ v H', Post X.K B Z ρ ρ' σ H H' v r → Q v H') (Gx X.K Wx B Z ρ σ H)) I1 ?_) fun u1 s2 ⟨x, H2, I2, rx, kd, ρ2, P2, rp, h2⟩ => ?_)
  · refine sub_run C1 h (fun c ρ' g H' P => g H' (low P)) fun r ρ1 x H2 P1 h1 => cold_run P1.res h1 fun kd ρ2 P2 rp h2 => ⟨kd, ρ2, P1.x.seq P2, rp, h2⟩
  refine wpAny_bind (wpAny_holding (wpAny_bind (thn (hv.run pins _ σ _ (fun y H3 => ∃ vd ρ4, PostX X.K B (Plus D Z) ρ2 ρ4 σ H2 H3 ∧ Rp X.K (Fb (Plus D Z) ρ4 σ) H3 y vd ∧
      tOut (if keysOk [kd] = true then .ok (.fresh (.dict [(kd, vd)])) ρ4 else .stuck) (fun r ρ' => ∀ v H', Post X.K B Z ρ ρ' σ H H' v r → Q v H') (Gx X.K Wx B Z ρ σ H)) I2 ?_) fun u2 s3 ⟨y, H3, I3, ry, vd, ρ4, P4, rq, h4⟩ => ?_)))
  · refine sub_run P2.conc h2 (fun c ρ' g H' P => g H' (low (P2.seq P))) fun r ρ1 x H2 P1 h1 => cold_run P1.res h1 fun vd ρ4 P4 rq h4 => ⟨vd, ρ4, P1.x.seq P4, rq, h4⟩
  refine wpAny_bind (wpAny_standAt (wpAny_pure ?_))
  refine wpAny_bind (wpAny_holding ?_)
  unfold evalPairs
  refine wpAny_pure (wpAny_pure ?_)
  by_cases hz : keysOk [kd] = true
  · rw [if_pos hz] at h4
    have PX := P2.seq P4
    have hH3 : H3 D = some (DctO D #[] 0) := PX.keep.old D _ upd_same ntb_dct (C1.nhot (.inl rfl))
    have DV : DView X (Fb (Plus D Z) ρ4 σ) H3 D [] [] := ⟨⟨⟨#[], 0, hH3, .nil⟩, rfl, List.nodup_nil, hsys, Nat.zero_le _⟩, .nil, .nil⟩
    unfold storeAll
    show wpAny _ _ (forIn [(u1, u2)] PUnit.unit _) _ _ _
    rw [List.forIn_cons]
    refine wpAny_bind (wpAny_bind (d_dset (Y := Fb (Plus D Z) ρ4 σ) ok DV I3 (rp.move (keep_fb P4.keep) (fb_sub P4.sub)) rx rq ry hz (by decide) (.inl (.inl rfl)) fun ho ps' s' I' DV' => ?_))
    refine wpAny_pure ?_
    show wpAny _ _ (forIn [] PUnit.unit _) _ _ _
    rw [List.forIn_nil]
    refine wpAny_pure ⟨.ref D, _, I', rfl, h4 _ _ ?_⟩
    have k3 : Keeps (HotAt ρ σ) H H3 := k0.any.trans PX.keep
    have hoN : NTb ho := by
      obtain ⟨es, ep, e1, _⟩ := DV'.at'.ob
      rw [upd_same] at e1
      cases e1
      exact ntb_dct
    have kD : Keeps (HotAt ρ σ) H (upd H3 D ho) := ⟨fun b o e t n => by
      rw [upd_ne (fun z => by rw [z, hn] at e; cases e)]; exact k3.old b o e t n, fun b z => by
      by_cases q : b = D
      · exact ⟨ho, by rw [q, upd_same], hoN⟩
      · obtain ⟨o2, e2, t2⟩ := k3.there b z
        exact ⟨o2, by rw [upd_ne q]; exact e2, t2⟩, fun t => tabs_put hH3 plain_dct (k3.tab t)⟩
    have Cf := PX.conc.put (o := ho) hH3 plain_dct hoN (.inl rfl : Plus D Z D)
    exact ⟨kD, PX.sl, ⟨D, rfl, fun z => fre hn (C.tr D z), fun z => fre hn (C.trB D z), Cf, ⟨ps', DV'.at', DV'.ra, DV'.rb⟩⟩, fun _ b _ e => by cases e; exact fre hn⟩
  · rw [if_neg hz] at h4
    exact h4.elim
end
theorem dct_ev {G : Ctx} (k v : Ex) (ρ : PL.Env) : bind (bind (ev G k ρ) fun r ρ1 => bind (PL.cold ρ1 r) fun d ρ2 => bind (.ok [] ρ2) fun ds ρ3 => .ok (d :: ds) ρ3) (fun ds ρ1 => bind (bind (ev G v ρ1) fun r ρ1 => bind (PL.cold ρ1 r) fun d ρ2 => bind (.ok [] ρ2) fun ds ρ3 => .ok (d :: ds) ρ3) fun es ρ2 => dctR ds es ρ2) =
    bind (ev G k ρ) fun rk ρ1 => bind (PL.cold ρ1 rk) fun kd ρ2 => bind (ev G v ρ2) fun rv ρ3 => bind (PL.cold ρ3 rv) fun vd ρ4 => if keysOk [kd] = true then .ok (.fresh (.dict [(kd, vd)])) ρ4 else .stuck := by
  cases ev G k ρ with
  | ok r ρ1 =>
    dsimp only [PL.bind]
    cases PL.cold ρ1 r with
    | ok d ρ2 =>
      dsimp only [PL.bind]
      cases ev G v ρ2 with
      | ok r ρ1 =>
        dsimp only [PL.bind]
        cases PL.cold ρ1 r with
        | ok d ρ2 => rfl
        | exc c ρ2 => rfl
        | stuck => rfl
      | exc c ρ1 => rfl
      | stuck => rfl
    | exc c ρ2 => rfl
    | stuck => rfl
  | exc c ρ1 => rfl
  | stuck => rfl
/-! ### d.update(e) -/
def pputs (ps qs : List DE) : List DE := qs.foldl (fun acc q => pput acc q.1 q.2.1 q.2.2) ps
theorem rx_puts : ∀ {qs : List DE} {ys : List (NestedKey × Addr × Value)}, Paired RX qs ys → ∀ {ps : List DE} {xs : List (NestedKey × Addr × Value)}, Paired RX ps xs → Paired RX (pputs ps qs) (storedAllH xs ys)
  | _, _, .nil, _, _, h => h
  | q :: qs, y :: ys, .cons r t, ps, xs, h => by
    have := rx_puts t (rx_put (k := q.1) (b := y.2.1) r.2.2 h)
    unfold pputs at this ⊢
    rw [List.foldl_cons]
    rw [← r.2.1, r.1] at this
    rw [r.1]
    exact this
theorem pk_puts {K : PySem.W.Frag} {Y : Addr → Prop} {H : Hp} : ∀ {qs : List DE} {more : List (PyData × PyData)}, Paired (PKV K Y H) qs more → ∀ {ps : List DE} {kvs : List (PyData × PyData)}, Paired (PKV K Y H) ps kvs → Paired (PKV K Y H) (pputs ps qs) (stores kvs more)
  | _, _, .nil, _, _, h => h
  | q :: qs, m :: ms, .cons r t, ps, kvs, h => pk_puts t (pk_store r.1 r.2.1 r.2.2 h)
theorem pputs_nodup : ∀ {qs ps : List DE}, (ps.map (·.1)).Nodup → ((pputs ps qs).map (·.1)).Nodup
  | [], _, h => h
  | q :: qs, ps, h => pputs_nodup (qs := qs) (ps := pput ps q.1 q.2.1 q.2.2) (pput_nodup h)
theorem pputs_len : ∀ (qs ps : List DE), (pputs ps qs).length ≤ ps.length + qs.length
  | [], ps => Nat.le_refl _
  | q :: qs, ps => by
    have h1 := pputs_len qs (pput ps q.1 q.2.1 q.2.2)
    have h2 := pput_len ps q.1 q.2.1 q.2.2
    show (pputs (pput ps q.1 q.2.1 q.2.2) qs).length ≤ ps.length + (qs.length + 1)
    omega
def rUp (X : Cx) : V → List V → Hp → VK → Prop := fun x vs H Q => ∃ (Y : Addr → Prop) (a b : Addr) (ps qs : List DE) (kvs more : List (PyData × PyData)), x = .ref a ∧ vs = [.ref b] ∧ Y a ∧ ¬ Y b ∧ DView X Y H a ps kvs ∧ DView X Y H b qs more ∧
  (∀ d ∈ kvs.map (·.1), keyTup d = true) ∧ (∀ d ∈ more.map (·.1), keyTup d = true) ∧ kvs ≠ [] ∧ kvs.length + more.length ≤ 1000000 ∧ ∀ ho ps', DView X Y (upd H a ho) a ps' (stores kvs more) → Q .non (upd H a ho)
theorem mt_update {X : Cx} (ok : XOk X) : MtR X "dict.update" (rUp X) := by
  rintro pins s σ H x vs v us Q I rx rv ⟨Y, a, b, ps, qs, kvs, more, rfl, rfl, hY, nY, D, D2, t1, t2, ne, hl, q⟩
  cases rx
  obtain ⟨u, rfl, ru⟩ := L2.Vals.one rv
  cases ru
  obtain ⟨xs, dv, r1⟩ := D.viewT I t1
  obtain ⟨ys, dw, r2⟩ := D2.viewT I t2
  obtain ⟨es0, ep0, _, _, _, _, eH⟩ := D.sizes I
  have l1 := paired_len r1
  have l2 := paired_len r2
  have l3 := paired_len D.pk
  have l4 := paired_len D2.pk
  have hz : (1000000 : Nat) ≤ sizeLine := by rw [sizeLine_eq]; decide
  refine call_update_dictH (room8 ok) (fun z => nY (by rw [← z]; exact hY)) D2.at'.sys dv dw (.inl fun z => ne ?_) (by omega) fun h' dv' _ hs => ?_
  · rw [z] at l1
    exact List.length_eq_zero_iff.mp (by rw [← l3, l1]; rfl)
  · obtain ⟨ob, es, ep, e1, e2, e3, e4, e5, e6⟩ := dv'
    have raw : h'.DictRaw a es ep := ⟨ob, e1, e2, e3⟩
    have K1 : Keeps Y H (upd H a (DctO a es ep)) := Keeps.put eH plain_dct ntb_dct hY
    have pk := pk_puts D2.pk D.pk
    obtain ⟨b1, b2, b3⟩ := pkv_back pk
    have pe : Paired Ent (pputs ps qs) es.toList := by
      rw [e4]
      exact ent_rx (rx_puts r2 r1) (keys_src b1)
    have := pputs_len qs ps
    refine ⟨.non, _, d_write (t' := s.toks) I (by rw [eH]; exact True.intro) hs ⟨ob, e1⟩ (dct_ok raw), rfl, q _ (pputs ps qs) ⟨⟨⟨es, ep, upd_same, pe⟩, b1, pputs_nodup D.at'.nd, D.at'.sys, by omega⟩, b2.move K1 fun _ z => z, b3.move K1 fun _ z => z⟩⟩
section
variable {X : Cx} {Wx : WX} {o e : Expr} {es : List Expr} {name : Str} {apos cpos : Pos} {fo : PL.Env → Out Res} {fc : PL.Env → Out (List PyData)} {id : String}
def tBMD (X : Cx) (r : V → List V → Hp → VK → Prop) (to : TE) (t : TA) : TE := fun σ H Q => to σ H fun x H1 => (∃ Y a ps kvs, x = .ref a ∧ DView X Y H1 a ps kvs) ∧ t σ H1 fun xs H2 => r x xs H2 Q
theorem pe_bmD {r : V → List V → Hp → VK → Prop} {to : TE} {t : TA} (slot : PySem.Slot "dict" name id) (hty : typeOf (.builtin id) = pure (.type "method_descriptor")) (hm : MtR X id r) (ho : PE X o to) (ha : PA X (e :: es) t)
    (hbase : attributeBase o name X.env (eval o X.env) = eval o X.env)
    (hfew : ((backTo cpos (starEach (e :: es) X.env)).all (fun x => !x.1) && (backToKw cpos (keywordEach [] X.env)).all (fun x => x.1.isSome)
      && decide ((e :: es).length + ([] : List Keyword).length + (if ([] : List Keyword).isEmpty then 0 else 1) < 30)) = true)
    (hline : (apos.endLine == cpos.line) = true) (hs : starEach (e :: es) X.env = (false, eval e X.env) :: starEach es X.env) (hplain : (backTo cpos (starEach es X.env)).any (·.1) = false) :
    PE X (.Call (.Attribute o name apos) (e :: es) [] cpos) (tBMD X r to t) := by
  refine ⟨fun pins s σ H Q I h => ?_⟩
  refine wpAny_Call_method_late hbase hfew hline rfl (thn (ho.run pins s σ H _ I h) fun v s1 ⟨x, H1, I1, r1, ty, q1⟩ => ?_)
  obtain ⟨Y, a, ps, kvs, rfl, D⟩ := ty
  cases r1
  obtain ⟨es1, ep1, hr, _⟩ := D.sizes I1
  have hT := hr.typeIs
  obtain ⟨ob, e1, e2, e3⟩ := hr
  refine ⟨"dict", id, PySem.F.plainAttrs_dict, slot, hty, hT, fun b z => by cases z; exact ⟨ob, e1, e2.2.1⟩, ?_⟩
  have hA := ha.run cpos pins s1 σ H1 _ I1 q1
  rw [hs] at hA ⊢
  refine Calls.callWith_builtin (by show (false || (backTo cpos (starEach es X.env)).any (·.1)) = false; rw [hplain] <;> rfl) (Calls.evalArgs_plain ?_)
  exact thn hA fun us s2 ⟨vs, H2, I2, r2, q2⟩ => hm pins s2 σ H2 (.ref a) vs _ us Q I2 rfl r2 q2
theorem few_of {es : List Expr} {cpos : Pos} : es.all unstar = true → (backTo cpos (starEach es X.env)).all (fun x => !x.1) = true := by
  induction es with
  | nil => intro _; rfl
  | cons a r ih =>
    intro h
    rw [List.all_cons, Bool.and_eq_true] at h
    rw [star_cons h.1]
    exact ih h.2
theorem recv_dct {m : Me} {ro : Res} {ρ : PL.Env} (hm : isMut m = true) (hu : isUpd m = true) (h : recvOk m ro ρ = true) : ∃ i io ds, ro = .ref i ∧ gets ρ i = .h io (.dict ds) := by
  unfold recvOk at h
  rw [if_pos hm] at h
  cases ro with
  | ref i =>
    dsimp only at h
    cases e : gets ρ i with
    | h io d =>
      rw [e] at h
      dsimp only at h
      cases d with
      | dict ds => exact ⟨i, io, ds, rfl, e⟩
      | list ds => rw [recvD, hu] at h; cases h
      | _ => cases h
    | _ => rw [e] at h; cases h
  | _ => cases h
theorem se_upd (ok : XOk X) (ho : SE X Wx o fo) (ha : SC X Wx (e :: es) fc)
    (hb : plainBase o = true) (hs : (e :: es).all unstar = true) (hn : decide ((e :: es).length < 30) = true) (hline : (apos.endLine == cpos.line) = true) :
    SE X Wx (.Call (.Attribute o "update" apos) (e :: es) [] cpos) (fun ρ => bind (fo ρ) fun ro ρ1 => if recvOk .update ro ρ1 then bind (fc ρ1) fun ds ρ2 => metR .update ro ds ρ2 else .stuck) := by
  have hs' := hs
  rw [List.all_cons, Bool.and_eq_true] at hs'
  refine pe_mono (pe_bmD PySem.F.slot_dict_update PySem.F.type_dict_update (mt_update ok) ho ha (plain_base hb) ?_ hline (star_cons hs'.1) (star_any hs'.2)) fun σ H Q ⟨B, Z, ρ, C, h⟩ => ?_
  · rw [few_of hs]
    show (true && true && decide ((e :: es).length + 0 + 0 < 30)) = true
    simpa using hn
  · refine sub_run C h (fun _ _ z => z) fun ro ρ1 x H1 P1 h1 => ?_
    by_cases hk : recvOk .update ro ρ1 = true
    · rw [if_pos hk] at h1
      obtain ⟨i, io, kvs0, rfl, e0⟩ := recv_dct rfl rfl hk
      obtain ⟨a, ea, n, nb, ps0, D01, D02, D03⟩ := P1.conc.hot i io _ (gets_some e0 (by intro z; cases z))
      have hv : σ[i]? = some (some x) := P1.res.1
      rw [hv] at ea
      cases ea
      refine ⟨⟨_, a, ps0, kvs0, rfl, D01, D02, D03⟩, sc_run P1.conc h1 (fun c ρ' z => z.step P1.x) fun ds ρ2 vs H2 P2 rp h2 => ?_⟩
      unfold metR at h2
      rw [if_pos (by rfl)] at h2
      dsimp only at h2
      cases e : gets ρ2 i with
      | h io d =>
        rw [e] at h2
        dsimp only at h2
        cases e2 : metM .update d ds with
        | none => rw [e2] at h2; exact h2.elim
        | some p =>
          obtain ⟨y, d'⟩ := p
          rw [e2] at h2
          have hs := gets_some e (by intro z; cases z)
          obtain ⟨a', e3, n, nb, ow⟩ := P2.conc.hot i io d hs
          rw [hv] at e3
          cases e3
          cases d with
          | dict kvs =>
            obtain ⟨ps, D1, D2, D3⟩ := ow
            match ds, rp, e2 with
            | [.dict more], rp, e2 =>
              have e2 : updD kvs more = some (y, d') := e2
              unfold updD at e2
              split at e2
              · rename_i hc
                cases e2
                simp only [Bool.and_eq_true, decide_eq_true_eq, Bool.not_eq_true', List.isEmpty_eq_false_iff, List.all_eq_true] at hc
                obtain ⟨v, rfl, r⟩ := rp.one'
                cases r with
                | @dct b qs _ nb2 rd ra rb =>
                  refine ⟨Fb Z ρ2 σ, a, b, ps, qs, kvs, more, rfl, rfl, .inr ⟨i, io, _, hs, hv⟩, nb2, ⟨D1, D2, D3⟩, ⟨rd, ra, rb⟩, hc.1.1.1, hc.1.1.2, hc.1.2, hc.2, fun ho ps' D' => ?_⟩
                  have ow2 : Own X.K (Fb Z ρ2 σ) (upd H2 a ho) a (.dict (stores kvs more)) := ⟨ps', D'.at', D'.ra, D'.rb⟩
                  have W := P2.conc.write hs hv ow2
                  exact h2 .non _ ((P1.x.seq (P2.seq W)).post (post_val W.conc .non))
              · cases e2
          | list xs => exact absurd e2 (by simp [metM])
          | _ => exact ow.elim
      | _ => rw [e] at h2; exact h2.elim
    · rw [if_neg hk] at h1
      exact h1.elim
end
end PL

set_option autoImplicit false
set_option linter.all false
set_option Elab.async false
set_option maxRecDepth 100000
set_option maxHeartbeats 1000000
/-! PD4: l.index(x). -/
namespace PL
open PySem PySem.Spec PyProof.Rows L2
variable [TabL]
def rIdx (X : Cx) : V → List V → Hp → VK → Prop := fun x vs H Q => ∃ (Y : Addr → Prop) (v : V) (d : PyData) (ds : List PyData) (j : Nat), vs = [v] ∧ Op X.K Y H x (.list ds) ∧ Op X.K Y H v d ∧ deepOk d = true ∧ deepOks ds = true ∧
  (ds.findIdx? fun y => PyData.eqv y d) = some j ∧ Q (.int (j : Int)) H
theorem mt_indexL {X : Cx} (ok : XOk X) : MtR X "list.index" (rIdx X) := by
  rintro pins s σ H x vs u us Q I rx rv ⟨Y, v, d, ds, j, rfl, ox, ov, h1, h2, hj, q⟩
  obtain ⟨w, rfl, rw'⟩ := L2.Vals.one rv
  obtain ⟨a, xs, rfl, hq, rr⟩ := ox.list
  cases rx
  obtain ⟨its, ri, ⟨⟨cls, dd, data, sls⟩, n, ho, hc, hdn, hdt⟩, hlen⟩ := I.list hq
  simp only at hc hdt
  subst hc hdt
  obtain ⟨as, h4⟩ := rr.readsAll I ri
  obtain ⟨bs, r1⟩ := ov.reads I rw'
  have p1 := deep_ok h1
  have p2 := deeps_ok h2
  have hun := ok.un
  have hmap : its.map (SeqAt.readOf s.heap) = ds := SeqAt.readsAll_map_plain ds its as p2.1 h4
  have hn : its.length = ds.length := by rw [← hmap, List.length_map]
  have hx : xs.length = its.length := ri.length
  obtain ⟨jl, jt, jn⟩ := List.findIdx?_eq_some_iff_getElem.mp hj
  have hsl := sizeLine_eq
  have at_ : ∀ (m : Nat) (hm : m < its.toArray.size) (hd : m < ds.length), SeqAt.readOf s.heap its.toArray[m] = ds[m] := fun m hm hd => by
    have hml : m < its.length := by simpa using hm
    have e : (its.map (SeqAt.readOf s.heap))[m]? = ds[m]? := by rw [hmap]
    rw [List.getElem?_map, List.getElem?_eq_getElem hml, List.getElem?_eq_getElem hd] at e
    have e := Option.some.inj e
    simpa using e
  have hj' : j < its.toArray.size := by rw [List.size_toArray]; omega
  refine call_meets PySem.F.slot_list_index ⟨_, ho, rfl⟩ PySem.F.entry_list_index (PySem.F.args_list_index_2 _ _)
    (SeqAt.list_indexAt a its.toArray n dd sls w (fun u => PyData.eqv (SeqAt.readOf s.heap u) d) j hj' (by omega) ?_ ?_) ⟨ho, SeqAt.items_plain (vs := its.toArray) (show ReadsAll s.heap its.toArray.toList ds as from h4) r1 p2.1 p1.1 ?_, ?_⟩
  · show PyData.eqv (SeqAt.readOf s.heap its.toArray[j]) d = true
    rw [at_ j hj' jl]
    exact jt
  · intro m hm hmj
    show PyData.eqv (SeqAt.readOf s.heap its.toArray[m]) d = false
    rw [at_ m hm (by omega)]
    simpa using jn m hmj
  · have := Nat.min_le_left (PyData.depthAll ds) d.depth
    omega
  · exact ⟨.int (j : Int), H, I.tok _, ⟨_, rfl⟩, q⟩
section
variable {X : Cx} {Wx : WX} {o e : Expr} {es : List Expr} {apos cpos : Pos} {fo : PL.Env → Out Res} {fc : PL.Env → Out (List PyData)}
theorem se_index (ok : XOk X) (ho : SE X Wx o fo) (ha : SC X Wx (e :: es) fc)
    (hb : plainBase o = true) (hs : (e :: es).all unstar = true) (hn : decide ((e :: es).length < 30) = true) (hline : (apos.endLine == cpos.line) = true) :
    SE X Wx (.Call (.Attribute o "index" apos) (e :: es) [] cpos) (fun ρ => bind (fo ρ) fun ro ρ1 => if recvOk .index ro ρ1 then bind (fc ρ1) fun ds ρ2 => metR .index ro ds ρ2 else .stuck) := by
  have hs' := hs
  rw [List.all_cons, Bool.and_eq_true] at hs'
  refine pe_mono (pe_bm PySem.F.plainAttrs_list PySem.F.slot_list_index PySem.F.type_list_index (mt_indexL ok) ho ha (plain_base hb) ?_ hline (star_cons hs'.1) (star_any hs'.2)) fun σ H Q ⟨B, Z, ρ, C, h⟩ => ?_
  · rw [few_of hs]
    show (true && true && decide ((e :: es).length + 0 + 0 < 30)) = true
    simpa using hn
  · refine sub_run C h (fun _ _ z => z) fun ro ρ1 x H1 P1 h1 => ?_
    by_cases hk : recvOk .index ro ρ1 = true
    · rw [if_pos hk] at h1
      have hl : ∃ ds, peek ρ1 ro = some (.list ds) := by
        unfold recvOk at hk
        rw [if_neg (by decide)] at hk
        cases ep : peek ρ1 ro with
        | none => rw [ep] at hk; cases hk
        | some d =>
          rw [ep] at hk
          cases d with
          | list ds => exact ⟨ds, rfl⟩
          | _ => cases hk
      obtain ⟨ds1, ep⟩ := hl
      obtain ⟨a, xs, rfl, sq, _⟩ := (peek_op P1.res (.refl P1.conc) ep).list
      refine ⟨.inl ⟨rfl, xs, sq⟩, sc_run P1.conc h1 (fun c ρ' z => z.step P1.x) fun ds ρ2 vs H2 P2 rp h2 => ?_⟩
      unfold metR at h2
      rw [if_neg (by decide)] at h2
      cases ep2 : peek ρ2 ro with
      | none => rw [ep2] at h2; exact h2.elim
      | some d =>
        rw [ep2] at h2
        obtain ⟨r, er, qr⟩ := h2.ofO
        have op := peek_op P1.res P2 ep2
        match d, ds, rp, er, op with
        | .list dl, [x], rp, er, op =>
          have er : indexD dl x = some r := er
          unfold indexD at er
          split at er
          · rename_i hc
            rw [Bool.and_eq_true, Bool.and_eq_true] at hc
            obtain ⟨j, ej, rfl⟩ := Option.map_eq_some_iff.mp er
            obtain ⟨v, rfl, rv⟩ := rp.one'
            exact ⟨_, v, x, dl, j, rfl, op, .rp rv, hc.1.1, hc.1.2, ej, qr _ _ ((P1.x.seq P2).post (post_val P2.conc (.int _)))⟩
          · cases er
        | .list dl, [], rp, er, op => cases er
        | .list dl, _ :: _ :: _, rp, er, op => exact absurd er (by simp [metD])
        | .tuple _, _, rp, er, op => exact absurd er (by simp [metD])
        | .none, _, rp, er, op => exact absurd er (by simp [metD])
        | .bool _, _, rp, er, op => exact absurd er (by simp [metD])
        | .int _, _, rp, er, op => exact absurd er (by simp [metD])
        | .str _, _, rp, er, op => exact absurd er (by simp [metD])
        | .dict _, _, rp, er, op => exact absurd er (by simp [metD])
    · rw [if_neg hk] at h1
      exact h1.elim
end
end PL

set_option autoImplicit false
set_option linter.all false
set_option Elab.async false
set_option maxRecDepth 100000
set_option maxHeartbeats 1000000
/-! PL18: the check that an expression is a written expression, and its soundness. -/
namespace PL
open PySem PySem.Spec PyProof.Rows L2
variable [TabL]
mutual
def sameD : PyData → PyData → Bool
  | .none, .none => true
  | .bool a, .bool b => a == b
  | .int a, .int b => a == b
  | .str a, .str b => a == b
  | .tuple xs, .tuple ys => sameDs xs ys
  | _, _ => false
def sameDs : List PyData → List PyData → Bool
  | [], [] => true
  | x :: xs, y :: ys => sameD x y && sameDs xs ys
  | _, _ => false
end
mutual
theorem sameD_eq : ∀ {a b : PyData}, sameD a b = true → a = b
  | .none, b, h => by cases b <;> first | rfl | (simp [sameD] at h)
  | .bool _, b, h => by cases b <;> first | (simp [sameD] at h; rw [h]) | (simp [sameD] at h)
  | .int _, b, h => by cases b <;> first | (simp [sameD] at h; rw [h]) | (simp [sameD] at h)
  | .str _, b, h => by cases b <;> first | (simp [sameD] at h; rw [h]) | (simp [sameD] at h)
  | .tuple xs, b, h => by
    cases b with
    | tuple ys =>
      rw [sameD] at h
      rw [sameDs_eq h]
    | _ => simp [sameD] at h
  | .list _, b, h => by cases b <;> simp [sameD] at h
  | .dict _, b, h => by cases b <;> simp [sameD] at h
theorem sameDs_eq : ∀ {a b : List PyData}, sameDs a b = true → a = b
  | [], [], _ => rfl
  | [], _ :: _, h => by simp [sameDs] at h
  | _ :: _, [], h => by simp [sameDs] at h
  | x :: xs, y :: ys, h => by
    rw [sameDs, Bool.and_eq_true] at h
    rw [sameD_eq h.1, sameDs_eq h.2]
end
def sameCs : List (Str × PyData) → List (Str × PyData) → Bool
  | [], [] => true
  | (a, x) :: r, (b, y) :: s => a == b && sameD x y && sameCs r s
  | _, _ => false
theorem sameCs_eq : ∀ {a b : List (Str × PyData)}, sameCs a b = true → a = b
  | [], [], _ => rfl
  | [], _ :: _, h => by simp [sameCs] at h
  | _ :: _, [], h => by simp [sameCs] at h
  | (a, x) :: r, (b, y) :: s, h => by
    rw [sameCs, Bool.and_eq_true, Bool.and_eq_true] at h
    rw [eq_of_beq h.1.1, sameD_eq h.1.2, sameCs_eq h.2]
def sameW (a b : WSh) : Bool := a.told == b.told && sameCs a.cls b.cls
theorem sameW_eq {a b : WSh} (h : sameW a b = true) : a = b := by
  unfold sameW at h
  rw [Bool.and_eq_true] at h
  obtain ⟨a1, a2⟩ := a
  obtain ⟨b1, b2⟩ := b
  have e1 : a1 = b1 := eq_of_beq h.1
  have e2 : a2 = b2 := sameCs_eq h.2
  rw [e1, e2]
/-- what the check knows: the slots' names, the scope, where names are stored, the built-ins that stand, the constants -/
structure Tab where
  N : List Str
  sc : Scope
  st : Scope
  bi : List Str
  gl : List (Str × PyData)
  ex : List Str
  wd : List (Str × WSh)
  deep : Bool
def Tab.blk (T : Tab) (scope : Scope) : Tab := { T with sc := relS scope T.sc, st := scope, deep := false }
def Tab.lam (T : Tab) (scope : Scope) : Tab := { T with sc := scope, st := scope, deep := false, ex := [] }
def vis (sc : Scope) (x : Str) : Bool := match sc.names.lookup x with
  | some .local => true
  | some .cell => true
  | some .free => true
  | _ => false
def stor (sc : Scope) (x : Str) : Bool := match sc.names.lookup x with
  | some .local => true
  | some .cell => true
  | _ => false
def glo (sc : Scope) (x : Str) : Bool := sc.names.lookup x == some .globalImplicit
def okN (x : Str) : Bool := !(x == ("__debug__" : Str)) && !(x == ("__classdict__" : Str)) && !(x == ("__name__" : Str))
def bltn (T : Tab) (x : Str) : Bool := glo T.sc x && T.bi.contains x
/-- the def at hand makes lambdas: its code object, its table -/
structure LamOk (X : Cx) : Prop where
  ex : ∃ c P, X.env.code = .ref c ∧ LamX.TabB X.base X.mg c P ∧ (P, X.env.qual ++ "<lambda>") ∈ TabL.T ∧ ∀ p ∈ TabL.T, p.1 = P → p.2 = X.env.qual ++ "<lambda>"
/-- what a def makes of the lambda that it calls in a try -/
def TTw (K : PySem.W.Frag) (mg : Str → Option Value) (sh : WSh) : (XK → Hp → VK → Prop) → Hp → VK → Prop := fun tl H Q => ∀ H0, Keeps NoM H H0 →
  tl (fun cls d H' => d = none ∧ ∃ c x, sh.cls.lookup c = some x ∧ mg c = some cls ∧ ∀ w H'', Keeps NoM H' H'' → (∀ Y : Addr → Prop, (∀ a, Y a → Thr H' a) → Rp K Y H'' w x) → Q w H'') H0
    (fun v H' => ∀ w H'', Keeps NoM H' H'' → (if sh.told = true then ∃ p, w = .ref p ∧ H' p = none ∧ Rd H'' p (.tup [.str "told", v]) else w = .str "let") → Q w H'')
/-- the def f is such a one -/
structure WordOk (X : Cx) (f : Str) (sh : WSh) : Prop where
  ex : ∃ (g : Addr) (a : Str) (pg : Arguments) (bg : List Stmt) (sg : Scope) (dV kV doc pm cdv ct oc : Value) (an od : Option Addr) (osl : Array (Option Value)) (Ng : List Str), X.mg f = some (.ref g) ∧ PySem.W.keepIn X.K (.ref g) = true ∧
    X.K.lookup g = some ⟨oc, od, .func (PySem.W.fnOf f f pg bg sg dV kV doc pm an cdv ct), osl⟩ ∧ PySem.W.codeIn X.K cdv f = true ∧ L2.Binds X.K (PySem.W.fnOf f f pg bg sg dV kV doc pm an cdv ct) [a] [] ∧ FnScope Ng [a] sg ∧ Ng[0]? = some a ∧ Vis sg a ∧
    (a == ("__debug__" : Str)) = false ∧ (a == ("__classdict__" : Str)) = false ∧ ∀ q, LamX.GivesTo X Ng f sg g cdv bg a q (TTw X.K X.mg sh)
structure Good (X : Cx) (Wx : WX) (T : Tab) (G : Ctx) : Prop where
  ok : XOk X
  hN : X.N = T.N
  nd : T.N.Nodup
  hs : X.env.scope = T.sc
  kind : T.sc.kind = .function
  st : ∀ x, stor T.st x = true → Loc X.env.scope x ∧ (X.fn x = true ∨ X.env.scope.names.lookup x = some .local)
  bi : ∀ x ∈ T.bi, X.mg x = none
  gl : ∀ x d, (x, d) ∈ T.gl → ∃ u v, X.mg x = some u ∧ RelV v u ∧ ∀ Y H, Rp X.K Y H v d
  fn : ∃ k, Room (if T.deep then k + 2 else k) X.A ∧ ∀ x D, G.defs x = some D → CallOk X G.call k x D
  tk : Takes X (LW X.mg Wx)
  ex : ∀ c ∈ T.ex, ∃ C, X.mg c = some (.ref C) ∧ ErrC X.prog X.K C
  opq : T.ex ≠ [] → Opq X.base ∧ X.mg "super" = none ∧ Room 1 X.A
  lm : T.deep = true → LamOk X ∧ ∀ f sh, (f, sh) ∈ T.wd → WordOk X f sh
/-! ### the check -/
def okC : PyData → Const → Bool
  | .int i, .int j => i == j
  | .bool i, .bool j => i == j
  | .str i, .str j => i == j
  | .none, .none => true
  | _, _ => false
mutual
def okT (T : Tab) : Tg → Expr → Bool
  | .nm i, x => match x with
    | .Name y _ => T.N[i]? == some y && stor T.st y
    | _ => false
  | .tp ts, x => match x with
    | .Tuple xs _ _ => okTs T ts xs && xs.all unstar
    | _ => false
def okTs (T : Tab) : List Tg → List Expr → Bool
  | [], [] => true
  | t :: ts, x :: xs => okT T t x && okTs T ts xs
  | _, _ => false
end
def notSet : Expr → Bool
  | .Set .. => false
  | _ => true
def isTup : Expr → Bool
  | .Tuple .. => true
  | _ => false
def iterArgs : IK → Expr → List Expr
  | .plain, x => [x]
  | _, x => match x with
    | .Call (.Name _ _) xs [] _ => xs
    | _ => []
def callOf (T : Tab) (f : Str) (n : Nat) : Expr → Bool
  | .Call (.Name x _) xs [] _ => x == f && bltn T f && xs.all unstar && xs.length == n
  | _ => false
def iterOk (T : Tab) (k : IK) (t x : Expr) : Bool := match k with
  | .plain => notSet x && unstar x
  | .r1 => callOf T "range" 1 x
  | .r2 => callOf T "range" 2 x
  | .r3 => callOf T "range" 3 x
  | .enum => callOf T "enumerate" 1 x && isTup t
  | .zip => callOf T "zip" 2 x && isTup t
  | _ => false
def ownP (N : List Str) (own : List Nat) : List (Str × Nat) := own.map fun i => ((N[i]?).getD "", i)
def blkB (T : Tab) (scope : Scope) (own : List Nat) : Bool :=
  scope.kind == .function && scope.names.all (fun y => scope.names.lookup y.1 == some y.2) && own.all (fun i => decide (i < T.N.length)) &&
  scope.names.all (fun y => if y.2 == .free then (T.sc.names.lookup y.1 == some .cell || T.sc.names.lookup y.1 == some .free) else true) &&
  scope.names.all (fun y => if y.2 == .local || y.2 == .cell then (((ownP T.N own).map (·.1)).contains y.1 || !T.N.contains y.1) else true)
def biFn : Bi → Option Str
  | .len => some "len"
  | .abs => some "abs"
  | .sum => some "sum"
  | .min => some "min"
  | .max => some "max"
  | .all => some "all"
  | .any => some "any"
  | .sorted => some "sorted"
  | .int => some "int"
  | .list => some "list"
  | .tuple => some "tuple"
  | _ => none
/-- the operands of a built-in's call -/
def biArgs : Bi → List Expr → List Expr
  | .isinst _, x :: _ => [x]
  | .lenset, [.Call (.Name _ _) xs [] _] => xs
  | .sortedset, [.Call (.Name _ _) xs [] _] => xs
  | .range, [.Call (.Name _ _) xs [] _] => xs
  | .ranget, [.Call (.Name _ _) xs [] _] => xs
  | _, xs => xs
def biOk (T : Tab) (b : Bi) (f : Str) (xs : List Expr) : Bool := match b with
  | .isinst t => match xs with
    | [x, .Name y _] => f == "isinstance" && bltn T "isinstance" && y == tyS t && bltn T (tyS t) && unstar x
    | _ => false
  | .lenset => match xs with
    | [x] => f == "len" && bltn T "len" && callOf T "set" 1 x
    | _ => false
  | .sortedset => match xs with
    | [x] => f == "sorted" && bltn T "sorted" && callOf T "set" 1 x
    | _ => false
  | .range => match xs with
    | [x] => f == "list" && bltn T "list" && (callOf T "range" 1 x || callOf T "range" 2 x)
    | _ => false
  | .ranget => match xs with
    | [x] => f == "tuple" && bltn T "tuple" && (callOf T "range" 1 x || callOf T "range" 2 x)
    | _ => false
  | b => match biFn b with
    | some g => f == g && bltn T g && !xs.isEmpty && xs.all unstar
    | none => false
def meName : Me → Option Str
  | .append => some "append"
  | .extend => some "extend"
  | .pop => some "pop"
  | _ => none
def isIdx : Me → Bool
  | .index => true
  | _ => false
def meOk (m : Me) (name : Str) (xs : List Expr) : Bool := if isUpd m then name == "update" && !xs.isEmpty else if isIdx m then name == "index" && !xs.isEmpty else isMut m && meName m == some name
def noPar : Arguments → Bool
  | ⟨[], [], none, [], [], none, []⟩ => true
  | _ => false
mutual
def okE (T : Tab) : Ex → Expr → Bool
  | .var i, x => match x with
    | .Name y _ => T.N[i]? == some y && vis T.sc y && okN y
    | _ => false
  | .con d, x => match x with
    | .Constant c _ _ => okC d c
    | _ => false
  | .gl z d, x => match x with
    | .Name y _ => y == z && glo T.sc y && okN y && T.gl.any (fun p => p.1 == z && sameD p.2 d)
    | _ => false
  | .bin op a b, x => match x with
    | .BinOp y o z _ => o == op && okE T a y && okE T b z
    | _ => false
  | .neg a, x => match x with
    | .UnaryOp o y _ => o == .USub && okE T a y
    | _ => false
  | .not a, x => match x with
    | .UnaryOp o y _ => o == .Not && okE T a y
    | _ => false
  | .band es, x => match x with
    | .BoolOp o xs _ => o == .And && okEs T es xs && !xs.isEmpty
    | _ => false
  | .bor es, x => match x with
    | .BoolOp o xs _ => o == .Or && okEs T es xs && !xs.isEmpty
    | _ => false
  | .cmp a ops es, x => match x with
    | .Compare y os xs _ => os == ops && okE T a y && okEs T es xs && !lastMarks os xs && ops.length == xs.length && !xs.isEmpty
    | _ => false
  | .ife c a b, x => match x with
    | .IfExp y z w _ => okE T c y && okE T a z && okE T b w
    | _ => false
  | .tup es, x => match x with
    | .Tuple xs _ _ => okEs T es xs && xs.all unstar
    | _ => false
  | .lst es, x => match x with
    | .List xs _ => okEs T es xs && xs.all unstar
    | _ => false
  | .dct ks vs, x => match x with
    | .Dict xs ys _ => xs.all (·.isSome) && decide (xs.length ≤ 1) && xs.length == ys.length && okEs T ks (xs.filterMap id) && okEs T vs ys
    | _ => false
  | .call f es, x => match x with
    | .Call (.Name y _) xs [] _ => y == f && glo T.sc y && okN y && okEs T es xs && xs.all unstar && !xs.isEmpty
    | _ => false
  | .bi b es, x => match x with
    | .Call (.Name y _) xs [] _ => biOk T b y xs && okEs T es (biArgs b xs)
    | _ => false
  | .met m o es, x => match x with
    | .Call (.Attribute y name ap) xs [] cp => meOk m name xs && okE T o y && okEs T es xs && plainBase y && xs.all unstar && decide (xs.length < 30) && ap.endLine == cp.line
    | _ => false
  | .idx a i, x => match x with
    | .Subscript y z _ => okE T a y && okE T i z && plainIx z
    | _ => false
  | .sli a lo hi, x => match x with
    | .Subscript y (.Slice l h none _) _ => okE T a y && okEs T lo l.toList && okEs T hi h.toList
    | _ => false
  | .slist _ _ _, _ => false
  | .told f sh e, x => match x with
    | .Call (.Name y _) [.Lambda params body scope _] [] _ => y == f && T.deep && T.wd.any (fun p => p.1 == f && sameW p.2 sh) && glo T.sc f && okN f && noPar params && LamX.lamSB T.sc scope && okE (T.lam scope) e body
    | _ => false
  | .lc elt tg k es cond own, x => match x with
    | .ListComp y gens sc _ => match gens with
      | [g] => match g with
        | ⟨t, it, ifs, n⟩ => n == 0 && blkB T sc own && iterOk T k t it && okEs T es (iterArgs k it) && okT (T.blk sc) tg t && okEs (T.blk sc) cond ifs && decide (ifs.length ≤ 1) && okE (T.blk sc) elt y && tgIn own tg && notSet it
      | _ => false
    | _ => false
def okEs (T : Tab) : List Ex → List Expr → Bool
  | [], xs => xs.isEmpty
  | e :: es, xs => match xs with
    | x :: ys => okE T e x && okEs T es ys
    | [] => false
end
/-! ### soundness -/
def Snd (X : Cx) (Wx : WX) (G : Ctx) (e : Ex) (x : Expr) : Prop := SE X Wx x (ev G e) ∧ ST X Wx x (fun ρ => bind (ev G e ρ) truthR) ∧
  (isComp x = true → ∀ (i : Nat) (y : Str) (py spos : Pos), X.N[i]? = some y → X.env.scope.names.lookup y = some .local → swapsWith x (some (.Name y py)) spos.line X.env = pure true →
    PS X (.Assign [.Name y py] x spos) (tAsg (tSE X.K Wx (ev G e)) (gName i)))
inductive Each (X : Cx) (Wx : WX) (G : Ctx) : List Ex → List Expr → Prop
  | nil : Each X Wx G [] []
  | cons {e : Ex} {x : Expr} {es : List Ex} {xs : List Expr} : Snd X Wx G e x → Each X Wx G es xs → Each X Wx G (e :: es) (x :: xs)
section
variable {X : Cx} {Wx : WX} {T : Tab} {G : Ctx}
theorem se_eq {x : Expr} {f g : PL.Env → Out Res} (h : SE X Wx x f) (e : ∀ ρ, g ρ = f ρ) : SE X Wx x g := by
  rw [show g = f from funext e]; exact h
theorem st_eq {x : Expr} {f g : PL.Env → Out Bool} (h : ST X Wx x f) (e : ∀ ρ, g ρ = f ρ) : ST X Wx x g := by
  rw [show g = f from funext e]; exact h
theorem sa_eq {x : List Expr} {f g : PL.Env → Out (List Res)} (h : SA X Wx x f) (e : ∀ ρ, g ρ = f ρ) : SA X Wx x g := by
  rw [show g = f from funext e]; exact h
theorem sc_eq {x : List Expr} {f g : PL.Env → Out (List PyData)} (h : SC X Wx x f) (e : ∀ ρ, g ρ = f ρ) : SC X Wx x g := by
  rw [show g = f from funext e]; exact h
theorem sr_eq {x : List Expr} {ios : List Nat} {j : Nat} {f g : PL.Env → Out (List ArgR)} (h : SRg X Wx ios j x f) (e : ∀ ρ, g ρ = f ρ) : SRg X Wx ios j x g := by
  rw [show g = f from funext e]; exact h
theorem sp_eq {x : List Expr} {f g : PL.Env → Out (List Slot)} (h : SPr X Wx x f) (e : ∀ ρ, g ρ = f ρ) : SPr X Wx x g := by
  rw [show g = f from funext e]; exact h
theorem unstars {x : Expr} {xs : List Expr} (h : (x :: xs).all unstar = true) : unstar x = true ∧ xs.all unstar = true := by
  rw [List.all_cons, Bool.and_eq_true] at h; exact h
theorem each_sa : ∀ {es : List Ex} {xs : List Expr}, Each X Wx G es xs → xs.all unstar = true → SA X Wx xs (evR G es)
  | _, _, .nil, _ => sa_eq sa_nil fun ρ => by rw [evR] <;> rfl
  | _, _, .cons s r, h => sa_eq (sa_cons s.1 (each_sa r (unstars h).2) (star_cons (unstars h).1)) fun ρ => by rw [evR] <;> rfl
theorem each_sc : ∀ {es : List Ex} {xs : List Expr}, Each X Wx G es xs → xs.all unstar = true → SC X Wx xs (evC G es)
  | _, _, .nil, _ => sc_eq sc_nil fun ρ => by rw [evC] <;> rfl
  | _, _, .cons s r, h => sc_eq (sc_cons s.1 (each_sc r (unstars h).2) (star_cons (unstars h).1)) fun ρ => by rw [evC] <;> rfl
theorem each_sr {ios : List Nat} : ∀ {j : Nat} {es : List Ex} {xs : List Expr}, Each X Wx G es xs → xs.all unstar = true → SRg X Wx ios j xs (evA G ios j es)
  | _, _, _, .nil, _ => sr_eq sr_nil fun ρ => by rw [evA] <;> rfl
  | _, _, _, .cons s r, h => sr_eq (sr_cons s.1 (each_sr r (unstars h).2) (unstars h).1) fun ρ => by rw [evA] <;> rfl
theorem each_sp : ∀ {hs : List Bool} {es : List Ex} {xs : List Expr}, Each X Wx G es xs → xs.all unstar = true → hs.length = es.length → SPr X Wx xs (evP G hs es)
  | [], _, _, .nil, _, _ => sp_eq sp_nil fun ρ => by rw [evP] <;> rfl
  | h :: hs, _, _, .cons s r, hu, hl => sp_eq (sp_cons (hot := h) s.1 (each_sp r (unstars hu).2 (by simpa using hl)) (unstars hu).1) fun ρ => by rw [evP] <;> rfl
  | [], _, _, .cons s r, _, hl => by simp at hl
  | _ :: _, _, _, .nil, _, hl => by simp at hl
theorem each_and {pos : Pos} : ∀ {e : Ex} {es : List Ex} {x : Expr} {xs : List Expr}, Each X Wx G (e :: es) (x :: xs) → SE X Wx (.BoolOp .And (x :: xs) pos) (evAnd G (e :: es)) ∧ SW X Wx (.BoolOp .And (x :: xs) pos) (fun ρ => bind (evAnd G (e :: es) ρ) truthR)
  | e, _, x, _, .cons s .nil => by
    have q : evAnd G [e] = fun ρ => bind (ev G e ρ) fun r ρ1 => .ok r ρ1 := by funext ρ; rw [evAnd] <;> rfl
    rw [q]
    exact ⟨se_one s.1, sw_one s.2.1⟩
  | e, e2 :: es, x, x2 :: xs, .cons s (.cons s2 r) => by
    have ih := each_and (pos := pos) (.cons s2 r)
    have q : evAnd G (e :: e2 :: es) = fun ρ => bind (ev G e ρ) fun r ρ1 => match peek ρ1 r with | some (.bool true) => evAnd G (e2 :: es) ρ1 | some (.bool false) => .ok (.val (.bool false)) ρ1 | _ => .stuck := by funext ρ; rw [evAnd] <;> rfl
    rw [q]
    exact ⟨se_and s.1 ih.1, sw_and s.2.1 ih.2⟩
theorem each_or {pos : Pos} : ∀ {e : Ex} {es : List Ex} {x : Expr} {xs : List Expr}, Each X Wx G (e :: es) (x :: xs) → SE X Wx (.BoolOp .Or (x :: xs) pos) (evOr G (e :: es)) ∧ SW X Wx (.BoolOp .Or (x :: xs) pos) (fun ρ => bind (evOr G (e :: es) ρ) truthR)
  | e, _, x, _, .cons s .nil => by
    have q : evOr G [e] = fun ρ => bind (ev G e ρ) fun r ρ1 => .ok r ρ1 := by funext ρ; rw [evOr] <;> rfl
    rw [q]
    exact ⟨se_one s.1, sw_one s.2.1⟩
  | e, e2 :: es, x, x2 :: xs, .cons s (.cons s2 r) => by
    have ih := each_or (pos := pos) (.cons s2 r)
    have q : evOr G (e :: e2 :: es) = fun ρ => bind (ev G e ρ) fun r ρ1 => match peek ρ1 r with | some (.bool false) => evOr G (e2 :: es) ρ1 | some (.bool true) => .ok (.val (.bool true)) ρ1 | _ => .stuck := by funext ρ; rw [evOr] <;> rfl
    rw [q]
    exact ⟨se_or s.1 ih.1, sw_or s.2.1 ih.2⟩
theorem each_ch (ok : XOk X) : ∀ {ops : List CmpOp} {es : List Ex} {xs : List Expr}, Each X Wx G es xs → ops.length = xs.length → xs ≠ [] → SCh X Wx ops xs (fun ra ρ => evCh G ra ops es ρ)
  | _, _, _, .nil, _, h => absurd rfl h
  | [], _, _, .cons s r, h, _ => by simp at h
  | op :: ops, _, _, .cons (e := e) s .nil, h, _ => by
    have : ops = [] := by
      cases ops with
      | nil => rfl
      | cons a b => simp at h
    subst this
    have q : (fun ra ρ => evCh G ra [op] [e] ρ) = fun ra ρ => bind (ev G e ρ) fun rb ρ1 => bind (cmpR op ra rb ρ1) fun b ρ2 => .ok b ρ2 := by funext ra ρ; rw [evCh] <;> rfl
    rw [q]
    exact sch_last (op_cmp ok op) s.1
  | op :: ops, _, _, .cons (e := e) s (.cons (e := e2) (es := es) s2 r), h, _ => by
    cases ops with
    | nil => simp at h
    | cons op2 ops =>
      have ih := each_ch ok (ops := op2 :: ops) (.cons s2 r) (by simpa using h) (by simp)
      have q : (fun ra ρ => evCh G ra (op :: op2 :: ops) (e :: e2 :: es) ρ) = fun ra ρ => bind (ev G e ρ) fun rb ρ1 => bind (cmpR op ra rb ρ1) fun b ρ2 => if b then evCh G rb (op2 :: ops) (e2 :: es) ρ2 else .ok false ρ2 := by
        funext ra ρ; rw [evCh] <;> rfl
      rw [q]
      exact sch_link (op_cmp ok op) s.1 ih
end
end PL

set_option autoImplicit false
set_option linter.all false
set_option Elab.async false
set_option maxRecDepth 100000
set_option maxHeartbeats 2000000
/-! PL19: the check of expressions is sound. -/
namespace PL
open PySem PySem.Spec PyProof.Rows L2
variable [TabL]
theorem vis_ok {sc : Scope} {x : Str} (h : vis sc x = true) : Vis sc x := by
  unfold vis at h
  split at h
  · rename_i e; exact .inl e
  · rename_i e; exact .inr (.inl e)
  · rename_i e; exact .inr (.inr e)
  · cases h
theorem stor_ok {sc : Scope} {x : Str} (h : stor sc x = true) : sc.names.lookup x = some .local ∨ sc.names.lookup x = some .cell := by
  unfold stor at h
  split at h
  · rename_i e; exact .inl e
  · rename_i e; exact .inr e
  · cases h
theorem okN_ok {x : Str} (h : okN x = true) : (x == ("__debug__" : Str)) = false ∧ (x == ("__classdict__" : Str)) = false ∧ x ≠ "__name__" := by
  unfold okN at h
  rw [Bool.and_eq_true, Bool.and_eq_true, Bool.not_eq_true', Bool.not_eq_true', Bool.not_eq_true'] at h
  exact ⟨h.1.1, h.1.2, fun z => by have := h.2; rw [z] at this; exact absurd this (by decide)⟩
section
variable {X : Cx} {Wx : WX} {T : Tab} {G : Ctx}
theorem Good.glob (g : Good X Wx T G) {x : Str} (h : glo T.sc x = true) : Gl X x := by
  unfold glo at h
  show X.env.scope.names.lookup x = _
  rw [g.hs]
  exact eq_of_beq h
theorem Good.blt (g : Good X Wx T G) {x : Str} (h : bltn T x = true) : Gl X x ∧ X.mg x = none := by
  unfold bltn at h
  rw [Bool.and_eq_true] at h
  exact ⟨g.glob h.1, g.bi x (by simpa using h.2)⟩
theorem Good.room (g : Good X Wx T G) : ∃ k, Room k X.A ∧ ∀ x D, G.defs x = some D → CallOk X G.call k x D := by
  obtain ⟨k, hr, hf⟩ := g.fn
  refine ⟨k, ?_, hf⟩
  cases hd : T.deep with
  | true => rw [hd] at hr; exact hr.mono (Nat.le_add_right k 2)
  | false => rw [hd] at hr; exact hr
theorem ownP_snd {N : List Str} {own : List Nat} : (ownP N own).map (·.2) = own := by
  unfold ownP
  rw [List.map_map]
  exact List.map_id own
theorem blk_ok (g : Good X Wx T G) {scope : Scope} {own : List Nat} (h : blkB T scope own = true) : BlkOk X.N X.env.scope scope (ownP T.N own) := by
  unfold blkB at h
  simp only [Bool.and_eq_true] at h
  obtain ⟨⟨⟨⟨h1, h2⟩, h3⟩, h4⟩, h5⟩ := h
  rw [g.hN, g.hs]
  refine ⟨eq_of_beq h1, fun y hy => eq_of_beq (List.all_eq_true.mp h2 y hy), fun p hp => ?_, fun y hy e => ?_, fun y hy e => ?_⟩
  · obtain ⟨i, hi, rfl⟩ := List.mem_map.mp hp
    have l : i < T.N.length := by simpa using List.all_eq_true.mp h3 i hi
    show T.N[i]? = some ((T.N[i]?).getD "")
    rw [List.getElem?_eq_getElem l]; rfl
  · have z := List.all_eq_true.mp h4 y hy
    rw [if_pos (by rw [e]; rfl), Bool.or_eq_true] at z
    exact z.imp eq_of_beq eq_of_beq
  · have z := List.all_eq_true.mp h5 y hy
    rw [if_pos (by rcases e with e | e <;> rw [e] <;> rfl), Bool.or_eq_true] at z
    exact z.imp (fun z => by simpa using z) (fun z => by simpa using z)
theorem Good.inblk (g : Good X Wx T G) {scope : Scope} {own : List Nat} (h : blkB T scope own = true) (s : Shared) (H : Hp) (C : Addr) (cl : List (Str × Addr)) (fp : List Addr) : Good (X.blk s H scope (compEnvC scope cl C X.env) fp) WF (T.blk scope) G := by
  have b := blk_ok g h
  have e : relS scope X.env.scope = relS scope T.sc := by rw [g.hs]
  refine ⟨⟨g.ok.calm, g.ok.un⟩, g.hN, g.nd, e, b.kind, fun x hx => ?_, g.bi, g.gl, let ⟨k, hr, hf⟩ := g.room; ⟨k, hr, fun x D hD => ⟨(hf x D hD).ex⟩⟩, takes_WF, g.ex, g.opq, fun h => by cases h⟩
  have hx := stor_ok (show stor scope x = true from hx)
  rcases hx with hx | hx
  · have q : (relS scope X.env.scope).names.lookup x = some .local := lookup_relS_keep (by decide) hx
    exact ⟨.inl q, .inr q⟩
  · have q : (relS scope X.env.scope).names.lookup x = some .cell := lookup_relS_keep (by decide) hx
    exact ⟨.inr q, .inl (by show (scope.names.lookup x == some .cell) = true; rw [hx]; rfl)⟩
mutual
theorem snd_T (g : Good X Wx T G) : ∀ {t : Tg} {x : Expr}, okT T t x = true → SG X x t
  | .nm i, x, h => by
    cases x <;> first | (simp [okT] at h; done) | skip
    rw [okT, Bool.and_eq_true] at h
    obtain ⟨s1, s2⟩ := g.st _ h.2
    exact sg_nm (by rw [g.hN]; exact g.nd) (by rw [g.hN]; exact eq_of_beq h.1) s1 s2
  | .tp ts, x, h => by
    cases x <;> first | (simp [okT] at h; done) | skip
    rw [okT, Bool.and_eq_true] at h
    obtain ⟨a, l⟩ := snd_Ts g h.1 h.2
    exact sg_tp g.ok.calm a h.2 l
theorem snd_Ts (g : Good X Wx T G) : ∀ {t : List Tg} {x : List Expr}, okTs T t x = true → x.all unstar = true → SGs X x t ∧ x.length = t.length
  | [], [], _, _ => ⟨sgs_nil, rfl⟩
  | [], _ :: _, h, _ => by simp [okTs] at h
  | _ :: _, [], h, _ => by simp [okTs] at h
  | t :: ts, x :: xs, h, hu => by
    rw [okTs, Bool.and_eq_true] at h
    obtain ⟨a, l⟩ := snd_Ts g h.2 (unstars hu).2
    exact ⟨sgs_cons (snd_T g h.1) a (unstars hu).1, by rw [List.length_cons, List.length_cons, l]⟩
end
theorem fold_ok {x : Expr} {env : PySem.Env} (h : notSet x = true) : ∀ u, foldedSetIterable x env u = pure u := by
  intro u
  cases x <;> first | rfl | cases h
theorem call_of {f : Str} {n : Nat} {x : Expr} (g : Good X Wx T G) (h : callOf T f n x = true) : ∃ p xs pos, x = .Call (.Name f p) xs [] pos ∧ Gl X f ∧ X.mg f = none ∧ xs.all unstar = true ∧ xs.length = n := by
  unfold callOf at h
  split at h
  · simp only [Bool.and_eq_true] at h
    obtain ⟨⟨⟨h1, h2⟩, h3⟩, h4⟩ := h
    have e := eq_of_beq h1
    subst e
    obtain ⟨a, b⟩ := g.blt h2
    exact ⟨_, _, _, rfl, a, b, h3, eq_of_beq h4⟩
  · cases h
theorem is_tup {t : Expr} (h : isTup t = true) : ∃ es k p, t = .Tuple es k p := by
  cases t <;> first | exact ⟨_, _, _, rfl⟩ | cases h
theorem si_of (g : Good X Wx T G) {k : IK} {t x : Expr} {es : List Ex} (h : iterOk T k t x = true) (r : Each X Wx G es (iterArgs k x)) : SI X Wx t x (walkF k (evC G es)) := by
  unfold iterOk at h
  cases k with
  | plain =>
    rw [Bool.and_eq_true] at h
    have r : Each X Wx G es [x] := r
    cases r with
    | cons s r =>
      cases r
      rename_i e
      have q : evC G [e] = fun ρ => bind (ev G e ρ) fun r ρ1 => bind (PL.cold ρ1 r) fun d ρ2 => bind (.ok [] ρ2) fun ds ρ3 => .ok (d :: ds) ρ3 := by
        funext ρ
        rw [evC]
        have q2 : evC G [] = fun ρ => .ok [] ρ := by funext ρ; rw [evC]
        rw [q2]
      rw [q]
      exact si_plain s.1
  | r1 =>
    obtain ⟨p, xs, pos, rfl, hg, hm, hu, hl⟩ := call_of g h
    match xs, hl, hu, r with
    | [a], _, hu, r => exact si_range1 hg hm (each_sc r hu) (unstars hu).1
  | r2 =>
    obtain ⟨p, xs, pos, rfl, hg, hm, hu, hl⟩ := call_of g h
    match xs, hl, hu, r with
    | [a, b], _, hu, r => exact si_range2 hg hm (each_sc r hu) (unstars hu).1 (unstars (unstars hu).2).1
  | r3 =>
    obtain ⟨p, xs, pos, rfl, hg, hm, hu, hl⟩ := call_of g h
    match xs, hl, hu, r with
    | [a, b, c], _, hu, r => exact si_range3 hg hm (each_sc r hu) hu
  | enum =>
    rw [Bool.and_eq_true] at h
    obtain ⟨p, xs, pos, rfl, hg, hm, hu, hl⟩ := call_of g h.1
    obtain ⟨_, _, _, rfl⟩ := is_tup h.2
    match xs, hl, hu, r with
    | [a], _, hu, r => exact si_enum hg hm (each_sc r hu) (unstars hu).1
  | zip =>
    rw [Bool.and_eq_true] at h
    obtain ⟨p, xs, pos, rfl, hg, hm, hu, hl⟩ := call_of g h.1
    obtain ⟨_, _, _, rfl⟩ := is_tup h.2
    match xs, hl, hu, r with
    | [a, b], _, hu, r => exact si_zip hg hm (each_sc r hu) (unstars hu).1 (unstars (unstars hu).2).1
  | zip3 => cases h
  | items => cases h
theorem tests_of {ok : XOk X} {cond : List Ex} {ifs : List Expr} (r : Each X Wx G cond ifs) (hl : ifs.length ≤ 1) : PTs X ifs (tST X.K Wx (evIf G cond)) := by
  cases r with
  | nil =>
    have q : evIf G [] = fun ρ => .ok true ρ := by funext ρ; rw [evIf]
    rw [q]
    exact ⟨fun pins s σ H Q I ⟨B, Z, ρ, C, h⟩ => pts_nil.run pins s σ H Q I (h H (.refl C))⟩
  | cons s r =>
    cases r with
    | cons s2 r => simp at hl
    | nil =>
      rename_i e x
      have q : evIf G [e] = fun ρ => bind (ev G e ρ) truthR := by
        funext ρ
        rw [evIf]
        congr 1
        funext r ρ1
        cases h : truthR r ρ1 with
        | ok b ρ2 =>
          rw [bind_ok]
          cases b
          · rfl
          · rw [if_pos rfl, evIf]
        | exc c ρ2 => rfl
        | stuck => rfl
      rw [q]
      exact ⟨fun pins s' σ H Q I h => (pts_one s.2.1).run pins s' σ H Q I h⟩
theorem bi_fn (ok : XOk X) {b : Bi} {f : Str} (h : biFn b = some f) : (∃ id, CallR X (.builtin id) (rCl X.K (biD b)) ∧ bootBuiltins f = some (.builtin id)) ∨ (∃ t, CallR X (.type t) (rCl X.K (biD b)) ∧ bootBuiltins f = some (.type t)) := by
  cases b <;> first | (cases h; done) | skip
  · cases h; exact .inl ⟨_, bi_len ok, PySem.boot_len⟩
  · cases h; exact .inl ⟨_, bi_abs ok, PyProof.Rows.boot_abs⟩
  · cases h; exact .inr ⟨_, bi_int ok, by decide +kernel⟩
  · cases h; exact .inl ⟨_, bi_sum ok, PyProof.Rows.boot_sum⟩
  · cases h; exact .inl ⟨_, bi_min ok, PyProof.Rows.boot_min⟩
  · cases h; exact .inl ⟨_, bi_max ok, PyProof.Rows.boot_max⟩
  · cases h; exact .inl ⟨_, bi_all ok, PyProof.Rows.boot_all⟩
  · cases h; exact .inl ⟨_, bi_any ok, PyProof.Rows.boot_any⟩
  · cases h; exact .inl ⟨_, bi_sorted ok, PyProof.Rows.boot_sorted⟩
  · cases h; exact .inr ⟨_, bi_list ok, by decide +kernel⟩
  · cases h; exact .inr ⟨_, bi_tuple ok, by decide +kernel⟩
theorem bi_nm {b : Bi} {f : Str} (h : biFn b = some f) : f ≠ "__name__" ∧ (f == ("__debug__" : Str)) = false := by
  cases b <;> first | (cases h; done) | skip
  all_goals (cases h; exact ⟨by decide, by decide⟩)
/-- no compared, negated, .. test -/
def plainTest : Expr → Bool
  | .UnaryOp .Not _ _ => false
  | .BoolOp .. => false
  | .IfExp .. => false
  | .Compare .. => false
  | _ => true
theorem test_ok {x : Expr} {env : PySem.Env} (h : plainTest x = true) : ∀ whole, isTrue x env whole = (do let v ← whole; standAt x.pos; holding [v] (truthy v)) := by
  intro whole
  cases x <;> first | rfl | (cases h; done) | skip
  rename_i o y p
  cases o <;> first | rfl | cases h
theorem mkSnd (ok : XOk X) {e : Ex} {x : Expr} (h : SE X Wx x (ev G e)) (ht : plainTest x = true) (hc : isComp x = false) : Snd X Wx G e x :=
  ⟨h, st_val ok h (test_ok ht), fun z => by rw [hc] at z; cases z⟩
theorem op_len {os ops : List CmpOp} (h : (os == ops) = true) : os = ops := eq_of_beq h
end
end PL

set_option autoImplicit false
set_option linter.all false
set_option Elab.async false
set_option maxRecDepth 100000
set_option maxHeartbeats 2000000
/-! PT3: a lambda that a def calls in a try. -/
namespace PL
open PySem PySem.Spec PyProof.Rows L2
variable [TabL]
/-- what a call wishes of an error that leaves -/
def WE (mg : Str → Option Value) (E : XK) : WX := fun c _ H' => ∀ C, mg c = some (.ref C) → E (.ref C) none H'
theorem keeps_ext {H H1 : Hp} (x : LamX.ExtN H H1) (t : LamX.Tabs TabL.T H1) : Keeps NoM H H1 := ⟨fun a o e n _ => x a o e n, fun a ⟨o, e, n⟩ => ⟨o, x a o e n, n⟩, fun _ => t⟩
section
variable {X : Cx} {Wx : WX} {T : Tab} {G : Ctx}
theorem Good.inlam (g : Good X Wx T G) {scope : Scope} {k : Nat} (L : LamX.LamS T.sc scope) (hf : ∀ x D, G.defs x = some D → CallOk X G.call k x D) (A : Around) (outer : List PySem.Env) (s : Shared) (H : Hp) (E : XK) (f c' : Addr)
    (hr : Room k (A.deeper (LamX.lamEnv X scope s.heap.objs.size f c'))) : Good (LamX.lamCx X A outer s H E scope f c') (WE X.mg E) (T.lam scope) G := by
  refine ⟨⟨rfl, ?_⟩, g.hN, g.nd, rfl, L.kind, fun x hx => ?_, g.bi, g.gl, ⟨k, hr, fun x D hD => ⟨(hf x D hD).ex⟩⟩, ?_, (fun c hc => by cases hc), (fun h => absurd rfl h), fun h => by cases h⟩
  · have := hr.un
    show (A.deeper (LamX.lamEnv X scope s.heap.objs.size f c')).units + 200 < cLine
    omega
  · have hx := stor_ok (show stor scope x = true from hx)
    rcases hx with hx | hx
    · exact absurd rfl (L.own _ (PySem.mem_of_lookup hx)).1
    · exact absurd rfl (L.own _ (PySem.mem_of_lookup hx)).2
  · refine Takes.imp (takes_of (E := E) rfl rfl rfl rfl) fun cls d σ H h => ?_
    obtain ⟨rfl, c, C, rfl, hC, h⟩ := h
    exact h C hC
theorem se_told {f : Str} {sh : WSh} {e : Ex} {params : Arguments} {body : Expr} {scope : Scope} {k : Nat} {p lpos pos : Pos} (lm : LamOk X) (wo : WordOk X f sh) (hr : Room (k + 2) X.A) (hg : Gl X f) (hdb : (f == ("__debug__" : Str)) = false) (hp : noPar params = true) (L : LamX.LamS X.env.scope scope)
    (hb : ∀ (A : Around) (outer : List PySem.Env) (s : Shared) (H : Hp) (E : XK) (g c' : Addr), Room k (A.deeper (LamX.lamEnv X scope s.heap.objs.size g c')) → SE (LamX.lamCx X A outer s H E scope g c') (WE X.mg E) body (ev G e)) :
    SE X Wx (.Call (.Name f p) [.Lambda params body scope lpos] [] pos) (fun ρ => toldR sh (ev G e ρ)) := by
  obtain ⟨c, P, hcode, TB, hmT, hu⟩ := lm.ex
  obtain ⟨g, a, pg, bg, sg, dV, kV, doc, pm, cdv, ct, oc, an, od, osl, Ng, hm, hk, lk, hcg, hbi, Sg, hNg, hva, n1, n2, hG⟩ := wo.ex
  obtain ⟨pp, pa, pv, pk, pd, pw, pf⟩ := params
  have e0 : (⟨pp, pa, pv, pk, pd, pw, pf⟩ : Arguments) = ⟨[], [], none, [], [], none, []⟩ := by
    unfold noPar at hp
    split at hp
    · rename_i q; exact q
    · cases hp
  rw [e0]
  refine pe_mono (LamX.pe_lamcall (k := k) (t := fun E => tSE X.K (WE X.mg E) (ev G e)) hg hm hk lk hcg hbi Sg hNg hva (hG _) TB hcode hmT hu hr L rfl (fun _ _ _ _ _ => rfl) (fun A outer s H E f c' hr => hb A outer s H E f c' hr) hdb n1 n2) fun σ H Q ⟨B, Z, ρ, C, h⟩ => ?_
  refine ⟨C.tabs, fun H1 ext tb H0 k0 => ?_⟩
  have k1 : Keeps NoM H H0 := (keeps_ext ext tb).trans k0
  refine ⟨B, Z, ρ, C.grow k1, ?_⟩
  dsimp only at h ⊢
  cases e1 : ev G e ρ with
  | stuck => rw [e1] at h; exact h.elim
  | ok r ρ1 =>
    rw [e1] at h
    intro v H2 P2 w H3 k3 hw
    simp only [toldR] at h
    refine cold_run P2.res h fun d ρ2 P3 rp h3 => ?_
    have PX : PostX X.K B Z ρ ρ2 σ H H2 := by
      have q := P2.x.seq P3
      exact ⟨k1.any.trans q.keep, q.sl, q.conc⟩
    have PY : PostX X.K B Z ρ ρ2 σ H H3 := ⟨PX.keep.trans k3.any, PX.sl, PX.conc.grow k3⟩
    refine h3 w H3 (PY.post (post_val PY.conc ?_))
    have rp3 := rp.move k3.any fun _ z => z
    unfold WSh.ok
    cases ht : sh.told with
    | true =>
      rw [ht, if_pos rfl] at hw
      obtain ⟨q, rfl, hn, rd⟩ := hw
      rw [if_pos rfl]
      exact .tup (fun z => fre hn (PX.conc.fb z)) rd (.cons (.str _) (.cons rp3 .nil))
    | false =>
      rw [ht, if_neg Bool.false_ne_true] at hw
      rw [if_neg Bool.false_ne_true, hw]
      exact .str _
  | exc cc ρ1 =>
    rw [e1] at h
    simp only [toldR] at h
    cases hx : sh.cls.lookup cc with
    | none => rw [hx] at h; exact h.elim
    | some x =>
      rw [hx] at h
      intro H2 P2 Cc hC
      refine ⟨rfl, cc, x, hx, hC, fun w H3 k3 hw => ?_⟩
      have PX : PostX X.K B Z ρ ρ1 σ H H2 := ⟨k1.any.trans P2.keep, P2.sl, P2.conc⟩
      have PY : PostX X.K B Z ρ ρ1 σ H H3 := ⟨PX.keep.trans k3.any, PX.sl, PX.conc.grow k3⟩
      exact h w H3 (PY.post (post_val PY.conc (hw _ fun a z => PX.conc.fb z)))
end
end PL

set_option autoImplicit false
set_option linter.all false
set_option Elab.async false
set_option maxRecDepth 100000
set_option maxHeartbeats 4000000
/-! PL20: the check of expressions is sound: the induction. -/
namespace PL
open PySem PySem.Spec PyProof.Rows L2
variable [TabL]
section
variable {X : Cx} {Wx : WX} {T : Tab} {G : Ctx}
theorem bi_of (g : Good X Wx T G) {b : Bi} {f : Str} {xs : List Expr} {es : List Ex} {p pos : Pos} (h : biOk T b f xs = true) (r : Each X Wx G es (biArgs b xs)) : SE X Wx (.Call (.Name f p) xs [] pos) (fun ρ => bind (evR G es ρ) fun rs ρ1 => biR b rs ρ1) := by
  have plain : ∀ {b : Bi}, biArgs b xs = xs → (match biFn b with | some g => f == g && bltn T g && !xs.isEmpty && xs.all unstar | none => false) = true → Each X Wx G es (biArgs b xs) → SE X Wx (.Call (.Name f p) xs [] pos) (fun ρ => bind (evR G es ρ) fun rs ρ1 => biR b rs ρ1) := fun {b} ea h r => by
    rw [ea] at r
    cases e : biFn b with
    | none => rw [e] at h; cases h
    | some k =>
      rw [e] at h
      simp only [Bool.and_eq_true] at h
      obtain ⟨⟨⟨h1, h2⟩, h3⟩, h4⟩ := h
      have e1 := eq_of_beq h1
      subst e1
      obtain ⟨q1, q2⟩ := g.blt h2
      obtain ⟨n1, n2⟩ := bi_nm e
      cases xs with
      | nil => simp at h3
      | cons x xs =>
        rcases bi_fn g.ok e with ⟨id, c, bt⟩ | ⟨t, c, bt⟩
        · exact se_callB c q1 q2 bt (each_sa r h4) n1 n2 h4
        · exact se_callTy c q1 q2 bt (each_sa r h4) n1 n2 h4
  unfold biOk at h
  cases b with
  | isinst t =>
    try dsimp only at h
    split at h
    · rename_i x y py
      simp only [Bool.and_eq_true] at h
      obtain ⟨⟨⟨⟨h1, h2⟩, h3⟩, h4⟩, h5⟩ := h
      have e1 := eq_of_beq h1
      have e2 := eq_of_beq h3
      subst e1 e2
      obtain ⟨q1, q2⟩ := g.blt h2
      obtain ⟨q3, q4⟩ := g.blt h4
      have r : Each X Wx G es [x] := r
      cases r with
      | cons s r =>
        cases r
        rename_i e
        refine se_eq (se_isinst t q1 q2 q3 q4 s.1 h5) fun ρ => ?_
        rw [evR]
        have q : evR G [] = fun ρ => .ok [] ρ := by funext ρ; rw [evR]
        rw [q]
    · cases h
  | lenset =>
    try dsimp only at h
    split at h
    · simp only [Bool.and_eq_true] at h
      obtain ⟨⟨h1, h2⟩, h3⟩ := h
      have e1 := eq_of_beq h1
      subst e1
      obtain ⟨q1, q2⟩ := g.blt h2
      obtain ⟨p2, ys, pos2, rfl, hg, hm, hu, hl⟩ := call_of g h3
      match ys, hl, hu, r with
      | [a], _, hu, r => exact se_lenset g.ok q1 q2 hg hm (each_sa (show Each X Wx G es [a] from r) hu) (unstars hu).1
    · cases h
  | sortedset =>
    try dsimp only at h
    split at h
    · simp only [Bool.and_eq_true] at h
      obtain ⟨⟨h1, h2⟩, h3⟩ := h
      have e1 := eq_of_beq h1
      subst e1
      obtain ⟨q1, q2⟩ := g.blt h2
      obtain ⟨p2, ys, pos2, rfl, hg, hm, hu, hl⟩ := call_of g h3
      match ys, hl, hu, r with
      | [a], _, hu, r => exact se_sortedset g.ok q1 q2 hg hm (each_sa (show Each X Wx G es [a] from r) hu) (unstars hu).1
    · cases h
  | range =>
    try dsimp only at h
    split at h
    · simp only [Bool.and_eq_true, Bool.or_eq_true] at h
      obtain ⟨⟨h1, h2⟩, h3⟩ := h
      have e1 := eq_of_beq h1
      subst e1
      obtain ⟨q1, q2⟩ := g.blt h2
      have q : evR G [] = fun ρ => .ok [] ρ := by funext ρ; rw [evR]
      rcases h3 with h3 | h3
      · obtain ⟨p2, ys, pos2, rfl, hg, hm, hu, hl⟩ := call_of g h3
        match ys, hl, hu, r with
        | [a], _, hu, r =>
          have r : Each X Wx G es [a] := r
          cases r with
          | cons s r =>
            cases r
            refine se_eq (se_lrange1 g.ok q1 q2 hg hm s.1 (unstars hu).1) fun ρ => ?_
            rw [evR, q]
      · obtain ⟨p2, ys, pos2, rfl, hg, hm, hu, hl⟩ := call_of g h3
        match ys, hl, hu, r with
        | [a, c], _, hu, r =>
          have r : Each X Wx G es [a, c] := r
          cases r with
          | @cons e1 _ es1 _ s r =>
            cases r with
            | @cons e2 _ es2 _ s2 r =>
              cases r
              refine se_eq (se_lrange2 g.ok q1 q2 hg hm s.1 s2.1 (unstars hu).1 (unstars (unstars hu).2).1) fun ρ => ?_
              have q3 : evR G [e2] = fun ρ => bind (ev G e2 ρ) fun r ρ1 => bind (.ok [] ρ1) fun rs ρ2 => .ok (r :: rs) ρ2 := by funext ρ; rw [evR, q]
              rw [evR, q3]
    · cases h
  | ranget =>
    try dsimp only at h
    split at h
    · simp only [Bool.and_eq_true, Bool.or_eq_true] at h
      obtain ⟨⟨h1, h2⟩, h3⟩ := h
      have e1 := eq_of_beq h1
      subst e1
      obtain ⟨q1, q2⟩ := g.blt h2
      have q : evR G [] = fun ρ => .ok [] ρ := by funext ρ; rw [evR]
      rcases h3 with h3 | h3
      · obtain ⟨p2, ys, pos2, rfl, hg, hm, hu, hl⟩ := call_of g h3
        match ys, hl, hu, r with
        | [a], _, hu, r =>
          have r : Each X Wx G es [a] := r
          cases r with
          | cons s r =>
            cases r
            refine se_eq (se_trange1 g.ok q1 q2 hg hm s.1 (unstars hu).1) fun ρ => ?_
            rw [evR, q]
      · obtain ⟨p2, ys, pos2, rfl, hg, hm, hu, hl⟩ := call_of g h3
        match ys, hl, hu, r with
        | [a, c], _, hu, r =>
          have r : Each X Wx G es [a, c] := r
          cases r with
          | @cons e1 _ es1 _ s r =>
            cases r with
            | @cons e2 _ es2 _ s2 r =>
              cases r
              refine se_eq (se_trange2 g.ok q1 q2 hg hm s.1 s2.1 (unstars hu).1 (unstars (unstars hu).2).1) fun ρ => ?_
              have q3 : evR G [e2] = fun ρ => bind (ev G e2 ρ) fun r ρ1 => bind (.ok [] ρ1) fun rs ρ2 => .ok (r :: rs) ρ2 := by funext ρ; rw [evR, q]
              rw [evR, q3]
    · cases h
  | len => exact plain rfl h r
  | abs => exact plain rfl h r
  | int => exact plain rfl h r
  | sum => exact plain rfl h r
  | min => exact plain rfl h r
  | max => exact plain rfl h r
  | all => exact plain rfl h r
  | any => exact plain rfl h r
  | sorted => exact plain rfl h r
  | list => exact plain rfl h r
  | tuple => exact plain rfl h r
  | listzip => cases h
  | repr => cases h
theorem st_ife {c a b : Expr} {fa fb fc : PL.Env → Out Res} {pos : Pos} (hc : ST X Wx c (fun ρ => bind (fc ρ) truthR)) (ha : ST X Wx a (fun ρ => bind (fa ρ) truthR)) (hb : ST X Wx b (fun ρ => bind (fb ρ) truthR)) :
    ST X Wx (.IfExp c a b pos) (fun ρ => bind (bind (fc ρ) fun r ρ1 => bind (truthR r ρ1) fun t ρ2 => if t then fa ρ2 else fb ρ2) truthR) := by
  refine ⟨fun pins s σ H Q I ⟨B, Z, ρ, C, h⟩ => ?_⟩
  show wpAny _ _ (isTrue c X.env (eval c X.env) >>= fun t => if t = true then isTrue a X.env (eval a X.env) else isTrue b X.env (eval b X.env)) _ _ _
  have h : tOut (bind (bind (fc ρ) truthR) fun t ρ2 => if t then bind (fa ρ2) truthR else bind (fb ρ2) truthR) (fun b ρ' => ∀ H', PostX X.K B Z ρ ρ' σ H H' → Q b H') (Gx X.K Wx B Z ρ σ H) := by
    dsimp only at h
    rw [bind_bind] at h ⊢
    cases e : fc ρ with
    | ok r ρ1 =>
      rw [e] at h
      dsimp only [PL.bind] at h ⊢
      cases e2 : truthR r ρ1 with
      | ok t ρ2 =>
        rw [e2] at h
        cases t <;> exact h
      | exc c ρ2 => rw [e2] at h; exact h
      | stuck => rw [e2] at h; exact h
    | exc c ρ1 => rw [e] at h; exact h
    | stuck => rw [e] at h; exact h
  refine wpAny_bind (thn (hc.run pins s σ H (fun t H1 => tST X.K Wx (fun ρ2 => if t then bind (fa ρ2) truthR else bind (fb ρ2) truthR) σ H1 Q) I ?_) fun t s1 ⟨H1, I1, q1⟩ => ?_)
  · exact st_run (ft := fun ρ => bind (fc ρ) truthR) C h (fun _ _ z => z) fun t ρ1 H1 P1 h1 => ⟨B, Z, ρ1, P1.conc, tOut.mono h1 (fun b ρ' q H' p => q H' (P1.seq p)) fun c ρ' z => z.step P1⟩
  · cases t with
    | true => rw [if_pos rfl]; exact ha.run pins s1 σ H1 Q I1 q1
    | false => rw [if_neg Bool.false_ne_true]; exact hb.run pins s1 σ H1 Q I1 q1
theorem met_of (g : Good X Wx T G) {m : Me} {name : Str} (h : meName m = some name) : ∃ id, PySem.Slot "list" name id ∧ typeOf (.builtin id) = pure (.type "method_descriptor") ∧ MtR X id (rMt X.K m) := by
  cases m <;> first | (cases h; done) | skip
  · cases h; exact ⟨_, PySem.F.slot_list_append, PySem.F.type_list_append, mtm_append⟩
  · cases h; exact ⟨_, PySem.F.slot_list_extend, PySem.F.type_list_extend, mtm_extend⟩
  · cases h; exact ⟨_, PySem.F.slot_list_pop, PySem.F.type_list_pop, mtm_pop⟩
theorem so_of {lo : List Ex} {l : Option Expr} (r : Each X Wx G lo l.toList) : SO X Wx l (evO G lo) := by
  cases l with
  | none =>
    have r : Each X Wx G lo [] := r
    cases r
    have q : evO G [] = fun ρ => .ok none ρ := by funext ρ; rw [evO]
    rw [q]
    exact so_none
  | some x =>
    have r : Each X Wx G lo [x] := r
    cases r with
    | cons s r =>
      cases r
      rename_i e
      have q : evO G [e] = fun ρ => bind (ev G e ρ) intR := by funext ρ; rw [evO]
      rw [q]
      exact so_some s.1
end
mutual
theorem snd_E {G : Ctx} : ∀ (e : Ex) {T : Tab} {x : Expr}, okE T e x = true → ∀ {X : Cx} {Wx : WX}, Good X Wx T G → Snd X Wx G e x
  | .var i, T, x, h, X, Wx, g => by
    cases x <;> first | (simp [okE] at h; done) | skip
    rw [okE] at h
    simp only [Bool.and_eq_true] at h
    obtain ⟨⟨h1, h2⟩, h3⟩ := h
    obtain ⟨n1, n2, _⟩ := okN_ok h3
    refine mkSnd g.ok (se_eq (se_var (by rw [g.hN]; exact eq_of_beq h1) (by rw [g.hs]; exact vis_ok h2) n1 n2) fun ρ => ?_) rfl rfl
    rw [ev] <;> rfl
  | .con d, T, x, h, X, Wx, g => by
    cases x <;> first | (simp [okE] at h; done) | skip
    rename_i c j p
    rw [okE] at h
    refine mkSnd g.ok (se_eq (f := fun ρ => .ok (.val d) ρ) ?_ fun ρ => by rw [ev]) rfl rfl
    cases d <;> cases c <;> first | (simp [okC] at h; done) | skip
    · exact se_val pe_non fun _ _ => .non
    · have e := eq_of_beq (show (_ == _) = true from h); subst e; exact se_val pe_bl fun _ _ => .bl _
    · have e := eq_of_beq (show (_ == _) = true from h); subst e; exact se_val pe_int fun _ _ => .int _
    · have e := eq_of_beq (show (_ == _) = true from h); subst e; exact se_val pe_str fun _ _ => .str _
  | .gl z d, T, x, h, X, Wx, g => by
    cases x <;> first | (simp [okE] at h; done) | skip
    rename_i y p
    rw [okE] at h
    simp only [Bool.and_eq_true] at h
    obtain ⟨⟨⟨h1, h2⟩, h3⟩, h4⟩ := h
    have e1 := eq_of_beq h1
    subst e1
    obtain ⟨q, hq, h5⟩ := List.any_eq_true.mp h4
    rw [Bool.and_eq_true] at h5
    have e2 := eq_of_beq h5.1
    have e3 := sameD_eq h5.2
    obtain ⟨u, v, m1, m2, m3⟩ := g.gl y d (by rw [← e2, ← e3]; exact hq)
    exact mkSnd g.ok (se_eq (se_val (pe_glob (g.glob h2) m1 m2 (okN_ok h3).1) m3) fun ρ => by rw [ev]) rfl rfl
  | .bin op a b, T, x, h, X, Wx, g => by
    cases x <;> first | (simp [okE] at h; done) | skip
    rw [okE] at h
    simp only [Bool.and_eq_true] at h
    obtain ⟨⟨h1, h2⟩, h3⟩ := h
    have e1 := eq_of_beq h1
    subst e1
    exact mkSnd g.ok (se_eq (se_bin (op_bin g.ok _) (snd_E a h2 g).1 (snd_E b h3 g).1) fun ρ => by rw [ev]) rfl rfl
  | .neg a, T, x, h, X, Wx, g => by
    cases x <;> first | (simp [okE] at h; done) | skip
    rw [okE] at h
    simp only [Bool.and_eq_true] at h
    have e1 := eq_of_beq h.1
    subst e1
    exact mkSnd g.ok (se_eq (se_neg (snd_E a h.2 g).1) fun ρ => by rw [ev]) rfl rfl
  | .not a, T, x, h, X, Wx, g => by
    cases x <;> first | (simp [okE] at h; done) | skip
    rw [okE] at h
    simp only [Bool.and_eq_true] at h
    have e1 := eq_of_beq h.1
    subst e1
    have s := snd_E a h.2 g
    have q : ev G (.not a) = fun ρ => bind (ev G a ρ) fun r ρ1 => bind (truthR r ρ1) fun b ρ2 => .ok (.val (.bool (!b))) ρ2 := by funext ρ; rw [ev]
    refine ⟨?_, ?_, fun z => by cases z⟩
    · rw [q]; exact se_not g.ok s.1
    · rw [q]; exact st_not s.2.1
  | .band es, T, x, h, X, Wx, g => by
    cases x <;> first | (simp [okE] at h; done) | skip
    rename_i o xs p
    rw [okE] at h
    simp only [Bool.and_eq_true] at h
    obtain ⟨⟨h1, h2⟩, h3⟩ := h
    have e1 := eq_of_beq h1
    subst e1
    have r := snd_Es es h2 g
    have q : ev G (.band es) = evAnd G es := by funext ρ; rw [ev]
    cases r with
    | nil => simp at h3
    | cons s r =>
      obtain ⟨a1, a2⟩ := each_and (pos := p) (.cons s r)
      refine ⟨?_, ?_, fun z => by cases z⟩
      · rw [q]; exact a1
      · rw [q]; exact a2.st
  | .bor es, T, x, h, X, Wx, g => by
    cases x <;> first | (simp [okE] at h; done) | skip
    rename_i o xs p
    rw [okE] at h
    simp only [Bool.and_eq_true] at h
    obtain ⟨⟨h1, h2⟩, h3⟩ := h
    have e1 := eq_of_beq h1
    subst e1
    have r := snd_Es es h2 g
    have q : ev G (.bor es) = evOr G es := by funext ρ; rw [ev]
    cases r with
    | nil => simp at h3
    | cons s r =>
      obtain ⟨a1, a2⟩ := each_or (pos := p) (.cons s r)
      refine ⟨?_, ?_, fun z => by cases z⟩
      · rw [q]; exact a1
      · rw [q]; exact a2.st
  | .cmp a ops es, T, x, h, X, Wx, g => by
    cases x <;> first | (simp [okE] at h; done) | skip
    rename_i y os xs p
    rw [okE] at h
    simp only [Bool.and_eq_true] at h
    obtain ⟨⟨⟨⟨⟨h1, h2⟩, h3⟩, h4⟩, h5⟩, h6⟩ := h
    have e1 : os = ops := eq_of_beq h1
    subst e1
    have s := snd_E a h2 g
    have r := snd_Es es h3 g
    have c := each_ch g.ok r (eq_of_beq h5) (fun z => by rw [z] at h6; simp at h6)
    have hm : lastMarks os xs = false := by simpa using h4
    have q : ev G (.cmp a os es) = fun ρ => bind (ev G a ρ) fun ra ρ1 => bind (evCh G ra os es ρ1) fun b ρ2 => .ok (.val (.bool b)) ρ2 := by funext ρ; rw [ev]
    refine ⟨?_, ?_, fun z => by cases z⟩
    · rw [q]; exact se_cmp s.1 c hm
    · rw [q]; exact st_cmp s.1 c hm
  | .ife c a b, T, x, h, X, Wx, g => by
    cases x <;> first | (simp [okE] at h; done) | skip
    rw [okE] at h
    simp only [Bool.and_eq_true] at h
    obtain ⟨⟨h1, h2⟩, h3⟩ := h
    have sc := snd_E c h1 g
    have sa := snd_E a h2 g
    have sb := snd_E b h3 g
    have q : ev G (.ife c a b) = fun ρ => bind (ev G c ρ) fun r ρ1 => bind (truthR r ρ1) fun t ρ2 => if t then ev G a ρ2 else ev G b ρ2 := by funext ρ; rw [ev]
    refine ⟨?_, ?_, fun z => by cases z⟩
    · rw [q]; exact se_ife sc.2.1 sa.1 sb.1
    · rw [q]; exact st_ife sc.2.1 sa.2.1 sb.2.1
  | .tup es, T, x, h, X, Wx, g => by
    cases x <;> first | (simp [okE] at h; done) | skip
    rw [okE] at h
    simp only [Bool.and_eq_true] at h
    exact mkSnd g.ok (se_eq (se_tup (each_sc (snd_Es es h.1 g) h.2)) fun ρ => by rw [ev]) rfl rfl
  | .lst es, T, x, h, X, Wx, g => by
    cases x <;> first | (simp [okE] at h; done) | skip
    rw [okE] at h
    simp only [Bool.and_eq_true] at h
    exact mkSnd g.ok (se_eq (se_lst (each_sc (snd_Es es h.1 g) h.2)) fun ρ => by rw [ev]) rfl rfl
  | .dct ks vs, T, x, h, X, Wx, g => by
    cases x <;> first | (simp [okE] at h; done) | skip
    rename_i xs ys p
    rw [okE] at h
    simp only [Bool.and_eq_true] at h
    obtain ⟨⟨⟨⟨h1, h2⟩, h3⟩, h4⟩, h5⟩ := h
    have rk := snd_Es ks h4 g
    have rv := snd_Es vs h5 g
    have h2 := of_decide_eq_true h2
    have h3 := eq_of_beq h3
    match xs, ys, h1, h2, h3, rk, rv with
    | [], [], _, _, _, rk, rv =>
      cases rk
      cases rv
      refine mkSnd g.ok (se_eq se_dct0 fun ρ => ?_) rfl rfl
      rw [ev, evC]; rfl
    | [some k], [v], _, _, _, rk, rv =>
      cases rk with
      | cons sk tk =>
        cases tk
        cases rv with
        | cons sv tv =>
          cases tv
          refine mkSnd g.ok (se_eq (se_dct1 g.ok sk.1 sv.1) fun ρ => ?_) rfl rfl
          have one : ∀ a : Ex, evC G [a] = fun ρ => bind (ev G a ρ) fun r ρ1 => bind (PL.cold ρ1 r) fun d ρ2 => bind (.ok [] ρ2) fun ds ρ3 => .ok (d :: ds) ρ3 := fun a => by
            have z : evC G [] = fun ρ => .ok [] ρ := by funext ρ; rw [evC]
            funext ρ
            rw [evC, z]
          rw [ev, one, one]
          exact dct_ev _ _ ρ
    | [none], _, h1, _, _, _, _ => cases h1
    | _ :: _ :: _, _, _, h2, _, _, _ => simp at h2
    | [], _ :: _, _, _, h3, _, _ => cases h3
    | [some _], [], _, _, h3, _, _ => cases h3
    | [some _], _ :: _ :: _, _, _, h3, _, _ => simp at h3
  | .call f es, T, x, h, X, Wx, g => by
    cases x <;> first | (simp [okE] at h; done) | skip
    rename_i fn xs kw p
    cases fn <;> first | (simp [okE] at h; done) | skip
    cases kw <;> first | (simp [okE] at h; done) | skip
    rename_i y py
    rw [okE] at h
    · simp only [Bool.and_eq_true] at h
      obtain ⟨⟨⟨⟨⟨h1, h2⟩, h3⟩, h4⟩, h5⟩, h6⟩ := h
      have e1 := eq_of_beq h1
      subst e1
      have r := snd_Es es h4 g
      refine mkSnd g.ok ?_ rfl rfl
      cases hD : G.defs y with
      | none =>
        refine ⟨fun pins s σ H Q I ⟨B, Z, ρ, C, hh⟩ => ?_⟩
        rw [ev, hD] at hh
        exact hh.elim
      | some D =>
        cases xs with
        | nil => simp at h6
        | cons x xs =>
          obtain ⟨k, hr, hf⟩ := g.room
          refine se_eq (se_call (hf y D hD) hr g.tk (g.glob h2) (okN_ok h3).1 (each_sr r h5) h5) fun ρ => ?_
          rw [ev, hD]
  | .bi b es, T, x, h, X, Wx, g => by
    cases x <;> first | (simp [okE] at h; done) | skip
    rename_i fn xs kw p
    cases fn <;> first | (simp [okE] at h; done) | skip
    cases kw <;> first | (simp [okE] at h; done) | skip
    rename_i y py
    rw [okE] at h
    simp only [Bool.and_eq_true] at h
    exact mkSnd g.ok (se_eq (bi_of g h.1 (snd_Es es h.2 g)) fun ρ => by rw [ev]) rfl rfl
  | .met m o es, T, x, h, X, Wx, g => by
    cases x <;> first | (simp [okE] at h; done) | skip
    rename_i fn xs kw cp
    cases fn <;> first | (simp [okE] at h; done) | skip
    cases kw <;> first | (simp [okE] at h; done) | skip
    rename_i y name ap
    rw [okE] at h
    · simp only [Bool.and_eq_true] at h
      obtain ⟨⟨⟨⟨⟨⟨h2, h3⟩, h4⟩, h5⟩, h6⟩, h7⟩, h8⟩ := h
      have so := snd_E o h3 g
      have r := snd_Es es h4 g
      refine mkSnd g.ok ?_ rfl rfl
      unfold meOk at h2
      by_cases hu : isUpd m = true
      · rw [if_pos hu, Bool.and_eq_true] at h2
        have hn := eq_of_beq h2.1
        subst hn
        cases m <;> first | (cases hu; done) | skip
        cases r with
        | nil => exact absurd h2.2 (by decide)
        | cons s r => exact se_eq (se_upd g.ok so.1 (each_sc (.cons s r) h6) h5 h6 h7 h8) fun ρ => by rw [ev]
      have hu : isUpd m = false := by simpa using hu
      rw [hu, if_neg Bool.false_ne_true] at h2
      by_cases hx : isIdx m = true
      · rw [if_pos hx, Bool.and_eq_true] at h2
        have hn := eq_of_beq h2.1
        subst hn
        cases m <;> first | (cases hx; done) | skip
        cases r with
        | nil => exact absurd h2.2 (by decide)
        | cons s r => exact se_eq (se_index g.ok so.1 (each_sc (.cons s r) h6) h5 h6 h7 h8) fun ρ => by rw [ev]
      rw [if_neg hx, Bool.and_eq_true] at h2
      obtain ⟨h1, h2⟩ := h2
      obtain ⟨id, sl, ty, mt⟩ := met_of g (eq_of_beq h2)
      cases r with
      | nil =>
        refine se_eq (se_metM0 h1 hu sl ty mt so.1 h5 h8) fun ρ => ?_
        rw [ev]
        have q : evC G [] = fun ρ => .ok [] ρ := by funext ρ; rw [evC]
        rw [q]
      | cons s r => exact se_eq (se_metM h1 hu sl ty mt so.1 (each_sc (.cons s r) h6) h5 h6 h7 h8) fun ρ => by rw [ev]
  | .idx a i, T, x, h, X, Wx, g => by
    cases x <;> first | (simp [okE] at h; done) | skip
    rw [okE] at h
    simp only [Bool.and_eq_true] at h
    exact mkSnd g.ok (se_eq (se_idx g.ok (snd_E a h.1.1 g).1 (snd_E i h.1.2 g).1 h.2) fun ρ => by rw [ev]) rfl rfl
  | .sli a lo hi, T, x, h, X, Wx, g => by
    cases x <;> first | (simp [okE] at h; done) | skip
    rename_i y z p
    cases z <;> first | (simp [okE] at h; done) | skip
    rename_i l hh st p2
    cases st <;> first | (simp [okE] at h; done) | skip
    rw [okE] at h
    · simp only [Bool.and_eq_true] at h
      obtain ⟨⟨h1, h2⟩, h3⟩ := h
      exact mkSnd g.ok (se_eq (se_sli g.ok (snd_E a h1 g).1 (so_of (snd_Es lo h2 g)) (so_of (snd_Es hi h3 g))) fun ρ => by rw [ev]) rfl rfl
  | .slist _ _ _, T, x, h, X, Wx, g => by simp [okE] at h
  | .told f sh e, T, x, h, X, Wx, g => by
    cases x <;> first | (simp [okE] at h; done) | skip
    rename_i fn xs kw p3
    cases fn <;> first | (simp [okE] at h; done) | skip
    rename_i y p1
    rcases xs with _ | ⟨a, _ | _⟩ <;> first | (simp [okE] at h; done) | skip
    cases a <;> first | (simp [okE] at h; done) | skip
    rename_i params body scope p2
    cases kw <;> first | (simp [okE] at h; done) | skip
    · rw [okE] at h
      simp only [Bool.and_eq_true] at h
      obtain ⟨⟨⟨⟨⟨⟨⟨h1, h2⟩, h3⟩, h4⟩, h5⟩, h6⟩, h7⟩, h8⟩ := h
      have e1 := eq_of_beq h1
      subst e1
      obtain ⟨lm, wd⟩ := g.lm h2
      obtain ⟨⟨f2, sh2⟩, hw, e2⟩ := List.any_eq_true.mp h3
      rw [Bool.and_eq_true] at e2
      have e3 := eq_of_beq e2.1
      have e4 := sameW_eq e2.2
      simp only at e3 e4
      subst e3 e4
      obtain ⟨k, hr, hf⟩ := g.fn
      rw [h2] at hr
      have L := LamX.lamS_by h7
      refine mkSnd g.ok (se_eq (se_told (G := G) (e := e) lm (wd _ _ hw) hr (g.glob h4) (okN_ok h5).1 h6 (by rw [g.hs]; exact L) fun A outer s H E gg c' hr2 => (snd_E e h8 (g.inlam L hf A outer s H E gg c' hr2)).1) fun ρ => by rw [ev]) rfl rfl
  | .lc elt tg k es cond own, T, x, h, X, Wx, g => by
    cases x <;> first | (simp [okE] at h; done) | skip
    rename_i y gens sc p
    cases gens with
    | nil => simp [okE] at h
    | cons gg gs =>
      cases gs <;> first | (simp [okE] at h; done) | skip
      obtain ⟨t, it, ifs, n⟩ := gg
      rw [okE] at h
      simp only [Bool.and_eq_true] at h
      obtain ⟨⟨⟨⟨⟨⟨⟨⟨⟨h1, h2⟩, h3⟩, h4⟩, h5⟩, h6⟩, h7⟩, h8⟩, h9⟩, h10⟩ := h
      have e1 := eq_of_beq h1
      subst e1
      have ri := snd_Es es h4 g
      have si := si_of g h3 ri
      have hb : ∀ (s : Shared) (H : Hp) (C : Addr) (cl : List (Str × Addr)) (fp : List Addr), Good (X.blk s H sc (compEnvC sc cl C X.env) fp) WF (T.blk sc) G := fun s H C cl fp => g.inblk h2 s H C cl fp
      have hg : ∀ (s : Shared) (H : Hp) (C : Addr) (cl : List (Str × Addr)) (fp : List Addr), SG (X.blk s H sc (compEnvC sc cl C X.env) fp) t tg := fun s H C cl fp => snd_T (hb s H C cl fp) h5
      have ht : ∀ (s : Shared) (H : Hp) (C : Addr) (cl : List (Str × Addr)) (fp : List Addr), PTs (X.blk s H sc (compEnvC sc cl C X.env) fp) ifs (tST X.K WF (evIf G cond)) := fun s H C cl fp => tests_of (ok := (hb s H C cl fp).ok) (snd_Es cond h6 (hb s H C cl fp)) (by simpa using h7)
      have he : ∀ (s : Shared) (H : Hp) (C : Addr) (cl : List (Str × Addr)) (fp : List Addr), SE (X.blk s H sc (compEnvC sc cl C X.env) fp) WF y (ev G elt) := fun s H C cl fp => (snd_E elt h8 (hb s H C cl fp)).1
      have bo := blk_ok g h2
      have hc := g.ok.calm
      have hN : X.N.Nodup := by rw [g.hN]; exact g.nd
      have hs := fold_ok (env := X.env) h10
      have htg : tgIn ((ownP T.N own).map (·.2)) tg = true := by rw [ownP_snd]; exact h9
      have q : ev G (.lc elt tg k es cond own) = lcF (walkF k (evC G es)) tg (evIf G cond) (ev G elt) ((ownP T.N own).map (·.2)) := by
        funext ρ
        rw [ev, ownP_snd]
        unfold lcF walkF
        rw [bind_bind]
        congr 1
        funext ds ρ1
        cases itemsD k ds with
        | none => rfl
        | some items => rfl
      refine ⟨?_, ?_, fun _ i v py spos hi hl hsw => ?_⟩
      · rw [q]; exact se_lc hc hN si bo hg ht he hs htg
      · rw [q]; exact st_val g.ok (se_lc hc hN si bo hg ht he hs htg) (test_ok rfl)
      · rw [q]; exact asg_lc hc hN hi hl hsw si bo hg ht he hs htg
theorem snd_Es {G : Ctx} : ∀ (es : List Ex) {T : Tab} {xs : List Expr}, okEs T es xs = true → ∀ {X : Cx} {Wx : WX}, Good X Wx T G → Each X Wx G es xs
  | [], T, xs, h, X, Wx, g => by
    cases xs with
    | nil => exact .nil
    | cons x xs => simp [okEs] at h
  | e :: es, T, xs, h, X, Wx, g => by
    cases xs with
    | nil => simp [okEs] at h
    | cons x xs =>
      rw [okEs] at h
      simp only [Bool.and_eq_true] at h
      exact .cons (snd_E e h.1 g) (snd_Es es h.2 g)
end
end PL

set_option autoImplicit false
set_option linter.all false
set_option Elab.async false
set_option maxRecDepth 100000
set_option maxHeartbeats 4000000
/-! PL21: the check of statements, and its soundness. -/
namespace PL
open PySem PySem.Spec PyProof.Rows L2
variable [TabL]
def swapC (sc : Scope) (x : Str) (px : Pos) : Expr → Bool
  | .ListComp _ _ s p => sc.names.lookup x == some .local && px.line == p.line && !(s.names.any fun (n, k) => n == x && (k == .local || k == .cell))
  | _ => false
def raiseOk (T : Tab) (c : Str) (s : Stmt) : Bool := c == ("" : Str) || (match s with
  | .Raise (some (.Call (.Name x _) [] [] _)) none _ => x == c && T.ex.contains c && glo T.sc x && okN x
  | _ => false)
def isLC : Expr → Bool
  | .ListComp .. => true
  | _ => false
theorem swap_eq {sc : Scope} {x : Str} {px : Pos} {y : Expr} {l : Nat} {env : PySem.Env} (hs : env.scope = sc) (hk : sc.kind = .function) (hy : isLC y = true) : swapsWith y (some (.Name x px)) l env = pure (swapC sc x px y) := by
  subst hs
  cases y <;> first | (cases hy; done) | skip
  have hb : env.blockKind = .function := by unfold Env.blockKind; rw [hk]; rfl
  unfold swapsWith swapC
  simp only [hb, Expr.pos]
  rfl
theorem swap_sole {t y : Expr} {l : Nat} {env : PySem.Env} (h : (match t with | .Name .. => false | _ => true) = true) : swapsWithSole [t] y l env = pure false := by
  cases y <;> first | rfl | (cases t <;> first | rfl | (cases h; done))
def names2 (T : Tab) (is : List Nat) : List Expr → Bool
  | [.Name x px, .Name y py] => is == [(T.N.findIdx (· == x)), (T.N.findIdx (· == y))] && T.N[(T.N.findIdx (· == x))]? == some x && T.N[(T.N.findIdx (· == y))]? == some y && T.sc.names.lookup x == some .local && T.sc.names.lookup y == some .local && py.line == px.line && !(x == y)
  | [.Name x px, .Name y py, .Name z pz] => is == [(T.N.findIdx (· == x)), (T.N.findIdx (· == y)), (T.N.findIdx (· == z))] && T.N[(T.N.findIdx (· == x))]? == some x && T.N[(T.N.findIdx (· == y))]? == some y && T.N[(T.N.findIdx (· == z))]? == some z &&
      T.sc.names.lookup x == some .local && T.sc.names.lookup y == some .local && T.sc.names.lookup z == some .local && py.line == px.line && pz.line == px.line && !(x == y) && !(x == z) && !(y == z)
  | _ => false
def asgOk (T : Tab) (i : Nat) (e : Ex) (t y : Expr) : Bool := match t with
  | .Name x _ => T.N[i]? == some x && stor T.st x && okE T e y && (!isComp y || isLC y)
  | _ => false
def parOk (T : Tab) (is : List Nat) (hots : List Bool) (es : List Ex) (t y : Expr) : Bool := match t with
  | .Tuple ts _ _ => match y with
    | .Tuple xs _ _ => names2 T is ts && okEs T es xs && hots.length == es.length && ts.length == xs.length && xs.all unstar && !foldAll xs && !(xs.all (constantsAlone 8))
    | _ => false
  | _ => false
def unpOk (T : Tab) (tg : Tg) (e : Ex) (t y : Expr) : Bool := isTup t && okT T tg t && okE T e y && swapNone T.sc t y
def subOk (T : Tab) (i : Nat) (ix e : Ex) (t y : Expr) : Bool := match t with
  | .Subscript o z _ => match o with
    | .Name x _ => T.N[i]? == some x && vis T.sc x && okN x && okE T ix z && okE T e y && plainIx z
    | _ => false
  | _ => false
mutual
def okS (T : Tab) : St → Stmt → Bool
  | .asg i _ e, s => match s with
    | .Assign ts y _ => match ts with
      | [t] => asgOk T i e t y
      | _ => false
    | _ => false
  | .par is hots es, s => match s with
    | .Assign ts y _ => match ts with
      | [t] => parOk T is hots es t y
      | _ => false
    | _ => false
  | .unp tg e, s => match s with
    | .Assign ts y _ => match ts with
      | [t] => unpOk T tg e t y
      | _ => false
    | _ => false
  | .sub i ix e, s => match s with
    | .Assign ts y _ => match ts with
      | [t] => subOk T i ix e t y
      | _ => false
    | _ => false
  | .ex e, s => match s with
    | .Expr y _ => okE T e y && !isComp y
    | _ => false
  | .ret e, s => match s with
    | .Return (some y) _ => okE T e y
    | _ => false
  | .retN, s => match s with
    | .Return none _ => true
    | _ => false
  | .ite c a b, s => match s with
    | .If x ys zs _ => okE T c x && okSs T a ys && okSs T b zs
    | _ => false
  | .wh c b, s => match s with
    | .While x ys zs _ => okE T c x && okSs T b ys && zs.isEmpty
    | _ => false
  | .fr tg k es b, s => match s with
    | .For t it ys zs _ => iterOk T k t it && okEs T es (iterArgs k it) && okT T tg t && okSs T b ys && zs.isEmpty && notSet it
    | _ => false
  | .raise c, s => raiseOk T c s
  | .pass, s => match s with
    | .Pass _ => true
    | _ => false
def okSs (T : Tab) : List St → List Stmt → Bool
  | [], ss => ss.isEmpty
  | s :: r, ss => match ss with
    | x :: xs => okS T s x && okSs T r xs
    | [] => false
end
structure GoodS (X : Cx) (Wx : WX) (T : Tab) (G : Ctx) : Prop where
  g : Good X Wx T G
  pass : PassesOwn (model X.prog X.w) X.A X.env X.xe
section
variable {X : Cx} {Wx : WX} {T : Tab} {G : Ctx}
theorem ss_eq {st : Stmt} {f g : PL.Env → SOut} (h : SS X Wx st f) (e : ∀ ρ, g ρ = f ρ) : SS X Wx st g := by
  rw [show g = f from funext e]; exact h
theorem snd_asg (g : Good X Wx T G) {i : Nat} {hot : Bool} {e : Ex} {t y : Expr} {pos : Pos} (h : asgOk T i e t y = true) : SS X Wx (.Assign [t] y pos) (fun ρ => sb (ev G e ρ) fun r ρ1 => sb (slotOf hot r ρ1) fun s ρ2 => .nx (ρ2.set i s)) := by
  unfold asgOk at h
  cases t <;> first | (cases h; done) | skip
  rename_i x px
  simp only [Bool.and_eq_true] at h
  obtain ⟨⟨⟨h1, h2⟩, h3⟩, h4⟩ := h
  have s := snd_E e h3 g
  obtain ⟨s1, s2⟩ := g.st _ h2
  have hi : X.N[i]? = some x := by rw [g.hN]; exact eq_of_beq h1
  have hN : X.N.Nodup := by rw [g.hN]; exact g.nd
  refine ss_asgT ?_
  rw [Bool.or_eq_true, Bool.not_eq_true'] at h4
  by_cases hc : isComp y = false
  · exact asg_set hN hi s1 s2 s.1 (no_swap hc)
  · have hl : isLC y = true := h4.resolve_left hc
    have sw := swap_eq (x := x) (px := px) (l := pos.line) g.hs g.kind hl
    cases e2 : swapC T.sc x px y with
    | false => rw [e2] at sw; exact asg_set hN hi s1 s2 s.1 sw
    | true =>
      rw [e2] at sw
      have loc : X.env.scope.names.lookup x = some .local := by
        rw [g.hs]
        unfold swapC at e2
        split at e2
        · simp only [Bool.and_eq_true] at e2
          exact eq_of_beq e2.1.1
        · cases e2
      exact s.2.2 (by simpa using hc) i x px pos hi loc sw
theorem snd_par (g : Good X Wx T G) {is : List Nat} {hots : List Bool} {es : List Ex} {t y : Expr} {pos : Pos} (h : parOk T is hots es t y = true) : SS X Wx (.Assign [t] y pos) (fun ρ => sb (evP G hots es ρ) fun ss ρ1 => match setAll ρ1 is ss with | some ρ2 => .nx ρ2 | none => .stuck) := by
  unfold parOk at h
  cases t <;> first | (cases h; done) | skip
  cases y <;> first | (cases h; done) | skip
  rename_i ts kt pt xs k2 pt2
  simp only [Bool.and_eq_true] at h
  obtain ⟨⟨⟨⟨⟨⟨h1, h2⟩, h3⟩, h4⟩, h5⟩, h6⟩, h7⟩ := h
  have sp := each_sp (hs := hots) (snd_Es es h2 g) h5 (eq_of_beq h3)
  have hN : X.N.Nodup := by rw [g.hN]; exact g.nd
  have hk : X.env.scope.kind = .function := by rw [g.hs]; exact g.kind
  have hf : foldAll xs = false := by simpa using h6
  have hca : xs.all (constantsAlone 8) = false := by simpa using h7
  have hl : ts.length = xs.length := eq_of_beq h4
  unfold names2 at h1
  split at h1
  · simp only [Bool.and_eq_true] at h1
    obtain ⟨⟨⟨⟨⟨⟨a1, a2⟩, a3⟩, a4⟩, a5⟩, a6⟩, a7⟩ := h1
    have e := eq_of_beq a1
    subst e
    match xs, hl, h5, hf, hca, sp with
    | [a, b], _, h5, hf, hca, sp =>
      exact ss_par2 g.ok.calm hk hN (by rw [g.hN]; exact eq_of_beq a2) (by rw [g.hN]; exact eq_of_beq a3) (by rw [g.hs]; exact eq_of_beq a4) (by rw [g.hs]; exact eq_of_beq a5) a6 (by simpa using a7) h5 hf hca sp
  · simp only [Bool.and_eq_true] at h1
    obtain ⟨⟨⟨⟨⟨⟨⟨⟨⟨⟨⟨a1, a2⟩, a3⟩, a4⟩, a5⟩, a6⟩, a7⟩, a8⟩, a9⟩, b1⟩, b2⟩, b3⟩ := h1
    have e := eq_of_beq a1
    subst e
    match xs, hl, h5, hf, hca, sp with
    | [a, b, c], _, h5, hf, hca, sp =>
      exact ss_par3 g.ok.calm hk hN (by rw [g.hN]; exact eq_of_beq a2) (by rw [g.hN]; exact eq_of_beq a3) (by rw [g.hN]; exact eq_of_beq a4) (by rw [g.hs]; exact eq_of_beq a5) (by rw [g.hs]; exact eq_of_beq a6) (by rw [g.hs]; exact eq_of_beq a7) a8 a9
        (by simpa using b1) (by simpa using b2) (by simpa using b3) h5 hf hca sp
  · cases h1
theorem snd_unp (g : Good X Wx T G) {tg : Tg} {e : Ex} {t y : Expr} {pos : Pos} (h : unpOk T tg e t y = true) : SS X Wx (.Assign [t] y pos) (fun ρ => sb (ev G e ρ) fun r ρ1 => sb (PL.cold ρ1 r) fun d ρ2 => match asgT tg d ρ2 with | some ρ3 => .nx ρ3 | none => .stuck) := by
  unfold unpOk at h
  simp only [Bool.and_eq_true] at h
  obtain ⟨⟨⟨h1, h2⟩, h3⟩, h4⟩ := h
  have hk : X.env.scope.kind = .function := by rw [g.hs]; exact g.kind
  obtain ⟨_, _, _, rfl⟩ := is_tup h1
  exact ss_unp (snd_E e h3 g).1 (snd_T g h2) (swap_sole rfl) (swap_none hk (by rw [g.hs]; exact h4)) rfl
theorem snd_sub (g : Good X Wx T G) {i : Nat} {ix e : Ex} {t y : Expr} {pos : Pos} (h : subOk T i ix e t y = true) : SS X Wx (.Assign [t] y pos) (fun ρ => sb (ev G e ρ) fun r ρ1 => sb (PL.cold ρ1 r) fun v ρ2 => if isHot ρ2 i then sb (ev G ix ρ2) fun rk ρ3 => sb (PL.cold ρ3 rk) fun k ρ4 => match subAt i k v ρ4 with
      | some ρ5 => .nx ρ5
      | none => .stuck
    else .stuck) := by
  unfold subOk at h
  cases t <;> first | (cases h; done) | skip
  rename_i o z p
  cases o <;> first | (cases h; done) | skip
  simp only [Bool.and_eq_true] at h
  obtain ⟨⟨⟨⟨⟨h1, h2⟩, h3⟩, h4⟩, h5⟩, h6⟩ := h
  obtain ⟨n1, n2, _⟩ := okN_ok h3
  exact ss_sub g.ok (by rw [g.hN]; exact eq_of_beq h1) (by rw [g.hs]; exact vis_ok h2) n1 n2 (snd_E e h5 g).1 (snd_E ix h4 g).1 (swap_sole rfl) h6
theorem ss_raise {c : Str} {e : Expr} {pos : Pos} {Cc : Addr} (ok : XOk X) (tk : Takes X (LW X.mg Wx)) (hC : X.mg c = some (.ref Cc)) (h : PMk X e (fun σ H Q => Q (.ref Cc) none H)) : SS X Wx (.Raise (some e) none pos) (fun ρ => .exc c ρ) :=
  ps_mono (ps_raise ok.calm tk h) fun D σ H ⟨B, Z, ρ, C, g⟩ => ⟨rfl, c, Cc, rfl, hC, g σ H (PostS.refl C)⟩
theorem ss_stuck {st : Stmt} : SS X Wx st (fun _ => .stuck) := ⟨fun _ _ _ _ _ _ ⟨_, _, _, _, h⟩ => h.elim⟩
theorem snd_for (g : GoodS X Wx T G) {N : Nat} {tg : Tg} {k : IK} {es : List Ex} {b : List St} {t it : Expr} {ys : List Stmt} {pos : Pos} (h1 : iterOk T k t it = true) (h2 : okEs T es (iterArgs k it) = true) (h3 : okT T tg t = true) (hb : SSs X Wx ys (execs G N b)) (h5 : notSet it = true) :
    SS X Wx (.For t it ys [] pos) (exec G N (.fr tg k es b)) := by
  refine ss_eq (ss_for g.pass g.g.ok.calm (si_of g.g h1 (snd_Es es h2 g.g)) (snd_T g.g h3) hb (fold_ok h5)) fun ρ => ?_
  rw [exec]
  unfold walkF
  cases evC G es ρ with
  | ok ds ρ1 =>
    show (match itemsD k ds with | some items => forL tg (execs G N b) items ρ1 | none => .stuck) = sb (match itemsD k ds with | some items => .ok items ρ1 | none => .stuck) fun items ρ1 => forL tg (execs G N b) items ρ1
    cases itemsD k ds <;> rfl
  | exc c ρ1 => rfl
  | stuck => rfl
mutual
theorem snd_S (N : Nat) (g : GoodS X Wx T G) : ∀ (s : St) {st : Stmt}, okS T s st = true → SS X Wx st (exec G N s)
  | .asg i hot e, st, h => by
    cases st <;> first | (simp [okS] at h; done) | skip
    rename_i ts y pos
    rcases ts with _ | ⟨t, _ | _⟩ <;> first | (simp [okS] at h; done) | skip
    rw [okS] at h
    exact ss_eq (snd_asg g.g h) fun ρ => by rw [exec] <;> rfl
  | .par is hots es, st, h => by
    cases st <;> first | (simp [okS] at h; done) | skip
    rename_i ts y pos
    rcases ts with _ | ⟨t, _ | _⟩ <;> first | (simp [okS] at h; done) | skip
    rw [okS] at h
    exact ss_eq (snd_par g.g h) fun ρ => by rw [exec] <;> rfl
  | .unp tg e, st, h => by
    cases st <;> first | (simp [okS] at h; done) | skip
    rename_i ts y pos
    rcases ts with _ | ⟨t, _ | _⟩ <;> first | (simp [okS] at h; done) | skip
    rw [okS] at h
    exact ss_eq (snd_unp g.g h) fun ρ => by rw [exec] <;> rfl
  | .sub i ix e, st, h => by
    cases st <;> first | (simp [okS] at h; done) | skip
    rename_i ts y pos
    rcases ts with _ | ⟨t, _ | _⟩ <;> first | (simp [okS] at h; done) | skip
    rw [okS] at h
    exact ss_eq (snd_sub g.g h) fun ρ => by rw [exec] <;> rfl
  | .ex e, st, h => by
    cases st <;> first | (simp [okS] at h; done) | skip
    rw [okS] at h
    simp only [Bool.and_eq_true] at h
    exact ss_eq (ss_expr (snd_E e h.1 g.g).1 (by simpa using h.2)) fun ρ => by rw [exec] <;> rfl
  | .ret e, st, h => by
    cases st <;> first | (simp [okS] at h; done) | skip
    rename_i v pos
    cases v <;> first | (simp [okS] at h; done) | skip
    rw [okS] at h
    exact ss_eq (ss_ret (snd_E e h g.g).1) fun ρ => by rw [exec] <;> rfl
  | .retN, st, h => by
    cases st <;> first | (simp [okS] at h; done) | skip
    rename_i v pos
    cases v <;> first | (simp [okS] at h; done) | skip
    exact ss_eq ss_retN fun ρ => by rw [exec] <;> rfl
  | .ite c a b, st, h => by
    cases st <;> first | (simp [okS] at h; done) | skip
    rw [okS] at h
    simp only [Bool.and_eq_true] at h
    exact ss_eq (ss_if (snd_E c h.1.1 g.g).2.1 (snd_Ss N g a h.1.2) (snd_Ss N g b h.2)) fun ρ => by rw [exec] <;> rfl
  | .wh c b, st, h => by
    cases st <;> first | (simp [okS] at h; done) | skip
    rename_i x ys zs pos
    cases zs <;> first | (simp [okS] at h; done) | skip
    rw [okS] at h
    simp only [Bool.and_eq_true] at h
    exact ss_eq (ss_while g.pass (snd_E c h.1.1 g.g).2.1 (snd_Ss N g b h.1.2)) fun ρ => by rw [exec] <;> rfl
  | .fr tg k es b, st, h => by
    cases st <;> first | (simp [okS] at h; done) | skip
    rename_i t it ys zs pos
    cases zs <;> first | (simp [okS] at h; done) | skip
    rw [okS] at h
    simp only [Bool.and_eq_true] at h
    exact snd_for g h.1.1.1.1.1 h.1.1.1.1.2 h.1.1.1.2 (snd_Ss N g b h.1.1.2) h.2
  | .raise c, st, h => by
    rw [okS] at h
    unfold raiseOk at h
    by_cases hc : (c == ("" : Str)) = true
    · exact ss_eq ss_stuck fun ρ => by rw [exec, if_pos hc]
    · rw [Bool.or_eq_true] at h
      have h := h.resolve_left hc
      split at h
      · rename_i x p1 p2 p3 hh
        simp only [Bool.and_eq_true] at h
        obtain ⟨⟨⟨h1, h2⟩, h3⟩, h4⟩ := h
        have e := eq_of_beq h1
        subst e
        have hm : x ∈ T.ex := by simpa using h2
        obtain ⟨Cc, hC, hE⟩ := g.g.ex x hm
        obtain ⟨ho, hs, hr1⟩ := g.g.opq fun z => by rw [z] at hm; cases hm
        refine ss_eq (ss_raise g.g.ok g.g.tk hC (pmk_err hE ho hs hr1 (g.g.glob h3) hC (okN_ok h4).1)) fun ρ => by rw [exec, if_neg hc]
      · cases h
  | .pass, st, h => by
    cases st <;> first | (simp [okS] at h; done) | skip
    exact ss_eq ss_pass fun ρ => by rw [exec] <;> rfl
theorem snd_Ss (N : Nat) (g : GoodS X Wx T G) : ∀ (s : List St) {st : List Stmt}, okSs T s st = true → SSs X Wx st (execs G N s)
  | [], st, h => by
    cases st with
    | nil =>
      have q : execs G N [] = fun ρ => .nx ρ := by funext ρ; rw [execs]
      rw [q]
      exact sss_nil
    | cons x xs => simp [okSs] at h
  | s :: ss, st, h => by
    cases st with
    | nil => simp [okSs] at h
    | cons x xs =>
      rw [okSs] at h
      simp only [Bool.and_eq_true] at h
      have q : execs G N (s :: ss) = fun ρ => match exec G N s ρ with | .nx ρ1 => execs G N ss ρ1 | r => r := by funext ρ; rw [execs] <;> rfl
      rw [q]
      exact sss_cons (snd_S N g s h.1) (snd_Ss N g ss h.2)
end
end
end PL

set_option autoImplicit false
set_option linter.all false
set_option Elab.async false
set_option maxRecDepth 100000
set_option maxHeartbeats 2000000
/-! PL22: defs keep the evaluator's promise, by the fuel. -/
namespace PL
open PySem PySem.Spec PyProof.Rows L2
variable [TabL]
section
variable {K : PySem.W.Frag} {Y : Addr → Prop} {H : Hp} {ios : List Nat}
theorem args_len : ∀ {j : Nat} {vs : List V} {ds : List PyData}, Args K Y H ios j vs ds → vs.length = ds.length
  | _, [], [], _ => rfl
  | j, v :: vs, d :: ds, h => by rw [List.length_cons, List.length_cons, args_len h.2]
  | _, [], _ :: _, h => h.elim
  | _, _ :: _, [], h => h.elim
theorem args_at : ∀ {j i : Nat} {vs : List V} {ds : List PyData} {d : PyData}, Args K Y H ios j vs ds → ds[i]? = some d → ∃ v, vs[i]? = some v ∧ (if ios.contains (j + i) then ∃ a, v = .ref a ∧ Y a ∧ Own K Y H a d else Rp K Y H v d)
  | j, 0, v :: vs, d :: ds, _, h, e => by
    cases e
    exact ⟨v, rfl, h.1⟩
  | j, i + 1, v :: vs, d :: ds, d', h, e => by
    obtain ⟨w, e1, r⟩ := args_at (i := i) h.2 (by simpa using e)
    exact ⟨w, by simpa using e1, by rw [show j + (i + 1) = j + 1 + i by omega]; exact r⟩
  | _, _, [], [], _, _, e => by simp at e
  | _, _, [], _ :: _, _, h, _ => h.elim
  | _, _, _ :: _, [], _, h, _ => h.elim
theorem ioA_at {a : Addr} : ∀ {j i : Nat} {vs : List V}, vs[i]? = some (.ref a) → ios.contains (j + i) = true → a ∈ ioA ios j vs
  | j, 0, v :: vs, e, h => by
    cases e
    rw [ioA, if_pos (show ios.contains j = true from h)]
    exact List.mem_append_left _ (by simp [refs])
  | j, i + 1, v :: vs, e, h => by
    have ih := ioA_at (j := j + 1) (i := i) (vs := vs) (by simpa using e) (by rw [show j + 1 + i = j + (i + 1) by omega]; exact h)
    rw [ioA]
    split
    · exact List.mem_append_right _ ih
    · exact ih
  | _, _, [], e, _ => by simp at e
theorem ioA_inj {a : Addr} : ∀ {j i k : Nat} {vs : List V}, (ioA ios j vs).Nodup → vs[i]? = some (.ref a) → vs[k]? = some (.ref a) → ios.contains (j + i) = true → ios.contains (j + k) = true → i = k
  | _, _, _, [], _, e, _, _, _ => by simp at e
  | j, 0, 0, v :: vs, n, e1, e2, h1, h2 => rfl
  | j, 0, k + 1, v :: vs, n, e1, e2, h1, h2 => by
    cases e1
    rw [ioA, if_pos (show ios.contains j = true from h1), refs, List.singleton_append, List.nodup_cons] at n
    exact absurd (ioA_at (j := j + 1) (i := k) (by simpa using e2) (by rw [show j + 1 + k = j + (k + 1) by omega]; exact h2)) n.1
  | j, i + 1, 0, v :: vs, n, e1, e2, h1, h2 => by
    cases e2
    rw [ioA, if_pos (show ios.contains j = true from h2), refs, List.singleton_append, List.nodup_cons] at n
    exact absurd (ioA_at (j := j + 1) (i := i) (by simpa using e1) (by rw [show j + 1 + i = j + (i + 1) by omega]; exact h1)) n.1
  | j, i + 1, k + 1, v :: vs, n, e1, e2, h1, h2 => by
    have n2 : (ioA ios (j + 1) vs).Nodup := by
      rw [ioA] at n
      split at n
      · exact (List.nodup_append.mp n).2.1
      · exact n
    have q := ioA_inj (j := j + 1) (i := i) (k := k) n2 (by simpa using e1) (by simpa using e2) (by rw [show j + 1 + i = j + (i + 1) by omega]; exact h1) (by rw [show j + 1 + k = j + (k + 1) by omega]; exact h2)
    rw [q]
theorem start_at {names : List Str} {vs : List V} {i : Nat} {v : V} (h : vs[i]? = some v) : (L2.start names vs)[i]? = some (some v) := by
  unfold L2.start
  rw [List.getElem?_append_left (by rw [List.length_map]; exact get_len h), List.getElem?_map, h]
  rfl
theorem entry_get {D : Def} {ds : List PyData} {i : Nat} {s : Slot} (h : (entry D ds)[i]? = some s) : s = (match ds[i]? with | some d => if D.ios.contains i then .h true d else .c d | none => .no) := by
  unfold entry at h
  rw [List.getElem?_map] at h
  obtain ⟨k, hk, e⟩ := Option.map_eq_some_iff.mp h
  obtain ⟨_, rfl⟩ := List.getElem?_eq_some_iff.mp hk
  rw [List.getElem_range] at e
  exact e.symm
theorem entry_c {D : Def} {ds : List PyData} {i : Nat} {d : PyData} (h : (entry D ds)[i]? = some (.c d)) : ds[i]? = some d ∧ D.ios.contains i = false := by
  have e := entry_get h
  cases q : ds[i]? with
  | none => rw [q] at e; cases e
  | some x =>
    rw [q] at e
    dsimp only at e
    split at e
    · cases e
    · cases e; exact ⟨rfl, Bool.eq_false_iff.mpr ‹_›⟩
theorem entry_h {D : Def} {ds : List PyData} {i : Nat} {io : Bool} {d : PyData} (h : (entry D ds)[i]? = some (.h io d)) : ds[i]? = some d ∧ D.ios.contains i = true ∧ io = true := by
  have e := entry_get h
  cases q : ds[i]? with
  | none => rw [q] at e; cases e
  | some x =>
    rw [q] at e
    dsimp only at e
    split at e
    · cases e; exact ⟨rfl, ‹_›, rfl⟩
    · cases e
theorem entry_conc {D : Def} {names : List Str} {vs : List V} {ds : List PyData} (t : Trk Y H) (tb : LamX.Tabs TabL.T H) (ha : Args K Y H D.ios 0 vs ds) (n : (ioA D.ios 0 vs).Nodup) (hl : names.length = D.ns) :
    Conc K (fun a => Thr H a) (fun a => Y a ∧ a ∉ ioA D.ios 0 vs) (entry D ds) (L2.start names vs) H ∧ ∀ a, HotAt (entry D ds) (L2.start names vs) a → a ∈ ioA D.ios 0 vs ∧ Y a := by
  have at_ : ∀ {i : Nat} {d : PyData}, ds[i]? = some d → ∃ v, vs[i]? = some v ∧ (if D.ios.contains i then ∃ a, v = .ref a ∧ Y a ∧ Own K Y H a d else Rp K Y H v d) := fun {i d} e => by
    obtain ⟨v, e1, r⟩ := args_at ha e
    rw [Nat.zero_add] at r
    exact ⟨v, e1, r⟩
  have hot : ∀ a, HotAt (entry D ds) (L2.start names vs) a → a ∈ ioA D.ios 0 vs ∧ Y a := fun a ⟨i, io, d, e1, e2⟩ => by
    obtain ⟨h1, h2, _⟩ := entry_h e1
    obtain ⟨v, e3, r⟩ := at_ h1
    rw [if_pos h2] at r
    obtain ⟨b, rfl, hY, _⟩ := r
    rw [start_at e3] at e2
    cases e2
    exact ⟨ioA_at (j := 0) e3 (by rw [Nat.zero_add]; exact h2), hY⟩
  have fb : ∀ a, Fb (fun a => Y a ∧ a ∉ ioA D.ios 0 vs) (entry D ds) (L2.start names vs) a → Y a := fun a z => z.elim (fun z => z.1) fun z => (hot a z).2
  refine ⟨⟨fun i d e => ?_, fun i io d e => ?_, fun i j io1 io2 d1 d2 a h1 h2 s1 s2 => ?_, fun a z => t a z.1, fun a z => z, ?_, tb⟩, hot⟩
  · obtain ⟨h1, h2⟩ := entry_c e
    obtain ⟨v, e3, r⟩ := at_ h1
    rw [if_neg (by rw [h2]; exact Bool.false_ne_true)] at r
    exact ⟨v, start_at e3, r.less fb⟩
  · obtain ⟨h1, h2, h3⟩ := entry_h e
    obtain ⟨v, e3, r⟩ := at_ h1
    rw [if_pos h2] at r
    obtain ⟨b, rfl, hY, o⟩ := r
    exact ⟨b, start_at e3, fun z => z.2 (ioA_at (j := 0) e3 (by rw [Nat.zero_add]; exact h2)), (fun z => by rw [h3] at z; cases z), o.move Keeps.refl fb fun u e _ => e⟩
  · obtain ⟨a1, a2, _⟩ := entry_h h1
    obtain ⟨b1, b2, _⟩ := entry_h h2
    obtain ⟨v, e3, r⟩ := at_ a1
    obtain ⟨w, e4, r2⟩ := at_ b1
    rw [start_at e3] at s1
    rw [start_at e4] at s2
    cases s1
    cases s2
    exact ioA_inj (j := 0) n e3 e4 (by rw [Nat.zero_add]; exact a2) (by rw [Nat.zero_add]; exact b2)
  · unfold entry L2.start
    rw [List.length_map, List.length_range, List.length_append, List.length_map, List.length_replicate]
    omega
theorem outs_hot {ρ : PL.Env} : ∀ {is : List Nat} {os : List PyData}, outsOf ρ is = some os → ∀ i ∈ is, ∃ d, ρ[i]? = some (Slot.h true d)
  | [], _, _, i, h => by cases h
  | k :: ks, os, e, i, h => by
    rw [outsOf] at e
    cases e1 : gets ρ k with
    | h io d =>
      cases io with
      | false => rw [e1] at e; simp at e
      | true =>
        cases e2 : outsOf ρ ks with
        | none => rw [e1, e2] at e; cases e
        | some r =>
          rcases List.mem_cons.mp h with rfl | h
          · exact ⟨d, gets_some e1 (by intro z; cases z)⟩
          · exact outs_hot e2 i h
    | _ => rw [e1] at e; simp at e
theorem outs_r {ρ : PL.Env} {Y' : Addr → Prop} {H' : Hp} : ∀ {vs : List V} {j : Nat} {os : List PyData}, outsOf ρ ((List.range' j vs.length).filter ios.contains) = some os →
    (∀ (i : Nat) (d : PyData), ios.contains (j + i) = true → ρ[j + i]? = some (Slot.h true d) → ∃ a, vs[i]? = some (.ref a) ∧ Own K Y' H' a d) → OutsR K Y' H' ios j vs os
  | [], j, os, e, _ => by
    simp [outsOf] at e
    unfold OutsR
    exact e
  | v :: vs, j, os, e, f => by
    rw [List.length_cons, List.range'_succ, List.filter_cons] at e
    have f' : ∀ (i : Nat) (d : PyData), ios.contains (j + 1 + i) = true → ρ[j + 1 + i]? = some (Slot.h true d) → ∃ a, vs[i]? = some (.ref a) ∧ Own K Y' H' a d := fun i d h1 h2 => by
      obtain ⟨a, e1, o⟩ := f (i + 1) d (by rw [show j + (i + 1) = j + 1 + i by omega]; exact h1) (by rw [show j + (i + 1) = j + 1 + i by omega]; exact h2)
      exact ⟨a, by simpa using e1, o⟩
    unfold OutsR
    by_cases hc : ios.contains j = true
    · rw [if_pos hc] at e ⊢
      rw [outsOf] at e
      cases e1 : gets ρ j with
      | h io d =>
        cases io with
        | false => rw [e1] at e; simp at e
        | true =>
          cases e2 : outsOf ρ ((List.range' (j + 1) vs.length).filter ios.contains) with
          | none => rw [e1, e2] at e; cases e
          | some r =>
            rw [e1, e2] at e
            cases e
            obtain ⟨a, ea, o⟩ := f 0 d hc (gets_some e1 (by intro z; cases z))
            cases ea
            exact ⟨d, r, a, rfl, rfl, o, outs_r e2 f'⟩
      | _ => rw [e1] at e; simp at e
    · rw [if_neg hc] at e ⊢
      exact outs_r e f'
end
/-- what must be known of the module, and of each def -/
structure Code (P : Program) (K : PySem.W.Frag) (mg : Str → Option Value) (bi : List Str) (gl : List (Str × PyData)) (exs : List Str) (wds : List (Str × WSh)) (defs : Str → Option Def) : Prop where
  nbi : ∀ x ∈ bi, mg x = none
  ngl : ∀ x d, (x, d) ∈ gl → ∃ u v, mg x = some u ∧ RelV v u ∧ ∀ Y H, Rp K Y H v d
  fn : ∀ f D, defs f = some D → ∃ (names ps : List Str) (params : Arguments) (body : List Stmt) (scope : Scope) (fa : Addr) (fd : FuncData), FunD K f f params body scope [] [] fa fd ∧ FnScope names ps scope ∧ okSs ⟨names, scope, scope, bi, gl, exs, wds, lamDefs.contains f⟩ D.body body = true ∧
    ps.length = D.np ∧ names.length = D.ns ∧ D.ios = (List.range' 0 D.np).filter D.ios.contains ∧ mg f = some (.ref fa) ∧ Binds K fd ps []
  ex : ∀ c ∈ exs, ∃ C, mg c = some (.ref C) ∧ ErrC P K C
  sup : exs ≠ [] → mg "super" = none
  wd : ∀ f sh, (f, sh) ∈ wds → ∀ X : Cx, X.prog = P → X.K = K → X.mg = mg → Opq X.base → Room 2 X.A → WordOk X f sh
/-- the tables of the defs that make lambdas -/
def LamAll (K : PySem.W.Frag) (mg : Str → Option Value) (base : Heap) (defs : Str → Option Def) : Prop := ∀ (f : Str) (fa : Addr) (oc : Value) (od : Option Addr) (fd : FuncData) (osl : Array (Option Value)), lamDefs.contains f = true → (defs f ≠ none ∨ f = "law") → mg f = some (.ref fa) → K.lookup fa = some ⟨oc, od, .func fd, osl⟩ →
  ∃ c Pt, fd.code = .ref c ∧ LamX.TabB base mg c Pt ∧ (Pt, f ++ ".<locals>." ++ "<lambda>") ∈ TabL.T ∧ ∀ p ∈ TabL.T, p.1 = Pt → p.2 = f ++ ".<locals>." ++ "<lambda>"
/-- FunD.ok, with the code object -/
theorem fd_okC {P : Program} {w : World} {K : PySem.W.Frag} {mg : Str → Option Value} {base : Heap} {x qual : Str} {params : Arguments} {body : List Stmt} {scope : Scope} {dvs : List V} {kws : List (Str × V)} {f : Addr} {fd : FuncData} {CX : CXT} {N ps : List Str} {k : Nat} {sp : Sp}
    (F : FunD K x qual params body scope dvs kws f fd) (S : FnScope N ps scope) (len : ∀ vs H Q E, sp vs H Q E → vs.length = ps.length)
    (hbody : ∀ (oc : Value) (od : Option Addr) (osl : Array (Option Value)), K.lookup f = some ⟨oc, od, .func fd, osl⟩ → ∀ (A : Around) (outer : List PySem.Env) (s : Shared) (H : Hp) (vs : List V) (Q : VK) (E : XK), Room k (A.deeper (envOfC qual scope s.heap.objs.size f fd.code)) → sp vs H Q E →
      ∃ t, PSs (cxOf CX P w K mg base N qual scope f fd.code A outer s H E) body t ∧ t { nx := fun _ H' => Q .non H', rt := Q } (start N vs) H) : FnOk P w K mg base CX (k + 1) f fd ps sp := by
  obtain ⟨oc, od, dV, kV, doc, pm, an, cdv, ct, osl, rfl, lk, hcd, _, _⟩ := F.ex
  exact fn_of lk hcd S len fun A outer s H vs Q E hr hsp => hbody oc od osl lk A outer s H vs Q E hr hsp
section
variable {P : Program} {w : World} {K : PySem.W.Frag} {mg : Str → Option Value} {base : Heap} {bi : List Str} {gl : List (Str × PyData)} {exs : List Str} {wds : List (Str × WSh)} {defs : Str → Option Def}
theorem callD_ok {N n : Nat} {f : Str} {ds : List PyData} {r : Slot} {outs : List PyData} (h : callD defs N n f ds = .ok r outs) : ∃ m D, n = m + 1 ∧ defs f = some D ∧ ds.length = D.np ∧
    ((∃ ρ, execs ⟨defs, callD defs N m⟩ N D.body (entry D ds) = .nx ρ ∧ outsOf ρ D.ios = some outs ∧ r = .c .none) ∨ ∃ ρ, execs ⟨defs, callD defs N m⟩ N D.body (entry D ds) = .rt r ρ ∧ outsOf ρ D.ios = some outs) := by
  cases n with
  | zero => cases h
  | succ m =>
    rw [callD] at h
    cases e1 : defs f with
    | none => rw [e1] at h; cases h
    | some D =>
      rw [e1] at h
      dsimp only at h
      split at h
      · rename_i hl
        refine ⟨m, D, rfl, rfl, hl, ?_⟩
        cases e2 : execs ⟨defs, callD defs N m⟩ N D.body (entry D ds) with
        | nx ρ =>
          rw [e2] at h
          dsimp only at h
          cases e3 : outsOf ρ D.ios with
          | none => rw [e3] at h; cases h
          | some os => rw [e3] at h; cases h; exact .inl ⟨ρ, rfl, e3, rfl⟩
        | rt s ρ =>
          rw [e2] at h
          dsimp only at h
          cases e3 : outsOf ρ D.ios with
          | none => rw [e3] at h; cases h
          | some os => rw [e3] at h; cases h; exact .inr ⟨ρ, rfl, e3⟩
        | exc c ρ =>
          rw [e2] at h
          dsimp only at h
          cases e3 : outsOf ρ D.ios with
          | none => rw [e3] at h; cases h
          | some os => rw [e3] at h; cases h
        | stuck => rw [e2] at h; cases h
      · cases h
theorem callD_exc {N n : Nat} {f : Str} {ds : List PyData} {c : Str} {outs : List PyData} (h : callD defs N n f ds = .exc c outs) : ∃ m D, n = m + 1 ∧ defs f = some D ∧ ds.length = D.np ∧
    ∃ ρ, execs ⟨defs, callD defs N m⟩ N D.body (entry D ds) = .exc c ρ ∧ outsOf ρ D.ios = some outs := by
  cases n with
  | zero => cases h
  | succ m =>
    rw [callD] at h
    cases e1 : defs f with
    | none => rw [e1] at h; cases h
    | some D =>
      rw [e1] at h
      dsimp only at h
      split at h
      · rename_i hl
        refine ⟨m, D, rfl, rfl, hl, ?_⟩
        cases e2 : execs ⟨defs, callD defs N m⟩ N D.body (entry D ds) with
        | nx ρ =>
          rw [e2] at h
          dsimp only at h
          cases e3 : outsOf ρ D.ios with
          | none => rw [e3] at h; cases h
          | some os => rw [e3] at h; cases h
        | rt s ρ =>
          rw [e2] at h
          dsimp only at h
          cases e3 : outsOf ρ D.ios with
          | none => rw [e3] at h; cases h
          | some os => rw [e3] at h; cases h
        | exc c ρ =>
          rw [e2] at h
          dsimp only at h
          cases e3 : outsOf ρ D.ios with
          | none => rw [e3] at h; cases h
          | some os => rw [e3] at h; cases h; exact ⟨ρ, rfl, e3⟩
        | stuck => rw [e2] at h; cases h
      · cases h
/-- the evaluator's word at a def's body -/
theorem body_reads {K : PySem.W.Frag} {D : Def} {names : List Str} {vs : List V} {H : Hp} {Q : VK} {E : XK} {N m : Nat} {f : Str} (hl : names.length = D.ns) (hio : D.ios = (List.range' 0 D.np).filter D.ios.contains) (hD : defs f = some D)
    (h : spD K mg (callD defs N (m + 1)) f D vs H Q E) : tSS K (WE mg E) (execs ⟨defs, callD defs N m⟩ N D.body) { nx := fun _ H' => Q .non H', rt := Q } (L2.start names vs) H := by
  obtain ⟨Y, ds, t, ha, n, tb, hm⟩ := h
  have hn : ds.length = D.np := by
    cases hc : callD defs N (m + 1) f ds with
    | ok r outs =>
      obtain ⟨m', D', em, eD, hn, hx⟩ := callD_ok hc
      rw [hD] at eD
      cases eD
      exact hn
    | exc c outs =>
      obtain ⟨m', D', em, eD, hn, hx⟩ := callD_exc hc
      rw [hD] at eD
      cases eD
      exact hn
    | stuck => rw [hc] at hm; exact hm.elim
  obtain ⟨C, hot⟩ := entry_conc (names := names) t tb ha n hl
  refine ⟨_, _, entry D ds, C, ?_⟩
  have hv : vs.length = D.np := by rw [args_len ha, hn]
  -- the ends
  have fin : ∀ {r : Slot} {outs : List PyData} {ρ' : PL.Env} {σ' : L2.St} {H' : Hp} {v : V}, PostS K (fun a => Thr H a) (fun a => Y a ∧ a ∉ ioA D.ios 0 vs) (entry D ds) ρ' (L2.start names vs) σ' H H' → outsOf ρ' D.ios = some outs →
      (r = .no → False) → RetV K (fun a => Thr H a) (fun a => Y a ∧ a ∉ ioA D.ios 0 vs) ρ' σ' H' v r → Keeps (fun a => a ∈ ioA D.ios 0 vs) H H' ∧ OutsR K (RetY Y v r) H' D.ios 0 vs outs ∧ RetOk K Y H H' v r := fun {r outs ρ' σ' H' v} p ho hr rv => by
    have slot : ∀ {i : Nat} {d : PyData}, D.ios.contains i = true → ρ'[i]? = some (.h true d) → ∃ a, vs[i]? = some (.ref a) ∧ σ'[i]? = some (some (.ref a)) := fun {i d} hi e => by
      obtain ⟨⟨d0, e0⟩, es⟩ := p.io i d e
      obtain ⟨a1, _, _⟩ := entry_h e0
      obtain ⟨v0, e3, rr⟩ := args_at ha a1
      rw [Nat.zero_add, if_pos hi] at rr
      obtain ⟨a, rfl, _, _⟩ := rr
      exact ⟨a, e3, by rw [es]; exact start_at e3⟩
    have yfb : ∀ a, Y a → Fb (fun a => Y a ∧ a ∉ ioA D.ios 0 vs) ρ' σ' a := fun a hY => by
      by_cases hm : a ∈ ioA D.ios 0 vs
      · -- an io slot, still hot
        have key : ∀ {j : Nat} {ws : List V}, a ∈ ioA D.ios j ws → ∃ i, D.ios.contains (j + i) = true ∧ ws[i]? = some (.ref a) := by
          intro j ws
          induction ws generalizing j with
          | nil => intro h; simp [ioA] at h
          | cons v0 ws ih =>
            intro h
            rw [ioA] at h
            split at h
            · rename_i hcj
              rcases List.mem_append.mp h with h | h
              · cases v0 with
                | ref b =>
                  have : a = b := by simpa [refs] using h
                  subst this
                  exact ⟨0, hcj, rfl⟩
                | _ => simp [refs] at h
              · obtain ⟨i, h1, h2⟩ := ih h
                exact ⟨i + 1, by rw [show j + (i + 1) = j + 1 + i by omega]; exact h1, by simpa using h2⟩
            · obtain ⟨i, h1, h2⟩ := ih h
              exact ⟨i + 1, by rw [show j + (i + 1) = j + 1 + i by omega]; exact h1, by simpa using h2⟩
        obtain ⟨i, h1, h2⟩ := key hm
        rw [Nat.zero_add] at h1
        obtain ⟨d, e⟩ := outs_hot ho i (by simpa using h1)
        obtain ⟨b, e1, e2⟩ := slot h1 e
        rw [h2] at e1
        cases e1
        exact .inr ⟨i, true, d, e, e2⟩
      · exact .inl ⟨hY, hm⟩
    have ho' : outsOf ρ' ((List.range' 0 vs.length).filter D.ios.contains) = some outs := by rw [hv, ← hio]; exact ho
    refine ⟨p.keep.mono fun a z => (hot a z).1, outs_r ho' fun i d hi e => ?_, ?_⟩
    · rw [Nat.zero_add] at hi e
      obtain ⟨a, e1, e2⟩ := slot hi e
      refine ⟨a, e1, ?_⟩
      cases r with
      | no => exact (hr rfl).elim
      | c d0 =>
        obtain ⟨b, e3, _, _, o⟩ := p.conc.hot i true d e
        rw [e2] at e3
        cases e3
        exact o.move Keeps.refl (fun x z => yfb x z) fun u e _ => e
      | h io0 d0 =>
        obtain ⟨b0, ev, _, _, _, ob⟩ := rv
        obtain ⟨b, e3, o⟩ := ob i true d e
        rw [e2] at e3
        cases e3
        refine o.move Keeps.refl (fun x z => ?_) fun u e _ => e
        rcases z with z | z
        · exact .inr (yfb x z)
        · rw [ev] at z
          cases z
          exact .inl rfl
    · cases r with
      | no => exact (hr rfl).elim
      | c d => exact Rp.less yfb rv
      | h io d =>
        obtain ⟨b, ev, nb, _, o, _⟩ := rv
        refine ⟨b, ev, nb, o.move Keeps.refl (fun x z => z.imp id (yfb x)) fun u e _ => e⟩
  cases hc : callD defs N (m + 1) f ds with
  | ok r outs =>
    rw [hc] at hm
    obtain ⟨m', D', em, eD, _, hx⟩ := callD_ok hc
    cases em
    rw [hD] at eD
    cases eD
    rcases hx with ⟨ρ', e, ho, rfl⟩ | ⟨ρ', e, ho⟩
    · rw [e]
      exact fun σ' H' p => by
        obtain ⟨a1, a2, a3⟩ := fin (r := .c .none) (v := .non) p ho (fun z => by cases z) .non
        exact hm _ _ a1 a2 a3
    · rw [e]
      exact fun v σ' H' p rv => by
        obtain ⟨a1, a2, a3⟩ := fin p ho (fun z => by rw [z] at rv; exact rv) rv
        exact hm _ _ a1 a2 a3
  | exc c outs =>
    rw [hc] at hm
    obtain ⟨m', D', em, eD, _, ρ', e, ho⟩ := callD_exc hc
    cases em
    rw [hD] at eD
    cases eD
    rw [e]
    exact fun σ' H' p Cc hC => by
      obtain ⟨a1, a2, _⟩ := fin (r := .c .none) (v := .non) p ho (fun z => by cases z) .non
      exact hm H' Cc hC a1 a2
  | stuck => rw [hc] at hm; exact hm.elim
/-- the contexts of defs' bodies are good -/
theorem good_def (c : Code P K mg bi gl exs wds defs) (hop : Opq base) (hl : LamAll K mg base defs) {k N n : Nat} {names ps : List Str} {scope : Scope} {f : Str} {fa : Addr} {fd : FuncData} {oc : Value} {od : Option Addr} {osl : Array (Option Value)} {A : Around} {outer : List PySem.Env} {s : Shared} {H : Hp} {E : XK} (S : FnScope names ps scope)
    (hdf : defs f ≠ none ∨ f = "law") (hm : mg f = some (.ref fa)) (lk : K.lookup fa = some ⟨oc, od, .func fd, osl⟩) (hr : Room (k + 2) (A.deeper (envOfC f scope s.heap.objs.size fa fd.code)))
    (fn : ∀ x D, defs x = some D → CallOk (cxOf (L2.CX P w) P w K mg base names f scope fa fd.code A outer s H E) (callD defs N n) k x D) : GoodS (cxOf (L2.CX P w) P w K mg base names f scope fa fd.code A outer s H E) (WE mg E) ⟨names, scope, scope, bi, gl, exs, wds, lamDefs.contains f⟩ ⟨defs, callD defs N n⟩ := by
  refine ⟨⟨⟨rfl, ?_⟩, rfl, S.nd, rfl, S.kind, fun x hx => ⟨stor_ok hx, .inl rfl⟩, c.nbi, c.ngl, ⟨k, ?_, fn⟩, ?_, c.ex, (fun h => ⟨hop, c.sup h, hr.mono (by omega)⟩), fun h => ⟨?_, fun f sh hw => c.wd f sh hw _ rfl rfl rfl hop (hr.mono (by omega))⟩⟩, passes_of rfl⟩
  · have := hr.un
    show (A.deeper (envOfC f scope s.heap.objs.size fa fd.code)).units + 200 < cLine
    omega
  · dsimp only
    split
    · exact hr
    · exact hr.mono (by omega)
  · refine Takes.imp (takes_of (E := E) rfl rfl rfl rfl) fun cls d σ H h => ?_
    obtain ⟨rfl, c, C, rfl, hC, h⟩ := h
    exact h C hC
  · obtain ⟨c, Pt, e1, e2, e3, e4⟩ := hl f fa oc od fd osl h hdf hm lk
    exact ⟨c, Pt, e1, e2, e3, e4⟩
/-- every def, at every fuel -/
theorem fn_all (c : Code P K mg bi gl exs wds defs) (hop : Opq base) (hlam : LamAll K mg base defs) (N : Nat) : ∀ (n : Nat) (f : Str) (D : Def), defs f = some D → ∃ (fa : Addr) (fd : FuncData) (ps : List Str), mg f = some (.ref fa) ∧ PySem.W.keepIn K (.ref fa) = true ∧ FnOk P w K mg base (L2.CX P w) (3 * n) fa fd ps (spD K mg (callD defs N n) f D) ∧ Binds K fd ps []
  | 0, f, D, hD => by
    obtain ⟨names, ps, params, body, scope, fa, fd, F, S, ok, l1, l2, hio, hm, hb⟩ := c.fn f D hD
    have no : ∀ {vs H Q E}, spD K mg (callD defs N 0) f D vs H Q E → False := fun {vs H Q E} ⟨_, _, _, _, _, _, h⟩ => h
    exact ⟨fa, fd, ps, hm, F.kp, ⟨fun vs H Q E h => (no h).elim, fun A outer s H args us vs Q E _ _ _ _ h => (no h).elim⟩, hb⟩
  | n + 1, f, D, hD => by
    obtain ⟨names, ps, params, body, scope, fa, fd, F, S, ok, l1, l2, hio, hm, hb⟩ := c.fn f D hD
    have F1 : FnOk P w K mg base (L2.CX P w) (3 * n + 2 + 1) fa fd ps (spD K mg (callD defs N (n + 1)) f D) := fd_okC F S (fun vs H Q E h => ?_) fun oc od osl lk A outer s H vs Q E hr h => ⟨_, ?_, body_reads (names := names) l2 hio hD h⟩
    · exact ⟨fa, fd, ps, hm, F.kp, F1, hb⟩
    · obtain ⟨Y, ds, t, ha, _, _, hm'⟩ := h
      have hn : ds.length = D.np := by
        cases hc : callD defs N (n + 1) f ds with
        | ok r outs =>
          obtain ⟨_, D', _, eD, hn, _⟩ := callD_ok hc
          rw [hD] at eD
          cases eD
          exact hn
        | exc cc outs =>
          obtain ⟨_, D', _, eD, hn, _⟩ := callD_exc hc
          rw [hD] at eD
          cases eD
          exact hn
        | stuck => rw [hc] at hm'; exact hm'.elim
      rw [args_len ha, hn, l1]
    · exact snd_Ss N (good_def (k := 3 * n) c hop hlam S (.inl (by rw [hD]; exact Option.some_ne_none _)) hm lk hr fun x D' hx => by
        obtain ⟨fa', fd', ps', m', k', F', b'⟩ := fn_all c hop hlam N n x D' hx
        exact ⟨fa', fd', ps', m', k', F', b'⟩) D.body ok
end
end PL

set_option autoImplicit false
set_option linter.all false
set_option Elab.async false
set_option maxRecDepth 100000
set_option maxHeartbeats 2000000
/-! PL23: the hand, and the law's def. -/
namespace PL
open PySem PySem.Spec PyProof.Rows L2
variable [TabL]
def cellsOf (ns : List Int) : List PyData := (ns.take 63).map fun i => .int (if i < 0 then -i else i)
def handD (m : Nat → Int) (ns : List Int) : PyData := .list [.list (cellsOf ns), .int 0, .int 0, .int (m (cellsOf ns).length), .int 0]
def spHand (K : PySem.W.Frag) (m : Nat → Int) : Sp := fun vs H Q _ => ∃ (a : Addr) (ns : List Int), vs = [.ref a] ∧ LamX.Tabs TabL.T H ∧ SqL K H a (ns.map V.int) ∧ ns.length ≤ 63 ∧ ∀ p H', ¬ Thr H p → Keeps NoM H H' → Own K (fun b => b = p) H' p (handD m ns) → Q (.ref p) H'
def eltH : Ex := .bi .abs [.bi .int [.var 2]]
def handB (T : Tab) (body : List Stmt) (rest : List St) : Bool := match body with
  | s :: r => okSs T rest r && (match s with
    | .Assign ts y pos => match ts with
      | [t] => match t with
        | .Name x px => match y with
          | .ListComp elt gens sc _ => match gens with
            | [g] => match g with
              | ⟨tg, it, ifs, n⟩ => match it with
                | .Subscript o z _ => match o with
                  | .Name w _ => match z with
                    | .Slice l h st _ => match h with
                      | some c => match c with
                        | .Constant k _ _ => T.N[1]? == some x && stor T.st x && T.N[0]? == some w && vis T.sc w && okN w && l.isNone && st.isNone && k == .int 63 && n == 0 && ifs.isEmpty && blkB T sc [2] && okT (T.blk sc) (.nm 2) tg && okE (T.blk sc) eltH elt && swapC T.sc x px y
                        | _ => false
                      | none => false
                    | _ => false
                  | _ => false
                | _ => false
            | _ => false
          | _ => false
        | _ => false
      | _ => false
    | _ => false)
  | [] => false
theorem step_hand (G : Ctx) (i : Int) : stepF (.nm 2) (evIf G []) (ev G eltH) [2] (.int i) [.no, .no, .no] = .ok (some (.int (if i < 0 then -i else i))) [.no, .no, .no] := by
  have e1 : evIf G [] = fun ρ => .ok true ρ := by funext ρ; rw [evIf]
  have e2 : ev G eltH [.no, .no, .c (.int i)] = .ok (.val (.int (if i < 0 then -i else i))) [.no, .no, .c (.int i)] := by
    unfold eltH
    simp [ev, evR, gets, bind, biR, peeks, peek, biD, one, intD, absD, ofO]
  unfold stepF
  simp [asgT, wipeE, e1, e2, bind, PL.cold]
theorem loop_hand (G : Ctx) : ∀ (ns : List Int) (acc : List PyData), acc.length + ns.length ≤ 1000 → lcL (stepF (.nm 2) (evIf G []) (ev G eltH) [2]) (ns.map .int) acc [.no, .no, .no] = .ok (acc ++ ns.map fun i => .int (if i < 0 then -i else i)) [.no, .no, .no]
  | [], acc, _ => by rw [List.map_nil, lcL, List.map_nil, List.append_nil]
  | n :: ns, acc, h => by
    rw [List.length_cons] at h
    rw [List.map_cons, lcL, step_hand]
    dsimp only
    rw [if_pos (by unfold szOk; exact decide_eq_true (by omega)), loop_hand G ns _ (by rw [List.length_append, List.length_singleton]; omega), List.map_cons, List.append_assoc]
    rfl
theorem lc_hand (G : Ctx) (ns : List Int) : lcF (fun ρ => .ok ((ns.take 63).map .int) ρ) (.nm 2) (evIf G []) (ev G eltH) [2] [.no, .no, .no] = .ok (.fresh (.list (cellsOf ns))) [.no, .no, .no] := by
  unfold lcF
  rw [bind_ok, if_pos (by rfl)]
  have e : wipeE [Slot.no, .no, .no] [2] = [.no, .no, .no] := rfl
  rw [e, loop_hand G (ns.take 63) [] (by rw [List.length_take, List.length_nil]; omega), bind_ok]
  rfl
theorem cut63 (xs : List V) : cutV xs none (some 63) = xs.take 63 := by
  unfold cutV
  rw [show HT.sIx xs.length 0 none = 0 from rfl, show HT.sIx xs.length xs.length (some 63) = min 63 xs.length from HT.sIx_nat xs.length _ 63, List.drop_zero, Nat.sub_zero, ← List.take_eq_take_min]
section
variable {P : Program} {w : World} {K : PySem.W.Frag} {mg : Str → Option Value} {base : Heap} {bi : List Str} {gl : List (Str × PyData)}
theorem conc_no {H : Hp} {σ : L2.St} (tb : LamX.Tabs TabL.T H) (h : 3 ≤ σ.length) : Conc K (fun a => Thr H a) (fun _ => False) [.no, .no, .no] σ H := by
  have no : ∀ {i : Nat} {s : Slot}, ([Slot.no, .no, .no] : PL.Env)[i]? = some s → s = .no := fun {i s} e => by
    have := List.mem_of_getElem? e
    simpa using this
  exact ⟨fun i d e => (by cases no e), fun i io d e => (by cases no e), fun i j io1 io2 d1 d2 a e => (by cases no e), fun _ z => z.elim, fun _ z => z, h, tb⟩
theorem ok_hand {f qual : Str} {params : Arguments} {body : List Stmt} {scope : Scope} {fa : Addr} {fd : FuncData} {names : List Str} {rest : List St} {m : Nat → Int} (F : FunD K f qual params body scope [] [] fa fd) (S : FnScope names ["script"] scope) (hb : handB ⟨names, scope, scope, bi, gl, [], [], false⟩ body rest = true)
    (hl : names.length = 3) (nbi : ∀ x ∈ bi, mg x = none) (ngl : ∀ x d, (x, d) ∈ gl → ∃ u v, mg x = some u ∧ RelV v u ∧ ∀ Y H, Rp K Y H v d)
    (hr : ∀ cells : List PyData, cells.length ≤ 63 → execs ⟨fun _ => none, fun _ _ => .stuck⟩ 0 rest [.no, .c (.list cells), .no] = .rt (.h false (.list [.list cells, .int 0, .int 0, .int (m cells.length), .int 0])) [.no, .c (.list cells), .no]) :
    FnOk P w K mg base CX0 2 fa fd ["script"] (spHand K m) := by
  refine F.ok S (fun vs H Q E h => ?_) fun cdv A outer s H vs Q E hroom h => ?_
  · obtain ⟨a, ns, rfl, _⟩ := h; rfl
  · have g : GoodS (cxOf CX0 P w K mg base names qual scope fa cdv A outer s H E).nox WF ⟨names, scope, scope, bi, gl, [], [], false⟩ ⟨fun _ => none, fun _ _ => .stuck⟩ := by
      refine ⟨⟨⟨rfl, ?_⟩, rfl, S.nd, rfl, S.kind, fun x hx => ⟨stor_ok hx, .inl rfl⟩, nbi, ngl, ⟨1, hroom, fun x D' hx => by cases hx⟩, takes_WF, (fun c hc => by cases hc), (fun h => absurd rfl h), (fun h => by cases h)⟩, PassesOwn.never⟩
      have := hroom.un
      show (A.deeper (envOfC qual scope s.heap.objs.size fa cdv)).units + 200 < cLine
      omega
    unfold handB at hb
    cases body with
    | nil => cases hb
    | cons s1 r =>
      simp only [Bool.and_eq_true] at hb
      obtain ⟨hrest, hb⟩ := hb
      cases s1 <;> first | (cases hb; done) | skip
      rename_i ts y pos
      rcases ts with _ | ⟨t, _ | _⟩ <;> first | (cases hb; done) | skip
      cases t <;> first | (cases hb; done) | skip
      rename_i x px
      cases y <;> first | (cases hb; done) | skip
      rename_i elt gens sc lp
      rcases gens with _ | ⟨gg, _ | _⟩ <;> first | (cases hb; done) | skip
      obtain ⟨tg, it, ifs, n⟩ := gg
      cases it <;> first | (cases hb; done) | skip
      rename_i o z ip
      cases o <;> first | (cases hb; done) | skip
      rename_i ww wp
      cases z <;> first | (cases hb; done) | skip
      rename_i l hh st sp
      cases hh <;> first | (cases hb; done) | skip
      rename_i c
      cases c <;> first | (cases hb; done) | skip
      rename_i k kj kp
      simp only [Bool.and_eq_true] at hb
      obtain ⟨⟨⟨⟨⟨⟨⟨⟨⟨⟨⟨⟨⟨b1, b2⟩, b3⟩, b4⟩, b5⟩, b6⟩, b7⟩, b8⟩, b9⟩, b10⟩, b11⟩, b12⟩, b13⟩, b14⟩ := hb
      have e8 := eq_of_beq b8
      have e9 := eq_of_beq b9
      subst e8 e9
      cases l <;> first | (cases b6; done) | skip
      cases st <;> first | (cases b7; done) | skip
      cases ifs <;> first | (cases b10; done) | skip
      generalize hX : (cxOf CX0 P w K mg base names qual scope fa cdv A outer s H E).nox = X at g
      have eK : X.K = K := by rw [← hX]; rfl
      obtain ⟨n1, n2, _⟩ := okN_ok b5
      obtain ⟨s1', s2'⟩ := g.g.st _ b2
      have hN : X.N.Nodup := by rw [g.g.hN]; exact g.g.nd
      have hi1 : X.N[1]? = some x := by rw [g.g.hN]; exact eq_of_beq b1
      have hi0 : X.N[0]? = some ww := by rw [g.g.hN]; exact eq_of_beq b3
      -- what is walked
      have pit : PI X tg (.Subscript (.Name ww wp) (.Slice none (some (.Constant (.int 63) kj kp)) none sp) ip) (fun σ H R => ∃ (a : Addr) (ns : List Int), σ[0]? = some (some (.ref a)) ∧ SqL X.K H a (ns.map V.int) ∧ tSI X.K WF (fun ρ => .ok ((ns.take 63).map .int) ρ) σ H R) := by
        refine pi_mono (pi_list (pe_slice sl_list (pe_var hi0 (by rw [g.g.hs]; exact vis_ok b4) n1 n2) po_none (po_some pe_int))) fun σ H R ⟨a, ns, e0, hq, B, Z, ρ, C, h⟩ => ?_
        refine ⟨.ref a, e0, 63, rfl, a, ns.map V.int, rfl, hq, fun q hqn => ?_⟩
        rw [cut63, ← List.map_take]
        have k0 : Keeps NoM H (upd H q (.lst ((ns.take 63).map V.int))) := Keeps.new hqn
        refine ⟨q, rfl, ⟨_, SqL.of upd_same⟩, h (Itl X.K q) _ ⟨k0.any, Sub.refl, C.grow k0⟩ (walkD_list (C.nfb hqn) (.inl upd_same) (rp_ints _))⟩
      have hbk : ∀ (s : Shared) (H : Hp) (C : Addr) (cl : List (Str × Addr)) (fp : List Addr), Good (X.blk s H sc (compEnvC sc cl C X.env) fp) WF (Tab.blk ⟨names, scope, scope, bi, gl, [], [], false⟩ sc) ⟨fun _ => none, fun _ _ => .stuck⟩ := fun s H C cl fp => g.g.inblk b11 s H C cl fp
      have bo := blk_ok g.g b11
      have sw := swap_eq (x := x) (px := px) (l := pos.line) g.g.hs g.g.kind (y := .ListComp elt [⟨tg, .Subscript (.Name ww wp) (.Slice none (some (.Constant (.int 63) kj kp)) none sp) ip, [], 0⟩] sc lp) rfl
      rw [b14] at sw
      have loc : X.env.scope.names.lookup x = some .local := by
        rw [g.g.hs]
        unfold swapC at b14
        simp only [Bool.and_eq_true] at b14
        exact eq_of_beq b14.1.1
      have own2 : ((ownP names [2]).map (·.2)) = [2] := rfl
      have A1 := ps_setLc (g := tSG X.K (.nm 2)) (tt := tST X.K WF (evIf ⟨fun _ => none, fun _ _ => .stuck⟩ [])) (te := tSE X.K WF (ev ⟨fun _ => none, fun _ _ => .stuck⟩ eltH)) (spos := pos) (pos := lp) (elt := elt) (ifs := []) g.g.ok.calm hN hi1 loc sw pit bo
        (fun s H C cl fp => snd_T (hbk s H C cl fp) b12) (fun s H C cl fp => tests_of (ok := (hbk s H C cl fp).ok) .nil (by simp)) (fun s H C cl fp => (snd_E eltH b13 (hbk s H C cl fp)).1) (fold_ok rfl)
      have A2 := snd_Ss 0 g rest hrest
      refine ⟨_, PSs.nox (by rw [hX]; exact pss_cons A1 A2), ?_⟩
      obtain ⟨a, ns, rfl, tb, hq, hn, q⟩ := h
      have len : 3 ≤ (L2.start names [V.ref a]).length := by
        unfold L2.start
        rw [List.length_append, List.length_map, List.length_replicate, hl]
        exact Nat.le_refl 3
      have C0 : Conc X.K (fun x => Thr H x) (fun _ => False) [.no, .no, .no] (L2.start names [V.ref a]) H := by rw [eK]; exact conc_no tb len
      have L : tSE X.K WF (lcF (fun ρ => .ok ((ns.take 63).map .int) ρ) (.nm 2) (evIf ⟨fun _ => none, fun _ _ => .stuck⟩ []) (ev ⟨fun _ => none, fun _ _ => .stuck⟩ eltH) [2]) (L2.start names [V.ref a]) H
          (fun x H1 => tSS X.K WF (execs ⟨fun _ => none, fun _ _ => .stuck⟩ 0 rest) { nx := fun _ H' => Q .non H', rt := Q } ((L2.start names [V.ref a]).set 1 (some x)) H1) → _ := fun L => (⟨a, ns, start_at rfl, by rw [eK]; exact hq, lc_reads (own := [2]) rfl L⟩ :
        tSeq (tAsg (tLc (fun σ H R => ∃ (a : Addr) (ns : List Int), σ[0]? = some (some (.ref a)) ∧ SqL X.K H a (ns.map V.int) ∧ tSI X.K WF (fun ρ => .ok ((ns.take 63).map .int) ρ) σ H R) (tSG X.K (.nm 2)) (tST X.K WF (evIf ⟨fun _ => none, fun _ _ => .stuck⟩ [])) (tSE X.K WF (ev ⟨fun _ => none, fun _ _ => .stuck⟩ eltH)) [2]) (gName 1)) (tSS X.K WF (execs ⟨fun _ => none, fun _ _ => .stuck⟩ 0 rest)) { nx := fun _ H' => Q .non H', rt := Q } (L2.start names [V.ref a]) H)
      refine L ⟨_, _, _, C0, ?_⟩
      rw [lc_hand]
      intro v H1 P1
      have P2 := asg_post (hot := false) P1 (s := .c (.list (cellsOf ns))) (ρ2 := [.no, .no, .no]) rfl 1
      refine ⟨_, _, _, P2.conc, ?_⟩
      have hlc : (cellsOf ns).length ≤ 63 := by unfold cellsOf; rw [List.length_map, List.length_take]; omega
      have ee : ([Slot.no, .no, .no] : PL.Env).set 1 (.c (.list (cellsOf ns))) = [.no, .c (.list (cellsOf ns)), .no] := rfl
      rw [ee, hr _ hlc]
      intro v2 σ2 H2 P3 ⟨b, ev, nb, _, o, _⟩
      have P4 := P2.seq P3
      subst ev
      rw [eK] at o
      refine q b H2 (nb) (P4.keep.mono fun x ⟨i, io, d, e1, _⟩ => ?_) (o.move Keeps.refl (fun x z => .inl z) fun u e _ => e)
      have := List.mem_of_getElem? e1
      simp at this
end
end PL

set_option autoImplicit false
set_option linter.all false
set_option Elab.async false
set_option maxRecDepth 100000
set_option maxHeartbeats 2000000
/-! PL24: the law's def. -/
namespace PL
open PySem PySem.Spec PyProof.Rows L2
variable [TabL]
def spLaw (K : PySem.W.Frag) : Sp := fun vs H Q _ => ∃ (a : Addr) (ns : List Int), vs = [.ref a] ∧ LamX.Tabs TabL.T H ∧ SqL K H a (ns.map V.int) ∧ ns.length ≤ 63 ∧ ∀ H', Q (.bl true) H'
def lawB (T : Tab) (body : List Stmt) (rest : List St) : Bool := match body with
  | s :: r => okSs T rest r && (match s with
    | .Assign ts y pos => match ts with
      | [t] => match t with
        | .Name x px => match y with
          | .Call f xs kw _ => match f with
            | .Name z _ => match xs with
              | [a] => match a with
                | .Name w _ => kw.isEmpty && T.N[1]? == some x && stor T.st x && T.N[0]? == some w && vis T.sc w && okN w && z == "_law_hand" && glo T.sc z
                | _ => false
              | _ => false
            | _ => false
          | _ => false
        | _ => false
      | _ => false
    | _ => false)
  | [] => false
section
variable {P : Program} {w : World} {K : PySem.W.Frag} {mg : Str → Option Value} {base : Heap} {bi : List Str} {gl : List (Str × PyData)} {exs : List Str} {wds : List (Str × WSh)} {defs : Str → Option Def}
theorem ok_law {f : Str} {params : Arguments} {body : List Stmt} {scope : Scope} {fa fh : Addr} {fd fdh : FuncData} {names : List Str} {rest : List St} {m : Nat → Int} {N n : Nat} (c : Code P K mg bi gl exs wds defs) (hop : Opq base) (hlam : LamAll K mg base defs) (hmf : mg f = some (.ref fa)) (hlw : f = "law") (F : FunD K f f params body scope [] [] fa fd) (S : FnScope names ["script"] scope)
    (hb : lawB ⟨names, scope, scope, bi, gl, exs, wds, true⟩ body rest = true) (hl : 2 ≤ names.length) (FH : FnOk P w K mg base CX0 2 fh fdh ["script"] (spHand K m)) (hm : mg "_law_hand" = some (.ref fh)) (hk : PySem.W.keepIn K (.ref fh) = true) (hbind : Binds K fdh ["script"] []) (hn : 1 ≤ n)
    (pure : ∀ ns : List Int, ns.length ≤ 63 → ∃ ρ', execs ⟨defs, callD defs N n⟩ N rest ((List.replicate names.length Slot.no).set 1 (.h false (handD m ns))) = .rt (.c (.bool true)) ρ') : FnOk P w K mg base CX0 (3 * n + 3) fa fd ["script"] (spLaw K) := by
  refine fd_okC F S (fun vs H Q E h => ?_) fun oc od osl lk A outer s H vs Q E hroom h => ?_
  · obtain ⟨a, ns, rfl, _⟩ := h; rfl
  · have g : GoodS (cxOf CX0 P w K mg base names f scope fa fd.code A outer s H E).nox WF ⟨names, scope, scope, bi, gl, exs, wds, true⟩ ⟨defs, callD defs N n⟩ := by
      refine ⟨⟨⟨rfl, ?_⟩, rfl, S.nd, rfl, S.kind, fun x hx => ⟨stor_ok hx, .inl rfl⟩, c.nbi, c.ngl, ⟨3 * n, hroom, fun x D' hx => ?_⟩, takes_WF, c.ex, (fun h => ⟨hop, c.sup h, hroom.mono (by omega)⟩), fun h => ⟨?_, fun f sh hw => c.wd f sh hw _ rfl rfl rfl hop (hroom.mono (by omega))⟩⟩, PassesOwn.never⟩
      · have := hroom.un
        show (A.deeper (envOfC f scope s.heap.objs.size fa fd.code)).units + 200 < cLine
        omega
      · obtain ⟨fa', fd', ps', m', k', F', b'⟩ := fn_all c hop hlam N n x D' hx
        exact ⟨fa', fd', ps', m', k', F', b'⟩
      · obtain ⟨c, Pt, e1, e2, e3, e4⟩ := hlam f fa oc od fd osl (by rw [hlw]; rfl) (.inr hlw) hmf lk
        exact ⟨c, Pt, e1, e2, e3, e4⟩
    have hroomX : Room (3 * n + 2) (cxOf CX0 P w K mg base names f scope fa fd.code A outer s H E).nox.A := hroom
    unfold lawB at hb
    cases body with
    | nil => cases hb
    | cons s1 r =>
      simp only [Bool.and_eq_true] at hb
      obtain ⟨hrest, hb⟩ := hb
      cases s1 <;> first | (cases hb; done) | skip
      rename_i ts y pos
      rcases ts with _ | ⟨t, _ | _⟩ <;> first | (cases hb; done) | skip
      cases t <;> first | (cases hb; done) | skip
      rename_i x px
      cases y <;> first | (cases hb; done) | skip
      rename_i ff xs kw cp
      cases ff <;> first | (cases hb; done) | skip
      rename_i z zp
      rcases xs with _ | ⟨a0, _ | _⟩ <;> first | (cases hb; done) | skip
      cases a0 <;> first | (cases hb; done) | skip
      rename_i ww wp
      simp only [Bool.and_eq_true] at hb
      obtain ⟨⟨⟨⟨⟨⟨⟨b0, b1⟩, b2⟩, b3⟩, b4⟩, b5⟩, b6⟩, b7⟩ := hb
      cases kw <;> first | (cases b0; done) | skip
      have e6 := eq_of_beq b6
      subst e6
      obtain ⟨n1, n2, _⟩ := okN_ok b5
      obtain ⟨s1', s2'⟩ := g.g.st _ b2
      have hN : (cxOf CX0 P w K mg base names f scope fa fd.code A outer s H E).nox.N.Nodup := S.nd
      have A1 := ps_set (pos := pos) (pos' := px) hN (show names[1]? = some x from eq_of_beq b1) s1' (pe_call (p := zp) (pos := cp) (E := E0) (FH.mono (by omega)) hroomX (g.g.glob b7) hm hk hbind .nil pass0 (pa_cons (pe_var (pos := wp) (show names[0]? = some ww from eq_of_beq b3) (vis_ok b4) n1 n2) pa_nil) (by decide)) rfl s2'
      have A2 := snd_Ss N g rest hrest
      refine ⟨_, PSs.nox (pss_cons A1 A2), ?_⟩
      obtain ⟨a, ns, rfl, tb, hq, hn63, q⟩ := h
      refine ⟨.ref a, start_at rfl, a, ns, rfl, tb, hq, hn63, fun p H1 hp kp ow => ?_⟩
      obtain ⟨ρ', e⟩ := pure ns hn63
      have len : names.length ≤ ((L2.start names [V.ref a]).set 1 (some (.ref p))).length := by
        rw [List.length_set]
        unfold L2.start
        rw [List.length_append, List.length_map, List.length_replicate, List.length_singleton]
        omega
      have no : ∀ {i : Nat} {sl : Slot}, ((List.replicate names.length Slot.no).set 1 (.h false (handD m ns)))[i]? = some sl → (i = 1 ∧ sl = .h false (handD m ns)) ∨ sl = .no := fun {i sl} e => by
        rcases set_get e with ⟨h1, h2⟩ | ⟨_, h2⟩
        · exact .inl ⟨h1.symm, h2.symm⟩
        · have := List.mem_of_getElem? h2
          exact .inr (List.eq_of_mem_replicate this)
      have l2 : 1 < (L2.start names [V.ref a]).length := by
        unfold L2.start
        rw [List.length_append, List.length_map, List.length_replicate, List.length_singleton]
        omega
      have at1 : ((L2.start names [V.ref a]).set 1 (some (.ref p)))[1]? = some (some (.ref p)) := by rw [List.getElem?_set_self l2]
      have fb : ∀ x, Fb (fun _ => False) ((List.replicate names.length Slot.no).set 1 (.h false (handD m ns))) ((L2.start names [V.ref a]).set 1 (some (.ref p))) x → x = p := fun x z => by
        rcases z with z | ⟨i, io, d, e1, e2⟩
        · exact z.elim
        · rcases no e1 with ⟨h1, _⟩ | h1
          · rw [h1, at1] at e2
            cases e2; rfl
          · cases h1
      have C : Conc K (fun x => Thr H x) (fun _ => False) ((List.replicate names.length Slot.no).set 1 (.h false (handD m ns))) ((L2.start names [V.ref a]).set 1 (some (.ref p))) H1 := by
        refine ⟨fun i d e => ?_, fun i io d e => ?_, fun i j io1 io2 d1 d2 b h1 h2 _ _ => ?_, fun _ z => z.elim, fun x z => kp.there x z, by rw [List.length_set, List.length_replicate]; exact len, kp.tab tb⟩
        · rcases no e with ⟨_, z⟩ | z <;> cases z
        · rcases no e with ⟨h1, z⟩ | z
          · cases z
            rw [h1]
            exact ⟨p, at1, fun z => z, fun _ z => hp z, ow.move Keeps.refl fb fun u e _ => e⟩
          · cases z
        · rcases no h1 with ⟨a1, _⟩ | z
          · rcases no h2 with ⟨a2, _⟩ | z
            · rw [a1, a2]
            · cases z
          · cases z
      refine ⟨_, _, _, C, ?_⟩
      rw [e]
      intro v σ' H' _ rv
      cases rv
      exact q H'
end
end PL

set_option autoImplicit false
set_option linter.all false
set_option Elab.async false
set_option maxRecDepth 100000
set_option maxHeartbeats 2000000
/-! PT4: what a suite asks of its error: the flags. -/
namespace PL
open PySem PySem.Spec PyProof.Rows L2
variable [TabL]
/-- isinstance(error, C), the error pinned -/
theorem call_isP {Y : Cx} {a D : Addr} {oe : Obj} (hp : (a, oe) ∈ Y.pn) (C : ExcC Y.K D) (hz : Zc (.ref D) none oe) (hf : ∃ vs, oe.data = .fields vs) : CallR Y (.builtin "isinstance") (rIsE Y.K D a) := by
  rintro pins s σ H xs us Q I rv ⟨c, cv, b, rfl, hcv, eb, q⟩
  obtain ⟨u, w, rfl, r1, r2⟩ := L2.Vals.two rv
  cases r1
  have ew := hcv _ r2
  subst ew
  have there := (I.pin (a, oe) (List.mem_append_left _ hp)).1
  obtain ⟨vs, data⟩ := hf
  have inst : PySem.W.InstAt s.heap a oe D none := by
    rcases oe with ⟨c1, d1, t1, sl1⟩
    have z1 : c1 = .ref D := hz.1
    have z2 : d1 = none := hz.2
    have z3 : t1 = .fields vs := data
    rw [z1, z2, z3] at there ⊢
    exact ⟨there, rfl, rfl, trivial⟩
  have kit := PySem.W.handS_kitx_exc (x := a) (ox := oe) C.hg C.hk C.hs C.hd C.ha C.hn C.ht C.hm
  exact PySem.W.kia_one kit I.kIn inst eb (fun z => by cases z) fun tk => ⟨.bl b, H, I.tok tk, rfl, q⟩
/-- the call isinstance(er, c) -/
def isC (er c : Str) : Expr → Bool
  | .Call (.Name f _) xs [] _ => f == "isinstance" && (match xs with
    | [.Name x _, .Name y _] => x == er && y == c
    | _ => false)
  | _ => false
def isCs (er : Str) : List Str → List Expr → Bool
  | [], [] => true
  | n :: ns, e :: es => isC er n e && isCs er ns es
  | _, _ => false
/-- what the context knows of the error at slot j -/
structure ErrAt (Y : Cx) (er : Str) (j : Nat) (a D : Addr) : Prop where
  hN : Y.N[j]? = some er
  vis : Vis Y.env.scope er
  n1 : (er == ("__debug__" : Str)) = false
  n2 : (er == ("__classdict__" : Str)) = false
  gi : Gl Y "isinstance"
  mi : Y.mg "isinstance" = none
  call : CallR Y (.builtin "isinstance") (rIsE Y.K D a)
/-- what it knows of the class n -/
structure NamB (Y : Cx) (D : Addr) (n : Str) (b : Bool) : Prop where
  g : Gl Y n
  d : (n == ("__debug__" : Str)) = false
  at_ : ∃ C, Y.mg n = some (.ref C) ∧ PySem.W.kitOne Y.K (.ref D) (.ref C) = some b
inductive NamBs (Y : Cx) (D : Addr) : List Str → List Bool → Prop
  | nil : NamBs Y D [] []
  | cons {n : Str} {b : Bool} {ns : List Str} {bs : List Bool} : NamB Y D n b → NamBs Y D ns bs → NamBs Y D (n :: ns) (b :: bs)
theorem NamBs.length {Y : Cx} {D : Addr} : ∀ {ns : List Str} {bs : List Bool}, NamBs Y D ns bs → ns.length = bs.length
  | _, _, .nil => rfl
  | _, _, .cons _ r => by rw [List.length_cons, List.length_cons, r.length]
section
variable {Y : Cx} {er : Str} {j : Nat} {a D : Addr}
theorem pe_isC (A : ErrAt Y er j a D) {n : Str} {b : Bool} (N : NamB Y D n b) {e : Expr} (h : isC er n e = true) : PE Y e (fun σ H Q => σ[j]? = some (some (.ref a)) ∧ Q (.bl b) H) ∧ unstar e = true := by
  unfold isC at h
  split at h
  · rename_i f p1 xs p2
    rw [Bool.and_eq_true] at h
    obtain ⟨h1, h2⟩ := h
    split at h2
    · rename_i x px y py
      rw [Bool.and_eq_true] at h2
      have e1 := eq_of_beq h1
      have e2 := eq_of_beq h2.1
      have e3 := eq_of_beq h2.2
      subst e1 e2 e3
      obtain ⟨C, hm, hb⟩ := N.at_
      refine ⟨pe_mono (pe_callB A.call A.gi A.mi PyProof.Rows.boot_isinstance (pa_cons (pe_var A.hN A.vis A.n1 A.n2) (pa_cons (pe_glob (v := .ref C) N.g hm rfl N.d) pa_nil)) (by decide) (by decide)) fun σ H Q ⟨h1, h2⟩ => ?_, rfl⟩
      exact ⟨_, h1, _, _, b, rfl, fun u e => e, hb, h2⟩
    · cases h2
  · cases h
theorem pa_isCs (A : ErrAt Y er j a D) : ∀ {ns : List Str} {bs : List Bool} {es : List Expr}, NamBs Y D ns bs → isCs er ns es = true → PA Y es (fun σ H Q => σ[j]? = some (some (.ref a)) ∧ Q (bs.map V.bl) H)
  | _, _, [], .nil, _ => ⟨fun pos pins s σ H Q I h => (pa_nil (X := Y)).run pos pins s σ H Q I h.2⟩
  | _, _, _ :: _, .nil, h => by cases h
  | _, _, [], .cons _ _, h => by cases h
  | _, _, e :: es, .cons N r, h => by
    rw [isCs, Bool.and_eq_true] at h
    obtain ⟨p, u⟩ := pe_isC A N h.1
    have t := pa_isCs A r h.2
    refine ⟨fun pos pins s σ H Q I h => ?_⟩
    exact (pa_cons p t (star_cons u)).run pos pins s σ H Q I ⟨h.1, h.1, h.2⟩
/-- the flags' expression: a list, or what stands plus a list -/
inductive FlagE (fl er : Str) (ns : List Str) : Expr → Prop
  | one {es : List Expr} {p : Pos} : isCs er ns es = true → FlagE fl er ns (.List es p)
theorem pe_flagL (A : ErrAt Y er j a D) {ns : List Str} {bs : List Bool} (N : NamBs Y D ns bs) (hl : bs.length ≤ 1000) {es : List Expr} {p : Pos} (h : isCs er ns es = true) :
    PE Y (.List es p) (fun σ H Q => σ[j]? = some (some (.ref a)) ∧ ∀ q, H q = none → Q (.ref q) (upd H q (.lst (bs.map V.bl)))) :=
  pe_mono (pe_lst (pa_isCs A N h)) fun σ H Q ⟨h1, h2⟩ => ⟨h1, by rw [List.length_map, sizeLine_eq]; omega, h2⟩
/-- flags + [..] -/
theorem pe_flagCat (A : ErrAt Y er j a D) {ns : List Str} {bs b0 : List Bool} (N : NamBs Y D ns bs) {fl : Str} {k : Nat} (hk : Y.N[k]? = some fl) (vk : Vis Y.env.scope fl) (n1 : (fl == ("__debug__" : Str)) = false) (n2 : (fl == ("__classdict__" : Str)) = false) (hl : b0.length + bs.length ≤ 1000) {es : List Expr} {p p1 p2 : Pos} (h : isCs er ns es = true) :
    PE Y (.BinOp (.Name fl p1) .Add (.List es p) p2) (fun σ H Q => σ[j]? = some (some (.ref a)) ∧ ∃ l, σ[k]? = some (some (.ref l)) ∧ H l = some (.lst (b0.map V.bl)) ∧
      ∀ q r, H q = none → r ≠ q → H r = none → Q (.ref r) (upd (upd H q (.lst (bs.map V.bl))) r (.lst ((b0 ++ bs).map V.bl)))) := by
  refine pe_mono (pe_op op_cat (pe_var hk vk n1 n2) (pe_flagL A N (by omega) h)) fun σ H Q ⟨h1, l, h2, h3, h4⟩ => ?_
  refine ⟨_, h2, h1, fun q hq => ⟨l, q, b0.map V.bl, bs.map V.bl, rfl, rfl, ?_, upd_same, ?_, fun r hr => ?_⟩⟩
  · rw [upd_ne fun z => by rw [← z, h3] at hq; cases hq]
    exact h3
  · rw [List.length_map, List.length_map, sizeLine_eq]; omega
  · have ne : r ≠ q := fun z => by rw [z, upd_same] at hr; cases hr
    rw [← List.map_append]
    exact h4 q r hq ne (by rw [upd_ne ne] at hr; exact hr)
end
end PL

set_option autoImplicit false
set_option linter.all false
set_option Elab.async false
set_option maxRecDepth 100000
set_option maxHeartbeats 2000000
/-! PT5: a def called in a suite, its error handed on; _law_flags. -/
namespace PL
open PySem PySem.Spec PyProof.Rows L2 L2H
variable [TabL]
/-- a call in a suite, the error pinned: nothing is asked of its context -/
theorem run_pin {CX : CXT} {P : Program} {w : World} {K : PySem.W.Frag} {mg : Str → Option Value} {base : Heap} {k : Nat} {f : Addr} {name qual : Str} {params : Arguments} {body : List Stmt} {scope : Scope} {dV kV doc pm cdv ct oc : Value} {an od : Option Addr} {osl : Array (Option Value)} {N ps : List Str}
    {A : Around} {outer : List PySem.Env} {s : Shared} {H : Hp} {ar : PySem.Args} {us : List Value} {vs : List V} {Q : VK} {E : XK} {p : Addr × Obj}
    (lk : K.lookup f = some ⟨oc, od, .func (PySem.W.fnOf name qual params body scope dV kV doc pm an cdv ct), osl⟩) (hcd : PySem.W.codeIn K cdv qual = true) (S : FnScope N ps scope) (room : RoomH (k + 1) A) (pin : PinOk outer H s p)
    (e0 : Env0 P w K mg base A outer s H) (hb : BindsTo s (PySem.W.fnOf name qual params body scope dV kV doc pm an cdv ct) ar (ps.zip us)) (r : Vals vs us) (hl : vs.length = ps.length)
    (go : RoomH k (A.deeper (envOfC qual scope s.heap.objs.size f cdv)) → ∃ t, PSs (cxH CX P w K mg base N qual scope f cdv A outer s H E p) body t ∧ t { nx := fun _ H' => Q .non H', rt := Q } (L2.start N vs) H) :
    codeAny (model P w) A (.call (.ref f) ar) (CR CX outer P w H s Q E) s := by
  have inS : ∀ b o, base.get? b = some o → s.heap.get? b = some o := fun b o e => (e0.bs b o e).1
  have KX : K.In s.heap := e0.mod.kin.keeps inS
  have lim : s.heap.NoLimit := e0.mod.nolimit.keeps inS
  refine codeAny_call_function room.depth (KX _ _ lk) rfl S.co S.gen rfl
    (PySem.W.codeRec_of KX hcd) (hb _ _ _ _ ?_)
  refine wpAny_newFunctionEnv_cells S.kind (fun y hy => ?_)
    fun env he s1 x => ?_
  · obtain ⟨n, v⟩ := y
    exact (S.par n (List.of_mem_zip hy).1).imp (fun z => z) fun z =>
      ⟨z, PySem.W.cellsFrom_some _ _ _ (.inl z)⟩
  · subst he
    refine ⟨lim.keeps x.toInCall.keep, codeAny_func ?_⟩
    obtain ⟨t, ht, hq⟩ := go (room.deeper _)
    have I := inv_startH (CX := CX) (E := E) (cd := cdv) (f := f) (qual := qual) S pin e0 hl r x
    refine wpAny_mono (ht.run [] s1 (L2.start N vs) H _ I hq)
      (fun fl s' hs => ?_) fun e s' hs => hs
    cases fl with
    | ret u =>
      obtain ⟨v, σ', H', J, rv, q⟩ := hs
      exact ⟨v, H', J.os, J.bare, J.base, J.hok, rv, q⟩
    | next =>
      obtain ⟨σ', H', J, q⟩ := hs
      exact ⟨.non, H', J.os, J.bare, J.base, J.hok, rfl, q⟩
    | brk =>
      obtain ⟨_, _, _, z⟩ := hs
      exact z.elim
    | cont =>
      obtain ⟨_, _, _, z⟩ := hs
      exact z.elim
/-- the written form of _law_flags, the names that it asks for -/
def flagsB (er : Str) (n1 n2 : List Str) : List Stmt → Bool
  | [.Return (some (.List es _)) _] => isCs er n1 es && n2.isEmpty
  | [.Assign [.Name x _] (.List es _) _, .Return (some (.BinOp (.Name y _) .Add (.List es2 _) _)) _] => x == "flags" && y == "flags" && isCs er n1 es && isCs er n2 es2 && !n2.isEmpty
  | _ => false
section
variable {Y : Cx} {er : Str} {a D : Addr} {n1 n2 : List Str} {b1 b2 : List Bool}
theorem flags_body (A : ErrAt Y er 0 a D) (N1 : NamBs Y D n1 b1) (N2 : NamBs Y D n2 b2) (hl : b1.length + b2.length ≤ 1000) {body : List Stmt} (h : flagsB er n1 n2 body = true) (hN : Y.N.Nodup) (hkl : n2 = [] ∨ (Y.N[1]? = some ("flags" : Str) ∧ Y.env.scope.names.lookup ("flags" : Str) = some .local)) :
    ∃ t, PSs Y body t ∧ ∀ D' σ H, σ.length = Y.N.length → σ[0]? = some (some (.ref a)) → (∀ H' r, Keeps NoM H H' → H r = none → H' r = some (.lst ((b1 ++ b2).map V.bl)) → D'.rt (.ref r) H') → t D' σ H := by
  unfold flagsB at h
  split at h
  · rename_i es p p'
    rw [Bool.and_eq_true] at h
    have e2 : n2 = [] := List.isEmpty_iff.mp h.2
    subst e2
    cases N2
    refine ⟨_, pss_one (ps_ret (pe_flagL A N1 (by omega) h.1)), fun D' σ H _ h0 q => ⟨h0, fun r hr => ?_⟩⟩
    rw [List.append_nil] at q
    exact q _ r (Keeps.new hr) hr upd_same
  · rename_i x px es p1 ps y py es2 p2 p3 p4
    simp only [Bool.and_eq_true] at h
    obtain ⟨⟨⟨⟨h1, h2⟩, h3⟩, h4⟩, h5⟩ := h
    have hkl2 : Y.N[1]? = some ("flags" : Str) ∧ Y.env.scope.names.lookup ("flags" : Str) = some .local := hkl.resolve_left fun z => by rw [z] at h5; cases h5
    obtain ⟨hk, lo⟩ := hkl2
    have e1 := eq_of_beq h1
    have e2 := eq_of_beq h2
    subst e1 e2
    refine ⟨_, pss_cons (ps_set hN hk (.inl lo) (pe_flagL A N1 (by omega) h3) rfl (.inr lo)) (pss_one (ps_ret (pe_flagCat A N2 (b0 := b1) hk (.inl lo) (by decide) (by decide) hl h4))), fun D' σ H len h0 q => ?_⟩
    refine ⟨h0, fun l hl' => ?_⟩
    have l1 : 1 < σ.length := by
      rw [len]
      exact (List.getElem?_eq_some_iff.mp hk).1
    refine ⟨by rw [List.getElem?_set_ne (by omega)]; exact h0, l, by rw [List.getElem?_set_self l1], upd_same, fun q' r hq' hne hr => ?_⟩
    have k1 : Keeps NoM H (upd H l (.lst (b1.map V.bl))) := Keeps.new hl'
    have k2 : Keeps NoM (upd H l (.lst (b1.map V.bl))) (upd (upd H l (.lst (b1.map V.bl))) q' (.lst (b2.map V.bl))) := Keeps.new hq'
    have hr2 : upd (upd H l (.lst (b1.map V.bl))) q' (.lst (b2.map V.bl)) r = none := by rw [upd_ne hne]; exact hr
    have nl : r ≠ l := fun z => by rw [z, upd_same] at hr; cases hr
    exact q _ r ((k1.trans k2).trans (Keeps.new hr2)) (by rw [upd_ne nl] at hr; exact hr) upd_same
  · cases h
end
end PL

set_option autoImplicit false
set_option linter.all false
set_option Elab.async false
set_option maxRecDepth 100000
set_option maxHeartbeats 2000000
/-! PT6: _law_flags(error). -/
namespace PL
open PySem PySem.Spec PyProof.Rows L2 L2H
variable [TabL]
inductive KBs (K : PySem.W.Frag) (mg : Str → Option Value) (D : Addr) : List Str → List Bool → Prop
  | nil : KBs K mg D [] []
  | cons {n : Str} {b : Bool} {ns : List Str} {bs : List Bool} : (∃ C, mg n = some (.ref C) ∧ PySem.W.kitOne K (.ref D) (.ref C) = some b) → KBs K mg D ns bs → KBs K mg D (n :: ns) (b :: bs)
def gloAll (sc : Scope) (ns : List Str) : Bool := ns.all fun n => sc.names.lookup n == some .globalImplicit && !(n == ("__debug__" : Str))
theorem gloAll_at {sc : Scope} {ns : List Str} (h : gloAll sc ns = true) {n : Str} (hn : n ∈ ns) : sc.names.lookup n = some .globalImplicit ∧ (n == ("__debug__" : Str)) = false := by
  have := List.all_eq_true.mp h n hn
  rw [Bool.and_eq_true] at this
  exact ⟨eq_of_beq this.1, by simpa using this.2⟩
theorem KBs.nam {Y : Cx} {D : Addr} : ∀ {ns : List Str} {bs : List Bool}, KBs Y.K Y.mg D ns bs → (∀ n ∈ ns, Y.env.scope.names.lookup n = some .globalImplicit ∧ (n == ("__debug__" : Str)) = false) → NamBs Y D ns bs
  | _, _, .nil, _ => .nil
  | _, _, .cons c r, h => .cons ⟨(h _ List.mem_cons_self).1, (h _ List.mem_cons_self).2, c⟩ (r.nam fun n hn => h n (List.mem_cons_of_mem _ hn))
theorem KBs.split {K : PySem.W.Frag} {mg : Str → Option Value} {D : Addr} : ∀ {n1 n2 : List Str} {bs : List Bool}, KBs K mg D (n1 ++ n2) bs → ∃ b1 b2, bs = b1 ++ b2 ∧ KBs K mg D n1 b1 ∧ KBs K mg D n2 b2
  | [], _, _, h => ⟨[], _, rfl, .nil, h⟩
  | _ :: _, _, _, .cons c r => by
    obtain ⟨b1, b2, e, h1, h2⟩ := r.split
    exact ⟨_ :: b1, b2, by rw [e]; rfl, .cons c h1, h2⟩
/-- the def _law_flags -/
structure FlagsD (K : PySem.W.Frag) (mg : Str → Option Value) (n1 n2 : List Str) : Prop where
  ex : ∃ (g : Addr) (fd : FuncData) (params : Arguments) (body : List Stmt) (scope : Scope) (N : List Str), FunD K "_law_flags" "_law_flags" params body scope [] [] g fd ∧ FnScope N ["error"] scope ∧ flagsB "error" n1 n2 body = true ∧ gloAll scope ("isinstance" :: (n1 ++ n2)) = true ∧
    N[0]? = some ("error" : Str) ∧ scope.names.lookup ("error" : Str) = some .local ∧ (n2 = [] ∨ (N[1]? = some ("flags" : Str) ∧ scope.names.lookup ("flags" : Str) = some .local)) ∧ mg "_law_flags" = some (.ref g) ∧ L2.Binds K fd ["error"] []
  mi : mg "isinstance" = none
theorem pe_flags {Y : Cx} {a D : Addr} {oe : Obj} {n1 n2 : List Str} {bs : List Bool} {er : Str} {i : Nat} {p p2 pos : Pos} (F : FlagsD Y.K Y.mg n1 n2) (hp : (a, oe) ∈ Y.pn) (C : ExcC Y.K D) (hz : Zc (.ref D) none oe) (hf : ∃ vs, oe.data = .fields vs) (kb : KBs Y.K Y.mg D (n1 ++ n2) bs) (hl : bs.length ≤ 1000)
    (room : RoomH 1 Y.A) (hg : Gl Y "_law_flags") (hi : Y.N[i]? = some er) (vi : Vis Y.env.scope er) (d1 : (er == ("__debug__" : Str)) = false) (d2 : (er == ("__classdict__" : Str)) = false) :
    PE Y (.Call (.Name "_law_flags" p) [.Name er p2] [] pos) (fun σ H Q => σ[i]? = some (some (.ref a)) ∧ ∀ H' r, Keeps NoM H H' → H r = none → H' r = some (.lst (bs.map V.bl)) → Q (.ref r) H') := by
  obtain ⟨g, fd, params, body, scope, N, FD, S, hb, hgl, hN0, le, hfl, hm, bind⟩ := F.ex
  have kp := FD.kp
  obtain ⟨oc, od, dV, kV, doc, pm, an, cdv, ct, osl, rfl, lk, hcd, _, _⟩ := FD.ex
  refine ⟨fun pins s σ H Q I ⟨hσ, q⟩ => ?_⟩
  refine wpAny_Call_Name_kw (ld_glob I hg hm ?_ (by decide))
  have ha : PA Y [.Name er p2] _ := pa_cons (pe_var hi vi d1 d2) pa_nil
  refine PySem.W.callWith_K (h₀ := Y.base) I.ok.mod.kin kp
    (thn (ha.run pos pins s σ H (fun vs H1 => vs = [.ref a] ∧ H1 = H) I ⟨_, hσ, rfl, rfl⟩) fun us s1 ⟨vs, H1, I1, r, ev, eH⟩ => ⟨I1.kIn, ?_⟩)
    (by rfl) (by rfl)
  subst ev eH
  have P1 := I1.pin (a, oe) (List.mem_append_left _ hp)
  have pin : PinOk Y.stack H1 s1 (a, oe) := ⟨P1.1, P1.2.1, fun hm => (List.mem_cons.mp (I1.stkSub a hm)).elim P1.2.2.1 P1.2.2.2.1, P1.2.2.2.2⟩
  have bd := bind s1 us I1.kIn (by rw [List.append_nil, ← r.length]; rfl)
  rw [List.append_nil] at bd
  refine wpAny_call (codeAny_mono (run_pin (CX := L2.CX0) (E := fun _ _ _ => False) (Q := Q) (k := 0) lk hcd S room pin I1.env0 bd r rfl fun hr => ?_) fun rr s' hq => ?_)
  · generalize hY : cxH L2.CX0 Y.prog Y.w Y.K Y.mg Y.base N "_law_flags" scope g cdv Y.A Y.stack s1 H1 (fun _ _ _ => False) (a, oe) = Z
    have eK : Z.K = Y.K := by rw [← hY]; rfl
    have eM : Z.mg = Y.mg := by rw [← hY]; rfl
    have eN : Z.N = N := by rw [← hY]; rfl
    have eS : Z.env.scope = scope := by rw [← hY]; rfl
    have eP : Z.pn = [(a, oe)] := by rw [← hY]; rfl
    have A : ErrAt Z "error" 0 a D := ⟨by rw [eN]; exact hN0, .inl (by rw [eS]; exact le), by decide, by decide, (by rw [← eS] at hgl; exact (gloAll_at hgl List.mem_cons_self).1), by rw [eM]; exact F.mi,
      call_isP (oe := oe) (by rw [eP]; exact List.mem_cons_self) (by rw [eK]; exact C) hz hf⟩
    rw [← eK, ← eM] at kb
    obtain ⟨b1, b2, rfl, k1, k2⟩ := kb.split
    have gl : ∀ n ∈ n1 ++ n2, Z.env.scope.names.lookup n = some .globalImplicit ∧ (n == ("__debug__" : Str)) = false := fun n hn => by rw [eS]; exact gloAll_at hgl (List.mem_cons_of_mem _ hn)
    obtain ⟨t, T1, T2⟩ := flags_body (D := D) A (k1.nam fun n hn => gl n (List.mem_append_left _ hn)) (k2.nam fun n hn => gl n (List.mem_append_right _ hn)) (by rw [← List.length_append]; exact hl) hb (by rw [eN]; exact S.nd) (by rw [eN, eS]; exact hfl)
    refine ⟨t, T1, T2 _ _ _ ?_ (start_at rfl) fun H' r kk hr hh => q H' r kk hr hh⟩
    rw [eN]
    unfold L2.start
    rw [List.length_append, List.length_map, List.length_replicate, List.length_singleton]
    have := (List.getElem?_eq_some_iff.mp hN0).1
    omega
  · cases rr with
    | error e => exact (show False from hq).elim
    | ok fl =>
      cases fl with
      | ret u => exact I1.after hq
      | next => exact False.elim hq
      | brk => exact False.elim hq
      | cont => exact False.elim hq
end PL

set_option autoImplicit false
set_option linter.all false
set_option Elab.async false
set_option maxRecDepth 100000
set_option maxHeartbeats 2000000
/-! PT7: flags.count(True) == 1 and isinstance(error, ValueError); flags.index(True). -/
namespace PL
open PySem PySem.Spec PyProof.Rows L2 L2H
variable [TabL]
def boolsD (bs : List Bool) : List PyData := bs.map .bool
theorem bools_plain : ∀ bs : List Bool, PyData.plainAll (boolsD bs) = true
  | [] => rfl
  | b :: bs => by
    show ((PyData.bool b).plain && PyData.plainAll (boolsD bs)) = true
    rw [bools_plain bs]
    rfl
theorem bools_rp {K : PySem.W.Frag} {H : Hp} : ∀ bs : List Bool, RpA K (fun _ => False) H (bs.map V.bl) (boolsD bs)
  | [] => .nil
  | b :: bs => .cons (.bl b) (bools_rp bs)
theorem bools_count : ∀ bs : List Bool, (boolsD bs).countP (fun y => PyData.eqv y (.bool true)) = bs.count true
  | [] => rfl
  | b :: bs => by
    have ih := bools_count bs
    cases b <;> simp [boolsD, List.countP_cons, List.count_cons, PyData.eqv] at ih ⊢ <;> exact ih
theorem mt_countB {Y : Cx} (hu : Y.A.units + 65 < cLine) : MtR Y "list.count" (fun x xs H Q => ∃ (l : Addr) (bs : List Bool), x = .ref l ∧ xs = [.bl true] ∧ H l = some (.lst (bs.map V.bl)) ∧ Q (.int ((bs.count true : Nat) : Int)) H) := by
  rintro pins s σ H x xs v us Q I rx rv ⟨l, bs, rfl, rfl, hl, q⟩
  obtain ⟨w, rfl, rw'⟩ := L2.Vals.one rv
  cases rx
  obtain ⟨its, ri, il, hlen⟩ := I.list (.inl (.inl hl))
  obtain ⟨as, h4⟩ := (bools_rp (K := Y.K) (H := H) bs).readsAll I ri
  obtain ⟨as2, r1⟩ := (Rp.bl (K := Y.K) (Y := fun _ => False) (H := H) true).reads I rw'
  refine SeqAt.count_list_data il.isList (d := .bool true) (show ReadsAll s.heap its.toArray.toList (boolsD bs) as from h4) r1 (bools_plain bs) rfl (by show Y.A.units + 1 + min _ 0 < cLine; omega) ?_
  rw [bools_count]
  exact ⟨.int _, H, I.tok _, ⟨_, rfl⟩, q⟩
section
variable {Y : Cx} {er fl : Str} {i k : Nat} {a D : Addr} {ap cp p1 p2 p3 p4 p5 p6 p7 p8 p9 : Pos}
theorem pe_count {j : Nat} (hu : Y.A.units + 65 < cLine) (hk : Y.N[k]? = some fl) (vk : Vis Y.env.scope fl) (d1 : (fl == ("__debug__" : Str)) = false) (d2 : (fl == ("__classdict__" : Str)) = false) (line : (ap.endLine == cp.line) = true) :
    PE Y (.Call (.Attribute (.Name fl p1) "count" ap) [.Constant (.bool true) j p2] [] cp) (fun σ H Q => ∃ (l : Addr) (bs : List Bool), σ[k]? = some (some (.ref l)) ∧ H l = some (.lst (bs.map V.bl)) ∧ Q (.int ((bs.count true : Nat) : Int)) H) := by
  refine pe_mono (pe_bm PySem.F.plainAttrs_list PySem.F.slot_list_count PySem.F.type_list_count (mt_countB hu) (pe_var hk vk d1 d2) (pa_cons pe_bl pa_nil) (by rfl) (by rfl) line) fun σ H Q ⟨l, bs, h1, h2, q⟩ => ?_
  exact ⟨_, h1, .inl ⟨rfl, _, .inl (.inl h2)⟩, l, bs, rfl, rfl, h2, q⟩
theorem pe_index {j : Nat} (hk : Y.N[k]? = some fl) (vk : Vis Y.env.scope fl) (d1 : (fl == ("__debug__" : Str)) = false) (d2 : (fl == ("__classdict__" : Str)) = false) (line : (ap.endLine == cp.line) = true) :
    PE Y (.Call (.Attribute (.Name fl p1) "index" ap) [.Constant (.bool true) j p2] [] cp) (fun σ H Q => ∃ (l : Addr) (bs : List Bool) (m : Nat), σ[k]? = some (some (.ref l)) ∧ H l = some (.lst (bs.map V.bl)) ∧ bs.findIdx? id = some m ∧ Q (.int (m : Int)) H) := by
  refine pe_mono (pe_bm PySem.F.plainAttrs_list PySem.F.slot_list_index PySem.F.type_list_index mt_index (pe_var hk vk d1 d2) (pa_cons pe_bl pa_nil) (by rfl) (by rfl) line) fun σ H Q ⟨l, bs, m, h1, h2, hm, q⟩ => ?_
  obtain ⟨ml, mt, mn⟩ := List.findIdx?_eq_some_iff_getElem.mp hm
  refine ⟨_, h1, .inl ⟨rfl, _, .inl (.inl h2)⟩, l, bs.map V.bl, .bl true, m, .bl true, rfl, rfl, .inl (.inl h2), rfl, ?_, ?_, rfl, fun m' z hm' hz => ?_, q⟩
  · rw [List.all_map]
    exact List.all_eq_true.mpr fun x _ => rfl
  · rw [List.getElem?_map, List.getElem?_eq_getElem ml]
    have mt' : bs[m] = true := mt
    rw [mt']
    rfl
  · rw [List.getElem?_map, List.getElem?_eq_getElem (by omega)] at hz
    have := mn m' hm'
    cases Option.some.inj hz
    have e : bs[m'] = false := by simpa using this
    rw [e]
    rfl
theorem pt_cond {j1 j2 : Nat} {bv : Bool} (A : ErrAt Y er i a D) (hu : Y.A.units + 65 < cLine) (hk : Y.N[k]? = some fl) (vk : Vis Y.env.scope fl) (d1 : (fl == ("__debug__" : Str)) = false) (d2 : (fl == ("__classdict__" : Str)) = false) (line : (ap.endLine == cp.line) = true)
    (gv : Gl Y "ValueError") (mv : Y.mg "ValueError" = none) (kv : PySem.W.kitOne Y.K (.ref D) (.type "ValueError") = some bv) :
    PT Y (.BoolOp .And [.Compare (.Call (.Attribute (.Name fl p1) "count" ap) [.Constant (.bool true) j1 p2] [] cp) [.Eq] [.Constant (.int 1) j2 p3] p4, .Call (.Name "isinstance" p5) [.Name er p6, .Name "ValueError" p7] [] p8] p9)
      (fun σ H Q => σ[i]? = some (some (.ref a)) ∧ ∃ (l : Addr) (bs : List Bool), σ[k]? = some (some (.ref l)) ∧ H l = some (.lst (bs.map V.bl)) ∧ Q (decide (bs.count true = 1) && bv) H) := by
  have c1 : PT Y (.Compare (.Call (.Attribute (.Name fl p1) "count" ap) [.Constant (.bool true) j1 p2] [] cp) [.Eq] [.Constant (.int 1) j2 p3] p4) _ := pt_cmpR op_eq (pe_count hu hk vk d1 d2 line) pe_int (by rfl)
  have c2 : PT Y (.Call (.Name "isinstance" p5) [.Name er p6, .Name "ValueError" p7] [] p8) _ := pt_val (pe_callB A.call A.gi A.mi PyProof.Rows.boot_isinstance (pa_cons (pe_var A.hN A.vis A.n1 A.n2) (pa_cons (pe_bltn (v := .ty "ValueError") gv mv (by decide +kernel) rfl (by decide) (by decide)) pa_nil)) (by decide) (by decide))
  refine ⟨fun pins s σ H Q I ⟨h0, l, bs, h1, h2, q⟩ => ?_⟩
  refine ((pw_and c1 (pw_and1 c2)).pt).run pins s σ H Q I ⟨l, bs, h1, h2, rfl, _, rfl, ?_⟩
  have e : (decide (V.int ((bs.count true : Nat) : Int) = V.int 1)) = decide (bs.count true = 1) := by
    rw [dec_int]
    by_cases z : bs.count true = 1
    · rw [z]; rfl
    · rw [decide_eq_false z]
      refine Bool.eq_false_iff.mpr fun w => z ?_
      have := eq_of_beq w
      omega
  rw [e]
  by_cases z : bs.count true = 1
  · rw [decide_eq_true z, Bool.true_and] at q
    dsimp only
    rw [if_pos (decide_eq_true z)]
    exact ⟨_, h0, .ty "ValueError", .type "ValueError", bv, rfl, fun u e => e, kv, bv, rfl, q⟩
  · rw [decide_eq_false z, Bool.false_and] at q
    dsimp only
    rw [if_neg (by simpa using z)]
    exact q
end
end PL

set_option autoImplicit false
set_option linter.all false
set_option Elab.async false
set_option maxRecDepth 100000
set_option maxHeartbeats 4000000
/-! PT8: _law_word, the shape that tells. -/
namespace PL
open PySem PySem.Spec PyProof.Rows L2 L2H
variable [TabL]
/-- what is known of the own errors -/
structure ClsK (K : PySem.W.Frag) (mg : Str → Option Value) (force : Str) (names : List Str) : Prop where
  ve : mg "ValueError" = none
  isn : mg "isinstance" = none
  fo : ∃ CF, mg force = some (.ref CF) ∧ ∀ c ∈ names, ∃ Cl, mg c = some (.ref Cl) ∧ ExcC K Cl ∧ PySem.W.exmOne K (.ref Cl) (.ref CF) = some true ∧ PySem.W.kitOne K (.ref Cl) (.type "ValueError") = some true ∧ KBs K mg Cl names (names.map fun n => n == c)
def oneEach (names : List Str) : Bool := names.all fun c => (names.map fun n => n == c).count true == 1
def placeOf (names : List Str) (c : Str) : Nat := ((names.map fun n => n == c).findIdx? id).getD 0
def shA (names : List Str) : WSh := ⟨true, names.map fun c => (c, .tuple [.int (placeOf names c : Int)])⟩
def shB (names : List Str) (words : List Str) : WSh := ⟨false, names.map fun c => (c, .str (words.getD (placeOf names c) ""))⟩
theorem lookup_mapF {β : Type} {f : Str → β} {c : Str} {x : β} : ∀ {l : List Str}, (l.map fun c => (c, f c)).lookup c = some x → c ∈ l ∧ x = f c
  | [], h => by cases h
  | d :: l, h => by
    rw [List.map_cons, List.lookup_cons] at h
    cases e : (c == d) with
    | true =>
      rw [e] at h
      have := eq_of_beq e
      subst this
      exact ⟨List.mem_cons_self, (Option.some.inj h).symm⟩
    | false =>
      rw [e] at h
      obtain ⟨h1, h2⟩ := lookup_mapF h
      exact ⟨List.mem_cons_of_mem _ h1, h2⟩
theorem place_is {names : List Str} {c : Str} (h : (names.map fun n => n == c).count true = 1) : (names.map fun n => n == c).findIdx? id = some (placeOf names c) := by
  unfold placeOf
  cases e : (names.map fun n => n == c).findIdx? id with
  | some j => rfl
  | none =>
    have := List.findIdx?_eq_none_iff.mp e
    have z : (names.map fun n => n == c).count true = 0 := List.count_eq_zero.mpr fun hm => by simpa using this true hm
    omega
def isNm (x : Str) : Expr → Bool
  | .Name y _ => y == x
  | _ => false
def isSt (x : Str) : Expr → Bool
  | .Constant (.str y) _ _ => y == x
  | _ => false
def isTru : Expr → Bool
  | .Constant (.bool b) _ _ => b
  | _ => false
def isI1 : Expr → Bool
  | .Constant (.int i) _ _ => i == 1
  | _ => false
theorem isNm_is {x : Str} {e : Expr} (h : isNm x e = true) : ∃ p, e = .Name x p := by
  cases e <;> first | (cases h; done) | skip
  exact ⟨_, by rw [eq_of_beq h]⟩
theorem isSt_is {x : Str} {e : Expr} (h : isSt x e = true) : ∃ j p, e = .Constant (.str x) j p := by
  cases e <;> first | (cases h; done) | skip
  rename_i c _ _
  cases c <;> first | (cases h; done) | skip
  exact ⟨_, _, by rw [eq_of_beq h]⟩
theorem isTru_is {e : Expr} (h : isTru e = true) : ∃ j p, e = .Constant (.bool true) j p := by
  cases e <;> first | (cases h; done) | skip
  rename_i c _ _
  cases c <;> first | (cases h; done) | skip
  rename_i b
  have e : b = true := h
  subst e
  exact ⟨_, _, rfl⟩
theorem isI1_is {e : Expr} (h : isI1 e = true) : ∃ j p, e = .Constant (.int 1) j p := by
  cases e <;> first | (cases h; done) | skip
  rename_i c _ _
  cases c <;> first | (cases h; done) | skip
  exact ⟨_, _, by rw [eq_of_beq h]⟩
/-- flags.count(True) == 1 and isinstance(error, ValueError) -/
def condB (fl er : Str) : Expr → Bool
  | .BoolOp .And [.Compare (.Call (.Attribute f1 nm ap) [k1] [] cp) [.Eq] [k2] _, .Call i1 [e1, v1] [] _] _ => nm == "count" && ap.endLine == cp.line && isNm fl f1 && isTru k1 && isI1 k2 && isNm "isinstance" i1 && isNm er e1 && isNm "ValueError" v1
  | _ => false
/-- flags.index(True) -/
def indexB (fl : Str) : Expr → Bool
  | .Call (.Attribute f1 nm ap) [k1] [] cp => nm == "index" && ap.endLine == cp.line && isNm fl f1 && isTru k1
  | _ => false
section
variable {Y : Cx} {er fl : Str} {i k : Nat} {a D : Addr} {bv : Bool}
theorem pt_condB (A : ErrAt Y er i a D) (hu : Y.A.units + 65 < cLine) (hk : Y.N[k]? = some fl) (vk : Vis Y.env.scope fl) (d1 : (fl == ("__debug__" : Str)) = false) (d2 : (fl == ("__classdict__" : Str)) = false) (gv : Gl Y "ValueError") (mv : Y.mg "ValueError" = none) (kv : PySem.W.kitOne Y.K (.ref D) (.type "ValueError") = some bv) {e : Expr} (h : condB fl er e = true) :
    PT Y e (fun σ H Q => σ[i]? = some (some (.ref a)) ∧ ∃ (l : Addr) (bs : List Bool), σ[k]? = some (some (.ref l)) ∧ H l = some (.lst (bs.map V.bl)) ∧ Q (decide (bs.count true = 1) && bv) H) := by
  unfold condB at h
  split at h
  · simp only [Bool.and_eq_true] at h
    obtain ⟨⟨⟨⟨⟨⟨⟨h1, h2⟩, h3⟩, h4⟩, h5⟩, h6⟩, h7⟩, h8⟩ := h
    obtain ⟨_, rfl⟩ := isNm_is h3
    obtain ⟨_, _, rfl⟩ := isTru_is h4
    obtain ⟨_, _, rfl⟩ := isI1_is h5
    obtain ⟨_, rfl⟩ := isNm_is h6
    obtain ⟨_, rfl⟩ := isNm_is h7
    obtain ⟨_, rfl⟩ := isNm_is h8
    have e1 := eq_of_beq h1
    subst e1
    exact pt_cond A hu hk vk d1 d2 h2 gv mv kv
  · cases h
theorem pe_indexB (hk : Y.N[k]? = some fl) (vk : Vis Y.env.scope fl) (d1 : (fl == ("__debug__" : Str)) = false) (d2 : (fl == ("__classdict__" : Str)) = false) {e : Expr} (h : indexB fl e = true) :
    PE Y e (fun σ H Q => ∃ (l : Addr) (bs : List Bool) (m : Nat), σ[k]? = some (some (.ref l)) ∧ H l = some (.lst (bs.map V.bl)) ∧ bs.findIdx? id = some m ∧ Q (.int (m : Int)) H) ∧ unstar e = true := by
  unfold indexB at h
  split at h
  · simp only [Bool.and_eq_true] at h
    obtain ⟨⟨⟨h1, h2⟩, h3⟩, h4⟩ := h
    obtain ⟨_, rfl⟩ := isNm_is h3
    obtain ⟨_, _, rfl⟩ := isTru_is h4
    have e1 := eq_of_beq h1
    subst e1
    exact ⟨pe_index hk vk d1 d2 h2, rfl⟩
  · cases h
end
end PL

set_option autoImplicit false
set_option linter.all false
set_option Elab.async false
set_option maxRecDepth 100000
set_option maxHeartbeats 4000000
/-! PT9: _law_word, the shape that tells: the walk. -/
namespace PL
open PySem PySem.Spec PyProof.Rows L2 L2H
variable [TabL]
/-- the written form -/
def wordAB (force : Str) : List Stmt → Bool
  | [.Assign [t0] (.Tuple [o0] _ _) _, .Try [.Assign [t1] (.Tuple [o1, .Call c1 [] [] _] _ _) _] [.ExceptHandler (some f1) (some er) [.Assign [t2] (.Call lf [e2] [] _) _, .If cnd [.Assign [t3] (.Tuple [ix] _ _) _] [] _] _] [] [] _, .Return (some r1) _] =>
    isNm "found" t0 && isSt "other" o0 && isNm "found" t1 && isSt "told" o1 && isNm "call" c1 && isNm force f1 && er == "error" && isNm "flags" t2 && isNm "_law_flags" lf && isNm "error" e2 && condB "flags" "error" cnd && isNm "found" t3 && indexB "flags" ix && isNm "found" r1
  | _ => false
def NgA : List Str := ["call", "found", "error", "flags"]
/-- the scope of _law_word -/
structure WSc (sc : Scope) (force : Str) : Prop where
  l0 : sc.names.lookup ("call" : Str) = some .local
  l1 : sc.names.lookup ("found" : Str) = some .local
  l2 : sc.names.lookup ("error" : Str) = some .local
  l3 : sc.names.lookup ("flags" : Str) = some .local
  g1 : sc.names.lookup ("_law_flags" : Str) = some .globalImplicit
  g2 : sc.names.lookup ("isinstance" : Str) = some .globalImplicit
  g3 : sc.names.lookup ("ValueError" : Str) = some .globalImplicit
  g4 : sc.names.lookup force = some .globalImplicit
  db : (force == ("__debug__" : Str)) = false
section
variable {n1 n2 : List Str} {force : Str}
/-- the suite, by the class -/
def tSuiteA (X : Cx) (names : List Str) (a : Addr) (cls : Value) (d : Option Addr) : TS := fun D σ H => ∃ c Cl, c ∈ names ∧ d = none ∧ cls = .ref Cl ∧ X.mg c = some (.ref Cl) ∧ (σ.length = 4 → σ[2]? = some (some (.ref a)) ∧
  ∀ H' r p, Keeps NoM H H' → H' p = none → D.nx ((σ.set 3 (some (.ref r))).set 1 (some (.ref p))) (upd H' p (.tup [.int (placeOf names c : Int)])))
theorem suiteA {Y : Cx} {a : Addr} {oe : Obj} {cls : Value} {d : Option Addr} (hp : (a, oe) ∈ Y.pn) (hz : Zc cls d oe) (hf : ∃ vs, oe.data = .fields vs) (F : FlagsD Y.K Y.mg n1 n2) (CK : ClsK Y.K Y.mg force (n1 ++ n2)) (one : oneEach (n1 ++ n2) = true) (hl : (n1 ++ n2).length ≤ 1000) (room : RoomH 1 Y.A) (hN : Y.N = NgA) (sc : WSc Y.env.scope force)
    {t2 lf e2 cnd t3 ix : Expr} {ap cp ap2 ip p3 : Pos} {x3} (b1 : isNm "flags" t2 = true) (b2 : isNm "_law_flags" lf = true) (b3 : isNm "error" e2 = true) (b4 : condB "flags" "error" cnd = true) (b5 : isNm "found" t3 = true) (b6 : indexB "flags" ix = true) :
    PSs Y [.Assign [t2] (.Call lf [e2] [] cp) ap, .If cnd [.Assign [t3] (.Tuple [ix] x3 p3) ap2] [] ip] (tSuiteA Y (n1 ++ n2) a cls d) := by
  obtain ⟨q1, rfl⟩ := isNm_is b1
  obtain ⟨q2, rfl⟩ := isNm_is b2
  obtain ⟨q3, rfl⟩ := isNm_is b3
  obtain ⟨q5, rfl⟩ := isNm_is b5
  refine ⟨fun pins s σ H D I ⟨c, Cl, hc, e1, e2, hm, hq⟩ => ?_⟩
  have len : σ.length = 4 := by
    have := I.len
    rw [hN] at this
    exact this
  obtain ⟨h2, q⟩ := hq len
  subst e1 e2
  obtain ⟨CF, _, all⟩ := CK.fo
  obtain ⟨Cl', hm', EC, ex, ve, kb⟩ := all c hc
  rw [hm] at hm'
  cases hm'
  have nd : Y.N.Nodup := by rw [hN]; decide
  have i1 : Y.N[1]? = some ("found" : Str) := by rw [hN]; rfl
  have i2 : Y.N[2]? = some ("error" : Str) := by rw [hN]; rfl
  have i3 : Y.N[3]? = some ("flags" : Str) := by rw [hN]; rfl
  have un : Y.A.units + 65 < cLine := by
    have := room.un
    omega
  have A : ErrAt Y "error" 2 a Cl := ⟨i2, .inl sc.l2, by decide, by decide, sc.g2, CK.isn, call_isP hp EC hz hf⟩
  have P1 := ps_set (pos := ap) (pos' := q1) nd i3 (.inl sc.l3) (pe_flags (p := q2) (p2 := q3) (pos := cp) F hp EC hz hf kb (by rw [List.length_map]; exact hl) room sc.g1 i2 (.inl sc.l2) (by decide) (by decide)) rfl (.inr sc.l3)
  obtain ⟨px, pu⟩ := pe_indexB i3 (.inl sc.l3) (by decide) (by decide) b6
  have P2 := ps_if (pos := ip) (pt_condB A un i3 (.inl sc.l3) (by decide) (by decide) sc.g3 CK.ve ve b4) (pss_one (ps_set (pos := ap2) (pos' := q5) nd i1 (.inl sc.l1) (pe_tup (x1 := x3) (pos := p3) (pa_cons px pa_nil (star_cons pu))) rfl (.inr sc.l1))) (pss_nil (X := Y))
  have cnt : ((n1 ++ n2).map fun n => n == c).count true = 1 := eq_of_beq (List.all_eq_true.mp one c hc)
  have fi := place_is cnt
  refine (pss_cons P1 (pss_one P2)).run pins s σ H D I ⟨h2, fun H' r kk hr hh => ?_⟩
  have s3 : ∀ v : Option V, (σ.set 3 v)[3]? = some v := fun v => List.getElem?_set_self (by omega)
  refine ⟨by rw [List.getElem?_set_ne (by omega)]; exact h2, r, _, s3 _, hh, ?_⟩
  rw [cnt]
  refine ⟨r, _, _, s3 _, hh, fi, ?_⟩
  exact ⟨by rw [sizeLine_eq]; show 1 ≤ _; omega, fun p hp' => q H' r p kk hp'⟩
theorem pe_weak {Y : Cx} {e : Expr} {t : TE} (h : PE Y e t) : PE Y e (fun σ H Q => ∃ Q0 : VK, t σ H Q0 ∧ ∀ v H', Q0 v H' → Q v H') :=
  ⟨fun pins s σ H Q I ⟨Q0, h1, h2⟩ => thn (h.run pins s σ H Q0 I h1) fun u s1 ⟨v, H1, I1, r, q⟩ => ⟨v, H1, I1, r, h2 v H1 q⟩⟩
theorem wordA_gives {X : Cx} {sg : Scope} {g : Addr} {cdg : Value} {body : List Stmt} {q : Str} (hb : wordAB force body = true) (sc : WSc sg force) (F : FlagsD X.K X.mg n1 n2) (CK : ClsK X.K X.mg force (n1 ++ n2)) (one : oneEach (n1 ++ n2) = true) (hl : (n1 ++ n2).length ≤ 1000) (room : Room 2 X.A) :
    LamX.GivesTo X NgA "_law_word" sg g cdg body "call" q (TTw X.K X.mg (shA (n1 ++ n2))) := by
  intro f c' s H Q tl act hc h
  generalize hX : (cxOf C8.CX0 X.prog X.w X.K X.mg X.base NgA "_law_word" sg g cdg X.A X.stack s H C8.E0) = X1 at act ⊢
  have eK : X1.K = X.K := by rw [← hX]; rfl
  have eM : X1.mg = X.mg := by rw [← hX]; rfl
  have eN : X1.N = NgA := by rw [← hX]; rfl
  have eS : X1.env.scope = sg := by rw [← hX]; rfl
  have rm : RoomH 1 X1.A := by rw [← hX]; exact RoomH.deeper (roomH_of room) _
  have hst : X1.stack = X1.env :: X1.outer := by rw [← hX]; rfl
  have hfr : X1.env.frame = some X1.env.locals := by rw [← hX]; rfl
  rw [← eS] at sc
  rw [← eK, ← eM] at F CK
  have nd : X1.nox.N.Nodup := by show X1.N.Nodup; rw [eN]; decide
  have i0 : X1.nox.N[0]? = some ("call" : Str) := by show X1.N[0]? = _; rw [eN]; rfl
  have i1 : X1.nox.N[1]? = some ("found" : Str) := by show X1.N[1]? = _; rw [eN]; rfl
  have i2 : X1.nox.N[2]? = some ("error" : Str) := by show X1.N[2]? = _; rw [eN]; rfl
  unfold wordAB at hb
  split at hb
  · rename_i t0 o0 x0 p0 sp0 t1 o1 c1 cp1 x1 p1 sp1 f1 er t2 lf e2 cp2 sp2 cnd t3 ix x3 p3 sp3 ip hp tp r1 rp
    simp only [Bool.and_eq_true] at hb
    obtain ⟨⟨⟨⟨⟨⟨⟨⟨⟨⟨⟨⟨⟨b1, b2⟩, b3⟩, b4⟩, b5⟩, b6⟩, b7⟩, b8⟩, b9⟩, b10⟩, b11⟩, b12⟩, b13⟩, b14⟩ := hb
    obtain ⟨q1, rfl⟩ := isNm_is b1
    obtain ⟨j2, q2, rfl⟩ := isSt_is b2
    obtain ⟨q3, rfl⟩ := isNm_is b3
    obtain ⟨j4, q4, rfl⟩ := isSt_is b4
    obtain ⟨q5, rfl⟩ := isNm_is b5
    obtain ⟨q6, rfl⟩ := isNm_is b6
    have e7 := eq_of_beq b7
    subst e7
    obtain ⟨q14, rfl⟩ := isNm_is b14
    obtain ⟨CF, hCF, all⟩ := CK.fo
    have S1 := ps_set (X := X1.nox) (pos := sp0) (pos' := q1) nd i1 (.inl sc.l1) (pe_tup (x1 := x0) (pos := p0) (pa_cons (pe_str (x := "other") (j := j2) (pos := q2)) pa_nil)) rfl (.inr sc.l1)
    have S2 := ps_try_as (X := X1.nox) (n := "error") (i := 2) (c := .ref CF) (np := q6) (pos' := hp) (pos := tp) (b₀ := .Assign [t2] (.Call lf [e2] [] cp2) sp2) (suite := [.If cnd [.Assign [t3] (.Tuple [ix] x3 p3) sp3] [] ip]) (Wout := fun _ _ _ _ => False)
      (tb := fun W D σ H => ∃ (Ech : XK) (Q0 : VK), (∀ cls d σ' H', Ech cls d H' → W cls d σ' H') ∧ σ[0]? = some (some (.ref f)) ∧ H c' = some (LamX.CodeO c' q) ∧ tl Ech H Q0 ∧ ∀ v H', Q0 v H' → [V.str "told", v].length ≤ sizeLine ∧ ∀ p, H' p = none → D.nx (σ.set 1 (some (.ref p))) (upd H' p (.tup [.str "told", v])))
      (body := [.Assign [.Name "found" q3] (.Tuple [.Constant (.str "told") j4 q4, .Call (.Name "call" q5) [] [] cp1] x1 p1) sp1])
      (ts := fun a cls d => tSuiteA X1.nox (n1 ++ n2) a cls d) hst hfr nd i2 sc.l2 ⟨sc.g4, sc.db, .inl hCF⟩ LamX.takes0 (fun W pn xe tk _ => ?_) (fun a oe cls d pn hz hf => suiteA (Y := X1.nox.suite a ((a, oe) :: pn)) List.mem_cons_self hz hf F CK one hl ⟨rm.dp, rm.un⟩ eN sc b8 b9 b10 b11 b12 b13)
    have S3 := ps_ret (X := X1.nox) (pos := rp) (pe_var (pos := q14) i1 (.inl sc.l1) (by decide) (by decide))
    refine ⟨_, pss_cons S1 (pss_cons S2 (pss_one S3)), ?_⟩
    · refine ⟨by rw [sizeLine_eq]; show 1 ≤ _; omega, fun a0 ha0 => ?_⟩
      have k0 : Keeps NoM H (upd H a0 (.tup [.str "other"])) := Keeps.new ha0
      refine ⟨_, _, ?_, by rfl, by rw [upd_ne fun z => by rw [z] at hc; rw [ha0] at hc; cases hc]; exact hc, h _ k0, ?_⟩
      · intro cls d σ' H' ⟨ed, c, x, hx, hm, hq⟩
        obtain ⟨hc1, hx1⟩ := lookup_mapF hx
        subst hx1
        obtain ⟨Cl, hm', _, ex, _, _⟩ := all c hc1
        rw [eM] at hm'
        rw [hm] at hm'
        cases hm'
        refine ⟨true, ex, fun _ a ha => ⟨c, Cl, hc1, ed, rfl, by show X1.mg c = _; rw [eM]; exact hm, fun len => ⟨?_, fun H'' r p kk hp' => ?_⟩⟩, fun z => by cases z⟩
        · rw [List.length_set] at len
          exact List.getElem?_set_self (by omega)
        · rw [List.length_set] at len
          have at1 : ((((σ'.set 2 (some (V.ref a))).set 3 (some (.ref r))).set 1 (some (.ref p))).set 2 none)[1]? = some (some (.ref p)) := by
            rw [List.getElem?_set_ne (by omega), List.getElem?_set_self (by rw [List.length_set, List.length_set]; omega)]
          refine ⟨.ref p, at1, hq _ _ (kk.trans (Keeps.new hp')) fun Y hY => ?_⟩
          exact .tup (fun z => fre hp' (kk.there p (hY p z))) (.inl upd_same) (.cons (.int _) .nil)
      · intro v H' hq
        refine ⟨by rw [sizeLine_eq]; show 2 ≤ _; omega, fun p hp' => ?_⟩
        refine ⟨.ref p, by rfl, hq _ _ (Keeps.new hp') ?_⟩
        rw [if_pos (show (shA (n1 ++ n2)).told = true from rfl)]
        exact ⟨p, rfl, hp', .inl upd_same⟩
    · refine ⟨fun pins s' σ H' D I ⟨Ech, Q0, hW, h1, h2, h3, h4⟩ => ?_⟩
      have hp := pe_weak (act W pn xe Ech q5 cp1 tk hW)
      have P := ps_set (X := X1.nox.tr pn xe) (pos := sp1) (pos' := q3) nd i1 (.inl sc.l1) (pe_tup (x1 := x1) (pos := p1) (pa_cons (pe_str (x := "told") (j := j4) (pos := q4)) (pa_cons hp pa_nil))) rfl (.inr sc.l1)
      exact (pss_one P).run pins s' σ H' D I ⟨Q0, ⟨h1, h2, h3⟩, h4⟩
  · cases hb
end
end PL

set_option autoImplicit false
set_option linter.all false
set_option Elab.async false
set_option maxRecDepth 100000
set_option maxHeartbeats 2000000
/-! PT10: what is seen at the top's end: the defs, the own errors, the tables. -/
namespace PL
open PySem PySem.Spec PyProof.Rows L2 He
abbrev InW : Type := Option (Str × Str × Arguments × FuncBody × Scope × Addr × List Str × Addr)
/-- an own error class, the text of its __init__ -/
structure ErD where
  name : Str
  qual : Str
  params : Arguments
  body : List Stmt
  scope : Scope
def ErD.val (d : ErD) : InW := some ("__init__", d.qual, d.params, .stmts d.body, d.scope, mainGlobals, ["__class__"], builtinsNs)
def iniA (K : PySem.W.Frag) (x : Str) : Addr := ma K (ga K x) "__init__"
def initW (K : PySem.W.Frag) (x : Str) : InW := match K.lookup (iniA K x) with
  | some ⟨_, _, .func fd, _⟩ => some (fd.name, fd.qualname, fd.params, fd.body, fd.scope, fd.globals, fd.closure.map (·.1), fd.builtins)
  | _ => none
abbrev AlE : Type := AlD × List InW × Bool
def asE (g : Addr → Option Obj) : Nat → List Addr
  | 0 => [mainGlobals, cStatics]
  | n + 1 => growD g (asE g n)
def obsE (n : Nat) (fa : List Fa) (fn : List DefD) (er : List ErD) (tf : List Defn) (ex : PySem.W.Frag → Bool) (g : Addr → Option Obj) : AlE :=
  (obsD fa fn (frT g (asE g n)), er.map (fun d => initW (frT g (asE g n)) d.name), ex (frT g (asE g n)) && tabsB g tf (frT g (asE g n)))
def valE (fn : List DefD) (er : List ErD) : AlE := (valD fn, er.map ErD.val, true)
structure SaysE (fa : List Fa) (fn : List DefD) (er : List ErD) (tf : List Defn) (ex : PySem.W.Frag → Bool) (h : Heap) (K : PySem.W.Frag) : Prop where
  d : SaysD fa fn K
  e : er.map (fun d => initW K d.name) = er.map ErD.val
  more : ex K = true
  tabs : ∀ p ∈ tf, PySem.W.codeHdIn K (cT K p).1 (cT K p).2 = true ∧ K.lookup (cT K p).2 = none ∧ h.get? (cT K p).2 = some { cls := .none, data := .fields #[] }
theorem saysE_of {n : Nat} {fa : List Fa} {fn : List DefD} {er : List ErD} {tf : List Defn} {ex : PySem.W.Frag → Bool} {h : Heap} (q : obsE n fa fn er tf ex h.get? = valE fn er) : SaysE fa fn er tf ex h (frT h.get? (asE h.get? n)) := by
  have q3 : (ex (frT h.get? (asE h.get? n)) && tabsB h.get? tf (frT h.get? (asE h.get? n))) = true := congrArg (fun z : AlE => z.2.2) q
  obtain ⟨m1, m2⟩ := ba q3
  refine ⟨congrArg (fun z : AlE => z.1) q, congrArg (fun z : AlE => z.2.1) q, m1, fun p hp => ?_⟩
  obtain ⟨t1, t2⟩ := ba (List.all_eq_true.mp m2 p hp)
  generalize (cT (frT h.get? (asE h.get? n)) p).2 = P at t1 t2 ⊢
  split at t2
  · rename_i o eo
    exact ⟨t1, frT_none eo t2, by rw [eo, emptyTab_eq t2]⟩
  · cases t2
def hookE (n : Nat) (fa : List Fa) (fn : List DefD) (er : List ErD) (tf : List Defn) (ex : PySem.W.Frag → Bool) : PySem.W.Hook where
  α := AlE
  obs := fun s => obsE n fa fn er tf ex s.heap.get?
  val := fun _ => valE fn er
  says := fun _ h => ∃ K : PySem.W.Frag, K.In h ∧ SaysE fa fn er tf ex h K
  of := fun _ _ e => ⟨_, frT_in, saysE_of e⟩
  keeps := fun _ _ _ ⟨K, hK, c⟩ k => ⟨K, PySem.W.Frag.In.keeps hK k, ⟨c.d, c.e, c.more, fun p hp => ⟨(c.tabs p hp).1, (c.tabs p hp).2.1, k _ _ (c.tabs p hp).2.2⟩⟩⟩
theorem obsE_eq {n : Nat} {fa : List Fa} {fn : List DefD} {er : List ErD} {tf : List Defn} {ex : PySem.W.Frag → Bool} {g : Addr → Option Obj} {s : Shared} (h : ∀ a, g a = s.heap.get? a) : obsE n fa fn er tf ex g = (hookE n fa fn er tf ex).obs s := by
  have e : g = s.heap.get? := funext h
  subst e
  rfl
/-! ### an own error class -/
def clsB (K : PySem.W.Frag) (C : Addr) : Bool := match K.lookup C with
  | some ⟨.type t, _, .cls cd, sl⟩ => decide (t = "type") && cd.hasDict && !cd.hasDel && (match cd.mro with
    | .ref c :: bm => decide (c = C) && PySem.HandSPX.refsVE bm
    | _ => false) && decide (sl.size = 6) && decide (sl[4]? = some (some (.builtin "ValueError.__new__")))
  | _ => false
def iniB (K : PySem.W.Frag) (C : Addr) (f : Addr) (qual file : Str) : Bool := match K.lookup f with
  | some ⟨_, _, .func fd, _⟩ => decide (fd.defaults = .none) && (match fd.code with
    | .ref c => PySem.W.codeIn K (.ref c) qual && (match K.lookup c with
      | some ⟨_, _, .fields vs, _⟩ => (match (vs[2]? : Option Value) with
        | some (.str y _) => y == file
        | _ => false)
      | _ => false)
    | _ => false) && (match fd.closure with
      | [(_, cc)] => (match K.lookup cc with
        | some ⟨_, _, .cell (some v), _⟩ => decide (v = .ref C)
        | _ => false)
      | _ => false)
  | _ => false
def errB (K : PySem.W.Frag) (x qual file : Str) : Bool :=
  clsB K (ga K x) && decide (PySem.W.subIn K (.ref (ga K x)) (.type "BaseException") = some true) && decide (PySem.W.subIn K (.ref (ga K x)) (.type "ValueError") = some true) &&
  decide (PySem.W.typeIn K (.ref (ga K x)) = some (.type "type")) && PySem.W.keepIn K (.ref (ga K x)) && decide (PySem.W.mroIn K (ga K x) (.ref (ga K x)) = some true) &&
  decide (PySem.W.ks_superIn K (ga K x) (ga K x) "__init__" = some (some (.builtin "ValueError.__init__"))) && eqO (PySem.W.findIn K (.ref (ga K x)) "__init__") (some (some (.ref (iniA K x)))) &&
  decide (PySem.W.typeIn K (.ref (iniA K x)) = some (.type "function")) && iniB K (ga K x) (iniA K x) qual file && (PySem.W.clsIn K (ga K x)).isSome
theorem clsB_ok {K : PySem.W.Frag} {C : Addr} (h : clsB K C = true) : ∃ nm q N bs bm sn sub ab col dd k0 k1 k2 k3 k5, K.lookup C = some (excClassObj nm q C N bs bm true sn sub ab col dd k0 k1 k2 k3 k5 "ValueError.__new__") ∧ PySem.HandSPX.refsVE bm = true := by
  unfold clsB at h
  split at h
  · rename_i t dd cd sl e
    obtain ⟨nm, bs, mro, N, q, hd, sn, sub, ab, col, del⟩ := cd
    simp only [Bool.and_eq_true] at h
    obtain ⟨⟨⟨⟨⟨h1, h2⟩, h3⟩, h4⟩, h5⟩, h6⟩ := h
    split at h4
    · rename_i c bm
      obtain ⟨h7, h8⟩ := ba h4
      have e1 := of_decide_eq_true h1
      have e7 := of_decide_eq_true h7
      have e2 : hd = true := h2
      have e3 : del = false := by simpa using h3
      have e5 := of_decide_eq_true h5
      have e6 := of_decide_eq_true h6
      subst e1 e2 e3 e7
      obtain ⟨l⟩ := sl
      rcases l with _ | ⟨k0, _ | ⟨k1, _ | ⟨k2, _ | ⟨k3, _ | ⟨k4, _ | ⟨k5, _ | ⟨k6, l⟩⟩⟩⟩⟩⟩⟩ <;> first | (simp at e5; done) | skip
      have e6 : k4 = some (.builtin "ValueError.__new__") := by simpa using e6
      subst e6
      exact ⟨nm, q, N, bs, bm, sn, sub, ab, col, dd, k0, k1, k2, k3, k5, e, h8⟩
    · cases h4
  · cases h
theorem errB_ok {P : Program} {K : PySem.W.Frag} {d : ErD} (h : errB K d.name d.qual P.main.file = true) (e : initW K d.name = d.val) (T : IniT "__init__" d.qual d.params d.body d.scope) (ht : (P.main.scope.names.lookup ("super" : Str)).isSome = false) : ErrC P K (ga K d.name) := by
  unfold errB at h
  simp only [Bool.and_eq_true] at h
  obtain ⟨⟨⟨⟨⟨⟨⟨⟨⟨⟨h1, h2⟩, h3⟩, h4⟩, h5⟩, h6⟩, h7⟩, h8⟩, h9⟩, h10⟩, h11⟩ := h
  refine ⟨clsB_ok h1, of_decide_eq_true h2, of_decide_eq_true h3, of_decide_eq_true h4, h5, of_decide_eq_true h6, of_decide_eq_true h7, ht, ?_⟩
  unfold iniB at h10
  unfold initW at e
  split at h10
  · rename_i oc od fd osl lk
    rw [lk] at e
    simp only [Bool.and_eq_true] at h10
    obtain ⟨⟨i1, i2⟩, i3⟩ := h10
    obtain ⟨n1, n2, n3, n4, n5, n6, n7, n8, n9, n10, n11, n12, n13, n14, n15⟩ := fd
    have e2 : (some (n1, n2, n3, n4, n5, n6, n7.map (·.1), n15) : InW) = (some ("__init__", d.qual, d.params, .stmts d.body, d.scope, mainGlobals, ["__class__"], builtinsNs) : InW) := e
    simp only [Option.some.injEq, Prod.mk.injEq] at e2
    obtain ⟨r1, r2, r3, r4, r5, r6, r7, r8⟩ := e2
    subst r1 r2 r3 r4 r5 r6 r8
    dsimp only at i1 i2 i3
    split at i3
    · rename_i y cc
      have ey : y = "__class__" := by simpa using r7
      subst ey
      split at i3
      · rename_i q1 q2 v q3 hcell
        have ev := of_decide_eq_true i3
        subst ev
        split at i2
        · rename_i c
          obtain ⟨c1, c2⟩ := ba i2
          split at c2
          · rename_i w1 w2 vs w3 hcode
            split at c2
            · rename_i file tf hvs
              obtain ⟨cdD, hD⟩ := Option.isSome_iff_exists.mp h11
              have ef := eq_of_beq c2
              subst ef
              exact ⟨iniA K d.name, c, cc, "__init__", d.qual, d.params, d.body, d.scope, n8, n9, n10, n11, n14, oc, w1, q1, n12, od, w2, q2, osl, w3, q3, vs, P.main.file, tf, cdD, eqO_ok h8, of_decide_eq_true h9, lk, of_decide_eq_true i1, c1, hcode, hvs, by simp, hcell, hD, T⟩
            · cases c2
          · cases c2
        · cases i2
      · cases i3
    · cases i3
  · cases h10
end PL

set_option autoImplicit false
set_option linter.all false
set_option Elab.async false
set_option maxRecDepth 100000
set_option maxHeartbeats 2000000
/-! PT11: what the hook tells, as the machine's facts. -/
namespace PL
open PySem PySem.Spec PyProof.Rows L2 He
def excCB (K : PySem.W.Frag) (C : Addr) : Bool := eqO (PySem.W.findIn K (.ref C) "__getattribute__") (some (some (.builtin "BaseException.__getattribute__"))) && eqO (PySem.W.findIn K (.ref C) "__getattr__") (some none) && decide (PySem.W.subIn K (.ref C) (.type "BaseException") = some true) && PySem.W.hasDictIn K C &&
  eqO (PySem.W.findIn K (.ref C) "__class__") (some (some (.builtin "object.__class__"))) && eqO (PySem.W.specialIn K (.builtin "object.__class__") "__get__") (some (some (.builtin "getset_descriptor.__get__"))) && decide (PySem.W.takesIn K (.builtin "object.__class__") = some true) && decide (PySem.W.mroIn K C (.type "object") = some true)
theorem excCB_ok {K : PySem.W.Frag} {C : Addr} (h : excCB K C = true) : ExcC K C := by
  unfold excCB at h
  simp only [Bool.and_eq_true] at h
  obtain ⟨⟨⟨⟨⟨⟨⟨h1, h2⟩, h3⟩, h4⟩, h5⟩, h6⟩, h7⟩, h8⟩ := h
  exact ⟨eqO_ok h1, eqO_ok h2, of_decide_eq_true h3, h4, eqO_ok h5, eqO_ok h6, of_decide_eq_true h7, of_decide_eq_true h8⟩
def clsKB (K : PySem.W.Frag) (force : Str) (names : List Str) : Bool := names.all fun c => excCB K (ga K c) && decide (PySem.W.exmOne K (.ref (ga K c)) (.ref (ga K force)) = some true) && decide (PySem.W.kitOne K (.ref (ga K c)) (.type "ValueError") = some true) &&
  names.all fun n => decide (PySem.W.kitOne K (.ref (ga K c)) (.ref (ga K n)) = some (n == c))
theorem kbs_of {K : PySem.W.Frag} {mg : Str → Option Value} {D : Addr} {g : Str → Bool} : ∀ {ns : List Str}, (∀ n ∈ ns, mg n = some (.ref (ga K n)) ∧ PySem.W.kitOne K (.ref D) (.ref (ga K n)) = some (g n)) → KBs K mg D ns (ns.map g)
  | [], _ => .nil
  | n :: ns, h => .cons ⟨_, h n List.mem_cons_self⟩ (kbs_of fun m hm => h m (List.mem_cons_of_mem _ hm))
theorem clsK_ok {K : PySem.W.Frag} {mg : Str → Option Value} {force : Str} {names : List Str} (h : clsKB K force names = true) (hm : ∀ n ∈ names, mg n = some (.ref (ga K n))) (hf : mg force = some (.ref (ga K force))) (ve : mg "ValueError" = none) (isn : mg "isinstance" = none) : ClsK K mg force names := by
  refine ⟨ve, isn, _, hf, fun c hc => ?_⟩
  have q := List.all_eq_true.mp h c hc
  simp only [Bool.and_eq_true] at q
  obtain ⟨⟨⟨q1, q2⟩, q3⟩, q4⟩ := q
  exact ⟨_, hm c hc, excCB_ok q1, of_decide_eq_true q2, of_decide_eq_true q3, kbs_of fun n hn => ⟨hm n hn, of_decide_eq_true (List.all_eq_true.mp q4 n hn)⟩⟩
/-! ### the tables -/
def lamQ (f : Str) : Str := f ++ ".<locals>." ++ "<lambda>"
def tabsE (K : PySem.W.Frag) (tf : List Defn) : List (Addr × Str) := tf.map fun d => ((cT K d).2, lamQ d.1)
def codeRefB (K : PySem.W.Frag) (d : Defn) : Bool := match K.lookup (fAd K d) with
  | some ⟨_, _, .func fd, _⟩ => (match fd.code with
    | .ref _ => true
    | _ => false)
  | _ => false
def tabsB2 (K : PySem.W.Frag) (tf : List Defn) : Bool := tf.all fun d => codeRefB K d && d.2.isNone && tf.all fun e => !decide ((cT K d).2 = (cT K e).2) || d.1 == e.1
theorem lamAll_of {K : PySem.W.Frag} {mg : Str → Option Value} {base : Heap} {defs : Str → Option Def} {tf : List Defn} (hb : tabsB2 K tf = true) (glo : ∀ d ∈ tf, mg d.1 = some (.ref (ga K d.1))) (mem : ∀ f, lamDefs.contains f = true → (defs f ≠ none ∨ f = "law") → (f, none) ∈ tf)
    (TBs : ∀ d ∈ tf, LamX.TabB base mg (cT K d).1 (cT K d).2) : @LamAll ⟨tabsE K tf⟩ K mg base defs := by
  intro f fa oc od fd osl hl hd hm lk
  have hd := mem f hl hd
  have q := List.all_eq_true.mp hb _ hd
  simp only [Bool.and_eq_true] at q
  obtain ⟨⟨q1, _⟩, q3⟩ := q
  have e := glo _ hd
  rw [hm] at e
  have ea : fa = ga K f := by cases e; rfl
  subst ea
  have lk2 : K.lookup (fAd K (f, none)) = some ⟨oc, od, .func fd, osl⟩ := lk
  unfold codeRefB at q1
  rw [lk2] at q1
  have TB := TBs _ hd
  have hc : ∃ c, fd.code = .ref c := by
    dsimp only at q1
    split at q1
    · rename_i c ec
      exact ⟨c, ec⟩
    · cases q1
  obtain ⟨c, ec⟩ := hc
  have ecc : (cT K (f, none)).1 = c := codeOf_eq lk2 ec
  refine ⟨c, (cT K (f, none)).2, ec, by rw [← ecc]; exact TB, ?_, fun p hp h1 => ?_⟩
  · exact List.mem_map.mpr ⟨(f, none), hd, rfl⟩
  · obtain ⟨d, hd2, e2⟩ := List.mem_map.mp (show p ∈ tabsE K tf from hp)
    have z := List.all_eq_true.mp q3 d hd2
    rw [← e2] at h1
    have h1 : (cT K d).2 = (cT K (f, none)).2 := h1
    rw [Bool.or_eq_true] at z
    rcases z with z | z
    · rw [decide_eq_true h1.symm] at z
      cases z
    · have z := eq_of_beq z
      rw [← e2]
      show lamQ d.1 = _
      rw [← z]
      rfl
theorem tabs_start {K : PySem.W.Frag} {tf : List Defn} {H : Hp} (h : ∀ p ∈ tf.map (cT K), H p.2 = some (.tbl #[])) : LamX.Tabs (tabsE K tf) H := fun p hp => by
  obtain ⟨d, hd, rfl⟩ := List.mem_map.mp hp
  exact LamX.TabS.nil (h _ (List.mem_map.mpr ⟨d, hd, rfl⟩))
/-- all that the hook looks at besides the defs -/
def exB (tf : List Defn) (er : List ErD) (file force : Str) (names : List Str) (K : PySem.W.Frag) : Bool :=
  decide (PySem.W.nsIn K cStatics "thirdparty.any" = some none) && er.all (fun d => errB K d.name d.qual file) && clsKB K force names && tabsB2 K tf
/-! ### the def of words -/
variable [TabL]
structure WordD (K : PySem.W.Frag) (mg : Str → Option Value) (force : Str) : Prop where
  ex : ∃ (g : Addr) (fd : FuncData) (params : Arguments) (body : List Stmt) (scope : Scope), FunD K "_law_word" "_law_word" params body scope [] [] g fd ∧ FnScope NgA ["call"] scope ∧ wordAB force body = true ∧ WSc scope force ∧ mg "_law_word" = some (.ref g) ∧ L2.Binds K fd ["call"] []
theorem wordOk_of {X : Cx} {n1 n2 : List Str} {force : Str} (W : WordD X.K X.mg force) (F : FlagsD X.K X.mg n1 n2) (CK : ClsK X.K X.mg force (n1 ++ n2)) (one : oneEach (n1 ++ n2) = true) (hl : (n1 ++ n2).length ≤ 1000) (room : Room 2 X.A) : WordOk X "_law_word" (shA (n1 ++ n2)) := by
  obtain ⟨g, fd, params, body, scope, FD, S, hb, sc, hm, bind⟩ := W.ex
  have kp := FD.kp
  obtain ⟨oc, od, dV, kV, doc, pm, an, cdv, ct, osl, rfl, lk, hcd, _, _⟩ := FD.ex
  exact ⟨g, "call", params, body, scope, dV, kV, doc, pm, cdv, ct, oc, an, od, osl, NgA, hm, kp, lk, hcd, bind, S, rfl, .inl sc.l0, by decide, by decide, fun q => wordA_gives hb sc F CK one hl room⟩
end PL

set_option autoImplicit false
set_option linter.all false
set_option Elab.async false
set_option maxRecDepth 100000
set_option maxHeartbeats 2000000
/-! PT12: an own error's __init__, by its text. -/
namespace PL
open PySem PySem.Spec PyProof.Rows L2 He
def iniTB (params : Arguments) (body : List Stmt) (scope : Scope) : Bool :=
  (match params with
    | ⟨[], [ar], none, [], [], none, []⟩ => ar.arg == "self" && scope.names.lookup ar.arg == some .local
    | _ => false) &&
  (match body with
    | [.Expr (.Call (.Attribute (.Call (.Name a _) [] [] _) m p2) [] [] p3) _] => a == "super" && m == "__init__" && p2.endLine == p3.line
    | _ => false) &&
  scope.names.lookup ("super" : Str) == some .globalImplicit && scope.names.lookup ("__class__" : Str) == some .free && scope.kind == .function && scope.names.all (fun x => !(x.2 == .cell)) && !scope.isCoroutine && !scope.isGenerator
theorem iniT_of {qual : Str} {params : Arguments} {body : List Stmt} {scope : Scope} (h : iniTB params body scope = true) : IniT "__init__" qual params body scope := by
  unfold iniTB at h
  simp only [Bool.and_eq_true] at h
  obtain ⟨⟨⟨⟨⟨⟨⟨h1, h2⟩, h3⟩, h4⟩, h5⟩, h6⟩, h7⟩, h8⟩ := h
  split at h1
  · rename_i ar
    obtain ⟨h0, h1⟩ := ba h1
    split at h2
    · rename_i a p0 p1 m p2 p3 p4
      simp only [Bool.and_eq_true] at h2
      obtain ⟨⟨i1, i2⟩, i3⟩ := h2
      have e1 := eq_of_beq i1
      have e2 := eq_of_beq i2
      subst e1 e2
      refine ⟨⟨p0, p1, p2, p3, p4, ar, rfl, rfl, fun dV kV doc pm cdv ct an cc s u hd => by
        subst hd
        have e3 := eq_of_beq h0
        clear h0 h1
        cases ar
        dsimp only at e3
        subst e3
        exact BindsTo.of_eq rfl, eq_of_beq h1, fun env => ⟨plainOf (.Call (.Name "super" p0) [] [] p1) env, ?_⟩, fun env => rfl⟩, eq_of_beq h3, eq_of_beq h4, eq_of_beq h5, fun x hx z => ?_, by simpa using h7, by simpa using h8⟩
      · show (do
          let ov ← attributeBase (.Call (.Name "super" p0) [] [] p1) "__init__" env (eval (.Call (.Name "super" p0) [] [] p1) env)
          standAt p2.atName
          methodCall (.Call (.Name "super" p0) [] [] p1) "__init__" p2 p3 env ov 0 (backTo p3 (starEach [] env)) []) = _
        simp only [mcall_line (show methodCallForm 0 (backTo p3 (starEach [] env)) [] = true from rfl) i3]
      · have q := List.all_eq_true.mp h6 x hx
        rw [z] at q
        cases q
    · cases h2
  · cases h1
end PL

set_option autoImplicit false
set_option linter.all false
set_option Elab.async false
set_option maxRecDepth 100000
set_option maxHeartbeats 2000000
/-! PT13: the hook's facts, put together. -/
namespace PL
open PySem PySem.Spec PyProof.Rows L2 He
/-- a class's first def -/
def firstDef : Stmt → Stmt
  | .ClassDef _ _ _ body _ _ _ _ _ _ p => body.getD 0 (.Pass p)
  | s => s
section
variable {fa : List Fa} {fn : List DefD} {er : List ErD} {tf : List Defn} {ex : PySem.W.Frag → Bool} {h : Heap} {K : PySem.W.Frag} {mg : Str → Option Value} {file force : Str} {names : List Str}
theorem exB_ok (q : exB tf er file force names K = true) : PySem.W.nsIn K cStatics "thirdparty.any" = some none ∧ (∀ d ∈ er, errB K d.name d.qual file = true) ∧ clsKB K force names = true ∧ tabsB2 K tf = true := by
  unfold exB at q
  simp only [Bool.and_eq_true] at q
  obtain ⟨⟨⟨q1, q2⟩, q3⟩, q4⟩ := q
  exact ⟨of_decide_eq_true q1, fun d hd => List.all_eq_true.mp q2 d hd, q3, q4⟩
theorem SaysE.err {P : Program} (c : SaysE fa fn er tf (exB tf er P.main.file force names) h K) (hi : er.all (fun d => iniTB d.params d.body d.scope) = true) (ht : (P.main.scope.names.lookup ("super" : Str)).isSome = false) : ∀ d ∈ er, ErrC P K (ga K d.name) := fun d hd =>
  errB_ok ((exB_ok c.more).2.1 d hd) (List.map_inj_left.mp c.e d hd) (iniT_of (List.all_eq_true.mp hi d hd)) ht
theorem SaysE.opq {base : Heap} (c : SaysE fa fn er tf (exB tf er file force names) h K) (X : K.In base) : Opq base := ⟨K, X, (exB_ok c.more).1⟩
theorem SaysE.lam {defs : Str → Option Def} {base : Heap} (c : SaysE fa fn er tf (exB tf er file force names) h K) (glo : ∀ d ∈ tf, mg d.1 = some (.ref (ga K d.1))) (mem : ∀ f, lamDefs.contains f = true → (defs f ≠ none ∨ f = "law") → (f, none) ∈ tf)
    (TBs : ∀ d ∈ tf, LamX.TabB base mg (cT K d).1 (cT K d).2) : @LamAll ⟨tabsE K tf⟩ K mg base defs := lamAll_of (exB_ok c.more).2.2.2 glo mem TBs
theorem lawAtS_of {l : PySem.W.OpenLaw} {w : World} {k : Nat} {f : Addr} {fd : FuncData} (X : K.In h) (c : SaysE fa fn er tf ex h K) (bind : ∀ (s : Shared) (u : Value), BindsTo s fd ⟨[u], []⟩ [("script", u)])
    (hF : ∀ base : Heap, K.In base → base.Ns mainGlobals mg → (∀ d ∈ tf, LamX.TabB base mg (cT K d).1 (cT K d).2) → FnOk l.prog w K mg base CX0 k f fd ["script"] (@spLaw ⟨tabsE K tf⟩ K)) : LamX.LawAtS l w K CX0 k 63 "script" mg f h := by
  refine ⟨fd, tf.map (cT K), @spLaw ⟨tabsE K tf⟩ K, fun p hp => ?_, fun p hp => ?_, fun p hp => ?_, bind, fun H a ns hl _ ht hs => ⟨a, ns, rfl, tabs_start ht, hs, hl, fun _ => rfl⟩, fun base hb hn hT => hF base hb hn fun d hd => hT _ (List.mem_map.mpr ⟨d, hd, rfl⟩)⟩
  · obtain ⟨d, hd, rfl⟩ := List.mem_map.mp hp
    exact (c.tabs d hd).2.2
  · obtain ⟨d, hd, rfl⟩ := List.mem_map.mp hp
    exact (c.tabs d hd).2.1
  · obtain ⟨d, hd, rfl⟩ := List.mem_map.mp hp
    exact PySem.W.codeHd_of_K X (c.tabs d hd).1
end
end PL

set_option autoImplicit false
set_option linter.all false
set_option Elab.async false
set_option maxRecDepth 100000
set_option maxHeartbeats 1000000
/-! PX0: symbolic runs of the evaluator, for all laws. -/
namespace PL
open PySem PL
theorem sz0 : szOk 0 = true := by decide
theorem sz1 : szOk 1 = true := by decide
theorem sz2 : szOk 2 = true := by decide
theorem sz3 : szOk 3 = true := by decide
theorem sz4 : szOk 4 = true := by decide
theorem sz5 : szOk 5 = true := by decide
theorem sz6 : szOk 6 = true := by decide
theorem sz7 : szOk 7 = true := by decide
theorem sz8 : szOk 8 = true := by decide
theorem sz9 : szOk 9 = true := by decide
theorem sz10 : szOk 10 = true := by decide
theorem sz11 : szOk 11 = true := by decide
theorem sz12 : szOk 12 = true := by decide
/-! from Q0 -/
theorem callD_ret {defs : Str → Option Def} {N n : Nat} {f : Str} {D : Def} {ds os : List PyData} {r : Slot} {ρ : PL.Env} (hD : defs f = some D) (hl : ds.length = D.np) (h : execs ⟨defs, callD defs N n⟩ N D.body (entry D ds) = .rt r ρ) (ho : outsOf ρ D.ios = some os) :
    callD defs N (n + 1) f ds = .ok r os := by
  rw [callD, hD]
  dsimp only
  rw [if_pos hl, h]
  dsimp only
  rw [ho]
theorem callD_nx {defs : Str → Option Def} {N n : Nat} {f : Str} {D : Def} {ds os : List PyData} {ρ : PL.Env} (hD : defs f = some D) (hl : ds.length = D.np) (h : execs ⟨defs, callD defs N n⟩ N D.body (entry D ds) = .nx ρ) (ho : outsOf ρ D.ios = some os) :
    callD defs N (n + 1) f ds = .ok (.c .none) os := by
  rw [callD, hD]
  dsimp only
  rw [if_pos hl, h]
  dsimp only
  rw [ho]
theorem it_lst (xs : List PyData) : itemsD .plain [.list xs] = some xs := rfl
theorem it_tpl (xs : List PyData) : itemsD .plain [.tuple xs] = some xs := rfl
theorem it_r1 (xs : List PyData) : itemsD .r1 xs = rg1 (ints? xs) := rfl
theorem it_r2 (xs : List PyData) : itemsD .r2 xs = rg2 (ints? xs) := rfl
theorem it_r3 (xs : List PyData) : itemsD .r3 xs = rg3 (ints? xs) := rfl
theorem it_enum (xs : List PyData) : itemsD .enum [.list xs] = some (enumFrom 0 xs) := rfl
theorem it_zip (xs ys : List PyData) : itemsD .zip [.list xs, .list ys] = some (zip2 xs ys) := rfl
theorem ev_lc (G : PL.Ctx) (elt : Ex) (tg : Tg) (k : IK) (es cond : List Ex) (own : List Nat) (ρ : PL.Env) : ev G (.lc elt tg k es cond own) ρ = bind (evC G es ρ) fun ds ρ1 => match itemsD k ds with
    | some items => if own.all (notHot ρ1) then bind (lcL (stepF tg (evIf G cond) (ev G elt) own) items [] (wipeE ρ1 own)) fun acc ρ9 => .ok (.fresh (.list acc)) (backE ρ1 ρ9 own) else .stuck
    | none => .stuck := by rw [ev.eq_21]; rfl
/-- a comprehension whose turns change nothing -/
theorem lcL_map {α : Type} {step : PyData → PL.Env → Out (Option PyData)} {g : α → PyData} {p : α → Bool} {f : α → PyData} {ρ : PL.Env} : ∀ {l : List α} {acc : List PyData}, (∀ x ∈ l, step (g x) ρ = .ok (if p x then some (f x) else none) ρ) → acc.length + l.length ≤ 1000000 →
    lcL step (l.map g) acc ρ = .ok (acc ++ (l.filter p).map f) ρ
  | [], acc, _, _ => by rw [List.map_nil, lcL, List.filter_nil, List.map_nil, List.append_nil]
  | x :: l, acc, h, hl => by
    rw [List.length_cons] at hl
    rw [List.map_cons, lcL, h x List.mem_cons_self]
    by_cases hp : p x = true
    · rw [if_pos hp]
      dsimp only
      rw [if_pos (by unfold szOk; exact decide_eq_true (by omega)), lcL_map (fun y hy => h y (List.mem_cons_of_mem _ hy)) (by rw [List.length_append, List.length_singleton]; omega), List.filter_cons_of_pos hp, List.map_cons, List.append_assoc]
      rfl
    · rw [if_neg hp]
      dsimp only
      rw [lcL_map (fun y hy => h y (List.mem_cons_of_mem _ hy)) (by omega), List.filter_cons_of_neg hp]
theorem lcL_all {α : Type} {step : PyData → PL.Env → Out (Option PyData)} {g : α → PyData} {f : α → PyData} {ρ : PL.Env} {l : List α} (h : ∀ x ∈ l, step (g x) ρ = .ok (some (f x)) ρ) (hl : l.length ≤ 1000000) : lcL step (l.map g) [] ρ = .ok (l.map f) ρ := by
  have q := lcL_map (step := step) (g := g) (p := fun _ => true) (f := f) (ρ := ρ) (l := l) (acc := []) (fun x hx => by rw [h x hx, if_pos rfl]) (by simpa using hl)
  rw [q, List.nil_append, List.filter_eq_self.mpr fun _ _ => rfl]
/-! ints compared -/
theorem deep_int (i : Int) : deepOk (.int i) = true := by simp [deepOk, PyData.plain, PyData.depth]
theorem ord_int (i j : Int) : ordOk (.int i) (.int j) = true := by simp [ordOk, W.alike, deep_int, notNone]
theorem cmp_le (i j : Int) : cmpD .LtE (.int i) (.int j) = some (decide (i ≤ j)) := by
  rw [cmpD, if_pos (ord_int i j), W.dataLt_int]
  by_cases h : j < i
  · simp [h]
  · simp [h, Int.not_lt.mp h]
theorem cmp_lt (i j : Int) : cmpD .Lt (.int i) (.int j) = some (decide (i < j)) := by
  rw [cmpD, if_pos (ord_int i j), W.dataLt_int]
theorem cmp_gt (i j : Int) : cmpD .Gt (.int i) (.int j) = some (decide (i > j)) := by
  rw [cmpD, if_pos (ord_int i j), W.dataLt_int]
theorem cmp_ge (i j : Int) : cmpD .GtE (.int i) (.int j) = some (decide (i ≥ j)) := by
  rw [cmpD, if_pos (ord_int i j), W.dataLt_int]
  by_cases h : i < j
  · simp [h]
  · simp [h, Int.not_lt.mp h]
theorem cmp_eq (i j : Int) : cmpD .Eq (.int i) (.int j) = some (decide (i = j)) := by
  rw [cmpD, if_pos (by rw [deep_int, deep_int]; rfl)]
  rfl
theorem cmp_ne (i j : Int) : cmpD .NotEq (.int i) (.int j) = some (decide (i ≠ j)) := by
  rw [cmpD, if_pos (by rw [deep_int, deep_int]; rfl)]
  show some (!decide (i = j)) = _
  by_cases h : i = j <;> simp [h]
/-! from Q1 -/
theorem ints_map {α : Type} {h : α → Int} : ∀ {l : List α}, ints? (l.map fun x => PyData.int (h x)) = some (l.map h)
  | [] => rfl
  | x :: l => by rw [List.map_cons, ints?, ints_map]; rfl
theorem sum_map {α : Type} {h : α → Int} {l : List α} : sumL (l.map fun x => PyData.int (h x)) = some (.val (.int (l.map h).sum)) := by
  unfold sumL
  rw [ints_map]; rfl
theorem small_of {i : Int} (h1 : -1000000000000 ≤ i) (h2 : i ≤ 1000000000000) : small i = true := by
  unfold small
  exact decide_eq_true (by omega)
theorem mul_l {i j : Int} (h : small i = true) : mulOk i j = true := by unfold mulOk; rw [h]; rfl
theorem mul_r {i j : Int} (h : small j = true) : mulOk i j = true := by unfold mulOk; rw [h]; cases small i <;> rfl
/-! from Q2 -/
theorem forL_rel {α S : Type} {T : Tg} {b : PL.Env → SOut} {g : α → PyData} (R : S → PL.Env → Prop) (u : S → α → S) : ∀ {l : List α}, (∀ x ∈ l, ∀ s ρ, R s ρ → ∃ ρ1 ρ2, asgT T (g x) ρ = some ρ1 ∧ b ρ1 = .nx ρ2 ∧ R (u s x) ρ2) →
    ∀ {s : S} {ρ : PL.Env}, R s ρ → ∃ ρ', forL T b (l.map g) ρ = .nx ρ' ∧ R (l.foldl u s) ρ'
  | [], _, s, ρ, r => ⟨ρ, by rw [List.map_nil, forL], r⟩
  | x :: l, h, s, ρ, r => by
    obtain ⟨ρ1, ρ2, e1, e2, r2⟩ := h x List.mem_cons_self s ρ r
    obtain ⟨ρ', e3, r3⟩ := forL_rel R u (l := l) (fun y hy => h y (List.mem_cons_of_mem _ hy)) r2
    refine ⟨ρ', ?_, r3⟩
    rw [List.map_cons, forL, e1]
    dsimp only
    rw [e2]
    exact e3
theorem execs_seq {G : PL.Ctx} {N : Nat} {s : St} {ss : List St} {ρ ρ1 : PL.Env} {r : SOut} (h : exec G N s ρ = .nx ρ1) (h2 : execs G N ss ρ1 = r) : execs G N (s :: ss) ρ = r := by
  rw [execs, h]; exact h2
theorem exec_fr {G : PL.Ctx} {N : Nat} {tg : Tg} {k : IK} {es : List Ex} {b : List St} {ds items : List PyData} {ρ ρ1 ρ2 : PL.Env} (h1 : evC G es ρ = .ok ds ρ1) (h2 : itemsD k ds = some items) (h3 : forL tg (execs G N b) items ρ1 = .nx ρ2) : exec G N (.fr tg k es b) ρ = .nx ρ2 := by
  rw [exec, h1]
  show (match itemsD k ds with | some items => forL tg (execs G N b) items ρ1 | none => SOut.stuck) = _
  rw [h2]; exact h3
theorem forL_seq {T : Tg} {b : PL.Env → SOut} {d : PyData} {ds : List PyData} {ρ ρ1 ρ2 : PL.Env} {r : SOut} (h1 : asgT T d ρ = some ρ1) (h2 : b ρ1 = .nx ρ2) (h3 : forL T b ds ρ2 = r) : forL T b (d :: ds) ρ = r := by
  rw [forL, h1]
  dsimp only
  rw [h2]; exact h3
theorem forL_end {T : Tg} {b : PL.Env → SOut} {ρ : PL.Env} : forL T b [] ρ = .nx ρ := by rw [forL]
/-! from Q4 -/
theorem forL_relN {α S : Type} {T : Tg} {b : PL.Env → SOut} {g : α → PyData} (K : Nat) (R : Nat → S → PL.Env → Prop) (u : S → α → S) : ∀ {l : List α}, (∀ x ∈ l, ∀ k s ρ, k < K → R k s ρ → ∃ ρ1 ρ2, asgT T (g x) ρ = some ρ1 ∧ b ρ1 = .nx ρ2 ∧ R (k + 1) (u s x) ρ2) →
    ∀ {k : Nat} {s : S} {ρ : PL.Env}, k + l.length ≤ K → R k s ρ → ∃ ρ', forL T b (l.map g) ρ = .nx ρ' ∧ R (k + l.length) (l.foldl u s) ρ'
  | [], _, k, s, ρ, _, r => ⟨ρ, by rw [List.map_nil, forL], r⟩
  | x :: l, h, k, s, ρ, hk, r => by
    rw [List.length_cons] at hk
    obtain ⟨ρ1, ρ2, e1, e2, r2⟩ := h x List.mem_cons_self k s ρ (by omega) r
    obtain ⟨ρ', e3, r3⟩ := forL_relN K R u (l := l) (fun y hy => h y (List.mem_cons_of_mem _ hy)) (by omega) r2
    refine ⟨ρ', ?_, by rw [List.length_cons, show k + (l.length + 1) = k + 1 + l.length by omega]; exact r3⟩
    rw [List.map_cons, forL, e1]
    dsimp only
    rw [e2]
    exact e3
theorem idx_first {l : List Int} {a : Int} (h : l.head? = some a) : idxD (.list (l.map .int)) (.int 0) = some (.int a) := by
  cases l with
  | nil => cases h
  | cons x l =>
    cases h
    unfold idxD ixD
    dsimp only
    rw [if_pos (by omega), if_pos (by rw [List.length_map, List.length_cons]; omega)]
    rfl
theorem idx_last {l : List Int} {a : Int} (h : l.getLast? = some a) : idxD (.list (l.map .int)) (.int (-1)) = some (.int a) := by
  have n : l ≠ [] := fun z => by subst z; cases h
  have hl : 0 < l.length := List.length_pos_iff.mpr n
  unfold idxD ixD
  dsimp only
  rw [if_neg (by omega), if_pos (by rw [List.length_map]; omega), Option.bind_some, List.length_map, show (-1 + (l.length : Int)).toNat = l.length - 1 by omega, List.getElem?_map]
  rw [List.getLast?_eq_getElem?] at h
  rw [h]; rfl
theorem sum_perm {l m : List Int} (h : l.Perm m) : l.sum = m.sum := by
  induction h with
  | nil => rfl
  | cons x _ ih => rw [List.sum_cons, List.sum_cons, ih]
  | swap x y l => rw [List.sum_cons, List.sum_cons, List.sum_cons, List.sum_cons]; omega
  | trans _ _ a b => exact a.trans b
/-! from Q5 -/
theorem deep_ints (l : List Int) : PyData.plainAll (l.map .int) = true ∧ PyData.depthAll (l.map .int) ≤ 5 := by
  induction l with
  | nil => exact ⟨rfl, by simp [PyData.depthAll]⟩
  | cons r R ih =>
    refine ⟨?_, ?_⟩
    · simp [PyData.plainAll, PyData.plain]; exact ih.1
    · have := ih.2
      simp only [List.map_cons, PyData.depthAll, PyData.depth]
      omega
theorem ord_ints (l : List Int) : ordAll (l.map .int) = true := by
  unfold ordAll
  rw [Bool.and_eq_true, Bool.and_eq_true]
  refine ⟨⟨?_, ?_⟩, ?_⟩
  · unfold selfAlike
    refine List.all_eq_true.mpr fun x hx => List.all_eq_true.mpr fun y hy => ?_
    obtain ⟨a, _, rfl⟩ := List.mem_map.mp hx
    obtain ⟨b, _, rfl⟩ := List.mem_map.mp hy
    simp [W.alike]
  · unfold deepOks
    rw [(deep_ints l).1]
    have := (deep_ints l).2
    exact decide_eq_true (by omega)
  · refine List.all_eq_true.mpr fun x hx => ?_
    obtain ⟨a, _, rfl⟩ := List.mem_map.mp hx
    rfl
theorem fold_min : ∀ (l : List Int) (y : Int), l.foldl min y ∈ y :: l ∧ ∀ x ∈ y :: l, l.foldl min y ≤ x
  | [], y => ⟨by simp, by simp⟩
  | x :: l, y => by
    rw [List.foldl_cons]
    obtain ⟨h1, h2⟩ := fold_min l (min y x)
    have h3 := h2 (min y x) List.mem_cons_self
    refine ⟨?_, fun z hz => ?_⟩
    · rcases List.mem_cons.mp h1 with e | e
      · rcases Int.le_total y x with q | q
        · rw [e, Int.min_eq_left q]; exact List.mem_cons_self
        · rw [e, Int.min_eq_right q]; exact List.mem_cons_of_mem _ List.mem_cons_self
      · exact List.mem_cons_of_mem _ (List.mem_cons_of_mem _ e)
    · rcases List.mem_cons.mp hz with rfl | hz
      · omega
      · rcases List.mem_cons.mp hz with rfl | hz
        · omega
        · exact h2 z (List.mem_cons_of_mem _ hz)
theorem minD_ints (y : Int) (l : List Int) : ∃ m, W.minD (.int y) (l.map .int) = .int m ∧ m ∈ y :: l ∧ ∀ x ∈ y :: l, m ≤ x :=
  ⟨_, W.minD_ints y l, fold_min l y⟩
theorem min_ints {l : List Int} (h : l ≠ []) : ∃ m, minL (l.map .int) = some (.val (.int m)) ∧ m ∈ l ∧ ∀ x ∈ l, m ≤ x := by
  cases l with
  | nil => exact absurd rfl h
  | cons y l =>
    obtain ⟨m, e, h1, h2⟩ := minD_ints y l
    refine ⟨m, ?_, h1, h2⟩
    have o := ord_ints (y :: l)
    rw [List.map_cons] at o ⊢
    rw [minL, if_pos o, e]
theorem zip_map {α : Type} {f g : α → PyData} : ∀ {l : List α}, zip2 (l.map f) (l.map g) = l.map fun x => .tuple [f x, g x]
  | [] => rfl
  | x :: l => by rw [List.map_cons, List.map_cons, zip2, zip_map]; rfl
theorem rise_ends {G : List Int} {lo hi : Int} (p : G.Pairwise (· < ·)) (h1 : lo ∈ G) (h2 : hi ∈ G) (h : ∀ t ∈ G, lo ≤ t ∧ t ≤ hi) : G.head? = some lo ∧ G.getLast? = some hi := by
  constructor
  · cases G with
    | nil => cases h1
    | cons x G =>
      have a := h x List.mem_cons_self
      rcases List.mem_cons.mp h1 with e | e
      · rw [e]; rfl
      · have := (List.pairwise_cons.mp p).1 lo e
        omega
  · have n : G ≠ [] := fun z => by subst z; cases h1
    have e := List.getLast?_eq_getLast n
    rw [e]
    congr 1
    have hm := List.getLast_mem n
    have a := h _ hm
    have key : ∀ (l : List Int) (n : l ≠ []) (z : Int), l.Pairwise (· < ·) → z ∈ l → z ≤ l.getLast n := by
      intro l
      induction l with
      | nil => intro n; exact absurd rfl n
      | cons x l ih =>
        intro n z p hz
        by_cases c : l = []
        · subst c
          have : z = x := by simpa using hz
          rw [this]; simp
        · rw [List.getLast_cons c]
          rcases List.mem_cons.mp hz with rfl | hz
          · have := (List.pairwise_cons.mp p).1 _ (List.getLast_mem c)
            omega
          · exact ih c z (List.pairwise_cons.mp p).2 hz
    have := key G n hi p h2
    omega
/-! from Q8 -/
theorem forL_st {α S : Type} {T : Tg} {b : Nat → PL.Env → SOut} {g : α → PyData} (K : Nat) (E : S → PL.Env) (I : Nat → S → Prop) : ∀ {l : List α}, (∀ x ∈ l, ∀ k s, k < K → I k s → ∃ s', I (k + 1) s' ∧ ∀ n, ∃ ρ1, asgT T (g x) (E s) = some ρ1 ∧ b n ρ1 = .nx (E s')) →
    ∀ {k : Nat} {s : S}, k + l.length ≤ K → I k s → ∃ s', I (k + l.length) s' ∧ ∀ n, forL T (b n) (l.map g) (E s) = .nx (E s')
  | [], _, k, s, _, i => ⟨s, i, fun n => by rw [List.map_nil, forL]⟩
  | x :: l, h, k, s, kk, i => by
    rw [List.length_cons] at kk
    obtain ⟨s1, i1, e1⟩ := h x List.mem_cons_self k s (by omega) i
    obtain ⟨s2, i2, e2⟩ := forL_st K E I (l := l) (fun y hy => h y (List.mem_cons_of_mem _ hy)) (k := k + 1) (by omega) i1
    refine ⟨s2, by rw [List.length_cons, show k + (l.length + 1) = k + 1 + l.length by omega]; exact i2, fun n => ?_⟩
    obtain ⟨ρ1, a, c⟩ := e1 n
    rw [List.map_cons, forL, a]
    dsimp only
    rw [c]
    exact e2 n
/-! from QA -/
theorem ne_self {d : PyData} (h : deepOk d = true) : cmpD .NotEq d d = some false := by
  rw [cmpD, if_pos (by rw [h]; rfl), SeqAt.eqv_refl_plain d (by unfold deepOk at h; rw [Bool.and_eq_true] at h; exact h.1)]
  rfl
theorem ne_bool (p q : Bool) : cmpD .NotEq (.bool p) (.bool q) = some (!(p == q)) := by
  rw [cmpD, if_pos (by simp [deepOk, PyData.plain, PyData.depth])]
  cases p <;> cases q <;> rfl
theorem all_bools {α : Type} {l : List α} {q : α → Bool} : allL (l.map fun x => PyData.bool (q x)) = some (.val (.bool (l.all q))) := by
  have e : (l.map fun x => PyData.bool (q x)).all plainTruth = true := List.all_eq_true.mpr fun y hy => by
    obtain ⟨x, hx, rfl⟩ := List.mem_map.mp hy
    rfl
  unfold allL
  rw [if_pos e, List.all_map]
  rfl
/-! the ends of a def's body, without the slots -/
def retIs (o : SOut) (r : Slot) : Prop := ∃ ρ, o = .rt r ρ
def nxIs (o : SOut) : Prop := ∃ ρ, o = .nx ρ
def retH (o : SOut) (r : Slot) (d : PyData) : Prop := ∃ ρ, o = .rt r (.h true d :: ρ)
def nxH (o : SOut) (d : PyData) : Prop := ∃ ρ, o = .nx (.h true d :: ρ)
theorem retIs_rt (r r' : Slot) (ρ : PL.Env) : retIs (.rt r ρ) r' ↔ r = r' := ⟨fun ⟨_, e⟩ => by cases e; rfl, fun e => ⟨ρ, by rw [e]⟩⟩
theorem nxIs_nx (ρ : PL.Env) : nxIs (.nx ρ) ↔ True := ⟨fun _ => trivial, fun _ => ⟨ρ, rfl⟩⟩
theorem retH_rt (r r' s : Slot) (d : PyData) (ρ : PL.Env) : retH (.rt r (s :: ρ)) r' d ↔ r = r' ∧ s = .h true d := ⟨fun ⟨_, e⟩ => by cases e; exact ⟨rfl, rfl⟩, fun e => ⟨ρ, by rw [e.1, e.2]⟩⟩
theorem nxH_nx (s : Slot) (d : PyData) (ρ : PL.Env) : nxH (.nx (s :: ρ)) d ↔ s = .h true d := ⟨fun ⟨_, e⟩ => by cases e; rfl, fun e => ⟨ρ, by rw [e]⟩⟩
theorem callD_ret0 {defs : Str → Option Def} {N n : Nat} {f : Str} {D : Def} {ds : List PyData} {r : Slot} (hD : defs f = some D) (hl : ds.length = D.np) (hi : D.ios = []) (h : retIs (execs ⟨defs, callD defs N n⟩ N D.body (entry D ds)) r) : callD defs N (n + 1) f ds = .ok r [] := by
  obtain ⟨ρ, e⟩ := h
  exact callD_ret hD hl e (by rw [hi]; rfl)
theorem callD_nx0 {defs : Str → Option Def} {N n : Nat} {f : Str} {D : Def} {ds : List PyData} (hD : defs f = some D) (hl : ds.length = D.np) (hi : D.ios = []) (h : nxIs (execs ⟨defs, callD defs N n⟩ N D.body (entry D ds))) : callD defs N (n + 1) f ds = .ok (.c .none) [] := by
  obtain ⟨ρ, e⟩ := h
  exact callD_nx hD hl e (by rw [hi]; rfl)
theorem callD_retH {defs : Str → Option Def} {N n : Nat} {f : Str} {D : Def} {ds : List PyData} {r : Slot} {d : PyData} (hD : defs f = some D) (hl : ds.length = D.np) (hi : D.ios = [0]) (h : retH (execs ⟨defs, callD defs N n⟩ N D.body (entry D ds)) r d) : callD defs N (n + 1) f ds = .ok r [d] := by
  obtain ⟨ρ, e⟩ := h
  exact callD_ret hD hl e (by rw [hi]; rfl)
theorem callD_nxH {defs : Str → Option Def} {N n : Nat} {f : Str} {D : Def} {ds : List PyData} {d : PyData} (hD : defs f = some D) (hl : ds.length = D.np) (hi : D.ios = [0]) (h : nxH (execs ⟨defs, callD defs N n⟩ N D.body (entry D ds)) d) : callD defs N (n + 1) f ds = .ok (.c .none) [d] := by
  obtain ⟨ρ, e⟩ := h
  exact callD_nx hD hl e (by rw [hi]; rfl)
theorem forL_nil {T : Tg} {b : PL.Env → SOut} {ρ : PL.Env} : forL T b [] ρ = .nx ρ := by rw [forL]
theorem execs_eq {G : PL.Ctx} {N : Nat} {s : St} {ss : List St} {ρ ρ1 : PL.Env} (h : exec G N s ρ = .nx ρ1) : execs G N (s :: ss) ρ = execs G N ss ρ1 := by
  rw [execs, h]
theorem rI_seq {G : PL.Ctx} {N : Nat} {s : St} {ss : List St} {ρ ρ1 : PL.Env} {r : Slot} (h : exec G N s ρ = .nx ρ1) (h2 : retIs (execs G N ss ρ1) r) : retIs (execs G N (s :: ss) ρ) r := by
  rw [execs_eq h]; exact h2
theorem rH_seq {G : PL.Ctx} {N : Nat} {s : St} {ss : List St} {ρ ρ1 : PL.Env} {r : Slot} {d : PyData} (h : exec G N s ρ = .nx ρ1) (h2 : retH (execs G N ss ρ1) r d) : retH (execs G N (s :: ss) ρ) r d := by
  rw [execs_eq h]; exact h2
theorem nI_seq {G : PL.Ctx} {N : Nat} {s : St} {ss : List St} {ρ ρ1 : PL.Env} (h : exec G N s ρ = .nx ρ1) (h2 : nxIs (execs G N ss ρ1)) : nxIs (execs G N (s :: ss) ρ) := by
  rw [execs_eq h]; exact h2
end PL

set_option autoImplicit false
set_option linter.all false
set_option Elab.async false
set_option maxRecDepth 100000
set_option maxHeartbeats 4000000
/-! PX1: the draws, for all laws. -/
namespace PL
open PySem PL
def hd (cells : List Int) (a v h k : Int) : PyData := .list [.list (cells.map .int), .int a, .int v, .int h, .int k]
def HandOk (d : PyData) : Prop := ∃ (cells : List Int) (a v h k : Int), d = hd cells a v h k ∧ cells.length ≤ 63 ∧ 0 ≤ a
theorem idx_at {cells : List Int} {a : Int} (h0 : 0 ≤ a) (h : a < cells.length) : ∃ c, idxD (.list (cells.map .int)) (.int a) = some (.int c) := by
  have l : a.toNat < cells.length := by omega
  refine ⟨cells[a.toNat], ?_⟩
  unfold idxD ixD
  dsimp only
  rw [if_pos h0, if_pos (by rw [List.length_map]; exact h), Option.bind_some, List.getElem?_map, List.getElem?_eq_getElem l]
  rfl
theorem hand0 {m : Nat → Int} (ns : List Int) : HandOk (handD m ns) := by
  refine ⟨(ns.take 63).map fun i => if i < 0 then -i else i, 0, 0, m (cellsOf ns).length, 0, ?_, by rw [List.length_map, List.length_take]; omega, by omega⟩
  unfold handD hd
  rw [List.map_map]
  rfl
def drawFA  : St := .ite (.band [(.cmp (.idx (.var 0) (.con (.int 2))) [.Eq] [(.con (.int 0))]), (.cmp (.idx (.var 0) (.con (.int 1))) [.Lt] [(.bi .len [(.idx (.var 0) (.con (.int 0)))])])]) [.asg 2 false (.idx (.idx (.var 0) (.con (.int 0))) (.idx (.var 0) (.con (.int 1)))),
    .sub 0 (.con (.int 1)) (.bin .Add (.idx (.var 0) (.con (.int 1))) (.con (.int 1))),
    .sub 0 (.con (.int 3)) (.bin .Mod (.bi .int [(.bin .Add (.bin .Add (.bin .Mult (.idx (.var 0) (.con (.int 3))) (.con (.int 48271))) (.bin .Mult (.var 2) (.con (.int 5)))) (.con (.int 29)))]) (.con (.int 2147483587))),
    .sub 0 (.con (.int 2)) (.ife (.cmp (.var 2) [.GtE] [(.bin .Pow (.con (.int 10)) (.con (.int 18)))]) (.var 2) (.con (.int 0)))] []
def drawBA  : List St := [drawFA,
    .ite (.cmp (.idx (.var 0) (.con (.int 2))) [.Gt] [(.con (.int 0))]) [.asg 3 false (.bin .Mod (.bi .int [(.idx (.var 0) (.con (.int 2)))]) (.var 1)),
    .sub 0 (.con (.int 2)) (.bin .FloorDiv (.idx (.var 0) (.con (.int 2))) (.var 1)),
    .ret (.var 3)] [],
    .sub 0 (.con (.int 4)) (.bin .Add (.idx (.var 0) (.con (.int 4))) (.con (.int 1))),
    .asg 4 false (.bin .Mod (.bi .int [(.bin .Mult (.bi .int [(.bin .Add (.idx (.var 0) (.con (.int 3))) (.bin .Mult (.con (.int 7877)) (.idx (.var 0) (.con (.int 4)))))]) (.con (.int 69621)))]) (.con (.int 2147483647))),
    .asg 4 false (.bin .Mod (.bi .int [(.bin .Mult (.var 4) (.bin .Add (.bin .FloorDiv (.var 4) (.con (.int 1103))) (.con (.int 40692))))]) (.con (.int 2147483399))),
    .asg 4 false (.bin .Mod (.bi .int [(.bin .Mult (.var 4) (.bin .Add (.bin .FloorDiv (.var 4) (.con (.int 2311))) (.con (.int 48271))))]) (.con (.int 2147483629))),
    .ret (.bin .Mod (.bi .int [(.bin .FloorDiv (.var 4) (.con (.int 16)))]) (.var 1))]
def dDrawA  : Def := ⟨2, 5, [0], drawBA⟩
section
variable {N : Nat} {defs : Str → Option Def}
theorem draw1A  (cells : List Int) (a v h k many : Int) (hl : cells.length ≤ 63) (ha : 0 ≤ a) : ∃ a' v' h' x, 0 ≤ a' ∧ ∀ G : PL.Ctx, exec G N (drawFA)
    [.h true (hd cells a v h k), .c (.int many), .no, .no, .no] = .nx [.h true (hd cells a' v' h' k), .c (.int many), x, .no, .no] := by
  have z : szOk cells.length = true := decide_eq_true (by omega)
  have i0 : ∀ x y u v w : PyData, idxD (.list [x, y, u, v, w]) (.int 0) = some x := fun _ _ _ _ _ => rfl
  have i1 : ∀ x y u v w : PyData, idxD (.list [x, y, u, v, w]) (.int 1) = some y := fun _ _ _ _ _ => rfl
  have i2 : ∀ x y u v w : PyData, idxD (.list [x, y, u, v, w]) (.int 2) = some u := fun _ _ _ _ _ => rfl
  have i3 : ∀ x y u v w : PyData, idxD (.list [x, y, u, v, w]) (.int 3) = some v := fun _ _ _ _ _ => rfl
  by_cases c1 : v = 0
  · by_cases c2 : a < cells.length
    · obtain ⟨c, ec⟩ := idx_at ha c2
      have m1 : ∀ j, mulOk j 48271 = true := fun j => mul_r (by decide)
      have m2 : ∀ j, mulOk j 5 = true := fun j => mul_r (by decide)
      have s10 : small 10 = true := by decide
      have pw : (10 : Int) ^ 18 = 1000000000000000000 := by decide
      by_cases c3 : c ≥ 1000000000000000000
      · refine ⟨a + 1, c, (h * 48271 + c * 5 + 29) % 2147483587, .c (.int c), by omega, fun G => ?_⟩
        have c3' : (1000000000000000000 : Int) ≤ c := c3
        simp [execs, exec, ev.eq_1, ev.eq_2, ev.eq_3, ev.eq_4, ev.eq_5, ev.eq_6, ev.eq_7, ev.eq_8, ev.eq_9, ev.eq_10, ev.eq_11, ev.eq_12, ev.eq_13, ev.eq_14, ev.eq_15, ev.eq_16, ev.eq_17, ev.eq_18, ev.eq_19, ev_lc, evAnd, evOr, evCh, evR, evC, evA, evP, evIf, evT, evO, PL.bind, sb, biR, negR, binR, idxR, sliR, metR, cmpR, truthR, callR, iosOf, derefs, putBack, PL.cold, peeks, peek, gets, ofO, retOf, slotOf, setAll, isHot, subAt, recvOk, isMut, isUpd, recvD, dctR, biD, one, ovS, seq?, isInst, PyData.isInt, PyData.isBool, PyData.isTuple, truthD, PyData.truthy, entry, asgT, asgTs, wipeE, notHot, backE, it_lst, it_tpl, it_r1, it_r2, it_r3, it_enum, it_zip, rg1, rg2, ints?, intR, setD, retIs_rt, nxIs_nx, retH_rt, nxH_nx, PyData.isList, PyData.isDict, PyData.isStr, List.range, List.range.loop, sz0, sz1, sz2, sz3, sz4, sz5, sz6, sz7, sz8, sz9, sz10, sz11, sz12, drawFA, hd, i0, i1, i2, i3, cmp_eq, cmp_lt, cmp_ge, lenD, z, c1, c2, ec, ixD, binD, m1, m2, intD, s10, c3']
      · refine ⟨a + 1, 0, (h * 48271 + c * 5 + 29) % 2147483587, .c (.int c), by omega, fun G => ?_⟩
        have c3' : ¬ (1000000000000000000 : Int) ≤ c := c3
        simp [execs, exec, ev.eq_1, ev.eq_2, ev.eq_3, ev.eq_4, ev.eq_5, ev.eq_6, ev.eq_7, ev.eq_8, ev.eq_9, ev.eq_10, ev.eq_11, ev.eq_12, ev.eq_13, ev.eq_14, ev.eq_15, ev.eq_16, ev.eq_17, ev.eq_18, ev.eq_19, ev_lc, evAnd, evOr, evCh, evR, evC, evA, evP, evIf, evT, evO, PL.bind, sb, biR, negR, binR, idxR, sliR, metR, cmpR, truthR, callR, iosOf, derefs, putBack, PL.cold, peeks, peek, gets, ofO, retOf, slotOf, setAll, isHot, subAt, recvOk, isMut, isUpd, recvD, dctR, biD, one, ovS, seq?, isInst, PyData.isInt, PyData.isBool, PyData.isTuple, truthD, PyData.truthy, entry, asgT, asgTs, wipeE, notHot, backE, it_lst, it_tpl, it_r1, it_r2, it_r3, it_enum, it_zip, rg1, rg2, ints?, intR, setD, retIs_rt, nxIs_nx, retH_rt, nxH_nx, PyData.isList, PyData.isDict, PyData.isStr, List.range, List.range.loop, sz0, sz1, sz2, sz3, sz4, sz5, sz6, sz7, sz8, sz9, sz10, sz11, sz12, drawFA, hd, i0, i1, i2, i3, cmp_eq, cmp_lt, cmp_ge, lenD, z, c1, c2, ec, ixD, binD, m1, m2, intD, s10, c3']
    · refine ⟨a, v, h, .no, ha, fun G => ?_⟩
      simp [execs, exec, ev.eq_1, ev.eq_2, ev.eq_3, ev.eq_4, ev.eq_5, ev.eq_6, ev.eq_7, ev.eq_8, ev.eq_9, ev.eq_10, ev.eq_11, ev.eq_12, ev.eq_13, ev.eq_14, ev.eq_15, ev.eq_16, ev.eq_17, ev.eq_18, ev.eq_19, ev_lc, evAnd, evOr, evCh, evR, evC, evA, evP, evIf, evT, evO, PL.bind, sb, biR, negR, binR, idxR, sliR, metR, cmpR, truthR, callR, iosOf, derefs, putBack, PL.cold, peeks, peek, gets, ofO, retOf, slotOf, setAll, isHot, subAt, recvOk, isMut, isUpd, recvD, dctR, biD, one, ovS, seq?, isInst, PyData.isInt, PyData.isBool, PyData.isTuple, truthD, PyData.truthy, entry, asgT, asgTs, wipeE, notHot, backE, it_lst, it_tpl, it_r1, it_r2, it_r3, it_enum, it_zip, rg1, rg2, ints?, intR, setD, retIs_rt, nxIs_nx, retH_rt, nxH_nx, PyData.isList, PyData.isDict, PyData.isStr, List.range, List.range.loop, sz0, sz1, sz2, sz3, sz4, sz5, sz6, sz7, sz8, sz9, sz10, sz11, sz12, drawFA, hd, i0, i1, i2, cmp_eq, cmp_lt, lenD, z, c1, c2]
  · refine ⟨a, v, h, .no, ha, fun G => ?_⟩
    simp [execs, exec, ev.eq_1, ev.eq_2, ev.eq_3, ev.eq_4, ev.eq_5, ev.eq_6, ev.eq_7, ev.eq_8, ev.eq_9, ev.eq_10, ev.eq_11, ev.eq_12, ev.eq_13, ev.eq_14, ev.eq_15, ev.eq_16, ev.eq_17, ev.eq_18, ev.eq_19, ev_lc, evAnd, evOr, evCh, evR, evC, evA, evP, evIf, evT, evO, PL.bind, sb, biR, negR, binR, idxR, sliR, metR, cmpR, truthR, callR, iosOf, derefs, putBack, PL.cold, peeks, peek, gets, ofO, retOf, slotOf, setAll, isHot, subAt, recvOk, isMut, isUpd, recvD, dctR, biD, one, ovS, seq?, isInst, PyData.isInt, PyData.isBool, PyData.isTuple, truthD, PyData.truthy, entry, asgT, asgTs, wipeE, notHot, backE, it_lst, it_tpl, it_r1, it_r2, it_r3, it_enum, it_zip, rg1, rg2, ints?, intR, setD, retIs_rt, nxIs_nx, retH_rt, nxH_nx, PyData.isList, PyData.isDict, PyData.isStr, List.range, List.range.loop, sz0, sz1, sz2, sz3, sz4, sz5, sz6, sz7, sz8, sz9, sz10, sz11, sz12, drawFA, hd, i0, i1, i2, cmp_eq, cmp_lt, lenD, z, c1]
theorem c_drawA  (hD : defs "_law_draw" = some (dDrawA)) {d : PyData} (hd0 : HandOk d) (many : Int) (h1 : 1 ≤ many) (h2 : many ≤ 1000) : ∃ r d', 0 ≤ r ∧ r < many ∧ HandOk d' ∧ ∀ n, callD defs N (n + 1) "_law_draw" [d, .int many] = .ok (.c (.int r)) [d'] := by
  obtain ⟨cells, a, v, h, k, rfl, hl, ha⟩ := hd0
  have i2 : ∀ x y u v w : PyData, idxD (.list [x, y, u, v, w]) (.int 2) = some u := fun _ _ _ _ _ => rfl
  have i3 : ∀ x y u v w : PyData, idxD (.list [x, y, u, v, w]) (.int 3) = some v := fun _ _ _ _ _ => rfl
  have i4 : ∀ x y u v w : PyData, idxD (.list [x, y, u, v, w]) (.int 4) = some w := fun _ _ _ _ _ => rfl
  obtain ⟨a', v', h', x, ha', st⟩ := draw1A (N := N) cells a v h k many hl ha
  have pm : 0 < many := by omega
  have mid' : mid many = true := decide_eq_true (by
    have : (1000 : Nat) < 2 ^ 4096 := by decide +kernel
    omega)
  have dv : divOk many = true := by unfold divOk; rw [mid']; simp [pm]
  have m1 : ∀ j, mulOk 7877 j = true := fun j => mul_l (by decide)
  have m2 : ∀ j, mulOk j 69621 = true := fun j => mul_r (by decide)
  have d1 : divOk 1103 = true := by decide +kernel
  have d2 : divOk 2311 = true := by decide +kernel
  have d3 : divOk 16 = true := by decide +kernel
  by_cases c : v' > 0
  · refine ⟨v' % many, hd cells a' (v' / many) h' k, Int.emod_nonneg _ (by omega), Int.emod_lt_of_pos _ pm, ⟨cells, a', v' / many, h', k, rfl, hl, ha'⟩, fun n => ?_⟩
    refine callD_ret (D := dDrawA) hD rfl (ρ := [.h true (hd cells a' (v' / many) h' k), .c (.int many), x, .c (.int (v' % many)), .no]) ?_ rfl
    refine execs_seq (st _) ?_
    have c' : 0 < v' := c
    simp [execs, exec, ev.eq_1, ev.eq_2, ev.eq_3, ev.eq_4, ev.eq_5, ev.eq_6, ev.eq_7, ev.eq_8, ev.eq_9, ev.eq_10, ev.eq_11, ev.eq_12, ev.eq_13, ev.eq_14, ev.eq_15, ev.eq_16, ev.eq_17, ev.eq_18, ev.eq_19, ev_lc, evAnd, evOr, evCh, evR, evC, evA, evP, evIf, evT, evO, PL.bind, sb, biR, negR, binR, idxR, sliR, metR, cmpR, truthR, callR, iosOf, derefs, putBack, PL.cold, peeks, peek, gets, ofO, retOf, slotOf, setAll, isHot, subAt, recvOk, isMut, isUpd, recvD, dctR, biD, one, ovS, seq?, isInst, PyData.isInt, PyData.isBool, PyData.isTuple, truthD, PyData.truthy, entry, asgT, asgTs, wipeE, notHot, backE, it_lst, it_tpl, it_r1, it_r2, it_r3, it_enum, it_zip, rg1, rg2, ints?, intR, setD, retIs_rt, nxIs_nx, retH_rt, nxH_nx, PyData.isList, PyData.isDict, PyData.isStr, List.range, List.range.loop, sz0, sz1, sz2, sz3, sz4, sz5, sz6, sz7, sz8, sz9, sz10, sz11, sz12, hd, i2, i3, i4, cmp_gt, c', intD, binD, pm, dv, ixD]
  · have k1 := fun y : Int => And.intro (Int.emod_nonneg y (show (2147483647 : Int) ≠ 0 by decide)) (Int.emod_lt_of_pos y (show (0 : Int) < 2147483647 by decide))
    have k2 := fun y : Int => And.intro (Int.emod_nonneg y (show (2147483399 : Int) ≠ 0 by decide)) (Int.emod_lt_of_pos y (show (0 : Int) < 2147483399 by decide))
    generalize e1 : (h' + 7877 * (k + 1)) * 69621 % 2147483647 = n1
    have b1 := k1 ((h' + 7877 * (k + 1)) * 69621)
    rw [e1] at b1
    generalize e2 : n1 * (n1 / 1103 + 40692) % 2147483399 = n2
    have b2 := k2 (n1 * (n1 / 1103 + 40692))
    rw [e2] at b2
    generalize e3 : n2 * (n2 / 2311 + 48271) % 2147483629 = n3
    have s1 : ∀ j, mulOk n1 j = true := fun j => mul_l (small_of (by omega) (by omega))
    have s2 : ∀ j, mulOk n2 j = true := fun j => mul_l (small_of (by omega) (by omega))
    refine ⟨n3 / 16 % many, hd cells a' v' h' (k + 1), Int.emod_nonneg _ (by omega), Int.emod_lt_of_pos _ pm, ⟨cells, a', v', h', k + 1, rfl, hl, ha'⟩, fun n => ?_⟩
    refine callD_ret (D := dDrawA) hD rfl (ρ := [.h true (hd cells a' v' h' (k + 1)), .c (.int many), x, .no, .c (.int n3)]) ?_ rfl
    refine execs_seq (st _) ?_
    have c' : ¬ 0 < v' := c
    refine execs_seq (ρ1 := [.h true (hd cells a' v' h' k), .c (.int many), x, .no, .no]) (by simp [execs, exec, ev.eq_1, ev.eq_2, ev.eq_3, ev.eq_4, ev.eq_5, ev.eq_6, ev.eq_7, ev.eq_8, ev.eq_9, ev.eq_10, ev.eq_11, ev.eq_12, ev.eq_13, ev.eq_14, ev.eq_15, ev.eq_16, ev.eq_17, ev.eq_18, ev.eq_19, ev_lc, evAnd, evOr, evCh, evR, evC, evA, evP, evIf, evT, evO, PL.bind, sb, biR, negR, binR, idxR, sliR, metR, cmpR, truthR, callR, iosOf, derefs, putBack, PL.cold, peeks, peek, gets, ofO, retOf, slotOf, setAll, isHot, subAt, recvOk, isMut, isUpd, recvD, dctR, biD, one, ovS, seq?, isInst, PyData.isInt, PyData.isBool, PyData.isTuple, truthD, PyData.truthy, entry, asgT, asgTs, wipeE, notHot, backE, it_lst, it_tpl, it_r1, it_r2, it_r3, it_enum, it_zip, rg1, rg2, ints?, intR, setD, retIs_rt, nxIs_nx, retH_rt, nxH_nx, PyData.isList, PyData.isDict, PyData.isStr, List.range, List.range.loop, sz0, sz1, sz2, sz3, sz4, sz5, sz6, sz7, sz8, sz9, sz10, sz11, sz12, hd, i2, cmp_gt, c']) ?_
    refine execs_seq (ρ1 := [.h true (hd cells a' v' h' (k + 1)), .c (.int many), x, .no, .no]) (by simp [execs, exec, ev.eq_1, ev.eq_2, ev.eq_3, ev.eq_4, ev.eq_5, ev.eq_6, ev.eq_7, ev.eq_8, ev.eq_9, ev.eq_10, ev.eq_11, ev.eq_12, ev.eq_13, ev.eq_14, ev.eq_15, ev.eq_16, ev.eq_17, ev.eq_18, ev.eq_19, ev_lc, evAnd, evOr, evCh, evR, evC, evA, evP, evIf, evT, evO, PL.bind, sb, biR, negR, binR, idxR, sliR, metR, cmpR, truthR, callR, iosOf, derefs, putBack, PL.cold, peeks, peek, gets, ofO, retOf, slotOf, setAll, isHot, subAt, recvOk, isMut, isUpd, recvD, dctR, biD, one, ovS, seq?, isInst, PyData.isInt, PyData.isBool, PyData.isTuple, truthD, PyData.truthy, entry, asgT, asgTs, wipeE, notHot, backE, it_lst, it_tpl, it_r1, it_r2, it_r3, it_enum, it_zip, rg1, rg2, ints?, intR, setD, retIs_rt, nxIs_nx, retH_rt, nxH_nx, PyData.isList, PyData.isDict, PyData.isStr, List.range, List.range.loop, sz0, sz1, sz2, sz3, sz4, sz5, sz6, sz7, sz8, sz9, sz10, sz11, sz12, hd, i4, binD, ixD]) ?_
    refine execs_seq (ρ1 := [.h true (hd cells a' v' h' (k + 1)), .c (.int many), x, .no, .c (.int n1)]) (by simp [execs, exec, ev.eq_1, ev.eq_2, ev.eq_3, ev.eq_4, ev.eq_5, ev.eq_6, ev.eq_7, ev.eq_8, ev.eq_9, ev.eq_10, ev.eq_11, ev.eq_12, ev.eq_13, ev.eq_14, ev.eq_15, ev.eq_16, ev.eq_17, ev.eq_18, ev.eq_19, ev_lc, evAnd, evOr, evCh, evR, evC, evA, evP, evIf, evT, evO, PL.bind, sb, biR, negR, binR, idxR, sliR, metR, cmpR, truthR, callR, iosOf, derefs, putBack, PL.cold, peeks, peek, gets, ofO, retOf, slotOf, setAll, isHot, subAt, recvOk, isMut, isUpd, recvD, dctR, biD, one, ovS, seq?, isInst, PyData.isInt, PyData.isBool, PyData.isTuple, truthD, PyData.truthy, entry, asgT, asgTs, wipeE, notHot, backE, it_lst, it_tpl, it_r1, it_r2, it_r3, it_enum, it_zip, rg1, rg2, ints?, intR, setD, retIs_rt, nxIs_nx, retH_rt, nxH_nx, PyData.isList, PyData.isDict, PyData.isStr, List.range, List.range.loop, sz0, sz1, sz2, sz3, sz4, sz5, sz6, sz7, sz8, sz9, sz10, sz11, sz12, hd, i3, i4, binD, ixD, m1, m2, intD, e1]) ?_
    refine execs_seq (ρ1 := [.h true (hd cells a' v' h' (k + 1)), .c (.int many), x, .no, .c (.int n2)]) (by simp [execs, exec, ev.eq_1, ev.eq_2, ev.eq_3, ev.eq_4, ev.eq_5, ev.eq_6, ev.eq_7, ev.eq_8, ev.eq_9, ev.eq_10, ev.eq_11, ev.eq_12, ev.eq_13, ev.eq_14, ev.eq_15, ev.eq_16, ev.eq_17, ev.eq_18, ev.eq_19, ev_lc, evAnd, evOr, evCh, evR, evC, evA, evP, evIf, evT, evO, PL.bind, sb, biR, negR, binR, idxR, sliR, metR, cmpR, truthR, callR, iosOf, derefs, putBack, PL.cold, peeks, peek, gets, ofO, retOf, slotOf, setAll, isHot, subAt, recvOk, isMut, isUpd, recvD, dctR, biD, one, ovS, seq?, isInst, PyData.isInt, PyData.isBool, PyData.isTuple, truthD, PyData.truthy, entry, asgT, asgTs, wipeE, notHot, backE, it_lst, it_tpl, it_r1, it_r2, it_r3, it_enum, it_zip, rg1, rg2, ints?, intR, setD, retIs_rt, nxIs_nx, retH_rt, nxH_nx, PyData.isList, PyData.isDict, PyData.isStr, List.range, List.range.loop, sz0, sz1, sz2, sz3, sz4, sz5, sz6, sz7, sz8, sz9, sz10, sz11, sz12, binD, d1, s1, intD, e2]) ?_
    refine execs_seq (ρ1 := [.h true (hd cells a' v' h' (k + 1)), .c (.int many), x, .no, .c (.int n3)]) (by simp [execs, exec, ev.eq_1, ev.eq_2, ev.eq_3, ev.eq_4, ev.eq_5, ev.eq_6, ev.eq_7, ev.eq_8, ev.eq_9, ev.eq_10, ev.eq_11, ev.eq_12, ev.eq_13, ev.eq_14, ev.eq_15, ev.eq_16, ev.eq_17, ev.eq_18, ev.eq_19, ev_lc, evAnd, evOr, evCh, evR, evC, evA, evP, evIf, evT, evO, PL.bind, sb, biR, negR, binR, idxR, sliR, metR, cmpR, truthR, callR, iosOf, derefs, putBack, PL.cold, peeks, peek, gets, ofO, retOf, slotOf, setAll, isHot, subAt, recvOk, isMut, isUpd, recvD, dctR, biD, one, ovS, seq?, isInst, PyData.isInt, PyData.isBool, PyData.isTuple, truthD, PyData.truthy, entry, asgT, asgTs, wipeE, notHot, backE, it_lst, it_tpl, it_r1, it_r2, it_r3, it_enum, it_zip, rg1, rg2, ints?, intR, setD, retIs_rt, nxIs_nx, retH_rt, nxH_nx, PyData.isList, PyData.isDict, PyData.isStr, List.range, List.range.loop, sz0, sz1, sz2, sz3, sz4, sz5, sz6, sz7, sz8, sz9, sz10, sz11, sz12, binD, d2, s2, intD, e3]) ?_
    simp [execs, exec, ev.eq_1, ev.eq_2, ev.eq_3, ev.eq_4, ev.eq_5, ev.eq_6, ev.eq_7, ev.eq_8, ev.eq_9, ev.eq_10, ev.eq_11, ev.eq_12, ev.eq_13, ev.eq_14, ev.eq_15, ev.eq_16, ev.eq_17, ev.eq_18, ev.eq_19, ev_lc, evAnd, evOr, evCh, evR, evC, evA, evP, evIf, evT, evO, PL.bind, sb, biR, negR, binR, idxR, sliR, metR, cmpR, truthR, callR, iosOf, derefs, putBack, PL.cold, peeks, peek, gets, ofO, retOf, slotOf, setAll, isHot, subAt, recvOk, isMut, isUpd, recvD, dctR, biD, one, ovS, seq?, isInst, PyData.isInt, PyData.isBool, PyData.isTuple, truthD, PyData.truthy, entry, asgT, asgTs, wipeE, notHot, backE, it_lst, it_tpl, it_r1, it_r2, it_r3, it_enum, it_zip, rg1, rg2, ints?, intR, setD, retIs_rt, nxIs_nx, retH_rt, nxH_nx, PyData.isList, PyData.isDict, PyData.isStr, List.range, List.range.loop, sz0, sz1, sz2, sz3, sz4, sz5, sz6, sz7, sz8, sz9, sz10, sz11, sz12, binD, d3, intD, pm]
end
def drawFB (cc : Int) : St := .ite (.band [(.cmp (.idx (.var 0) (.con (.int 2))) [.Eq] [(.con (.int 0))]), (.cmp (.idx (.var 0) (.con (.int 1))) [.Lt] [(.bi .len [(.idx (.var 0) (.con (.int 0)))])])]) [.asg 2 false (.idx (.idx (.var 0) (.con (.int 0))) (.idx (.var 0) (.con (.int 1)))),
    .sub 0 (.con (.int 1)) (.bin .Add (.idx (.var 0) (.con (.int 1))) (.con (.int 1))),
    .sub 0 (.con (.int 3)) (.bin .Mod (.bi .int [(.bin .Add (.bin .Add (.bin .Mult (.idx (.var 0) (.con (.int 3))) (.con (.int 69621))) (.var 2)) (.con (.int cc)))]) (.con (.int 2147483629))),
    .ite (.cmp (.var 2) [.GtE] [(.bin .Pow (.con (.int 10)) (.con (.int 18)))]) [.sub 0 (.con (.int 2)) (.var 2)] []] []
def drawBB (cc : Int) : List St := [drawFB cc,
    .ite (.cmp (.idx (.var 0) (.con (.int 2))) [.Gt] [(.con (.int 0))]) [.asg 3 false (.bin .Mod (.bi .int [(.idx (.var 0) (.con (.int 2)))]) (.var 1)),
    .sub 0 (.con (.int 2)) (.bin .FloorDiv (.idx (.var 0) (.con (.int 2))) (.var 1)),
    .ret (.var 3)] [],
    .sub 0 (.con (.int 4)) (.bin .Add (.idx (.var 0) (.con (.int 4))) (.con (.int 1))),
    .asg 4 false (.bin .Mod (.bi .int [(.bin .Mult (.bi .int [(.bin .Add (.idx (.var 0) (.con (.int 3))) (.bin .Mult (.con (.int 7919)) (.idx (.var 0) (.con (.int 4)))))]) (.con (.int 48271)))]) (.con (.int 2147483647))),
    .asg 4 false (.bin .Mod (.bi .int [(.bin .Mult (.var 4) (.bin .Add (.bin .FloorDiv (.var 4) (.con (.int 1009))) (.con (.int 69621))))]) (.con (.int 2147483647))),
    .asg 4 false (.bin .Mod (.bi .int [(.bin .Mult (.var 4) (.bin .Add (.bin .FloorDiv (.var 4) (.con (.int 2003))) (.con (.int 40692))))]) (.con (.int 2147483399))),
    .ret (.bin .Mod (.bi .int [(.bin .FloorDiv (.var 4) (.con (.int 16)))]) (.var 1))]
def dDrawB (cc : Int) : Def := ⟨2, 5, [0], drawBB cc⟩
section
variable {N : Nat} {defs : Str → Option Def}
theorem draw1B (cc : Int) (cells : List Int) (a v h k many : Int) (hl : cells.length ≤ 63) (ha : 0 ≤ a) : ∃ a' v' h' x, 0 ≤ a' ∧ ∀ G : PL.Ctx, exec G N (drawFB cc)
    [.h true (hd cells a v h k), .c (.int many), .no, .no, .no] = .nx [.h true (hd cells a' v' h' k), .c (.int many), x, .no, .no] := by
  have z : szOk cells.length = true := decide_eq_true (by omega)
  have i0 : ∀ x y u v w : PyData, idxD (.list [x, y, u, v, w]) (.int 0) = some x := fun _ _ _ _ _ => rfl
  have i1 : ∀ x y u v w : PyData, idxD (.list [x, y, u, v, w]) (.int 1) = some y := fun _ _ _ _ _ => rfl
  have i2 : ∀ x y u v w : PyData, idxD (.list [x, y, u, v, w]) (.int 2) = some u := fun _ _ _ _ _ => rfl
  have i3 : ∀ x y u v w : PyData, idxD (.list [x, y, u, v, w]) (.int 3) = some v := fun _ _ _ _ _ => rfl
  by_cases c1 : v = 0
  · by_cases c2 : a < cells.length
    · obtain ⟨c, ec⟩ := idx_at ha c2
      have m1 : ∀ j, mulOk j 69621 = true := fun j => mul_r (by decide)
      have m2 : ∀ j, mulOk j 5 = true := fun j => mul_r (by decide)
      have s10 : small 10 = true := by decide
      have pw : (10 : Int) ^ 18 = 1000000000000000000 := by decide
      by_cases c3 : c ≥ 1000000000000000000
      · refine ⟨a + 1, c, (h * 69621 + c + cc) % 2147483629, .c (.int c), by omega, fun G => ?_⟩
        have c3' : (1000000000000000000 : Int) ≤ c := c3
        simp [execs, exec, ev.eq_1, ev.eq_2, ev.eq_3, ev.eq_4, ev.eq_5, ev.eq_6, ev.eq_7, ev.eq_8, ev.eq_9, ev.eq_10, ev.eq_11, ev.eq_12, ev.eq_13, ev.eq_14, ev.eq_15, ev.eq_16, ev.eq_17, ev.eq_18, ev.eq_19, ev_lc, evAnd, evOr, evCh, evR, evC, evA, evP, evIf, evT, evO, PL.bind, sb, biR, negR, binR, idxR, sliR, metR, cmpR, truthR, callR, iosOf, derefs, putBack, PL.cold, peeks, peek, gets, ofO, retOf, slotOf, setAll, isHot, subAt, recvOk, isMut, isUpd, recvD, dctR, biD, one, ovS, seq?, isInst, PyData.isInt, PyData.isBool, PyData.isTuple, truthD, PyData.truthy, entry, asgT, asgTs, wipeE, notHot, backE, it_lst, it_tpl, it_r1, it_r2, it_r3, it_enum, it_zip, rg1, rg2, ints?, intR, setD, retIs_rt, nxIs_nx, retH_rt, nxH_nx, PyData.isList, PyData.isDict, PyData.isStr, List.range, List.range.loop, sz0, sz1, sz2, sz3, sz4, sz5, sz6, sz7, sz8, sz9, sz10, sz11, sz12, drawFB, hd, i0, i1, i2, i3, cmp_eq, cmp_lt, cmp_ge, lenD, z, c1, c2, ec, ixD, binD, m1, m2, intD, s10, c3']
      · refine ⟨a + 1, 0, (h * 69621 + c + cc) % 2147483629, .c (.int c), by omega, fun G => ?_⟩
        have c3' : ¬ (1000000000000000000 : Int) ≤ c := c3
        simp [execs, exec, ev.eq_1, ev.eq_2, ev.eq_3, ev.eq_4, ev.eq_5, ev.eq_6, ev.eq_7, ev.eq_8, ev.eq_9, ev.eq_10, ev.eq_11, ev.eq_12, ev.eq_13, ev.eq_14, ev.eq_15, ev.eq_16, ev.eq_17, ev.eq_18, ev.eq_19, ev_lc, evAnd, evOr, evCh, evR, evC, evA, evP, evIf, evT, evO, PL.bind, sb, biR, negR, binR, idxR, sliR, metR, cmpR, truthR, callR, iosOf, derefs, putBack, PL.cold, peeks, peek, gets, ofO, retOf, slotOf, setAll, isHot, subAt, recvOk, isMut, isUpd, recvD, dctR, biD, one, ovS, seq?, isInst, PyData.isInt, PyData.isBool, PyData.isTuple, truthD, PyData.truthy, entry, asgT, asgTs, wipeE, notHot, backE, it_lst, it_tpl, it_r1, it_r2, it_r3, it_enum, it_zip, rg1, rg2, ints?, intR, setD, retIs_rt, nxIs_nx, retH_rt, nxH_nx, PyData.isList, PyData.isDict, PyData.isStr, List.range, List.range.loop, sz0, sz1, sz2, sz3, sz4, sz5, sz6, sz7, sz8, sz9, sz10, sz11, sz12, drawFB, hd, i0, i1, i2, i3, cmp_eq, cmp_lt, cmp_ge, lenD, z, c1, c2, ec, ixD, binD, m1, m2, intD, s10, c3']
    · refine ⟨a, v, h, .no, ha, fun G => ?_⟩
      simp [execs, exec, ev.eq_1, ev.eq_2, ev.eq_3, ev.eq_4, ev.eq_5, ev.eq_6, ev.eq_7, ev.eq_8, ev.eq_9, ev.eq_10, ev.eq_11, ev.eq_12, ev.eq_13, ev.eq_14, ev.eq_15, ev.eq_16, ev.eq_17, ev.eq_18, ev.eq_19, ev_lc, evAnd, evOr, evCh, evR, evC, evA, evP, evIf, evT, evO, PL.bind, sb, biR, negR, binR, idxR, sliR, metR, cmpR, truthR, callR, iosOf, derefs, putBack, PL.cold, peeks, peek, gets, ofO, retOf, slotOf, setAll, isHot, subAt, recvOk, isMut, isUpd, recvD, dctR, biD, one, ovS, seq?, isInst, PyData.isInt, PyData.isBool, PyData.isTuple, truthD, PyData.truthy, entry, asgT, asgTs, wipeE, notHot, backE, it_lst, it_tpl, it_r1, it_r2, it_r3, it_enum, it_zip, rg1, rg2, ints?, intR, setD, retIs_rt, nxIs_nx, retH_rt, nxH_nx, PyData.isList, PyData.isDict, PyData.isStr, List.range, List.range.loop, sz0, sz1, sz2, sz3, sz4, sz5, sz6, sz7, sz8, sz9, sz10, sz11, sz12, drawFB, hd, i0, i1, i2, cmp_eq, cmp_lt, lenD, z, c1, c2]
  · refine ⟨a, v, h, .no, ha, fun G => ?_⟩
    simp [execs, exec, ev.eq_1, ev.eq_2, ev.eq_3, ev.eq_4, ev.eq_5, ev.eq_6, ev.eq_7, ev.eq_8, ev.eq_9, ev.eq_10, ev.eq_11, ev.eq_12, ev.eq_13, ev.eq_14, ev.eq_15, ev.eq_16, ev.eq_17, ev.eq_18, ev.eq_19, ev_lc, evAnd, evOr, evCh, evR, evC, evA, evP, evIf, evT, evO, PL.bind, sb, biR, negR, binR, idxR, sliR, metR, cmpR, truthR, callR, iosOf, derefs, putBack, PL.cold, peeks, peek, gets, ofO, retOf, slotOf, setAll, isHot, subAt, recvOk, isMut, isUpd, recvD, dctR, biD, one, ovS, seq?, isInst, PyData.isInt, PyData.isBool, PyData.isTuple, truthD, PyData.truthy, entry, asgT, asgTs, wipeE, notHot, backE, it_lst, it_tpl, it_r1, it_r2, it_r3, it_enum, it_zip, rg1, rg2, ints?, intR, setD, retIs_rt, nxIs_nx, retH_rt, nxH_nx, PyData.isList, PyData.isDict, PyData.isStr, List.range, List.range.loop, sz0, sz1, sz2, sz3, sz4, sz5, sz6, sz7, sz8, sz9, sz10, sz11, sz12, drawFB, hd, i0, i1, i2, cmp_eq, cmp_lt, lenD, z, c1]
theorem c_drawB {cc : Int} (hD : defs "_law_draw" = some (dDrawB cc)) {d : PyData} (hd0 : HandOk d) (many : Int) (h1 : 1 ≤ many) (h2 : many ≤ 1000) : ∃ r d', 0 ≤ r ∧ r < many ∧ HandOk d' ∧ ∀ n, callD defs N (n + 1) "_law_draw" [d, .int many] = .ok (.c (.int r)) [d'] := by
  obtain ⟨cells, a, v, h, k, rfl, hl, ha⟩ := hd0
  have i2 : ∀ x y u v w : PyData, idxD (.list [x, y, u, v, w]) (.int 2) = some u := fun _ _ _ _ _ => rfl
  have i3 : ∀ x y u v w : PyData, idxD (.list [x, y, u, v, w]) (.int 3) = some v := fun _ _ _ _ _ => rfl
  have i4 : ∀ x y u v w : PyData, idxD (.list [x, y, u, v, w]) (.int 4) = some w := fun _ _ _ _ _ => rfl
  obtain ⟨a', v', h', x, ha', st⟩ := draw1B (N := N) cc cells a v h k many hl ha
  have pm : 0 < many := by omega
  have mid' : mid many = true := decide_eq_true (by
    have : (1000 : Nat) < 2 ^ 4096 := by decide +kernel
    omega)
  have dv : divOk many = true := by unfold divOk; rw [mid']; simp [pm]
  have m1 : ∀ j, mulOk 7919 j = true := fun j => mul_l (by decide)
  have m2 : ∀ j, mulOk j 48271 = true := fun j => mul_r (by decide)
  have d1 : divOk 1009 = true := by decide +kernel
  have d2 : divOk 2003 = true := by decide +kernel
  have d3 : divOk 16 = true := by decide +kernel
  by_cases c : v' > 0
  · refine ⟨v' % many, hd cells a' (v' / many) h' k, Int.emod_nonneg _ (by omega), Int.emod_lt_of_pos _ pm, ⟨cells, a', v' / many, h', k, rfl, hl, ha'⟩, fun n => ?_⟩
    refine callD_ret (D := dDrawB cc) hD rfl (ρ := [.h true (hd cells a' (v' / many) h' k), .c (.int many), x, .c (.int (v' % many)), .no]) ?_ rfl
    refine execs_seq (st _) ?_
    have c' : 0 < v' := c
    simp [execs, exec, ev.eq_1, ev.eq_2, ev.eq_3, ev.eq_4, ev.eq_5, ev.eq_6, ev.eq_7, ev.eq_8, ev.eq_9, ev.eq_10, ev.eq_11, ev.eq_12, ev.eq_13, ev.eq_14, ev.eq_15, ev.eq_16, ev.eq_17, ev.eq_18, ev.eq_19, ev_lc, evAnd, evOr, evCh, evR, evC, evA, evP, evIf, evT, evO, PL.bind, sb, biR, negR, binR, idxR, sliR, metR, cmpR, truthR, callR, iosOf, derefs, putBack, PL.cold, peeks, peek, gets, ofO, retOf, slotOf, setAll, isHot, subAt, recvOk, isMut, isUpd, recvD, dctR, biD, one, ovS, seq?, isInst, PyData.isInt, PyData.isBool, PyData.isTuple, truthD, PyData.truthy, entry, asgT, asgTs, wipeE, notHot, backE, it_lst, it_tpl, it_r1, it_r2, it_r3, it_enum, it_zip, rg1, rg2, ints?, intR, setD, retIs_rt, nxIs_nx, retH_rt, nxH_nx, PyData.isList, PyData.isDict, PyData.isStr, List.range, List.range.loop, sz0, sz1, sz2, sz3, sz4, sz5, sz6, sz7, sz8, sz9, sz10, sz11, sz12, hd, i2, i3, i4, cmp_gt, c', intD, binD, pm, dv, ixD]
  · have k1 := fun y : Int => And.intro (Int.emod_nonneg y (show (2147483647 : Int) ≠ 0 by decide)) (Int.emod_lt_of_pos y (show (0 : Int) < 2147483647 by decide))
    have k2 := fun y : Int => And.intro (Int.emod_nonneg y (show (2147483647 : Int) ≠ 0 by decide)) (Int.emod_lt_of_pos y (show (0 : Int) < 2147483647 by decide))
    generalize e1 : (h' + 7919 * (k + 1)) * 48271 % 2147483647 = n1
    have b1 := k1 ((h' + 7919 * (k + 1)) * 48271)
    rw [e1] at b1
    generalize e2 : n1 * (n1 / 1009 + 69621) % 2147483647 = n2
    have b2 := k2 (n1 * (n1 / 1009 + 69621))
    rw [e2] at b2
    generalize e3 : n2 * (n2 / 2003 + 40692) % 2147483399 = n3
    have s1 : ∀ j, mulOk n1 j = true := fun j => mul_l (small_of (by omega) (by omega))
    have s2 : ∀ j, mulOk n2 j = true := fun j => mul_l (small_of (by omega) (by omega))
    refine ⟨n3 / 16 % many, hd cells a' v' h' (k + 1), Int.emod_nonneg _ (by omega), Int.emod_lt_of_pos _ pm, ⟨cells, a', v', h', k + 1, rfl, hl, ha'⟩, fun n => ?_⟩
    refine callD_ret (D := dDrawB cc) hD rfl (ρ := [.h true (hd cells a' v' h' (k + 1)), .c (.int many), x, .no, .c (.int n3)]) ?_ rfl
    refine execs_seq (st _) ?_
    have c' : ¬ 0 < v' := c
    refine execs_seq (ρ1 := [.h true (hd cells a' v' h' k), .c (.int many), x, .no, .no]) (by simp [execs, exec, ev.eq_1, ev.eq_2, ev.eq_3, ev.eq_4, ev.eq_5, ev.eq_6, ev.eq_7, ev.eq_8, ev.eq_9, ev.eq_10, ev.eq_11, ev.eq_12, ev.eq_13, ev.eq_14, ev.eq_15, ev.eq_16, ev.eq_17, ev.eq_18, ev.eq_19, ev_lc, evAnd, evOr, evCh, evR, evC, evA, evP, evIf, evT, evO, PL.bind, sb, biR, negR, binR, idxR, sliR, metR, cmpR, truthR, callR, iosOf, derefs, putBack, PL.cold, peeks, peek, gets, ofO, retOf, slotOf, setAll, isHot, subAt, recvOk, isMut, isUpd, recvD, dctR, biD, one, ovS, seq?, isInst, PyData.isInt, PyData.isBool, PyData.isTuple, truthD, PyData.truthy, entry, asgT, asgTs, wipeE, notHot, backE, it_lst, it_tpl, it_r1, it_r2, it_r3, it_enum, it_zip, rg1, rg2, ints?, intR, setD, retIs_rt, nxIs_nx, retH_rt, nxH_nx, PyData.isList, PyData.isDict, PyData.isStr, List.range, List.range.loop, sz0, sz1, sz2, sz3, sz4, sz5, sz6, sz7, sz8, sz9, sz10, sz11, sz12, hd, i2, cmp_gt, c']) ?_
    refine execs_seq (ρ1 := [.h true (hd cells a' v' h' (k + 1)), .c (.int many), x, .no, .no]) (by simp [execs, exec, ev.eq_1, ev.eq_2, ev.eq_3, ev.eq_4, ev.eq_5, ev.eq_6, ev.eq_7, ev.eq_8, ev.eq_9, ev.eq_10, ev.eq_11, ev.eq_12, ev.eq_13, ev.eq_14, ev.eq_15, ev.eq_16, ev.eq_17, ev.eq_18, ev.eq_19, ev_lc, evAnd, evOr, evCh, evR, evC, evA, evP, evIf, evT, evO, PL.bind, sb, biR, negR, binR, idxR, sliR, metR, cmpR, truthR, callR, iosOf, derefs, putBack, PL.cold, peeks, peek, gets, ofO, retOf, slotOf, setAll, isHot, subAt, recvOk, isMut, isUpd, recvD, dctR, biD, one, ovS, seq?, isInst, PyData.isInt, PyData.isBool, PyData.isTuple, truthD, PyData.truthy, entry, asgT, asgTs, wipeE, notHot, backE, it_lst, it_tpl, it_r1, it_r2, it_r3, it_enum, it_zip, rg1, rg2, ints?, intR, setD, retIs_rt, nxIs_nx, retH_rt, nxH_nx, PyData.isList, PyData.isDict, PyData.isStr, List.range, List.range.loop, sz0, sz1, sz2, sz3, sz4, sz5, sz6, sz7, sz8, sz9, sz10, sz11, sz12, hd, i4, binD, ixD]) ?_
    refine execs_seq (ρ1 := [.h true (hd cells a' v' h' (k + 1)), .c (.int many), x, .no, .c (.int n1)]) (by simp [execs, exec, ev.eq_1, ev.eq_2, ev.eq_3, ev.eq_4, ev.eq_5, ev.eq_6, ev.eq_7, ev.eq_8, ev.eq_9, ev.eq_10, ev.eq_11, ev.eq_12, ev.eq_13, ev.eq_14, ev.eq_15, ev.eq_16, ev.eq_17, ev.eq_18, ev.eq_19, ev_lc, evAnd, evOr, evCh, evR, evC, evA, evP, evIf, evT, evO, PL.bind, sb, biR, negR, binR, idxR, sliR, metR, cmpR, truthR, callR, iosOf, derefs, putBack, PL.cold, peeks, peek, gets, ofO, retOf, slotOf, setAll, isHot, subAt, recvOk, isMut, isUpd, recvD, dctR, biD, one, ovS, seq?, isInst, PyData.isInt, PyData.isBool, PyData.isTuple, truthD, PyData.truthy, entry, asgT, asgTs, wipeE, notHot, backE, it_lst, it_tpl, it_r1, it_r2, it_r3, it_enum, it_zip, rg1, rg2, ints?, intR, setD, retIs_rt, nxIs_nx, retH_rt, nxH_nx, PyData.isList, PyData.isDict, PyData.isStr, List.range, List.range.loop, sz0, sz1, sz2, sz3, sz4, sz5, sz6, sz7, sz8, sz9, sz10, sz11, sz12, hd, i3, i4, binD, ixD, m1, m2, intD, e1]) ?_
    refine execs_seq (ρ1 := [.h true (hd cells a' v' h' (k + 1)), .c (.int many), x, .no, .c (.int n2)]) (by simp [execs, exec, ev.eq_1, ev.eq_2, ev.eq_3, ev.eq_4, ev.eq_5, ev.eq_6, ev.eq_7, ev.eq_8, ev.eq_9, ev.eq_10, ev.eq_11, ev.eq_12, ev.eq_13, ev.eq_14, ev.eq_15, ev.eq_16, ev.eq_17, ev.eq_18, ev.eq_19, ev_lc, evAnd, evOr, evCh, evR, evC, evA, evP, evIf, evT, evO, PL.bind, sb, biR, negR, binR, idxR, sliR, metR, cmpR, truthR, callR, iosOf, derefs, putBack, PL.cold, peeks, peek, gets, ofO, retOf, slotOf, setAll, isHot, subAt, recvOk, isMut, isUpd, recvD, dctR, biD, one, ovS, seq?, isInst, PyData.isInt, PyData.isBool, PyData.isTuple, truthD, PyData.truthy, entry, asgT, asgTs, wipeE, notHot, backE, it_lst, it_tpl, it_r1, it_r2, it_r3, it_enum, it_zip, rg1, rg2, ints?, intR, setD, retIs_rt, nxIs_nx, retH_rt, nxH_nx, PyData.isList, PyData.isDict, PyData.isStr, List.range, List.range.loop, sz0, sz1, sz2, sz3, sz4, sz5, sz6, sz7, sz8, sz9, sz10, sz11, sz12, binD, d1, s1, intD, e2]) ?_
    refine execs_seq (ρ1 := [.h true (hd cells a' v' h' (k + 1)), .c (.int many), x, .no, .c (.int n3)]) (by simp [execs, exec, ev.eq_1, ev.eq_2, ev.eq_3, ev.eq_4, ev.eq_5, ev.eq_6, ev.eq_7, ev.eq_8, ev.eq_9, ev.eq_10, ev.eq_11, ev.eq_12, ev.eq_13, ev.eq_14, ev.eq_15, ev.eq_16, ev.eq_17, ev.eq_18, ev.eq_19, ev_lc, evAnd, evOr, evCh, evR, evC, evA, evP, evIf, evT, evO, PL.bind, sb, biR, negR, binR, idxR, sliR, metR, cmpR, truthR, callR, iosOf, derefs, putBack, PL.cold, peeks, peek, gets, ofO, retOf, slotOf, setAll, isHot, subAt, recvOk, isMut, isUpd, recvD, dctR, biD, one, ovS, seq?, isInst, PyData.isInt, PyData.isBool, PyData.isTuple, truthD, PyData.truthy, entry, asgT, asgTs, wipeE, notHot, backE, it_lst, it_tpl, it_r1, it_r2, it_r3, it_enum, it_zip, rg1, rg2, ints?, intR, setD, retIs_rt, nxIs_nx, retH_rt, nxH_nx, PyData.isList, PyData.isDict, PyData.isStr, List.range, List.range.loop, sz0, sz1, sz2, sz3, sz4, sz5, sz6, sz7, sz8, sz9, sz10, sz11, sz12, binD, d2, s2, intD, e3]) ?_
    simp [execs, exec, ev.eq_1, ev.eq_2, ev.eq_3, ev.eq_4, ev.eq_5, ev.eq_6, ev.eq_7, ev.eq_8, ev.eq_9, ev.eq_10, ev.eq_11, ev.eq_12, ev.eq_13, ev.eq_14, ev.eq_15, ev.eq_16, ev.eq_17, ev.eq_18, ev.eq_19, ev_lc, evAnd, evOr, evCh, evR, evC, evA, evP, evIf, evT, evO, PL.bind, sb, biR, negR, binR, idxR, sliR, metR, cmpR, truthR, callR, iosOf, derefs, putBack, PL.cold, peeks, peek, gets, ofO, retOf, slotOf, setAll, isHot, subAt, recvOk, isMut, isUpd, recvD, dctR, biD, one, ovS, seq?, isInst, PyData.isInt, PyData.isBool, PyData.isTuple, truthD, PyData.truthy, entry, asgT, asgTs, wipeE, notHot, backE, it_lst, it_tpl, it_r1, it_r2, it_r3, it_enum, it_zip, rg1, rg2, ints?, intR, setD, retIs_rt, nxIs_nx, retH_rt, nxH_nx, PyData.isList, PyData.isDict, PyData.isStr, List.range, List.range.loop, sz0, sz1, sz2, sz3, sz4, sz5, sz6, sz7, sz8, sz9, sz10, sz11, sz12, binD, d3, intD, pm]
end
def dSome : Def := ⟨2, 2, [0], [.ret (.idx (.var 1) (.call "_law_draw" [(.var 0), (.bi .len [(.var 1)])]))]⟩
/-- what a draw does -/
def Draws (defs : Str → Option Def) (N : Nat) : Prop := (∃ D, defs "_law_draw" = some D ∧ D.ios = [0]) ∧ ∀ {d : PyData}, HandOk d → ∀ (many : Int), 1 ≤ many → many ≤ 1000 → ∃ r d', 0 ≤ r ∧ r < many ∧ HandOk d' ∧ ∀ n, callD defs N (n + 1) "_law_draw" [d, .int many] = .ok (.c (.int r)) [d']
theorem draws_A {N : Nat} {defs : Str → Option Def} (hD : defs "_law_draw" = some dDrawA) : Draws defs N := ⟨⟨_, hD, rfl⟩, fun h m h1 h2 => c_drawA hD h m h1 h2⟩
theorem draws_B {N : Nat} {defs : Str → Option Def} {cc : Int} (hD : defs "_law_draw" = some (dDrawB cc)) : Draws defs N := ⟨⟨_, hD, rfl⟩, fun h m h1 h2 => c_drawB hD h m h1 h2⟩
theorem c_someG {N : Nat} {defs : Str → Option Def} {f : Str} (D : Draws defs N) (hS : defs f = some dSome) {d : PyData} (hd0 : HandOk d) (xs : List PyData) (h1 : 1 ≤ xs.length) (h2 : xs.length ≤ 1000) (t : PyData) (ht : t = .list xs ∨ t = .tuple xs) : ∃ x d', x ∈ xs ∧ HandOk d' ∧ ∀ n, callD defs N (n + 2) f [d, t] = .ok (.c x) [d'] := by
  obtain ⟨⟨DD, e0, io⟩, dr⟩ := D
  obtain ⟨r, d', r0, r1, hk, e⟩ := dr hd0 (xs.length : Int) (by omega) (by omega)
  have l : r.toNat < xs.length := by omega
  refine ⟨xs[r.toNat], d', List.getElem_mem l, hk, fun n => ?_⟩
  have z : szOk xs.length = true := decide_eq_true (by omega)
  have q := e n
  have ix : (ixD xs.length r).bind (fun j => xs[j]?) = some xs[r.toNat] := by
    unfold ixD
    rw [if_pos r0, if_pos (by omega), Option.bind_some, List.getElem?_eq_getElem l]
  rcases ht with rfl | rfl
  · refine callD_ret (D := dSome) hS rfl (ρ := [.h true d', .c (.list xs)]) ?_ rfl
    simp [execs, exec, ev.eq_1, ev.eq_2, ev.eq_3, ev.eq_4, ev.eq_5, ev.eq_6, ev.eq_7, ev.eq_8, ev.eq_9, ev.eq_10, ev.eq_11, ev.eq_12, ev.eq_13, ev.eq_14, ev.eq_15, ev.eq_16, ev.eq_17, ev.eq_18, ev.eq_19, ev_lc, evAnd, evOr, evCh, evR, evC, evA, evP, evIf, evT, evO, PL.bind, sb, biR, negR, binR, idxR, sliR, metR, cmpR, truthR, callR, iosOf, derefs, putBack, PL.cold, peeks, peek, gets, ofO, retOf, slotOf, setAll, isHot, subAt, recvOk, isMut, isUpd, recvD, dctR, biD, one, ovS, seq?, isInst, PyData.isInt, PyData.isBool, PyData.isTuple, truthD, PyData.truthy, entry, asgT, asgTs, wipeE, notHot, backE, it_lst, it_tpl, it_r1, it_r2, it_r3, it_enum, it_zip, rg1, rg2, ints?, intR, setD, retIs_rt, nxIs_nx, retH_rt, nxH_nx, PyData.isList, PyData.isDict, PyData.isStr, List.range, List.range.loop, sz0, sz1, sz2, sz3, sz4, sz5, sz6, sz7, sz8, sz9, sz10, sz11, sz12, dSome, lenD, z, e0, io, q, idxD, ix]
  · refine callD_ret (D := dSome) hS rfl (ρ := [.h true d', .c (.tuple xs)]) ?_ rfl
    simp [execs, exec, ev.eq_1, ev.eq_2, ev.eq_3, ev.eq_4, ev.eq_5, ev.eq_6, ev.eq_7, ev.eq_8, ev.eq_9, ev.eq_10, ev.eq_11, ev.eq_12, ev.eq_13, ev.eq_14, ev.eq_15, ev.eq_16, ev.eq_17, ev.eq_18, ev.eq_19, ev_lc, evAnd, evOr, evCh, evR, evC, evA, evP, evIf, evT, evO, PL.bind, sb, biR, negR, binR, idxR, sliR, metR, cmpR, truthR, callR, iosOf, derefs, putBack, PL.cold, peeks, peek, gets, ofO, retOf, slotOf, setAll, isHot, subAt, recvOk, isMut, isUpd, recvD, dctR, biD, one, ovS, seq?, isInst, PyData.isInt, PyData.isBool, PyData.isTuple, truthD, PyData.truthy, entry, asgT, asgTs, wipeE, notHot, backE, it_lst, it_tpl, it_r1, it_r2, it_r3, it_enum, it_zip, rg1, rg2, ints?, intR, setD, retIs_rt, nxIs_nx, retH_rt, nxH_nx, PyData.isList, PyData.isDict, PyData.isStr, List.range, List.range.loop, sz0, sz1, sz2, sz3, sz4, sz5, sz6, sz7, sz8, sz9, sz10, sz11, sz12, dSome, lenD, z, e0, io, q, idxD, ix]
/-- a comprehension whose turns draw -/
theorem lcL_draw {α : Type} {step : PyData → PL.Env → Out (Option PyData)} {g : α → PyData} (E : PyData → PL.Env) (P : PyData → Prop) : ∀ {l : List α}, (∀ x ∈ l, ∀ d, HandOk d → ∃ y d', P y ∧ HandOk d' ∧ step (g x) (E d) = .ok (some y) (E d')) →
    ∀ {d : PyData} {acc : List PyData}, HandOk d → acc.length + l.length ≤ 1000000 → ∃ (ys : List PyData) (d' : PyData), ys.length = l.length ∧ (∀ y ∈ ys, P y) ∧ HandOk d' ∧ lcL step (l.map g) acc (E d) = .ok (acc ++ ys) (E d')
  | [], _, d, acc, hd, _ => ⟨[], d, rfl, (fun y hy => nomatch hy), hd, by rw [List.map_nil, lcL, List.append_nil]⟩
  | x :: l, h, d, acc, hd, hl => by
    rw [List.length_cons] at hl
    obtain ⟨y, d1, py, h1, e1⟩ := h x List.mem_cons_self d hd
    obtain ⟨ys, d2, ly, hy, h2, e2⟩ := lcL_draw E P (l := l) (fun z hz => h z (List.mem_cons_of_mem _ hz)) (acc := acc ++ [y]) h1 (by rw [List.length_append, List.length_singleton]; omega)
    refine ⟨y :: ys, d2, by rw [List.length_cons, List.length_cons, ly], fun z hz => ?_, h2, ?_⟩
    · rcases List.mem_cons.mp hz with rfl | hz
      · exact py
      · exact hy z hz
    · rw [List.map_cons, lcL, e1]
      dsimp only
      rw [if_pos (by unfold szOk; exact decide_eq_true (by omega)), e2, List.append_assoc]
      rfl
/-- the same with a test -/
theorem lcL_drawF {α : Type} {step : PyData → PL.Env → Out (Option PyData)} {g : α → PyData} (E : PyData → PL.Env) (f : α → PyData) (Q : α → Prop) : ∀ {l : List α}, (∀ x ∈ l, ∀ d, HandOk d → ∃ b d', (b = true → Q x) ∧ HandOk d' ∧ step (g x) (E d) = .ok (if b = true then some (f x) else none) (E d')) →
    ∀ {d : PyData} {acc : List PyData}, HandOk d → acc.length + l.length ≤ 1000000 → ∃ (ys : List α) (d' : PyData), ys.Sublist l ∧ (∀ y ∈ ys, Q y) ∧ HandOk d' ∧ lcL step (l.map g) acc (E d) = .ok (acc ++ ys.map f) (E d')
  | [], _, d, acc, hd, _ => ⟨[], d, .slnil, (fun _ h => nomatch h), hd, by rw [List.map_nil, lcL, List.map_nil, List.append_nil]⟩
  | x :: l, h, d, acc, hd, hl => by
    rw [List.length_cons] at hl
    obtain ⟨b, d1, hq, h1, e1⟩ := h x List.mem_cons_self d hd
    cases b with
    | true =>
      obtain ⟨ys, d2, sl, hy, h2, e2⟩ := lcL_drawF E f Q (l := l) (fun z hz => h z (List.mem_cons_of_mem _ hz)) (acc := acc ++ [f x]) h1 (by rw [List.length_append, List.length_singleton]; omega)
      refine ⟨x :: ys, d2, sl.cons_cons x, fun z hz => ?_, h2, ?_⟩
      · rcases List.mem_cons.mp hz with rfl | hz
        · exact hq rfl
        · exact hy z hz
      · rw [List.map_cons, lcL, e1, if_pos rfl]
        dsimp only
        rw [if_pos (by unfold szOk; exact decide_eq_true (by omega)), e2, List.append_assoc]
        rfl
    | false =>
      obtain ⟨ys, d2, sl, hy, h2, e2⟩ := lcL_drawF E f Q (l := l) (fun z hz => h z (List.mem_cons_of_mem _ hz)) (acc := acc) h1 (by omega)
      refine ⟨ys, d2, sl.cons x, hy, h2, ?_⟩
      rw [List.map_cons, lcL, e1, if_neg Bool.false_ne_true]
      exact e2
theorem forL_inv {α : Type} {T : Tg} {b : PL.Env → SOut} {g : α → PyData} (I : PL.Env → Prop) : ∀ {l : List α}, (∀ x ∈ l, ∀ ρ, I ρ → ∃ ρ1 ρ2, asgT T (g x) ρ = some ρ1 ∧ b ρ1 = .nx ρ2 ∧ I ρ2) → ∀ {ρ : PL.Env}, I ρ → ∃ ρ', forL T b (l.map g) ρ = .nx ρ' ∧ I ρ'
  | [], _, ρ, i => ⟨ρ, by rw [List.map_nil, forL], i⟩
  | x :: l, h, ρ, i => by
    obtain ⟨ρ1, ρ2, e1, e2, i2⟩ := h x List.mem_cons_self ρ i
    obtain ⟨ρ', e3, i3⟩ := forL_inv I (l := l) (fun y hy => h y (List.mem_cons_of_mem _ hy)) i2
    exact ⟨ρ', forL_seq e1 e2 e3, i3⟩
end PL


set_option autoImplicit false
set_option linter.all false
set_option Elab.async false
set_option maxRecDepth 100000
set_option maxHeartbeats 1000000
/-! LIB1: the checks that all laws share. -/
namespace PL
open PySem PL
def isOkD (r : CRes) (d : PyData) : Bool := match r with
  | .ok (.c e) [] => sameD e d
  | _ => false
theorem isOk_eq {r : CRes} {d : PyData} (h : isOkD r d = true) : r = .ok (.c d) [] := by
  cases r with
  | ok s outs =>
    cases s with
    | c e =>
      cases outs with
      | nil =>
        have := sameD_eq (show sameD e d = true from h)
        rw [this]
      | cons a b => cases h
    | no => cases h
    | h io e => cases h
  | exc c o => cases h
  | stuck => cases h
def dIsInteger : Def := ⟨1, 1, [], [.ret (.band [(.bi (.isinst .int) [(.var 0)]), (.not (.bi (.isinst .bool) [(.var 0)]))])]⟩
def dIsWithin : Def := ⟨3, 3, [], [.ret (.band [(.call "is_integer" [(.var 0)]), (.cmp (.var 1) [.LtE, .LtE] [(.var 0), (.var 2)])])]⟩
def dIsTuple : Def := ⟨3, 3, [], [.ret (.band [(.bi (.isinst .tuple) [(.var 0)]), (.cmp (.var 1) [.LtE, .LtE] [(.bi .len [(.var 0)]), (.var 2)])])]⟩
def dIsLot : Def := ⟨2, 4, [], [.ite (.bor [(.not (.bi (.isinst .tuple) [(.var 0)])), (.not (.bi .all [(.lc (.call "is_within" [(.var 2), (.con (.int 0)), (.bin .Sub (.var 1) (.con (.int 1)))]) (.nm 2) .plain [(.var 0)] [] [2])]))]) [.ret (.con (.bool false))] [],
    .ret (.bi .all [(.lc (.cmp (.var 2) [.Lt] [(.var 3)]) (.tp [(.nm 2), (.nm 3)]) .zip [(.var 0), (.sli (.var 0) [(.con (.int 1))] [])] [] [2, 3])])]⟩
def intB : PyData → Bool
  | .int _ => true
  | _ => false
def inW (lo hi : Int) : PyData → Bool
  | .int i => decide (lo ≤ i ∧ i ≤ hi)
  | _ => false
def tupB (a b : Int) : PyData → Bool
  | .tuple xs => decide (a ≤ xs.length ∧ (xs.length : Int) ≤ b)
  | _ => false
section
variable {N n : Nat} {defs : Str → Option Def}
theorem l_is_integer (h1 : defs "is_integer" = some dIsInteger) (d : PyData) : callD defs N (n + 1) "is_integer" [d] = .ok (.c (.bool (intB d))) [] := by
  refine callD_ret (D := dIsInteger) h1 rfl (ρ := [.c d]) ?_ rfl
  cases d <;> simp [execs, exec, ev.eq_1, ev.eq_2, ev.eq_3, ev.eq_4, ev.eq_5, ev.eq_6, ev.eq_7, ev.eq_8, ev.eq_9, ev.eq_10, ev.eq_11, ev.eq_12, ev.eq_13, ev.eq_14, ev.eq_15, ev.eq_16, ev.eq_17, ev.eq_18, ev.eq_19, ev_lc, evAnd, evOr, evCh, evR, evC, evA, evP, evIf, evT, evO, PL.bind, sb, biR, negR, binR, idxR, sliR, metR, cmpR, truthR, callR, iosOf, derefs, putBack, PL.cold, peeks, peek, gets, ofO, retOf, slotOf, setAll, isHot, subAt, recvOk, isMut, isUpd, recvD, dctR, biD, one, ovS, seq?, isInst, PyData.isInt, PyData.isBool, PyData.isTuple, truthD, PyData.truthy, entry, asgT, asgTs, wipeE, notHot, backE, it_lst, it_tpl, it_r1, it_r2, it_r3, it_enum, it_zip, rg1, rg2, ints?, intR, setD, retIs_rt, nxIs_nx, retH_rt, nxH_nx, PyData.isList, PyData.isDict, PyData.isStr, List.range, List.range.loop, sz0, sz1, sz2, sz3, sz4, sz5, sz6, sz7, sz8, sz9, sz10, sz11, sz12, dIsInteger, intB]
theorem l_is_within (h1 : defs "is_integer" = some dIsInteger) (h2 : defs "is_within" = some dIsWithin) (d : PyData) (lo hi : Int) : callD defs N (n + 2) "is_within" [d, .int lo, .int hi] = .ok (.c (.bool (inW lo hi d))) [] := by
  refine callD_ret (D := dIsWithin) h2 rfl (ρ := [.c d, .c (.int lo), .c (.int hi)]) ?_ rfl
  have q := l_is_integer (N := N) (n := n) h1 d
  have i0 : dIsInteger.ios = [] := rfl
  cases d with
  | int t =>
    simp [execs, exec, ev.eq_1, ev.eq_2, ev.eq_3, ev.eq_4, ev.eq_5, ev.eq_6, ev.eq_7, ev.eq_8, ev.eq_9, ev.eq_10, ev.eq_11, ev.eq_12, ev.eq_13, ev.eq_14, ev.eq_15, ev.eq_16, ev.eq_17, ev.eq_18, ev.eq_19, ev_lc, evAnd, evOr, evCh, evR, evC, evA, evP, evIf, evT, evO, PL.bind, sb, biR, negR, binR, idxR, sliR, metR, cmpR, truthR, callR, iosOf, derefs, putBack, PL.cold, peeks, peek, gets, ofO, retOf, slotOf, setAll, isHot, subAt, recvOk, isMut, isUpd, recvD, dctR, biD, one, ovS, seq?, isInst, PyData.isInt, PyData.isBool, PyData.isTuple, truthD, PyData.truthy, entry, asgT, asgTs, wipeE, notHot, backE, it_lst, it_tpl, it_r1, it_r2, it_r3, it_enum, it_zip, rg1, rg2, ints?, intR, setD, retIs_rt, nxIs_nx, retH_rt, nxH_nx, PyData.isList, PyData.isDict, PyData.isStr, List.range, List.range.loop, sz0, sz1, sz2, sz3, sz4, sz5, sz6, sz7, sz8, sz9, sz10, sz11, sz12, dIsWithin, q, h1, i0, cmp_le, intB, inW]
    by_cases h : lo ≤ t <;> simp [execs, exec, ev.eq_1, ev.eq_2, ev.eq_3, ev.eq_4, ev.eq_5, ev.eq_6, ev.eq_7, ev.eq_8, ev.eq_9, ev.eq_10, ev.eq_11, ev.eq_12, ev.eq_13, ev.eq_14, ev.eq_15, ev.eq_16, ev.eq_17, ev.eq_18, ev.eq_19, ev_lc, evAnd, evOr, evCh, evR, evC, evA, evP, evIf, evT, evO, PL.bind, sb, biR, negR, binR, idxR, sliR, metR, cmpR, truthR, callR, iosOf, derefs, putBack, PL.cold, peeks, peek, gets, ofO, retOf, slotOf, setAll, isHot, subAt, recvOk, isMut, isUpd, recvD, dctR, biD, one, ovS, seq?, isInst, PyData.isInt, PyData.isBool, PyData.isTuple, truthD, PyData.truthy, entry, asgT, asgTs, wipeE, notHot, backE, it_lst, it_tpl, it_r1, it_r2, it_r3, it_enum, it_zip, rg1, rg2, ints?, intR, setD, retIs_rt, nxIs_nx, retH_rt, nxH_nx, PyData.isList, PyData.isDict, PyData.isStr, List.range, List.range.loop, sz0, sz1, sz2, sz3, sz4, sz5, sz6, sz7, sz8, sz9, sz10, sz11, sz12, h]
  | _ => simp [execs, exec, ev.eq_1, ev.eq_2, ev.eq_3, ev.eq_4, ev.eq_5, ev.eq_6, ev.eq_7, ev.eq_8, ev.eq_9, ev.eq_10, ev.eq_11, ev.eq_12, ev.eq_13, ev.eq_14, ev.eq_15, ev.eq_16, ev.eq_17, ev.eq_18, ev.eq_19, ev_lc, evAnd, evOr, evCh, evR, evC, evA, evP, evIf, evT, evO, PL.bind, sb, biR, negR, binR, idxR, sliR, metR, cmpR, truthR, callR, iosOf, derefs, putBack, PL.cold, peeks, peek, gets, ofO, retOf, slotOf, setAll, isHot, subAt, recvOk, isMut, isUpd, recvD, dctR, biD, one, ovS, seq?, isInst, PyData.isInt, PyData.isBool, PyData.isTuple, truthD, PyData.truthy, entry, asgT, asgTs, wipeE, notHot, backE, it_lst, it_tpl, it_r1, it_r2, it_r3, it_enum, it_zip, rg1, rg2, ints?, intR, setD, retIs_rt, nxIs_nx, retH_rt, nxH_nx, PyData.isList, PyData.isDict, PyData.isStr, List.range, List.range.loop, sz0, sz1, sz2, sz3, sz4, sz5, sz6, sz7, sz8, sz9, sz10, sz11, sz12, dIsWithin, q, h1, i0, intB, inW]
theorem l_is_tuple (h3 : defs "is_tuple" = some dIsTuple) (xs : List PyData) (a b : Int) (h : xs.length ≤ 1000000) : callD defs N (n + 1) "is_tuple" [.tuple xs, .int a, .int b] = .ok (.c (.bool (decide (a ≤ xs.length ∧ (xs.length : Int) ≤ b)))) [] := by
  refine callD_ret (D := dIsTuple) h3 rfl (ρ := [.c (.tuple xs), .c (.int a), .c (.int b)]) ?_ rfl
  have z : szOk xs.length = true := decide_eq_true h
  simp [execs, exec, ev.eq_1, ev.eq_2, ev.eq_3, ev.eq_4, ev.eq_5, ev.eq_6, ev.eq_7, ev.eq_8, ev.eq_9, ev.eq_10, ev.eq_11, ev.eq_12, ev.eq_13, ev.eq_14, ev.eq_15, ev.eq_16, ev.eq_17, ev.eq_18, ev.eq_19, ev_lc, evAnd, evOr, evCh, evR, evC, evA, evP, evIf, evT, evO, PL.bind, sb, biR, negR, binR, idxR, sliR, metR, cmpR, truthR, callR, iosOf, derefs, putBack, PL.cold, peeks, peek, gets, ofO, retOf, slotOf, setAll, isHot, subAt, recvOk, isMut, isUpd, recvD, dctR, biD, one, ovS, seq?, isInst, PyData.isInt, PyData.isBool, PyData.isTuple, truthD, PyData.truthy, entry, asgT, asgTs, wipeE, notHot, backE, it_lst, it_tpl, it_r1, it_r2, it_r3, it_enum, it_zip, rg1, rg2, ints?, intR, setD, retIs_rt, nxIs_nx, retH_rt, nxH_nx, PyData.isList, PyData.isDict, PyData.isStr, List.range, List.range.loop, sz0, sz1, sz2, sz3, sz4, sz5, sz6, sz7, sz8, sz9, sz10, sz11, sz12, dIsTuple, lenD, z, cmp_le]
  by_cases h : a ≤ xs.length <;> simp [execs, exec, ev.eq_1, ev.eq_2, ev.eq_3, ev.eq_4, ev.eq_5, ev.eq_6, ev.eq_7, ev.eq_8, ev.eq_9, ev.eq_10, ev.eq_11, ev.eq_12, ev.eq_13, ev.eq_14, ev.eq_15, ev.eq_16, ev.eq_17, ev.eq_18, ev.eq_19, ev_lc, evAnd, evOr, evCh, evR, evC, evA, evP, evIf, evT, evO, PL.bind, sb, biR, negR, binR, idxR, sliR, metR, cmpR, truthR, callR, iosOf, derefs, putBack, PL.cold, peeks, peek, gets, ofO, retOf, slotOf, setAll, isHot, subAt, recvOk, isMut, isUpd, recvD, dctR, biD, one, ovS, seq?, isInst, PyData.isInt, PyData.isBool, PyData.isTuple, truthD, PyData.truthy, entry, asgT, asgTs, wipeE, notHot, backE, it_lst, it_tpl, it_r1, it_r2, it_r3, it_enum, it_zip, rg1, rg2, ints?, intR, setD, retIs_rt, nxIs_nx, retH_rt, nxH_nx, PyData.isList, PyData.isDict, PyData.isStr, List.range, List.range.loop, sz0, sz1, sz2, sz3, sz4, sz5, sz6, sz7, sz8, sz9, sz10, sz11, sz12, h]
/-- of a thing of any kind -/
theorem l_is_tupleG (h3 : defs "is_tuple" = some dIsTuple) (d : PyData) (a b : Int) (h : ∀ xs, d = .tuple xs → xs.length ≤ 1000000) : callD defs N (n + 1) "is_tuple" [d, .int a, .int b] = .ok (.c (.bool (tupB a b d))) [] := by
  by_cases c : ∃ xs, d = .tuple xs
  · obtain ⟨xs, rfl⟩ := c
    exact l_is_tuple h3 xs a b (h xs rfl)
  · refine callD_ret (D := dIsTuple) h3 rfl (ρ := [.c d, .c (.int a), .c (.int b)]) ?_ rfl
    cases d <;> first | exact absurd ⟨_, rfl⟩ c | simp [execs, exec, ev.eq_1, ev.eq_2, ev.eq_3, ev.eq_4, ev.eq_5, ev.eq_6, ev.eq_7, ev.eq_8, ev.eq_9, ev.eq_10, ev.eq_11, ev.eq_12, ev.eq_13, ev.eq_14, ev.eq_15, ev.eq_16, ev.eq_17, ev.eq_18, ev.eq_19, ev_lc, evAnd, evOr, evCh, evR, evC, evA, evP, evIf, evT, evO, PL.bind, sb, biR, negR, binR, idxR, sliR, metR, cmpR, truthR, callR, iosOf, derefs, putBack, PL.cold, peeks, peek, gets, ofO, retOf, slotOf, setAll, isHot, subAt, recvOk, isMut, isUpd, recvD, dctR, biD, one, ovS, seq?, isInst, PyData.isInt, PyData.isBool, PyData.isTuple, truthD, PyData.truthy, entry, asgT, asgTs, wipeE, notHot, backE, it_lst, it_tpl, it_r1, it_r2, it_r3, it_enum, it_zip, rg1, rg2, ints?, intR, setD, retIs_rt, nxIs_nx, retH_rt, nxH_nx, PyData.isList, PyData.isDict, PyData.isStr, List.range, List.range.loop, sz0, sz1, sz2, sz3, sz4, sz5, sz6, sz7, sz8, sz9, sz10, sz11, sz12, dIsTuple, tupB, PyData.isTuple]
theorem allL_true {α : Type} {l : List α} {f : α → PyData} (h : ∀ x ∈ l, f x = .bool true) : allL (l.map f) = some (.val (.bool true)) := by
  have e : (l.map f).all plainTruth = true := List.all_eq_true.mpr fun y hy => by
    obtain ⟨x, hx, rfl⟩ := List.mem_map.mp hy
    rw [h x hx]; rfl
  have e2 : (l.map f).all PyData.truthy = true := List.all_eq_true.mpr fun y hy => by
    obtain ⟨x, hx, rfl⟩ := List.mem_map.mp hy
    rw [h x hx]; rfl
  unfold allL
  rw [if_pos e, e2]
theorem any_bools {α : Type} {l : List α} {q : α → Bool} : anyL (l.map fun x => PyData.bool (q x)) = some (.val (.bool (l.any q))) := by
  have e : (l.map fun x => PyData.bool (q x)).all plainTruth = true := List.all_eq_true.mpr fun y hy => by
    obtain ⟨x, hx, rfl⟩ := List.mem_map.mp hy
    rfl
  unfold anyL
  rw [if_pos e, List.any_map]
  rfl
/-! lots -/
/-- rising -/
def riseB : List PyData → Bool
  | .int i :: .int j :: r => decide (i < j) && riseB (.int j :: r)
  | _ => true
def lotB (many : Int) : PyData → Bool
  | .tuple xs => xs.all (inW 0 (many - 1)) && riseB xs
  | _ => false
theorem lcL_map' {step : PyData → PL.Env → Out (Option PyData)} {f : PyData → PyData} {ρ : PL.Env} {l : List PyData} (h : ∀ x ∈ l, step x ρ = .ok (some (f x)) ρ) (hl : l.length ≤ 1000000) : lcL step l [] ρ = .ok (l.map f) ρ := by
  have q := lcL_all (step := step) (g := fun x => x) (f := f) (ρ := ρ) (l := l) h hl
  rw [List.map_id'] at q
  exact q
theorem zip_next : ∀ {xs : List PyData} {lo hi : Int}, xs.all (inW lo hi) = true → ∃ ps : List (Int × Int), zip2 xs (xs.tail) = ps.map (fun p => .tuple [.int p.1, .int p.2]) ∧ ps.all (fun p => decide (p.1 < p.2)) = riseB xs ∧ ps.length ≤ xs.length
  | [], _, _, _ => ⟨[], rfl, rfl, Nat.le_refl _⟩
  | [x], _, _, h => ⟨[], by cases x <;> rfl, by cases x <;> rfl, by simp⟩
  | x :: y :: r, lo, hi, h => by
    rw [List.all_cons, Bool.and_eq_true] at h
    obtain ⟨ps, e1, e2, e3⟩ := zip_next h.2
    have h2 := h.2
    rw [List.all_cons, Bool.and_eq_true] at h2
    cases x with
    | int i =>
      cases y with
      | int j =>
        refine ⟨(i, j) :: ps, ?_, ?_, by rw [List.length_cons, List.length_cons]; omega⟩
        · rw [List.map_cons, ← e1]; rfl
        · rw [List.all_cons, e2]; rfl
      | _ => simp [inW] at h2
    | _ => simp [inW] at h
theorem l_is_lot (h1 : defs "is_integer" = some dIsInteger) (h2 : defs "is_within" = some dIsWithin) (h4 : defs "is_lot" = some dIsLot) (d : PyData) (many : Int) (h : ∀ xs, d = .tuple xs → xs.length ≤ 1000000) : callD defs N (n + 3) "is_lot" [d, .int many] = .ok (.c (.bool (lotB many d))) [] := by
  by_cases ct : ∃ xs, d = .tuple xs
  · obtain ⟨xs, rfl⟩ := ct
    have hl := h xs rfl
    refine callD_ret (D := dIsLot) h4 rfl (ρ := [.c (.tuple xs), .c (.int many), .no, .no]) ?_ rfl
    have iw : dIsWithin.ios = [] := rfl
    have a1 := all_bools (l := xs) (q := inW 0 (many - 1))
    have st : ∀ x, callD defs N (n + 2) "is_within" [x, .int 0, .int (many - 1)] = .ok (.c (.bool (inW 0 (many - 1) x))) [] := fun x => l_is_within (N := N) (n := n) h1 h2 x 0 (many - 1)
    have dr : cut xs (some 1) none = xs.tail := by
      unfold cut bnd
      cases xs with
      | nil => rfl
      | cons x xs => simp
    have zz : itemsD .zip [.tuple xs, .tuple (xs.tail)] = some (zip2 xs (xs.tail)) := rfl
    by_cases c : xs.all (inW 0 (many - 1)) = true
    · obtain ⟨ps, e1, e2, e3⟩ := zip_next c
      have a2 := all_bools (l := ps) (q := fun p => decide (p.1 < p.2))
      simp [execs, exec, ev.eq_1, ev.eq_2, ev.eq_3, ev.eq_4, ev.eq_5, ev.eq_6, ev.eq_7, ev.eq_8, ev.eq_9, ev.eq_10, ev.eq_11, ev.eq_12, ev.eq_13, ev.eq_14, ev.eq_15, ev.eq_16, ev.eq_17, ev.eq_18, ev.eq_19, ev_lc, evAnd, evOr, evCh, evR, evC, evA, evP, evIf, evT, evO, PL.bind, sb, biR, negR, binR, idxR, sliR, metR, cmpR, truthR, callR, iosOf, derefs, putBack, PL.cold, peeks, peek, gets, ofO, retOf, slotOf, setAll, isHot, subAt, recvOk, isMut, isUpd, recvD, dctR, biD, one, ovS, seq?, isInst, PyData.isInt, PyData.isBool, PyData.isTuple, truthD, PyData.truthy, entry, asgT, asgTs, wipeE, notHot, backE, it_lst, it_tpl, it_r1, it_r2, it_r3, it_enum, it_zip, rg1, rg2, ints?, intR, setD, retIs_rt, nxIs_nx, retH_rt, nxH_nx, PyData.isList, PyData.isDict, PyData.isStr, List.range, List.range.loop, sz0, sz1, sz2, sz3, sz4, sz5, sz6, sz7, sz8, sz9, sz10, sz11, sz12, dIsLot]
      rw [lcL_map' (f := fun x => .bool (inW 0 (many - 1) x)) (fun x _ => by simp [execs, exec, ev.eq_1, ev.eq_2, ev.eq_3, ev.eq_4, ev.eq_5, ev.eq_6, ev.eq_7, ev.eq_8, ev.eq_9, ev.eq_10, ev.eq_11, ev.eq_12, ev.eq_13, ev.eq_14, ev.eq_15, ev.eq_16, ev.eq_17, ev.eq_18, ev.eq_19, ev_lc, evAnd, evOr, evCh, evR, evC, evA, evP, evIf, evT, evO, PL.bind, sb, biR, negR, binR, idxR, sliR, metR, cmpR, truthR, callR, iosOf, derefs, putBack, PL.cold, peeks, peek, gets, ofO, retOf, slotOf, setAll, isHot, subAt, recvOk, isMut, isUpd, recvD, dctR, biD, one, ovS, seq?, isInst, PyData.isInt, PyData.isBool, PyData.isTuple, truthD, PyData.truthy, entry, asgT, asgTs, wipeE, notHot, backE, it_lst, it_tpl, it_r1, it_r2, it_r3, it_enum, it_zip, rg1, rg2, ints?, intR, setD, retIs_rt, nxIs_nx, retH_rt, nxH_nx, PyData.isList, PyData.isDict, PyData.isStr, List.range, List.range.loop, sz0, sz1, sz2, sz3, sz4, sz5, sz6, sz7, sz8, sz9, sz10, sz11, sz12, stepF, st, h2, iw, binD]) hl]
      simp [execs, exec, ev.eq_1, ev.eq_2, ev.eq_3, ev.eq_4, ev.eq_5, ev.eq_6, ev.eq_7, ev.eq_8, ev.eq_9, ev.eq_10, ev.eq_11, ev.eq_12, ev.eq_13, ev.eq_14, ev.eq_15, ev.eq_16, ev.eq_17, ev.eq_18, ev.eq_19, ev_lc, evAnd, evOr, evCh, evR, evC, evA, evP, evIf, evT, evO, PL.bind, sb, biR, negR, binR, idxR, sliR, metR, cmpR, truthR, callR, iosOf, derefs, putBack, PL.cold, peeks, peek, gets, ofO, retOf, slotOf, setAll, isHot, subAt, recvOk, isMut, isUpd, recvD, dctR, biD, one, ovS, seq?, isInst, PyData.isInt, PyData.isBool, PyData.isTuple, truthD, PyData.truthy, entry, asgT, asgTs, wipeE, notHot, backE, it_lst, it_tpl, it_r1, it_r2, it_r3, it_enum, it_zip, rg1, rg2, ints?, intR, setD, retIs_rt, nxIs_nx, retH_rt, nxH_nx, PyData.isList, PyData.isDict, PyData.isStr, List.range, List.range.loop, sz0, sz1, sz2, sz3, sz4, sz5, sz6, sz7, sz8, sz9, sz10, sz11, sz12, a1, c, lotB, sliD, dr, zz, e1]
      rw [lcL_all (l := ps) (g := fun p : Int × Int => .tuple [.int p.1, .int p.2]) (f := fun p => .bool (decide (p.1 < p.2))) (fun p _ => by simp [execs, exec, ev.eq_1, ev.eq_2, ev.eq_3, ev.eq_4, ev.eq_5, ev.eq_6, ev.eq_7, ev.eq_8, ev.eq_9, ev.eq_10, ev.eq_11, ev.eq_12, ev.eq_13, ev.eq_14, ev.eq_15, ev.eq_16, ev.eq_17, ev.eq_18, ev.eq_19, ev_lc, evAnd, evOr, evCh, evR, evC, evA, evP, evIf, evT, evO, PL.bind, sb, biR, negR, binR, idxR, sliR, metR, cmpR, truthR, callR, iosOf, derefs, putBack, PL.cold, peeks, peek, gets, ofO, retOf, slotOf, setAll, isHot, subAt, recvOk, isMut, isUpd, recvD, dctR, biD, one, ovS, seq?, isInst, PyData.isInt, PyData.isBool, PyData.isTuple, truthD, PyData.truthy, entry, asgT, asgTs, wipeE, notHot, backE, it_lst, it_tpl, it_r1, it_r2, it_r3, it_enum, it_zip, rg1, rg2, ints?, intR, setD, retIs_rt, nxIs_nx, retH_rt, nxH_nx, PyData.isList, PyData.isDict, PyData.isStr, List.range, List.range.loop, sz0, sz1, sz2, sz3, sz4, sz5, sz6, sz7, sz8, sz9, sz10, sz11, sz12, stepF, cmp_lt]) (by omega)]
      simp [execs, exec, ev.eq_1, ev.eq_2, ev.eq_3, ev.eq_4, ev.eq_5, ev.eq_6, ev.eq_7, ev.eq_8, ev.eq_9, ev.eq_10, ev.eq_11, ev.eq_12, ev.eq_13, ev.eq_14, ev.eq_15, ev.eq_16, ev.eq_17, ev.eq_18, ev.eq_19, ev_lc, evAnd, evOr, evCh, evR, evC, evA, evP, evIf, evT, evO, PL.bind, sb, biR, negR, binR, idxR, sliR, metR, cmpR, truthR, callR, iosOf, derefs, putBack, PL.cold, peeks, peek, gets, ofO, retOf, slotOf, setAll, isHot, subAt, recvOk, isMut, isUpd, recvD, dctR, biD, one, ovS, seq?, isInst, PyData.isInt, PyData.isBool, PyData.isTuple, truthD, PyData.truthy, entry, asgT, asgTs, wipeE, notHot, backE, it_lst, it_tpl, it_r1, it_r2, it_r3, it_enum, it_zip, rg1, rg2, ints?, intR, setD, retIs_rt, nxIs_nx, retH_rt, nxH_nx, PyData.isList, PyData.isDict, PyData.isStr, List.range, List.range.loop, sz0, sz1, sz2, sz3, sz4, sz5, sz6, sz7, sz8, sz9, sz10, sz11, sz12, a2, e2]
    · have c' : xs.all (inW 0 (many - 1)) = false := by simpa using c
      simp [execs, exec, ev.eq_1, ev.eq_2, ev.eq_3, ev.eq_4, ev.eq_5, ev.eq_6, ev.eq_7, ev.eq_8, ev.eq_9, ev.eq_10, ev.eq_11, ev.eq_12, ev.eq_13, ev.eq_14, ev.eq_15, ev.eq_16, ev.eq_17, ev.eq_18, ev.eq_19, ev_lc, evAnd, evOr, evCh, evR, evC, evA, evP, evIf, evT, evO, PL.bind, sb, biR, negR, binR, idxR, sliR, metR, cmpR, truthR, callR, iosOf, derefs, putBack, PL.cold, peeks, peek, gets, ofO, retOf, slotOf, setAll, isHot, subAt, recvOk, isMut, isUpd, recvD, dctR, biD, one, ovS, seq?, isInst, PyData.isInt, PyData.isBool, PyData.isTuple, truthD, PyData.truthy, entry, asgT, asgTs, wipeE, notHot, backE, it_lst, it_tpl, it_r1, it_r2, it_r3, it_enum, it_zip, rg1, rg2, ints?, intR, setD, retIs_rt, nxIs_nx, retH_rt, nxH_nx, PyData.isList, PyData.isDict, PyData.isStr, List.range, List.range.loop, sz0, sz1, sz2, sz3, sz4, sz5, sz6, sz7, sz8, sz9, sz10, sz11, sz12, dIsLot]
      rw [lcL_map' (f := fun x => .bool (inW 0 (many - 1) x)) (fun x _ => by simp [execs, exec, ev.eq_1, ev.eq_2, ev.eq_3, ev.eq_4, ev.eq_5, ev.eq_6, ev.eq_7, ev.eq_8, ev.eq_9, ev.eq_10, ev.eq_11, ev.eq_12, ev.eq_13, ev.eq_14, ev.eq_15, ev.eq_16, ev.eq_17, ev.eq_18, ev.eq_19, ev_lc, evAnd, evOr, evCh, evR, evC, evA, evP, evIf, evT, evO, PL.bind, sb, biR, negR, binR, idxR, sliR, metR, cmpR, truthR, callR, iosOf, derefs, putBack, PL.cold, peeks, peek, gets, ofO, retOf, slotOf, setAll, isHot, subAt, recvOk, isMut, isUpd, recvD, dctR, biD, one, ovS, seq?, isInst, PyData.isInt, PyData.isBool, PyData.isTuple, truthD, PyData.truthy, entry, asgT, asgTs, wipeE, notHot, backE, it_lst, it_tpl, it_r1, it_r2, it_r3, it_enum, it_zip, rg1, rg2, ints?, intR, setD, retIs_rt, nxIs_nx, retH_rt, nxH_nx, PyData.isList, PyData.isDict, PyData.isStr, List.range, List.range.loop, sz0, sz1, sz2, sz3, sz4, sz5, sz6, sz7, sz8, sz9, sz10, sz11, sz12, stepF, st, h2, iw, binD]) hl]
      simp [execs, exec, ev.eq_1, ev.eq_2, ev.eq_3, ev.eq_4, ev.eq_5, ev.eq_6, ev.eq_7, ev.eq_8, ev.eq_9, ev.eq_10, ev.eq_11, ev.eq_12, ev.eq_13, ev.eq_14, ev.eq_15, ev.eq_16, ev.eq_17, ev.eq_18, ev.eq_19, ev_lc, evAnd, evOr, evCh, evR, evC, evA, evP, evIf, evT, evO, PL.bind, sb, biR, negR, binR, idxR, sliR, metR, cmpR, truthR, callR, iosOf, derefs, putBack, PL.cold, peeks, peek, gets, ofO, retOf, slotOf, setAll, isHot, subAt, recvOk, isMut, isUpd, recvD, dctR, biD, one, ovS, seq?, isInst, PyData.isInt, PyData.isBool, PyData.isTuple, truthD, PyData.truthy, entry, asgT, asgTs, wipeE, notHot, backE, it_lst, it_tpl, it_r1, it_r2, it_r3, it_enum, it_zip, rg1, rg2, ints?, intR, setD, retIs_rt, nxIs_nx, retH_rt, nxH_nx, PyData.isList, PyData.isDict, PyData.isStr, List.range, List.range.loop, sz0, sz1, sz2, sz3, sz4, sz5, sz6, sz7, sz8, sz9, sz10, sz11, sz12, a1, c', lotB]
  · refine callD_ret (D := dIsLot) h4 rfl (ρ := [.c d, .c (.int many), .no, .no]) ?_ rfl
    cases d <;> first | exact absurd ⟨_, rfl⟩ ct | simp [execs, exec, ev.eq_1, ev.eq_2, ev.eq_3, ev.eq_4, ev.eq_5, ev.eq_6, ev.eq_7, ev.eq_8, ev.eq_9, ev.eq_10, ev.eq_11, ev.eq_12, ev.eq_13, ev.eq_14, ev.eq_15, ev.eq_16, ev.eq_17, ev.eq_18, ev.eq_19, ev_lc, evAnd, evOr, evCh, evR, evC, evA, evP, evIf, evT, evO, PL.bind, sb, biR, negR, binR, idxR, sliR, metR, cmpR, truthR, callR, iosOf, derefs, putBack, PL.cold, peeks, peek, gets, ofO, retOf, slotOf, setAll, isHot, subAt, recvOk, isMut, isUpd, recvD, dctR, biD, one, ovS, seq?, isInst, PyData.isInt, PyData.isBool, PyData.isTuple, truthD, PyData.truthy, entry, asgT, asgTs, wipeE, notHot, backE, it_lst, it_tpl, it_r1, it_r2, it_r3, it_enum, it_zip, rg1, rg2, ints?, intR, setD, retIs_rt, nxIs_nx, retH_rt, nxH_nx, PyData.isList, PyData.isDict, PyData.isStr, List.range, List.range.loop, sz0, sz1, sz2, sz3, sz4, sz5, sz6, sz7, sz8, sz9, sz10, sz11, sz12, dIsLot, lotB, PyData.isTuple]
end
end PL

set_option autoImplicit false
set_option linter.all false
set_option Elab.async false
set_option maxRecDepth 100000
set_option maxHeartbeats 1000000
/-! LIB2: loops by their index; membership; equality. -/
namespace PL
open PySem PL
theorem forL_ix {T : Tg} {b : PL.Env → SOut} (R : Nat → PL.Env → Prop) : ∀ {items : List PyData} {j : Nat}, (∀ k d, items[k]? = some d → ∀ ρ, R (j + k) ρ → ∃ ρ1 ρ2, asgT T d ρ = some ρ1 ∧ b ρ1 = .nx ρ2 ∧ R (j + k + 1) ρ2) → ∀ {ρ : PL.Env}, R j ρ → ∃ ρ', forL T b items ρ = .nx ρ' ∧ R (j + items.length) ρ'
  | [], j, _, ρ, r => ⟨ρ, by rw [forL], r⟩
  | x :: l, j, h, ρ, r => by
    obtain ⟨ρ1, ρ2, e1, e2, r2⟩ := h 0 x rfl ρ r
    obtain ⟨ρ', e3, r3⟩ := forL_ix R (items := l) (j := j + 1) (fun k d hk ρ hr => by
      have := h (k + 1) d (by simpa using hk) ρ (by rw [show j + (k + 1) = j + 1 + k by omega]; exact hr)
      rw [show j + (k + 1) = j + 1 + k by omega] at this
      exact this) (ρ := ρ2) r2
    exact ⟨ρ', forL_seq e1 e2 e3, by rw [List.length_cons, show j + (l.length + 1) = j + 1 + l.length by omega]; exact r3⟩
theorem forL_ix0 {T : Tg} {b : PL.Env → SOut} {items : List PyData} (R : Nat → PL.Env → Prop) (h : ∀ k d, items[k]? = some d → ∀ ρ, R k ρ → ∃ ρ1 ρ2, asgT T d ρ = some ρ1 ∧ b ρ1 = .nx ρ2 ∧ R (k + 1) ρ2) {ρ : PL.Env} (r : R 0 ρ) : ∃ ρ', forL T b items ρ = .nx ρ' ∧ R items.length ρ' := by
  obtain ⟨ρ', e, q⟩ := forL_ix R (j := 0) (items := items) (fun k d hk ρ hr => by
    rw [Nat.zero_add] at hr ⊢
    exact h k d hk ρ hr) r
  exact ⟨ρ', e, by rw [Nat.zero_add] at q; exact q⟩
/-- a loop that may return -/
theorem forL_find {T : Tg} {b : PL.Env → SOut} (R : Nat → PL.Env → Prop) (P : Nat → Option Slot) : ∀ {items : List PyData} {j : Nat}, (∀ k d, items[k]? = some d → ∀ ρ, R (j + k) ρ → ∃ ρ1 ρ2, asgT T d ρ = some ρ1 ∧ (P (j + k) = none → b ρ1 = .nx ρ2 ∧ R (j + k + 1) ρ2) ∧ (∀ r, P (j + k) = some r → b ρ1 = .rt r ρ2)) →
    ∀ {ρ : PL.Env}, R j ρ → ∃ ρ', ((List.range items.length).findSome? (fun k => P (j + k)) = none → forL T b items ρ = .nx ρ' ∧ R (j + items.length) ρ') ∧ ∀ r, (List.range items.length).findSome? (fun k => P (j + k)) = some r → forL T b items ρ = .rt r ρ'
  | [], j, _, ρ, r => ⟨ρ, fun _ => ⟨by rw [forL], r⟩, fun r h => by simp at h⟩
  | x :: l, j, h, ρ, r => by
    obtain ⟨ρ1, ρ2, e1, e2, e3⟩ := h 0 x rfl ρ r
    rw [Nat.add_zero] at e2 e3
    have er : ∀ f : Nat → Option Slot, (List.range (l.length + 1)).findSome? f = (f 0).or ((List.range l.length).findSome? fun k => f (k + 1)) := fun f => by
      rw [List.range_succ_eq_map, List.findSome?_cons, List.findSome?_map]
      cases f 0 <;> rfl
    cases c : P j with
    | some r0 =>
      refine ⟨ρ2, fun z => ?_, fun r' z => ?_⟩
      · rw [List.length_cons, er, Nat.add_zero, c] at z; cases z
      · rw [List.length_cons, er, Nat.add_zero, c] at z
        cases z
        rw [forL, e1]
        dsimp only
        rw [e3 r0 c]
    | none =>
      obtain ⟨e4, r2⟩ := e2 c
      obtain ⟨ρ', f1, f2⟩ := forL_find R P (items := l) (j := j + 1) (fun k d hk ρ hr => by
        have := h (k + 1) d (by simpa using hk) ρ (by rw [show j + (k + 1) = j + 1 + k by omega]; exact hr)
        rw [show j + (k + 1) = j + 1 + k by omega] at this
        exact this) (ρ := ρ2) r2
      have ef : (fun k => P (j + (k + 1))) = fun k => P (j + 1 + k) := funext fun k => by rw [show j + (k + 1) = j + 1 + k by omega]
      refine ⟨ρ', fun z => ?_, fun r' z => ?_⟩
      · rw [List.length_cons, er, Nat.add_zero, c, ef] at z
        obtain ⟨g1, g2⟩ := f1 z
        exact ⟨forL_seq e1 e4 g1, by rw [List.length_cons, show j + (l.length + 1) = j + 1 + l.length by omega]; exact g2⟩
      · rw [List.length_cons, er, Nat.add_zero, c, ef] at z
        exact forL_seq e1 e4 (f2 r' z)
theorem forL_find0 {T : Tg} {b : PL.Env → SOut} {items : List PyData} (R : Nat → PL.Env → Prop) (P : Nat → Option Slot) (h : ∀ k d, items[k]? = some d → ∀ ρ, R k ρ → ∃ ρ1 ρ2, asgT T d ρ = some ρ1 ∧ (P k = none → b ρ1 = .nx ρ2 ∧ R (k + 1) ρ2) ∧ (∀ r, P k = some r → b ρ1 = .rt r ρ2)) {ρ : PL.Env} (r : R 0 ρ) :
    ∃ ρ', ((List.range items.length).findSome? P = none → forL T b items ρ = .nx ρ' ∧ R items.length ρ') ∧ ∀ r, (List.range items.length).findSome? P = some r → forL T b items ρ = .rt r ρ' := by
  obtain ⟨ρ', f1, f2⟩ := forL_find R P (j := 0) (items := items) (fun k d hk ρ hr => by
    rw [Nat.zero_add] at hr ⊢
    exact h k d hk ρ hr) r
  have ef : (fun k => P (0 + k)) = P := funext fun k => by rw [Nat.zero_add]
  rw [ef, Nat.zero_add] at f1
  rw [ef] at f2
  exact ⟨ρ', f1, f2⟩
theorem range_find {α β : Type} (p : α → Bool) (f : α → β) : ∀ (l : List α), (List.range l.length).findSome? (fun k => (l[k]?).bind fun x => if p x = true then some (f x) else none) = (l.find? p).map f
  | [] => rfl
  | x :: l => by
    rw [List.length_cons, List.range_succ_eq_map, List.findSome?_cons, List.findSome?_map]
    have := range_find p f l
    by_cases c : p x = true
    · simp [c]
    · simp only [List.getElem?_cons_zero, Option.bind_some, c, List.find?_cons]
      simpa [Function.comp_def] using this
theorem eqv_int (a b : Int) : PyData.eqv (.int a) (.int b) = decide (a = b) := rfl
theorem eqvAll_ints : ∀ a b : List Int, PyData.eqvAll (a.map .int) (b.map .int) = decide (a = b)
  | [], [] => by simp [PyData.eqvAll]
  | [], _ :: _ => by simp [PyData.eqvAll]
  | _ :: _, [] => by simp [PyData.eqvAll]
  | x :: a, y :: b => by
    rw [List.map_cons, List.map_cons, W.eqv_all_cons, eqvAll_ints a b, eqv_int]
    by_cases h : x = y <;> by_cases k : a = b <;> simp [h, k]
theorem deep_listI (l : List Int) : deepOk (.list (l.map .int)) = true := by
  have := deep_ints l
  unfold deepOk
  rw [PyData.plain, PyData.depth, this.1]
  exact decide_eq_true (by have := this.2; omega)
theorem deep_tupI (l : List Int) : deepOk (.tuple (l.map .int)) = true := by
  have := deep_ints l
  unfold deepOk
  rw [PyData.plain, PyData.depth, this.1]
  exact decide_eq_true (by have := this.2; omega)
theorem deeps_ints (l : List Int) : deepOks (l.map .int) = true := by
  have := deep_ints l
  unfold deepOks
  rw [this.1]
  exact decide_eq_true (by have := this.2; omega)
theorem eq_listI (a b : List Int) : cmpD .Eq (.list (a.map .int)) (.list (b.map .int)) = some (decide (a = b)) := by
  rw [cmpD, if_pos (by rw [deep_listI, deep_listI]; rfl), show PyData.eqv (.list (a.map .int)) (.list (b.map .int)) = PyData.eqvAll (a.map .int) (b.map .int) by simp [PyData.eqv], eqvAll_ints]
theorem eq_tupI (a b : List Int) : cmpD .Eq (.tuple (a.map .int)) (.tuple (b.map .int)) = some (decide (a = b)) := by
  rw [cmpD, if_pos (by rw [deep_tupI, deep_tupI]; rfl), show PyData.eqv (.tuple (a.map .int)) (.tuple (b.map .int)) = PyData.eqvAll (a.map .int) (b.map .int) by simp [PyData.eqv], eqvAll_ints]
theorem any_ints (l : List Int) (c : Int) : ((l.map PyData.int).any fun y => PyData.eqv y (.int c)) = decide (c ∈ l) := by
  induction l with
  | nil => simp
  | cons x l ih =>
    rw [List.map_cons, List.any_cons, ih, eqv_int]
    by_cases h : x = c <;> by_cases k : c ∈ l <;> simp [h, k] <;> omega
theorem in_listI (l : List Int) (c : Int) : cmpD .In (.int c) (.list (l.map .int)) = some (decide (c ∈ l)) := by
  rw [cmpD]
  unfold inD
  dsimp only
  rw [deep_int, deeps_ints, any_ints]
  rfl
theorem in_tupI (l : List Int) (c : Int) : cmpD .In (.int c) (.tuple (l.map .int)) = some (decide (c ∈ l)) := by
  rw [cmpD]
  unfold inD
  dsimp only
  rw [deep_int, deeps_ints, any_ints]
  rfl
theorem nin_listI (l : List Int) (c : Int) : cmpD .NotIn (.int c) (.list (l.map .int)) = some (decide (c ∉ l)) := by
  have := in_listI l c
  rw [cmpD] at this
  rw [cmpD, this]
  by_cases k : c ∈ l <;> simp [k]
theorem nin_tupI (l : List Int) (c : Int) : cmpD .NotIn (.int c) (.tuple (l.map .int)) = some (decide (c ∉ l)) := by
  have := in_tupI l c
  rw [cmpD] at this
  rw [cmpD, this]
  by_cases k : c ∈ l <;> simp [k]
theorem is_none_none : cmpD .Is .none .none = some true := rfl
theorem zw (n : Nat) (h : n ≤ 1000000) : szOk n = true := decide_eq_true h
/-- 0, 1, … below n -/
def upto (n : Nat) : List Nat := List.range n
theorem upto_len (n : Nat) : (upto n).length = n := List.length_range
theorem mem_upto {n k : Nat} : k ∈ upto n ↔ k < n := List.mem_range
theorem rg1_nat {k : Nat} (h : k ≤ 1000000) : range1 0 k 1 = some ((upto k).map fun (c : Nat) => PyData.int (c : Int)) := by
  unfold range1
  rw [if_pos (by simp only [Bool.and_eq_true, decide_eq_true_eq]; omega), if_pos rfl, show (((k : Nat) : Int) - 0).toNat = k by omega]
  simp only [Int.zero_add]
  rfl
theorem rg1_int {i : Int} (h0 : 0 ≤ i) (h : i ≤ 1000000) : range1 0 i 1 = some ((upto i.toNat).map fun (c : Nat) => PyData.int (c : Int)) := by
  rw [← rg1_nat (by omega), Int.toNat_of_nonneg h0]
theorem it_r1n {k : Nat} (h : k ≤ 1000000) : itemsD .r1 [.int k] = some ((upto k).map fun (c : Nat) => PyData.int (c : Int)) := rg1_nat h
theorem it_r1i {i : Int} (h0 : 0 ≤ i) (h : i ≤ 1000000) : itemsD .r1 [.int i] = some ((upto i.toNat).map fun (c : Nat) => PyData.int (c : Int)) := rg1_int h0 h
theorem it_r2i {a b : Int} (ha : -1000000 ≤ a) (hb : b ≤ 1000000) (ha' : a ≤ 1000000) (hb' : -1000000 ≤ b) : range1 a b 1 = some ((upto (b - a).toNat).map fun (c : Nat) => PyData.int (a + (c : Int))) := by
  unfold range1
  rw [if_pos (by simp only [Bool.and_eq_true, decide_eq_true_eq]; omega), if_pos rfl]
  rfl
theorem it_r2d {a b : Int} (ha : -1000000 ≤ a) (hb : b ≤ 1000000) (ha' : a ≤ 1000000) (hb' : -1000000 ≤ b) : itemsD .r2 [.int a, .int b] = some ((upto (b - a).toNat).map fun (c : Nat) => PyData.int (a + (c : Int))) := it_r2i ha hb ha' hb'
theorem upto_at {n k c : Nat} (h : (upto n)[k]? = some c) : c = k ∧ k < n := by
  have lj := (List.getElem?_eq_some_iff.mp h).1
  have := (List.getElem?_eq_some_iff.mp h).2
  rw [upto_len] at lj
  unfold upto at this
  rw [List.getElem_range] at this
  exact ⟨this.symm, lj⟩
theorem at_map {α : Type} {f : α → PyData} {l : List α} {k : Nat} {d : PyData} (h : (l.map f)[k]? = some d) : ∃ x, l[k]? = some x ∧ d = f x := by
  rw [List.getElem?_map] at h
  obtain ⟨x, h1, h2⟩ := Option.map_eq_some_iff.mp h
  exact ⟨x, h1, h2.symm⟩
end PL

set_option autoImplicit false
set_option linter.all false
set_option Elab.async false
set_option maxRecDepth 100000
set_option maxHeartbeats 1000000
/-! LIB3: slots as a function. -/
namespace PL
open PySem PL
def sU (f : Nat → Slot) (i : Nat) (s : Slot) : Nat → Slot := fun j => if j = i then s else f j
def E (m : Nat) (f : Nat → Slot) : PL.Env := (List.range m).map f
theorem sU_eq (f : Nat → Slot) (i : Nat) (s : Slot) : sU f i s i = s := if_pos rfl
theorem sU_self (f : Nat → Slot) (i : Nat) : sU f i (f i) = f := by
  funext j
  unfold sU
  by_cases h : j = i <;> simp [h]
theorem sU_ne {f : Nat → Slot} {i j : Nat} {s : Slot} (h : j ≠ i) : sU f i s j = f j := if_neg h
theorem sU_sU (f : Nat → Slot) (i : Nat) (s t : Slot) : sU (sU f i s) i t = sU f i t := by
  funext j
  unfold sU
  by_cases h : j = i <;> simp [h]
theorem sU_comm {f : Nat → Slot} {i j : Nat} {s t : Slot} (h : i ≠ j) : sU (sU f j t) i s = sU (sU f i s) j t := by
  funext k
  unfold sU
  by_cases a : k = i
  · by_cases b : k = j
    · exact absurd (a.symm.trans b) h
    · simp [a, h]
  · by_cases b : k = j <;> simp [b]
    intro c; exact absurd c.symm h
theorem E_get {m : Nat} {f : Nat → Slot} {i : Nat} (h : i < m) : (E m f)[i]?.getD Slot.no = f i := by
  unfold E
  rw [List.getElem?_map, List.getElem?_range h]
  rfl
theorem E_len (m : Nat) (f : Nat → Slot) : (E m f).length = m := by unfold E; rw [List.length_map, List.length_range]
theorem E_set {m : Nat} {f : Nat → Slot} {i : Nat} {s : Slot} : (E m f).set i s = E m (sU f i s) := by
  unfold E
  apply List.ext_getElem?
  intro j
  by_cases h : i = j
  · subst h
    by_cases l : i < m
    · rw [List.getElem?_set_self (by rw [List.length_map, List.length_range]; exact l), List.getElem?_map, List.getElem?_range l]
      simp [sU]
    · rw [List.getElem?_eq_none (by simp; omega), List.getElem?_eq_none (by simp; omega)]
  · rw [List.getElem?_set_ne h, List.getElem?_map, List.getElem?_map]
    by_cases l : j < m
    · rw [List.getElem?_range l]
      simp [sU, Ne.symm h]
    · rw [List.getElem?_eq_none (by simp; omega)]
      rfl
theorem exec_frE {G : PL.Ctx} {N : Nat} {tg : Tg} {k : IK} {es : List Ex} {b : List St} {ds items : List PyData} {ρ ρ1 : PL.Env} (h1 : evC G es ρ = .ok ds ρ1) (h2 : itemsD k ds = some items) : exec G N (.fr tg k es b) ρ = forL tg (execs G N b) items ρ1 := by
  rw [exec, h1]
  show (match itemsD k ds with | some items => forL tg (execs G N b) items ρ1 | none => SOut.stuck) = _
  rw [h2]
theorem execs_one {G : PL.Ctx} {N : Nat} {s : St} {ρ : PL.Env} : execs G N [s] ρ = exec G N s ρ := by
  rw [execs]
  cases exec G N s ρ with
  | nx ρ1 => dsimp only; rw [execs]
  | _ => rfl
theorem execs_rt {G : PL.Ctx} {N : Nat} {s : St} {ss : List St} {ρ ρ1 : PL.Env} {r : Slot} (h : exec G N s ρ = .rt r ρ1) : execs G N (s :: ss) ρ = .rt r ρ1 := by
  rw [execs, h]
theorem idx_map {α : Type} {f : α → PyData} {l : List α} {k : Nat} {x : α} (h : l[k]? = some x) : idxD (.list (l.map f)) (.int (k : Int)) = some (f x) := by
  have hl := (List.getElem?_eq_some_iff.mp h).1
  unfold idxD ixD
  dsimp only
  rw [if_pos (by omega), if_pos (by rw [List.length_map]; omega), Option.bind_some, Int.toNat_natCast, List.getElem?_map, h]
  rfl
theorem idx_mapT {α : Type} {f : α → PyData} {l : List α} {k : Nat} {x : α} (h : l[k]? = some x) : idxD (.tuple (l.map f)) (.int (k : Int)) = some (f x) := by
  have hl := (List.getElem?_eq_some_iff.mp h).1
  unfold idxD ixD
  dsimp only
  rw [if_pos (by omega), if_pos (by rw [List.length_map]; omega), Option.bind_some, Int.toNat_natCast, List.getElem?_map, h]
  rfl
theorem rise_ints : ∀ {l : List Int}, l.Pairwise (· < ·) → riseB (l.map .int) = true
  | [], _ => rfl
  | [_], _ => rfl
  | x :: y :: l, h => by
    obtain ⟨h1, h2⟩ := List.pairwise_cons.mp h
    show (decide (x < y) && riseB ((y :: l).map .int)) = true
    rw [rise_ints h2, decide_eq_true (h1 y List.mem_cons_self)]
    rfl
theorem lot_ok {l : List Int} {m : Int} (h : l.Pairwise (· < ·)) (hb : ∀ x ∈ l, 0 ≤ x ∧ x < m) : lotB m (.tuple (l.map .int)) = true := by
  show ((l.map PyData.int).all (inW 0 (m - 1)) && riseB (l.map .int)) = true
  rw [rise_ints h, Bool.and_true, List.all_map]
  exact List.all_eq_true.mpr fun x hx => decide_eq_true (by have := hb x hx; omega)
theorem cut_drop {α : Type} {l : List α} {k : Nat} (h : k ≤ l.length) : cut l (some ((k : Nat) : Int)) none = l.drop k := by
  unfold cut bnd
  dsimp only
  rw [if_neg (by omega), Int.toNat_natCast, Nat.min_eq_left h, List.take_of_length_le (by rw [List.length_drop]; omega)]
theorem cut_take {α : Type} {l : List α} {k : Nat} (h : k ≤ l.length) : cut l none (some ((k : Nat) : Int)) = l.take k := by
  unfold cut bnd
  dsimp only
  rw [if_neg (by omega), Int.toNat_natCast, Nat.min_eq_left h]
  simp
/-- not one's own -/
def cl : Slot → Bool
  | .h _ _ => false
  | _ => true
theorem cl_no : cl .no = true := rfl
theorem cl_c (d : PyData) : cl (.c d) = true := rfl
theorem notHot_E {m : Nat} {f : Nat → Slot} {i : Nat} (h : i < m) : notHot (E m f) i = cl (f i) := by
  unfold notHot gets
  rw [E_get h]
  cases f i <;> rfl
def Cl (o : List Nat) (f : Nat → Slot) : Prop := ∀ i ∈ o, cl (f i) = true
theorem Cl.set {o : List Nat} {f : Nat → Slot} (h : Cl o f) {i : Nat} {s : Slot} (k : i ∉ o ∨ cl s = true) : Cl o (sU f i s) := fun j hj => by
  unfold sU
  by_cases e : j = i
  · rw [if_pos e]
    rcases k with k | k
    · exact absurd (e ▸ hj) k
    · exact k
  · rw [if_neg e]; exact h j hj
theorem Cl.back {o : List Nat} {f g : Nat → Slot} (h : Cl o f) (k : Cl o g) {i : Nat} : Cl o (sU f i (g i)) := fun j hj => by
  unfold sU
  by_cases e : j = i
  · rw [if_pos e, ← e]; exact k j hj
  · rw [if_neg e]; exact h j hj
end PL

set_option autoImplicit false
set_option linter.all false
set_option Elab.async false
set_option maxRecDepth 100000
namespace PL.L
open PySem PySem.Spec PyProof.Rows L2 PL
def top (i : Nat) : Stmt := PySem.Challenge.pw_fewforces_k87_whole_wheels_that_roll_and.main.body.getD i (.Pass ⟨0, 0, 0, 0⟩)
def n1F : List Str := ["NoNumber", "NoKind", "NoWheels"]
def n2F : List Str := ["NoTurns", "NoFlag"]
def shW : WSh := shA (n1F ++ n2F)
def wds : List (Str × WSh) := [("_law_word", shW)]
def n_is_integer : List Str := ["thing"]
def b_is_integer : List St := [.ret (.band [(.bi (.isinst .int) [(.var 0)]), (.not (.bi (.isinst .bool) [(.var 0)]))])]
def d_is_integer : Def := ⟨1, 1, [], b_is_integer⟩
def n_is_within : List Str := ["thing", "low", "high"]
def b_is_within : List St := [.ret (.band [(.call "is_integer" [(.var 0)]), (.cmp (.var 1) [.LtE, .LtE] [(.var 0), (.var 2)])])]
def d_is_within : Def := ⟨3, 3, [], b_is_within⟩
def n_is_tuple : List Str := ["thing", "least", "most"]
def b_is_tuple : List St := [.ret (.band [(.bi (.isinst .tuple) [(.var 0)]), (.cmp (.var 1) [.LtE, .LtE] [(.bi .len [(.var 0)]), (.var 2)])])]
def d_is_tuple : Def := ⟨3, 3, [], b_is_tuple⟩
def n_divisor : List Str := ["one", "other"]
def b_divisor : List St := [.par [0, 1] [false, false] [(.bi .abs [(.var 0)]), (.bi .abs [(.var 1)])],
    .wh (.cmp (.var 1) [.NotEq] [(.con (.int 0))]) [.par [0, 1] [false, false] [(.var 1), (.bin .Mod (.var 0) (.var 1))]],
    .ret (.var 0)]
def d_divisor : Def := ⟨2, 2, [], b_divisor⟩
def n_reduced : List Str := ["top", "bottom", "low", "sign"]
def b_reduced : List St := [.asg 2 false (.call "divisor" [(.var 0), (.var 1)]),
    .asg 3 false (.ife (.cmp (.var 1) [.Gt] [(.con (.int 0))]) (.con (.int 1)) (.neg (.con (.int 1)))),
    .ret (.tup [(.bin .FloorDiv (.bin .Mult (.var 3) (.var 0)) (.var 2)), (.bin .FloorDiv (.bin .Mult (.var 3) (.var 1)) (.var 2))])]
def d_reduced : Def := ⟨2, 4, [], b_reduced⟩
def n_times : List Str := ["one", "other"]
def b_times : List St := [.ret (.call "reduced" [(.bin .Mult (.idx (.var 0) (.con (.int 0))) (.idx (.var 1) (.con (.int 0)))), (.bin .Mult (.idx (.var 0) (.con (.int 1))) (.idx (.var 1) (.con (.int 1))))])]
def d_times : Def := ⟨2, 2, [], b_times⟩
def n_is_fraction : List Str := ["thing", "one"]
def b_is_fraction : List St := [.ite (.bor [(.not (.call "is_tuple" [(.var 0), (.con (.int 2)), (.con (.int 2))])), (.not (.bi .all [(.lc (.band [(.bi (.isinst .int) [(.var 1)]), (.not (.bi (.isinst .bool) [(.var 1)]))]) (.nm 1) .plain [(.var 0)] [] [1])]))]) [.ret (.con (.bool false))] [],
    .ret (.band [(.cmp (.idx (.var 0) (.con (.int 1))) [.Gt] [(.con (.int 0))]), (.cmp (.call "reduced" [(.idx (.var 0) (.con (.int 0))), (.idx (.var 0) (.con (.int 1)))]) [.Eq] [(.var 0)])])]
def d_is_fraction : Def := ⟨1, 2, [], b_is_fraction⟩
def n_check_wheels : List Str := ["some", "one"]
def b_check_wheels : List St := [.fr (.nm 1) .plain [(.var 0)] [.ite (.not (.call "is_within" [(.var 1), (.con (.int 1)), (.gl "GREATEST" (.int 60))])) [.raise "NoNumber"] []]]
def d_check_wheels : Def := ⟨1, 2, [], b_check_wheels⟩
def n_around : List Str := ["rolling", "still", "kind"]
def b_around : List St := [.ex (.call "check_wheels" [(.lst [(.var 0), (.var 1)])]),
    .ite (.bor [(.not (.bi (.isinst .str) [(.var 2)])), (.cmp (.var 2) [.NotIn] [(.tup [(.con (.str "outside")), (.con (.str "inside"))])])]) [.raise "NoKind"] [],
    .ite (.band [(.cmp (.var 2) [.Eq] [(.con (.str "inside"))]), (.cmp (.var 0) [.GtE] [(.var 1)])]) [.raise "NoNumber"] [],
    .ret (.call "reduced" [(.ife (.cmp (.var 2) [.Eq] [(.con (.str "outside"))]) (.bin .Add (.var 1) (.var 0)) (.bin .Sub (.var 1) (.var 0))), (.var 0)])]
def d_around : Def := ⟨3, 3, [], b_around⟩
def n_till_home : List Str := ["rolling", "still"]
def b_till_home : List St := [.ex (.call "check_wheels" [(.lst [(.var 0), (.var 1)])]),
    .ret (.bin .FloorDiv (.var 0) (.call "divisor" [(.var 0), (.var 1)]))]
def d_till_home : Def := ⟨2, 2, [], b_till_home⟩
def n_touches : List Str := ["rolling", "still"]
def b_touches : List St := [.ex (.call "check_wheels" [(.lst [(.var 0), (.var 1)])]),
    .ret (.bin .FloorDiv (.var 1) (.call "divisor" [(.var 0), (.var 1)]))]
def d_touches : Def := ⟨2, 2, [], b_touches⟩
def n_chain_of : List Str := ["wheels", "at", "one"]
def b_chain_of : List St := [.ite (.bor [(.not (.call "is_tuple" [(.var 0), (.con (.int 2)), (.gl "MOST_WHEELS" (.int 6))])), (.not (.bi .all [(.lc (.call "is_within" [(.var 2), (.con (.int 1)), (.gl "GREATEST" (.int 60))]) (.nm 2) .plain [(.var 0)] [] [2])]))]) [.raise "NoWheels"] [],
    .ret (.bi .tuple [(.lc (.call "reduced" [(.bin .Mult (.idx (.var 0) (.con (.int 0))) (.ife (.cmp (.bin .Mod (.var 1) (.con (.int 2))) [.Eq] [(.con (.int 0))]) (.con (.int 1)) (.neg (.con (.int 1))))), (.var 2)]) (.tp [(.nm 1), (.nm 2)]) .enum [(.var 0)] [] [1, 2])])]
def d_chain_of : Def := ⟨1, 3, [], b_chain_of⟩
def n_rolled_far : List Str := ["wheel", "turns"]
def b_rolled_far : List St := [.ex (.call "check_wheels" [(.lst [(.var 0)])]),
    .ite (.not (.call "is_fraction" [(.var 1)])) [.raise "NoTurns"] [],
    .ret (.call "times" [(.tup [(.bin .Mult (.con (.int 2)) (.var 0)), (.con (.int 1))]), (.var 1)])]
def d_rolled_far : Def := ⟨2, 2, [], b_rolled_far⟩
def n_belt_turns : List Str := ["one", "other", "is_crossed"]
def b_belt_turns : List St := [.ex (.call "check_wheels" [(.lst [(.var 0), (.var 1)])]),
    .ite (.not (.call "is_within" [(.var 2), (.con (.int 0)), (.con (.int 1))])) [.raise "NoFlag"] [],
    .ret (.call "reduced" [(.ife (.cmp (.var 2) [.Eq] [(.con (.int 1))]) (.bin .Sub (.con (.int 0)) (.var 0)) (.var 0)), (.var 1)])]
def d_belt_turns : Def := ⟨3, 3, [], b_belt_turns⟩
def n_law_draw : List Str := ["hand", "limit", "cell", "digit", "number"]
def b_law_draw : List St := [.ite (.band [(.cmp (.idx (.var 0) (.con (.int 2))) [.Eq] [(.con (.int 0))]), (.cmp (.idx (.var 0) (.con (.int 1))) [.Lt] [(.bi .len [(.idx (.var 0) (.con (.int 0)))])])]) [.asg 2 false (.idx (.idx (.var 0) (.con (.int 0))) (.idx (.var 0) (.con (.int 1)))),
    .sub 0 (.con (.int 1)) (.bin .Add (.idx (.var 0) (.con (.int 1))) (.con (.int 1))),
    .sub 0 (.con (.int 3)) (.bin .Mod (.bi .int [(.bin .Add (.bin .Add (.bin .Mult (.idx (.var 0) (.con (.int 3))) (.con (.int 69621))) (.var 2)) (.con (.int 331)))]) (.con (.int 2147483629))),
    .ite (.cmp (.var 2) [.GtE] [(.bin .Pow (.con (.int 10)) (.con (.int 18)))]) [.sub 0 (.con (.int 2)) (.var 2)] []] [],
    .ite (.cmp (.idx (.var 0) (.con (.int 2))) [.Gt] [(.con (.int 0))]) [.asg 3 false (.bin .Mod (.bi .int [(.idx (.var 0) (.con (.int 2)))]) (.var 1)),
    .sub 0 (.con (.int 2)) (.bin .FloorDiv (.idx (.var 0) (.con (.int 2))) (.var 1)),
    .ret (.var 3)] [],
    .sub 0 (.con (.int 4)) (.bin .Add (.idx (.var 0) (.con (.int 4))) (.con (.int 1))),
    .asg 4 false (.bin .Mod (.bi .int [(.bin .Mult (.bi .int [(.bin .Add (.idx (.var 0) (.con (.int 3))) (.bin .Mult (.con (.int 7919)) (.idx (.var 0) (.con (.int 4)))))]) (.con (.int 48271)))]) (.con (.int 2147483647))),
    .asg 4 false (.bin .Mod (.bi .int [(.bin .Mult (.var 4) (.bin .Add (.bin .FloorDiv (.var 4) (.con (.int 1009))) (.con (.int 69621))))]) (.con (.int 2147483647))),
    .asg 4 false (.bin .Mod (.bi .int [(.bin .Mult (.var 4) (.bin .Add (.bin .FloorDiv (.var 4) (.con (.int 2003))) (.con (.int 40692))))]) (.con (.int 2147483399))),
    .ret (.bin .Mod (.bi .int [(.bin .FloorDiv (.var 4) (.con (.int 16)))]) (.var 1))]
def d_law_draw : Def := ⟨2, 5, [0], b_law_draw⟩
def n_law_some : List Str := ["hand", "items"]
def b_law_some : List St := [.ret (.idx (.var 1) (.call "_law_draw" [(.var 0), (.bi .len [(.var 1)])]))]
def d_law_some : Def := ⟨2, 2, [0], b_law_some⟩
def n_law_is : List Str := ["thing", "due", "one", "its"]
def b_law_is : List St := [.ite (.bor [(.bi (.isinst .tuple) [(.var 1)]), (.bi (.isinst .list) [(.var 1)])]) [.ite (.bor [(.cmp (.bi (.isinst .tuple) [(.var 1)]) [.NotEq] [(.bi (.isinst .tuple) [(.var 0)])]), (.cmp (.bi (.isinst .list) [(.var 1)]) [.NotEq] [(.bi (.isinst .list) [(.var 0)])])]) [.ret (.con (.bool false))] [],
    .ret (.band [(.cmp (.bi .len [(.var 0)]) [.Eq] [(.bi .len [(.var 1)])]), (.bi .all [(.lc (.call "_law_is" [(.var 2), (.var 3)]) (.tp [(.nm 2), (.nm 3)]) .zip [(.var 0), (.var 1)] [] [2, 3])])])] [],
    .ite (.bor [(.bi (.isinst .dict) [(.var 1)]), (.bi (.isinst .dict) [(.var 0)])]) [.ret (.band [(.bi (.isinst .dict) [(.var 1)]), (.bi (.isinst .dict) [(.var 0)]), (.cmp (.var 0) [.Eq] [(.var 1)])])] [],
    .ite (.bor [(.cmp (.var 1) [.Is] [(.con .none)]), (.cmp (.var 0) [.Is] [(.con .none)])]) [.ret (.band [(.cmp (.var 1) [.Is] [(.con .none)]), (.cmp (.var 0) [.Is] [(.con .none)])])] [],
    .ite (.bor [(.bi (.isinst .bool) [(.var 1)]), (.bi (.isinst .bool) [(.var 0)])]) [.ret (.band [(.bi (.isinst .bool) [(.var 1)]), (.bi (.isinst .bool) [(.var 0)]), (.cmp (.var 0) [.Eq] [(.var 1)])])] [],
    .ite (.bor [(.bi (.isinst .str) [(.var 1)]), (.bi (.isinst .str) [(.var 0)])]) [.ret (.band [(.bi (.isinst .str) [(.var 1)]), (.bi (.isinst .str) [(.var 0)]), (.cmp (.var 0) [.Eq] [(.var 1)])])] [],
    .ret (.band [(.bi (.isinst .int) [(.var 0)]), (.cmp (.var 0) [.Eq] [(.var 1)])])]
def d_law_is : Def := ⟨2, 4, [], b_law_is⟩
def n_law_deep : List Str := ["turns", "thing", "turn"]
def b_law_deep : List St := [.asg 1 false (.con (.str "-")),
    .fr (.nm 2) .r1 [(.var 0)] [.asg 1 false (.ife (.cmp (.var 2) [.Lt] [(.con (.int 5))]) (.tup [(.var 1)]) (.lst [(.var 1)]))],
    .ret (.var 1)]
def d_law_deep : Def := ⟨1, 3, [], b_law_deep⟩
def n_law_low : List Str := ["top", "bottom", "one", "other"]
def b_law_low : List St := [.par [2, 3] [false, false] [(.bi .abs [(.var 0)]), (.bi .abs [(.var 1)])],
    .wh (.cmp (.var 3) [.Gt] [(.con (.int 0))]) [.par [2, 3] [false, false] [(.var 3), (.bin .Mod (.bi .int [(.var 2)]) (.var 3))]],
    .asg 2 false (.ife (.cmp (.var 1) [.Gt] [(.con (.int 0))]) (.var 2) (.bin .Sub (.con (.int 0)) (.var 2))),
    .ret (.tup [(.bin .FloorDiv (.var 0) (.var 2)), (.bin .FloorDiv (.var 1) (.var 2))])]
def d_law_low : Def := ⟨2, 4, [], b_law_low⟩
def n_law_plus : List Str := ["one", "other"]
def b_law_plus : List St := [.ret (.call "_law_low" [(.bin .Add (.bin .Mult (.idx (.var 0) (.con (.int 0))) (.idx (.var 1) (.con (.int 1)))) (.bin .Mult (.idx (.var 1) (.con (.int 0))) (.idx (.var 0) (.con (.int 1))))), (.bin .Mult (.idx (.var 0) (.con (.int 1))) (.idx (.var 1) (.con (.int 1))))])]
def d_law_plus : Def := ⟨2, 2, [], b_law_plus⟩
def n_law_times : List Str := ["one", "other"]
def b_law_times : List St := [.ret (.call "_law_low" [(.bin .Mult (.idx (.var 0) (.con (.int 0))) (.idx (.var 1) (.con (.int 0)))), (.bin .Mult (.idx (.var 0) (.con (.int 1))) (.idx (.var 1) (.con (.int 1))))])]
def d_law_times : Def := ⟨2, 2, [], b_law_times⟩
def n_law_home : List Str := ["rolling", "still", "rounds", "dots", "far", "step"]
def b_law_home : List St := [.par [2, 3, 4] [false, true, false] [(.con (.int 0)), (.dct [] []), (.con (.int 0))],
    .fr (.nm 5) .r1 [(.var 1)] [.ite (.bor [(.cmp (.var 5) [.Eq] [(.con (.int 0))]), (.cmp (.bin .Mod (.bi .int [(.var 4)]) (.var 1)) [.Gt] [(.con (.int 0))])]) [.sub 3 (.bin .Mod (.bi .int [(.var 4)]) (.var 1)) (.con (.bool true)),
    .asg 4 false (.bin .Add (.var 4) (.var 0))] []],
    .ret (.tup [(.bin .FloorDiv (.var 4) (.var 1)), (.bi .len [(.var 3)])])]
def d_law_home : Def := ⟨2, 6, [], b_law_home⟩
def n_law_is_right : List Str := ["hand", "rolling", "still", "share", "both", "rounds", "dots", "wheels", "due", "at", "wheel", "bottom", "turns", "straight", "crossed"]
def b_law_is_right : List St := [.par [1, 2] [false, false] [(.bin .Add (.con (.int 1)) (.call "_law_draw" [(.var 0), (.con (.int 60))])), (.bin .Add (.con (.int 1)) (.call "_law_draw" [(.var 0), (.con (.int 60))]))],
    .asg 3 false (.call "_law_low" [(.var 2), (.var 1)]),
    .ite (.not (.call "_law_is" [(.call "around" [(.var 1), (.var 2), (.con (.str "outside"))]), (.call "_law_plus" [(.var 3), (.tup [(.con (.int 1)), (.con (.int 1))])])])) [.ret (.con (.bool false))] [],
    .ite (.cmp (.var 1) [.Lt] [(.var 2)]) [.ite (.not (.call "_law_is" [(.call "around" [(.var 1), (.var 2), (.con (.str "inside"))]), (.call "_law_plus" [(.var 3), (.tup [(.neg (.con (.int 1))), (.con (.int 1))])])])) [.ret (.con (.bool false))] [],
    .asg 4 false (.call "_law_plus" [(.call "around" [(.var 1), (.var 2), (.con (.str "inside"))]), (.call "around" [(.var 1), (.var 2), (.con (.str "outside"))])]),
    .ite (.cmp (.var 4) [.NotEq] [(.call "_law_times" [(.tup [(.con (.int 2)), (.con (.int 1))]), (.var 3)])]) [.ret (.con (.bool false))] []] [],
    .unp (.tp [(.nm 5), (.nm 6)]) (.call "_law_home" [(.var 1), (.var 2)]),
    .ite (.not (.call "_law_is" [(.lst [(.call "till_home" [(.var 1), (.var 2)]), (.call "touches" [(.var 1), (.var 2)])]), (.lst [(.var 5), (.var 6)])])) [.ret (.con (.bool false))] [],
    .asg 7 false (.bi .tuple [(.lc (.bin .Add (.con (.int 1)) (.call "_law_draw" [(.var 0), (.con (.int 60))])) (.nm 10) .r1 [(.bin .Add (.con (.int 2)) (.call "_law_draw" [(.var 0), (.con (.int 5))]))] [] [10])]),
    .asg 8 true (.lst []),
    .fr (.tp [(.nm 9), (.nm 10)]) .enum [(.var 7)] [.ex (.met .append (.var 8) [(.call "_law_low" [(.ife (.cmp (.bin .Mod (.bi .int [(.var 9)]) (.con (.int 2))) [.Eq] [(.con (.int 0))]) (.idx (.var 7) (.con (.int 0))) (.bin .Sub (.con (.int 0)) (.idx (.var 7) (.con (.int 0))))), (.var 10)])])],
    .ite (.not (.call "_law_is" [(.call "chain_of" [(.var 7)]), (.bi .tuple [(.var 8)])])) [.ret (.con (.bool false))] [],
    .asg 11 false (.bin .Add (.con (.int 1)) (.call "_law_draw" [(.var 0), (.con (.int 6))])),
    .asg 12 false (.call "_law_low" [(.bin .Sub (.call "_law_draw" [(.var 0), (.con (.int 41))]) (.con (.int 20))), (.var 11)]),
    .ite (.not (.call "_law_is" [(.call "rolled_far" [(.var 1), (.var 12)]), (.call "_law_times" [(.tup [(.bin .Mult (.con (.int 2)) (.var 1)), (.con (.int 1))]), (.var 12)])])) [.ret (.con (.bool false))] [],
    .par [13, 14] [false, false] [(.call "belt_turns" [(.var 1), (.var 2), (.con (.int 0))]), (.call "belt_turns" [(.var 1), (.var 2), (.con (.int 1))])],
    .ite (.not (.call "_law_is" [(.lst [(.var 13), (.var 14)]), (.lst [(.call "_law_low" [(.var 1), (.var 2)]), (.call "_law_low" [(.bin .Sub (.con (.int 0)) (.var 1)), (.var 2)])])])) [.ret (.con (.bool false))] [],
    .ret (.cmp (.call "_law_times" [(.call "belt_turns" [(.var 2), (.var 1), (.con (.int 1))]), (.var 14)]) [.Eq] [(.tup [(.con (.int 1)), (.con (.int 1))])])]
def d_law_is_right : Def := ⟨1, 15, [0], b_law_is_right⟩
def n_law_is_refused : List Str := ["hand", "odd", "kind", "wheels", "turns", "flag", "words"]
def b_law_is_refused : List St := [.asg 1 false (.call "_law_some" [(.var 0), (.lst [(.con (.int 0)), (.con (.int 61)), (.neg (.con (.int 1))), (.con .none), (.con (.bool true)), (.con (.str "1")), (.tup [(.con (.int 1))]), (.lst [(.con (.int 1))]), (.dct [] []), (.bin .Pow (.con (.int 10)) (.con (.int 30)))])]),
    .asg 2 false (.call "_law_some" [(.var 0), (.lst [(.con .none), (.con (.int 0)), (.con (.str "")), (.con (.str "Inside")), (.con (.str "in")), (.lst [(.con (.str "inside"))]), (.tup [(.con (.str "inside"))]), (.dct [] []), (.con (.bool true))])]),
    .asg 3 false (.lst [(.con .none), (.con (.int 0)), (.tup []), (.tup [(.con (.int 1))]), (.lst [(.con (.int 1)), (.con (.int 2))]), (.tup [(.con (.int 0)), (.con (.int 1))]), (.tup [(.con (.int 61)), (.con (.int 1))]), (.tup [(.con (.bool true)), (.con (.int 1))]), (.tup [(.con (.int 1)), (.con .none)]), (.bin .Mult (.tup [(.con (.int 1))]) (.con (.int 7))), (.con (.str "12")), (.dct [] [])]),
    .asg 3 false (.bin .Add (.var 3) (.lst [(.call "_law_deep" [(.con (.int 12))])])),
    .asg 3 false (.call "_law_some" [(.var 0), (.var 3)]),
    .asg 4 false (.call "_law_some" [(.var 0), (.lst [(.con .none), (.con (.int 1)), (.tup [(.con (.int 2)), (.con (.int 4))]), (.tup [(.con (.int 1)), (.con (.int 0))]), (.lst [(.con (.int 1)), (.con (.int 2))]), (.tup [(.con (.bool true)), (.con (.int 1))]), (.con (.str "12")), (.dct [] []), (.tup [(.con (.int 1))]), (.tup [(.con (.int 1)), (.neg (.con (.int 2)))])])]),
    .asg 5 false (.call "_law_some" [(.var 0), (.lst [(.con .none), (.con (.int 2)), (.neg (.con (.int 1))), (.con (.str "0")), (.tup [(.con (.int 0))]), (.lst [(.con (.int 0))]), (.dct [] [])])]),
    .asg 6 true (.lst [(.told "_law_word" shW (.call "around" [(.var 1), (.con (.int 1)), (.con (.str "outside"))]))]),
    .ex (.met .append (.var 6) [(.told "_law_word" shW (.call "around" [(.con (.int 1)), (.var 1), (.con (.str "outside"))]))]),
    .ex (.met .append (.var 6) [(.told "_law_word" shW (.call "around" [(.con (.int 3)), (.con (.int 5)), (.var 2)]))]),
    .ex (.met .append (.var 6) [(.told "_law_word" shW (.call "till_home" [(.var 1), (.con (.int 1))]))]),
    .ex (.met .append (.var 6) [(.told "_law_word" shW (.call "till_home" [(.con (.int 1)), (.var 1)]))]),
    .ex (.met .append (.var 6) [(.told "_law_word" shW (.call "touches" [(.var 1), (.con (.int 1))]))]),
    .ex (.met .append (.var 6) [(.told "_law_word" shW (.call "touches" [(.con (.int 1)), (.var 1)]))]),
    .ex (.met .append (.var 6) [(.told "_law_word" shW (.call "chain_of" [(.var 3)]))]),
    .ex (.met .append (.var 6) [(.told "_law_word" shW (.call "rolled_far" [(.con (.int 3)), (.var 4)]))]),
    .ex (.met .append (.var 6) [(.told "_law_word" shW (.call "belt_turns" [(.con (.int 3)), (.con (.int 5)), (.var 5)]))]),
    .ret (.cmp (.var 6) [.Eq] [(.lst [(.tup [(.con (.int 0))]), (.tup [(.con (.int 0))]), (.tup [(.con (.int 1))]), (.tup [(.con (.int 0))]), (.tup [(.con (.int 0))]), (.tup [(.con (.int 0))]), (.tup [(.con (.int 0))]), (.tup [(.con (.int 2))]), (.tup [(.con (.int 3))]), (.tup [(.con (.int 4))])])])]
def d_law_is_refused : Def := ⟨1, 7, [0], b_law_is_refused⟩
def n_law : List Str := ["script", "hand", "turn"]
def b_law : List St := [.ite (.bor [(.cmp (.call "around" [(.con (.int 1)), (.con (.int 1)), (.con (.str "outside"))]) [.NotEq] [(.tup [(.con (.int 2)), (.con (.int 1))])]), (.cmp (.call "around" [(.con (.int 1)), (.con (.int 3)), (.con (.str "inside"))]) [.NotEq] [(.tup [(.con (.int 2)), (.con (.int 1))])]), (.cmp (.call "till_home" [(.con (.int 2)), (.con (.int 3))]) [.NotEq] [(.con (.int 2))])]) [.ret (.con (.bool false))] [],
    .ite (.cmp (.call "touches" [(.con (.int 2)), (.con (.int 3))]) [.NotEq] [(.con (.int 3))]) [.ret (.con (.bool false))] [],
    .ite (.bor [(.cmp (.call "chain_of" [(.tup [(.con (.int 2)), (.con (.int 4)), (.con (.int 1))])]) [.NotEq] [(.tup [(.tup [(.con (.int 1)), (.con (.int 1))]), (.tup [(.neg (.con (.int 1))), (.con (.int 2))]), (.tup [(.con (.int 2)), (.con (.int 1))])])]), (.cmp (.call "rolled_far" [(.con (.int 3)), (.tup [(.con (.int 1)), (.con (.int 2))])]) [.NotEq] [(.tup [(.con (.int 3)), (.con (.int 1))])]), (.cmp (.call "till_home" [(.con (.int 3)), (.con (.int 6))]) [.NotEq] [(.con (.int 1))])]) [.ret (.con (.bool false))] [],
    .ret (.bi .all [(.lc (.band [(.call "_law_is_right" [(.var 1)]), (.call "_law_is_refused" [(.var 1)])]) (.nm 2) .r1 [(.con (.int 6))] [] [2])])]
def n_law_hand : List Str := ["script", "cells", "cell"]
def b_law_hand : List St := [.ret (.lst [(.var 1), (.con (.int 0)), (.con (.int 0)), (.bin .Add (.con (.int 239)) (.bi .len [(.var 1)])), (.con (.int 0))])]
def table : List (Str × Def) := [("is_integer", d_is_integer), ("is_within", d_is_within), ("is_tuple", d_is_tuple), ("divisor", d_divisor), ("reduced", d_reduced), ("times", d_times), ("is_fraction", d_is_fraction), ("check_wheels", d_check_wheels), ("around", d_around), ("till_home", d_till_home), ("touches", d_touches), ("chain_of", d_chain_of), ("rolled_far", d_rolled_far), ("belt_turns", d_belt_turns), ("_law_draw", d_law_draw), ("_law_some", d_law_some), ("_law_is", d_law_is), ("_law_deep", d_law_deep), ("_law_low", d_law_low), ("_law_plus", d_law_plus), ("_law_times", d_law_times), ("_law_home", d_law_home), ("_law_is_right", d_law_is_right), ("_law_is_refused", d_law_is_refused)]
def exs : List Str := ["NoFlag", "NoKind", "NoNumber", "NoTurns", "NoWheels"]
def bis : List Str := ["abs", "all", "bool", "dict", "enumerate", "int", "isinstance", "len", "list", "range", "str", "tuple", "zip"]
def gls : List (Str × PyData) := [("GREATEST", (.int 60)), ("MOST_WHEELS", (.int 6))]

abbrev s_is_integer : Stmt := top 1
theorem sc_is_integer : FnScope n_is_integer ["thing"] (defScope s_is_integer) := ⟨rfl, rfl, rfl, by decide +kernel, rfl, by decide +kernel, by decide +kernel⟩
theorem ok_is_integer : okSs ⟨n_is_integer, defScope s_is_integer, defScope s_is_integer, bis, gls, exs, wds, lamDefs.contains "is_integer"⟩ b_is_integer (defBody s_is_integer) = true := by decide +kernel
abbrev s_is_within : Stmt := top 2
theorem sc_is_within : FnScope n_is_within ["thing", "low", "high"] (defScope s_is_within) := ⟨rfl, rfl, rfl, by decide +kernel, rfl, by decide +kernel, by decide +kernel⟩
theorem ok_is_within : okSs ⟨n_is_within, defScope s_is_within, defScope s_is_within, bis, gls, exs, wds, lamDefs.contains "is_within"⟩ b_is_within (defBody s_is_within) = true := by decide +kernel
abbrev s_is_tuple : Stmt := top 3
theorem sc_is_tuple : FnScope n_is_tuple ["thing", "least", "most"] (defScope s_is_tuple) := ⟨rfl, rfl, rfl, by decide +kernel, rfl, by decide +kernel, by decide +kernel⟩
theorem ok_is_tuple : okSs ⟨n_is_tuple, defScope s_is_tuple, defScope s_is_tuple, bis, gls, exs, wds, lamDefs.contains "is_tuple"⟩ b_is_tuple (defBody s_is_tuple) = true := by decide +kernel
abbrev s_divisor : Stmt := top 12
theorem sc_divisor : FnScope n_divisor ["one", "other"] (defScope s_divisor) := ⟨rfl, rfl, rfl, by decide +kernel, rfl, by decide +kernel, by decide +kernel⟩
theorem ok_divisor : okSs ⟨n_divisor, defScope s_divisor, defScope s_divisor, bis, gls, exs, wds, lamDefs.contains "divisor"⟩ b_divisor (defBody s_divisor) = true := by decide +kernel
abbrev s_reduced : Stmt := top 13
theorem sc_reduced : FnScope n_reduced ["top", "bottom"] (defScope s_reduced) := ⟨rfl, rfl, rfl, by decide +kernel, rfl, by decide +kernel, by decide +kernel⟩
theorem ok_reduced : okSs ⟨n_reduced, defScope s_reduced, defScope s_reduced, bis, gls, exs, wds, lamDefs.contains "reduced"⟩ b_reduced (defBody s_reduced) = true := by decide +kernel
abbrev s_times : Stmt := top 14
theorem sc_times : FnScope n_times ["one", "other"] (defScope s_times) := ⟨rfl, rfl, rfl, by decide +kernel, rfl, by decide +kernel, by decide +kernel⟩
theorem ok_times : okSs ⟨n_times, defScope s_times, defScope s_times, bis, gls, exs, wds, lamDefs.contains "times"⟩ b_times (defBody s_times) = true := by decide +kernel
abbrev s_is_fraction : Stmt := top 15
theorem sc_is_fraction : FnScope n_is_fraction ["thing"] (defScope s_is_fraction) := ⟨rfl, rfl, rfl, by decide +kernel, rfl, by decide +kernel, by decide +kernel⟩
theorem ok_is_fraction : okSs ⟨n_is_fraction, defScope s_is_fraction, defScope s_is_fraction, bis, gls, exs, wds, lamDefs.contains "is_fraction"⟩ b_is_fraction (defBody s_is_fraction) = true := by decide +kernel
abbrev s_check_wheels : Stmt := top 19
theorem sc_check_wheels : FnScope n_check_wheels ["some"] (defScope s_check_wheels) := ⟨rfl, rfl, rfl, by decide +kernel, rfl, by decide +kernel, by decide +kernel⟩
theorem ok_check_wheels : okSs ⟨n_check_wheels, defScope s_check_wheels, defScope s_check_wheels, bis, gls, exs, wds, lamDefs.contains "check_wheels"⟩ b_check_wheels (defBody s_check_wheels) = true := by decide +kernel
abbrev s_around : Stmt := top 20
theorem sc_around : FnScope n_around ["rolling", "still", "kind"] (defScope s_around) := ⟨rfl, rfl, rfl, by decide +kernel, rfl, by decide +kernel, by decide +kernel⟩
theorem ok_around : okSs ⟨n_around, defScope s_around, defScope s_around, bis, gls, exs, wds, lamDefs.contains "around"⟩ b_around (defBody s_around) = true := by decide +kernel
abbrev s_till_home : Stmt := top 21
theorem sc_till_home : FnScope n_till_home ["rolling", "still"] (defScope s_till_home) := ⟨rfl, rfl, rfl, by decide +kernel, rfl, by decide +kernel, by decide +kernel⟩
theorem ok_till_home : okSs ⟨n_till_home, defScope s_till_home, defScope s_till_home, bis, gls, exs, wds, lamDefs.contains "till_home"⟩ b_till_home (defBody s_till_home) = true := by decide +kernel
abbrev s_touches : Stmt := top 22
theorem sc_touches : FnScope n_touches ["rolling", "still"] (defScope s_touches) := ⟨rfl, rfl, rfl, by decide +kernel, rfl, by decide +kernel, by decide +kernel⟩
theorem ok_touches : okSs ⟨n_touches, defScope s_touches, defScope s_touches, bis, gls, exs, wds, lamDefs.contains "touches"⟩ b_touches (defBody s_touches) = true := by decide +kernel
abbrev s_chain_of : Stmt := top 23
theorem sc_chain_of : FnScope n_chain_of ["wheels"] (defScope s_chain_of) := ⟨rfl, rfl, rfl, by decide +kernel, rfl, by decide +kernel, by decide +kernel⟩
theorem ok_chain_of : okSs ⟨n_chain_of, defScope s_chain_of, defScope s_chain_of, bis, gls, exs, wds, lamDefs.contains "chain_of"⟩ b_chain_of (defBody s_chain_of) = true := by decide +kernel
abbrev s_rolled_far : Stmt := top 24
theorem sc_rolled_far : FnScope n_rolled_far ["wheel", "turns"] (defScope s_rolled_far) := ⟨rfl, rfl, rfl, by decide +kernel, rfl, by decide +kernel, by decide +kernel⟩
theorem ok_rolled_far : okSs ⟨n_rolled_far, defScope s_rolled_far, defScope s_rolled_far, bis, gls, exs, wds, lamDefs.contains "rolled_far"⟩ b_rolled_far (defBody s_rolled_far) = true := by decide +kernel
abbrev s_belt_turns : Stmt := top 25
theorem sc_belt_turns : FnScope n_belt_turns ["one", "other", "is_crossed"] (defScope s_belt_turns) := ⟨rfl, rfl, rfl, by decide +kernel, rfl, by decide +kernel, by decide +kernel⟩
theorem ok_belt_turns : okSs ⟨n_belt_turns, defScope s_belt_turns, defScope s_belt_turns, bis, gls, exs, wds, lamDefs.contains "belt_turns"⟩ b_belt_turns (defBody s_belt_turns) = true := by decide +kernel
abbrev s_law_draw : Stmt := top 28
theorem sc_law_draw : FnScope n_law_draw ["hand", "limit"] (defScope s_law_draw) := ⟨rfl, rfl, rfl, by decide +kernel, rfl, by decide +kernel, by decide +kernel⟩
theorem ok_law_draw : okSs ⟨n_law_draw, defScope s_law_draw, defScope s_law_draw, bis, gls, exs, wds, lamDefs.contains "_law_draw"⟩ b_law_draw (defBody s_law_draw) = true := by decide +kernel
abbrev s_law_some : Stmt := top 29
theorem sc_law_some : FnScope n_law_some ["hand", "items"] (defScope s_law_some) := ⟨rfl, rfl, rfl, by decide +kernel, rfl, by decide +kernel, by decide +kernel⟩
theorem ok_law_some : okSs ⟨n_law_some, defScope s_law_some, defScope s_law_some, bis, gls, exs, wds, lamDefs.contains "_law_some"⟩ b_law_some (defBody s_law_some) = true := by decide +kernel
abbrev s_law_is : Stmt := top 30
theorem sc_law_is : FnScope n_law_is ["thing", "due"] (defScope s_law_is) := ⟨rfl, rfl, rfl, by decide +kernel, rfl, by decide +kernel, by decide +kernel⟩
theorem ok_law_is : okSs ⟨n_law_is, defScope s_law_is, defScope s_law_is, bis, gls, exs, wds, lamDefs.contains "_law_is"⟩ b_law_is (defBody s_law_is) = true := by decide +kernel
abbrev s_law_deep : Stmt := top 31
theorem sc_law_deep : FnScope n_law_deep ["turns"] (defScope s_law_deep) := ⟨rfl, rfl, rfl, by decide +kernel, rfl, by decide +kernel, by decide +kernel⟩
theorem ok_law_deep : okSs ⟨n_law_deep, defScope s_law_deep, defScope s_law_deep, bis, gls, exs, wds, lamDefs.contains "_law_deep"⟩ b_law_deep (defBody s_law_deep) = true := by decide +kernel
abbrev s_law_low : Stmt := top 33
theorem sc_law_low : FnScope n_law_low ["top", "bottom"] (defScope s_law_low) := ⟨rfl, rfl, rfl, by decide +kernel, rfl, by decide +kernel, by decide +kernel⟩
theorem ok_law_low : okSs ⟨n_law_low, defScope s_law_low, defScope s_law_low, bis, gls, exs, wds, lamDefs.contains "_law_low"⟩ b_law_low (defBody s_law_low) = true := by decide +kernel
abbrev s_law_plus : Stmt := top 34
theorem sc_law_plus : FnScope n_law_plus ["one", "other"] (defScope s_law_plus) := ⟨rfl, rfl, rfl, by decide +kernel, rfl, by decide +kernel, by decide +kernel⟩
theorem ok_law_plus : okSs ⟨n_law_plus, defScope s_law_plus, defScope s_law_plus, bis, gls, exs, wds, lamDefs.contains "_law_plus"⟩ b_law_plus (defBody s_law_plus) = true := by decide +kernel
abbrev s_law_times : Stmt := top 35
theorem sc_law_times : FnScope n_law_times ["one", "other"] (defScope s_law_times) := ⟨rfl, rfl, rfl, by decide +kernel, rfl, by decide +kernel, by decide +kernel⟩
theorem ok_law_times : okSs ⟨n_law_times, defScope s_law_times, defScope s_law_times, bis, gls, exs, wds, lamDefs.contains "_law_times"⟩ b_law_times (defBody s_law_times) = true := by decide +kernel
abbrev s_law_home : Stmt := top 37
theorem sc_law_home : FnScope n_law_home ["rolling", "still"] (defScope s_law_home) := ⟨rfl, rfl, rfl, by decide +kernel, rfl, by decide +kernel, by decide +kernel⟩
theorem ok_law_home : okSs ⟨n_law_home, defScope s_law_home, defScope s_law_home, bis, gls, exs, wds, lamDefs.contains "_law_home"⟩ b_law_home (defBody s_law_home) = true := by decide +kernel
abbrev s_law_is_right : Stmt := top 38
theorem sc_law_is_right : FnScope n_law_is_right ["hand"] (defScope s_law_is_right) := ⟨rfl, rfl, rfl, by decide +kernel, rfl, by decide +kernel, by decide +kernel⟩
theorem ok_law_is_right : okSs ⟨n_law_is_right, defScope s_law_is_right, defScope s_law_is_right, bis, gls, exs, wds, lamDefs.contains "_law_is_right"⟩ b_law_is_right (defBody s_law_is_right) = true := by decide +kernel
abbrev s_law_is_refused : Stmt := top 39
theorem sc_law_is_refused : FnScope n_law_is_refused ["hand"] (defScope s_law_is_refused) := ⟨rfl, rfl, rfl, by decide +kernel, rfl, by decide +kernel, by decide +kernel⟩
theorem ok_law_is_refused : okSs ⟨n_law_is_refused, defScope s_law_is_refused, defScope s_law_is_refused, bis, gls, exs, wds, lamDefs.contains "_law_is_refused"⟩ b_law_is_refused (defBody s_law_is_refused) = true := by decide +kernel
abbrev s_law : Stmt := top 40
theorem sc_law : FnScope n_law ["script"] (defScope s_law) := ⟨rfl, rfl, rfl, by decide +kernel, rfl, by decide +kernel, by decide +kernel⟩
theorem ok_law : lawB ⟨n_law, defScope s_law, defScope s_law, bis, gls, exs, wds, true⟩ (defBody s_law) b_law = true := by decide +kernel
abbrev s_law_hand : Stmt := top 27
theorem sc_law_hand : FnScope n_law_hand ["script"] (defScope s_law_hand) := ⟨rfl, rfl, rfl, by decide +kernel, rfl, by decide +kernel, by decide +kernel⟩
theorem ok_law_hand : handB ⟨n_law_hand, defScope s_law_hand, defScope s_law_hand, bis, gls, [], [], false⟩ (defBody s_law_hand) b_law_hand = true := by decide +kernel
end PL.L

set_option autoImplicit false
set_option linter.all false
set_option Elab.async false
set_option maxRecDepth 100000
set_option maxHeartbeats 2000000
/-! R1: fractions. -/
namespace PL.L
open PySem PL
abbrev dfs : Str → Option Def := fun f => table.lookup f
theorem df_is_integer : dfs "is_integer" = some d_is_integer := rfl
theorem io_is_integer : d_is_integer.ios = [] := rfl
theorem df_is_within : dfs "is_within" = some d_is_within := rfl
theorem io_is_within : d_is_within.ios = [] := rfl
theorem df_is_tuple : dfs "is_tuple" = some d_is_tuple := rfl
theorem io_is_tuple : d_is_tuple.ios = [] := rfl
theorem df_divisor : dfs "divisor" = some d_divisor := rfl
theorem io_divisor : d_divisor.ios = [] := rfl
theorem df_reduced : dfs "reduced" = some d_reduced := rfl
theorem io_reduced : d_reduced.ios = [] := rfl
theorem df_times : dfs "times" = some d_times := rfl
theorem io_times : d_times.ios = [] := rfl
theorem df_is_fraction : dfs "is_fraction" = some d_is_fraction := rfl
theorem io_is_fraction : d_is_fraction.ios = [] := rfl
theorem df_check_wheels : dfs "check_wheels" = some d_check_wheels := rfl
theorem io_check_wheels : d_check_wheels.ios = [] := rfl
theorem df_around : dfs "around" = some d_around := rfl
theorem io_around : d_around.ios = [] := rfl
theorem df_till_home : dfs "till_home" = some d_till_home := rfl
theorem io_till_home : d_till_home.ios = [] := rfl
theorem df_touches : dfs "touches" = some d_touches := rfl
theorem io_touches : d_touches.ios = [] := rfl
theorem df_chain_of : dfs "chain_of" = some d_chain_of := rfl
theorem io_chain_of : d_chain_of.ios = [] := rfl
theorem df_rolled_far : dfs "rolled_far" = some d_rolled_far := rfl
theorem io_rolled_far : d_rolled_far.ios = [] := rfl
theorem df_belt_turns : dfs "belt_turns" = some d_belt_turns := rfl
theorem io_belt_turns : d_belt_turns.ios = [] := rfl
theorem df_law_draw : dfs "_law_draw" = some d_law_draw := rfl
theorem io_law_draw : d_law_draw.ios = [0] := rfl
theorem df_law_some : dfs "_law_some" = some d_law_some := rfl
theorem io_law_some : d_law_some.ios = [0] := rfl
theorem df_law_is : dfs "_law_is" = some d_law_is := rfl
theorem io_law_is : d_law_is.ios = [] := rfl
theorem df_law_deep : dfs "_law_deep" = some d_law_deep := rfl
theorem io_law_deep : d_law_deep.ios = [] := rfl
theorem df_law_low : dfs "_law_low" = some d_law_low := rfl
theorem io_law_low : d_law_low.ios = [] := rfl
theorem df_law_plus : dfs "_law_plus" = some d_law_plus := rfl
theorem io_law_plus : d_law_plus.ios = [] := rfl
theorem df_law_times : dfs "_law_times" = some d_law_times := rfl
theorem io_law_times : d_law_times.ios = [] := rfl
theorem df_law_home : dfs "_law_home" = some d_law_home := rfl
theorem io_law_home : d_law_home.ios = [] := rfl
theorem df_law_is_right : dfs "_law_is_right" = some d_law_is_right := rfl
theorem io_law_is_right : d_law_is_right.ios = [0] := rfl
theorem df_law_is_refused : dfs "_law_is_refused" = some d_law_is_refused := rfl
theorem io_law_is_refused : d_law_is_refused.ios = [0] := rfl
def iN (n : Nat) : PyData := .int (n : Int)
/-- a bound for every number that is met -/
abbrev BB : Nat := 1000000000000
theorem small_n {n : Nat} (h : n ≤ BB) : small (n : Int) = true := small_of (by omega) (by unfold BB at h; omega)
theorem mid_n {n : Nat} (h : n ≤ BB) : mid (n : Int) = true := by
  refine decide_eq_true ?_
  have : BB < 2 ^ 4096 := by decide +kernel
  omega
theorem div_n {n : Nat} (h0 : 0 < n) (h : n ≤ BB) : divOk (n : Int) = true := by
  unfold divOk
  rw [mid_n h, decide_eq_true (show (0 : Int) < (n : Int) by omega)]; rfl
theorem d_mul {a b : Nat} (h : a ≤ BB) : binD .Mult (iN a) (iN b) = some (.val (iN (a * b))) := by
  have : binD .Mult (iN a) (iN b) = if mulOk (a : Int) b then some (.val (.int ((a : Int) * b))) else none := rfl
  rw [this, if_pos (mul_l (small_n h)), iN, Int.natCast_mul]
theorem d_div {a b : Nat} (h0 : 0 < b) (h : b ≤ BB) : binD .FloorDiv (iN a) (iN b) = some (.val (iN (a / b))) := by
  have : binD .FloorDiv (iN a) (iN b) = if divOk (b : Int) then some (.val (.int ((a : Int) / b))) else none := rfl
  rw [this, if_pos (div_n h0 h), iN, Int.natCast_ediv]
theorem d_mod {a b : Nat} (h0 : 0 < b) : binD .Mod (iN a) (iN b) = some (.val (iN (a % b))) := by
  have : binD .Mod (iN a) (iN b) = if decide ((0 : Int) < b) then some (.val (.int ((a : Int) % b))) else none := rfl
  rw [this, if_pos (decide_eq_true (by omega)), iN, Int.natCast_emod]
theorem d_add (a b : Nat) : binD .Add (iN a) (iN b) = some (.val (iN (a + b))) := by
  have : binD .Add (iN a) (iN b) = some (.val (.int ((a : Int) + b))) := rfl
  rw [this, iN, Int.natCast_add]
theorem d_abs (a : Nat) : absD (iN a) = some (.val (iN a)) := by
  simp [absD, iN]
  omega
theorem d_int (a : Nat) : intD (iN a) = some (.val (iN a)) := rfl
theorem n_ne0 (b : Nat) : cmpD .NotEq (iN b) (.int 0) = some (decide (b ≠ 0)) := by
  rw [iN, cmp_ne]
  congr 1
  rw [decide_eq_decide]
  omega
/-- Euclid's loop -/
theorem euclidW {c : PL.Env → Out Bool} {b : PL.Env → SOut} (st : Nat → Nat → PL.Env) {B : Nat} (hc : ∀ x y, c (st x y) = .ok (decide (y ≠ 0)) (st x y)) (hb : ∀ x y, 0 < y → y ≤ B → b (st x y) = .nx (st y (x % y))) :
    ∀ (y : Nat) (x N : Nat), y ≤ B → y < N → whileN c b N (st x y) = .nx (st (Nat.gcd x y) 0) := by
  intro y
  induction y using Nat.strongRecOn with
  | _ y ih =>
    intro x N hB hN
    obtain ⟨N, rfl⟩ : ∃ k, N = k + 1 := ⟨N - 1, by omega⟩
    by_cases h0 : y = 0
    · subst h0
      rw [whileN, hc, Nat.gcd_zero_right]; rfl
    · have lt : x % y < y := Nat.mod_lt _ (by omega)
      rw [whileN, hc, decide_eq_true h0]
      dsimp only
      rw [hb x y (by omega) hB]
      dsimp only
      rw [ih (x % y) lt y N (by omega) (by omega), Nat.gcd_comm x y, Nat.gcd_rec y x, Nat.gcd_comm]
theorem n_gt0 (b : Nat) : cmpD .Gt (iN b) (.int 0) = some (decide (b ≠ 0)) := by
  rw [iN, cmp_gt]
  congr 1
  rw [decide_eq_decide]
  omega
theorem z_abs (t : Int) : absD (.int t) = some (.val (iN t.natAbs)) := by
  simp [absD, iN]
  omega
theorem z_div {g : Nat} (t : Int) (h0 : 0 < g) (h : g ≤ BB) : binD .FloorDiv (.int t) (iN g) = some (.val (.int (t / (g : Int)))) := by
  have : binD .FloorDiv (.int t) (iN g) = if divOk (g : Int) then some (.val (.int (t / (g : Int)))) else none := rfl
  rw [this, if_pos (div_n h0 h)]
theorem z_mulr {g : Nat} (t : Int) (h : g ≤ BB) : binD .Mult (.int t) (iN g) = some (.val (.int (t * (g : Int)))) := by
  have : binD .Mult (.int t) (iN g) = if mulOk t (g : Int) then some (.val (.int (t * (g : Int)))) else none := rfl
  rw [this, if_pos (mul_r (small_n h))]
theorem z_mull {s : Int} (t : Int) (h : small s = true) : binD .Mult (.int s) (.int t) = some (.val (.int (s * t))) := by
  have : binD .Mult (.int s) (.int t) = if mulOk s t then some (.val (.int (s * t))) else none := rfl
  rw [this, if_pos (mul_l h)]
/-- in lowest terms -/
def frP (t : Int) (b : Nat) : Int × Nat := (t / ((Nat.gcd t.natAbs b : Nat) : Int), b / Nat.gcd t.natAbs b)
def tupZ (p : Int × Nat) : PyData := .tuple [.int p.1, iN p.2]
section
variable {N n : Nat}
theorem c_divisorZ (hN : BB < N) (t : Int) {b : Nat} (hb : b ≤ BB) : callD dfs N (n + 1) "divisor" [.int t, iN b] = .ok (.c (iN (Nat.gcd t.natAbs b))) [] := by
  refine callD_ret0 (D := d_divisor) rfl rfl rfl ?_
  have w := euclidW (c := evT ⟨dfs, callD dfs N n⟩ (.cmp (.var 1) [.NotEq] [(.con (.int 0))])) (b := execs ⟨dfs, callD dfs N n⟩ N [.par [0, 1] [false, false] [(.var 1), (.bin .Mod (.var 0) (.var 1))]]) (fun x y => [.c (iN x), .c (iN y)]) (B := BB)
    (fun x y => by simp [execs, exec, ev.eq_1, ev.eq_2, ev.eq_3, ev.eq_4, ev.eq_5, ev.eq_6, ev.eq_7, ev.eq_8, ev.eq_9, ev.eq_10, ev.eq_11, ev.eq_12, ev.eq_13, ev.eq_14, ev.eq_15, ev.eq_16, ev.eq_17, ev.eq_18, ev.eq_19, ev_lc, evAnd, evOr, evCh, evR, evC, evA, evP, evIf, evT, evO, PL.bind, sb, biR, negR, binR, idxR, sliR, metR, cmpR, truthR, callR, iosOf, derefs, putBack, PL.cold, peeks, peek, gets, ofO, retOf, slotOf, setAll, isHot, subAt, recvOk, isMut, isUpd, recvD, dctR, biD, one, ovS, seq?, isInst, PyData.isInt, PyData.isBool, PyData.isTuple, truthD, PyData.truthy, entry, asgT, asgTs, wipeE, notHot, backE, it_lst, it_tpl, it_r1, it_r2, it_r3, it_enum, it_zip, rg1, rg2, ints?, intR, setD, retIs_rt, nxIs_nx, retH_rt, nxH_nx, PyData.isList, PyData.isDict, PyData.isStr, List.range, List.range.loop, sz0, sz1, sz2, sz3, sz4, sz5, sz6, sz7, sz8, sz9, sz10, sz11, sz12, n_ne0]) (fun x y h0 h => by simp [execs, exec, ev.eq_1, ev.eq_2, ev.eq_3, ev.eq_4, ev.eq_5, ev.eq_6, ev.eq_7, ev.eq_8, ev.eq_9, ev.eq_10, ev.eq_11, ev.eq_12, ev.eq_13, ev.eq_14, ev.eq_15, ev.eq_16, ev.eq_17, ev.eq_18, ev.eq_19, ev_lc, evAnd, evOr, evCh, evR, evC, evA, evP, evIf, evT, evO, PL.bind, sb, biR, negR, binR, idxR, sliR, metR, cmpR, truthR, callR, iosOf, derefs, putBack, PL.cold, peeks, peek, gets, ofO, retOf, slotOf, setAll, isHot, subAt, recvOk, isMut, isUpd, recvD, dctR, biD, one, ovS, seq?, isInst, PyData.isInt, PyData.isBool, PyData.isTuple, truthD, PyData.truthy, entry, asgT, asgTs, wipeE, notHot, backE, it_lst, it_tpl, it_r1, it_r2, it_r3, it_enum, it_zip, rg1, rg2, ints?, intR, setD, retIs_rt, nxIs_nx, retH_rt, nxH_nx, PyData.isList, PyData.isDict, PyData.isStr, List.range, List.range.loop, sz0, sz1, sz2, sz3, sz4, sz5, sz6, sz7, sz8, sz9, sz10, sz11, sz12, d_mod h0]) b t.natAbs N hb (by omega)
  refine rI_seq (ρ1 := [.c (iN t.natAbs), .c (iN b)]) (by simp [execs, exec, ev.eq_1, ev.eq_2, ev.eq_3, ev.eq_4, ev.eq_5, ev.eq_6, ev.eq_7, ev.eq_8, ev.eq_9, ev.eq_10, ev.eq_11, ev.eq_12, ev.eq_13, ev.eq_14, ev.eq_15, ev.eq_16, ev.eq_17, ev.eq_18, ev.eq_19, ev_lc, evAnd, evOr, evCh, evR, evC, evA, evP, evIf, evT, evO, PL.bind, sb, biR, negR, binR, idxR, sliR, metR, cmpR, truthR, callR, iosOf, derefs, putBack, PL.cold, peeks, peek, gets, ofO, retOf, slotOf, setAll, isHot, subAt, recvOk, isMut, isUpd, recvD, dctR, biD, one, ovS, seq?, isInst, PyData.isInt, PyData.isBool, PyData.isTuple, truthD, PyData.truthy, entry, asgT, asgTs, wipeE, notHot, backE, it_lst, it_tpl, it_r1, it_r2, it_r3, it_enum, it_zip, rg1, rg2, ints?, intR, setD, retIs_rt, nxIs_nx, retH_rt, nxH_nx, PyData.isList, PyData.isDict, PyData.isStr, List.range, List.range.loop, sz0, sz1, sz2, sz3, sz4, sz5, sz6, sz7, sz8, sz9, sz10, sz11, sz12, entry, d_divisor, d_abs, z_abs]) (rI_seq (ρ1 := [.c (iN (Nat.gcd t.natAbs b)), .c (iN 0)]) (by rw [exec]; exact w) (by simp [execs, exec, ev.eq_1, ev.eq_2, ev.eq_3, ev.eq_4, ev.eq_5, ev.eq_6, ev.eq_7, ev.eq_8, ev.eq_9, ev.eq_10, ev.eq_11, ev.eq_12, ev.eq_13, ev.eq_14, ev.eq_15, ev.eq_16, ev.eq_17, ev.eq_18, ev.eq_19, ev_lc, evAnd, evOr, evCh, evR, evC, evA, evP, evIf, evT, evO, PL.bind, sb, biR, negR, binR, idxR, sliR, metR, cmpR, truthR, callR, iosOf, derefs, putBack, PL.cold, peeks, peek, gets, ofO, retOf, slotOf, setAll, isHot, subAt, recvOk, isMut, isUpd, recvD, dctR, biD, one, ovS, seq?, isInst, PyData.isInt, PyData.isBool, PyData.isTuple, truthD, PyData.truthy, entry, asgT, asgTs, wipeE, notHot, backE, it_lst, it_tpl, it_r1, it_r2, it_r3, it_enum, it_zip, rg1, rg2, ints?, intR, setD, retIs_rt, nxIs_nx, retH_rt, nxH_nx, PyData.isList, PyData.isDict, PyData.isStr, List.range, List.range.loop, sz0, sz1, sz2, sz3, sz4, sz5, sz6, sz7, sz8, sz9, sz10, sz11, sz12]))
theorem c_lowZ (hN : BB < N) (t : Int) {b : Nat} (h0 : 0 < b) (hb : b ≤ BB) : callD dfs N (n + 1) "_law_low" [.int t, iN b] = .ok (.c (tupZ (frP t b))) [] := by
  refine callD_ret0 (D := d_law_low) rfl rfl rfl ?_
  have w := euclidW (c := evT ⟨dfs, callD dfs N n⟩ (.cmp (.var 3) [.Gt] [(.con (.int 0))])) (b := execs ⟨dfs, callD dfs N n⟩ N [.par [2, 3] [false, false] [(.var 3), (.bin .Mod (.bi .int [(.var 2)]) (.var 3))]]) (fun x y => [.c (.int t), .c (iN b), .c (iN x), .c (iN y)]) (B := BB)
    (fun x y => by simp [execs, exec, ev.eq_1, ev.eq_2, ev.eq_3, ev.eq_4, ev.eq_5, ev.eq_6, ev.eq_7, ev.eq_8, ev.eq_9, ev.eq_10, ev.eq_11, ev.eq_12, ev.eq_13, ev.eq_14, ev.eq_15, ev.eq_16, ev.eq_17, ev.eq_18, ev.eq_19, ev_lc, evAnd, evOr, evCh, evR, evC, evA, evP, evIf, evT, evO, PL.bind, sb, biR, negR, binR, idxR, sliR, metR, cmpR, truthR, callR, iosOf, derefs, putBack, PL.cold, peeks, peek, gets, ofO, retOf, slotOf, setAll, isHot, subAt, recvOk, isMut, isUpd, recvD, dctR, biD, one, ovS, seq?, isInst, PyData.isInt, PyData.isBool, PyData.isTuple, truthD, PyData.truthy, entry, asgT, asgTs, wipeE, notHot, backE, it_lst, it_tpl, it_r1, it_r2, it_r3, it_enum, it_zip, rg1, rg2, ints?, intR, setD, retIs_rt, nxIs_nx, retH_rt, nxH_nx, PyData.isList, PyData.isDict, PyData.isStr, List.range, List.range.loop, sz0, sz1, sz2, sz3, sz4, sz5, sz6, sz7, sz8, sz9, sz10, sz11, sz12, n_gt0]) (fun x y h0 h => by simp [execs, exec, ev.eq_1, ev.eq_2, ev.eq_3, ev.eq_4, ev.eq_5, ev.eq_6, ev.eq_7, ev.eq_8, ev.eq_9, ev.eq_10, ev.eq_11, ev.eq_12, ev.eq_13, ev.eq_14, ev.eq_15, ev.eq_16, ev.eq_17, ev.eq_18, ev.eq_19, ev_lc, evAnd, evOr, evCh, evR, evC, evA, evP, evIf, evT, evO, PL.bind, sb, biR, negR, binR, idxR, sliR, metR, cmpR, truthR, callR, iosOf, derefs, putBack, PL.cold, peeks, peek, gets, ofO, retOf, slotOf, setAll, isHot, subAt, recvOk, isMut, isUpd, recvD, dctR, biD, one, ovS, seq?, isInst, PyData.isInt, PyData.isBool, PyData.isTuple, truthD, PyData.truthy, entry, asgT, asgTs, wipeE, notHot, backE, it_lst, it_tpl, it_r1, it_r2, it_r3, it_enum, it_zip, rg1, rg2, ints?, intR, setD, retIs_rt, nxIs_nx, retH_rt, nxH_nx, PyData.isList, PyData.isDict, PyData.isStr, List.range, List.range.loop, sz0, sz1, sz2, sz3, sz4, sz5, sz6, sz7, sz8, sz9, sz10, sz11, sz12, d_mod h0, d_int]) b t.natAbs N hb (by omega)
  have gp : 0 < Nat.gcd t.natAbs b := Nat.gcd_pos_of_pos_right _ h0
  have gle : Nat.gcd t.natAbs b ≤ BB := Nat.le_trans (Nat.gcd_le_right _ h0) hb
  have g1 : cmpD .Gt (iN b) (.int 0) = some true := by rw [n_gt0, decide_eq_true]; omega
  refine rI_seq (ρ1 := [.c (.int t), .c (iN b), .c (iN t.natAbs), .c (iN b)]) (by simp [execs, exec, ev.eq_1, ev.eq_2, ev.eq_3, ev.eq_4, ev.eq_5, ev.eq_6, ev.eq_7, ev.eq_8, ev.eq_9, ev.eq_10, ev.eq_11, ev.eq_12, ev.eq_13, ev.eq_14, ev.eq_15, ev.eq_16, ev.eq_17, ev.eq_18, ev.eq_19, ev_lc, evAnd, evOr, evCh, evR, evC, evA, evP, evIf, evT, evO, PL.bind, sb, biR, negR, binR, idxR, sliR, metR, cmpR, truthR, callR, iosOf, derefs, putBack, PL.cold, peeks, peek, gets, ofO, retOf, slotOf, setAll, isHot, subAt, recvOk, isMut, isUpd, recvD, dctR, biD, one, ovS, seq?, isInst, PyData.isInt, PyData.isBool, PyData.isTuple, truthD, PyData.truthy, entry, asgT, asgTs, wipeE, notHot, backE, it_lst, it_tpl, it_r1, it_r2, it_r3, it_enum, it_zip, rg1, rg2, ints?, intR, setD, retIs_rt, nxIs_nx, retH_rt, nxH_nx, PyData.isList, PyData.isDict, PyData.isStr, List.range, List.range.loop, sz0, sz1, sz2, sz3, sz4, sz5, sz6, sz7, sz8, sz9, sz10, sz11, sz12, entry, d_law_low, d_abs, z_abs]) (rI_seq (ρ1 := [.c (.int t), .c (iN b), .c (iN (Nat.gcd t.natAbs b)), .c (iN 0)]) (by rw [exec]; exact w) (by simp [execs, exec, ev.eq_1, ev.eq_2, ev.eq_3, ev.eq_4, ev.eq_5, ev.eq_6, ev.eq_7, ev.eq_8, ev.eq_9, ev.eq_10, ev.eq_11, ev.eq_12, ev.eq_13, ev.eq_14, ev.eq_15, ev.eq_16, ev.eq_17, ev.eq_18, ev.eq_19, ev_lc, evAnd, evOr, evCh, evR, evC, evA, evP, evIf, evT, evO, PL.bind, sb, biR, negR, binR, idxR, sliR, metR, cmpR, truthR, callR, iosOf, derefs, putBack, PL.cold, peeks, peek, gets, ofO, retOf, slotOf, setAll, isHot, subAt, recvOk, isMut, isUpd, recvD, dctR, biD, one, ovS, seq?, isInst, PyData.isInt, PyData.isBool, PyData.isTuple, truthD, PyData.truthy, entry, asgT, asgTs, wipeE, notHot, backE, it_lst, it_tpl, it_r1, it_r2, it_r3, it_enum, it_zip, rg1, rg2, ints?, intR, setD, retIs_rt, nxIs_nx, retH_rt, nxH_nx, PyData.isList, PyData.isDict, PyData.isStr, List.range, List.range.loop, sz0, sz1, sz2, sz3, sz4, sz5, sz6, sz7, sz8, sz9, sz10, sz11, sz12, g1, d_div gp gle, z_div t gp gle, tupZ, frP]))
theorem c_reducedZ (hN : BB < N) (t : Int) {b : Nat} (h0 : 0 < b) (hb : b ≤ BB) : callD dfs N (n + 2) "reduced" [.int t, iN b] = .ok (.c (tupZ (frP t b))) [] := by
  refine callD_ret0 (D := d_reduced) rfl rfl rfl ?_
  have gp : 0 < Nat.gcd t.natAbs b := Nat.gcd_pos_of_pos_right _ h0
  have gle : Nat.gcd t.natAbs b ≤ BB := Nat.le_trans (Nat.gcd_le_right _ h0) hb
  have g1 : cmpD .Gt (iN b) (.int 0) = some true := by rw [n_gt0, decide_eq_true]; omega
  have m1 : binD .Mult (.int 1) (iN b) = some (.val (iN b)) := by
    have := d_mul (a := 1) (b := b) (by decide)
    rw [Nat.one_mul] at this; exact this
  have m2 : binD .Mult (.int 1) (.int t) = some (.val (.int t)) := by
    have := z_mull (s := 1) t (by decide)
    rw [Int.one_mul] at this; exact this
  have cd : callD dfs N (n + 1) "divisor" [.int t, iN b] = .ok (.c (iN (Nat.gcd t.natAbs b))) [] := c_divisorZ hN t hb
  simp [execs, exec, ev.eq_1, ev.eq_2, ev.eq_3, ev.eq_4, ev.eq_5, ev.eq_6, ev.eq_7, ev.eq_8, ev.eq_9, ev.eq_10, ev.eq_11, ev.eq_12, ev.eq_13, ev.eq_14, ev.eq_15, ev.eq_16, ev.eq_17, ev.eq_18, ev.eq_19, ev_lc, evAnd, evOr, evCh, evR, evC, evA, evP, evIf, evT, evO, PL.bind, sb, biR, negR, binR, idxR, sliR, metR, cmpR, truthR, callR, iosOf, derefs, putBack, PL.cold, peeks, peek, gets, ofO, retOf, slotOf, setAll, isHot, subAt, recvOk, isMut, isUpd, recvD, dctR, biD, one, ovS, seq?, isInst, PyData.isInt, PyData.isBool, PyData.isTuple, truthD, PyData.truthy, entry, asgT, asgTs, wipeE, notHot, backE, it_lst, it_tpl, it_r1, it_r2, it_r3, it_enum, it_zip, rg1, rg2, ints?, intR, setD, retIs_rt, nxIs_nx, retH_rt, nxH_nx, PyData.isList, PyData.isDict, PyData.isStr, List.range, List.range.loop, sz0, sz1, sz2, sz3, sz4, sz5, sz6, sz7, sz8, sz9, sz10, sz11, sz12, entry, d_reduced, b_reduced, cd, df_divisor, io_divisor, g1, m1, m2, d_div gp gle, z_div t gp gle, tupZ, frP]
/-- the plain sums -/
def plusP (p q : Int × Nat) : Int × Nat := frP (p.1 * (q.2 : Int) + q.1 * (p.2 : Int)) (p.2 * q.2)
def timesP (p q : Int × Nat) : Int × Nat := frP (p.1 * q.1) (p.2 * q.2)
abbrev SB : Nat := 100000
structure Sm (p : Int × Nat) : Prop where
  a : p.1.natAbs ≤ SB
  b0 : 0 < p.2
  b1 : p.2 ≤ SB
theorem Sm.small {p : Int × Nat} (h : Sm p) : small p.1 = true := small_of (by have := h.a; unfold SB at this; omega) (by have := h.a; unfold SB at this; omega)
theorem Sm.le {p : Int × Nat} (h : Sm p) : p.2 ≤ BB := by have := h.b1; unfold SB at this; unfold BB; omega
theorem Sm.mul0 {p q : Int × Nat} (h : Sm p) (k : Sm q) : 0 < p.2 * q.2 := Nat.mul_pos h.b0 k.b0
theorem Sm.mul1 {p q : Int × Nat} (h : Sm p) (k : Sm q) : p.2 * q.2 ≤ BB := Nat.le_trans (Nat.mul_le_mul h.b1 k.b1) (by decide)
theorem tz_0 (p : Int × Nat) : idxD (tupZ p) (.int 0) = some (.int p.1) := rfl
theorem tz_1 (p : Int × Nat) : idxD (tupZ p) (.int 1) = some (iN p.2) := rfl
theorem z_add (a b : Int) : binD .Add (.int a) (.int b) = some (.val (.int (a + b))) := rfl
theorem c_timesZ (hN : BB < N) {p q : Int × Nat} (h : Sm p) (k : Sm q) : callD dfs N (n + 3) "times" [tupZ p, tupZ q] = .ok (.c (tupZ (timesP p q))) [] := by
  refine callD_ret0 (D := d_times) rfl rfl rfl ?_
  have c := c_reducedZ (N := N) (n := n) hN (p.1 * q.1) (h.mul0 k) (h.mul1 k)
  have m1 := z_mull q.1 h.small
  have m2 := d_mul (a := p.2) (b := q.2) h.le
  simp [execs, exec, ev.eq_1, ev.eq_2, ev.eq_3, ev.eq_4, ev.eq_5, ev.eq_6, ev.eq_7, ev.eq_8, ev.eq_9, ev.eq_10, ev.eq_11, ev.eq_12, ev.eq_13, ev.eq_14, ev.eq_15, ev.eq_16, ev.eq_17, ev.eq_18, ev.eq_19, ev_lc, evAnd, evOr, evCh, evR, evC, evA, evP, evIf, evT, evO, PL.bind, sb, biR, negR, binR, idxR, sliR, metR, cmpR, truthR, callR, iosOf, derefs, putBack, PL.cold, peeks, peek, gets, ofO, retOf, slotOf, setAll, isHot, subAt, recvOk, isMut, isUpd, recvD, dctR, biD, one, ovS, seq?, isInst, PyData.isInt, PyData.isBool, PyData.isTuple, truthD, PyData.truthy, entry, asgT, asgTs, wipeE, notHot, backE, it_lst, it_tpl, it_r1, it_r2, it_r3, it_enum, it_zip, rg1, rg2, ints?, intR, setD, retIs_rt, nxIs_nx, retH_rt, nxH_nx, PyData.isList, PyData.isDict, PyData.isStr, List.range, List.range.loop, sz0, sz1, sz2, sz3, sz4, sz5, sz6, sz7, sz8, sz9, sz10, sz11, sz12, d_times, b_times, tz_0, tz_1, m1, m2, df_reduced, io_reduced, c, timesP]
theorem c_ltimesZ (hN : BB < N) {p q : Int × Nat} (h : Sm p) (k : Sm q) : callD dfs N (n + 2) "_law_times" [tupZ p, tupZ q] = .ok (.c (tupZ (timesP p q))) [] := by
  refine callD_ret0 (D := d_law_times) rfl rfl rfl ?_
  have c := c_lowZ (N := N) (n := n) hN (p.1 * q.1) (h.mul0 k) (h.mul1 k)
  have m1 := z_mull q.1 h.small
  have m2 := d_mul (a := p.2) (b := q.2) h.le
  simp [execs, exec, ev.eq_1, ev.eq_2, ev.eq_3, ev.eq_4, ev.eq_5, ev.eq_6, ev.eq_7, ev.eq_8, ev.eq_9, ev.eq_10, ev.eq_11, ev.eq_12, ev.eq_13, ev.eq_14, ev.eq_15, ev.eq_16, ev.eq_17, ev.eq_18, ev.eq_19, ev_lc, evAnd, evOr, evCh, evR, evC, evA, evP, evIf, evT, evO, PL.bind, sb, biR, negR, binR, idxR, sliR, metR, cmpR, truthR, callR, iosOf, derefs, putBack, PL.cold, peeks, peek, gets, ofO, retOf, slotOf, setAll, isHot, subAt, recvOk, isMut, isUpd, recvD, dctR, biD, one, ovS, seq?, isInst, PyData.isInt, PyData.isBool, PyData.isTuple, truthD, PyData.truthy, entry, asgT, asgTs, wipeE, notHot, backE, it_lst, it_tpl, it_r1, it_r2, it_r3, it_enum, it_zip, rg1, rg2, ints?, intR, setD, retIs_rt, nxIs_nx, retH_rt, nxH_nx, PyData.isList, PyData.isDict, PyData.isStr, List.range, List.range.loop, sz0, sz1, sz2, sz3, sz4, sz5, sz6, sz7, sz8, sz9, sz10, sz11, sz12, d_law_times, b_law_times, tz_0, tz_1, m1, m2, df_law_low, io_law_low, c, timesP]
theorem c_lplusZ (hN : BB < N) {p q : Int × Nat} (h : Sm p) (k : Sm q) : callD dfs N (n + 2) "_law_plus" [tupZ p, tupZ q] = .ok (.c (tupZ (plusP p q))) [] := by
  refine callD_ret0 (D := d_law_plus) rfl rfl rfl ?_
  have c := c_lowZ (N := N) (n := n) hN (p.1 * (q.2 : Int) + q.1 * (p.2 : Int)) (h.mul0 k) (h.mul1 k)
  have m1 := z_mulr p.1 k.le
  have m3 := z_mulr q.1 h.le
  have m2 := d_mul (a := p.2) (b := q.2) h.le
  simp [execs, exec, ev.eq_1, ev.eq_2, ev.eq_3, ev.eq_4, ev.eq_5, ev.eq_6, ev.eq_7, ev.eq_8, ev.eq_9, ev.eq_10, ev.eq_11, ev.eq_12, ev.eq_13, ev.eq_14, ev.eq_15, ev.eq_16, ev.eq_17, ev.eq_18, ev.eq_19, ev_lc, evAnd, evOr, evCh, evR, evC, evA, evP, evIf, evT, evO, PL.bind, sb, biR, negR, binR, idxR, sliR, metR, cmpR, truthR, callR, iosOf, derefs, putBack, PL.cold, peeks, peek, gets, ofO, retOf, slotOf, setAll, isHot, subAt, recvOk, isMut, isUpd, recvD, dctR, biD, one, ovS, seq?, isInst, PyData.isInt, PyData.isBool, PyData.isTuple, truthD, PyData.truthy, entry, asgT, asgTs, wipeE, notHot, backE, it_lst, it_tpl, it_r1, it_r2, it_r3, it_enum, it_zip, rg1, rg2, ints?, intR, setD, retIs_rt, nxIs_nx, retH_rt, nxH_nx, PyData.isList, PyData.isDict, PyData.isStr, List.range, List.range.loop, sz0, sz1, sz2, sz3, sz4, sz5, sz6, sz7, sz8, sz9, sz10, sz11, sz12, d_law_plus, b_law_plus, tz_0, tz_1, m1, m2, m3, z_add, df_law_low, io_law_low, c, plusP]
end
end PL.L

set_option autoImplicit false
set_option linter.all false
set_option Elab.async false
set_option maxRecDepth 100000
set_option maxHeartbeats 2000000
/-! R2: the program's defs. -/
namespace PL.L
open PySem PL
structure Wh (r : Nat) : Prop where
  a : 1 ≤ r
  b : r ≤ 60
theorem Wh.le {r : Nat} (h : Wh r) : r ≤ BB := Nat.le_trans h.b (by decide)
section
variable {N n : Nat}
theorem w_within {r : Nat} (h : Wh r) : callD dfs N (n + 2) "is_within" [iN r, .int 1, .int 60] = .ok (.c (.bool true)) [] := by
  have q := l_is_within (N := N) (n := n) df_is_integer df_is_within (iN r) 1 60
  rw [q]
  have e : inW 1 60 (iN r) = true := decide_eq_true ⟨by have := h.a; omega, by have := h.b; omega⟩
  rw [e]
theorem c_check1 {r : Nat} (h : Wh r) : callD dfs N (n + 3) "check_wheels" [.list [iN r]] = .ok (.c .none) [] := by
  refine callD_nx0 (D := d_check_wheels) rfl rfl rfl ?_
  have w1 := w_within (N := N) (n := n) h
  simp [execs, exec, ev.eq_1, ev.eq_2, ev.eq_3, ev.eq_4, ev.eq_5, ev.eq_6, ev.eq_7, ev.eq_8, ev.eq_9, ev.eq_10, ev.eq_11, ev.eq_12, ev.eq_13, ev.eq_14, ev.eq_15, ev.eq_16, ev.eq_17, ev.eq_18, ev.eq_19, ev_lc, evAnd, evOr, evCh, evR, evC, evA, evP, evIf, evT, evO, PL.bind, sb, biR, negR, binR, idxR, sliR, metR, cmpR, truthR, callR, iosOf, derefs, putBack, PL.cold, peeks, peek, gets, ofO, retOf, slotOf, setAll, isHot, subAt, recvOk, isMut, isUpd, recvD, dctR, biD, one, ovS, seq?, isInst, PyData.isInt, PyData.isBool, PyData.isTuple, truthD, PyData.truthy, entry, asgT, asgTs, wipeE, notHot, backE, it_lst, it_tpl, it_r1, it_r2, it_r3, it_enum, it_zip, rg1, rg2, ints?, intR, setD, retIs_rt, nxIs_nx, retH_rt, nxH_nx, PyData.isList, PyData.isDict, PyData.isStr, List.range, List.range.loop, sz0, sz1, sz2, sz3, sz4, sz5, sz6, sz7, sz8, sz9, sz10, sz11, sz12, d_check_wheels, b_check_wheels, forL, w1, df_is_within, io_is_within]
theorem c_check2 {r s : Nat} (h : Wh r) (k : Wh s) : callD dfs N (n + 3) "check_wheels" [.list [iN r, iN s]] = .ok (.c .none) [] := by
  refine callD_nx0 (D := d_check_wheels) rfl rfl rfl ?_
  have w1 := w_within (N := N) (n := n) h
  have w2 := w_within (N := N) (n := n) k
  simp [execs, exec, ev.eq_1, ev.eq_2, ev.eq_3, ev.eq_4, ev.eq_5, ev.eq_6, ev.eq_7, ev.eq_8, ev.eq_9, ev.eq_10, ev.eq_11, ev.eq_12, ev.eq_13, ev.eq_14, ev.eq_15, ev.eq_16, ev.eq_17, ev.eq_18, ev.eq_19, ev_lc, evAnd, evOr, evCh, evR, evC, evA, evP, evIf, evT, evO, PL.bind, sb, biR, negR, binR, idxR, sliR, metR, cmpR, truthR, callR, iosOf, derefs, putBack, PL.cold, peeks, peek, gets, ofO, retOf, slotOf, setAll, isHot, subAt, recvOk, isMut, isUpd, recvD, dctR, biD, one, ovS, seq?, isInst, PyData.isInt, PyData.isBool, PyData.isTuple, truthD, PyData.truthy, entry, asgT, asgTs, wipeE, notHot, backE, it_lst, it_tpl, it_r1, it_r2, it_r3, it_enum, it_zip, rg1, rg2, ints?, intR, setD, retIs_rt, nxIs_nx, retH_rt, nxH_nx, PyData.isList, PyData.isDict, PyData.isStr, List.range, List.range.loop, sz0, sz1, sz2, sz3, sz4, sz5, sz6, sz7, sz8, sz9, sz10, sz11, sz12, d_check_wheels, b_check_wheels, forL, w1, w2, df_is_within, io_is_within]
theorem z_addN (a b : Nat) : binD .Add (iN a) (iN b) = some (.val (.int ((a : Int) + b))) := rfl
theorem z_subN (a b : Nat) : binD .Sub (iN a) (iN b) = some (.val (.int ((a : Int) - b))) := rfl
theorem k1 : cmpD .NotIn (.str "outside") (.tuple [(.str "outside"), (.str "inside")]) = some false := by decide +kernel
theorem k2 : cmpD .NotIn (.str "inside") (.tuple [(.str "outside"), (.str "inside")]) = some false := by decide +kernel
theorem k3 : cmpD .Eq (.str "outside") (.str "inside") = some false := by decide +kernel
theorem k4 : cmpD .Eq (.str "inside") (.str "inside") = some true := by decide +kernel
theorem k5 : cmpD .Eq (.str "outside") (.str "outside") = some true := by decide +kernel
theorem k6 : cmpD .Eq (.str "inside") (.str "outside") = some false := by decide +kernel
theorem c_out (hN : BB < N) {r s : Nat} (h : Wh r) (k : Wh s) : callD dfs N (n + 4) "around" [iN r, iN s, (.str "outside")] = .ok (.c (tupZ (frP ((s : Int) + r) r))) [] := by
  refine callD_ret0 (D := d_around) rfl rfl rfl ?_
  have ck := c_check2 (N := N) (n := n) h k
  have c := c_reducedZ (N := N) (n := n + 1) hN ((s : Int) + r) (b := r) h.a h.le
  simp [execs, exec, ev.eq_1, ev.eq_2, ev.eq_3, ev.eq_4, ev.eq_5, ev.eq_6, ev.eq_7, ev.eq_8, ev.eq_9, ev.eq_10, ev.eq_11, ev.eq_12, ev.eq_13, ev.eq_14, ev.eq_15, ev.eq_16, ev.eq_17, ev.eq_18, ev.eq_19, ev_lc, evAnd, evOr, evCh, evR, evC, evA, evP, evIf, evT, evO, PL.bind, sb, biR, negR, binR, idxR, sliR, metR, cmpR, truthR, callR, iosOf, derefs, putBack, PL.cold, peeks, peek, gets, ofO, retOf, slotOf, setAll, isHot, subAt, recvOk, isMut, isUpd, recvD, dctR, biD, one, ovS, seq?, isInst, PyData.isInt, PyData.isBool, PyData.isTuple, truthD, PyData.truthy, entry, asgT, asgTs, wipeE, notHot, backE, it_lst, it_tpl, it_r1, it_r2, it_r3, it_enum, it_zip, rg1, rg2, ints?, intR, setD, retIs_rt, nxIs_nx, retH_rt, nxH_nx, PyData.isList, PyData.isDict, PyData.isStr, List.range, List.range.loop, sz0, sz1, sz2, sz3, sz4, sz5, sz6, sz7, sz8, sz9, sz10, sz11, sz12, d_around, b_around, ck, df_check_wheels, io_check_wheels, k1, k3, k5, z_addN, df_reduced, io_reduced, c]
theorem c_in (hN : BB < N) {r s : Nat} (h : Wh r) (k : Wh s) (lt : r < s) : callD dfs N (n + 4) "around" [iN r, iN s, (.str "inside")] = .ok (.c (tupZ (frP ((s : Int) - r) r))) [] := by
  refine callD_ret0 (D := d_around) rfl rfl rfl ?_
  have ck := c_check2 (N := N) (n := n) h k
  have c := c_reducedZ (N := N) (n := n + 1) hN ((s : Int) - r) (b := r) h.a h.le
  have ge : cmpD .GtE (iN r) (iN s) = some false := by rw [iN, iN, cmp_ge, decide_eq_false]; omega
  simp [execs, exec, ev.eq_1, ev.eq_2, ev.eq_3, ev.eq_4, ev.eq_5, ev.eq_6, ev.eq_7, ev.eq_8, ev.eq_9, ev.eq_10, ev.eq_11, ev.eq_12, ev.eq_13, ev.eq_14, ev.eq_15, ev.eq_16, ev.eq_17, ev.eq_18, ev.eq_19, ev_lc, evAnd, evOr, evCh, evR, evC, evA, evP, evIf, evT, evO, PL.bind, sb, biR, negR, binR, idxR, sliR, metR, cmpR, truthR, callR, iosOf, derefs, putBack, PL.cold, peeks, peek, gets, ofO, retOf, slotOf, setAll, isHot, subAt, recvOk, isMut, isUpd, recvD, dctR, biD, one, ovS, seq?, isInst, PyData.isInt, PyData.isBool, PyData.isTuple, truthD, PyData.truthy, entry, asgT, asgTs, wipeE, notHot, backE, it_lst, it_tpl, it_r1, it_r2, it_r3, it_enum, it_zip, rg1, rg2, ints?, intR, setD, retIs_rt, nxIs_nx, retH_rt, nxH_nx, PyData.isList, PyData.isDict, PyData.isStr, List.range, List.range.loop, sz0, sz1, sz2, sz3, sz4, sz5, sz6, sz7, sz8, sz9, sz10, sz11, sz12, d_around, b_around, ck, df_check_wheels, io_check_wheels, k2, k4, k6, ge, z_subN, df_reduced, io_reduced, c]
theorem c_till (hN : BB < N) {r s : Nat} (h : Wh r) (k : Wh s) : callD dfs N (n + 4) "till_home" [iN r, iN s] = .ok (.c (iN (r / Nat.gcd r s))) [] := by
  refine callD_ret0 (D := d_till_home) rfl rfl rfl ?_
  have ck := c_check2 (N := N) (n := n) h k
  have cd : callD dfs N (n + 3) "divisor" [iN r, iN s] = .ok (.c (iN (Nat.gcd r s))) [] := c_divisorZ (n := n + 2) hN (r : Int) k.le
  have gp : 0 < Nat.gcd r s := Nat.gcd_pos_of_pos_right _ k.a
  have gle : Nat.gcd r s ≤ BB := Nat.le_trans (Nat.gcd_le_right _ k.a) k.le
  simp [execs, exec, ev.eq_1, ev.eq_2, ev.eq_3, ev.eq_4, ev.eq_5, ev.eq_6, ev.eq_7, ev.eq_8, ev.eq_9, ev.eq_10, ev.eq_11, ev.eq_12, ev.eq_13, ev.eq_14, ev.eq_15, ev.eq_16, ev.eq_17, ev.eq_18, ev.eq_19, ev_lc, evAnd, evOr, evCh, evR, evC, evA, evP, evIf, evT, evO, PL.bind, sb, biR, negR, binR, idxR, sliR, metR, cmpR, truthR, callR, iosOf, derefs, putBack, PL.cold, peeks, peek, gets, ofO, retOf, slotOf, setAll, isHot, subAt, recvOk, isMut, isUpd, recvD, dctR, biD, one, ovS, seq?, isInst, PyData.isInt, PyData.isBool, PyData.isTuple, truthD, PyData.truthy, entry, asgT, asgTs, wipeE, notHot, backE, it_lst, it_tpl, it_r1, it_r2, it_r3, it_enum, it_zip, rg1, rg2, ints?, intR, setD, retIs_rt, nxIs_nx, retH_rt, nxH_nx, PyData.isList, PyData.isDict, PyData.isStr, List.range, List.range.loop, sz0, sz1, sz2, sz3, sz4, sz5, sz6, sz7, sz8, sz9, sz10, sz11, sz12, d_till_home, b_till_home, ck, df_check_wheels, io_check_wheels, df_divisor, io_divisor, cd, d_div gp gle]
theorem c_touches (hN : BB < N) {r s : Nat} (h : Wh r) (k : Wh s) : callD dfs N (n + 4) "touches" [iN r, iN s] = .ok (.c (iN (s / Nat.gcd r s))) [] := by
  refine callD_ret0 (D := d_touches) rfl rfl rfl ?_
  have ck := c_check2 (N := N) (n := n) h k
  have cd : callD dfs N (n + 3) "divisor" [iN r, iN s] = .ok (.c (iN (Nat.gcd r s))) [] := c_divisorZ (n := n + 2) hN (r : Int) k.le
  have gp : 0 < Nat.gcd r s := Nat.gcd_pos_of_pos_right _ k.a
  have gle : Nat.gcd r s ≤ BB := Nat.le_trans (Nat.gcd_le_right _ k.a) k.le
  simp [execs, exec, ev.eq_1, ev.eq_2, ev.eq_3, ev.eq_4, ev.eq_5, ev.eq_6, ev.eq_7, ev.eq_8, ev.eq_9, ev.eq_10, ev.eq_11, ev.eq_12, ev.eq_13, ev.eq_14, ev.eq_15, ev.eq_16, ev.eq_17, ev.eq_18, ev.eq_19, ev_lc, evAnd, evOr, evCh, evR, evC, evA, evP, evIf, evT, evO, PL.bind, sb, biR, negR, binR, idxR, sliR, metR, cmpR, truthR, callR, iosOf, derefs, putBack, PL.cold, peeks, peek, gets, ofO, retOf, slotOf, setAll, isHot, subAt, recvOk, isMut, isUpd, recvD, dctR, biD, one, ovS, seq?, isInst, PyData.isInt, PyData.isBool, PyData.isTuple, truthD, PyData.truthy, entry, asgT, asgTs, wipeE, notHot, backE, it_lst, it_tpl, it_r1, it_r2, it_r3, it_enum, it_zip, rg1, rg2, ints?, intR, setD, retIs_rt, nxIs_nx, retH_rt, nxH_nx, PyData.isList, PyData.isDict, PyData.isStr, List.range, List.range.loop, sz0, sz1, sz2, sz3, sz4, sz5, sz6, sz7, sz8, sz9, sz10, sz11, sz12, d_touches, b_touches, ck, df_check_wheels, io_check_wheels, df_divisor, io_divisor, cd, d_div gp gle]
theorem z_neg (a : Nat) : binD .Sub (.int 0) (iN a) = some (.val (.int (-(a : Int)))) := by
  show some (Res.val (.int (0 - (a : Int)))) = _
  rw [Int.zero_sub]
theorem c_belt0 (hN : BB < N) {r s : Nat} (h : Wh r) (k : Wh s) : callD dfs N (n + 4) "belt_turns" [iN r, iN s, .int 0] = .ok (.c (tupZ (frP r s))) [] := by
  refine callD_ret0 (D := d_belt_turns) rfl rfl rfl ?_
  have ck := c_check2 (N := N) (n := n) h k
  have c : callD dfs N (n + 3) "reduced" [iN r, iN s] = _ := c_reducedZ (N := N) (n := n + 1) hN (r : Int) (b := s) k.a k.le
  have q : callD dfs N (n + 3) "is_within" [.int 0, .int 0, .int 1] = .ok (.c (.bool true)) [] := l_is_within (N := N) (n := n + 1) df_is_integer df_is_within (.int 0) 0 1
  simp [execs, exec, ev.eq_1, ev.eq_2, ev.eq_3, ev.eq_4, ev.eq_5, ev.eq_6, ev.eq_7, ev.eq_8, ev.eq_9, ev.eq_10, ev.eq_11, ev.eq_12, ev.eq_13, ev.eq_14, ev.eq_15, ev.eq_16, ev.eq_17, ev.eq_18, ev.eq_19, ev_lc, evAnd, evOr, evCh, evR, evC, evA, evP, evIf, evT, evO, PL.bind, sb, biR, negR, binR, idxR, sliR, metR, cmpR, truthR, callR, iosOf, derefs, putBack, PL.cold, peeks, peek, gets, ofO, retOf, slotOf, setAll, isHot, subAt, recvOk, isMut, isUpd, recvD, dctR, biD, one, ovS, seq?, isInst, PyData.isInt, PyData.isBool, PyData.isTuple, truthD, PyData.truthy, entry, asgT, asgTs, wipeE, notHot, backE, it_lst, it_tpl, it_r1, it_r2, it_r3, it_enum, it_zip, rg1, rg2, ints?, intR, setD, retIs_rt, nxIs_nx, retH_rt, nxH_nx, PyData.isList, PyData.isDict, PyData.isStr, List.range, List.range.loop, sz0, sz1, sz2, sz3, sz4, sz5, sz6, sz7, sz8, sz9, sz10, sz11, sz12, d_belt_turns, b_belt_turns, ck, df_check_wheels, io_check_wheels, q, df_is_within, io_is_within, cmp_eq, df_reduced, io_reduced, c]
theorem c_belt1 (hN : BB < N) {r s : Nat} (h : Wh r) (k : Wh s) : callD dfs N (n + 4) "belt_turns" [iN r, iN s, .int 1] = .ok (.c (tupZ (frP (-(r : Int)) s))) [] := by
  refine callD_ret0 (D := d_belt_turns) rfl rfl rfl ?_
  have ck := c_check2 (N := N) (n := n) h k
  have c := c_reducedZ (N := N) (n := n + 1) hN (-(r : Int)) (b := s) k.a k.le
  have q : callD dfs N (n + 3) "is_within" [.int 1, .int 0, .int 1] = .ok (.c (.bool true)) [] := l_is_within (N := N) (n := n + 1) df_is_integer df_is_within (.int 1) 0 1
  simp [execs, exec, ev.eq_1, ev.eq_2, ev.eq_3, ev.eq_4, ev.eq_5, ev.eq_6, ev.eq_7, ev.eq_8, ev.eq_9, ev.eq_10, ev.eq_11, ev.eq_12, ev.eq_13, ev.eq_14, ev.eq_15, ev.eq_16, ev.eq_17, ev.eq_18, ev.eq_19, ev_lc, evAnd, evOr, evCh, evR, evC, evA, evP, evIf, evT, evO, PL.bind, sb, biR, negR, binR, idxR, sliR, metR, cmpR, truthR, callR, iosOf, derefs, putBack, PL.cold, peeks, peek, gets, ofO, retOf, slotOf, setAll, isHot, subAt, recvOk, isMut, isUpd, recvD, dctR, biD, one, ovS, seq?, isInst, PyData.isInt, PyData.isBool, PyData.isTuple, truthD, PyData.truthy, entry, asgT, asgTs, wipeE, notHot, backE, it_lst, it_tpl, it_r1, it_r2, it_r3, it_enum, it_zip, rg1, rg2, ints?, intR, setD, retIs_rt, nxIs_nx, retH_rt, nxH_nx, PyData.isList, PyData.isDict, PyData.isStr, List.range, List.range.loop, sz0, sz1, sz2, sz3, sz4, sz5, sz6, sz7, sz8, sz9, sz10, sz11, sz12, d_belt_turns, b_belt_turns, ck, df_check_wheels, io_check_wheels, q, df_is_within, io_is_within, cmp_eq, z_neg, df_reduced, io_reduced, c]
end
end PL.L

set_option autoImplicit false
set_option linter.all false
set_option Elab.async false
set_option maxRecDepth 100000
set_option maxHeartbeats 2000000
/-! R3: rolled_far, chain_of. -/
namespace PL.L
open PySem PL
section
variable {N n : Nat}
theorem tz_eq (p q : Int × Nat) : cmpD .Eq (tupZ p) (tupZ q) = some (decide (p = q)) := by
  have e := eq_tupI [p.1, (p.2 : Int)] [q.1, (q.2 : Int)]
  have a : tupZ p = .tuple ([p.1, (p.2 : Int)].map .int) := rfl
  have b : tupZ q = .tuple ([q.1, (q.2 : Int)].map .int) := rfl
  rw [a, b, e]
  congr 1
  rw [decide_eq_decide]
  obtain ⟨p1, p2⟩ := p
  obtain ⟨q1, q2⟩ := q
  simp
  omega
theorem n_gt {b : Nat} (h : 0 < b) : cmpD .Gt (iN b) (.int 0) = some true := by rw [n_gt0, decide_eq_true]; omega
theorem c_isfrac (hN : BB < N) {p : Int × Nat} (h : Sm p) (low : frP p.1 p.2 = p) : callD dfs N (n + 3) "is_fraction" [tupZ p] = .ok (.c (.bool true)) [] := by
  refine callD_ret0 (D := d_is_fraction) rfl rfl rfl ?_
  have it : callD dfs N (n + 2) "is_tuple" [tupZ p, .int 2, .int 2] = .ok (.c (.bool true)) [] := l_is_tuple (N := N) (n := n + 1) df_is_tuple [.int p.1, iN p.2] 2 2 (by show 2 ≤ 1000000; omega)
  have c := c_reducedZ (N := N) (n := n) hN p.1 h.b0 h.le
  rw [low] at c
  have e := tz_eq p p
  rw [decide_eq_true rfl] at e
  have itm : itemsD .plain [tupZ p] = some ([p.1, (p.2 : Int)].map .int) := rfl
  have lc1 := lcL_all (l := [p.1, (p.2 : Int)]) (g := PyData.int) (f := fun _ => .bool true) (ρ := [.c (tupZ p), .no]) (step := stepF (.nm 1) (fun x => Out.ok true x) (ev ⟨dfs, callD dfs N (n + 2)⟩ (.band [(.bi (.isinst .int) [(.var 1)]), (.not (.bi (.isinst .bool) [(.var 1)]))])) [1]) (fun i hi => by simp [execs, exec, ev.eq_1, ev.eq_2, ev.eq_3, ev.eq_4, ev.eq_5, ev.eq_6, ev.eq_7, ev.eq_8, ev.eq_9, ev.eq_10, ev.eq_11, ev.eq_12, ev.eq_13, ev.eq_14, ev.eq_15, ev.eq_16, ev.eq_17, ev.eq_18, ev.eq_19, ev_lc, evAnd, evOr, evCh, evR, evC, evA, evP, evIf, evT, evO, PL.bind, sb, biR, negR, binR, idxR, sliR, metR, cmpR, truthR, callR, iosOf, derefs, putBack, PL.cold, peeks, peek, gets, ofO, retOf, slotOf, setAll, isHot, subAt, recvOk, isMut, isUpd, recvD, dctR, biD, one, ovS, seq?, isInst, PyData.isInt, PyData.isBool, PyData.isTuple, truthD, PyData.truthy, entry, asgT, asgTs, wipeE, notHot, backE, it_lst, it_tpl, it_r1, it_r2, it_r3, it_enum, it_zip, rg1, rg2, ints?, intR, setD, retIs_rt, nxIs_nx, retH_rt, nxH_nx, PyData.isList, PyData.isDict, PyData.isStr, List.range, List.range.loop, sz0, sz1, sz2, sz3, sz4, sz5, sz6, sz7, sz8, sz9, sz10, sz11, sz12, stepF]) (by show 2 ≤ 1000000; omega)
  have al : allL ([p.1, (p.2 : Int)].map fun _ => PyData.bool true) = some (.val (.bool true)) := rfl
  have t0 := tz_0 p
  have t1 := tz_1 p
  have g := n_gt h.b0
  generalize ([p.1, (p.2 : Int)].map fun _ => PyData.bool true) = L1 at *
  generalize ([p.1, (p.2 : Int)].map PyData.int) = L2 at *
  generalize hb : iN p.2 = b at *
  generalize tupZ p = T at *
  simp [execs, exec, ev.eq_1, ev.eq_2, ev.eq_3, ev.eq_4, ev.eq_5, ev.eq_6, ev.eq_7, ev.eq_8, ev.eq_9, ev.eq_10, ev.eq_11, ev.eq_12, ev.eq_13, ev.eq_14, ev.eq_15, ev.eq_16, ev.eq_17, ev.eq_18, ev.eq_19, ev_lc, evAnd, evOr, evCh, evR, evC, evA, evP, evIf, evT, evO, PL.bind, sb, biR, negR, binR, idxR, sliR, metR, cmpR, truthR, callR, iosOf, derefs, putBack, PL.cold, peeks, peek, gets, ofO, retOf, slotOf, setAll, isHot, subAt, recvOk, isMut, isUpd, recvD, dctR, biD, one, ovS, seq?, isInst, PyData.isInt, PyData.isBool, PyData.isTuple, truthD, PyData.truthy, entry, asgT, asgTs, wipeE, notHot, backE, it_lst, it_tpl, it_r1, it_r2, it_r3, it_enum, it_zip, rg1, rg2, ints?, intR, setD, retIs_rt, nxIs_nx, retH_rt, nxH_nx, PyData.isList, PyData.isDict, PyData.isStr, List.range, List.range.loop, sz0, sz1, sz2, sz3, sz4, sz5, sz6, sz7, sz8, sz9, sz10, sz11, sz12, d_is_fraction, b_is_fraction, it, df_is_tuple, io_is_tuple, itm, lc1, al, t0, t1, g, df_reduced, io_reduced, c, e]
theorem c_rolled (hN : BB < N) {r : Nat} (hr : Wh r) {p : Int × Nat} (h : Sm p) (low : frP p.1 p.2 = p) : callD dfs N (n + 4) "rolled_far" [iN r, tupZ p] = .ok (.c (tupZ (timesP (2 * (r : Int), 1) p))) [] := by
  refine callD_ret0 (D := d_rolled_far) rfl rfl rfl ?_
  have ck := c_check1 (N := N) (n := n) hr
  have fr := c_isfrac (N := N) (n := n) hN h low
  have s2 : Sm (2 * (r : Int), 1) := ⟨by have := hr.b; show (2 * (r : Int)).natAbs ≤ SB; unfold SB; omega, by show 0 < 1; omega, by show 1 ≤ SB; unfold SB; omega⟩
  have c : callD dfs N (n + 3) "times" [.tuple [.int (2 * (r : Int)), .int 1], tupZ p] = _ := c_timesZ (N := N) (n := n) hN s2 h
  have m : binD .Mult (.int 2) (iN r) = some (.val (.int (2 * (r : Int)))) := z_mulr 2 hr.le
  generalize tupZ p = T at *
  simp [execs, exec, ev.eq_1, ev.eq_2, ev.eq_3, ev.eq_4, ev.eq_5, ev.eq_6, ev.eq_7, ev.eq_8, ev.eq_9, ev.eq_10, ev.eq_11, ev.eq_12, ev.eq_13, ev.eq_14, ev.eq_15, ev.eq_16, ev.eq_17, ev.eq_18, ev.eq_19, ev_lc, evAnd, evOr, evCh, evR, evC, evA, evP, evIf, evT, evO, PL.bind, sb, biR, negR, binR, idxR, sliR, metR, cmpR, truthR, callR, iosOf, derefs, putBack, PL.cold, peeks, peek, gets, ofO, retOf, slotOf, setAll, isHot, subAt, recvOk, isMut, isUpd, recvD, dctR, biD, one, ovS, seq?, isInst, PyData.isInt, PyData.isBool, PyData.isTuple, truthD, PyData.truthy, entry, asgT, asgTs, wipeE, notHot, backE, it_lst, it_tpl, it_r1, it_r2, it_r3, it_enum, it_zip, rg1, rg2, ints?, intR, setD, retIs_rt, nxIs_nx, retH_rt, nxH_nx, PyData.isList, PyData.isDict, PyData.isStr, List.range, List.range.loop, sz0, sz1, sz2, sz3, sz4, sz5, sz6, sz7, sz8, sz9, sz10, sz11, sz12, d_rolled_far, b_rolled_far, ck, df_check_wheels, io_check_wheels, fr, df_is_fraction, io_is_fraction, m, df_times, io_times, c]
/-! chains -/
def sg (w0 : Nat) (i : Nat) : Int := if i % 2 = 0 then (w0 : Int) else -(w0 : Int)
def ch (w0 : Nat) (ws : List Nat) : List PyData := ws.zipIdx.map fun p => tupZ (frP (sg w0 p.2) p.1)
theorem enum_iN : ∀ (ws : List Nat) (i : Nat), enumFrom i (ws.map iN) = (ws.zipIdx i).map fun p => .tuple [iN p.2, iN p.1]
  | [], _ => rfl
  | w :: ws, i => by
    have e : ((i : Nat) : Int) + 1 = ((i + 1 : Nat) : Int) := by omega
    rw [List.map_cons, enumFrom, List.zipIdx_cons, List.map_cons, e, enum_iN ws (i + 1)]
    rfl
structure Whs (ws : List Nat) : Prop where
  a : 2 ≤ ws.length
  b : ws.length ≤ 6
  w : ∀ x ∈ ws, Wh x
theorem Whs.head {ws : List Nat} (h : Whs ws) : ∃ w0, ws.head? = some w0 ∧ Wh w0 ∧ ws[0]? = some w0 := by
  cases ws with
  | nil => have := h.a; simp at this
  | cons w r => exact ⟨w, rfl, h.w w List.mem_cons_self, rfl⟩
theorem zi_mem {ws : List Nat} {p : Nat × Nat} (h : p ∈ ws.zipIdx) : p.1 ∈ ws := List.fst_mem_of_mem_zipIdx h
theorem par2 (i : Nat) : binD .Mod (iN i) (.int 2) = some (.val (iN (i % 2))) := d_mod (b := 2) (by decide)
theorem eq0 (i : Nat) : cmpD .Eq (iN i) (.int 0) = some (decide (i = 0)) := by
  rw [iN, cmp_eq]
  congr 1
  rw [decide_eq_decide]
  omega
theorem c_chain (hN : BB < N) {ws : List Nat} (h : Whs ws) {w0 : Nat} (h0 : ws[0]? = some w0) (hw : Wh w0) : callD dfs N (n + 4) "chain_of" [.tuple (ws.map iN)] = .ok (.c (.tuple (ch w0 ws))) [] := by
  refine callD_ret0 (D := d_chain_of) rfl rfl rfl ?_
  have it : callD dfs N (n + 3) "is_tuple" [.tuple (ws.map iN), .int 2, .int 6] = .ok (.c (.bool true)) [] := by
    have q := l_is_tuple (N := N) (n := n + 2) df_is_tuple (ws.map iN) 2 6 (by rw [List.length_map]; have := h.b; omega)
    rw [q, List.length_map, decide_eq_true]
    exact ⟨by have := h.a; omega, by have := h.b; omega⟩
  have hl := h.b
  have ix : idxD (.tuple (ws.map iN)) (.int 0) = some (iN w0) := idx_mapT (k := 0) h0
  have itm : itemsD .plain [.tuple (ws.map iN)] = some (ws.map iN) := rfl
  have ite : itemsD .enum [.tuple (ws.map iN)] = some ((ws.zipIdx 0).map fun p => .tuple [iN p.2, iN p.1]) := by
    rw [← enum_iN]; rfl
  have lc1 := lcL_all (l := ws) (g := iN) (f := fun _ => .bool true) (ρ := [.c (.tuple (ws.map iN)), .no, .no]) (step := stepF (.nm 2) (fun x => Out.ok true x) (ev ⟨dfs, callD dfs N (n + 3)⟩ (.call "is_within" [(.var 2), (.con (.int 1)), (.gl "GREATEST" (.int 60))])) [2]) (fun w hw => by
    have q := w_within (N := N) (n := n + 1) (h.w w hw)
    simp [execs, exec, ev.eq_1, ev.eq_2, ev.eq_3, ev.eq_4, ev.eq_5, ev.eq_6, ev.eq_7, ev.eq_8, ev.eq_9, ev.eq_10, ev.eq_11, ev.eq_12, ev.eq_13, ev.eq_14, ev.eq_15, ev.eq_16, ev.eq_17, ev.eq_18, ev.eq_19, ev_lc, evAnd, evOr, evCh, evR, evC, evA, evP, evIf, evT, evO, PL.bind, sb, biR, negR, binR, idxR, sliR, metR, cmpR, truthR, callR, iosOf, derefs, putBack, PL.cold, peeks, peek, gets, ofO, retOf, slotOf, setAll, isHot, subAt, recvOk, isMut, isUpd, recvD, dctR, biD, one, ovS, seq?, isInst, PyData.isInt, PyData.isBool, PyData.isTuple, truthD, PyData.truthy, entry, asgT, asgTs, wipeE, notHot, backE, it_lst, it_tpl, it_r1, it_r2, it_r3, it_enum, it_zip, rg1, rg2, ints?, intR, setD, retIs_rt, nxIs_nx, retH_rt, nxH_nx, PyData.isList, PyData.isDict, PyData.isStr, List.range, List.range.loop, sz0, sz1, sz2, sz3, sz4, sz5, sz6, sz7, sz8, sz9, sz10, sz11, sz12, stepF, q, df_is_within, io_is_within]) (by omega)
  have al : allL (ws.map fun _ => PyData.bool true) = some (.val (.bool true)) := allL_true fun _ _ => rfl
  have lc2 := lcL_all (l := ws.zipIdx) (g := fun p => .tuple [iN p.2, iN p.1]) (f := fun p => tupZ (frP (sg w0 p.2) p.1)) (ρ := [.c (.tuple (ws.map iN)), .no, .no]) (step := stepF (.tp [(.nm 1), (.nm 2)]) (fun x => Out.ok true x) (ev ⟨dfs, callD dfs N (n + 3)⟩ (.call "reduced" [(.bin .Mult (.idx (.var 0) (.con (.int 0))) (.ife (.cmp (.bin .Mod (.var 1) (.con (.int 2))) [.Eq] [(.con (.int 0))]) (.con (.int 1)) (.neg (.con (.int 1))))), (.var 2)])) [1, 2]) (fun p hp => by
    have wp := h.w _ (zi_mem hp)
    have c := c_reducedZ (N := N) (n := n + 1) hN (sg w0 p.2) (b := p.1) wp.a wp.le
    have m1 : binD .Mult (iN w0) (.int 1) = some (.val (.int (w0 : Int))) := by
      have := z_mull (s := (w0 : Int)) 1 (small_n hw.le)
      rw [Int.mul_one] at this; exact this
    have m2 : binD .Mult (iN w0) (.int (-1)) = some (.val (.int (-(w0 : Int)))) := by
      have := z_mull (s := (w0 : Int)) (-1) (small_n hw.le)
      rw [Int.mul_neg, Int.mul_one] at this; exact this
    have pe := par2 p.2
    have e0 := eq0 (p.2 % 2)
    unfold sg at c ⊢
    by_cases z : p.2 % 2 = 0
    · rw [if_pos z] at c ⊢
      rw [decide_eq_true z] at e0
      generalize PyData.tuple (ws.map iN) = T at *
      simp [execs, exec, ev.eq_1, ev.eq_2, ev.eq_3, ev.eq_4, ev.eq_5, ev.eq_6, ev.eq_7, ev.eq_8, ev.eq_9, ev.eq_10, ev.eq_11, ev.eq_12, ev.eq_13, ev.eq_14, ev.eq_15, ev.eq_16, ev.eq_17, ev.eq_18, ev.eq_19, ev_lc, evAnd, evOr, evCh, evR, evC, evA, evP, evIf, evT, evO, PL.bind, sb, biR, negR, binR, idxR, sliR, metR, cmpR, truthR, callR, iosOf, derefs, putBack, PL.cold, peeks, peek, gets, ofO, retOf, slotOf, setAll, isHot, subAt, recvOk, isMut, isUpd, recvD, dctR, biD, one, ovS, seq?, isInst, PyData.isInt, PyData.isBool, PyData.isTuple, truthD, PyData.truthy, entry, asgT, asgTs, wipeE, notHot, backE, it_lst, it_tpl, it_r1, it_r2, it_r3, it_enum, it_zip, rg1, rg2, ints?, intR, setD, retIs_rt, nxIs_nx, retH_rt, nxH_nx, PyData.isList, PyData.isDict, PyData.isStr, List.range, List.range.loop, sz0, sz1, sz2, sz3, sz4, sz5, sz6, sz7, sz8, sz9, sz10, sz11, sz12, stepF, ix, pe, e0, m1, df_reduced, io_reduced, c]
    · rw [if_neg z] at c ⊢
      rw [decide_eq_false z] at e0
      generalize PyData.tuple (ws.map iN) = T at *
      simp [execs, exec, ev.eq_1, ev.eq_2, ev.eq_3, ev.eq_4, ev.eq_5, ev.eq_6, ev.eq_7, ev.eq_8, ev.eq_9, ev.eq_10, ev.eq_11, ev.eq_12, ev.eq_13, ev.eq_14, ev.eq_15, ev.eq_16, ev.eq_17, ev.eq_18, ev.eq_19, ev_lc, evAnd, evOr, evCh, evR, evC, evA, evP, evIf, evT, evO, PL.bind, sb, biR, negR, binR, idxR, sliR, metR, cmpR, truthR, callR, iosOf, derefs, putBack, PL.cold, peeks, peek, gets, ofO, retOf, slotOf, setAll, isHot, subAt, recvOk, isMut, isUpd, recvD, dctR, biD, one, ovS, seq?, isInst, PyData.isInt, PyData.isBool, PyData.isTuple, truthD, PyData.truthy, entry, asgT, asgTs, wipeE, notHot, backE, it_lst, it_tpl, it_r1, it_r2, it_r3, it_enum, it_zip, rg1, rg2, ints?, intR, setD, retIs_rt, nxIs_nx, retH_rt, nxH_nx, PyData.isList, PyData.isDict, PyData.isStr, List.range, List.range.loop, sz0, sz1, sz2, sz3, sz4, sz5, sz6, sz7, sz8, sz9, sz10, sz11, sz12, stepF, ix, pe, e0, m2, df_reduced, io_reduced, c]) (by rw [List.length_zipIdx]; omega)
  generalize PyData.tuple (ws.map iN) = T at *
  simp [execs, exec, ev.eq_1, ev.eq_2, ev.eq_3, ev.eq_4, ev.eq_5, ev.eq_6, ev.eq_7, ev.eq_8, ev.eq_9, ev.eq_10, ev.eq_11, ev.eq_12, ev.eq_13, ev.eq_14, ev.eq_15, ev.eq_16, ev.eq_17, ev.eq_18, ev.eq_19, ev_lc, evAnd, evOr, evCh, evR, evC, evA, evP, evIf, evT, evO, PL.bind, sb, biR, negR, binR, idxR, sliR, metR, cmpR, truthR, callR, iosOf, derefs, putBack, PL.cold, peeks, peek, gets, ofO, retOf, slotOf, setAll, isHot, subAt, recvOk, isMut, isUpd, recvD, dctR, biD, one, ovS, seq?, isInst, PyData.isInt, PyData.isBool, PyData.isTuple, truthD, PyData.truthy, entry, asgT, asgTs, wipeE, notHot, backE, it_lst, it_tpl, it_r1, it_r2, it_r3, it_enum, it_zip, rg1, rg2, ints?, intR, setD, retIs_rt, nxIs_nx, retH_rt, nxH_nx, PyData.isList, PyData.isDict, PyData.isStr, List.range, List.range.loop, sz0, sz1, sz2, sz3, sz4, sz5, sz6, sz7, sz8, sz9, sz10, sz11, sz12, d_chain_of, b_chain_of, it, df_is_tuple, io_is_tuple, itm, ite, lc1, lc2, al, ch]
end
end PL.L

set_option autoImplicit false
set_option linter.all false
set_option Elab.async false
set_option maxRecDepth 100000
set_option maxHeartbeats 2000000
/-! R4: _law_is of what is equal; _law_home. -/
namespace PL.L
open PySem PL
section
variable {N n : Nat}
def isE (N n : Nat) (d : PyData) : Prop := callD dfs N n "_law_is" [d, d] = .ok (.c (.bool true)) []
theorem is_int (i : Int) : isE N (n + 1) (.int i) := by
  refine callD_ret0 (D := d_law_is) rfl rfl rfl ?_
  have i0 : cmpD .Is (.int i) .none = some false := rfl
  simp [execs, exec, ev.eq_1, ev.eq_2, ev.eq_3, ev.eq_4, ev.eq_5, ev.eq_6, ev.eq_7, ev.eq_8, ev.eq_9, ev.eq_10, ev.eq_11, ev.eq_12, ev.eq_13, ev.eq_14, ev.eq_15, ev.eq_16, ev.eq_17, ev.eq_18, ev.eq_19, ev_lc, evAnd, evOr, evCh, evR, evC, evA, evP, evIf, evT, evO, PL.bind, sb, biR, negR, binR, idxR, sliR, metR, cmpR, truthR, callR, iosOf, derefs, putBack, PL.cold, peeks, peek, gets, ofO, retOf, slotOf, setAll, isHot, subAt, recvOk, isMut, isUpd, recvD, dctR, biD, one, ovS, seq?, isInst, PyData.isInt, PyData.isBool, PyData.isTuple, truthD, PyData.truthy, entry, asgT, asgTs, wipeE, notHot, backE, it_lst, it_tpl, it_r1, it_r2, it_r3, it_enum, it_zip, rg1, rg2, ints?, intR, setD, retIs_rt, nxIs_nx, retH_rt, nxH_nx, PyData.isList, PyData.isDict, PyData.isStr, List.range, List.range.loop, sz0, sz1, sz2, sz3, sz4, sz5, sz6, sz7, sz8, sz9, sz10, sz11, sz12, d_law_is, b_law_is, i0, cmp_eq]
theorem len_t {xs : List PyData} (h : xs.length ≤ 1000) : lenD (.tuple xs) = some (.val (.int xs.length)) := by
  have z : szOk xs.length = true := decide_eq_true (by omega)
  simp [lenD, z]
theorem len_l {xs : List PyData} (h : xs.length ≤ 1000) : lenD (.list xs) = some (.val (.int xs.length)) := by
  have z : szOk xs.length = true := decide_eq_true (by omega)
  simp [lenD, z]
theorem zip_self (xs : List PyData) : zip2 xs xs = xs.map fun x => .tuple [x, x] := by
  have := zip_map (f := fun x : PyData => x) (g := fun x : PyData => x) (l := xs)
  rw [List.map_id'] at this
  exact this
theorem is_step {xs : List PyData} (h : ∀ x ∈ xs, isE N n x) (hl : xs.length ≤ 1000) (T : PyData) : lcL (stepF (.tp [(.nm 2), (.nm 3)]) (fun x => Out.ok true x) (ev ⟨dfs, callD dfs N n⟩ (.call "_law_is" [(.var 2), (.var 3)])) [2, 3]) (xs.map fun x => .tuple [x, x]) [] [.c T, .c T, .no, .no] = .ok (xs.map fun _ => .bool true) [.c T, .c T, .no, .no] :=
  lcL_all (l := xs) (g := fun x => .tuple [x, x]) (f := fun _ => .bool true) (fun x hx => by
    have q := h x hx
    unfold isE at q
    simp [execs, exec, ev.eq_1, ev.eq_2, ev.eq_3, ev.eq_4, ev.eq_5, ev.eq_6, ev.eq_7, ev.eq_8, ev.eq_9, ev.eq_10, ev.eq_11, ev.eq_12, ev.eq_13, ev.eq_14, ev.eq_15, ev.eq_16, ev.eq_17, ev.eq_18, ev.eq_19, ev_lc, evAnd, evOr, evCh, evR, evC, evA, evP, evIf, evT, evO, PL.bind, sb, biR, negR, binR, idxR, sliR, metR, cmpR, truthR, callR, iosOf, derefs, putBack, PL.cold, peeks, peek, gets, ofO, retOf, slotOf, setAll, isHot, subAt, recvOk, isMut, isUpd, recvD, dctR, biD, one, ovS, seq?, isInst, PyData.isInt, PyData.isBool, PyData.isTuple, truthD, PyData.truthy, entry, asgT, asgTs, wipeE, notHot, backE, it_lst, it_tpl, it_r1, it_r2, it_r3, it_enum, it_zip, rg1, rg2, ints?, intR, setD, retIs_rt, nxIs_nx, retH_rt, nxH_nx, PyData.isList, PyData.isDict, PyData.isStr, List.range, List.range.loop, sz0, sz1, sz2, sz3, sz4, sz5, sz6, sz7, sz8, sz9, sz10, sz11, sz12, stepF, q, df_law_is, io_law_is]) (by omega)
theorem is_tup {xs : List PyData} (h : ∀ x ∈ xs, isE N n x) (hl : xs.length ≤ 1000) : isE N (n + 1) (.tuple xs) := by
  refine callD_ret0 (D := d_law_is) rfl rfl rfl ?_
  have st := is_step h hl (.tuple xs)
  have it : itemsD .zip [.tuple xs, .tuple xs] = some (xs.map fun x => .tuple [x, x]) := by rw [← zip_self]; rfl
  have al : allL (xs.map fun _ => PyData.bool true) = some (.val (.bool true)) := allL_true fun _ _ => rfl
  have ln := len_t hl
  generalize (xs.map fun _ => PyData.bool true) = L1 at *
  generalize (xs.map fun x => PyData.tuple [x, x]) = L2 at *
  simp [execs, exec, ev.eq_1, ev.eq_2, ev.eq_3, ev.eq_4, ev.eq_5, ev.eq_6, ev.eq_7, ev.eq_8, ev.eq_9, ev.eq_10, ev.eq_11, ev.eq_12, ev.eq_13, ev.eq_14, ev.eq_15, ev.eq_16, ev.eq_17, ev.eq_18, ev.eq_19, ev_lc, evAnd, evOr, evCh, evR, evC, evA, evP, evIf, evT, evO, PL.bind, sb, biR, negR, binR, idxR, sliR, metR, cmpR, truthR, callR, iosOf, derefs, putBack, PL.cold, peeks, peek, gets, ofO, retOf, slotOf, setAll, isHot, subAt, recvOk, isMut, isUpd, recvD, dctR, biD, one, ovS, seq?, isInst, PyData.isInt, PyData.isBool, PyData.isTuple, truthD, PyData.truthy, entry, asgT, asgTs, wipeE, notHot, backE, it_lst, it_tpl, it_r1, it_r2, it_r3, it_enum, it_zip, rg1, rg2, ints?, intR, setD, retIs_rt, nxIs_nx, retH_rt, nxH_nx, PyData.isList, PyData.isDict, PyData.isStr, List.range, List.range.loop, sz0, sz1, sz2, sz3, sz4, sz5, sz6, sz7, sz8, sz9, sz10, sz11, sz12, d_law_is, b_law_is, it, st, al, ln, ne_bool, cmp_eq]
theorem is_lst {xs : List PyData} (h : ∀ x ∈ xs, isE N n x) (hl : xs.length ≤ 1000) : isE N (n + 1) (.list xs) := by
  refine callD_ret0 (D := d_law_is) rfl rfl rfl ?_
  have st := is_step h hl (.list xs)
  have it : itemsD .zip [.list xs, .list xs] = some (xs.map fun x => .tuple [x, x]) := by rw [← zip_self]; rfl
  have al : allL (xs.map fun _ => PyData.bool true) = some (.val (.bool true)) := allL_true fun _ _ => rfl
  have ln := len_l hl
  generalize (xs.map fun _ => PyData.bool true) = L1 at *
  generalize (xs.map fun x => PyData.tuple [x, x]) = L2 at *
  simp [execs, exec, ev.eq_1, ev.eq_2, ev.eq_3, ev.eq_4, ev.eq_5, ev.eq_6, ev.eq_7, ev.eq_8, ev.eq_9, ev.eq_10, ev.eq_11, ev.eq_12, ev.eq_13, ev.eq_14, ev.eq_15, ev.eq_16, ev.eq_17, ev.eq_18, ev.eq_19, ev_lc, evAnd, evOr, evCh, evR, evC, evA, evP, evIf, evT, evO, PL.bind, sb, biR, negR, binR, idxR, sliR, metR, cmpR, truthR, callR, iosOf, derefs, putBack, PL.cold, peeks, peek, gets, ofO, retOf, slotOf, setAll, isHot, subAt, recvOk, isMut, isUpd, recvD, dctR, biD, one, ovS, seq?, isInst, PyData.isInt, PyData.isBool, PyData.isTuple, truthD, PyData.truthy, entry, asgT, asgTs, wipeE, notHot, backE, it_lst, it_tpl, it_r1, it_r2, it_r3, it_enum, it_zip, rg1, rg2, ints?, intR, setD, retIs_rt, nxIs_nx, retH_rt, nxH_nx, PyData.isList, PyData.isDict, PyData.isStr, List.range, List.range.loop, sz0, sz1, sz2, sz3, sz4, sz5, sz6, sz7, sz8, sz9, sz10, sz11, sz12, d_law_is, b_law_is, it, st, al, ln, ne_bool, cmp_eq]
theorem is_tz (p : Int × Nat) : isE N (n + 2) (tupZ p) := is_tup (fun x hx => by
  simp only [List.mem_cons, List.mem_nil_iff, or_false] at hx
  rcases hx with rfl | rfl
  · exact is_int _
  · exact is_int _) (by show 2 ≤ 1000; omega)
theorem is_l2 {x y : PyData} (hx : isE N n x) (hy : isE N n y) : isE N (n + 1) (.list [x, y]) := is_lst (fun z hz => by
  simp only [List.mem_cons, List.mem_nil_iff, or_false] at hz
  rcases hz with rfl | rfl
  · exact hx
  · exact hy) (by show 2 ≤ 1000; omega)
theorem is_ch {ws : List Nat} (h : Whs ws) (w0 : Nat) : isE N (n + 3) (.tuple (ch w0 ws)) := is_tup (fun x hx => by
  obtain ⟨p, _, rfl⟩ := List.mem_map.mp hx
  exact is_tz _) (by unfold ch; rw [List.length_map, List.length_zipIdx]; have := h.b; omega)
end
end PL.L

set_option autoImplicit false
set_option linter.all false
set_option Elab.async false
set_option maxRecDepth 100000
set_option maxHeartbeats 2000000
/-! R5: _law_home. -/
namespace PL.L
open PySem PL
def kvN (L : List (Nat × PyData)) : List (PyData × PyData) := L.map fun p => (iN p.1, p.2)
theorem eqv_iN (a b : Nat) : PyData.eqv (iN a) (iN b) = decide (a = b) := by
  have : PyData.eqv (iN a) (iN b) = decide ((a : Int) = b) := rfl
  rw [this, decide_eq_decide]; omega
theorem keysN (k : Nat) (L : List (Nat × PyData)) : keysOk (iN k :: (kvN L).map (·.1)) = true := by
  unfold keysOk
  rw [Bool.or_eq_true]
  refine .inl (List.all_eq_true.mpr fun d hd => ?_)
  rcases List.mem_cons.mp hd with rfl | hd
  · rfl
  · obtain ⟨kv, hkv, rfl⟩ := List.mem_map.mp hd
    obtain ⟨p, _, rfl⟩ := List.mem_map.mp hkv
    rfl
theorem store_newN {L : List (Nat × PyData)} {k : Nat} {v : PyData} (h : k ∉ L.map (·.1)) : store (kvN L) (iN k) v = kvN (L ++ [(k, v)]) := by
  unfold store
  rw [if_neg]
  · simp [kvN]
  · intro z
    obtain ⟨kv, hkv, e⟩ := List.any_eq_true.mp z
    obtain ⟨p, hp, rfl⟩ := List.mem_map.mp hkv
    rw [eqv_iN, decide_eq_true_eq] at e
    exact h (List.mem_map.mpr ⟨p, hp, e⟩)
theorem set_newN {L : List (Nat × PyData)} {k : Nat} {v : PyData} (h : k ∉ L.map (·.1)) (hl : L.length ≤ 1000) : setD (.dict (kvN L)) (iN k) v = some (.dict (kvN (L ++ [(k, v)]))) := by
  have : setD (.dict (kvN L)) (iN k) v = if (keysOk (iN k :: (kvN L).map (·.1)) && decide ((kvN L).length < 1000000)) = true then some (.dict (store (kvN L) (iN k) v)) else none := rfl
  rw [this, if_pos (by rw [keysN, Bool.true_and]; exact decide_eq_true (by unfold kvN; rw [List.length_map]; omega)), store_newN h]

theorem home_dvd {r s m : Nat} (hs : 0 < s) (h : s ∣ m * r) : s / Nat.gcd r s ∣ m := by
  have g0 : 0 < Nat.gcd r s := Nat.gcd_pos_of_pos_right _ hs
  have e : s / Nat.gcd r s * Nat.gcd r s = s := Nat.div_mul_cancel (Nat.gcd_dvd_right r s)
  have d : s ∣ m * Nat.gcd r s := by
    rw [← Nat.gcd_mul_left]
    exact Nat.dvd_gcd h (Nat.dvd_mul_left _ _)
  rw [← e] at d
  exact Nat.dvd_of_mul_dvd_mul_right g0 (by rw [e] at d ⊢; exact d)
theorem home_nz {r s m : Nat} (hs : 0 < s) (h0 : 0 < m) (h : m < s / Nat.gcd r s) : (m * r) % s ≠ 0 := fun z => by
  have := Nat.le_of_dvd h0 (home_dvd hs (Nat.dvd_of_mod_eq_zero z))
  omega
theorem home_mul {r s : Nat} (hs : 0 < s) : s / Nat.gcd r s * r = s * (r / Nat.gcd r s) := by
  have g0 : 0 < Nat.gcd r s := Nat.gcd_pos_of_pos_right _ hs
  have e : s / Nat.gcd r s * Nat.gcd r s = s := Nat.div_mul_cancel (Nat.gcd_dvd_right r s)
  have e2 : Nat.gcd r s * (r / Nat.gcd r s) = r := Nat.mul_div_cancel' (Nat.gcd_dvd_left r s)
  calc s / Nat.gcd r s * r = s / Nat.gcd r s * (Nat.gcd r s * (r / Nat.gcd r s)) := by rw [e2]
    _ = s * (r / Nat.gcd r s) := by rw [← Nat.mul_assoc, e]
def KV (r s m : Nat) : List (Nat × PyData) := (List.range m).map fun j => (j * r % s, .bool true)
theorem KV_succ (r s m : Nat) : KV r s (m + 1) = KV r s m ++ [(m * r % s, .bool true)] := by
  unfold KV
  rw [List.range_succ, List.map_append]
  rfl
theorem KV_new {r s m : Nat} (hs : 0 < s) (h : m < s / Nat.gcd r s) : m * r % s ∉ (KV r s m).map (·.1) := fun z => by
  obtain ⟨p, hp, e⟩ := List.mem_map.mp z
  obtain ⟨j, hj, rfl⟩ := List.mem_map.mp hp
  have lj := List.mem_range.mp hj
  have e : j * r % s = m * r % s := e
  have q := Nat.sub_mod_eq_zero_of_mod_eq e.symm
  rw [← Nat.sub_mul] at q
  exact home_nz hs (by omega) (by omega) q
section
variable {N n : Nat}
def homeB : List St := [.ite (.bor [(.cmp (.var 5) [.Eq] [(.con (.int 0))]), (.cmp (.bin .Mod (.bi .int [(.var 4)]) (.var 1)) [.Gt] [(.con (.int 0))])]) [.sub 3 (.bin .Mod (.bi .int [(.var 4)]) (.var 1)) (.con (.bool true)),
    .asg 4 false (.bin .Add (.var 4) (.var 0))] []]
def envH (r s m : Nat) (x : Slot) : PL.Env := [.c (iN r), .c (iN s), .c (.int 0), .h false (.dict (kvN (KV r s m))), .c (iN (m * r)), x]
theorem home_step {G : PL.Ctx} {r s : Nat} (hr : Wh r) (hs : Wh s) {k : Nat} (x : Slot) : ∃ ρ1, asgT (.nm 5) (iN k) (envH r s (min k (s / Nat.gcd r s)) x) = some ρ1 ∧ execs G N homeB ρ1 = .nx (envH r s (min (k + 1) (s / Nat.gcd r s)) (.c (iN k))) := by
  have g0 : 0 < Nat.gcd r s := Nat.gcd_pos_of_pos_right _ hs.a
  have L0 : 0 < s / Nat.gcd r s := Nat.div_pos (Nat.gcd_le_right _ hs.a) g0
  have Ll : s / Nat.gcd r s ≤ 60 := Nat.le_trans (Nat.div_le_self _ _) hs.b
  refine ⟨envH r s (min k (s / Nat.gcd r s)) (.c (iN k)), by unfold envH; simp [execs, exec, ev.eq_1, ev.eq_2, ev.eq_3, ev.eq_4, ev.eq_5, ev.eq_6, ev.eq_7, ev.eq_8, ev.eq_9, ev.eq_10, ev.eq_11, ev.eq_12, ev.eq_13, ev.eq_14, ev.eq_15, ev.eq_16, ev.eq_17, ev.eq_18, ev.eq_19, ev_lc, evAnd, evOr, evCh, evR, evC, evA, evP, evIf, evT, evO, PL.bind, sb, biR, negR, binR, idxR, sliR, metR, cmpR, truthR, callR, iosOf, derefs, putBack, PL.cold, peeks, peek, gets, ofO, retOf, slotOf, setAll, isHot, subAt, recvOk, isMut, isUpd, recvD, dctR, biD, one, ovS, seq?, isInst, PyData.isInt, PyData.isBool, PyData.isTuple, truthD, PyData.truthy, entry, asgT, asgTs, wipeE, notHot, backE, it_lst, it_tpl, it_r1, it_r2, it_r3, it_enum, it_zip, rg1, rg2, ints?, intR, setD, retIs_rt, nxIs_nx, retH_rt, nxH_nx, PyData.isList, PyData.isDict, PyData.isStr, List.range, List.range.loop, sz0, sz1, sz2, sz3, sz4, sz5, sz6, sz7, sz8, sz9, sz10, sz11, sz12], ?_⟩
  by_cases lt : k < s / Nat.gcd r s
  · rw [Nat.min_eq_left (by omega), Nat.min_eq_left (by omega)]
    have md : binD .Mod (iN (k * r)) (iN s) = some (.val (iN (k * r % s))) := d_mod hs.a
    have st := set_newN (v := .bool true) (KV_new hs.a lt) (by unfold KV; rw [List.length_map, List.length_range]; omega)
    rw [← KV_succ] at st
    have ad : binD .Add (iN (k * r)) (iN r) = some (.val (iN ((k + 1) * r))) := by rw [d_add, Nat.succ_mul]
    have e0 := eq0 k
    have di := d_int (k * r)
    unfold envH
    generalize PyData.dict (kvN (KV r s k)) = D1 at *
    generalize PyData.dict (kvN (KV r s (k + 1))) = D2 at *
    by_cases z : k = 0
    · rw [decide_eq_true z] at e0
      generalize iN (k * r) = F at *
      generalize iN ((k + 1) * r) = F2 at *
      simp [execs, exec, ev.eq_1, ev.eq_2, ev.eq_3, ev.eq_4, ev.eq_5, ev.eq_6, ev.eq_7, ev.eq_8, ev.eq_9, ev.eq_10, ev.eq_11, ev.eq_12, ev.eq_13, ev.eq_14, ev.eq_15, ev.eq_16, ev.eq_17, ev.eq_18, ev.eq_19, ev_lc, evAnd, evOr, evCh, evR, evC, evA, evP, evIf, evT, evO, PL.bind, sb, biR, negR, binR, idxR, sliR, metR, cmpR, truthR, callR, iosOf, derefs, putBack, PL.cold, peeks, peek, gets, ofO, retOf, slotOf, setAll, isHot, subAt, recvOk, isMut, isUpd, recvD, dctR, biD, one, ovS, seq?, isInst, PyData.isInt, PyData.isBool, PyData.isTuple, truthD, PyData.truthy, entry, asgT, asgTs, wipeE, backE, it_lst, it_tpl, it_r1, it_r2, it_r3, it_enum, it_zip, rg1, rg2, ints?, intR, retIs_rt, nxIs_nx, retH_rt, nxH_nx, PyData.isList, PyData.isDict, PyData.isStr, List.range, List.range.loop, sz0, sz1, sz2, sz3, sz4, sz5, sz6, sz7, sz8, sz9, sz10, sz11, sz12, E_get, E_set, sU_eq, sU_ne, sU_sU, sU_comm, notHot_E, cl_no, cl_c, homeB, e0, di, md, st, ad]
    · rw [decide_eq_false z] at e0
      have gt : cmpD .Gt (iN (k * r % s)) (.int 0) = some true := n_gt (Nat.pos_of_ne_zero (home_nz hs.a (by omega) lt))
      generalize iN (k * r % s) = M at *
      generalize iN (k * r) = F at *
      generalize iN ((k + 1) * r) = F2 at *
      simp [execs, exec, ev.eq_1, ev.eq_2, ev.eq_3, ev.eq_4, ev.eq_5, ev.eq_6, ev.eq_7, ev.eq_8, ev.eq_9, ev.eq_10, ev.eq_11, ev.eq_12, ev.eq_13, ev.eq_14, ev.eq_15, ev.eq_16, ev.eq_17, ev.eq_18, ev.eq_19, ev_lc, evAnd, evOr, evCh, evR, evC, evA, evP, evIf, evT, evO, PL.bind, sb, biR, negR, binR, idxR, sliR, metR, cmpR, truthR, callR, iosOf, derefs, putBack, PL.cold, peeks, peek, gets, ofO, retOf, slotOf, setAll, isHot, subAt, recvOk, isMut, isUpd, recvD, dctR, biD, one, ovS, seq?, isInst, PyData.isInt, PyData.isBool, PyData.isTuple, truthD, PyData.truthy, entry, asgT, asgTs, wipeE, backE, it_lst, it_tpl, it_r1, it_r2, it_r3, it_enum, it_zip, rg1, rg2, ints?, intR, retIs_rt, nxIs_nx, retH_rt, nxH_nx, PyData.isList, PyData.isDict, PyData.isStr, List.range, List.range.loop, sz0, sz1, sz2, sz3, sz4, sz5, sz6, sz7, sz8, sz9, sz10, sz11, sz12, E_get, E_set, sU_eq, sU_ne, sU_sU, sU_comm, notHot_E, cl_no, cl_c, homeB, e0, di, md, gt, st, ad]
  · rw [Nat.min_eq_right (by omega), Nat.min_eq_right (by omega)]
    have md : binD .Mod (iN (s / Nat.gcd r s * r)) (iN s) = some (.val (iN 0)) := by
      rw [d_mod hs.a, home_mul hs.a, Nat.mul_mod_right]
    have e0 := eq0 k
    rw [decide_eq_false (show ¬ k = 0 by omega)] at e0
    have gt : cmpD .Gt (iN 0) (.int 0) = some false := by rw [n_gt0]; rfl
    have di := d_int (s / Nat.gcd r s * r)
    unfold envH
    generalize iN 0 = Z at *
    generalize iN (s / Nat.gcd r s * r) = F at *
    generalize PyData.dict (kvN (KV r s (s / Nat.gcd r s))) = D1 at *
    simp [execs, exec, ev.eq_1, ev.eq_2, ev.eq_3, ev.eq_4, ev.eq_5, ev.eq_6, ev.eq_7, ev.eq_8, ev.eq_9, ev.eq_10, ev.eq_11, ev.eq_12, ev.eq_13, ev.eq_14, ev.eq_15, ev.eq_16, ev.eq_17, ev.eq_18, ev.eq_19, ev_lc, evAnd, evOr, evCh, evR, evC, evA, evP, evIf, evT, evO, PL.bind, sb, biR, negR, binR, idxR, sliR, metR, cmpR, truthR, callR, iosOf, derefs, putBack, PL.cold, peeks, peek, gets, ofO, retOf, slotOf, setAll, isHot, subAt, recvOk, isMut, isUpd, recvD, dctR, biD, one, ovS, seq?, isInst, PyData.isInt, PyData.isBool, PyData.isTuple, truthD, PyData.truthy, entry, asgT, asgTs, wipeE, backE, it_lst, it_tpl, it_r1, it_r2, it_r3, it_enum, it_zip, rg1, rg2, ints?, intR, retIs_rt, nxIs_nx, retH_rt, nxH_nx, PyData.isList, PyData.isDict, PyData.isStr, List.range, List.range.loop, sz0, sz1, sz2, sz3, sz4, sz5, sz6, sz7, sz8, sz9, sz10, sz11, sz12, E_get, E_set, sU_eq, sU_ne, sU_sU, sU_comm, notHot_E, cl_no, cl_c, homeB, e0, di, md, gt]
theorem c_home {r s : Nat} (hr : Wh r) (hs : Wh s) : callD dfs N (n + 1) "_law_home" [iN r, iN s] = .ok (.c (.tuple [iN (r / Nat.gcd r s), iN (s / Nat.gcd r s)])) [] := by
  have g0 : 0 < Nat.gcd r s := Nat.gcd_pos_of_pos_right _ hs.a
  have Ll : s / Nat.gcd r s ≤ s := Nat.div_le_self _ _
  have hb := hs.b
  obtain ⟨ρ', e1, x, rfl⟩ := forL_ix0 (T := .nm 5) (b := execs ⟨dfs, callD dfs N n⟩ N homeB) (items := (upto s).map fun (c : Nat) => PyData.int (c : Int)) (fun k ρ => ∃ x, ρ = envH r s (min k (s / Nat.gcd r s)) x) (fun k d hd ρ ⟨x, hx⟩ => by
    obtain ⟨c, hc, rfl⟩ := at_map hd
    obtain ⟨rfl, _⟩ := upto_at hc
    obtain ⟨ρ1, a1, a2⟩ := home_step (N := N) (G := ⟨dfs, callD dfs N n⟩) hr hs (k := c) x
    exact ⟨ρ1, _, by rw [hx]; exact a1, a2, _, rfl⟩) (ρ := envH r s 0 .no) ⟨.no, by rw [Nat.zero_min]⟩
  rw [List.length_map, upto_len, Nat.min_eq_right Ll] at e1
  have it : itemsD .r1 [iN s] = some ((upto s).map fun (c : Nat) => PyData.int (c : Int)) := it_r1n (by omega)
  have dv : binD .FloorDiv (iN (s / Nat.gcd r s * r)) (iN s) = some (.val (iN (r / Nat.gcd r s))) := by
    rw [d_div hs.a hs.le, home_mul hs.a, Nat.mul_div_cancel_left _ hs.a]
  have ln : lenD (.dict (kvN (KV r s (s / Nat.gcd r s)))) = some (.val (iN (s / Nat.gcd r s))) := by
    have l : (kvN (KV r s (s / Nat.gcd r s))).length = s / Nat.gcd r s := by unfold kvN KV; rw [List.length_map, List.length_map, List.length_range]
    have z : szOk (s / Nat.gcd r s) = true := decide_eq_true (by omega)
    simp [lenD, l, z, iN]
  refine callD_ret0 (D := d_law_home) rfl rfl rfl ?_
  refine rI_seq (ρ1 := envH r s 0 .no) (by
    have z : iN (0 * r) = .int 0 := by rw [Nat.zero_mul]; rfl
    unfold envH
    rw [z]
    simp [execs, exec, ev.eq_1, ev.eq_2, ev.eq_3, ev.eq_4, ev.eq_5, ev.eq_6, ev.eq_7, ev.eq_8, ev.eq_9, ev.eq_10, ev.eq_11, ev.eq_12, ev.eq_13, ev.eq_14, ev.eq_15, ev.eq_16, ev.eq_17, ev.eq_18, ev.eq_19, ev_lc, evAnd, evOr, evCh, evR, evC, evA, evP, evIf, evT, evO, PL.bind, sb, biR, negR, binR, idxR, sliR, metR, cmpR, truthR, callR, iosOf, derefs, putBack, PL.cold, peeks, peek, gets, ofO, retOf, slotOf, setAll, isHot, subAt, recvOk, isMut, isUpd, recvD, dctR, biD, one, ovS, seq?, isInst, PyData.isInt, PyData.isBool, PyData.isTuple, truthD, PyData.truthy, entry, asgT, asgTs, wipeE, backE, it_lst, it_tpl, it_r1, it_r2, it_r3, it_enum, it_zip, rg1, rg2, ints?, intR, retIs_rt, nxIs_nx, retH_rt, nxH_nx, PyData.isList, PyData.isDict, PyData.isStr, List.range, List.range.loop, sz0, sz1, sz2, sz3, sz4, sz5, sz6, sz7, sz8, sz9, sz10, sz11, sz12, E_get, E_set, sU_eq, sU_ne, sU_sU, sU_comm, notHot_E, cl_no, cl_c, d_law_home, KV, kvN]) (rI_seq (ρ1 := envH r s (s / Nat.gcd r s) x) (exec_fr (ds := [iN s]) (by unfold envH; simp [execs, exec, ev.eq_1, ev.eq_2, ev.eq_3, ev.eq_4, ev.eq_5, ev.eq_6, ev.eq_7, ev.eq_8, ev.eq_9, ev.eq_10, ev.eq_11, ev.eq_12, ev.eq_13, ev.eq_14, ev.eq_15, ev.eq_16, ev.eq_17, ev.eq_18, ev.eq_19, ev_lc, evAnd, evOr, evCh, evR, evC, evA, evP, evIf, evT, evO, PL.bind, sb, biR, negR, binR, idxR, sliR, metR, cmpR, truthR, callR, iosOf, derefs, putBack, PL.cold, peeks, peek, gets, ofO, retOf, slotOf, setAll, isHot, subAt, recvOk, isMut, isUpd, recvD, dctR, biD, one, ovS, seq?, isInst, PyData.isInt, PyData.isBool, PyData.isTuple, truthD, PyData.truthy, entry, asgT, asgTs, wipeE, notHot, backE, it_lst, it_tpl, it_r1, it_r2, it_r3, it_enum, it_zip, rg1, rg2, ints?, intR, setD, retIs_rt, nxIs_nx, retH_rt, nxH_nx, PyData.isList, PyData.isDict, PyData.isStr, List.range, List.range.loop, sz0, sz1, sz2, sz3, sz4, sz5, sz6, sz7, sz8, sz9, sz10, sz11, sz12]) it e1) (by
    unfold envH
    generalize PyData.dict (kvN (KV r s (s / Nat.gcd r s))) = D at *
    generalize iN (s / Nat.gcd r s * r) = F at *
    simp [execs, exec, ev.eq_1, ev.eq_2, ev.eq_3, ev.eq_4, ev.eq_5, ev.eq_6, ev.eq_7, ev.eq_8, ev.eq_9, ev.eq_10, ev.eq_11, ev.eq_12, ev.eq_13, ev.eq_14, ev.eq_15, ev.eq_16, ev.eq_17, ev.eq_18, ev.eq_19, ev_lc, evAnd, evOr, evCh, evR, evC, evA, evP, evIf, evT, evO, PL.bind, sb, biR, negR, binR, idxR, sliR, metR, cmpR, truthR, callR, iosOf, derefs, putBack, PL.cold, peeks, peek, gets, ofO, retOf, slotOf, setAll, isHot, subAt, recvOk, isMut, isUpd, recvD, dctR, biD, one, ovS, seq?, isInst, PyData.isInt, PyData.isBool, PyData.isTuple, truthD, PyData.truthy, entry, asgT, asgTs, wipeE, backE, it_lst, it_tpl, it_r1, it_r2, it_r3, it_enum, it_zip, rg1, rg2, ints?, intR, retIs_rt, nxIs_nx, retH_rt, nxH_nx, PyData.isList, PyData.isDict, PyData.isStr, List.range, List.range.loop, sz0, sz1, sz2, sz3, sz4, sz5, sz6, sz7, sz8, sz9, sz10, sz11, sz12, E_get, E_set, sU_eq, sU_ne, sU_sU, sU_comm, notHot_E, cl_no, cl_c, dv, ln]))
end
end PL.L

set_option autoImplicit false
set_option linter.all false
set_option Elab.async false
set_option maxRecDepth 100000
set_option maxHeartbeats 2000000
/-! R6: the tables; the statements of the turns. -/
namespace PL.L
open PySem PL
def rsB (r s : Nat) : Bool := decide (plusP (frP (s : Int) r) (1, 1) = frP ((s : Int) + r) r) && decide (timesP (frP (-(s : Int)) r) (frP (-(r : Int)) s) = (1, 1)) &&
  (!decide (r < s) || (decide (plusP (frP (s : Int) r) (-1, 1) = frP ((s : Int) - r) r) && decide (plusP (frP ((s : Int) - r) r) (frP ((s : Int) + r) r) = timesP (2, 1) (frP (s : Int) r))))
theorem tab1 : ((List.range 60).all fun a => (List.range 60).all fun b => rsB (a + 1) (b + 1)) = true := by decide +kernel
theorem rs_of {r s : Nat} (hr : Wh r) (hs : Wh s) : plusP (frP (s : Int) r) (1, 1) = frP ((s : Int) + r) r ∧ timesP (frP (-(s : Int)) r) (frP (-(r : Int)) s) = (1, 1) ∧
    (r < s → plusP (frP (s : Int) r) (-1, 1) = frP ((s : Int) - r) r ∧ plusP (frP ((s : Int) - r) r) (frP ((s : Int) + r) r) = timesP (2, 1) (frP (s : Int) r)) := by
  have a := hr.a
  have b := hr.b
  have c := hs.a
  have d := hs.b
  have q := List.all_eq_true.mp (List.all_eq_true.mp tab1 (r - 1) (List.mem_range.mpr (by omega))) (s - 1) (List.mem_range.mpr (by omega))
  rw [show r - 1 + 1 = r by omega, show s - 1 + 1 = s by omega] at q
  unfold rsB at q
  simp only [Bool.and_eq_true, decide_eq_true_eq, Bool.or_eq_true, Bool.not_eq_true', decide_eq_false_iff_not] at q
  exact ⟨q.1.1, q.1.2, fun lt => (q.2.resolve_left fun z => z lt)⟩
theorem tab2 : ((List.range 41).all fun a => (List.range 6).all fun b => decide (frP (frP ((a : Int) - 20) (b + 1)).1 (frP ((a : Int) - 20) (b + 1)).2 = frP ((a : Int) - 20) (b + 1))) = true := by decide +kernel
theorem low_of {a b : Nat} (ha : a < 41) (hb : b < 6) : frP (frP ((a : Int) - 20) (b + 1)).1 (frP ((a : Int) - 20) (b + 1)).2 = frP ((a : Int) - 20) (b + 1) :=
  of_decide_eq_true (List.all_eq_true.mp (List.all_eq_true.mp tab2 a (List.mem_range.mpr ha)) b (List.mem_range.mpr hb))
theorem sm_fr {t : Int} {b : Nat} (ht : t.natAbs ≤ SB) (h0 : 0 < b) (h1 : b ≤ SB) : Sm (frP t b) := by
  have g0 : 0 < Nat.gcd t.natAbs b := Nat.gcd_pos_of_pos_right _ h0
  have d : ((Nat.gcd t.natAbs b : Nat) : Int) ∣ t := by first | exact Int.ofNat_dvd_left.mpr (Nat.gcd_dvd_left _ _) | exact Int.natAbs_dvd_natAbs.mp (by rw [Int.natAbs_natCast]; exact Nat.gcd_dvd_left _ _)
  refine ⟨?_, Nat.div_pos (Nat.gcd_le_right _ h0) g0, Nat.le_trans (Nat.div_le_self _ _) h1⟩
  show (t / ((Nat.gcd t.natAbs b : Nat) : Int)).natAbs ≤ SB
  rw [Int.natAbs_ediv_of_dvd d]
  exact Nat.le_trans (Nat.div_le_self _ _) ht
theorem sm_rs {r s : Nat} (hr : Wh r) (hs : Wh s) : Sm (frP (s : Int) r) ∧ Sm (frP ((s : Int) + r) r) ∧ Sm (frP ((s : Int) - r) r) ∧ Sm (frP (-(s : Int)) r) := by
  have a := hr.a
  have b := hr.b
  have d := hs.b
  have l : r ≤ SB := by unfold SB; omega
  refine ⟨sm_fr ?_ a l, sm_fr ?_ a l, sm_fr ?_ a l, sm_fr ?_ a l⟩ <;> unfold SB <;> omega
theorem sm_1 : Sm (1, 1) := ⟨by decide, by decide, by decide⟩
theorem sm_m1 : Sm (-1, 1) := ⟨by decide, by decide, by decide⟩
theorem sm_2 : Sm (2, 1) := ⟨by decide, by decide, by decide⟩
def ir0 : St := .par [1, 2] [false, false] [(.bin .Add (.con (.int 1)) (.call "_law_draw" [(.var 0), (.con (.int 60))])), (.bin .Add (.con (.int 1)) (.call "_law_draw" [(.var 0), (.con (.int 60))]))]
def ir1 : St := .asg 3 false (.call "_law_low" [(.var 2), (.var 1)])
def ir2 : St := .ite (.not (.call "_law_is" [(.call "around" [(.var 1), (.var 2), (.con (.str "outside"))]), (.call "_law_plus" [(.var 3), (.tup [(.con (.int 1)), (.con (.int 1))])])])) [.ret (.con (.bool false))] []
def ir3 : St := .ite (.cmp (.var 1) [.Lt] [(.var 2)]) [.ite (.not (.call "_law_is" [(.call "around" [(.var 1), (.var 2), (.con (.str "inside"))]), (.call "_law_plus" [(.var 3), (.tup [(.neg (.con (.int 1))), (.con (.int 1))])])])) [.ret (.con (.bool false))] [],
    .asg 4 false (.call "_law_plus" [(.call "around" [(.var 1), (.var 2), (.con (.str "inside"))]), (.call "around" [(.var 1), (.var 2), (.con (.str "outside"))])]),
    .ite (.cmp (.var 4) [.NotEq] [(.call "_law_times" [(.tup [(.con (.int 2)), (.con (.int 1))]), (.var 3)])]) [.ret (.con (.bool false))] []] []
def ir4 : St := .unp (.tp [(.nm 5), (.nm 6)]) (.call "_law_home" [(.var 1), (.var 2)])
def ir5 : St := .ite (.not (.call "_law_is" [(.lst [(.call "till_home" [(.var 1), (.var 2)]), (.call "touches" [(.var 1), (.var 2)])]), (.lst [(.var 5), (.var 6)])])) [.ret (.con (.bool false))] []
def ir6 : St := .asg 7 false (.bi .tuple [(.lc (.bin .Add (.con (.int 1)) (.call "_law_draw" [(.var 0), (.con (.int 60))])) (.nm 10) .r1 [(.bin .Add (.con (.int 2)) (.call "_law_draw" [(.var 0), (.con (.int 5))]))] [] [10])])
def ir7 : St := .asg 8 true (.lst [])
def ir8 : St := .fr (.tp [(.nm 9), (.nm 10)]) .enum [(.var 7)] [.ex (.met .append (.var 8) [(.call "_law_low" [(.ife (.cmp (.bin .Mod (.bi .int [(.var 9)]) (.con (.int 2))) [.Eq] [(.con (.int 0))]) (.idx (.var 7) (.con (.int 0))) (.bin .Sub (.con (.int 0)) (.idx (.var 7) (.con (.int 0))))), (.var 10)])])]
def ir9 : St := .ite (.not (.call "_law_is" [(.call "chain_of" [(.var 7)]), (.bi .tuple [(.var 8)])])) [.ret (.con (.bool false))] []
def ir10 : St := .asg 11 false (.bin .Add (.con (.int 1)) (.call "_law_draw" [(.var 0), (.con (.int 6))]))
def ir11 : St := .asg 12 false (.call "_law_low" [(.bin .Sub (.call "_law_draw" [(.var 0), (.con (.int 41))]) (.con (.int 20))), (.var 11)])
def ir12 : St := .ite (.not (.call "_law_is" [(.call "rolled_far" [(.var 1), (.var 12)]), (.call "_law_times" [(.tup [(.bin .Mult (.con (.int 2)) (.var 1)), (.con (.int 1))]), (.var 12)])])) [.ret (.con (.bool false))] []
def ir13 : St := .par [13, 14] [false, false] [(.call "belt_turns" [(.var 1), (.var 2), (.con (.int 0))]), (.call "belt_turns" [(.var 1), (.var 2), (.con (.int 1))])]
def ir14 : St := .ite (.not (.call "_law_is" [(.lst [(.var 13), (.var 14)]), (.lst [(.call "_law_low" [(.var 1), (.var 2)]), (.call "_law_low" [(.bin .Sub (.con (.int 0)) (.var 1)), (.var 2)])])])) [.ret (.con (.bool false))] []
def ir15 : St := .ret (.cmp (.call "_law_times" [(.call "belt_turns" [(.var 2), (.var 1), (.con (.int 1))]), (.var 14)]) [.Eq] [(.tup [(.con (.int 1)), (.con (.int 1))])])
theorem ir_all : b_law_is_right = [ir0, ir1, ir2, ir3, ir4, ir5, ir6, ir7, ir8, ir9, ir10, ir11, ir12, ir13, ir14, ir15] := rfl
def re0 : St := .asg 1 false (.call "_law_some" [(.var 0), (.lst [(.con (.int 0)), (.con (.int 61)), (.neg (.con (.int 1))), (.con .none), (.con (.bool true)), (.con (.str "1")), (.tup [(.con (.int 1))]), (.lst [(.con (.int 1))]), (.dct [] []), (.bin .Pow (.con (.int 10)) (.con (.int 30)))])])
def re1 : St := .asg 2 false (.call "_law_some" [(.var 0), (.lst [(.con .none), (.con (.int 0)), (.con (.str "")), (.con (.str "Inside")), (.con (.str "in")), (.lst [(.con (.str "inside"))]), (.tup [(.con (.str "inside"))]), (.dct [] []), (.con (.bool true))])])
def re2 : St := .asg 3 false (.lst [(.con .none), (.con (.int 0)), (.tup []), (.tup [(.con (.int 1))]), (.lst [(.con (.int 1)), (.con (.int 2))]), (.tup [(.con (.int 0)), (.con (.int 1))]), (.tup [(.con (.int 61)), (.con (.int 1))]), (.tup [(.con (.bool true)), (.con (.int 1))]), (.tup [(.con (.int 1)), (.con .none)]), (.bin .Mult (.tup [(.con (.int 1))]) (.con (.int 7))), (.con (.str "12")), (.dct [] [])])
def re3 : St := .asg 3 false (.bin .Add (.var 3) (.lst [(.call "_law_deep" [(.con (.int 12))])]))
def re4 : St := .asg 3 false (.call "_law_some" [(.var 0), (.var 3)])
def re5 : St := .asg 4 false (.call "_law_some" [(.var 0), (.lst [(.con .none), (.con (.int 1)), (.tup [(.con (.int 2)), (.con (.int 4))]), (.tup [(.con (.int 1)), (.con (.int 0))]), (.lst [(.con (.int 1)), (.con (.int 2))]), (.tup [(.con (.bool true)), (.con (.int 1))]), (.con (.str "12")), (.dct [] []), (.tup [(.con (.int 1))]), (.tup [(.con (.int 1)), (.neg (.con (.int 2)))])])])
def re6 : St := .asg 5 false (.call "_law_some" [(.var 0), (.lst [(.con .none), (.con (.int 2)), (.neg (.con (.int 1))), (.con (.str "0")), (.tup [(.con (.int 0))]), (.lst [(.con (.int 0))]), (.dct [] [])])])
def re7 : St := .asg 6 true (.lst [(.told "_law_word" shW (.call "around" [(.var 1), (.con (.int 1)), (.con (.str "outside"))]))])
def re8 : St := .ex (.met .append (.var 6) [(.told "_law_word" shW (.call "around" [(.con (.int 1)), (.var 1), (.con (.str "outside"))]))])
def re9 : St := .ex (.met .append (.var 6) [(.told "_law_word" shW (.call "around" [(.con (.int 3)), (.con (.int 5)), (.var 2)]))])
def re10 : St := .ex (.met .append (.var 6) [(.told "_law_word" shW (.call "till_home" [(.var 1), (.con (.int 1))]))])
def re11 : St := .ex (.met .append (.var 6) [(.told "_law_word" shW (.call "till_home" [(.con (.int 1)), (.var 1)]))])
def re12 : St := .ex (.met .append (.var 6) [(.told "_law_word" shW (.call "touches" [(.var 1), (.con (.int 1))]))])
def re13 : St := .ex (.met .append (.var 6) [(.told "_law_word" shW (.call "touches" [(.con (.int 1)), (.var 1)]))])
def re14 : St := .ex (.met .append (.var 6) [(.told "_law_word" shW (.call "chain_of" [(.var 3)]))])
def re15 : St := .ex (.met .append (.var 6) [(.told "_law_word" shW (.call "rolled_far" [(.con (.int 3)), (.var 4)]))])
def re16 : St := .ex (.met .append (.var 6) [(.told "_law_word" shW (.call "belt_turns" [(.con (.int 3)), (.con (.int 5)), (.var 5)]))])
def re17 : St := .ret (.cmp (.var 6) [.Eq] [(.lst [(.tup [(.con (.int 0))]), (.tup [(.con (.int 0))]), (.tup [(.con (.int 1))]), (.tup [(.con (.int 0))]), (.tup [(.con (.int 0))]), (.tup [(.con (.int 0))]), (.tup [(.con (.int 0))]), (.tup [(.con (.int 2))]), (.tup [(.con (.int 3))]), (.tup [(.con (.int 4))])])])
theorem re_all : b_law_is_refused = [re0, re1, re2, re3, re4, re5, re6, re7, re8, re9, re10, re11, re12, re13, re14, re15, re16, re17] := rfl
section
variable {N : Nat}
abbrev G7 (N : Nat) : PL.Ctx := ⟨dfs, callD dfs N 11⟩
theorem drw : Draws dfs N := draws_B (cc := 331) rfl
theorem draw_n {d : PyData} (hk : HandOk d) (m : Nat) (h1 : 1 ≤ m) (h2 : m ≤ 1000) : ∃ a d', a < m ∧ HandOk d' ∧ ∀ n, callD dfs N (n + 1) "_law_draw" [d, .int (m : Int)] = .ok (.c (iN a)) [d'] := by
  obtain ⟨r, d', r0, r1, hk', e⟩ := (drw (N := N)).2 hk (m : Int) (by omega) (by omega)
  refine ⟨r.toNat, d', by omega, hk', fun n => ?_⟩
  rw [e n]
  unfold iN
  rw [Int.toNat_of_nonneg r0]
theorem one_add (a : Nat) : binD .Add (.int 1) (iN a) = some (.val (iN (1 + a))) := by
  show some (Res.val (.int (1 + (a : Int)))) = _
  rw [iN, Int.natCast_add]
  rfl
end
end PL.L

set_option autoImplicit false
set_option linter.all false
set_option Elab.async false
set_option maxRecDepth 100000
set_option maxHeartbeats 2000000
/-! R7: the statements of _law_is_right, first half. -/
namespace PL.L
open PySem PL
section
variable {N : Nat} {f : Nat → Slot} {r s : Nat}
theorem i0 {d : PyData} (h0 : f 0 = .h true d) (hk : HandOk d) : ∃ (r s : Nat) (d' : PyData), Wh r ∧ Wh s ∧ HandOk d' ∧ exec (G7 N) N ir0 (E 15 f) = .nx (E 15 (sU (sU (sU f 0 (.h true d')) 1 (.c (iN r))) 2 (.c (iN s)))) := by
  obtain ⟨a, d1, la, k1, e1⟩ := draw_n (N := N) hk 60 (by omega) (by omega)
  obtain ⟨b, d2, lb, k2, e2⟩ := draw_n (N := N) k1 60 (by omega) (by omega)
  refine ⟨1 + a, 1 + b, d2, ⟨by omega, by omega⟩, ⟨by omega, by omega⟩, k2, ?_⟩
  have e1' : callD dfs N 11 "_law_draw" [d, .int 60] = .ok (.c (iN a)) [d1] := e1 10
  have e2' : callD dfs N 11 "_law_draw" [d1, .int 60] = .ok (.c (iN b)) [d2] := e2 10
  have m1 := one_add a
  have m2 := one_add b
  generalize iN (1 + a) = A at *
  generalize iN (1 + b) = B at *
  generalize iN a = A1 at *
  generalize iN b = B1 at *
  simp [execs, exec, ev.eq_1, ev.eq_2, ev.eq_3, ev.eq_4, ev.eq_5, ev.eq_6, ev.eq_7, ev.eq_8, ev.eq_9, ev.eq_10, ev.eq_11, ev.eq_12, ev.eq_13, ev.eq_14, ev.eq_15, ev.eq_16, ev.eq_17, ev.eq_18, ev.eq_19, ev_lc, evAnd, evOr, evCh, evR, evC, evA, evP, evIf, evT, evO, PL.bind, sb, biR, negR, binR, idxR, sliR, metR, cmpR, truthR, callR, iosOf, derefs, putBack, PL.cold, peeks, peek, gets, ofO, retOf, slotOf, setAll, isHot, subAt, recvOk, isMut, isUpd, recvD, dctR, biD, one, ovS, seq?, isInst, PyData.isInt, PyData.isBool, PyData.isTuple, truthD, PyData.truthy, entry, asgT, asgTs, wipeE, backE, it_lst, it_tpl, it_r1, it_r2, it_r3, it_enum, it_zip, rg1, rg2, ints?, intR, setD, retIs_rt, nxIs_nx, retH_rt, nxH_nx, PyData.isList, PyData.isDict, PyData.isStr, List.range, List.range.loop, sz0, sz1, sz2, sz3, sz4, sz5, sz6, sz7, sz8, sz9, sz10, sz11, sz12, E_get, E_set, sU_eq, sU_ne, sU_sU, sU_comm, notHot_E, cl_no, cl_c, ir0, h0, df_law_draw, io_law_draw, e1', e2', m1, m2]
theorem i1 (hN : BB < N) (hr : Wh r) (hs : Wh s) (h1 : f 1 = .c (iN r)) (h2 : f 2 = .c (iN s)) : exec (G7 N) N ir1 (E 15 f) = .nx (E 15 (sU f 3 (.c (tupZ (frP (s : Int) r))))) := by
  have c : callD dfs N 11 "_law_low" [iN s, iN r] = .ok (.c (tupZ (frP (s : Int) r))) [] := c_lowZ (n := 10) hN (s : Int) hr.a hr.le
  generalize tupZ (frP (s : Int) r) = T at *
  simp [execs, exec, ev.eq_1, ev.eq_2, ev.eq_3, ev.eq_4, ev.eq_5, ev.eq_6, ev.eq_7, ev.eq_8, ev.eq_9, ev.eq_10, ev.eq_11, ev.eq_12, ev.eq_13, ev.eq_14, ev.eq_15, ev.eq_16, ev.eq_17, ev.eq_18, ev.eq_19, ev_lc, evAnd, evOr, evCh, evR, evC, evA, evP, evIf, evT, evO, PL.bind, sb, biR, negR, binR, idxR, sliR, metR, cmpR, truthR, callR, iosOf, derefs, putBack, PL.cold, peeks, peek, gets, ofO, retOf, slotOf, setAll, isHot, subAt, recvOk, isMut, isUpd, recvD, dctR, biD, one, ovS, seq?, isInst, PyData.isInt, PyData.isBool, PyData.isTuple, truthD, PyData.truthy, entry, asgT, asgTs, wipeE, backE, it_lst, it_tpl, it_r1, it_r2, it_r3, it_enum, it_zip, rg1, rg2, ints?, intR, setD, retIs_rt, nxIs_nx, retH_rt, nxH_nx, PyData.isList, PyData.isDict, PyData.isStr, List.range, List.range.loop, sz0, sz1, sz2, sz3, sz4, sz5, sz6, sz7, sz8, sz9, sz10, sz11, sz12, E_get, E_set, sU_eq, sU_ne, sU_sU, sU_comm, notHot_E, cl_no, cl_c, ir1, h1, h2, df_law_low, io_law_low, c]
theorem i2 (hN : BB < N) (hr : Wh r) (hs : Wh s) (h1 : f 1 = .c (iN r)) (h2 : f 2 = .c (iN s)) (h3 : f 3 = .c (tupZ (frP (s : Int) r))) : exec (G7 N) N ir2 (E 15 f) = .nx (E 15 f) := by
  have c1 := c_out (n := 7) hN hr hs
  have c2 : callD dfs N 11 "_law_plus" [tupZ (frP (s : Int) r), .tuple [.int 1, .int 1]] = .ok (.c (tupZ (plusP (frP (s : Int) r) (1, 1)))) [] := c_lplusZ (n := 9) hN (sm_rs hr hs).1 sm_1
  rw [(rs_of hr hs).1] at c2
  have q : isE N 11 (tupZ (frP ((s : Int) + r) r)) := is_tz (n := 9) _
  unfold isE at q
  generalize tupZ (frP (s : Int) r) = T at *
  generalize tupZ (frP ((s : Int) + r) r) = U at *
  simp [execs, exec, ev.eq_1, ev.eq_2, ev.eq_3, ev.eq_4, ev.eq_5, ev.eq_6, ev.eq_7, ev.eq_8, ev.eq_9, ev.eq_10, ev.eq_11, ev.eq_12, ev.eq_13, ev.eq_14, ev.eq_15, ev.eq_16, ev.eq_17, ev.eq_18, ev.eq_19, ev_lc, evAnd, evOr, evCh, evR, evC, evA, evP, evIf, evT, evO, PL.bind, sb, biR, negR, binR, idxR, sliR, metR, cmpR, truthR, callR, iosOf, derefs, putBack, PL.cold, peeks, peek, gets, ofO, retOf, slotOf, setAll, isHot, subAt, recvOk, isMut, isUpd, recvD, dctR, biD, one, ovS, seq?, isInst, PyData.isInt, PyData.isBool, PyData.isTuple, truthD, PyData.truthy, entry, asgT, asgTs, wipeE, backE, it_lst, it_tpl, it_r1, it_r2, it_r3, it_enum, it_zip, rg1, rg2, ints?, intR, setD, retIs_rt, nxIs_nx, retH_rt, nxH_nx, PyData.isList, PyData.isDict, PyData.isStr, List.range, List.range.loop, sz0, sz1, sz2, sz3, sz4, sz5, sz6, sz7, sz8, sz9, sz10, sz11, sz12, E_get, E_set, sU_eq, sU_ne, sU_sU, sU_comm, notHot_E, cl_no, cl_c, ir2, h1, h2, h3, df_around, io_around, c1, df_law_plus, io_law_plus, c2, df_law_is, io_law_is, q]
theorem tz_ne (p : Int × Nat) : cmpD .NotEq (tupZ p) (tupZ p) = some false := by
  refine ne_self ?_
  have q := deep_tupI [p.1, (p.2 : Int)]
  exact q
theorem i3 (hN : BB < N) (hr : Wh r) (hs : Wh s) (h1 : f 1 = .c (iN r)) (h2 : f 2 = .c (iN s)) (h3 : f 3 = .c (tupZ (frP (s : Int) r))) : ∃ x, cl x = true ∧ exec (G7 N) N ir3 (E 15 f) = .nx (E 15 (sU f 4 x)) ∨ exec (G7 N) N ir3 (E 15 f) = .nx (E 15 f) := by
  have lt : cmpD .Lt (iN r) (iN s) = some (decide (r < s)) := by
    rw [iN, iN, cmp_lt]
    congr 1
    rw [decide_eq_decide]
    omega
  by_cases z : r < s
  · rw [decide_eq_true z] at lt
    obtain ⟨t1, t2⟩ := (rs_of hr hs).2.2 z
    obtain ⟨m1, m2, m3, m4⟩ := sm_rs hr hs
    have c0 := c_out (n := 7) hN hr hs
    have c1 := c_in (n := 7) hN hr hs z
    have c2 : callD dfs N 11 "_law_plus" [tupZ (frP (s : Int) r), .tuple [.int (-1), .int 1]] = .ok (.c (tupZ (plusP (frP (s : Int) r) (-1, 1)))) [] := c_lplusZ (n := 9) hN m1 sm_m1
    rw [t1] at c2
    have q : isE N 11 (tupZ (frP ((s : Int) - r) r)) := is_tz (n := 9) _
    unfold isE at q
    have c3 := c_lplusZ (n := 9) hN m3 m2
    rw [t2] at c3
    have c4 : callD dfs N 11 "_law_times" [.tuple [.int 2, .int 1], tupZ (frP (s : Int) r)] = .ok (.c (tupZ (timesP (2, 1) (frP (s : Int) r)))) [] := c_ltimesZ (n := 9) hN sm_2 m1
    have ne := tz_ne (timesP (2, 1) (frP (s : Int) r))
    refine ⟨.c (tupZ (timesP (2, 1) (frP (s : Int) r))), .inl ⟨rfl, ?_⟩⟩
    generalize tupZ (timesP (2, 1) (frP (s : Int) r)) = V at *
    generalize tupZ (frP (s : Int) r) = T at *
    generalize tupZ (frP ((s : Int) + r) r) = U at *
    generalize tupZ (frP ((s : Int) - r) r) = W at *
    simp [execs, exec, ev.eq_1, ev.eq_2, ev.eq_3, ev.eq_4, ev.eq_5, ev.eq_6, ev.eq_7, ev.eq_8, ev.eq_9, ev.eq_10, ev.eq_11, ev.eq_12, ev.eq_13, ev.eq_14, ev.eq_15, ev.eq_16, ev.eq_17, ev.eq_18, ev.eq_19, ev_lc, evAnd, evOr, evCh, evR, evC, evA, evP, evIf, evT, evO, PL.bind, sb, biR, negR, binR, idxR, sliR, metR, cmpR, truthR, callR, iosOf, derefs, putBack, PL.cold, peeks, peek, gets, ofO, retOf, slotOf, setAll, isHot, subAt, recvOk, isMut, isUpd, recvD, dctR, biD, one, ovS, seq?, isInst, PyData.isInt, PyData.isBool, PyData.isTuple, truthD, PyData.truthy, entry, asgT, asgTs, wipeE, backE, it_lst, it_tpl, it_r1, it_r2, it_r3, it_enum, it_zip, rg1, rg2, ints?, intR, setD, retIs_rt, nxIs_nx, retH_rt, nxH_nx, PyData.isList, PyData.isDict, PyData.isStr, List.range, List.range.loop, sz0, sz1, sz2, sz3, sz4, sz5, sz6, sz7, sz8, sz9, sz10, sz11, sz12, E_get, E_set, sU_eq, sU_ne, sU_sU, sU_comm, notHot_E, cl_no, cl_c, ir3, h1, h2, h3, lt, df_around, io_around, c0, c1, df_law_plus, io_law_plus, c2, c3, df_law_is, io_law_is, q, df_law_times, io_law_times, c4, ne]
  · rw [decide_eq_false z] at lt
    refine ⟨.no, .inr ?_⟩
    simp [execs, exec, ev.eq_1, ev.eq_2, ev.eq_3, ev.eq_4, ev.eq_5, ev.eq_6, ev.eq_7, ev.eq_8, ev.eq_9, ev.eq_10, ev.eq_11, ev.eq_12, ev.eq_13, ev.eq_14, ev.eq_15, ev.eq_16, ev.eq_17, ev.eq_18, ev.eq_19, ev_lc, evAnd, evOr, evCh, evR, evC, evA, evP, evIf, evT, evO, PL.bind, sb, biR, negR, binR, idxR, sliR, metR, cmpR, truthR, callR, iosOf, derefs, putBack, PL.cold, peeks, peek, gets, ofO, retOf, slotOf, setAll, isHot, subAt, recvOk, isMut, isUpd, recvD, dctR, biD, one, ovS, seq?, isInst, PyData.isInt, PyData.isBool, PyData.isTuple, truthD, PyData.truthy, entry, asgT, asgTs, wipeE, backE, it_lst, it_tpl, it_r1, it_r2, it_r3, it_enum, it_zip, rg1, rg2, ints?, intR, setD, retIs_rt, nxIs_nx, retH_rt, nxH_nx, PyData.isList, PyData.isDict, PyData.isStr, List.range, List.range.loop, sz0, sz1, sz2, sz3, sz4, sz5, sz6, sz7, sz8, sz9, sz10, sz11, sz12, E_get, E_set, sU_eq, sU_ne, sU_sU, sU_comm, notHot_E, cl_no, cl_c, ir3, h1, h2, lt]
theorem i4 (hr : Wh r) (hs : Wh s) (h1 : f 1 = .c (iN r)) (h2 : f 2 = .c (iN s)) : exec (G7 N) N ir4 (E 15 f) = .nx (E 15 (sU (sU f 5 (.c (iN (r / Nat.gcd r s)))) 6 (.c (iN (s / Nat.gcd r s))))) := by
  have c := c_home (N := N) (n := 10) hr hs
  generalize iN (r / Nat.gcd r s) = A at *
  generalize iN (s / Nat.gcd r s) = B at *
  simp [execs, exec, ev.eq_1, ev.eq_2, ev.eq_3, ev.eq_4, ev.eq_5, ev.eq_6, ev.eq_7, ev.eq_8, ev.eq_9, ev.eq_10, ev.eq_11, ev.eq_12, ev.eq_13, ev.eq_14, ev.eq_15, ev.eq_16, ev.eq_17, ev.eq_18, ev.eq_19, ev_lc, evAnd, evOr, evCh, evR, evC, evA, evP, evIf, evT, evO, PL.bind, sb, biR, negR, binR, idxR, sliR, metR, cmpR, truthR, callR, iosOf, derefs, putBack, PL.cold, peeks, peek, gets, ofO, retOf, slotOf, setAll, isHot, subAt, recvOk, isMut, isUpd, recvD, dctR, biD, one, ovS, seq?, isInst, PyData.isInt, PyData.isBool, PyData.isTuple, truthD, PyData.truthy, entry, asgT, asgTs, wipeE, backE, it_lst, it_tpl, it_r1, it_r2, it_r3, it_enum, it_zip, rg1, rg2, ints?, intR, setD, retIs_rt, nxIs_nx, retH_rt, nxH_nx, PyData.isList, PyData.isDict, PyData.isStr, List.range, List.range.loop, sz0, sz1, sz2, sz3, sz4, sz5, sz6, sz7, sz8, sz9, sz10, sz11, sz12, E_get, E_set, sU_eq, sU_ne, sU_sU, sU_comm, notHot_E, cl_no, cl_c, ir4, h1, h2, df_law_home, io_law_home, c]
theorem i5 (hN : BB < N) (hr : Wh r) (hs : Wh s) (h1 : f 1 = .c (iN r)) (h2 : f 2 = .c (iN s)) (h5 : f 5 = .c (iN (r / Nat.gcd r s))) (h6 : f 6 = .c (iN (s / Nat.gcd r s))) : exec (G7 N) N ir5 (E 15 f) = .nx (E 15 f) := by
  have c1 := c_till (n := 7) hN hr hs
  have c2 := c_touches (n := 7) hN hr hs
  have q : isE N 11 (.list [iN (r / Nat.gcd r s), iN (s / Nat.gcd r s)]) := is_l2 (n := 10) (is_int _) (is_int _)
  unfold isE at q
  generalize iN (r / Nat.gcd r s) = A at *
  generalize iN (s / Nat.gcd r s) = B at *
  simp [execs, exec, ev.eq_1, ev.eq_2, ev.eq_3, ev.eq_4, ev.eq_5, ev.eq_6, ev.eq_7, ev.eq_8, ev.eq_9, ev.eq_10, ev.eq_11, ev.eq_12, ev.eq_13, ev.eq_14, ev.eq_15, ev.eq_16, ev.eq_17, ev.eq_18, ev.eq_19, ev_lc, evAnd, evOr, evCh, evR, evC, evA, evP, evIf, evT, evO, PL.bind, sb, biR, negR, binR, idxR, sliR, metR, cmpR, truthR, callR, iosOf, derefs, putBack, PL.cold, peeks, peek, gets, ofO, retOf, slotOf, setAll, isHot, subAt, recvOk, isMut, isUpd, recvD, dctR, biD, one, ovS, seq?, isInst, PyData.isInt, PyData.isBool, PyData.isTuple, truthD, PyData.truthy, entry, asgT, asgTs, wipeE, backE, it_lst, it_tpl, it_r1, it_r2, it_r3, it_enum, it_zip, rg1, rg2, ints?, intR, setD, retIs_rt, nxIs_nx, retH_rt, nxH_nx, PyData.isList, PyData.isDict, PyData.isStr, List.range, List.range.loop, sz0, sz1, sz2, sz3, sz4, sz5, sz6, sz7, sz8, sz9, sz10, sz11, sz12, E_get, E_set, sU_eq, sU_ne, sU_sU, sU_comm, notHot_E, cl_no, cl_c, ir5, h1, h2, h5, h6, df_till_home, io_till_home, df_touches, io_touches, c1, c2, df_law_is, io_law_is, q]
end
end PL.L

set_option autoImplicit false
set_option linter.all false
set_option Elab.async false
set_option maxRecDepth 100000
set_option maxHeartbeats 2000000
/-! R8: the wheels in a chain. -/
namespace PL.L
open PySem PL
section
variable {N : Nat} {f : Nat → Slot} {r s : Nat}
theorem whs_of {ys : List PyData} (h : ∀ y ∈ ys, ∃ i : Nat, y = iN i ∧ Wh i) : ∃ W : List Nat, ys = W.map iN ∧ ∀ w ∈ W, Wh w := by
  induction ys with
  | nil => exact ⟨[], rfl, fun w hw => nomatch hw⟩
  | cons y ys ih =>
    obtain ⟨W, e, b⟩ := ih fun z hz => h z (List.mem_cons_of_mem _ hz)
    obtain ⟨i, rfl, b1⟩ := h y List.mem_cons_self
    exact ⟨i :: W, by rw [e]; rfl, fun w hw => by
      rcases List.mem_cons.mp hw with rfl | hw
      · exact b1
      · exact b w hw⟩
theorem two_add (a : Nat) : binD .Add (.int 2) (iN a) = some (.val (iN (2 + a))) := by
  show some (Res.val (.int (2 + (a : Int)))) = _
  rw [iN, Int.natCast_add]
  rfl
theorem i6 {d : PyData} (h0 : f 0 = .h true d) (c10 : cl (f 10) = true) (hk : HandOk d) : ∃ (ws : List Nat) (d' : PyData), Whs ws ∧ HandOk d' ∧ exec (G7 N) N ir6 (E 15 f) = .nx (E 15 (sU (sU f 0 (.h true d')) 7 (.c (.tuple (ws.map iN))))) := by
  obtain ⟨a, d1, la, k1, e1⟩ := draw_n (N := N) hk 5 (by omega) (by omega)
  have e1' : callD dfs N 11 "_law_draw" [d, .int 5] = .ok (.c (iN a)) [d1] := e1 10
  obtain ⟨ys, d2, ly, hy, k2, e2⟩ := lcL_draw (fun d => E 15 (sU (sU f 0 (.h true d)) 10 .no)) (fun y => ∃ i : Nat, y = iN i ∧ Wh i) (g := fun c : Nat => PyData.int (c : Int)) (l := upto (2 + a))
    (step := stepF (.nm 10) (evIf (G7 N) []) (ev (G7 N) (.bin .Add (.con (.int 1)) (.call "_law_draw" [(.var 0), (.con (.int 60))]))) [10]) (fun x hx d hd => by
      obtain ⟨b, d', lb, k', e⟩ := draw_n (N := N) hd 60 (by omega) (by omega)
      have e' : callD dfs N 11 "_law_draw" [d, .int 60] = .ok (.c (iN b)) [d'] := e 10
      refine ⟨iN (1 + b), d', ⟨1 + b, rfl, ⟨by omega, by omega⟩⟩, k', ?_⟩
      have m := one_add b
      generalize iN (1 + b) = B at *
      generalize iN b = B1 at *
      simp [execs, exec, ev.eq_1, ev.eq_2, ev.eq_3, ev.eq_4, ev.eq_5, ev.eq_6, ev.eq_7, ev.eq_8, ev.eq_9, ev.eq_10, ev.eq_11, ev.eq_12, ev.eq_13, ev.eq_14, ev.eq_15, ev.eq_16, ev.eq_17, ev.eq_18, ev.eq_19, ev_lc, evAnd, evOr, evCh, evR, evC, evA, evP, evIf, evT, evO, PL.bind, sb, biR, negR, binR, idxR, sliR, metR, cmpR, truthR, callR, iosOf, derefs, putBack, PL.cold, peeks, peek, gets, ofO, retOf, slotOf, setAll, isHot, subAt, recvOk, isMut, isUpd, recvD, dctR, biD, one, ovS, seq?, isInst, PyData.isInt, PyData.isBool, PyData.isTuple, truthD, PyData.truthy, entry, asgT, asgTs, wipeE, backE, it_lst, it_tpl, it_r1, it_r2, it_r3, it_enum, it_zip, rg1, rg2, ints?, intR, setD, retIs_rt, nxIs_nx, retH_rt, nxH_nx, PyData.isList, PyData.isDict, PyData.isStr, List.range, List.range.loop, sz0, sz1, sz2, sz3, sz4, sz5, sz6, sz7, sz8, sz9, sz10, sz11, sz12, E_get, E_set, sU_eq, sU_ne, sU_sU, sU_comm, notHot_E, cl_no, cl_c, stepF, df_law_draw, io_law_draw, e', m]) (d := d1) (acc := []) k1 (by rw [upto_len, List.length_nil]; omega)
  rw [List.nil_append] at e2
  obtain ⟨W, rfl, hb⟩ := whs_of hy
  rw [List.length_map, upto_len] at ly
  refine ⟨W, d2, ⟨by omega, by omega, hb⟩, k2, ?_⟩
  have it : itemsD .r1 [iN (2 + a)] = some ((upto (2 + a)).map fun (c : Nat) => PyData.int (c : Int)) := it_r1n (by omega)
  have m := two_add a
  have c10' : cl ((sU f 0 (.h true d1)) 10) = true := c10
  generalize iN (2 + a) = A at *
  generalize iN a = A1 at *
  have hs : sU f 0 (.h true d) = f := by rw [← h0]; exact sU_self f 0
  generalize (W.map iN) = YS at *
  generalize ((upto (2 + a)).map fun (c : Nat) => PyData.int (c : Int)) = IT at *
  simp [execs, exec, ev.eq_1, ev.eq_2, ev.eq_3, ev.eq_4, ev.eq_5, ev.eq_6, ev.eq_7, ev.eq_8, ev.eq_9, ev.eq_10, ev.eq_11, ev.eq_12, ev.eq_13, ev.eq_14, ev.eq_15, ev.eq_16, ev.eq_17, ev.eq_18, ev.eq_19, ev_lc, evAnd, evOr, evCh, evR, evC, evA, evP, evIf, evT, evO, PL.bind, sb, biR, negR, binR, idxR, sliR, metR, cmpR, truthR, callR, iosOf, derefs, putBack, PL.cold, peeks, peek, gets, ofO, retOf, slotOf, setAll, isHot, subAt, recvOk, isMut, isUpd, recvD, dctR, biD, one, ovS, seq?, isInst, PyData.isInt, PyData.isBool, PyData.isTuple, truthD, PyData.truthy, entry, asgT, asgTs, wipeE, backE, it_lst, it_tpl, it_r1, it_r2, it_r3, it_enum, it_zip, rg1, rg2, ints?, intR, setD, retIs_rt, nxIs_nx, retH_rt, nxH_nx, PyData.isList, PyData.isDict, PyData.isStr, List.range, List.range.loop, sz0, sz1, sz2, sz3, sz4, sz5, sz6, sz7, sz8, sz9, sz10, sz11, sz12, E_get, E_set, sU_eq, sU_ne, sU_sU, sU_comm, notHot_E, cl_no, cl_c, ir6, h0, df_law_draw, io_law_draw, e1', m, it, c10] at e2 ⊢
  rw [e2]
  simp [execs, exec, ev.eq_1, ev.eq_2, ev.eq_3, ev.eq_4, ev.eq_5, ev.eq_6, ev.eq_7, ev.eq_8, ev.eq_9, ev.eq_10, ev.eq_11, ev.eq_12, ev.eq_13, ev.eq_14, ev.eq_15, ev.eq_16, ev.eq_17, ev.eq_18, ev.eq_19, ev_lc, evAnd, evOr, evCh, evR, evC, evA, evP, evIf, evT, evO, PL.bind, sb, biR, negR, binR, idxR, sliR, metR, cmpR, truthR, callR, iosOf, derefs, putBack, PL.cold, peeks, peek, gets, ofO, retOf, slotOf, setAll, isHot, subAt, recvOk, isMut, isUpd, recvD, dctR, biD, one, ovS, seq?, isInst, PyData.isInt, PyData.isBool, PyData.isTuple, truthD, PyData.truthy, entry, asgT, asgTs, wipeE, backE, it_lst, it_tpl, it_r1, it_r2, it_r3, it_enum, it_zip, rg1, rg2, ints?, intR, setD, retIs_rt, nxIs_nx, retH_rt, nxH_nx, PyData.isList, PyData.isDict, PyData.isStr, List.range, List.range.loop, sz0, sz1, sz2, sz3, sz4, sz5, sz6, sz7, sz8, sz9, sz10, sz11, sz12, E_get, E_set, sU_eq, sU_ne, sU_sU, sU_comm, notHot_E, cl_no, cl_c, sU_self]
theorem i7 : exec (G7 N) N ir7 (E 15 f) = .nx (E 15 (sU f 8 (.h false (.list [])))) := by simp [execs, exec, ev.eq_1, ev.eq_2, ev.eq_3, ev.eq_4, ev.eq_5, ev.eq_6, ev.eq_7, ev.eq_8, ev.eq_9, ev.eq_10, ev.eq_11, ev.eq_12, ev.eq_13, ev.eq_14, ev.eq_15, ev.eq_16, ev.eq_17, ev.eq_18, ev.eq_19, ev_lc, evAnd, evOr, evCh, evR, evC, evA, evP, evIf, evT, evO, PL.bind, sb, biR, negR, binR, idxR, sliR, metR, cmpR, truthR, callR, iosOf, derefs, putBack, PL.cold, peeks, peek, gets, ofO, retOf, slotOf, setAll, isHot, subAt, recvOk, isMut, isUpd, recvD, dctR, biD, one, ovS, seq?, isInst, PyData.isInt, PyData.isBool, PyData.isTuple, truthD, PyData.truthy, entry, asgT, asgTs, wipeE, backE, it_lst, it_tpl, it_r1, it_r2, it_r3, it_enum, it_zip, rg1, rg2, ints?, intR, setD, retIs_rt, nxIs_nx, retH_rt, nxH_nx, PyData.isList, PyData.isDict, PyData.isStr, List.range, List.range.loop, sz0, sz1, sz2, sz3, sz4, sz5, sz6, sz7, sz8, sz9, sz10, sz11, sz12, E_get, E_set, sU_eq, sU_ne, sU_sU, sU_comm, notHot_E, cl_no, cl_c, ir7]
def body8 : List St := [.ex (.met .append (.var 8) [(.call "_law_low" [(.ife (.cmp (.bin .Mod (.bi .int [(.var 9)]) (.con (.int 2))) [.Eq] [(.con (.int 0))]) (.idx (.var 7) (.con (.int 0))) (.bin .Sub (.con (.int 0)) (.idx (.var 7) (.con (.int 0))))), (.var 10)])])]
theorem ir8_is : ir8 = .fr (.tp [(.nm 9), (.nm 10)]) .enum [(.var 7)] body8 := rfl
theorem step8 (hN : BB < N) {ws : List Nat} (h : Whs ws) {w0 : Nat} (h0 : ws[0]? = some w0) (hw : Wh w0) {g : Nat → Slot} (g7 : g 7 = .c (.tuple (ws.map iN))) {L : List PyData} (hl : L.length ≤ 100) (g8 : g 8 = .h false (.list L)) {w k : Nat} (wk : Wh w) (g9 : g 9 = .c (iN k)) (g10 : g 10 = .c (iN w)) :
    execs (G7 N) N body8 (E 15 g) = .nx (E 15 (sU g 8 (.h false (.list (L ++ [tupZ (frP (sg w0 k) w)]))))) := by
  have ix : idxD (.tuple (ws.map iN)) (.int 0) = some (iN w0) := idx_mapT (k := 0) h0
  have c := c_lowZ (N := N) (n := 10) hN (sg w0 k) (b := w) wk.a wk.le
  have ap : ∀ x, metM .append (.list L) [x] = some (.none, .list (L ++ [x])) := fun x => by
    have z : szOk L.length = true := zw _ (by omega)
    simp only [metM, z, if_true]
  have pe := par2 k
  have e0 := eq0 (k % 2)
  have di := d_int k
  have ng := z_neg w0
  generalize tupZ (frP (sg w0 k) w) = R at *
  unfold sg at c
  by_cases z : k % 2 = 0
  · rw [if_pos z] at c
    rw [decide_eq_true z] at e0
    have c : callD dfs N 11 "_law_low" [iN w0, iN w] = .ok (.c R) [] := c
    generalize PyData.tuple (ws.map iN) = T at *
    simp [execs, exec, ev.eq_1, ev.eq_2, ev.eq_3, ev.eq_4, ev.eq_5, ev.eq_6, ev.eq_7, ev.eq_8, ev.eq_9, ev.eq_10, ev.eq_11, ev.eq_12, ev.eq_13, ev.eq_14, ev.eq_15, ev.eq_16, ev.eq_17, ev.eq_18, ev.eq_19, ev_lc, evAnd, evOr, evCh, evR, evC, evA, evP, evIf, evT, evO, PL.bind, sb, biR, negR, binR, idxR, sliR, metR, cmpR, truthR, callR, iosOf, derefs, putBack, PL.cold, peeks, peek, gets, ofO, retOf, slotOf, setAll, isHot, subAt, recvOk, isMut, isUpd, recvD, dctR, biD, one, ovS, seq?, isInst, PyData.isInt, PyData.isBool, PyData.isTuple, truthD, PyData.truthy, entry, asgT, asgTs, wipeE, backE, it_lst, it_tpl, it_r1, it_r2, it_r3, it_enum, it_zip, rg1, rg2, ints?, intR, setD, retIs_rt, nxIs_nx, retH_rt, nxH_nx, PyData.isList, PyData.isDict, PyData.isStr, List.range, List.range.loop, sz0, sz1, sz2, sz3, sz4, sz5, sz6, sz7, sz8, sz9, sz10, sz11, sz12, E_get, E_set, sU_eq, sU_ne, sU_sU, sU_comm, notHot_E, cl_no, cl_c, body8, g7, g8, g9, g10, di, pe, e0, ix, df_law_low, io_law_low, c, ap]
  · rw [if_neg z] at c
    rw [decide_eq_false z] at e0
    generalize PyData.tuple (ws.map iN) = T at *
    simp [execs, exec, ev.eq_1, ev.eq_2, ev.eq_3, ev.eq_4, ev.eq_5, ev.eq_6, ev.eq_7, ev.eq_8, ev.eq_9, ev.eq_10, ev.eq_11, ev.eq_12, ev.eq_13, ev.eq_14, ev.eq_15, ev.eq_16, ev.eq_17, ev.eq_18, ev.eq_19, ev_lc, evAnd, evOr, evCh, evR, evC, evA, evP, evIf, evT, evO, PL.bind, sb, biR, negR, binR, idxR, sliR, metR, cmpR, truthR, callR, iosOf, derefs, putBack, PL.cold, peeks, peek, gets, ofO, retOf, slotOf, setAll, isHot, subAt, recvOk, isMut, isUpd, recvD, dctR, biD, one, ovS, seq?, isInst, PyData.isInt, PyData.isBool, PyData.isTuple, truthD, PyData.truthy, entry, asgT, asgTs, wipeE, backE, it_lst, it_tpl, it_r1, it_r2, it_r3, it_enum, it_zip, rg1, rg2, ints?, intR, setD, retIs_rt, nxIs_nx, retH_rt, nxH_nx, PyData.isList, PyData.isDict, PyData.isStr, List.range, List.range.loop, sz0, sz1, sz2, sz3, sz4, sz5, sz6, sz7, sz8, sz9, sz10, sz11, sz12, E_get, E_set, sU_eq, sU_ne, sU_sU, sU_comm, notHot_E, cl_no, cl_c, body8, g7, g8, g9, g10, di, pe, e0, ix, ng, df_law_low, io_law_low, c, ap]
theorem ch_take {w0 : Nat} {ws : List Nat} {k w : Nat} (h : ws[k]? = some w) : (ch w0 ws).take k ++ [tupZ (frP (sg w0 k) w)] = (ch w0 ws).take (k + 1) := by
  have e : (ch w0 ws)[k]? = some (tupZ (frP (sg w0 k) w)) := by
    unfold ch
    rw [List.getElem?_map, List.getElem?_zipIdx, h]
    simp
  rw [List.take_add_one, e]
  rfl
theorem i8 (hN : BB < N) {ws : List Nat} (h : Whs ws) {w0 : Nat} (h0 : ws[0]? = some w0) (hw : Wh w0) (h7 : f 7 = .c (.tuple (ws.map iN))) (h8 : f 8 = .h false (.list [])) : ∃ x y, cl x = true ∧ cl y = true ∧ exec (G7 N) N ir8 (E 15 f) = .nx (E 15 (sU (sU (sU f 8 (.h false (.list (ch w0 ws)))) 9 x) 10 y)) := by
  have hb := h.b
  have ha := h.a
  have lch : (ch w0 ws).length = ws.length := by unfold ch; rw [List.length_map, List.length_zipIdx]
  have ite : itemsD .enum [.tuple (ws.map iN)] = some ((ws.zipIdx 0).map fun p => .tuple [iN p.2, iN p.1]) := by
    rw [← enum_iN]; rfl
  obtain ⟨ρ', e1, x, y, cx, cy, rfl⟩ := forL_ix0 (T := .tp [(.nm 9), (.nm 10)]) (b := execs (G7 N) N body8) (items := (ws.zipIdx 0).map fun p => PyData.tuple [iN p.2, iN p.1])
    (fun k ρ => ∃ x y, (k = 0 ∨ cl x = true) ∧ (k = 0 ∨ cl y = true) ∧ ρ = E 15 (sU (sU (sU f 8 (.h false (.list ((ch w0 ws).take k)))) 9 x) 10 y)) (fun k d hd ρ ⟨x, y, _, _, hx⟩ => by
      obtain ⟨p, hp, rfl⟩ := at_map hd
      rw [List.getElem?_zipIdx] at hp
      obtain ⟨w, hwk, rfl⟩ := Option.map_eq_some_iff.mp hp
      have wk : Wh w := h.w w (List.mem_of_getElem? hwk)
      generalize hg : sU (sU (sU f 8 (.h false (.list ((ch w0 ws).take k)))) 9 (.c (iN k))) 10 (.c (iN w)) = g
      have st := step8 (N := N) hN h h0 hw (g := g) (by rw [← hg]; exact h7) (L := (ch w0 ws).take k) (by rw [List.length_take]; omega) (by rw [← hg]; rfl) (w := w) (k := k) wk (by rw [← hg]; rfl) (by rw [← hg]; rfl)
      rw [ch_take hwk] at st
      refine ⟨E 15 g, _, ?_, st, .c (iN k), .c (iN w), .inr rfl, .inr rfl, ?_⟩
      · rw [hx, ← hg]
        have zk : 0 + k = k := Nat.zero_add k
        simp only [zk]
        simp [execs, exec, ev.eq_1, ev.eq_2, ev.eq_3, ev.eq_4, ev.eq_5, ev.eq_6, ev.eq_7, ev.eq_8, ev.eq_9, ev.eq_10, ev.eq_11, ev.eq_12, ev.eq_13, ev.eq_14, ev.eq_15, ev.eq_16, ev.eq_17, ev.eq_18, ev.eq_19, ev_lc, evAnd, evOr, evCh, evR, evC, evA, evP, evIf, evT, evO, PL.bind, sb, biR, negR, binR, idxR, sliR, metR, cmpR, truthR, callR, iosOf, derefs, putBack, PL.cold, peeks, peek, gets, ofO, retOf, slotOf, setAll, isHot, subAt, recvOk, isMut, isUpd, recvD, dctR, biD, one, ovS, seq?, isInst, PyData.isInt, PyData.isBool, PyData.isTuple, truthD, PyData.truthy, entry, asgT, asgTs, wipeE, backE, it_lst, it_tpl, it_r1, it_r2, it_r3, it_enum, it_zip, rg1, rg2, ints?, intR, setD, retIs_rt, nxIs_nx, retH_rt, nxH_nx, PyData.isList, PyData.isDict, PyData.isStr, List.range, List.range.loop, sz0, sz1, sz2, sz3, sz4, sz5, sz6, sz7, sz8, sz9, sz10, sz11, sz12, E_get, E_set, sU_eq, sU_ne, sU_sU, sU_comm, notHot_E, cl_no, cl_c]
        refine congrArg (E 15) (funext fun i => ?_)
        by_cases a8 : i = 8 <;> by_cases a9 : i = 9 <;> by_cases a10 : i = 10 <;> simp [sU, a8, a9, a10]
      · rw [← hg]
        refine congrArg (E 15) ?_
        simp [execs, exec, ev.eq_1, ev.eq_2, ev.eq_3, ev.eq_4, ev.eq_5, ev.eq_6, ev.eq_7, ev.eq_8, ev.eq_9, ev.eq_10, ev.eq_11, ev.eq_12, ev.eq_13, ev.eq_14, ev.eq_15, ev.eq_16, ev.eq_17, ev.eq_18, ev.eq_19, ev_lc, evAnd, evOr, evCh, evR, evC, evA, evP, evIf, evT, evO, PL.bind, sb, biR, negR, binR, idxR, sliR, metR, cmpR, truthR, callR, iosOf, derefs, putBack, PL.cold, peeks, peek, gets, ofO, retOf, slotOf, setAll, isHot, subAt, recvOk, isMut, isUpd, recvD, dctR, biD, one, ovS, seq?, isInst, PyData.isInt, PyData.isBool, PyData.isTuple, truthD, PyData.truthy, entry, asgT, asgTs, wipeE, backE, it_lst, it_tpl, it_r1, it_r2, it_r3, it_enum, it_zip, rg1, rg2, ints?, intR, setD, retIs_rt, nxIs_nx, retH_rt, nxH_nx, PyData.isList, PyData.isDict, PyData.isStr, List.range, List.range.loop, sz0, sz1, sz2, sz3, sz4, sz5, sz6, sz7, sz8, sz9, sz10, sz11, sz12, E_get, E_set, sU_eq, sU_ne, sU_sU, sU_comm, notHot_E, cl_no, cl_c]) (ρ := E 15 f) ⟨f 9, f 10, .inl rfl, .inl rfl, by
      have e : sU f 8 (.h false (.list ((ch w0 ws).take 0))) = f := by rw [List.take_zero, ← h8]; exact sU_self f 8
      rw [e, sU_self, sU_self]⟩
  rw [List.length_map, List.length_zipIdx] at e1 cx cy
  rw [show (ch w0 ws).take ws.length = ch w0 ws by rw [← lch]; exact List.take_length] at e1
  refine ⟨x, y, cx.resolve_left (by omega), cy.resolve_left (by omega), ?_⟩
  rw [ir8_is]
  exact exec_fr (ds := [.tuple (ws.map iN)]) (by simp [execs, exec, ev.eq_1, ev.eq_2, ev.eq_3, ev.eq_4, ev.eq_5, ev.eq_6, ev.eq_7, ev.eq_8, ev.eq_9, ev.eq_10, ev.eq_11, ev.eq_12, ev.eq_13, ev.eq_14, ev.eq_15, ev.eq_16, ev.eq_17, ev.eq_18, ev.eq_19, ev_lc, evAnd, evOr, evCh, evR, evC, evA, evP, evIf, evT, evO, PL.bind, sb, biR, negR, binR, idxR, sliR, metR, cmpR, truthR, callR, iosOf, derefs, putBack, PL.cold, peeks, peek, gets, ofO, retOf, slotOf, setAll, isHot, subAt, recvOk, isMut, isUpd, recvD, dctR, biD, one, ovS, seq?, isInst, PyData.isInt, PyData.isBool, PyData.isTuple, truthD, PyData.truthy, entry, asgT, asgTs, wipeE, backE, it_lst, it_tpl, it_r1, it_r2, it_r3, it_enum, it_zip, rg1, rg2, ints?, intR, setD, retIs_rt, nxIs_nx, retH_rt, nxH_nx, PyData.isList, PyData.isDict, PyData.isStr, List.range, List.range.loop, sz0, sz1, sz2, sz3, sz4, sz5, sz6, sz7, sz8, sz9, sz10, sz11, sz12, E_get, E_set, sU_eq, sU_ne, sU_sU, sU_comm, notHot_E, cl_no, cl_c, h7]) ite e1
theorem i9 (hN : BB < N) {ws : List Nat} (h : Whs ws) {w0 : Nat} (h0 : ws[0]? = some w0) (hw : Wh w0) (h7 : f 7 = .c (.tuple (ws.map iN))) (h8 : f 8 = .h false (.list (ch w0 ws))) : exec (G7 N) N ir9 (E 15 f) = .nx (E 15 f) := by
  have c := c_chain (N := N) (n := 7) hN h h0 hw
  have q : isE N 11 (.tuple (ch w0 ws)) := is_ch (n := 8) h w0
  unfold isE at q
  generalize PyData.tuple (ws.map iN) = T at *
  generalize ch w0 ws = C at *
  simp [execs, exec, ev.eq_1, ev.eq_2, ev.eq_3, ev.eq_4, ev.eq_5, ev.eq_6, ev.eq_7, ev.eq_8, ev.eq_9, ev.eq_10, ev.eq_11, ev.eq_12, ev.eq_13, ev.eq_14, ev.eq_15, ev.eq_16, ev.eq_17, ev.eq_18, ev.eq_19, ev_lc, evAnd, evOr, evCh, evR, evC, evA, evP, evIf, evT, evO, PL.bind, sb, biR, negR, binR, idxR, sliR, metR, cmpR, truthR, callR, iosOf, derefs, putBack, PL.cold, peeks, peek, gets, ofO, retOf, slotOf, setAll, isHot, subAt, recvOk, isMut, isUpd, recvD, dctR, biD, one, ovS, seq?, isInst, PyData.isInt, PyData.isBool, PyData.isTuple, truthD, PyData.truthy, entry, asgT, asgTs, wipeE, backE, it_lst, it_tpl, it_r1, it_r2, it_r3, it_enum, it_zip, rg1, rg2, ints?, intR, setD, retIs_rt, nxIs_nx, retH_rt, nxH_nx, PyData.isList, PyData.isDict, PyData.isStr, List.range, List.range.loop, sz0, sz1, sz2, sz3, sz4, sz5, sz6, sz7, sz8, sz9, sz10, sz11, sz12, E_get, E_set, sU_eq, sU_ne, sU_sU, sU_comm, notHot_E, cl_no, cl_c, ir9, h7, h8, df_chain_of, io_chain_of, c, df_law_is, io_law_is, q]
end
end PL.L

set_option autoImplicit false
set_option linter.all false
set_option Elab.async false
set_option maxRecDepth 100000
set_option maxHeartbeats 2000000
/-! R9: turns and belts; _law_is_right. -/
namespace PL.L
open PySem PL
section
variable {N : Nat} {f : Nat → Slot} {r s : Nat}
theorem i10 {d : PyData} (h0 : f 0 = .h true d) (hk : HandOk d) : ∃ (b : Nat) (d' : PyData), b < 6 ∧ HandOk d' ∧ exec (G7 N) N ir10 (E 15 f) = .nx (E 15 (sU (sU f 0 (.h true d')) 11 (.c (iN (b + 1))))) := by
  obtain ⟨a, d1, la, k1, e1⟩ := draw_n (N := N) hk 6 (by omega) (by omega)
  have e1' : callD dfs N 11 "_law_draw" [d, .int 6] = .ok (.c (iN a)) [d1] := e1 10
  refine ⟨a, d1, la, k1, ?_⟩
  have m1 := one_add a
  rw [Nat.add_comm] at m1
  generalize iN (a + 1) = A at *
  generalize iN a = A1 at *
  simp [execs, exec, ev.eq_1, ev.eq_2, ev.eq_3, ev.eq_4, ev.eq_5, ev.eq_6, ev.eq_7, ev.eq_8, ev.eq_9, ev.eq_10, ev.eq_11, ev.eq_12, ev.eq_13, ev.eq_14, ev.eq_15, ev.eq_16, ev.eq_17, ev.eq_18, ev.eq_19, ev_lc, evAnd, evOr, evCh, evR, evC, evA, evP, evIf, evT, evO, PL.bind, sb, biR, negR, binR, idxR, sliR, metR, cmpR, truthR, callR, iosOf, derefs, putBack, PL.cold, peeks, peek, gets, ofO, retOf, slotOf, setAll, isHot, subAt, recvOk, isMut, isUpd, recvD, dctR, biD, one, ovS, seq?, isInst, PyData.isInt, PyData.isBool, PyData.isTuple, truthD, PyData.truthy, entry, asgT, asgTs, wipeE, backE, it_lst, it_tpl, it_r1, it_r2, it_r3, it_enum, it_zip, rg1, rg2, ints?, intR, setD, retIs_rt, nxIs_nx, retH_rt, nxH_nx, PyData.isList, PyData.isDict, PyData.isStr, List.range, List.range.loop, sz0, sz1, sz2, sz3, sz4, sz5, sz6, sz7, sz8, sz9, sz10, sz11, sz12, E_get, E_set, sU_eq, sU_ne, sU_sU, sU_comm, notHot_E, cl_no, cl_c, ir10, h0, df_law_draw, io_law_draw, e1', m1]
theorem i11 (hN : BB < N) {d : PyData} (h0 : f 0 = .h true d) (hk : HandOk d) {b : Nat} (hb : b < 6) (h11 : f 11 = .c (iN (b + 1))) : ∃ (a : Nat) (d' : PyData), a < 41 ∧ HandOk d' ∧ exec (G7 N) N ir11 (E 15 f) = .nx (E 15 (sU (sU f 0 (.h true d')) 12 (.c (tupZ (frP ((a : Int) - 20) (b + 1)))))) := by
  obtain ⟨a, d1, la, k1, e1⟩ := draw_n (N := N) hk 41 (by omega) (by omega)
  have e1' : callD dfs N 11 "_law_draw" [d, .int 41] = .ok (.c (iN a)) [d1] := e1 10
  refine ⟨a, d1, la, k1, ?_⟩
  have c := c_lowZ (N := N) (n := 10) hN ((a : Int) - 20) (b := b + 1) (by omega) (by unfold BB; omega)
  have m : binD .Sub (iN a) (.int 20) = some (.val (.int ((a : Int) - 20))) := rfl
  generalize tupZ (frP ((a : Int) - 20) (b + 1)) = T at *
  generalize ((a : Int) - 20) = Z at *
  generalize iN (b + 1) = B at *
  generalize iN a = A1 at *
  simp [execs, exec, ev.eq_1, ev.eq_2, ev.eq_3, ev.eq_4, ev.eq_5, ev.eq_6, ev.eq_7, ev.eq_8, ev.eq_9, ev.eq_10, ev.eq_11, ev.eq_12, ev.eq_13, ev.eq_14, ev.eq_15, ev.eq_16, ev.eq_17, ev.eq_18, ev.eq_19, ev_lc, evAnd, evOr, evCh, evR, evC, evA, evP, evIf, evT, evO, PL.bind, sb, biR, negR, binR, idxR, sliR, metR, cmpR, truthR, callR, iosOf, derefs, putBack, PL.cold, peeks, peek, gets, ofO, retOf, slotOf, setAll, isHot, subAt, recvOk, isMut, isUpd, recvD, dctR, biD, one, ovS, seq?, isInst, PyData.isInt, PyData.isBool, PyData.isTuple, truthD, PyData.truthy, entry, asgT, asgTs, wipeE, backE, it_lst, it_tpl, it_r1, it_r2, it_r3, it_enum, it_zip, rg1, rg2, ints?, intR, setD, retIs_rt, nxIs_nx, retH_rt, nxH_nx, PyData.isList, PyData.isDict, PyData.isStr, List.range, List.range.loop, sz0, sz1, sz2, sz3, sz4, sz5, sz6, sz7, sz8, sz9, sz10, sz11, sz12, E_get, E_set, sU_eq, sU_ne, sU_sU, sU_comm, notHot_E, cl_no, cl_c, ir11, h0, h11, df_law_draw, io_law_draw, e1', m, df_law_low, io_law_low, c]
theorem i12 (hN : BB < N) (hr : Wh r) {a b : Nat} (ha : a < 41) (hb : b < 6) (h1 : f 1 = .c (iN r)) (h12 : f 12 = .c (tupZ (frP ((a : Int) - 20) (b + 1)))) : exec (G7 N) N ir12 (E 15 f) = .nx (E 15 f) := by
  have sm : Sm (frP ((a : Int) - 20) (b + 1)) := sm_fr (by unfold SB; omega) (by omega) (by unfold SB; omega)
  have c := c_rolled (N := N) (n := 7) hN hr sm (low_of ha hb)
  have s2 : Sm (2 * (r : Int), 1) := ⟨by have := hr.b; show (2 * (r : Int)).natAbs ≤ SB; unfold SB; omega, by show 0 < 1; omega, by show 1 ≤ SB; unfold SB; omega⟩
  have c2 : callD dfs N 11 "_law_times" [.tuple [.int (2 * (r : Int)), .int 1], tupZ (frP ((a : Int) - 20) (b + 1))] = _ := c_ltimesZ (n := 9) hN s2 sm
  have q : isE N 11 (tupZ (timesP (2 * (r : Int), 1) (frP ((a : Int) - 20) (b + 1)))) := is_tz (n := 9) _
  unfold isE at q
  have m : binD .Mult (.int 2) (iN r) = some (.val (.int (2 * (r : Int)))) := z_mulr 2 hr.le
  generalize tupZ (timesP (2 * (r : Int), 1) (frP ((a : Int) - 20) (b + 1))) = U at *
  generalize tupZ (frP ((a : Int) - 20) (b + 1)) = T at *
  generalize (2 * (r : Int)) = Z at *
  simp [execs, exec, ev.eq_1, ev.eq_2, ev.eq_3, ev.eq_4, ev.eq_5, ev.eq_6, ev.eq_7, ev.eq_8, ev.eq_9, ev.eq_10, ev.eq_11, ev.eq_12, ev.eq_13, ev.eq_14, ev.eq_15, ev.eq_16, ev.eq_17, ev.eq_18, ev.eq_19, ev_lc, evAnd, evOr, evCh, evR, evC, evA, evP, evIf, evT, evO, PL.bind, sb, biR, negR, binR, idxR, sliR, metR, cmpR, truthR, callR, iosOf, derefs, putBack, PL.cold, peeks, peek, gets, ofO, retOf, slotOf, setAll, isHot, subAt, recvOk, isMut, isUpd, recvD, dctR, biD, one, ovS, seq?, isInst, PyData.isInt, PyData.isBool, PyData.isTuple, truthD, PyData.truthy, entry, asgT, asgTs, wipeE, backE, it_lst, it_tpl, it_r1, it_r2, it_r3, it_enum, it_zip, rg1, rg2, ints?, intR, setD, retIs_rt, nxIs_nx, retH_rt, nxH_nx, PyData.isList, PyData.isDict, PyData.isStr, List.range, List.range.loop, sz0, sz1, sz2, sz3, sz4, sz5, sz6, sz7, sz8, sz9, sz10, sz11, sz12, E_get, E_set, sU_eq, sU_ne, sU_sU, sU_comm, notHot_E, cl_no, cl_c, ir12, h1, h12, df_rolled_far, io_rolled_far, c, m, df_law_times, io_law_times, c2, df_law_is, io_law_is, q]
theorem i13 (hN : BB < N) (hr : Wh r) (hs : Wh s) (h1 : f 1 = .c (iN r)) (h2 : f 2 = .c (iN s)) : exec (G7 N) N ir13 (E 15 f) = .nx (E 15 (sU (sU f 13 (.c (tupZ (frP (r : Int) s)))) 14 (.c (tupZ (frP (-(r : Int)) s))))) := by
  have c0 := c_belt0 (N := N) (n := 7) hN hr hs
  have c1 := c_belt1 (N := N) (n := 7) hN hr hs
  generalize tupZ (frP (r : Int) s) = T at *
  generalize tupZ (frP (-(r : Int)) s) = U at *
  simp [execs, exec, ev.eq_1, ev.eq_2, ev.eq_3, ev.eq_4, ev.eq_5, ev.eq_6, ev.eq_7, ev.eq_8, ev.eq_9, ev.eq_10, ev.eq_11, ev.eq_12, ev.eq_13, ev.eq_14, ev.eq_15, ev.eq_16, ev.eq_17, ev.eq_18, ev.eq_19, ev_lc, evAnd, evOr, evCh, evR, evC, evA, evP, evIf, evT, evO, PL.bind, sb, biR, negR, binR, idxR, sliR, metR, cmpR, truthR, callR, iosOf, derefs, putBack, PL.cold, peeks, peek, gets, ofO, retOf, slotOf, setAll, isHot, subAt, recvOk, isMut, isUpd, recvD, dctR, biD, one, ovS, seq?, isInst, PyData.isInt, PyData.isBool, PyData.isTuple, truthD, PyData.truthy, entry, asgT, asgTs, wipeE, backE, it_lst, it_tpl, it_r1, it_r2, it_r3, it_enum, it_zip, rg1, rg2, ints?, intR, setD, retIs_rt, nxIs_nx, retH_rt, nxH_nx, PyData.isList, PyData.isDict, PyData.isStr, List.range, List.range.loop, sz0, sz1, sz2, sz3, sz4, sz5, sz6, sz7, sz8, sz9, sz10, sz11, sz12, E_get, E_set, sU_eq, sU_ne, sU_sU, sU_comm, notHot_E, cl_no, cl_c, ir13, h1, h2, df_belt_turns, io_belt_turns, c0, c1]
theorem i14 (hN : BB < N) (hr : Wh r) (hs : Wh s) (h1 : f 1 = .c (iN r)) (h2 : f 2 = .c (iN s)) (h13 : f 13 = .c (tupZ (frP (r : Int) s))) (h14 : f 14 = .c (tupZ (frP (-(r : Int)) s))) : exec (G7 N) N ir14 (E 15 f) = .nx (E 15 f) := by
  have c0 : callD dfs N 11 "_law_low" [iN r, iN s] = .ok (.c (tupZ (frP (r : Int) s))) [] := c_lowZ (n := 10) hN (r : Int) hs.a hs.le
  have c1 := c_lowZ (N := N) (n := 10) hN (-(r : Int)) hs.a hs.le
  have q : isE N 11 (.list [tupZ (frP (r : Int) s), tupZ (frP (-(r : Int)) s)]) := is_l2 (n := 10) (is_tz (n := 8) _) (is_tz (n := 8) _)
  unfold isE at q
  have ng := z_neg r
  generalize tupZ (frP (r : Int) s) = T at *
  generalize tupZ (frP (-(r : Int)) s) = U at *
  simp [execs, exec, ev.eq_1, ev.eq_2, ev.eq_3, ev.eq_4, ev.eq_5, ev.eq_6, ev.eq_7, ev.eq_8, ev.eq_9, ev.eq_10, ev.eq_11, ev.eq_12, ev.eq_13, ev.eq_14, ev.eq_15, ev.eq_16, ev.eq_17, ev.eq_18, ev.eq_19, ev_lc, evAnd, evOr, evCh, evR, evC, evA, evP, evIf, evT, evO, PL.bind, sb, biR, negR, binR, idxR, sliR, metR, cmpR, truthR, callR, iosOf, derefs, putBack, PL.cold, peeks, peek, gets, ofO, retOf, slotOf, setAll, isHot, subAt, recvOk, isMut, isUpd, recvD, dctR, biD, one, ovS, seq?, isInst, PyData.isInt, PyData.isBool, PyData.isTuple, truthD, PyData.truthy, entry, asgT, asgTs, wipeE, backE, it_lst, it_tpl, it_r1, it_r2, it_r3, it_enum, it_zip, rg1, rg2, ints?, intR, setD, retIs_rt, nxIs_nx, retH_rt, nxH_nx, PyData.isList, PyData.isDict, PyData.isStr, List.range, List.range.loop, sz0, sz1, sz2, sz3, sz4, sz5, sz6, sz7, sz8, sz9, sz10, sz11, sz12, E_get, E_set, sU_eq, sU_ne, sU_sU, sU_comm, notHot_E, cl_no, cl_c, ir14, h1, h2, h13, h14, df_law_low, io_law_low, c0, ng, c1, df_law_is, io_law_is, q]
theorem i15 (hN : BB < N) (hr : Wh r) (hs : Wh s) (h1 : f 1 = .c (iN r)) (h2 : f 2 = .c (iN s)) (h14 : f 14 = .c (tupZ (frP (-(r : Int)) s))) : exec (G7 N) N ir15 (E 15 f) = .rt (.c (.bool true)) (E 15 f) := by
  have c0 := c_belt1 (N := N) (n := 7) hN hs hr
  have c1 := c_ltimesZ (N := N) (n := 9) hN (sm_rs hr hs).2.2.2 (sm_rs hs hr).2.2.2
  rw [(rs_of hr hs).2.1] at c1
  have e : cmpD .Eq (tupZ (1, 1)) (.tuple [.int 1, .int 1]) = some true := by
    have := tz_eq (1, 1) (1, 1)
    rw [decide_eq_true rfl] at this
    exact this
  generalize tupZ (frP (-(r : Int)) s) = T at *
  generalize tupZ (frP (-(s : Int)) r) = U at *
  generalize tupZ (1, 1) = V at *
  simp [execs, exec, ev.eq_1, ev.eq_2, ev.eq_3, ev.eq_4, ev.eq_5, ev.eq_6, ev.eq_7, ev.eq_8, ev.eq_9, ev.eq_10, ev.eq_11, ev.eq_12, ev.eq_13, ev.eq_14, ev.eq_15, ev.eq_16, ev.eq_17, ev.eq_18, ev.eq_19, ev_lc, evAnd, evOr, evCh, evR, evC, evA, evP, evIf, evT, evO, PL.bind, sb, biR, negR, binR, idxR, sliR, metR, cmpR, truthR, callR, iosOf, derefs, putBack, PL.cold, peeks, peek, gets, ofO, retOf, slotOf, setAll, isHot, subAt, recvOk, isMut, isUpd, recvD, dctR, biD, one, ovS, seq?, isInst, PyData.isInt, PyData.isBool, PyData.isTuple, truthD, PyData.truthy, entry, asgT, asgTs, wipeE, backE, it_lst, it_tpl, it_r1, it_r2, it_r3, it_enum, it_zip, rg1, rg2, ints?, intR, setD, retIs_rt, nxIs_nx, retH_rt, nxH_nx, PyData.isList, PyData.isDict, PyData.isStr, List.range, List.range.loop, sz0, sz1, sz2, sz3, sz4, sz5, sz6, sz7, sz8, sz9, sz10, sz11, sz12, E_get, E_set, sU_eq, sU_ne, sU_sU, sU_comm, notHot_E, cl_no, cl_c, ir15, h1, h2, h14, df_belt_turns, io_belt_turns, c0, df_law_times, io_law_times, c1, e]
end
end PL.L

set_option autoImplicit false
set_option linter.all false
set_option Elab.async false
set_option maxRecDepth 100000
set_option maxHeartbeats 2000000
/-! R10: _law_is_right. -/
namespace PL.L
open PySem PL
section
variable {N : Nat}
theorem i3' (hN : BB < N) {f : Nat → Slot} {r s : Nat} (hr : Wh r) (hs : Wh s) (h1 : f 1 = .c (iN r)) (h2 : f 2 = .c (iN s)) (h3 : f 3 = .c (tupZ (frP (s : Int) r))) : ∃ g, (∀ i, i ≠ 4 → g i = f i) ∧ exec (G7 N) N ir3 (E 15 f) = .nx (E 15 g) := by
  obtain ⟨x, h⟩ := i3 (N := N) hN hr hs h1 h2 h3
  rcases h with ⟨_, e⟩ | e
  · exact ⟨_, fun i hi => sU_ne hi, e⟩
  · exact ⟨f, fun _ _ => rfl, e⟩
def f0 (d : PyData) : Nat → Slot := fun i => if i = 0 then .h true d else .no
theorem c_right (hN : BB < N) {d : PyData} (hk : HandOk d) : ∃ d', HandOk d' ∧ callD dfs N 12 "_law_is_right" [d] = .ok (.c (.bool true)) [d'] := by
  obtain ⟨r, s, d1, hr, hs, k1, e0⟩ := i0 (N := N) (f := f0 d) rfl hk
  generalize hf1 : sU (sU (sU (f0 d) 0 (.h true d1)) 1 (.c (iN r))) 2 (.c (iN s)) = f1 at e0
  have a1 : f1 1 = .c (iN r) := by rw [← hf1]; rfl
  have a2 : f1 2 = .c (iN s) := by rw [← hf1]; rfl
  have e1 := i1 (N := N) hN hr hs a1 a2
  generalize hf2 : sU f1 3 (.c (tupZ (frP (s : Int) r))) = f2 at e1
  have b1 : f2 1 = .c (iN r) := by rw [← hf2]; exact a1
  have b2 : f2 2 = .c (iN s) := by rw [← hf2]; exact a2
  have b3 : f2 3 = .c (tupZ (frP (s : Int) r)) := by rw [← hf2]; rfl
  have e2 := i2 (N := N) hN hr hs b1 b2 b3
  obtain ⟨f3, keep, e3⟩ := i3' (N := N) hN hr hs b1 b2 b3
  have c1 : f3 1 = .c (iN r) := by rw [keep 1 (by omega)]; exact b1
  have c2 : f3 2 = .c (iN s) := by rw [keep 2 (by omega)]; exact b2
  have c0 : f3 0 = .h true d1 := by rw [keep 0 (by omega), ← hf2, ← hf1]; rfl
  have c10 : cl (f3 10) = true := by rw [keep 10 (by omega), ← hf2, ← hf1]; rfl
  clear keep hf1 hf2
  have e4 := i4 (N := N) (f := f3) hr hs c1 c2
  generalize hf4 : sU (sU f3 5 (.c (iN (r / Nat.gcd r s)))) 6 (.c (iN (s / Nat.gcd r s))) = f4 at e4
  have g1 : f4 1 = .c (iN r) := by rw [← hf4]; exact c1
  have g2 : f4 2 = .c (iN s) := by rw [← hf4]; exact c2
  have g0 : f4 0 = .h true d1 := by rw [← hf4]; exact c0
  have g10 : cl (f4 10) = true := by rw [← hf4]; exact c10
  have e5 := i5 (N := N) (f := f4) hN hr hs g1 g2 (by rw [← hf4]; rfl) (by rw [← hf4]; rfl)
  clear hf4
  obtain ⟨ws, d2, hw, k2, e6⟩ := i6 (N := N) (f := f4) g0 g10 k1
  obtain ⟨w0, _, hw0, at0⟩ := hw.head
  generalize hf6 : sU (sU f4 0 (.h true d2)) 7 (.c (.tuple (ws.map iN))) = f6 at e6
  have e7 := i7 (N := N) (f := f6)
  generalize hf7 : sU f6 8 (.h false (.list [])) = f7 at e7
  have j7 : f7 7 = .c (.tuple (ws.map iN)) := by rw [← hf7, ← hf6]; rfl
  have j1 : f7 1 = .c (iN r) := by rw [← hf7, ← hf6]; exact g1
  have j2 : f7 2 = .c (iN s) := by rw [← hf7, ← hf6]; exact g2
  have j0 : f7 0 = .h true d2 := by rw [← hf7, ← hf6]; rfl
  obtain ⟨x, y, _, _, e8⟩ := i8 (N := N) (f := f7) hN hw at0 hw0 j7 (by rw [← hf7]; rfl)
  clear hf6 hf7
  generalize hf8 : sU (sU (sU f7 8 (.h false (.list (ch w0 ws)))) 9 x) 10 y = f8 at e8
  have l7 : f8 7 = .c (.tuple (ws.map iN)) := by rw [← hf8]; exact j7
  have l8 : f8 8 = .h false (.list (ch w0 ws)) := by rw [← hf8]; rfl
  have l1 : f8 1 = .c (iN r) := by rw [← hf8]; exact j1
  have l2 : f8 2 = .c (iN s) := by rw [← hf8]; exact j2
  have l0 : f8 0 = .h true d2 := by rw [← hf8]; exact j0
  have e9 := i9 (N := N) (f := f8) hN hw at0 hw0 l7 l8
  obtain ⟨b, d3, hb, k3, e10⟩ := i10 (N := N) (f := f8) l0 k2
  generalize hfA : sU (sU f8 0 (.h true d3)) 11 (.c (iN (b + 1))) = fA at e10
  obtain ⟨a, d4, ha, k4, e11⟩ := i11 (N := N) (f := fA) hN (by rw [← hfA]; rfl) k3 hb (by rw [← hfA]; rfl)
  generalize hfB : sU (sU fA 0 (.h true d4)) 12 (.c (tupZ (frP ((a : Int) - 20) (b + 1)))) = fB at e11
  have m1 : fB 1 = .c (iN r) := by rw [← hfB, ← hfA]; exact l1
  have m2 : fB 2 = .c (iN s) := by rw [← hfB, ← hfA]; exact l2
  have m0 : fB 0 = .h true d4 := by rw [← hfB]; rfl
  have e12 := i12 (N := N) (f := fB) hN hr ha hb m1 (by rw [← hfB]; rfl)
  have e13 := i13 (N := N) (f := fB) hN hr hs m1 m2
  generalize hfC : sU (sU fB 13 (.c (tupZ (frP (r : Int) s)))) 14 (.c (tupZ (frP (-(r : Int)) s))) = fC at e13
  have n1 : fC 1 = .c (iN r) := by rw [← hfC]; exact m1
  have n2 : fC 2 = .c (iN s) := by rw [← hfC]; exact m2
  have n14 : fC 14 = .c (tupZ (frP (-(r : Int)) s)) := by rw [← hfC]; rfl
  have e14 := i14 (N := N) (f := fC) hN hr hs n1 n2 (by rw [← hfC]; rfl) n14
  have e15 := i15 (N := N) (f := fC) hN hr hs n1 n2 n14
  have n0 : fC 0 = .h true d4 := by rw [← hfC]; exact m0
  refine ⟨d4, k4, callD_retH (D := d_law_is_right) rfl rfl rfl ?_⟩
  have en : entry d_law_is_right [d] = E 15 (f0 d) := rfl
  have bd : d_law_is_right.body = b_law_is_right := rfl
  rw [en, bd, ir_all]
  refine rH_seq e0 (rH_seq e1 (rH_seq e2 (rH_seq e3 (rH_seq e4 (rH_seq e5 (rH_seq e6 (rH_seq e7 (rH_seq e8 (rH_seq e9 (rH_seq e10 (rH_seq e11 (rH_seq e12 (rH_seq e13 (rH_seq e14 ?_))))))))))))))
  rw [execs_rt e15]
  have cons : E 15 fC = fC 0 :: (List.range' 1 14).map fC := rfl
  rw [cons, n0, retH_rt]
  exact ⟨rfl, rfl⟩
end
end PL.L

set_option autoImplicit false
set_option linter.all false
set_option Elab.async false
set_option maxRecDepth 100000
set_option maxHeartbeats 2000000
/-! R11: what is refused. -/
namespace PL.L
open PySem PL
abbrev NN : Nat := 1000000000001
def excB : CRes → Str → Bool
  | .exc c os, d => c == d && os.isEmpty
  | _, _ => false
theorem excB_ok {r : CRes} {c : Str} (h : excB r c = true) : r = .exc c [] := by
  cases r with
  | exc d os =>
    unfold excB at h
    rw [Bool.and_eq_true] at h
    have e := eq_of_beq h.1
    have e2 := List.isEmpty_iff.mp h.2
    rw [e, e2]
  | ok r os => cases h
  | stuck => cases h
def odds : List PyData := [.int 0, .int 61, .int (-1), .none, .bool true, .str "1", .tuple [.int 1], .list [.int 1], .dict [], .int 1000000000000000000000000000000]
def kinds : List PyData := [.none, .int 0, .str "", .str "Inside", .str "in", .list [.str "inside"], .tuple [.str "inside"], .dict [], .bool true]
def ones7 : PyData := .tuple [.int 1, .int 1, .int 1, .int 1, .int 1, .int 1, .int 1]
def wheels0 : List PyData := [.none, .int 0, .tuple [], .tuple [.int 1], .list [.int 1, .int 2], .tuple [.int 0, .int 1], .tuple [.int 61, .int 1], .tuple [.bool true, .int 1], .tuple [.int 1, .none], ones7, .str "12", .dict []]
def T1 (d : PyData) : PyData := .tuple [d]
def L1 (d : PyData) : PyData := .list [d]
def deepV : PyData := L1 (L1 (L1 (L1 (L1 (L1 (L1 (T1 (T1 (T1 (T1 (T1 (.str "-"))))))))))))
def turnsL : List PyData := [.none, .int 1, .tuple [.int 2, .int 4], .tuple [.int 1, .int 0], .list [.int 1, .int 2], .tuple [.bool true, .int 1], .str "12", .dict [], .tuple [.int 1], .tuple [.int 1, .int (-2)]]
def flagsL' : List PyData := [.none, .int 2, .int (-1), .str "0", .tuple [.int 0], .list [.int 0], .dict []]
def rf (f : Str) (ds : List PyData) (c : Str) : Bool := excB (callD dfs NN 11 f ds) c
theorem tOdd : (odds.all fun o => rf "around" [o, .int 1, .str "outside"] "NoNumber" && rf "around" [.int 1, o, .str "outside"] "NoNumber" && rf "till_home" [o, .int 1] "NoNumber" && rf "till_home" [.int 1, o] "NoNumber" && rf "touches" [o, .int 1] "NoNumber" && rf "touches" [.int 1, o] "NoNumber") = true := by decide +kernel
theorem tKind : (kinds.all fun o => rf "around" [.int 3, .int 5, o] "NoKind") = true := by decide +kernel
theorem tWheels : ((wheels0 ++ [deepV]).all fun o => rf "chain_of" [o] "NoWheels") = true := by decide +kernel
theorem tTurns : (turnsL.all fun o => rf "rolled_far" [.int 3, o] "NoTurns") = true := by decide +kernel
theorem tFlag : (flagsL'.all fun o => rf "belt_turns" [.int 3, .int 5, o] "NoFlag") = true := by decide +kernel
end PL.L

set_option autoImplicit false
set_option linter.all false
set_option Elab.async false
set_option maxRecDepth 100000
set_option maxHeartbeats 4000000
/-! R12: _law_is_refused. -/
namespace PL.L
open PySem PL
section
variable {f : Nat → Slot} {d o : PyData}
abbrev GN : PL.Ctx := ⟨dfs, callD dfs NN 11⟩
theorem some_of {d : PyData} (hk : HandOk d) (xs : List PyData) (h1 : 1 ≤ xs.length) (h2 : xs.length ≤ 1000) : ∃ x d', x ∈ xs ∧ HandOk d' ∧ callD dfs NN 11 "_law_some" [d, .list xs] = .ok (.c x) [d'] := by
  obtain ⟨x, d', hx, k, e⟩ := c_someG (N := NN) (defs := dfs) drw (f := "_law_some") rfl hk xs h1 h2 (.list xs) (.inl rfl)
  exact ⟨x, d', hx, k, e 9⟩
theorem pw30 : binD .Pow (.int 10) (.int 30) = some (.val (.int 1000000000000000000000000000000)) := by simp [binD, small]
theorem mul7 : binD .Mult (.tuple [.int 1]) (.int 7) = some (.val ones7) := by simp [binD, rep, ones7, List.replicate]
theorem c_deep : callD dfs NN 11 "_law_deep" [.int 12] = .ok (.c deepV) [] := by
  refine callD_ret0 (n := 10) (D := d_law_deep) rfl rfl rfl ?_
  have rg : range1 0 12 1 = some [.int 0, .int 1, .int 2, .int 3, .int 4, .int 5, .int 6, .int 7, .int 8, .int 9, .int 10, .int 11] := rfl
  simp [execs, exec, ev.eq_1, ev.eq_2, ev.eq_3, ev.eq_4, ev.eq_5, ev.eq_6, ev.eq_7, ev.eq_8, ev.eq_9, ev.eq_10, ev.eq_11, ev.eq_12, ev.eq_13, ev.eq_14, ev.eq_15, ev.eq_16, ev.eq_17, ev.eq_18, ev.eq_19, ev_lc, evAnd, evOr, evCh, evR, evC, evA, evP, evIf, evT, evO, PL.bind, sb, biR, negR, binR, idxR, sliR, metR, cmpR, truthR, callR, iosOf, derefs, putBack, PL.cold, peeks, peek, gets, ofO, retOf, slotOf, setAll, isHot, subAt, recvOk, isMut, isUpd, recvD, dctR, biD, one, ovS, seq?, isInst, PyData.isInt, PyData.isBool, PyData.isTuple, truthD, PyData.truthy, entry, asgT, asgTs, wipeE, notHot, backE, it_lst, it_tpl, it_r1, it_r2, it_r3, it_enum, it_zip, rg1, rg2, ints?, intR, setD, retIs_rt, nxIs_nx, retH_rt, nxH_nx, PyData.isList, PyData.isDict, PyData.isStr, List.range, List.range.loop, sz0, sz1, sz2, sz3, sz4, sz5, sz6, sz7, sz8, sz9, sz10, sz11, sz12, d_law_deep, b_law_deep, rg, forL, cmp_lt, deepV, T1, L1]
theorem add_w : binD .Add (.list wheels0) (.list [deepV]) = some (.fresh (.list (wheels0 ++ [deepV]))) := rfl
theorem j0 (h0 : f 0 = .h true d) (hk : HandOk d) : ∃ o d', o ∈ odds ∧ HandOk d' ∧ exec GN NN re0 (E 7 f) = .nx (E 7 (sU (sU f 0 (.h true d')) 1 (.c o))) := by
  obtain ⟨o, d1, ho, k1, e⟩ := some_of hk odds (by decide) (by decide)
  refine ⟨o, d1, ho, k1, ?_⟩
  unfold odds at e
  simp [execs, exec, ev.eq_1, ev.eq_2, ev.eq_3, ev.eq_4, ev.eq_5, ev.eq_6, ev.eq_7, ev.eq_8, ev.eq_9, ev.eq_10, ev.eq_11, ev.eq_12, ev.eq_13, ev.eq_14, ev.eq_15, ev.eq_16, ev.eq_17, ev.eq_18, ev.eq_19, ev_lc, evAnd, evOr, evCh, evR, evC, evA, evP, evIf, evT, evO, PL.bind, sb, biR, negR, binR, idxR, sliR, metR, cmpR, truthR, callR, iosOf, derefs, putBack, PL.cold, peeks, peek, gets, ofO, retOf, slotOf, setAll, isHot, subAt, recvOk, isMut, isUpd, recvD, dctR, biD, one, ovS, seq?, isInst, PyData.isInt, PyData.isBool, PyData.isTuple, truthD, PyData.truthy, entry, asgT, asgTs, wipeE, backE, it_lst, it_tpl, it_r1, it_r2, it_r3, it_enum, it_zip, rg1, rg2, ints?, intR, setD, retIs_rt, nxIs_nx, retH_rt, nxH_nx, PyData.isList, PyData.isDict, PyData.isStr, List.range, List.range.loop, sz0, sz1, sz2, sz3, sz4, sz5, sz6, sz7, sz8, sz9, sz10, sz11, sz12, E_get, E_set, sU_eq, sU_ne, sU_sU, sU_comm, notHot_E, cl_no, cl_c, re0, h0, df_law_some, io_law_some, e, pw30]
theorem j1 (h0 : f 0 = .h true d) (hk : HandOk d) : ∃ o d', o ∈ kinds ∧ HandOk d' ∧ exec GN NN re1 (E 7 f) = .nx (E 7 (sU (sU f 0 (.h true d')) 2 (.c o))) := by
  obtain ⟨o, d1, ho, k1, e⟩ := some_of hk kinds (by decide) (by decide)
  refine ⟨o, d1, ho, k1, ?_⟩
  unfold kinds at e
  simp [execs, exec, ev.eq_1, ev.eq_2, ev.eq_3, ev.eq_4, ev.eq_5, ev.eq_6, ev.eq_7, ev.eq_8, ev.eq_9, ev.eq_10, ev.eq_11, ev.eq_12, ev.eq_13, ev.eq_14, ev.eq_15, ev.eq_16, ev.eq_17, ev.eq_18, ev.eq_19, ev_lc, evAnd, evOr, evCh, evR, evC, evA, evP, evIf, evT, evO, PL.bind, sb, biR, negR, binR, idxR, sliR, metR, cmpR, truthR, callR, iosOf, derefs, putBack, PL.cold, peeks, peek, gets, ofO, retOf, slotOf, setAll, isHot, subAt, recvOk, isMut, isUpd, recvD, dctR, biD, one, ovS, seq?, isInst, PyData.isInt, PyData.isBool, PyData.isTuple, truthD, PyData.truthy, entry, asgT, asgTs, wipeE, backE, it_lst, it_tpl, it_r1, it_r2, it_r3, it_enum, it_zip, rg1, rg2, ints?, intR, setD, retIs_rt, nxIs_nx, retH_rt, nxH_nx, PyData.isList, PyData.isDict, PyData.isStr, List.range, List.range.loop, sz0, sz1, sz2, sz3, sz4, sz5, sz6, sz7, sz8, sz9, sz10, sz11, sz12, E_get, E_set, sU_eq, sU_ne, sU_sU, sU_comm, notHot_E, cl_no, cl_c, re1, h0, df_law_some, io_law_some, e]
theorem j2 : exec GN NN re2 (E 7 f) = .nx (E 7 (sU f 3 (.c (.list wheels0)))) := by
  unfold wheels0
  simp [execs, exec, ev.eq_1, ev.eq_2, ev.eq_3, ev.eq_4, ev.eq_5, ev.eq_6, ev.eq_7, ev.eq_8, ev.eq_9, ev.eq_10, ev.eq_11, ev.eq_12, ev.eq_13, ev.eq_14, ev.eq_15, ev.eq_16, ev.eq_17, ev.eq_18, ev.eq_19, ev_lc, evAnd, evOr, evCh, evR, evC, evA, evP, evIf, evT, evO, PL.bind, sb, biR, negR, binR, idxR, sliR, metR, cmpR, truthR, callR, iosOf, derefs, putBack, PL.cold, peeks, peek, gets, ofO, retOf, slotOf, setAll, isHot, subAt, recvOk, isMut, isUpd, recvD, dctR, biD, one, ovS, seq?, isInst, PyData.isInt, PyData.isBool, PyData.isTuple, truthD, PyData.truthy, entry, asgT, asgTs, wipeE, backE, it_lst, it_tpl, it_r1, it_r2, it_r3, it_enum, it_zip, rg1, rg2, ints?, intR, setD, retIs_rt, nxIs_nx, retH_rt, nxH_nx, PyData.isList, PyData.isDict, PyData.isStr, List.range, List.range.loop, sz0, sz1, sz2, sz3, sz4, sz5, sz6, sz7, sz8, sz9, sz10, sz11, sz12, E_get, E_set, sU_eq, sU_ne, sU_sU, sU_comm, notHot_E, cl_no, cl_c, re2, mul7]
theorem j3 (h3 : f 3 = .c (.list wheels0)) : exec GN NN re3 (E 7 f) = .nx (E 7 (sU f 3 (.c (.list (wheels0 ++ [deepV]))))) := by
  have a := add_w
  have c := c_deep
  generalize PyData.list (wheels0 ++ [deepV]) = W at *
  generalize PyData.list wheels0 = V at *
  simp [execs, exec, ev.eq_1, ev.eq_2, ev.eq_3, ev.eq_4, ev.eq_5, ev.eq_6, ev.eq_7, ev.eq_8, ev.eq_9, ev.eq_10, ev.eq_11, ev.eq_12, ev.eq_13, ev.eq_14, ev.eq_15, ev.eq_16, ev.eq_17, ev.eq_18, ev.eq_19, ev_lc, evAnd, evOr, evCh, evR, evC, evA, evP, evIf, evT, evO, PL.bind, sb, biR, negR, binR, idxR, sliR, metR, cmpR, truthR, callR, iosOf, derefs, putBack, PL.cold, peeks, peek, gets, ofO, retOf, slotOf, setAll, isHot, subAt, recvOk, isMut, isUpd, recvD, dctR, biD, one, ovS, seq?, isInst, PyData.isInt, PyData.isBool, PyData.isTuple, truthD, PyData.truthy, entry, asgT, asgTs, wipeE, backE, it_lst, it_tpl, it_r1, it_r2, it_r3, it_enum, it_zip, rg1, rg2, ints?, intR, setD, retIs_rt, nxIs_nx, retH_rt, nxH_nx, PyData.isList, PyData.isDict, PyData.isStr, List.range, List.range.loop, sz0, sz1, sz2, sz3, sz4, sz5, sz6, sz7, sz8, sz9, sz10, sz11, sz12, E_get, E_set, sU_eq, sU_ne, sU_sU, sU_comm, notHot_E, cl_no, cl_c, re3, h3, df_law_deep, io_law_deep, c, a]
theorem j4 (h0 : f 0 = .h true d) (hk : HandOk d) (h3 : f 3 = .c (.list (wheels0 ++ [deepV]))) : ∃ o d', o ∈ wheels0 ++ [deepV] ∧ HandOk d' ∧ exec GN NN re4 (E 7 f) = .nx (E 7 (sU (sU f 0 (.h true d')) 3 (.c o))) := by
  obtain ⟨o, d1, ho, k1, e⟩ := some_of hk (wheels0 ++ [deepV]) (by decide) (by decide)
  refine ⟨o, d1, ho, k1, ?_⟩
  generalize PyData.list (wheels0 ++ [deepV]) = W at *
  simp [execs, exec, ev.eq_1, ev.eq_2, ev.eq_3, ev.eq_4, ev.eq_5, ev.eq_6, ev.eq_7, ev.eq_8, ev.eq_9, ev.eq_10, ev.eq_11, ev.eq_12, ev.eq_13, ev.eq_14, ev.eq_15, ev.eq_16, ev.eq_17, ev.eq_18, ev.eq_19, ev_lc, evAnd, evOr, evCh, evR, evC, evA, evP, evIf, evT, evO, PL.bind, sb, biR, negR, binR, idxR, sliR, metR, cmpR, truthR, callR, iosOf, derefs, putBack, PL.cold, peeks, peek, gets, ofO, retOf, slotOf, setAll, isHot, subAt, recvOk, isMut, isUpd, recvD, dctR, biD, one, ovS, seq?, isInst, PyData.isInt, PyData.isBool, PyData.isTuple, truthD, PyData.truthy, entry, asgT, asgTs, wipeE, backE, it_lst, it_tpl, it_r1, it_r2, it_r3, it_enum, it_zip, rg1, rg2, ints?, intR, setD, retIs_rt, nxIs_nx, retH_rt, nxH_nx, PyData.isList, PyData.isDict, PyData.isStr, List.range, List.range.loop, sz0, sz1, sz2, sz3, sz4, sz5, sz6, sz7, sz8, sz9, sz10, sz11, sz12, E_get, E_set, sU_eq, sU_ne, sU_sU, sU_comm, notHot_E, cl_no, cl_c, re4, h0, h3, df_law_some, io_law_some, e]
theorem j5 (h0 : f 0 = .h true d) (hk : HandOk d) : ∃ o d', o ∈ turnsL ∧ HandOk d' ∧ exec GN NN re5 (E 7 f) = .nx (E 7 (sU (sU f 0 (.h true d')) 4 (.c o))) := by
  obtain ⟨o, d1, ho, k1, e⟩ := some_of hk turnsL (by decide) (by decide)
  refine ⟨o, d1, ho, k1, ?_⟩
  unfold turnsL at e
  simp [execs, exec, ev.eq_1, ev.eq_2, ev.eq_3, ev.eq_4, ev.eq_5, ev.eq_6, ev.eq_7, ev.eq_8, ev.eq_9, ev.eq_10, ev.eq_11, ev.eq_12, ev.eq_13, ev.eq_14, ev.eq_15, ev.eq_16, ev.eq_17, ev.eq_18, ev.eq_19, ev_lc, evAnd, evOr, evCh, evR, evC, evA, evP, evIf, evT, evO, PL.bind, sb, biR, negR, binR, idxR, sliR, metR, cmpR, truthR, callR, iosOf, derefs, putBack, PL.cold, peeks, peek, gets, ofO, retOf, slotOf, setAll, isHot, subAt, recvOk, isMut, isUpd, recvD, dctR, biD, one, ovS, seq?, isInst, PyData.isInt, PyData.isBool, PyData.isTuple, truthD, PyData.truthy, entry, asgT, asgTs, wipeE, backE, it_lst, it_tpl, it_r1, it_r2, it_r3, it_enum, it_zip, rg1, rg2, ints?, intR, setD, retIs_rt, nxIs_nx, retH_rt, nxH_nx, PyData.isList, PyData.isDict, PyData.isStr, List.range, List.range.loop, sz0, sz1, sz2, sz3, sz4, sz5, sz6, sz7, sz8, sz9, sz10, sz11, sz12, E_get, E_set, sU_eq, sU_ne, sU_sU, sU_comm, notHot_E, cl_no, cl_c, re5, h0, df_law_some, io_law_some, e]
theorem j6 (h0 : f 0 = .h true d) (hk : HandOk d) : ∃ o d', o ∈ flagsL' ∧ HandOk d' ∧ exec GN NN re6 (E 7 f) = .nx (E 7 (sU (sU f 0 (.h true d')) 5 (.c o))) := by
  obtain ⟨o, d1, ho, k1, e⟩ := some_of hk flagsL' (by decide) (by decide)
  refine ⟨o, d1, ho, k1, ?_⟩
  unfold flagsL' at e
  simp [execs, exec, ev.eq_1, ev.eq_2, ev.eq_3, ev.eq_4, ev.eq_5, ev.eq_6, ev.eq_7, ev.eq_8, ev.eq_9, ev.eq_10, ev.eq_11, ev.eq_12, ev.eq_13, ev.eq_14, ev.eq_15, ev.eq_16, ev.eq_17, ev.eq_18, ev.eq_19, ev_lc, evAnd, evOr, evCh, evR, evC, evA, evP, evIf, evT, evO, PL.bind, sb, biR, negR, binR, idxR, sliR, metR, cmpR, truthR, callR, iosOf, derefs, putBack, PL.cold, peeks, peek, gets, ofO, retOf, slotOf, setAll, isHot, subAt, recvOk, isMut, isUpd, recvD, dctR, biD, one, ovS, seq?, isInst, PyData.isInt, PyData.isBool, PyData.isTuple, truthD, PyData.truthy, entry, asgT, asgTs, wipeE, backE, it_lst, it_tpl, it_r1, it_r2, it_r3, it_enum, it_zip, rg1, rg2, ints?, intR, setD, retIs_rt, nxIs_nx, retH_rt, nxH_nx, PyData.isList, PyData.isDict, PyData.isStr, List.range, List.range.loop, sz0, sz1, sz2, sz3, sz4, sz5, sz6, sz7, sz8, sz9, sz10, sz11, sz12, E_get, E_set, sU_eq, sU_ne, sU_sU, sU_comm, notHot_E, cl_no, cl_c, re6, h0, df_law_some, io_law_some, e]
theorem j7 (h1 : f 1 = .c o) (ho : o ∈ odds) : exec GN NN re7 (E 7 f) = .nx (E 7 (sU f 6 (.h false (.list [.tuple [.int 0]])))) := by
  have t := List.all_eq_true.mp tOdd o ho
  simp only [Bool.and_eq_true] at t
  have q : callD dfs NN 11 "around" [o, .int 1, .str "outside"] = .exc "NoNumber" [] := excB_ok t.1.1.1.1.1
  have sh : shW.cls.lookup ("NoNumber" : Str) = some (.tuple [.int 0]) := rfl
  simp [execs, exec, ev.eq_1, ev.eq_2, ev.eq_3, ev.eq_4, ev.eq_5, ev.eq_6, ev.eq_7, ev.eq_8, ev.eq_9, ev.eq_10, ev.eq_11, ev.eq_12, ev.eq_13, ev.eq_14, ev.eq_15, ev.eq_16, ev.eq_17, ev.eq_18, ev.eq_19, ev_lc, evAnd, evOr, evCh, evR, evC, evA, evP, evIf, evT, evO, PL.bind, sb, biR, negR, binR, idxR, sliR, metR, cmpR, truthR, callR, iosOf, derefs, putBack, PL.cold, peeks, peek, gets, ofO, retOf, slotOf, setAll, isHot, subAt, recvOk, isMut, isUpd, recvD, dctR, biD, one, ovS, seq?, isInst, PyData.isInt, PyData.isBool, PyData.isTuple, truthD, PyData.truthy, entry, asgT, asgTs, wipeE, backE, it_lst, it_tpl, it_r1, it_r2, it_r3, it_enum, it_zip, rg1, rg2, ints?, intR, setD, retIs_rt, nxIs_nx, retH_rt, nxH_nx, PyData.isList, PyData.isDict, PyData.isStr, List.range, List.range.loop, sz0, sz1, sz2, sz3, sz4, sz5, sz6, sz7, sz8, sz9, sz10, sz11, sz12, E_get, E_set, sU_eq, sU_ne, sU_sU, sU_comm, notHot_E, cl_no, cl_c, re7, h1, df_around, io_around, q, ev.eq_20, toldR, sh]
theorem j8 {L : List PyData} (hl : L.length ≤ 100) (h6 : f 6 = .h false (.list L)) (h1 : f 1 = .c o) (ho : o ∈ odds) : exec GN NN re8 (E 7 f) = .nx (E 7 (sU f 6 (.h false (.list (L ++ [.tuple [.int 0]]))))) := by
  have t := List.all_eq_true.mp tOdd o ho
  simp only [Bool.and_eq_true] at t
  have q : callD dfs NN 11 "around" [.int 1, o, .str "outside"] = .exc "NoNumber" [] := excB_ok t.1.1.1.1.2
  have sh : shW.cls.lookup ("NoNumber" : Str) = some (.tuple [.int 0]) := rfl
  have ap : ∀ x, metM .append (.list L) [x] = some (.none, .list (L ++ [x])) := fun x => by
    have z : szOk L.length = true := zw _ (by omega)
    simp only [metM, z, if_true]
  simp [execs, exec, ev.eq_1, ev.eq_2, ev.eq_3, ev.eq_4, ev.eq_5, ev.eq_6, ev.eq_7, ev.eq_8, ev.eq_9, ev.eq_10, ev.eq_11, ev.eq_12, ev.eq_13, ev.eq_14, ev.eq_15, ev.eq_16, ev.eq_17, ev.eq_18, ev.eq_19, ev_lc, evAnd, evOr, evCh, evR, evC, evA, evP, evIf, evT, evO, PL.bind, sb, biR, negR, binR, idxR, sliR, metR, cmpR, truthR, callR, iosOf, derefs, putBack, PL.cold, peeks, peek, gets, ofO, retOf, slotOf, setAll, isHot, subAt, recvOk, isMut, isUpd, recvD, dctR, biD, one, ovS, seq?, isInst, PyData.isInt, PyData.isBool, PyData.isTuple, truthD, PyData.truthy, entry, asgT, asgTs, wipeE, backE, it_lst, it_tpl, it_r1, it_r2, it_r3, it_enum, it_zip, rg1, rg2, ints?, intR, setD, retIs_rt, nxIs_nx, retH_rt, nxH_nx, PyData.isList, PyData.isDict, PyData.isStr, List.range, List.range.loop, sz0, sz1, sz2, sz3, sz4, sz5, sz6, sz7, sz8, sz9, sz10, sz11, sz12, E_get, E_set, sU_eq, sU_ne, sU_sU, sU_comm, notHot_E, cl_no, cl_c, re8, h1, h6, df_around, io_around, q, ev.eq_20, toldR, sh, ap]
theorem j9 {L : List PyData} (hl : L.length ≤ 100) (h6 : f 6 = .h false (.list L)) (h1 : f 2 = .c o) (ho : o ∈ kinds) : exec GN NN re9 (E 7 f) = .nx (E 7 (sU f 6 (.h false (.list (L ++ [.tuple [.int 1]]))))) := by
  have q : callD dfs NN 11 "around" [.int 3, .int 5, o] = .exc "NoKind" [] := excB_ok (List.all_eq_true.mp tKind o ho)
  have sh : shW.cls.lookup ("NoKind" : Str) = some (.tuple [.int 1]) := rfl
  have ap : ∀ x, metM .append (.list L) [x] = some (.none, .list (L ++ [x])) := fun x => by
    have z : szOk L.length = true := zw _ (by omega)
    simp only [metM, z, if_true]
  simp [execs, exec, ev.eq_1, ev.eq_2, ev.eq_3, ev.eq_4, ev.eq_5, ev.eq_6, ev.eq_7, ev.eq_8, ev.eq_9, ev.eq_10, ev.eq_11, ev.eq_12, ev.eq_13, ev.eq_14, ev.eq_15, ev.eq_16, ev.eq_17, ev.eq_18, ev.eq_19, ev_lc, evAnd, evOr, evCh, evR, evC, evA, evP, evIf, evT, evO, PL.bind, sb, biR, negR, binR, idxR, sliR, metR, cmpR, truthR, callR, iosOf, derefs, putBack, PL.cold, peeks, peek, gets, ofO, retOf, slotOf, setAll, isHot, subAt, recvOk, isMut, isUpd, recvD, dctR, biD, one, ovS, seq?, isInst, PyData.isInt, PyData.isBool, PyData.isTuple, truthD, PyData.truthy, entry, asgT, asgTs, wipeE, backE, it_lst, it_tpl, it_r1, it_r2, it_r3, it_enum, it_zip, rg1, rg2, ints?, intR, setD, retIs_rt, nxIs_nx, retH_rt, nxH_nx, PyData.isList, PyData.isDict, PyData.isStr, List.range, List.range.loop, sz0, sz1, sz2, sz3, sz4, sz5, sz6, sz7, sz8, sz9, sz10, sz11, sz12, E_get, E_set, sU_eq, sU_ne, sU_sU, sU_comm, notHot_E, cl_no, cl_c, re9, h1, h6, df_around, io_around, q, ev.eq_20, toldR, sh, ap]
theorem j10 {L : List PyData} (hl : L.length ≤ 100) (h6 : f 6 = .h false (.list L)) (h1 : f 1 = .c o) (ho : o ∈ odds) : exec GN NN re10 (E 7 f) = .nx (E 7 (sU f 6 (.h false (.list (L ++ [.tuple [.int 0]]))))) := by
  have t := List.all_eq_true.mp tOdd o ho
  simp only [Bool.and_eq_true] at t
  have q : callD dfs NN 11 "till_home" [o, .int 1] = .exc "NoNumber" [] := excB_ok t.1.1.1.2
  have sh : shW.cls.lookup ("NoNumber" : Str) = some (.tuple [.int 0]) := rfl
  have ap : ∀ x, metM .append (.list L) [x] = some (.none, .list (L ++ [x])) := fun x => by
    have z : szOk L.length = true := zw _ (by omega)
    simp only [metM, z, if_true]
  simp [execs, exec, ev.eq_1, ev.eq_2, ev.eq_3, ev.eq_4, ev.eq_5, ev.eq_6, ev.eq_7, ev.eq_8, ev.eq_9, ev.eq_10, ev.eq_11, ev.eq_12, ev.eq_13, ev.eq_14, ev.eq_15, ev.eq_16, ev.eq_17, ev.eq_18, ev.eq_19, ev_lc, evAnd, evOr, evCh, evR, evC, evA, evP, evIf, evT, evO, PL.bind, sb, biR, negR, binR, idxR, sliR, metR, cmpR, truthR, callR, iosOf, derefs, putBack, PL.cold, peeks, peek, gets, ofO, retOf, slotOf, setAll, isHot, subAt, recvOk, isMut, isUpd, recvD, dctR, biD, one, ovS, seq?, isInst, PyData.isInt, PyData.isBool, PyData.isTuple, truthD, PyData.truthy, entry, asgT, asgTs, wipeE, backE, it_lst, it_tpl, it_r1, it_r2, it_r3, it_enum, it_zip, rg1, rg2, ints?, intR, setD, retIs_rt, nxIs_nx, retH_rt, nxH_nx, PyData.isList, PyData.isDict, PyData.isStr, List.range, List.range.loop, sz0, sz1, sz2, sz3, sz4, sz5, sz6, sz7, sz8, sz9, sz10, sz11, sz12, E_get, E_set, sU_eq, sU_ne, sU_sU, sU_comm, notHot_E, cl_no, cl_c, re10, h1, h6, df_till_home, io_till_home, q, ev.eq_20, toldR, sh, ap]
theorem j11 {L : List PyData} (hl : L.length ≤ 100) (h6 : f 6 = .h false (.list L)) (h1 : f 1 = .c o) (ho : o ∈ odds) : exec GN NN re11 (E 7 f) = .nx (E 7 (sU f 6 (.h false (.list (L ++ [.tuple [.int 0]]))))) := by
  have t := List.all_eq_true.mp tOdd o ho
  simp only [Bool.and_eq_true] at t
  have q : callD dfs NN 11 "till_home" [.int 1, o] = .exc "NoNumber" [] := excB_ok t.1.1.2
  have sh : shW.cls.lookup ("NoNumber" : Str) = some (.tuple [.int 0]) := rfl
  have ap : ∀ x, metM .append (.list L) [x] = some (.none, .list (L ++ [x])) := fun x => by
    have z : szOk L.length = true := zw _ (by omega)
    simp only [metM, z, if_true]
  simp [execs, exec, ev.eq_1, ev.eq_2, ev.eq_3, ev.eq_4, ev.eq_5, ev.eq_6, ev.eq_7, ev.eq_8, ev.eq_9, ev.eq_10, ev.eq_11, ev.eq_12, ev.eq_13, ev.eq_14, ev.eq_15, ev.eq_16, ev.eq_17, ev.eq_18, ev.eq_19, ev_lc, evAnd, evOr, evCh, evR, evC, evA, evP, evIf, evT, evO, PL.bind, sb, biR, negR, binR, idxR, sliR, metR, cmpR, truthR, callR, iosOf, derefs, putBack, PL.cold, peeks, peek, gets, ofO, retOf, slotOf, setAll, isHot, subAt, recvOk, isMut, isUpd, recvD, dctR, biD, one, ovS, seq?, isInst, PyData.isInt, PyData.isBool, PyData.isTuple, truthD, PyData.truthy, entry, asgT, asgTs, wipeE, backE, it_lst, it_tpl, it_r1, it_r2, it_r3, it_enum, it_zip, rg1, rg2, ints?, intR, setD, retIs_rt, nxIs_nx, retH_rt, nxH_nx, PyData.isList, PyData.isDict, PyData.isStr, List.range, List.range.loop, sz0, sz1, sz2, sz3, sz4, sz5, sz6, sz7, sz8, sz9, sz10, sz11, sz12, E_get, E_set, sU_eq, sU_ne, sU_sU, sU_comm, notHot_E, cl_no, cl_c, re11, h1, h6, df_till_home, io_till_home, q, ev.eq_20, toldR, sh, ap]
theorem j12 {L : List PyData} (hl : L.length ≤ 100) (h6 : f 6 = .h false (.list L)) (h1 : f 1 = .c o) (ho : o ∈ odds) : exec GN NN re12 (E 7 f) = .nx (E 7 (sU f 6 (.h false (.list (L ++ [.tuple [.int 0]]))))) := by
  have t := List.all_eq_true.mp tOdd o ho
  simp only [Bool.and_eq_true] at t
  have q : callD dfs NN 11 "touches" [o, .int 1] = .exc "NoNumber" [] := excB_ok t.1.2
  have sh : shW.cls.lookup ("NoNumber" : Str) = some (.tuple [.int 0]) := rfl
  have ap : ∀ x, metM .append (.list L) [x] = some (.none, .list (L ++ [x])) := fun x => by
    have z : szOk L.length = true := zw _ (by omega)
    simp only [metM, z, if_true]
  simp [execs, exec, ev.eq_1, ev.eq_2, ev.eq_3, ev.eq_4, ev.eq_5, ev.eq_6, ev.eq_7, ev.eq_8, ev.eq_9, ev.eq_10, ev.eq_11, ev.eq_12, ev.eq_13, ev.eq_14, ev.eq_15, ev.eq_16, ev.eq_17, ev.eq_18, ev.eq_19, ev_lc, evAnd, evOr, evCh, evR, evC, evA, evP, evIf, evT, evO, PL.bind, sb, biR, negR, binR, idxR, sliR, metR, cmpR, truthR, callR, iosOf, derefs, putBack, PL.cold, peeks, peek, gets, ofO, retOf, slotOf, setAll, isHot, subAt, recvOk, isMut, isUpd, recvD, dctR, biD, one, ovS, seq?, isInst, PyData.isInt, PyData.isBool, PyData.isTuple, truthD, PyData.truthy, entry, asgT, asgTs, wipeE, backE, it_lst, it_tpl, it_r1, it_r2, it_r3, it_enum, it_zip, rg1, rg2, ints?, intR, setD, retIs_rt, nxIs_nx, retH_rt, nxH_nx, PyData.isList, PyData.isDict, PyData.isStr, List.range, List.range.loop, sz0, sz1, sz2, sz3, sz4, sz5, sz6, sz7, sz8, sz9, sz10, sz11, sz12, E_get, E_set, sU_eq, sU_ne, sU_sU, sU_comm, notHot_E, cl_no, cl_c, re12, h1, h6, df_touches, io_touches, q, ev.eq_20, toldR, sh, ap]
theorem j13 {L : List PyData} (hl : L.length ≤ 100) (h6 : f 6 = .h false (.list L)) (h1 : f 1 = .c o) (ho : o ∈ odds) : exec GN NN re13 (E 7 f) = .nx (E 7 (sU f 6 (.h false (.list (L ++ [.tuple [.int 0]]))))) := by
  have t := List.all_eq_true.mp tOdd o ho
  simp only [Bool.and_eq_true] at t
  have q : callD dfs NN 11 "touches" [.int 1, o] = .exc "NoNumber" [] := excB_ok t.2
  have sh : shW.cls.lookup ("NoNumber" : Str) = some (.tuple [.int 0]) := rfl
  have ap : ∀ x, metM .append (.list L) [x] = some (.none, .list (L ++ [x])) := fun x => by
    have z : szOk L.length = true := zw _ (by omega)
    simp only [metM, z, if_true]
  simp [execs, exec, ev.eq_1, ev.eq_2, ev.eq_3, ev.eq_4, ev.eq_5, ev.eq_6, ev.eq_7, ev.eq_8, ev.eq_9, ev.eq_10, ev.eq_11, ev.eq_12, ev.eq_13, ev.eq_14, ev.eq_15, ev.eq_16, ev.eq_17, ev.eq_18, ev.eq_19, ev_lc, evAnd, evOr, evCh, evR, evC, evA, evP, evIf, evT, evO, PL.bind, sb, biR, negR, binR, idxR, sliR, metR, cmpR, truthR, callR, iosOf, derefs, putBack, PL.cold, peeks, peek, gets, ofO, retOf, slotOf, setAll, isHot, subAt, recvOk, isMut, isUpd, recvD, dctR, biD, one, ovS, seq?, isInst, PyData.isInt, PyData.isBool, PyData.isTuple, truthD, PyData.truthy, entry, asgT, asgTs, wipeE, backE, it_lst, it_tpl, it_r1, it_r2, it_r3, it_enum, it_zip, rg1, rg2, ints?, intR, setD, retIs_rt, nxIs_nx, retH_rt, nxH_nx, PyData.isList, PyData.isDict, PyData.isStr, List.range, List.range.loop, sz0, sz1, sz2, sz3, sz4, sz5, sz6, sz7, sz8, sz9, sz10, sz11, sz12, E_get, E_set, sU_eq, sU_ne, sU_sU, sU_comm, notHot_E, cl_no, cl_c, re13, h1, h6, df_touches, io_touches, q, ev.eq_20, toldR, sh, ap]
theorem j14 {L : List PyData} (hl : L.length ≤ 100) (h6 : f 6 = .h false (.list L)) (h1 : f 3 = .c o) (ho : o ∈ (wheels0 ++ [deepV])) : exec GN NN re14 (E 7 f) = .nx (E 7 (sU f 6 (.h false (.list (L ++ [.tuple [.int 2]]))))) := by
  have q : callD dfs NN 11 "chain_of" [o] = .exc "NoWheels" [] := excB_ok (List.all_eq_true.mp tWheels o ho)
  have sh : shW.cls.lookup ("NoWheels" : Str) = some (.tuple [.int 2]) := rfl
  have ap : ∀ x, metM .append (.list L) [x] = some (.none, .list (L ++ [x])) := fun x => by
    have z : szOk L.length = true := zw _ (by omega)
    simp only [metM, z, if_true]
  simp [execs, exec, ev.eq_1, ev.eq_2, ev.eq_3, ev.eq_4, ev.eq_5, ev.eq_6, ev.eq_7, ev.eq_8, ev.eq_9, ev.eq_10, ev.eq_11, ev.eq_12, ev.eq_13, ev.eq_14, ev.eq_15, ev.eq_16, ev.eq_17, ev.eq_18, ev.eq_19, ev_lc, evAnd, evOr, evCh, evR, evC, evA, evP, evIf, evT, evO, PL.bind, sb, biR, negR, binR, idxR, sliR, metR, cmpR, truthR, callR, iosOf, derefs, putBack, PL.cold, peeks, peek, gets, ofO, retOf, slotOf, setAll, isHot, subAt, recvOk, isMut, isUpd, recvD, dctR, biD, one, ovS, seq?, isInst, PyData.isInt, PyData.isBool, PyData.isTuple, truthD, PyData.truthy, entry, asgT, asgTs, wipeE, backE, it_lst, it_tpl, it_r1, it_r2, it_r3, it_enum, it_zip, rg1, rg2, ints?, intR, setD, retIs_rt, nxIs_nx, retH_rt, nxH_nx, PyData.isList, PyData.isDict, PyData.isStr, List.range, List.range.loop, sz0, sz1, sz2, sz3, sz4, sz5, sz6, sz7, sz8, sz9, sz10, sz11, sz12, E_get, E_set, sU_eq, sU_ne, sU_sU, sU_comm, notHot_E, cl_no, cl_c, re14, h1, h6, df_chain_of, io_chain_of, q, ev.eq_20, toldR, sh, ap]
theorem j15 {L : List PyData} (hl : L.length ≤ 100) (h6 : f 6 = .h false (.list L)) (h1 : f 4 = .c o) (ho : o ∈ turnsL) : exec GN NN re15 (E 7 f) = .nx (E 7 (sU f 6 (.h false (.list (L ++ [.tuple [.int 3]]))))) := by
  have q : callD dfs NN 11 "rolled_far" [.int 3, o] = .exc "NoTurns" [] := excB_ok (List.all_eq_true.mp tTurns o ho)
  have sh : shW.cls.lookup ("NoTurns" : Str) = some (.tuple [.int 3]) := rfl
  have ap : ∀ x, metM .append (.list L) [x] = some (.none, .list (L ++ [x])) := fun x => by
    have z : szOk L.length = true := zw _ (by omega)
    simp only [metM, z, if_true]
  simp [execs, exec, ev.eq_1, ev.eq_2, ev.eq_3, ev.eq_4, ev.eq_5, ev.eq_6, ev.eq_7, ev.eq_8, ev.eq_9, ev.eq_10, ev.eq_11, ev.eq_12, ev.eq_13, ev.eq_14, ev.eq_15, ev.eq_16, ev.eq_17, ev.eq_18, ev.eq_19, ev_lc, evAnd, evOr, evCh, evR, evC, evA, evP, evIf, evT, evO, PL.bind, sb, biR, negR, binR, idxR, sliR, metR, cmpR, truthR, callR, iosOf, derefs, putBack, PL.cold, peeks, peek, gets, ofO, retOf, slotOf, setAll, isHot, subAt, recvOk, isMut, isUpd, recvD, dctR, biD, one, ovS, seq?, isInst, PyData.isInt, PyData.isBool, PyData.isTuple, truthD, PyData.truthy, entry, asgT, asgTs, wipeE, backE, it_lst, it_tpl, it_r1, it_r2, it_r3, it_enum, it_zip, rg1, rg2, ints?, intR, setD, retIs_rt, nxIs_nx, retH_rt, nxH_nx, PyData.isList, PyData.isDict, PyData.isStr, List.range, List.range.loop, sz0, sz1, sz2, sz3, sz4, sz5, sz6, sz7, sz8, sz9, sz10, sz11, sz12, E_get, E_set, sU_eq, sU_ne, sU_sU, sU_comm, notHot_E, cl_no, cl_c, re15, h1, h6, df_rolled_far, io_rolled_far, q, ev.eq_20, toldR, sh, ap]
theorem j16 {L : List PyData} (hl : L.length ≤ 100) (h6 : f 6 = .h false (.list L)) (h1 : f 5 = .c o) (ho : o ∈ flagsL') : exec GN NN re16 (E 7 f) = .nx (E 7 (sU f 6 (.h false (.list (L ++ [.tuple [.int 4]]))))) := by
  have q : callD dfs NN 11 "belt_turns" [.int 3, .int 5, o] = .exc "NoFlag" [] := excB_ok (List.all_eq_true.mp tFlag o ho)
  have sh : shW.cls.lookup ("NoFlag" : Str) = some (.tuple [.int 4]) := rfl
  have ap : ∀ x, metM .append (.list L) [x] = some (.none, .list (L ++ [x])) := fun x => by
    have z : szOk L.length = true := zw _ (by omega)
    simp only [metM, z, if_true]
  simp [execs, exec, ev.eq_1, ev.eq_2, ev.eq_3, ev.eq_4, ev.eq_5, ev.eq_6, ev.eq_7, ev.eq_8, ev.eq_9, ev.eq_10, ev.eq_11, ev.eq_12, ev.eq_13, ev.eq_14, ev.eq_15, ev.eq_16, ev.eq_17, ev.eq_18, ev.eq_19, ev_lc, evAnd, evOr, evCh, evR, evC, evA, evP, evIf, evT, evO, PL.bind, sb, biR, negR, binR, idxR, sliR, metR, cmpR, truthR, callR, iosOf, derefs, putBack, PL.cold, peeks, peek, gets, ofO, retOf, slotOf, setAll, isHot, subAt, recvOk, isMut, isUpd, recvD, dctR, biD, one, ovS, seq?, isInst, PyData.isInt, PyData.isBool, PyData.isTuple, truthD, PyData.truthy, entry, asgT, asgTs, wipeE, backE, it_lst, it_tpl, it_r1, it_r2, it_r3, it_enum, it_zip, rg1, rg2, ints?, intR, setD, retIs_rt, nxIs_nx, retH_rt, nxH_nx, PyData.isList, PyData.isDict, PyData.isStr, List.range, List.range.loop, sz0, sz1, sz2, sz3, sz4, sz5, sz6, sz7, sz8, sz9, sz10, sz11, sz12, E_get, E_set, sU_eq, sU_ne, sU_sU, sU_comm, notHot_E, cl_no, cl_c, re16, h1, h6, df_belt_turns, io_belt_turns, q, ev.eq_20, toldR, sh, ap]
theorem j17 (h6 : f 6 = .h false (.list [.tuple [.int 0], .tuple [.int 0], .tuple [.int 1], .tuple [.int 0], .tuple [.int 0], .tuple [.int 0], .tuple [.int 0], .tuple [.int 2], .tuple [.int 3], .tuple [.int 4]])) : exec GN NN re17 (E 7 f) = .rt (.c (.bool true)) (E 7 f) := by
  have e : cmpD .Eq (.list [.tuple [.int 0], .tuple [.int 0], .tuple [.int 1], .tuple [.int 0], .tuple [.int 0], .tuple [.int 0], .tuple [.int 0], .tuple [.int 2], .tuple [.int 3], .tuple [.int 4]]) (.list [.tuple [.int 0], .tuple [.int 0], .tuple [.int 1], .tuple [.int 0], .tuple [.int 0], .tuple [.int 0], .tuple [.int 0], .tuple [.int 2], .tuple [.int 3], .tuple [.int 4]]) = some true := by decide +kernel
  simp [execs, exec, ev.eq_1, ev.eq_2, ev.eq_3, ev.eq_4, ev.eq_5, ev.eq_6, ev.eq_7, ev.eq_8, ev.eq_9, ev.eq_10, ev.eq_11, ev.eq_12, ev.eq_13, ev.eq_14, ev.eq_15, ev.eq_16, ev.eq_17, ev.eq_18, ev.eq_19, ev_lc, evAnd, evOr, evCh, evR, evC, evA, evP, evIf, evT, evO, PL.bind, sb, biR, negR, binR, idxR, sliR, metR, cmpR, truthR, callR, iosOf, derefs, putBack, PL.cold, peeks, peek, gets, ofO, retOf, slotOf, setAll, isHot, subAt, recvOk, isMut, isUpd, recvD, dctR, biD, one, ovS, seq?, isInst, PyData.isInt, PyData.isBool, PyData.isTuple, truthD, PyData.truthy, entry, asgT, asgTs, wipeE, backE, it_lst, it_tpl, it_r1, it_r2, it_r3, it_enum, it_zip, rg1, rg2, ints?, intR, setD, retIs_rt, nxIs_nx, retH_rt, nxH_nx, PyData.isList, PyData.isDict, PyData.isStr, List.range, List.range.loop, sz0, sz1, sz2, sz3, sz4, sz5, sz6, sz7, sz8, sz9, sz10, sz11, sz12, E_get, E_set, sU_eq, sU_ne, sU_sU, sU_comm, notHot_E, cl_no, cl_c, re17, h6, e]
end
end PL.L

set_option autoImplicit false
set_option linter.all false
set_option Elab.async false
set_option maxRecDepth 100000
set_option maxHeartbeats 4000000
/-! R13: the law. -/
namespace PL.L
open PySem PL
theorem c_refused {d : PyData} (hk : HandOk d) : ∃ d', HandOk d' ∧ callD dfs NN 12 "_law_is_refused" [d] = .ok (.c (.bool true)) [d'] := by
  obtain ⟨o, d1, ho, k1, e0⟩ := j0 (f := f0 d) rfl hk
  generalize hf1 : sU (sU (f0 d) 0 (.h true d1)) 1 (.c o) = f1 at e0
  obtain ⟨kd, d2, hkd, k2, e1⟩ := j1 (f := f1) (by rw [← hf1]; rfl) k1
  generalize hf2 : sU (sU f1 0 (.h true d2)) 2 (.c kd) = f2 at e1
  have e2 := j2 (f := f2)
  generalize hf3 : sU f2 3 (.c (.list wheels0)) = f3 at e2
  have e3 := j3 (f := f3) (by rw [← hf3]; rfl)
  generalize hf4 : sU f3 3 (.c (.list (wheels0 ++ [deepV]))) = f4 at e3
  obtain ⟨w, d3, hw, k3, e4⟩ := j4 (f := f4) (d := d2) (by rw [← hf4, ← hf3, ← hf2]; rfl) k2 (by rw [← hf4]; rfl)
  generalize hf5 : sU (sU f4 0 (.h true d3)) 3 (.c w) = f5 at e4
  obtain ⟨t, d4, ht, k4, e5⟩ := j5 (f := f5) (d := d3) (by rw [← hf5]; rfl) k3
  generalize hf6 : sU (sU f5 0 (.h true d4)) 4 (.c t) = f6 at e5
  obtain ⟨fl, d5, hfl, k5, e6⟩ := j6 (f := f6) (d := d4) (by rw [← hf6]; rfl) k4
  generalize hf7 : sU (sU f6 0 (.h true d5)) 5 (.c fl) = f7 at e6
  have a0 : f7 0 = .h true d5 := by rw [← hf7]; rfl
  have a1 : f7 1 = .c o := by rw [← hf7, ← hf6, ← hf5, ← hf4, ← hf3, ← hf2, ← hf1]; rfl
  have a2 : f7 2 = .c kd := by rw [← hf7, ← hf6, ← hf5, ← hf4, ← hf3, ← hf2]; rfl
  have a3 : f7 3 = .c w := by rw [← hf7, ← hf6, ← hf5]; rfl
  have a4 : f7 4 = .c t := by rw [← hf7, ← hf6]; rfl
  have a5 : f7 5 = .c fl := by rw [← hf7]; rfl
  clear hf1 hf2 hf3 hf4 hf5 hf6 hf7
  have W : ∀ (L : List PyData) (i : Nat), i ≠ 6 → (sU f7 6 (.h false (.list L))) i = f7 i := fun L i hi => sU_ne hi
  have S : ∀ (L M : List PyData), sU (sU f7 6 (.h false (.list L))) 6 (.h false (.list M)) = sU f7 6 (.h false (.list M)) := fun L M => sU_sU _ _ _ _
  have g6 : ∀ L : List PyData, (sU f7 6 (.h false (.list L))) 6 = .h false (.list L) := fun L => sU_eq _ _ _
  have e7 := j7 (f := f7) a1 ho
  have e8 := j8 (f := sU f7 6 (.h false (.list [.tuple [.int 0]]))) (L := [.tuple [.int 0]]) (by decide) (g6 _) (by rw [W _ 1 (by omega)]; exact a1) ho
  rw [S] at e8
  have e9 := j9 (f := sU f7 6 (.h false (.list ([.tuple [.int 0]] ++ [.tuple [.int 0]])))) (L := [.tuple [.int 0]] ++ [.tuple [.int 0]]) (by decide) (g6 _) (by rw [W _ 2 (by omega)]; exact a2) hkd
  rw [S] at e9
  have e10 := j10 (f := sU f7 6 (.h false (.list ([.tuple [.int 0]] ++ [.tuple [.int 0]] ++ [.tuple [.int 1]])))) (by decide) (g6 _) (by rw [W _ 1 (by omega)]; exact a1) ho
  rw [S] at e10
  have e11 := j11 (f := sU f7 6 (.h false (.list ([.tuple [.int 0]] ++ [.tuple [.int 0]] ++ [.tuple [.int 1]] ++ [.tuple [.int 0]])))) (by decide) (g6 _) (by rw [W _ 1 (by omega)]; exact a1) ho
  rw [S] at e11
  have e12 := j12 (f := sU f7 6 (.h false (.list ([.tuple [.int 0]] ++ [.tuple [.int 0]] ++ [.tuple [.int 1]] ++ [.tuple [.int 0]] ++ [.tuple [.int 0]])))) (by decide) (g6 _) (by rw [W _ 1 (by omega)]; exact a1) ho
  rw [S] at e12
  have e13 := j13 (f := sU f7 6 (.h false (.list ([.tuple [.int 0]] ++ [.tuple [.int 0]] ++ [.tuple [.int 1]] ++ [.tuple [.int 0]] ++ [.tuple [.int 0]] ++ [.tuple [.int 0]])))) (by decide) (g6 _) (by rw [W _ 1 (by omega)]; exact a1) ho
  rw [S] at e13
  have e14 := j14 (f := sU f7 6 (.h false (.list ([.tuple [.int 0]] ++ [.tuple [.int 0]] ++ [.tuple [.int 1]] ++ [.tuple [.int 0]] ++ [.tuple [.int 0]] ++ [.tuple [.int 0]] ++ [.tuple [.int 0]])))) (by decide) (g6 _) (by rw [W _ 3 (by omega)]; exact a3) hw
  rw [S] at e14
  have e15 := j15 (f := sU f7 6 (.h false (.list ([.tuple [.int 0]] ++ [.tuple [.int 0]] ++ [.tuple [.int 1]] ++ [.tuple [.int 0]] ++ [.tuple [.int 0]] ++ [.tuple [.int 0]] ++ [.tuple [.int 0]] ++ [.tuple [.int 2]])))) (by decide) (g6 _) (by rw [W _ 4 (by omega)]; exact a4) ht
  rw [S] at e15
  have e16 := j16 (f := sU f7 6 (.h false (.list ([.tuple [.int 0]] ++ [.tuple [.int 0]] ++ [.tuple [.int 1]] ++ [.tuple [.int 0]] ++ [.tuple [.int 0]] ++ [.tuple [.int 0]] ++ [.tuple [.int 0]] ++ [.tuple [.int 2]] ++ [.tuple [.int 3]])))) (by decide) (g6 _) (by rw [W _ 5 (by omega)]; exact a5) hfl
  rw [S] at e16
  have e17 := j17 (f := sU f7 6 (.h false (.list ([.tuple [.int 0]] ++ [.tuple [.int 0]] ++ [.tuple [.int 1]] ++ [.tuple [.int 0]] ++ [.tuple [.int 0]] ++ [.tuple [.int 0]] ++ [.tuple [.int 0]] ++ [.tuple [.int 2]] ++ [.tuple [.int 3]] ++ [.tuple [.int 4]])))) (g6 _)
  refine ⟨d5, k5, callD_retH (D := d_law_is_refused) rfl rfl rfl ?_⟩
  have en : entry d_law_is_refused [d] = E 7 (f0 d) := rfl
  have bd : d_law_is_refused.body = b_law_is_refused := rfl
  rw [en, bd, re_all]
  refine rH_seq e0 (rH_seq e1 (rH_seq e2 (rH_seq e3 (rH_seq e4 (rH_seq e5 (rH_seq e6 (rH_seq e7 (rH_seq e8 (rH_seq e9 (rH_seq e10 (rH_seq e11 (rH_seq e12 (rH_seq e13 (rH_seq e14 (rH_seq e15 (rH_seq e16 ?_))))))))))))))))
  rw [execs_rt e17]
  have cons : ∀ g : Nat → Slot, E 7 g = g 0 :: (List.range' 1 6).map g := fun _ => rfl
  rw [cons, sU_ne (by omega), a0, retH_rt]
  exact ⟨rfl, rfl⟩
theorem q1 : callD dfs NN 12 "around" [.int 1, .int 1, .str "outside"] = .ok (.c (.tuple [.int 2, .int 1])) [] := isOk_eq (by decide +kernel)
theorem q2 : callD dfs NN 12 "around" [.int 1, .int 3, .str "inside"] = .ok (.c (.tuple [.int 2, .int 1])) [] := isOk_eq (by decide +kernel)
theorem q3 : callD dfs NN 12 "till_home" [.int 2, .int 3] = .ok (.c (.int 2)) [] := isOk_eq (by decide +kernel)
theorem q4 : callD dfs NN 12 "touches" [.int 2, .int 3] = .ok (.c (.int 3)) [] := isOk_eq (by decide +kernel)
theorem q5 : callD dfs NN 12 "chain_of" [.tuple [.int 2, .int 4, .int 1]] = .ok (.c (.tuple [.tuple [.int 1, .int 1], .tuple [.int (-1), .int 2], .tuple [.int 2, .int 1]])) [] := isOk_eq (by decide +kernel)
theorem q6 : callD dfs NN 12 "rolled_far" [.int 3, .tuple [.int 1, .int 2]] = .ok (.c (.tuple [.int 3, .int 1])) [] := isOk_eq (by decide +kernel)
theorem q7 : callD dfs NN 12 "till_home" [.int 3, .int 6] = .ok (.c (.int 1)) [] := isOk_eq (by decide +kernel)
theorem n1' : cmpD .NotEq (.tuple [.int 2, .int 1]) (.tuple [.int 2, .int 1]) = some false := by decide +kernel
theorem n2' : cmpD .NotEq (.tuple [.int 3, .int 1]) (.tuple [.int 3, .int 1]) = some false := by decide +kernel
theorem n3' : cmpD .NotEq (.tuple [.tuple [.int 1, .int 1], .tuple [.int (-1), .int 2], .tuple [.int 2, .int 1]]) (.tuple [.tuple [.int 1, .int 1], .tuple [.int (-1), .int 2], .tuple [.int 2, .int 1]]) = some false := by decide +kernel
theorem pure87 (d : PyData) (hk : HandOk d) : ∃ ρ', execs ⟨dfs, callD dfs NN 12⟩ NN b_law [.no, .h false d, .no] = .rt (.c (.bool true)) ρ' := by
  obtain ⟨ys, d2, ly, hy, k2, e2⟩ := lcL_draw (fun d => [.no, .h false d, .no]) (fun y => y = .bool true) (g := fun c : Nat => PyData.int (c : Int)) (l := upto 6)
    (step := stepF (.nm 2) (evIf ⟨dfs, callD dfs NN 12⟩ []) (ev ⟨dfs, callD dfs NN 12⟩ (.band [(.call "_law_is_right" [(.var 1)]), (.call "_law_is_refused" [(.var 1)])])) [2]) (fun x hx d hd => by
      obtain ⟨d', k', e⟩ := c_right (N := NN) (by decide) hd
      obtain ⟨d'', k'', e'⟩ := c_refused k'
      refine ⟨.bool true, d'', rfl, k'', ?_⟩
      simp [execs, exec, ev.eq_1, ev.eq_2, ev.eq_3, ev.eq_4, ev.eq_5, ev.eq_6, ev.eq_7, ev.eq_8, ev.eq_9, ev.eq_10, ev.eq_11, ev.eq_12, ev.eq_13, ev.eq_14, ev.eq_15, ev.eq_16, ev.eq_17, ev.eq_18, ev.eq_19, ev_lc, evAnd, evOr, evCh, evR, evC, evA, evP, evIf, evT, evO, PL.bind, sb, biR, negR, binR, idxR, sliR, metR, cmpR, truthR, callR, iosOf, derefs, putBack, PL.cold, peeks, peek, gets, ofO, retOf, slotOf, setAll, isHot, subAt, recvOk, isMut, isUpd, recvD, dctR, biD, one, ovS, seq?, isInst, PyData.isInt, PyData.isBool, PyData.isTuple, truthD, PyData.truthy, entry, asgT, asgTs, wipeE, notHot, backE, it_lst, it_tpl, it_r1, it_r2, it_r3, it_enum, it_zip, rg1, rg2, ints?, intR, setD, retIs_rt, nxIs_nx, retH_rt, nxH_nx, PyData.isList, PyData.isDict, PyData.isStr, List.range, List.range.loop, sz0, sz1, sz2, sz3, sz4, sz5, sz6, sz7, sz8, sz9, sz10, sz11, sz12, stepF, df_law_is_right, io_law_is_right, e, df_law_is_refused, io_law_is_refused, e']) (d := d) (acc := []) hk (by rw [upto_len, List.length_nil]; omega)
  rw [List.nil_append] at e2
  have it : itemsD .r1 [.int 6] = some ((upto 6).map fun (c : Nat) => PyData.int (c : Int)) := it_r1n (k := 6) (by omega)
  have al : allL ys = some (.val (.bool true)) := by
    have := allL_true (l := ys) (f := fun y => y) hy
    rw [List.map_id'] at this
    exact this
  have q1 := q1
  have q2 := q2
  refine ⟨[.no, .h false d2, .no], ?_⟩
  generalize ((upto 6).map fun (c : Nat) => PyData.int (c : Int)) = IT at *
  unfold b_law
  refine execs_seq (ρ1 := [.no, .h false d, .no]) (by simp [execs, exec, ev.eq_1, ev.eq_2, ev.eq_3, ev.eq_4, ev.eq_5, ev.eq_6, ev.eq_7, ev.eq_8, ev.eq_9, ev.eq_10, ev.eq_11, ev.eq_12, ev.eq_13, ev.eq_14, ev.eq_15, ev.eq_16, ev.eq_17, ev.eq_18, ev.eq_19, ev_lc, evAnd, evOr, evCh, evR, evC, evA, evP, evIf, evT, evO, PL.bind, sb, biR, negR, binR, idxR, sliR, metR, cmpR, truthR, callR, iosOf, derefs, putBack, PL.cold, peeks, peek, gets, ofO, retOf, slotOf, setAll, isHot, subAt, recvOk, isMut, isUpd, recvD, dctR, biD, one, ovS, seq?, isInst, PyData.isInt, PyData.isBool, PyData.isTuple, truthD, PyData.truthy, entry, asgT, asgTs, wipeE, notHot, backE, it_lst, it_tpl, it_r1, it_r2, it_r3, it_enum, it_zip, rg1, rg2, ints?, intR, setD, retIs_rt, nxIs_nx, retH_rt, nxH_nx, PyData.isList, PyData.isDict, PyData.isStr, List.range, List.range.loop, sz0, sz1, sz2, sz3, sz4, sz5, sz6, sz7, sz8, sz9, sz10, sz11, sz12, df_around, io_around, q1, q2, n1', df_till_home, io_till_home, q3, cmp_ne]) ?_
  refine execs_seq (ρ1 := [.no, .h false d, .no]) (by simp [execs, exec, ev.eq_1, ev.eq_2, ev.eq_3, ev.eq_4, ev.eq_5, ev.eq_6, ev.eq_7, ev.eq_8, ev.eq_9, ev.eq_10, ev.eq_11, ev.eq_12, ev.eq_13, ev.eq_14, ev.eq_15, ev.eq_16, ev.eq_17, ev.eq_18, ev.eq_19, ev_lc, evAnd, evOr, evCh, evR, evC, evA, evP, evIf, evT, evO, PL.bind, sb, biR, negR, binR, idxR, sliR, metR, cmpR, truthR, callR, iosOf, derefs, putBack, PL.cold, peeks, peek, gets, ofO, retOf, slotOf, setAll, isHot, subAt, recvOk, isMut, isUpd, recvD, dctR, biD, one, ovS, seq?, isInst, PyData.isInt, PyData.isBool, PyData.isTuple, truthD, PyData.truthy, entry, asgT, asgTs, wipeE, notHot, backE, it_lst, it_tpl, it_r1, it_r2, it_r3, it_enum, it_zip, rg1, rg2, ints?, intR, setD, retIs_rt, nxIs_nx, retH_rt, nxH_nx, PyData.isList, PyData.isDict, PyData.isStr, List.range, List.range.loop, sz0, sz1, sz2, sz3, sz4, sz5, sz6, sz7, sz8, sz9, sz10, sz11, sz12, df_touches, io_touches, q4, cmp_ne]) ?_
  refine execs_seq (ρ1 := [.no, .h false d, .no]) (by simp [execs, exec, ev.eq_1, ev.eq_2, ev.eq_3, ev.eq_4, ev.eq_5, ev.eq_6, ev.eq_7, ev.eq_8, ev.eq_9, ev.eq_10, ev.eq_11, ev.eq_12, ev.eq_13, ev.eq_14, ev.eq_15, ev.eq_16, ev.eq_17, ev.eq_18, ev.eq_19, ev_lc, evAnd, evOr, evCh, evR, evC, evA, evP, evIf, evT, evO, PL.bind, sb, biR, negR, binR, idxR, sliR, metR, cmpR, truthR, callR, iosOf, derefs, putBack, PL.cold, peeks, peek, gets, ofO, retOf, slotOf, setAll, isHot, subAt, recvOk, isMut, isUpd, recvD, dctR, biD, one, ovS, seq?, isInst, PyData.isInt, PyData.isBool, PyData.isTuple, truthD, PyData.truthy, entry, asgT, asgTs, wipeE, notHot, backE, it_lst, it_tpl, it_r1, it_r2, it_r3, it_enum, it_zip, rg1, rg2, ints?, intR, setD, retIs_rt, nxIs_nx, retH_rt, nxH_nx, PyData.isList, PyData.isDict, PyData.isStr, List.range, List.range.loop, sz0, sz1, sz2, sz3, sz4, sz5, sz6, sz7, sz8, sz9, sz10, sz11, sz12, df_chain_of, io_chain_of, q5, n3', df_rolled_far, io_rolled_far, q6, n2', df_till_home, io_till_home, q7, cmp_ne]) ?_
  simp [execs, exec, ev.eq_1, ev.eq_2, ev.eq_3, ev.eq_4, ev.eq_5, ev.eq_6, ev.eq_7, ev.eq_8, ev.eq_9, ev.eq_10, ev.eq_11, ev.eq_12, ev.eq_13, ev.eq_14, ev.eq_15, ev.eq_16, ev.eq_17, ev.eq_18, ev.eq_19, ev_lc, evAnd, evOr, evCh, evR, evC, evA, evP, evIf, evT, evO, PL.bind, sb, biR, negR, binR, idxR, sliR, metR, cmpR, truthR, callR, iosOf, derefs, putBack, PL.cold, peeks, peek, gets, ofO, retOf, slotOf, setAll, isHot, subAt, recvOk, isMut, isUpd, recvD, dctR, biD, one, ovS, seq?, isInst, PyData.isInt, PyData.isBool, PyData.isTuple, truthD, PyData.truthy, entry, asgT, asgTs, wipeE, notHot, backE, it_lst, it_tpl, it_r1, it_r2, it_r3, it_enum, it_zip, rg1, rg2, ints?, intR, setD, retIs_rt, nxIs_nx, retH_rt, nxH_nx, PyData.isList, PyData.isDict, PyData.isStr, List.range, List.range.loop, sz0, sz1, sz2, sz3, sz4, sz5, sz6, sz7, sz8, sz9, sz10, sz11, sz12, it] at e2 ⊢
  rw [e2]
  simp [execs, exec, ev.eq_1, ev.eq_2, ev.eq_3, ev.eq_4, ev.eq_5, ev.eq_6, ev.eq_7, ev.eq_8, ev.eq_9, ev.eq_10, ev.eq_11, ev.eq_12, ev.eq_13, ev.eq_14, ev.eq_15, ev.eq_16, ev.eq_17, ev.eq_18, ev.eq_19, ev_lc, evAnd, evOr, evCh, evR, evC, evA, evP, evIf, evT, evO, PL.bind, sb, biR, negR, binR, idxR, sliR, metR, cmpR, truthR, callR, iosOf, derefs, putBack, PL.cold, peeks, peek, gets, ofO, retOf, slotOf, setAll, isHot, subAt, recvOk, isMut, isUpd, recvD, dctR, biD, one, ovS, seq?, isInst, PyData.isInt, PyData.isBool, PyData.isTuple, truthD, PyData.truthy, entry, asgT, asgTs, wipeE, notHot, backE, it_lst, it_tpl, it_r1, it_r2, it_r3, it_enum, it_zip, rg1, rg2, ints?, intR, setD, retIs_rt, nxIs_nx, retH_rt, nxH_nx, PyData.isList, PyData.isDict, PyData.isStr, List.range, List.range.loop, sz0, sz1, sz2, sz3, sz4, sz5, sz6, sz7, sz8, sz9, sz10, sz11, sz12, al]
theorem hr87 (cells : List PyData) (hl : cells.length ≤ 63) : execs ⟨fun _ => none, fun _ _ => .stuck⟩ 0 b_law_hand [.no, .c (.list cells), .no] = .rt (.h false (.list [.list cells, .int 0, .int 0, .int (239 + (cells.length : Int)), .int 0])) [.no, .c (.list cells), .no] := by
  have ln := len_l (xs := cells) (by omega)
  simp [execs, exec, ev.eq_1, ev.eq_2, ev.eq_3, ev.eq_4, ev.eq_5, ev.eq_6, ev.eq_7, ev.eq_8, ev.eq_9, ev.eq_10, ev.eq_11, ev.eq_12, ev.eq_13, ev.eq_14, ev.eq_15, ev.eq_16, ev.eq_17, ev.eq_18, ev.eq_19, ev_lc, evAnd, evOr, evCh, evR, evC, evA, evP, evIf, evT, evO, PL.bind, sb, biR, negR, binR, idxR, sliR, metR, cmpR, truthR, callR, iosOf, derefs, putBack, PL.cold, peeks, peek, gets, ofO, retOf, slotOf, setAll, isHot, subAt, recvOk, isMut, isUpd, recvD, dctR, biD, one, ovS, seq?, isInst, PyData.isInt, PyData.isBool, PyData.isTuple, truthD, PyData.truthy, entry, asgT, asgTs, wipeE, notHot, backE, it_lst, it_tpl, it_r1, it_r2, it_r3, it_enum, it_zip, rg1, rg2, ints?, intR, setD, retIs_rt, nxIs_nx, retH_rt, nxH_nx, PyData.isList, PyData.isDict, PyData.isStr, List.range, List.range.loop, sz0, sz1, sz2, sz3, sz4, sz5, sz6, sz7, sz8, sz9, sz10, sz11, sz12, b_law_hand, ln, z_add]
end PL.L

set_option Elab.async false
set_option linter.all false
set_option maxRecDepth 100000
set_option maxHeartbeats 0
/-! the top's run -/
namespace PL.L
open PySem PySem.Spec PyProof.Rows L2 PL
def topH (i : Nat) : Stmt := PySem.Challenge.pw_fewforces_k87_whole_wheels_that_roll_and.main.body.getD i (.Pass ⟨0, 0, 0, 0⟩)
def dd_is_integer : He.DefD := ⟨("is_integer", none), "is_integer", "is_integer", defArgs (topH 1), defBody (topH 1), defScope (topH 1), [], []⟩
def dd_is_within : He.DefD := ⟨("is_within", none), "is_within", "is_within", defArgs (topH 2), defBody (topH 2), defScope (topH 2), [], []⟩
def dd_is_tuple : He.DefD := ⟨("is_tuple", none), "is_tuple", "is_tuple", defArgs (topH 3), defBody (topH 3), defScope (topH 3), [], []⟩
def dd_divisor : He.DefD := ⟨("divisor", none), "divisor", "divisor", defArgs (topH 12), defBody (topH 12), defScope (topH 12), [], []⟩
def dd_reduced : He.DefD := ⟨("reduced", none), "reduced", "reduced", defArgs (topH 13), defBody (topH 13), defScope (topH 13), [], []⟩
def dd_times : He.DefD := ⟨("times", none), "times", "times", defArgs (topH 14), defBody (topH 14), defScope (topH 14), [], []⟩
def dd_is_fraction : He.DefD := ⟨("is_fraction", none), "is_fraction", "is_fraction", defArgs (topH 15), defBody (topH 15), defScope (topH 15), [], []⟩
def dd_check_wheels : He.DefD := ⟨("check_wheels", none), "check_wheels", "check_wheels", defArgs (topH 19), defBody (topH 19), defScope (topH 19), [], []⟩
def dd_around : He.DefD := ⟨("around", none), "around", "around", defArgs (topH 20), defBody (topH 20), defScope (topH 20), [], []⟩
def dd_till_home : He.DefD := ⟨("till_home", none), "till_home", "till_home", defArgs (topH 21), defBody (topH 21), defScope (topH 21), [], []⟩
def dd_touches : He.DefD := ⟨("touches", none), "touches", "touches", defArgs (topH 22), defBody (topH 22), defScope (topH 22), [], []⟩
def dd_chain_of : He.DefD := ⟨("chain_of", none), "chain_of", "chain_of", defArgs (topH 23), defBody (topH 23), defScope (topH 23), [], []⟩
def dd_rolled_far : He.DefD := ⟨("rolled_far", none), "rolled_far", "rolled_far", defArgs (topH 24), defBody (topH 24), defScope (topH 24), [], []⟩
def dd_belt_turns : He.DefD := ⟨("belt_turns", none), "belt_turns", "belt_turns", defArgs (topH 25), defBody (topH 25), defScope (topH 25), [], []⟩
def dd_law_draw : He.DefD := ⟨("_law_draw", none), "_law_draw", "_law_draw", defArgs (topH 28), defBody (topH 28), defScope (topH 28), [], []⟩
def dd_law_some : He.DefD := ⟨("_law_some", none), "_law_some", "_law_some", defArgs (topH 29), defBody (topH 29), defScope (topH 29), [], []⟩
def dd_law_is : He.DefD := ⟨("_law_is", none), "_law_is", "_law_is", defArgs (topH 30), defBody (topH 30), defScope (topH 30), [], []⟩
def dd_law_deep : He.DefD := ⟨("_law_deep", none), "_law_deep", "_law_deep", defArgs (topH 31), defBody (topH 31), defScope (topH 31), [], []⟩
def dd_law_word : He.DefD := ⟨("_law_word", none), "_law_word", "_law_word", defArgs (topH 32), defBody (topH 32), defScope (topH 32), [], []⟩
def dd_law_low : He.DefD := ⟨("_law_low", none), "_law_low", "_law_low", defArgs (topH 33), defBody (topH 33), defScope (topH 33), [], []⟩
def dd_law_plus : He.DefD := ⟨("_law_plus", none), "_law_plus", "_law_plus", defArgs (topH 34), defBody (topH 34), defScope (topH 34), [], []⟩
def dd_law_times : He.DefD := ⟨("_law_times", none), "_law_times", "_law_times", defArgs (topH 35), defBody (topH 35), defScope (topH 35), [], []⟩
def dd_law_flags : He.DefD := ⟨("_law_flags", none), "_law_flags", "_law_flags", defArgs (topH 36), defBody (topH 36), defScope (topH 36), [], []⟩
def dd_law_home : He.DefD := ⟨("_law_home", none), "_law_home", "_law_home", defArgs (topH 37), defBody (topH 37), defScope (topH 37), [], []⟩
def dd_law_is_right : He.DefD := ⟨("_law_is_right", none), "_law_is_right", "_law_is_right", defArgs (topH 38), defBody (topH 38), defScope (topH 38), [], []⟩
def dd_law_is_refused : He.DefD := ⟨("_law_is_refused", none), "_law_is_refused", "_law_is_refused", defArgs (topH 39), defBody (topH 39), defScope (topH 39), [], []⟩
def dd_law : He.DefD := ⟨("law", none), "law", "law", defArgs (topH 40), defBody (topH 40), defScope (topH 40), [], []⟩
def dd_law_hand : He.DefD := ⟨("_law_hand", none), "_law_hand", "_law_hand", defArgs (topH 27), defBody (topH 27), defScope (topH 27), [], []⟩
def fnH : List He.DefD := [dd_is_integer, dd_is_within, dd_is_tuple, dd_divisor, dd_reduced, dd_times, dd_is_fraction, dd_check_wheels, dd_around, dd_till_home, dd_touches, dd_chain_of, dd_rolled_far, dd_belt_turns, dd_law_draw, dd_law_some, dd_law_is, dd_law_deep, dd_law_word, dd_law_low, dd_law_plus, dd_law_times, dd_law_flags, dd_law_home, dd_law_is_right, dd_law_is_refused, dd_law, dd_law_hand]
def faH : List He.Fa := [.glo "is_integer", .glo "is_within", .glo "is_tuple", .glo "divisor", .glo "reduced", .glo "times", .glo "is_fraction", .glo "check_wheels", .glo "around", .glo "till_home", .glo "touches", .glo "chain_of", .glo "rolled_far", .glo "belt_turns", .glo "_law_draw", .glo "_law_some", .glo "_law_is", .glo "_law_deep", .glo "_law_word", .glo "_law_low", .glo "_law_plus", .glo "_law_times", .glo "_law_flags", .glo "_law_home", .glo "_law_is_right", .glo "_law_is_refused", .glo "law", .glo "_law_hand", .free "abs", .free "all", .free "bool", .free "dict", .free "enumerate", .free "int", .free "isinstance", .free "len", .free "list", .free "range", .free "str", .free "tuple", .free "zip", .free "super", .free "ValueError", .glo "NoFlag", .glo "NoKind", .glo "NoNumber", .glo "NoTurns", .glo "NoWheels", .glo "ForceError", .int "GREATEST" (60), .int "MOST_WHEELS" (6)]
def loose : List PySem.Str := (["is_integer", "is_within", "is_tuple", "ForceError", "NoNumber", "NoKind", "NoWheels", "NoTurns", "NoFlag", "divisor", "reduced", "times", "is_fraction", "GREATEST", "MOST_WHEELS", "check_wheels", "around", "till_home", "touches", "chain_of", "rolled_far", "belt_turns", "_law_hand", "_law_draw", "_law_some", "_law_is", "_law_deep", "_law_word", "_law_low", "_law_plus"] : List PySem.Str) ++ (["_law_times", "_law_flags", "_law_home", "_law_is_right", "_law_is_refused"] : List PySem.Str)
abbrev RH : PySem.W.OpenRow := PySem.W.OpenLaw.row PySem.Challenge.rw_fewforces_k87_whole_wheels_that_roll_and
def erH : List ErD := [⟨"NoFlag", "NoFlag.__init__", defArgs (firstDef (topH 10)), defBody (firstDef (topH 10)), defScope (firstDef (topH 10))⟩, ⟨"NoKind", "NoKind.__init__", defArgs (firstDef (topH 7)), defBody (firstDef (topH 7)), defScope (firstDef (topH 7))⟩, ⟨"NoNumber", "NoNumber.__init__", defArgs (firstDef (topH 6)), defBody (firstDef (topH 6)), defScope (firstDef (topH 6))⟩, ⟨"NoTurns", "NoTurns.__init__", defArgs (firstDef (topH 9)), defBody (firstDef (topH 9)), defScope (firstDef (topH 9))⟩, ⟨"NoWheels", "NoWheels.__init__", defArgs (firstDef (topH 8)), defBody (firstDef (topH 8)), defScope (firstDef (topH 8))⟩]
theorem ok_er : erH.all (fun d => iniTB d.params d.body d.scope) = true := by decide +kernel
def tfH : List He.Defn := [("_law_is_refused", none), ("law", none)]
def exH : PySem.W.Frag → Bool := exB tfH erH PySem.Challenge.pw_fewforces_k87_whole_wheels_that_roll_and.main.file "ForceError" ["NoNumber", "NoKind", "NoWheels", "NoTurns", "NoFlag"]
abbrev hkH : PySem.W.Hook := hookE 4 faH fnH erH tfH exH
def obH (s : PySem.W.SharedT) : AlE := obsE 4 faH fnH erH tfH exH (HandSHeadRun.getT s)
theorem ob_eqH (s : PySem.W.SharedT) : obH s = hkH.obs s.abs := obsE_eq (HandSHeadRun.getT_eq s)
theorem runH (w : World) : HandSHeadRun.RunEq RH (PySem.W.view RH.prog [40]) hkH obH 20000 loose w := by
  intro os
  kernel_rfl
end PL.L

set_option autoImplicit false
set_option linter.all false
set_option Elab.async false
set_option maxRecDepth 100000
set_option maxHeartbeats 0
/-! the defs' facts; the end -/
namespace PL.L
open PySem PySem.Spec PyProof.Rows L2 PL
def defsL : Str → Option Def := fun f => table.lookup f
abbrev PP : Program := PySem.Challenge.pw_fewforces_k87_whole_wheels_that_roll_and
abbrev SaysL (h : Heap) (K : PySem.W.Frag) : Prop := SaysE faH fnH erH tfH (exB tfH erH PP.main.file "ForceError" (n1F ++ n2F)) h K
theorem gloL {K : PySem.W.Frag} {h : Heap} {mg : Str → Option Value} (X : K.In h) (G : h.Ns mainGlobals mg) (c : SaysL h K) : (∀ n ∈ n1F ++ n2F, mg n = some (.ref (He.ga K n))) ∧ (∀ n ∈ exs, mg n = some (.ref (He.ga K n))) ∧ ∀ d ∈ tfH, mg d.1 = some (.ref (He.ga K d.1)) := by
  refine ⟨fun n hn => ?_, fun n hn => ?_, fun d hd => ?_⟩
  · simp only [n1F, n2F, List.cons_append, List.nil_append, List.mem_cons, List.mem_nil_iff, or_false] at hn
    rcases hn with rfl | rfl | rfl | rfl | rfl
    · exact (He.glo_ok X G (c.d.fact 45 (f := .glo "NoNumber") rfl))
    · exact (He.glo_ok X G (c.d.fact 44 (f := .glo "NoKind") rfl))
    · exact (He.glo_ok X G (c.d.fact 47 (f := .glo "NoWheels") rfl))
    · exact (He.glo_ok X G (c.d.fact 46 (f := .glo "NoTurns") rfl))
    · exact (He.glo_ok X G (c.d.fact 43 (f := .glo "NoFlag") rfl))
  · simp only [exs, List.mem_cons, List.mem_nil_iff, or_false] at hn
    rcases hn with rfl | rfl | rfl | rfl | rfl
    · exact (He.glo_ok X G (c.d.fact 43 (f := .glo "NoFlag") rfl))
    · exact (He.glo_ok X G (c.d.fact 44 (f := .glo "NoKind") rfl))
    · exact (He.glo_ok X G (c.d.fact 45 (f := .glo "NoNumber") rfl))
    · exact (He.glo_ok X G (c.d.fact 46 (f := .glo "NoTurns") rfl))
    · exact (He.glo_ok X G (c.d.fact 47 (f := .glo "NoWheels") rfl))
  · simp only [tfH, List.mem_cons, List.mem_nil_iff, or_false] at hd
    rcases hd with rfl | rfl
    · exact (He.glo_ok X G (c.d.fact 25 (f := .glo "_law_is_refused") rfl))
    · exact (He.glo_ok X G (c.d.fact 26 (f := .glo "law") rfl))
theorem flagsL {K : PySem.W.Frag} {h : Heap} {mg : Str → Option Value} (X : K.In h) (G : h.Ns mainGlobals mg) (c : SaysL h K) : FlagsD K mg n1F n2F := by
  obtain ⟨fd, F⟩ := c.d.def_ 22 (d := dd_law_flags) rfl
  exact ⟨⟨_, fd, _, _, _, ["error", "flags"], F, ⟨rfl, rfl, rfl, by decide +kernel, rfl, by decide +kernel, by decide +kernel⟩, by decide +kernel, by decide +kernel, rfl, by decide +kernel, .inr ⟨rfl, by decide +kernel⟩, (He.glo_ok X G (c.d.fact 22 (f := .glo "_law_flags") rfl)), F.bindsN fun _ _ _ _ _ _ us hl => match us, hl with | [_], _ => rfl⟩, (He.free_ok X G (c.d.fact 34 (f := .free "isinstance") rfl))⟩
theorem wordL [TabL] {K : PySem.W.Frag} {h : Heap} {mg : Str → Option Value} (X : K.In h) (G : h.Ns mainGlobals mg) (c : SaysL h K) : WordD K mg "ForceError" := by
  obtain ⟨fd, F⟩ := c.d.def_ 18 (d := dd_law_word) rfl
  exact ⟨⟨_, fd, _, _, _, F, ⟨rfl, rfl, rfl, by decide +kernel, rfl, by decide +kernel, by decide +kernel⟩, by decide +kernel, ⟨by decide +kernel, by decide +kernel, by decide +kernel, by decide +kernel, by decide +kernel, by decide +kernel, by decide +kernel, by decide +kernel, by decide⟩, (He.glo_ok X G (c.d.fact 18 (f := .glo "_law_word") rfl)), F.bindsN fun _ _ _ _ _ _ us hl => match us, hl with | [_], _ => rfl⟩⟩
theorem codeL [TabL] {K : PySem.W.Frag} {h : Heap} {mg : Str → Option Value} (X : K.In h) (G : h.Ns mainGlobals mg) (c : SaysL h K) : Code PP K mg bis gls exs wds defsL := by
  have CK : ClsK K mg "ForceError" (n1F ++ n2F) := clsK_ok (exB_ok c.more).2.2.1 (gloL X G c).1 (He.glo_ok X G (c.d.fact 48 (f := .glo "ForceError") rfl)) (He.free_ok X G (c.d.fact 42 (f := .free "ValueError") rfl)) (He.free_ok X G (c.d.fact 34 (f := .free "isinstance") rfl))
  have FL := flagsL X G c
  have WD := wordL X G c
  refine ⟨fun x hx => ?_, fun x d hx => ?_, fun f D hD => ?_, fun x hx => ?_, fun _ => (He.free_ok X G (c.d.fact 41 (f := .free "super") rfl)), fun f sh hw X' e1 e2 e3 _ hr => ?_⟩
  · simp only [bis, List.mem_cons, List.mem_nil_iff, or_false] at hx
    rcases hx with rfl | rfl | rfl | rfl | rfl | rfl | rfl | rfl | rfl | rfl | rfl | rfl | rfl
    · exact (He.free_ok X G (c.d.fact 28 (f := .free "abs") rfl))
    · exact (He.free_ok X G (c.d.fact 29 (f := .free "all") rfl))
    · exact (He.free_ok X G (c.d.fact 30 (f := .free "bool") rfl))
    · exact (He.free_ok X G (c.d.fact 31 (f := .free "dict") rfl))
    · exact (He.free_ok X G (c.d.fact 32 (f := .free "enumerate") rfl))
    · exact (He.free_ok X G (c.d.fact 33 (f := .free "int") rfl))
    · exact (He.free_ok X G (c.d.fact 34 (f := .free "isinstance") rfl))
    · exact (He.free_ok X G (c.d.fact 35 (f := .free "len") rfl))
    · exact (He.free_ok X G (c.d.fact 36 (f := .free "list") rfl))
    · exact (He.free_ok X G (c.d.fact 37 (f := .free "range") rfl))
    · exact (He.free_ok X G (c.d.fact 38 (f := .free "str") rfl))
    · exact (He.free_ok X G (c.d.fact 39 (f := .free "tuple") rfl))
    · exact (He.free_ok X G (c.d.fact 40 (f := .free "zip") rfl))
  · simp only [gls, List.mem_cons, List.mem_nil_iff, or_false, Prod.mk.injEq] at hx
    rcases hx with ⟨rfl, rfl⟩ | ⟨rfl, rfl⟩
    · obtain ⟨t, e⟩ := He.int_ok X G (c.d.fact 49 (f := .int "GREATEST" (60)) rfl)
      exact ⟨_, .int (60), e, ⟨t, rfl⟩, fun _ _ => .int (60)⟩
    · obtain ⟨t, e⟩ := He.int_ok X G (c.d.fact 50 (f := .int "MOST_WHEELS" (6)) rfl)
      exact ⟨_, .int (6), e, ⟨t, rfl⟩, fun _ _ => .int (6)⟩
  · have hm := PySem.mem_of_lookup (show table.lookup f = some D from hD)
    simp only [table, List.mem_cons, List.mem_nil_iff, or_false, Prod.mk.injEq] at hm
    rcases hm with ⟨rfl, rfl⟩ | ⟨rfl, rfl⟩ | ⟨rfl, rfl⟩ | ⟨rfl, rfl⟩ | ⟨rfl, rfl⟩ | ⟨rfl, rfl⟩ | ⟨rfl, rfl⟩ | ⟨rfl, rfl⟩ | ⟨rfl, rfl⟩ | ⟨rfl, rfl⟩ | ⟨rfl, rfl⟩ | ⟨rfl, rfl⟩ | ⟨rfl, rfl⟩ | ⟨rfl, rfl⟩ | ⟨rfl, rfl⟩ | ⟨rfl, rfl⟩ | ⟨rfl, rfl⟩ | ⟨rfl, rfl⟩ | ⟨rfl, rfl⟩ | ⟨rfl, rfl⟩ | ⟨rfl, rfl⟩ | ⟨rfl, rfl⟩ | ⟨rfl, rfl⟩ | ⟨rfl, rfl⟩
    · obtain ⟨fd, F⟩ := c.d.def_ 0 (d := dd_is_integer) rfl
      exact ⟨n_is_integer, ["thing"], _, _, _, _, fd, F, sc_is_integer, ok_is_integer, rfl, rfl, by decide, (He.glo_ok X G (c.d.fact 0 (f := .glo "is_integer") rfl)), F.bindsN fun _ _ _ _ _ _ us hl => match us, hl with | [_], _ => rfl⟩
    · obtain ⟨fd, F⟩ := c.d.def_ 1 (d := dd_is_within) rfl
      exact ⟨n_is_within, ["thing", "low", "high"], _, _, _, _, fd, F, sc_is_within, ok_is_within, rfl, rfl, by decide, (He.glo_ok X G (c.d.fact 1 (f := .glo "is_within") rfl)), F.bindsN fun _ _ _ _ _ _ us hl => match us, hl with | [_, _, _], _ => rfl⟩
    · obtain ⟨fd, F⟩ := c.d.def_ 2 (d := dd_is_tuple) rfl
      exact ⟨n_is_tuple, ["thing", "least", "most"], _, _, _, _, fd, F, sc_is_tuple, ok_is_tuple, rfl, rfl, by decide, (He.glo_ok X G (c.d.fact 2 (f := .glo "is_tuple") rfl)), F.bindsN fun _ _ _ _ _ _ us hl => match us, hl with | [_, _, _], _ => rfl⟩
    · obtain ⟨fd, F⟩ := c.d.def_ 3 (d := dd_divisor) rfl
      exact ⟨n_divisor, ["one", "other"], _, _, _, _, fd, F, sc_divisor, ok_divisor, rfl, rfl, by decide, (He.glo_ok X G (c.d.fact 3 (f := .glo "divisor") rfl)), F.bindsN fun _ _ _ _ _ _ us hl => match us, hl with | [_, _], _ => rfl⟩
    · obtain ⟨fd, F⟩ := c.d.def_ 4 (d := dd_reduced) rfl
      exact ⟨n_reduced, ["top", "bottom"], _, _, _, _, fd, F, sc_reduced, ok_reduced, rfl, rfl, by decide, (He.glo_ok X G (c.d.fact 4 (f := .glo "reduced") rfl)), F.bindsN fun _ _ _ _ _ _ us hl => match us, hl with | [_, _], _ => rfl⟩
    · obtain ⟨fd, F⟩ := c.d.def_ 5 (d := dd_times) rfl
      exact ⟨n_times, ["one", "other"], _, _, _, _, fd, F, sc_times, ok_times, rfl, rfl, by decide, (He.glo_ok X G (c.d.fact 5 (f := .glo "times") rfl)), F.bindsN fun _ _ _ _ _ _ us hl => match us, hl with | [_, _], _ => rfl⟩
    · obtain ⟨fd, F⟩ := c.d.def_ 6 (d := dd_is_fraction) rfl
      exact ⟨n_is_fraction, ["thing"], _, _, _, _, fd, F, sc_is_fraction, ok_is_fraction, rfl, rfl, by decide, (He.glo_ok X G (c.d.fact 6 (f := .glo "is_fraction") rfl)), F.bindsN fun _ _ _ _ _ _ us hl => match us, hl with | [_], _ => rfl⟩
    · obtain ⟨fd, F⟩ := c.d.def_ 7 (d := dd_check_wheels) rfl
      exact ⟨n_check_wheels, ["some"], _, _, _, _, fd, F, sc_check_wheels, ok_check_wheels, rfl, rfl, by decide, (He.glo_ok X G (c.d.fact 7 (f := .glo "check_wheels") rfl)), F.bindsN fun _ _ _ _ _ _ us hl => match us, hl with | [_], _ => rfl⟩
    · obtain ⟨fd, F⟩ := c.d.def_ 8 (d := dd_around) rfl
      exact ⟨n_around, ["rolling", "still", "kind"], _, _, _, _, fd, F, sc_around, ok_around, rfl, rfl, by decide, (He.glo_ok X G (c.d.fact 8 (f := .glo "around") rfl)), F.bindsN fun _ _ _ _ _ _ us hl => match us, hl with | [_, _, _], _ => rfl⟩
    · obtain ⟨fd, F⟩ := c.d.def_ 9 (d := dd_till_home) rfl
      exact ⟨n_till_home, ["rolling", "still"], _, _, _, _, fd, F, sc_till_home, ok_till_home, rfl, rfl, by decide, (He.glo_ok X G (c.d.fact 9 (f := .glo "till_home") rfl)), F.bindsN fun _ _ _ _ _ _ us hl => match us, hl with | [_, _], _ => rfl⟩
    · obtain ⟨fd, F⟩ := c.d.def_ 10 (d := dd_touches) rfl
      exact ⟨n_touches, ["rolling", "still"], _, _, _, _, fd, F, sc_touches, ok_touches, rfl, rfl, by decide, (He.glo_ok X G (c.d.fact 10 (f := .glo "touches") rfl)), F.bindsN fun _ _ _ _ _ _ us hl => match us, hl with | [_, _], _ => rfl⟩
    · obtain ⟨fd, F⟩ := c.d.def_ 11 (d := dd_chain_of) rfl
      exact ⟨n_chain_of, ["wheels"], _, _, _, _, fd, F, sc_chain_of, ok_chain_of, rfl, rfl, by decide, (He.glo_ok X G (c.d.fact 11 (f := .glo "chain_of") rfl)), F.bindsN fun _ _ _ _ _ _ us hl => match us, hl with | [_], _ => rfl⟩
    · obtain ⟨fd, F⟩ := c.d.def_ 12 (d := dd_rolled_far) rfl
      exact ⟨n_rolled_far, ["wheel", "turns"], _, _, _, _, fd, F, sc_rolled_far, ok_rolled_far, rfl, rfl, by decide, (He.glo_ok X G (c.d.fact 12 (f := .glo "rolled_far") rfl)), F.bindsN fun _ _ _ _ _ _ us hl => match us, hl with | [_, _], _ => rfl⟩
    · obtain ⟨fd, F⟩ := c.d.def_ 13 (d := dd_belt_turns) rfl
      exact ⟨n_belt_turns, ["one", "other", "is_crossed"], _, _, _, _, fd, F, sc_belt_turns, ok_belt_turns, rfl, rfl, by decide, (He.glo_ok X G (c.d.fact 13 (f := .glo "belt_turns") rfl)), F.bindsN fun _ _ _ _ _ _ us hl => match us, hl with | [_, _, _], _ => rfl⟩
    · obtain ⟨fd, F⟩ := c.d.def_ 14 (d := dd_law_draw) rfl
      exact ⟨n_law_draw, ["hand", "limit"], _, _, _, _, fd, F, sc_law_draw, ok_law_draw, rfl, rfl, by decide, (He.glo_ok X G (c.d.fact 14 (f := .glo "_law_draw") rfl)), F.bindsN fun _ _ _ _ _ _ us hl => match us, hl with | [_, _], _ => rfl⟩
    · obtain ⟨fd, F⟩ := c.d.def_ 15 (d := dd_law_some) rfl
      exact ⟨n_law_some, ["hand", "items"], _, _, _, _, fd, F, sc_law_some, ok_law_some, rfl, rfl, by decide, (He.glo_ok X G (c.d.fact 15 (f := .glo "_law_some") rfl)), F.bindsN fun _ _ _ _ _ _ us hl => match us, hl with | [_, _], _ => rfl⟩
    · obtain ⟨fd, F⟩ := c.d.def_ 16 (d := dd_law_is) rfl
      exact ⟨n_law_is, ["thing", "due"], _, _, _, _, fd, F, sc_law_is, ok_law_is, rfl, rfl, by decide, (He.glo_ok X G (c.d.fact 16 (f := .glo "_law_is") rfl)), F.bindsN fun _ _ _ _ _ _ us hl => match us, hl with | [_, _], _ => rfl⟩
    · obtain ⟨fd, F⟩ := c.d.def_ 17 (d := dd_law_deep) rfl
      exact ⟨n_law_deep, ["turns"], _, _, _, _, fd, F, sc_law_deep, ok_law_deep, rfl, rfl, by decide, (He.glo_ok X G (c.d.fact 17 (f := .glo "_law_deep") rfl)), F.bindsN fun _ _ _ _ _ _ us hl => match us, hl with | [_], _ => rfl⟩
    · obtain ⟨fd, F⟩ := c.d.def_ 19 (d := dd_law_low) rfl
      exact ⟨n_law_low, ["top", "bottom"], _, _, _, _, fd, F, sc_law_low, ok_law_low, rfl, rfl, by decide, (He.glo_ok X G (c.d.fact 19 (f := .glo "_law_low") rfl)), F.bindsN fun _ _ _ _ _ _ us hl => match us, hl with | [_, _], _ => rfl⟩
    · obtain ⟨fd, F⟩ := c.d.def_ 20 (d := dd_law_plus) rfl
      exact ⟨n_law_plus, ["one", "other"], _, _, _, _, fd, F, sc_law_plus, ok_law_plus, rfl, rfl, by decide, (He.glo_ok X G (c.d.fact 20 (f := .glo "_law_plus") rfl)), F.bindsN fun _ _ _ _ _ _ us hl => match us, hl with | [_, _], _ => rfl⟩
    · obtain ⟨fd, F⟩ := c.d.def_ 21 (d := dd_law_times) rfl
      exact ⟨n_law_times, ["one", "other"], _, _, _, _, fd, F, sc_law_times, ok_law_times, rfl, rfl, by decide, (He.glo_ok X G (c.d.fact 21 (f := .glo "_law_times") rfl)), F.bindsN fun _ _ _ _ _ _ us hl => match us, hl with | [_, _], _ => rfl⟩
    · obtain ⟨fd, F⟩ := c.d.def_ 23 (d := dd_law_home) rfl
      exact ⟨n_law_home, ["rolling", "still"], _, _, _, _, fd, F, sc_law_home, ok_law_home, rfl, rfl, by decide, (He.glo_ok X G (c.d.fact 23 (f := .glo "_law_home") rfl)), F.bindsN fun _ _ _ _ _ _ us hl => match us, hl with | [_, _], _ => rfl⟩
    · obtain ⟨fd, F⟩ := c.d.def_ 24 (d := dd_law_is_right) rfl
      exact ⟨n_law_is_right, ["hand"], _, _, _, _, fd, F, sc_law_is_right, ok_law_is_right, rfl, rfl, by decide, (He.glo_ok X G (c.d.fact 24 (f := .glo "_law_is_right") rfl)), F.bindsN fun _ _ _ _ _ _ us hl => match us, hl with | [_], _ => rfl⟩
    · obtain ⟨fd, F⟩ := c.d.def_ 25 (d := dd_law_is_refused) rfl
      exact ⟨n_law_is_refused, ["hand"], _, _, _, _, fd, F, sc_law_is_refused, ok_law_is_refused, rfl, rfl, by decide, (He.glo_ok X G (c.d.fact 25 (f := .glo "_law_is_refused") rfl)), F.bindsN fun _ _ _ _ _ _ us hl => match us, hl with | [_], _ => rfl⟩
  · obtain ⟨d, hd, rfl⟩ : ∃ d ∈ erH, d.name = x := by
      have q : exs = erH.map (·.name) := by rfl
      rw [q] at hx
      obtain ⟨d, hd, e⟩ := List.mem_map.mp hx
      exact ⟨d, hd, e⟩
    exact ⟨_, (gloL X G c).2.1 _ hx, c.err (P := PP) ok_er (by decide +kernel) d hd⟩
  · simp only [wds, List.mem_cons, List.mem_nil_iff, or_false, Prod.mk.injEq] at hw
    obtain ⟨rfl, rfl⟩ := hw
    rw [← e2, ← e3] at CK FL WD
    exact wordOk_of WD FL CK (by decide +kernel) (by decide) hr
theorem memL : ∀ f, lamDefs.contains f = true → (defsL f ≠ none ∨ f = "law") → (f, none) ∈ tfH := by
  intro f h1 h2
  have h1 : f ∈ lamDefs := List.contains_iff_mem.mp h1
  simp only [lamDefs, List.mem_cons, List.mem_nil_iff, or_false] at h1
  rcases h1 with rfl | rfl | rfl | rfl <;> first | (unfold tfH; decide) | (exact absurd (h2.resolve_right (by decide)) (fun z => z rfl))
theorem factsL {m : Nat → Int} {N n : Nat} (hn : 1 ≤ n) (hr : ∀ cells : List PyData, cells.length ≤ 63 → execs ⟨fun _ => none, fun _ _ => .stuck⟩ 0 b_law_hand [.no, .c (.list cells), .no] = .rt (.h false (.list [.list cells, .int 0, .int 0, .int (m cells.length), .int 0])) [.no, .c (.list cells), .no])
    (pure : ∀ ns : List Int, ns.length ≤ 63 → ∃ ρ', execs ⟨defsL, callD defsL N n⟩ N b_law ((List.replicate n_law.length Slot.no).set 1 (.h false (handD m ns))) = .rt (.c (.bool true)) ρ')
    {w : World} {K : PySem.W.Frag} {h : Heap} {mg : Str → Option Value} {f : Addr} (X : K.In h) (G : h.Ns mainGlobals mg) (hfa : mg ("law" : Str) = some (.ref f)) (c : SaysL h K) : LamX.LawAtS PySem.Challenge.rw_fewforces_k87_whole_wheels_that_roll_and w K CX0 (3 * n + 3) 63 "script" mg f h := by
  letI TL : TabL := ⟨tabsE K tfH⟩
  have C := codeL X G c
  obtain ⟨fdH, FH⟩ := c.d.def_ 27 (d := dd_law_hand) rfl
  obtain ⟨fd, F⟩ := c.d.def_ 26 (d := dd_law) rfl
  have hl := (He.glo_ok X G (c.d.fact 26 (f := .glo "law") rfl))
  have e := hfa.symm.trans hl
  cases e
  have b := FunD.bindsA (ps := ["script"]) F fun _ _ _ _ _ _ us hl => match us, hl with | [_], _ => rfl
  refine lawAtS_of X c (fun s v => b s [v] rfl) fun base hb hn' hT => ?_
  exact _root_.PL.ok_law C (c.opq hb) (c.lam (gloL X G c).2.2 memL hT) hl rfl F sc_law PL.L.ok_law (by decide) (ok_hand FH sc_law_hand ok_law_hand (by decide) C.nbi C.ngl hr) (He.glo_ok X G (c.d.fact 27 (f := .glo "_law_hand") rfl)) FH.kp (FH.bindsN fun _ _ _ _ _ _ us hl => match us, hl with | [_], _ => rfl) hn pure
end PL.L
open PySem PySem.W PySem.Calls PyProof.Rows in
theorem PL.L.holds {m : Nat → Int} {N : Nat} (hr : ∀ cells : List PyData, cells.length ≤ 63 → PL.execs ⟨fun _ => none, fun _ _ => .stuck⟩ 0 PL.L.b_law_hand [.no, .c (.list cells), .no] = .rt (.h false (.list [.list cells, .int 0, .int 0, .int (m cells.length), .int 0])) [.no, .c (.list cells), .no])
    (pure : ∀ ns : List Int, ns.length ≤ 63 → ∃ ρ', PL.execs ⟨PL.L.defsL, PL.callD PL.L.defsL N 12⟩ N PL.L.b_law ((List.replicate PL.L.n_law.length PL.Slot.no).set 1 (.h false (PL.handD m ns))) = .rt (.c (.bool true)) ρ') : PySem.Challenge.rw_fewforces_k87_whole_wheels_that_roll_and.Holds := by
  w_on; o_law
  refine HandSHeadRun.head_any (r := OpenLaw.row PySem.Challenge.rw_fewforces_k87_whole_wheels_that_roll_and) (q := view (OpenLaw.row PySem.Challenge.rw_fewforces_k87_whole_wheels_that_roll_and).prog [40]) (H := PL.L.hkH) (ob := PL.L.obH) (M := 20000) (loose := PL.L.loose) (d := HandSHeadRun.topDef (OpenLaw.row PySem.Challenge.rw_fewforces_k87_whole_wheels_that_roll_and).prog 40) (kwd := []) PL.L.ob_eqH
    (by kernel_rfl) (fun s => by kernel_rfl) PL.L.runH (by kernel_rfl) (by kernel_rfl) (by kernel_rfl) (by rfl) (by first | assumption | decide +kernel) (by decide +kernel) ⟨rfl, rfl, rfl, rfl, rfl, by decide +kernel⟩ ?hw ?hc
  case hw => w_witness2
  case hc =>
    refine LamX.walk_ofTsE (l := PySem.Challenge.rw_fewforces_k87_whole_wheels_that_roll_and) (n := 63) (k := 39) (x := "script") (CX := fun _ => L2.CX0) rfl (by decide) (by kernel_rfl) ⟨rfl, by decide, by decide⟩ ?F (fun _ _ _ _ _ z => z)
    intro w mg fa h Y G hmg0
    obtain ⟨K, KX, c⟩ := Y
    have hmg : mg ("law" : PySem.Str) = some (.ref fa) := by
      have e : (HandSHeadRun.topDef (OpenLaw.row PySem.Challenge.rw_fewforces_k87_whole_wheels_that_roll_and).prog 40).name = ("law" : PySem.Str) := by kernel_rfl
      rw [← e]
      exact hmg0
    exact ⟨K, KX, PL.L.factsL (n := 12) (by decide) hr pure KX G hmg c⟩

set_option autoImplicit false
set_option linter.all false
set_option Elab.async false
theorem PL.L.ends87 : PySem.Challenge.rw_fewforces_k87_whole_wheels_that_roll_and.Holds := PL.L.holds (m := fun k => 239 + (k : Int)) (N := PL.L.NN) PL.L.hr87 fun ns _ => PL.L.pure87 _ (PL.hand0 ns)

theorem PySem.Challenge.cw_fewforces_k87_whole_wheels_that_roll_and_holds : PySem.Challenge.rw_fewforces_k87_whole_wheels_that_roll_and.Holds := by
  exact PL.L.ends87
