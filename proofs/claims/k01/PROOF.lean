import PyProof.Rows.All
import Wide.All
import OpenK.AllK
import Wide.FinOn
import KE.KExcSuper
import HandS.ExcInit
import HandS.FStr
import HandS.ExcIs
import HandS.ExcField
import KE.KExcIs
import HandS.FStrTup
import PyProof.FString2
import PyProof.StrHeap
import HandS.ForMost
import HandS.ForExc
import HandS.Style
import HandS.Flow
import HandS.Evl
import HandS.IsInst
import HandS.TupAny
import HandS.Star
import HandS.Comp
import PySem.Challenge.RW_changedwalks_k01_trees_and_their_texts
set_option Elab.async false
set_option linter.all false
set_option maxRecDepth 100000
set_option maxHeartbeats 4000000
/-! super().__init__(M) in the __init__ of an own exception over ValueError, its fields behind it. -/
namespace Cw
open PySem PySem.W PySem.Calls PyProof.Rows PySem.HandSPX

/-- what the written part says of an own exception class at C, of its __init__ at fI, whose cell of __class__ is cc, its code at cda -/
structure XTxt (P : Program) (K : Frag) (C fI cc cda : Addr) (name qual : Str) (params : Arguments) (body : List Stmt) (scope : Scope) : Prop where
  cls : ∃ nm q N bs bm sn sub ab col dd k0 k1 k2 k3 k5, K.lookup C = some (excClassObj nm q C N bs bm true sn sub ab col dd k0 k1 k2 k3 k5 "ValueError.__new__") ∧ refsVE bm = true
  sa : findIn K (.ref C) "__setattr__" = some (some (.builtin "object.__setattr__"))
  iC : findIn K (.ref C) "__init__" = some (some (.ref fI))
  tI : typeIn K (.ref fI) = some (.type "function")
  kC : keepIn K (.ref C) = true
  exC : subIn K (.ref C) (.type "BaseException") = some true
  veC : subIn K (.ref C) (.type "ValueError") = some true
  tyC : typeIn K (.ref C) = some (.type "type")
  cell : ∃ cl cld csl, K.lookup cc = some ⟨cl, cld, .cell (some (.ref C)), csl⟩
  code : ∃ ccl cdd vs ccs file tf, K.lookup cda = some ⟨ccl, cdd, .fields vs, ccs⟩ ∧ vs[2]? = some (.str file tf) ∧ ((P.main.file : Str) == file) = true
  sup : ks_superIn K C C "__init__" = some (some (.builtin "ValueError.__init__"))
  thr : nsIn K cStatics "thirdparty.any" = some none
  sun : nsIn K mainGlobals "super" = some none
  fn : ∃ oc od kV doc pm an ct osl, K.lookup fI = some ⟨oc, od, .func (fnX name qual params body scope [("__class__", cc)] .none kV doc pm an (.ref cda) ct), osl⟩ ∧ codeIn K (.ref cda) qual = true

abbrev Keeps (h h' : Heap) : Prop := ∀ b o, h.get? b = some o → h'.get? b = some o

section
variable {P : Program} {w : World} {A : Around} {E : Value → Shared → Prop} {K : Frag} {mg : Str → Option Value} {base h : Heap} {g : Array GenState} {d : Drawn} {t : Nat} {os : OsState}
  {FS : List (Str × Value) → Prop} {C fI cc cda x L t0 : Addr} {name qual : Str} {params : Arguments} {body : List Stmt} {scope : Scope} {m : Str → Option Value}

/-- the first statement -/
theorem sup_stmt (T : XTxt P K C fI cc cda name qual params body scope) (Mo : L2.Mod K mg base) (kb : Keeps base h) (hns : h.Ns L m) {ar : Arg} (hp : (params.posonlyargs ++ params.args).head? = some ar) (hv : m ar.arg = some (.ref x))
    (hx : h.get? x = some (excO C t0)) {p0 p1 p2 p3 p4 : Pos} {M : Expr} {Q : Flow → Shared → Prop}
    (hks : scope.names.lookup ("super" : Str) = some .globalImplicit) (hkc : scope.names.lookup ("__class__" : Str) = some .free) (hka : scope.names.lookup ar.arg = some .local) (hk : scope.kind = .function)
    (htop : (P.main.scope.names.lookup ("super" : Str)).isSome = false)
    {pl : Sem Bool} (hev : eval (.Call (.Attribute (.Call (.Name "super" p0) [] [] p1) "__init__" p2) [M] [] p3) (ksEnv qual scope L fI (.ref cda) cc) = (do
      let ov ← attributeBase (.Call (.Name "super" p0) [] [] p1) "__init__" (ksEnv qual scope L fI (.ref cda) cc) (eval (.Call (.Name "super" p0) [] [] p1) (ksEnv qual scope L fI (.ref cda) cc))
      standAt p2.atName
      let (f, first) ← holding [ov] (getMethod ov "__init__" pl)
      callWith p3 f first (backTo p3 (starEach [M] (ksEnv qual scope L fI (.ref cda) cc))) []))
    (hst : starEach [M] (ksEnv qual scope L fI (.ref cda) cc) = [(false, eval M (ksEnv qual scope L fI (.ref cda) cc))])
    (hM : ∀ h1 t1 (QQ : Value → Shared → Prop), Keeps h h1 → (∀ z tk h2 t2, Keeps h1 h2 → QQ (.str z tk) ⟨h2, g, d, t2, os⟩) → wpAny (model P w) A (eval M (ksEnv qual scope L fI (.ref cda) cc)) QQ E ⟨h1, g, d, t1, os⟩)
    (hq : ∀ h' t' t1, (∀ b o, b ≠ x → h.get? b = some o → h'.get? b = some o) → h'.get? x = some (excO C t1) → Q .next ⟨h', g, d, t', os⟩) :
    PySem.wpAt (model P w) A (.func body (ksEnv qual scope L fI (.ref cda) cc)) (exec (.Expr (.Call (.Attribute (.Call (.Name "super" p0) [] [] p1) "__init__" p2) [M] [] p3) p4) (ksEnv qual scope L fI (.ref cda) cc)) Q E ⟨h, g, d, t, os⟩ := by
  obtain ⟨nm, qn, N, bs, bm, sn, sub, ab, col, dd, k0, k1, k2, k3, k5, hC, hbm⟩ := T.cls
  obtain ⟨cl, cld, csl, hcell⟩ := T.cell
  obtain ⟨ccl, cdd, vs, ccs, file, tf, hcode, hvs, hfile⟩ := T.code
  obtain ⟨oc, od, kV, doc, pm, an, ct, osl, hf, hcd⟩ := T.fn
  obtain ⟨mb, hbn, hbb⟩ := Mo.blt
  have X : K.In h := Mo.kin.keeps kb
  have hcl : clsIn K C = some { name := nm, bases := bs, mro := .ref C :: bm, ns := N, qualname := qn, hasDict := true, slotNames := sn, subclasses := sub, abstract := ab, collection := col, hasDel := false } := by unfold clsIn; rw [hC]
  have I : InstAt h x (excO C t0) C none := ⟨hx, rfl, rfl, trivial⟩
  have hsub : Looks (model P w) h (isSubtype (.ref C) (.ref C)) true := looks_mroIn X (by unfold mroIn; rw [hcl, Option.bind_some]; simp)
  refine ks_wpAt_Expr_any (ks_wpAt_MethodCall ?_ hev) (by simp [interactive, hk])
  refine ks_wpAt_super_base (env := ksEnv qual scope L fI (.ref cda) cc) hks hkc (by decide +kernel) rfl (X _ _ hf) rfl hp rfl (X _ _ hcode) rfl hvs hfile htop ?_
  refine ks_loadName_global hk hks (loadGlobal_builtin (env := ksEnv qual scope L fI (.ref cda) cc) (Mo.glob.keeps kb) (mg_none_of Mo.kin Mo.glob T.sun) (hbn.keeps kb) ((hbb _ (by decide +kernel)).trans (by decide +kernel)) ⟨rfl, ?_⟩)
  refine wpAny_loadName_free hk hkc rfl ⟨_, X _ _ hcell, rfl⟩ ?_
  refine wpAny_loadName_local hk hka hns hv ?_
  refine ks_wpAny_isType_cls (X _ _ hC) rfl ⟨rfl, ?_⟩
  refine ks_wpAny_call_super (X _ _ hC) rfl I.at_ I.cls (fun c e => by cases e) hsub (fun h1 e1 kk1 => ?_)
  have X1 : K.In h1 := X.keeps kk1
  have hsup := T.sup
  unfold ks_superIn at hsup
  rw [hcl] at hsup
  have hI1 : Looks (model P w) h1 (isInstance (.ref x) (.type "ValueError")) true := (show InstAt h1 x (excO C t0) C none from ⟨kk1 _ _ hx, rfl, rfl, trivial⟩).type.andThen (looks_subIn X1 T.veC)
  refine kxs_getMethod kxs_ValueError e1 (looks_opaque X1 T.thr) (l₀ := .ref C :: bm) ?_ rfl X1 hsup hI1 (ks_ne X I hcl) (by decide +kernel) ?_
  · exact fun A Q E s k q => wpAny_bind ((looks_clsIn X1 hcl) A _ E s k (wpAny_pure q))
  rw [hst]
  refine kxs_callWith (i := "ValueError.__init__") (x := x) rfl ?_
  refine evalArgs_plain ?_
  have kp : Keeps h1 (h1.push (kxs_mw "ValueError.__init__" x)) := fun b o e => Heap.get?_push_of_some _ e
  have ku : (h1.push (kxs_mw "ValueError.__init__" x)).get? h1.objs.size = some (kxs_mw "ValueError.__init__" x) := Heap.get?_push_at rfl rfl
  refine spliced_cons (hM _ _ _ (fun b o e => kp b o (kk1 b o e)) fun z tk h2 t2 k2 => ?_)
  refine spliced_nil ⟨k2 _ _ ku, ?_⟩
  have hx2 : h2.get? x = some (excO C t0) := k2 _ _ (kp _ _ (kk1 _ _ hx))
  have hC2 := k2 _ _ (kp _ _ (X1 _ _ hC))
  show wpAny _ _ (call (.ref h1.objs.size) [.str z tk]) _ _ _
  refine wpAny_call (codeAny_of_tree ?_)
  show wpAny _ A.in1 (callAny (.ref h1.objs.size) ⟨[.str z tk], []⟩) _ _ _
  simp only [callAny]
  refine wpAny_bind (wpAny_load (k2 _ _ ku) ?_)
  simp only [kxs_mw, show (Value.type "method-wrapper" == Value.type "method" || Value.type "method-wrapper" == Value.type "builtin_function_or_method" || Value.type "method-wrapper" == Value.type "method-wrapper") = true by decide, if_true]
  refine KFB.if_so (by decide) ?_
  refine wpAny_bind (check_bound_init F.excBase_ValueError.toExcCallFacts hC2 hx2 rfl ?_)
  refine wpAny_bind (wpAny_pure (wpAny_pure ?_))
  refine ⟨plainId_quiet F.excBase_ValueError.init.plain _, codeAny_builtin F.excBase_ValueError.initEntry ?_⟩
  refine exc_init_tree (cls := .ref C) (t0 := t0) (dv := none) (c2 := .none) (c3 := .none) (b4 := .bool false) hx2 (by rw [sizeLine_eq]; exact (by decide : 1 ≤ 16777216)) fun h' k' e' _ => ?_
  exact hq h' _ _ (fun b o hb e => k' b o hb (k2 _ _ (kp _ _ (kk1 _ _ e)))) e'

theorem get_upd_ne {h h' : Heap} {x : Addr} (k : ∀ b o, b ≠ x → h.get? b = some o → h'.get? b = some o) {L : Addr} {m : Str → Option Value} (hL : L ≠ x) (hns : h.Ns L m) : h'.Ns L m :=
  hns.at fun _ e => k _ _ hL e

/-- the message: some text -/
def Msg (P : Program) (w : World) (M : Expr) (qual : Str) (scope : Scope) (fI cda cc : Addr) (m : Str → Option Value) (h0 : Heap) : Prop :=
  ∀ (A : Around) (E : Value → Shared → Prop) (L : Addr) (h1 : Heap) (g : Array GenState) (d : Drawn) (t1 : Nat) (os : OsState) (QQ : Value → Shared → Prop), L2.Room 0 A → h1.Ns L m → Keeps h0 h1 →
    (∀ z tk h2 t2, Keeps h1 h2 → QQ (.str z tk) ⟨h2, g, d, t2, os⟩) → wpAny (model P w) A (eval M (ksEnv qual scope L fI (.ref cda) cc)) QQ E ⟨h1, g, d, t1, os⟩

/-- the conditions on the text of the first statement -/
structure SupOk (P : Program) (M : Expr) (qual : Str) (scope : Scope) (fI cda cc : Addr) (p0 p1 p2 p3 p4 : Pos) : Prop where
  ks : scope.names.lookup ("super" : Str) = some .globalImplicit
  kc : scope.names.lookup ("__class__" : Str) = some .free
  k : scope.kind = .function
  co : scope.isCoroutine = false
  gen : scope.isGenerator = false
  top : (P.main.scope.names.lookup ("super" : Str)).isSome = false
  cell : ∀ x ∈ scope.names, x.2 ≠ .cell
  ev : ∀ L, ∃ pl : Sem Bool, eval (.Call (.Attribute (.Call (.Name "super" p0) [] [] p1) "__init__" p2) [M] [] p3) (ksEnv qual scope L fI (.ref cda) cc) = (do
      let ov ← attributeBase (.Call (.Name "super" p0) [] [] p1) "__init__" (ksEnv qual scope L fI (.ref cda) cc) (eval (.Call (.Name "super" p0) [] [] p1) (ksEnv qual scope L fI (.ref cda) cc))
      standAt p2.atName
      let (f, first) ← holding [ov] (getMethod ov "__init__" pl)
      callWith p3 f first (backTo p3 (starEach [M] (ksEnv qual scope L fI (.ref cda) cc))) [])
  st : ∀ L, starEach [M] (ksEnv qual scope L fI (.ref cda) cc) = [(false, eval M (ksEnv qual scope L fI (.ref cda) cc))]

abbrev supS (M : Expr) (p0 p1 p2 p3 p4 : Pos) : Stmt := .Expr (.Call (.Attribute (.Call (.Name "super" p0) [] [] p1) "__init__" p2) [M] [] p3) p4

/-- the call of __init__ up to the statements behind super() -/
theorem init_go {s : Shared} {R : Result → Shared → Prop} {rest : List Stmt} {M : Expr} {p0 p1 p2 p3 p4 : Pos} {us : List Value} {binds : List (Str × Value)} {ar : Arg}
    (T : XTxt P K C fI cc cda name qual params (supS M p0 p1 p2 p3 p4 :: rest) scope) (S : SupOk P M qual scope fI cda cc p0 p1 p2 p3 p4) (Mo : L2.Mod K mg base) (kb : Keeps base s.heap)
    (hx : s.heap.get? x = some (excO C t0)) (hr : L2.Room 1 A) (hp : (params.posonlyargs ++ params.args).head? = some ar) (hka : scope.names.lookup ar.arg = some .local) (hv : binds.reverse.lookup ar.arg = some (.ref x))
    (hbind : ∀ kV doc pm an ct, BindsTo s (fnX name qual params (supS M p0 p1 p2 p3 p4 :: rest) scope [("__class__", cc)] .none kV doc pm an (.ref cda) ct) ⟨us, []⟩ binds) (hloc : ∀ y ∈ binds, scope.names.lookup y.1 = some .local)
    (hM : Msg P w M qual scope fI cda cc (fun y => binds.reverse.lookup y) s.heap)
    (hq : ∀ (A' : Around) (E' : Value → Shared → Prop) h' t' t1, (∀ b o, b ≠ x → s.heap.get? b = some o → h'.get? b = some o) → h'.get? x = some (excO C t1) → h'.Ns s.heap.objs.size (fun y => binds.reverse.lookup y) →
      wpAny (model P w) A' (execs rest (ksEnv qual scope s.heap.objs.size fI (.ref cda) cc)) (fun f s' => R (.ok (.ret (match f with | .ret v => v | _ => .none))) s') E' { s with heap := h', toks := t' }) :
    codeAny (model P w) A (.call (.ref fI) ⟨us, []⟩) R s := by
  obtain ⟨oc, od, kV, doc, pm, an, ct, osl, hf, hcd⟩ := T.fn
  have X : K.In s.heap := Mo.kin.keeps kb
  have hlim : s.heap.NoLimit := Mo.nolimit.keeps kb
  obtain ⟨hh, g, d, tk, os⟩ := s
  refine ks_codeAny_call_defAt (body := supS M p0 p1 p2 p3 p4 :: rest) (binds := binds) hr.depth (X _ _ hf) rfl hlim (codeRec_of X hcd) rfl (hbind _ _ _ _ _) S.cell hloc (fun h1 hns k1 => ?_) S.co S.gen S.k
  obtain ⟨pl, hev⟩ := S.ev hh.objs.size
  refine ks_wpAt_execs_cons ?_
  have hxL : hh.objs.size ≠ x := Nat.ne_of_gt (Heap.lt_size hx)
  refine sup_stmt T Mo (fun b o e => k1 b o (kb b o e)) hns hp hv (k1 _ _ hx) S.ks S.kc hka S.k S.top hev (S.st _) (fun h2 t2 QQ k2 q => ?_) fun h' t' t1 k' e' => ?_
  · exact hM _ _ hh.objs.size h2 g d t2 os QQ (hr.deeper _) (hns.keeps k2) (fun b o e => k2 b o (k1 b o e)) q
  · exact wpAt_of_wpAny (hq _ _ h' t' t1 (fun b o hb e => k' b o hb (k1 b o e)) e' (get_upd_ne k' hxL hns))

/-- the names of an exception's own dict, the last stored first -/
def mOf : List (Str × Value) → Str → Option Value
  | [] => fun _ => none
  | (f, v) :: r => fun y => if y = f then some v else mOf r y
/-- an own exception, made: at e, its own dict (where it has fields) -/
structure XMade (h h' : Heap) (e C : Addr) (dd : Option Addr) (fs : List (Str × Value)) : Prop where
  keep : Keeps h h'
  new : h.objs.size ≤ e
  obj : ∃ oe vs, h'.get? e = some oe ∧ oe.cls = .ref C ∧ oe.dict = dd ∧ oe.data = .fields vs ∧ vs[1]? = some .none
  dic : (dd = none ∧ fs = []) ∨ ∃ dx, dd = some dx ∧ fs ≠ [] ∧ h.objs.size ≤ dx ∧ dx ≠ e ∧ h'.Ns1 dx (mOf fs)

abbrev stS (f : Str) (q1 q2 q3 q4 : Pos) : Stmt := .Assign [.Attribute (.Name "self" q1) f q2] (.Name f q3) q4
theorem ld_k {env : Env} {s : Shared} {m : Str → Option Value} {x : Str} {pos : Pos} {v : Value} {Q : Value → Shared → Prop} (hn : s.heap.Ns env.locals m) (hv : m x = some v) (hk : env.scope.kind = .function) (hl : env.scope.names.lookup x = some .local) (hd : (x == ("__debug__" : Str)) = false) (h : Q v s) :
    wpAny (model P w) A (eval (.Name x pos) env) Q E s := wpAny_Name (wpAny_loadName_local hk hl hn hv h) hd

/-- what is shown of the call of __init__ behind BaseException.__new__ -/
def HInit (P : Program) (w : World) (A : Around) (s : Shared) (C fI : Addr) (us : List Value) (fs : List (Str × Value)) : Prop :=
  ∀ (A' : Around) (R' : Result → Shared → Prop) h1 (x t0 : Addr), A' = A.under (.builtin "type.__call__" ⟨.ref C :: us, []⟩) → Keeps s.heap h1 → s.heap.objs.size ≤ x → h1.get? x = some (excO C t0) →
    (∀ h' tk dd, (∀ b o, b ≠ x → h1.get? b = some o → h'.get? b = some o) → (∃ t1 : Addr, h'.get? x = some { cls := .ref C, dict := dd, data := .fields #[.ref t1, .none, .none, .none, .bool false, .none] }) →
      ((dd = none ∧ fs = []) ∨ ∃ dx, dd = some dx ∧ fs ≠ [] ∧ h1.objs.size ≤ dx ∧ dx ≠ x ∧ h'.Ns1 dx (mOf fs)) → R' (.ok (.ret .none)) { s with heap := h', toks := tk }) →
    codeAny (model P w) A' (.call (.ref fI) ⟨.ref x :: us, []⟩) R' { s with heap := h1 }

/-- one made -/
theorem made_of {s : Shared} {R : Result → Shared → Prop} {us : List Value} {fs : List (Str × Value)} (T : XTxt P K C fI cc cda name qual params body scope) (Mo : L2.Mod K mg base) (kb : Keeps base s.heap) (hus : us.length ≤ 1000)
    (hi : HInit P w A s C fI us fs) (hq : ∀ h' tk e dd, XMade s.heap h' e C dd fs → R (.ok (.ret (.ref e))) { s with heap := h', toks := tk }) :
    codeAny (model P w) A (.call (.ref C) ⟨us, []⟩) R s := by
  obtain ⟨nm, q, N, bs, bm, sn, sub, ab, col, dd, k0, k1, k2, k3, k5, hC, hbm⟩ := T.cls
  have X : K.In s.heap := Mo.kin.keeps kb
  obtain ⟨hp, g, d, tk, os⟩ := s
  have k : Keeps hp ((hp.push (kdv_tup us)).push (excO C hp.objs.size)) := fun b o e => Heap.get?_push_of_some _ (Heap.get?_push_of_some _ e)
  have hget : ((hp.push (kdv_tup us)).push (excO C hp.objs.size)).get? (hp.objs.size + 1) = some (excO C hp.objs.size) := by heap_get
  have hz : us.length ≤ sizeLine := by rw [sizeLine_eq]; omega
  refine call_own F.excBase_ValueError (fun Y => refsVE_contains Y bm hbm) (X _ _ hC) (looks_findIn X T.iC) (fun self => bind_fn X self T.tI) hz ?_
  refine hi _ _ _ (hp.objs.size + 1) hp.objs.size rfl k (Nat.le_succ _) hget fun h' tk' dd k' hx hd => ?_
  have old : Keeps hp h' := fun b o e => k' b o (Nat.ne_of_lt (Nat.lt_succ_of_lt (Heap.lt_size e))) (k b o e)
  obtain ⟨t1, hx⟩ := hx
  refine ⟨rfl, hq h' tk' (hp.objs.size + 1) dd ⟨old, Nat.le_succ _, ⟨_, _, hx, rfl, rfl, rfl, rfl⟩, ?_⟩⟩
  rcases hd with hd | ⟨dx, e1, ef, e2, e3, e4⟩
  · exact .inl hd
  · refine .inr ⟨dx, e1, ef, ?_, e3, e4⟩
    have z : hp.objs.size ≤ ((hp.push (kdv_tup us)).push (excO C hp.objs.size)).objs.size := by
      rw [Heap.size_push, Heap.size_push]; omega
    exact Nat.le_trans z e2

section
variable {s : Shared} {v u : Value} {f f2 : Str} {M : Expr} {p0 p1 p2 p3 p4 q1 q2 q3 q4 q5 q6 q7 q8 : Pos} {a0 : Arg}
/-- no field -/
theorem hinit0 (T : XTxt P K C fI cc cda name qual params [supS M p0 p1 p2 p3 p4] scope) (S : SupOk P M qual scope fI cda cc p0 p1 p2 p3 p4) (Mo : L2.Mod K mg base) (kb : Keeps base s.heap) (hr : L2.Room 2 A)
    (hp : (params.posonlyargs ++ params.args).head? = some a0) (ha : a0.arg = "self") (hself : scope.names.lookup ("self" : Str) = some .local)
    (hb : ∀ x kV doc pm an ct s, BindsTo s (fnX name qual params [supS M p0 p1 p2 p3 p4] scope [("__class__", cc)] .none kV doc pm an (.ref cda) ct) ⟨[.ref x], []⟩ [("self", .ref x)])
    (hM : ∀ x h1, Keeps s.heap h1 → Msg P w M qual scope fI cda cc (fun y => [(("self" : Str), Value.ref x)].lookup y) h1) : HInit P w A s C fI [] [] := by
  intro A' R' h1 x t0 eA k hx0 hx hq
  subst eA
  refine init_go (s := { s with heap := h1 }) T S Mo (fun b o e => k b o (kb b o e)) hx (hr.make C [] []) hp (by rw [ha]; exact hself) (by rw [ha]; simp) (fun kV doc pm an ct => hb x kV doc pm an ct _) (fun y hy => ?_) (hM x h1 k) ?_
  · simp only [List.mem_singleton] at hy
    subst hy
    exact hself
  · intro A'' E' h' t' t1 k' e' hns
    exact wpAny_execs_nil (hq h' t' none k' ⟨t1, e'⟩ (.inl ⟨rfl, rfl⟩))
/-- one field -/
theorem hinit1 (T : XTxt P K C fI cc cda name qual params [supS M p0 p1 p2 p3 p4, stS f q1 q2 q3 q4] scope) (S : SupOk P M qual scope fI cda cc p0 p1 p2 p3 p4) (Mo : L2.Mod K mg base) (kb : Keeps base s.heap) (hr : L2.Room 2 A)
    (hp : (params.posonlyargs ++ params.args).head? = some a0) (ha : a0.arg = "self") (hself : scope.names.lookup ("self" : Str) = some .local) (hfl : scope.names.lookup f = some .local) (hfs : f ≠ "self") (hfd : (f == ("__debug__" : Str)) = false)
    (hno : findIn K (.ref C) f = some none)
    (hb : ∀ x kV doc pm an ct s, BindsTo s (fnX name qual params [supS M p0 p1 p2 p3 p4, stS f q1 q2 q3 q4] scope [("__class__", cc)] .none kV doc pm an (.ref cda) ct) ⟨[.ref x, v], []⟩ [("self", .ref x), (f, v)])
    (hsw : ∀ L, swapsWith (.Name f q3) (some (.Attribute (.Name "self" q1) f q2)) q4.line (ksEnv qual scope L fI (.ref cda) cc) = pure false)
    (hM : ∀ x h1, Keeps s.heap h1 → Msg P w M qual scope fI cda cc (fun y => [(f, v), (("self" : Str), Value.ref x)].lookup y) h1) : HInit P w A s C fI [v] [(f, v)] := by
  intro A' R' h1 x t0 eA k hx0 hx hq
  subst eA
  have l1 : ∀ x : Addr, [(f, v), (("self" : Str), Value.ref x)].lookup ("self" : Str) = some (.ref x) := fun x => by
    have q : (("self" : Str) == f) = false := by simpa using fun e => hfs e.symm
    simp [List.lookup, q]
  have l2 : ∀ x : Addr, [(f, v), (("self" : Str), Value.ref x)].lookup f = some v := fun x => by simp [List.lookup]
  refine init_go (s := { s with heap := h1 }) T S Mo (fun b o e => k b o (kb b o e)) hx (hr.make C [v] []) hp (by rw [ha]; exact hself) (by rw [ha]; exact l1 x) (fun kV doc pm an ct => hb x kV doc pm an ct _) (fun y hy => ?_) (hM x h1 k) ?_
  · simp only [List.mem_cons, List.not_mem_nil, or_false] at hy
    rcases hy with rfl | rfl
    · exact hself
    · exact hfl
  · intro A'' E' h' t' t1 k' e' hns
    obtain ⟨nm, q, N, bs, bm, sn, sub, ab, col, dd, k0, k1, k2, k3, k5, hC, hbm⟩ := T.cls
    have hcl : clsIn K C = some { name := nm, bases := bs, mro := .ref C :: bm, ns := N, qualname := q, hasDict := true, slotNames := sn, subclasses := sub, abstract := ab, collection := col, hasDel := false } := by unfold clsIn; rw [hC]
    have hxC : ∀ b o, K.lookup b = some o → b ≠ x := fun b o e z => by
      have y := kb b o (Mo.kin b o e)
      rw [z] at y
      exact absurd (Nat.lt_of_lt_of_le (Heap.lt_size y) hx0) (Nat.lt_irrefl _)
    have X' : K.In h' := fun b o e => k' b o (hxC b o e) (k b o (kb b o (Mo.kin b o e)))
    refine wpAny_execs_cons (plainObj_wpAny_Assign_Attribute ?_ (hsw _))
    refine ld_k (v := v) hns (l2 x) S.k hfl hfd (ld_k (v := .ref x) hns (l1 x) S.k hself (by decide +kernel) ?_)
    obtain ⟨hh, g, d, tk0, os⟩ := s
    refine set_plain X' (ox := excO C t1) (od := none) ⟨e', rfl, rfl, trivial⟩ T.sa ?_
    refine exc_osa X' e' hcl (show refsVE (.ref C :: bm) = true from hbm) rfl hno (fun h3 tk3 dx k3' dn dne hx3 hn3 => ?_)
    refine wpAny_execs_nil (hq h3 tk3 (some dx) (fun b o hb e => k3' b o hb (k' b o hb e)) ⟨t1, hx3⟩ (.inr ⟨dx, rfl, by simp, ?_, dne, hn3⟩))
    have : h1.objs.size ≤ h'.objs.size := Nat.le_of_lt hns.lt
    exact Nat.le_trans this dn
/-- two fields -/
theorem hinit2 (T : XTxt P K C fI cc cda name qual params [supS M p0 p1 p2 p3 p4, stS f q1 q2 q3 q4, stS f2 q5 q6 q7 q8] scope) (S : SupOk P M qual scope fI cda cc p0 p1 p2 p3 p4) (Mo : L2.Mod K mg base) (kb : Keeps base s.heap) (hr : L2.Room 2 A)
    (hp : (params.posonlyargs ++ params.args).head? = some a0) (ha : a0.arg = "self") (hself : scope.names.lookup ("self" : Str) = some .local) (hfl : scope.names.lookup f = some .local) (hfs : f ≠ "self") (hfd : (f == ("__debug__" : Str)) = false)
    (hfl2 : scope.names.lookup f2 = some .local) (hfs2 : f2 ≠ "self") (hff : f ≠ f2) (hfd2 : (f2 == ("__debug__" : Str)) = false)
    (hno : findIn K (.ref C) f = some none) (hno2 : findIn K (.ref C) f2 = some none)
    (hb : ∀ x kV doc pm an ct s, BindsTo s (fnX name qual params [supS M p0 p1 p2 p3 p4, stS f q1 q2 q3 q4, stS f2 q5 q6 q7 q8] scope [("__class__", cc)] .none kV doc pm an (.ref cda) ct) ⟨[.ref x, v, u], []⟩ [("self", .ref x), (f, v), (f2, u)])
    (hsw : ∀ L, swapsWith (.Name f q3) (some (.Attribute (.Name "self" q1) f q2)) q4.line (ksEnv qual scope L fI (.ref cda) cc) = pure false)
    (hsw2 : ∀ L, swapsWith (.Name f2 q7) (some (.Attribute (.Name "self" q5) f2 q6)) q8.line (ksEnv qual scope L fI (.ref cda) cc) = pure false)
    (hM : ∀ x h1, Keeps s.heap h1 → Msg P w M qual scope fI cda cc (fun y => [(f2, u), (f, v), (("self" : Str), Value.ref x)].lookup y) h1) : HInit P w A s C fI [v, u] [(f2, u), (f, v)] := by
  intro A' R' h1 x t0 eA k hx0 hx hq
  subst eA
  have b0 : (("self" : Str) == f) = false := by simpa using fun e => hfs e.symm
  have b1 : (("self" : Str) == f2) = false := by simpa using fun e => hfs2 e.symm
  have b2 : (f == f2) = false := by simpa using hff
  have l1 : ∀ x : Addr, [(f2, u), (f, v), (("self" : Str), Value.ref x)].lookup ("self" : Str) = some (.ref x) := fun x => by simp [List.lookup, b0, b1]
  have l2 : ∀ x : Addr, [(f2, u), (f, v), (("self" : Str), Value.ref x)].lookup f = some v := fun x => by simp [List.lookup, b2]
  have l3 : ∀ x : Addr, [(f2, u), (f, v), (("self" : Str), Value.ref x)].lookup f2 = some u := fun x => by simp [List.lookup]
  refine init_go (s := { s with heap := h1 }) T S Mo (fun b o e => k b o (kb b o e)) hx (hr.make C [v, u] []) hp (by rw [ha]; exact hself) (by rw [ha]; exact l1 x) (fun kV doc pm an ct => hb x kV doc pm an ct _) (fun y hy => ?_) (hM x h1 k) ?_
  · simp only [List.mem_cons, List.not_mem_nil, or_false] at hy
    rcases hy with rfl | rfl | rfl
    · exact hself
    · exact hfl
    · exact hfl2
  · intro A'' E' h' t' t1 k' e' hns
    obtain ⟨nm, q, N, bs, bm, sn, sub, ab, col, dd, k0, k1, k2, k3, k5, hC, hbm⟩ := T.cls
    have hcl : clsIn K C = some { name := nm, bases := bs, mro := .ref C :: bm, ns := N, qualname := q, hasDict := true, slotNames := sn, subclasses := sub, abstract := ab, collection := col, hasDel := false } := by unfold clsIn; rw [hC]
    have hxC : ∀ b o, K.lookup b = some o → b ≠ x := fun b o e z => by
      have y := kb b o (Mo.kin b o e)
      rw [z] at y
      exact absurd (Nat.lt_of_lt_of_le (Heap.lt_size y) hx0) (Nat.lt_irrefl _)
    have X' : K.In h' := fun b o e => k' b o (hxC b o e) (k b o (kb b o (Mo.kin b o e)))
    refine wpAny_execs_cons (plainObj_wpAny_Assign_Attribute ?_ (hsw _))
    refine ld_k (v := v) hns (l2 x) S.k hfl hfd (ld_k (v := .ref x) hns (l1 x) S.k hself (by decide +kernel) ?_)
    obtain ⟨hh, g, d, tk0, os⟩ := s
    refine set_plain X' (ox := excO C t1) (od := none) ⟨e', rfl, rfl, trivial⟩ T.sa ?_
    refine exc_osa X' e' hcl (show refsVE (.ref C :: bm) = true from hbm) rfl hno (fun h3 tk3 dx k3' dn dne hx3 hn3 => ?_)
    have hLx : h1.objs.size ≠ x := Nat.ne_of_gt (Heap.lt_size hx)
    have hns3 : h3.Ns h1.objs.size _ := get_upd_ne k3' hLx hns
    have X3 : K.In h3 := fun b o e => k3' b o (hxC b o e) (X' b o e)
    refine wpAny_execs_cons (plainObj_wpAny_Assign_Attribute ?_ (hsw2 _))
    refine ld_k (v := u) hns3 (l3 x) S.k hfl2 hfd2 (ld_k (v := .ref x) hns3 (l1 x) S.k hself (by decide +kernel) ?_)
    have hw : Within (mOf [(f, v)]) [f] := fun y hy => by
      by_cases e : y = f
      · simp [e]
      · simp [mOf, e] at hy
    obtain ⟨oD, _, _, hoD, _, _⟩ := hn3.count hw
    refine set_plain X3 (ox := { cls := .ref C, dict := some dx, data := .fields #[.ref t1, .none, .none, .none, .bool false, .none] }) (od := some oD) ⟨hx3, rfl, rfl, hoD⟩ T.sa ?_
    refine PySem.OEX.osa_old X3 hx3 hn3 hw (by show 1 ≤ 1000; decide) hcl (show refsVE (.ref C :: bm) = true from hbm) rfl hno2 (fun h4 tk4 k4' hn4 => ?_)
    have sz : h1.objs.size ≤ dx := Nat.le_trans (Nat.le_of_lt hns.lt) dn
    refine wpAny_execs_nil (hq h4 tk4 (some dx) (fun b o hb e => k4' b o (fun z => ?_) (k3' b o hb (k' b o hb e))) ⟨t1, k4' x _ (Ne.symm dne) hx3⟩ (.inr ⟨dx, rfl, by simp, sz, dne, hn4⟩))
    rw [z] at e
    exact absurd (Nat.lt_of_lt_of_le (Heap.lt_size e) sz) (Nat.lt_irrefl _)
end
end

/-! the messages -/
section
variable {P : Program} {w : World} {qual : Str} {scope : Scope} {fI cda cc : Addr} {m : Str → Option Value} {h0 : Heap}
/-- a part of a message: some text of at most n signs -/
def Part (P : Program) (w : World) (e : Expr) (qual : Str) (scope : Scope) (fI cda cc : Addr) (m : Str → Option Value) (h0 : Heap) (n : Nat) : Prop :=
  ∀ (A : Around) (E : Value → Shared → Prop) (L : Addr) (s : Shared) (QQ : Value → Shared → Prop), L2.Room 0 A → s.heap.Ns L m → Keeps h0 s.heap →
    (∀ z tk t2, z.length ≤ n → QQ (.str z tk) { s with toks := t2 }) → wpAny (model P w) A (eval e (ksEnv qual scope L fI (.ref cda) cc)) QQ E s
theorem part_const {x : Str} {j : Nat} {pos : Pos} {n : Nat} (h : x.length ≤ n) : Part P w (.Constant (.str x) j pos) qual scope fI cda cc m h0 n :=
  fun _ _ _ _ _ _ _ _ q => Calls.Constant_str (q _ _ _ h)
/-- {f}: a text, a small int or None -/
theorem part_fmt {f : Str} {p1 p2 : Pos} {v : Value} {n : Nat} (hk : scope.kind = .function) (hl : scope.names.lookup f = some .local) (hd : (f == ("__debug__" : Str)) = false) (hv : m f = some v)
    (h : (∃ x t, v = .str x t ∧ x.length ≤ n ∧ x.length ≤ sizeLine) ∨ (∃ i t, v = .int i t ∧ i.natAbs.log2 < 1920 ∧ (toString i : Str).length ≤ n) ∨ (v = .none ∧ 4 ≤ n)) : Part P w (.FormattedValue (.Name f p1) (-1) none p2) qual scope fI cda cc m h0 n := by
  intro A E L s QQ hr hns hk0 q
  refine wpAny_FormattedValue_plain (wpAny_Name (wpAny_loadName_local (v := v) hk hl hns hv ?_) hd)
  rcases h with ⟨x, t, rfl, h1, h2⟩ | ⟨i, t, rfl, h1, h2⟩ | ⟨rfl, h1⟩
  · exact wpAny_formatField_str (q _ _ s.toks h1) (q _ _ _ h1) h2
  · exact wpAny_formatField_int h1 (q _ _ _ h2)
  · exact wpAny_formatField_none (q _ _ _ h1)
theorem msg_const {x : Str} {j : Nat} {pos : Pos} : Msg P w (.Constant (.str x) j pos) qual scope fI cda cc m h0 :=
  fun _ _ _ _ _ _ _ _ _ _ _ _ q => Calls.Constant_str (q _ _ _ _ fun _ _ e => e)
/-- the parts joined -/
theorem parts_join {n : Nat} {A : Around} {E : Value → Shared → Prop} {L : Addr} (hr : L2.Room 0 A) : ∀ (es : List Expr) (acc : Str) (s : Shared) (QQ : Value → Shared → Prop), (∀ e ∈ es, Part P w e qual scope fI cda cc m h0 n) → acc.length + es.length * n ≤ sizeLine → s.heap.Ns L m → Keeps h0 s.heap →
    (∀ z tk t2, QQ (.str z tk) { s with toks := t2 }) → wpAny (model P w) A (joinParts acc (evalEach es (ksEnv qual scope L fI (.ref cda) cc))) QQ E s
  | [], acc, s, QQ, _, hz, _, _, q => by
    have e0 : evalEach [] (ksEnv qual scope L fI (.ref cda) cc) = [] := by first | rfl | simp [evalEach]
    rw [e0]
    exact joinParts_nil (q _ _ _) (by omega)
  | e :: es, acc, s, QQ, he, hz, hns, hk0, q => by
    have e0 : evalEach (e :: es) (ksEnv qual scope L fI (.ref cda) cc) = eval e (ksEnv qual scope L fI (.ref cda) cc) :: evalEach es (ksEnv qual scope L fI (.ref cda) cc) := by first | rfl | simp [evalEach]
    rw [e0]
    have hz' : acc.length + (es.length * n + n) ≤ sizeLine := by rw [List.length_cons, Nat.succ_mul] at hz; exact hz
    refine joinParts_cons (he e List.mem_cons_self A E L s _ hr hns hk0 fun z tk t2 hzl => ⟨by rw [strLen_append]; omega, ?_⟩)
    exact parts_join hr es (acc ++ z) { s with toks := t2 } QQ (fun e' h' => he e' (List.mem_cons_of_mem _ h')) (by rw [strLen_append]; omega) hns hk0 fun z tk t3 => q z tk t3
theorem msg_join {e1 e2 : Expr} {es : List Expr} {pos : Pos} {n : Nat} (h : ∀ e ∈ e1 :: e2 :: es, Part P w e qual scope fI cda cc m h0 n) (hz : (es.length + 2) * n ≤ sizeLine) : Msg P w (.JoinedStr (e1 :: e2 :: es) pos) qual scope fI cda cc m h0 := by
  intro A E L h1 g d t1 os QQ hr hns hk q
  have z0 : Str.empty.length = 0 := rfl
  exact JoinedStr_many (parts_join (n := n) hr (e1 :: e2 :: es) Str.empty ⟨h1, g, d, t1, os⟩ QQ h (by rw [z0]; simpa using hz) hns hk fun z tk t2 => q z tk h1 t2 fun _ _ e => e)
end
end Cw
namespace L2
open PySem PySem.Spec PyProof.Rows
section
variable {X : Cx}
theorem relO_mOf : ∀ {fs : List (Str × V)} {us : List (Str × Value)}, Paired (fun (p : Str × V) (q : Str × Value) => p.1 = q.1 ∧ RelV p.2 q.2) fs us → ∀ y, RelO (fs.lookup y) (Cw.mOf us y)
  | _, _, .nil, y => True.intro
  | (f, v) :: r, (f2, u) :: r2, .cons ⟨e, rv⟩ t, y => by
    have e' : f = f2 := e
    subst e'
    exact relO_put rv (fun g => relO_mOf t g) y
/-- the reading of C(..): C an own exception class with super().__init__(..) and the fields nf -/
def tMkX (C : Addr) (nf : List Str) (ok : List V → Hp → Prop) (ta : TA) : St → Hp → XK → Prop := fun σ H Q => ta σ H fun vs H1 => vs.length = nf.length ∧ ok vs H1 ∧
  (nf = [] → Q (.ref C) none H1) ∧ (nf ≠ [] → ∀ d, H1 d = none → Q (.ref C) (some d) (upd H1 d (.xd (nf.zip vs).reverse)))
theorem zip_rel : ∀ {nf : List Str} {vs : List V} {us : List Value}, Vals vs us → Paired (fun (p : Str × V) (q : Str × Value) => p.1 = q.1 ∧ RelV p.2 q.2) (nf.zip vs) (nf.zip us)
  | [], _, _, _ => .nil
  | _ :: _, _, _, .nil => .nil
  | _ :: _, _, _, .cons r t => .cons ⟨rfl, r⟩ (zip_rel t)
theorem pair_rev {α β : Type} {F : α → β → Prop} : ∀ {l1 : List α} {l2 : List β}, Paired F l1 l2 → Paired F l1.reverse l2.reverse
  | _, _, .nil => .nil
  | _, _, .cons r t => by
    rw [List.reverse_cons, List.reverse_cons]
    exact pair_app (pair_rev t) (.cons r .nil)
where pair_app : ∀ {l1 : List α} {l2 : List β} {m1 : List α} {m2 : List β}, Paired F l1 l2 → Paired F m1 m2 → Paired F (l1 ++ m1) (l2 ++ m2)
  | _, _, _, _, .nil, s => s
  | _, _, _, _, .cons r t, s => .cons r (pair_app t s)
/-- behind BaseException.__new__ and __init__ -/
theorem pmk_end {C fI cc cda : Addr} {name qual : Str} {params : Arguments} {body : List Stmt} {scope : Scope} {nf : List Str} {ok : List V → Hp → Prop}
    (T : Cw.XTxt X.prog X.K C fI cc cda name qual params body scope) {pins : List (Addr × Obj)} {σ : St} {H1 : Hp} {Q : XK} {s : Shared} {vs : List V} {us : List Value}
    (I1 : Inv X pins σ H1 s) (r1 : Vals vs us) (hn : vs.length = nf.length) (hz : nf.length ≤ 10) (hi : Cw.HInit X.prog X.w X.A s C fI us (nf.zip us).reverse)
    (q0 : nf = [] → Q (.ref C) none H1) (q1 : nf ≠ [] → ∀ d, H1 d = none → Q (.ref C) (some d) (upd H1 d (.xd (nf.zip vs).reverse))) :
    wpAny (model X.prog X.w) X.A (call (.ref C) us) (MkP X pins σ Q) X.xe s := by
  have hl : us.length = nf.length := (Paired.length r1).symm.trans hn
  refine wpAny_call (Cw.made_of (A := X.A) T I1.ok.mod I1.bk (by omega) hi fun h' tk' e dd M => ?_)
  · obtain ⟨hp, g, dr, tk, os⟩ := s
    show MkP X pins σ Q (.ref e) ⟨h', g, dr, tk', os⟩
    obtain ⟨oe, fv, hoe, hc, hd, hdat, h1⟩ := M.obj
    obtain ⟨G', g1, g2⟩ := restrict h' fun b => decide (b ≠ e)
    have gk : ∀ b, b ≠ e → G'.get? b = h'.get? b := fun b hb => g1 b (decide_eq_true hb)
    have ge : G'.get? e = none := g2 e (by simp)
    have old : ∀ b o, hp.get? b = some o → G'.get? b = some o := fun b o q => (gk b (Nat.ne_of_lt (Nat.lt_of_lt_of_le (Heap.lt_size q) M.new))).trans (M.keep b o q)
    have back : ∀ b o, G'.get? b = some o → h'.get? b = some o := fun b o q => by
      by_cases hb : b = e
      · rw [hb, ge] at q; cases q
      · exact (gk b hb).symm.trans q
    have hes : H1 e = none := I1.hok.fresh M.new
    rcases M.dic with ⟨hdd, hfs⟩ | ⟨dx, hdd, hfs, dnew, dne, hns⟩
    · have en : nf = [] := by
        cases nf with
        | nil => rfl
        | cons a r =>
          cases us with
          | nil => simp at hl
          | cons u ur => simp at hfs
      have J : Inv X pins σ H1 ⟨G', g, dr, tk', os⟩ := I1.kept (t' := tk') old
      exact ⟨e, oe, fv, ⟨G', g, dr, tk', os⟩, _, .ref C, none, rfl, J, back, ge, hoe, ⟨hc, hd.trans hdd⟩, hdat, h1, hes, rfl, I1.bare, raises_own T.exC T.tyC, q0 en⟩
    · have hdn : H1 dx = none := I1.hok.fresh dnew
      by_cases en : nf = []
      · subst en
        exact absurd rfl hfs
      · have ob : ObjOk X.prog X.w (upd H1 dx (.xd (nf.zip vs).reverse)) G' dx (.xd (nf.zip vs).reverse) :=
          ⟨_, hns.at (fun o q => (gk dx dne).trans q), relO_mOf (pair_rev (zip_rel r1))⟩
        have J : Inv X pins σ (upd H1 dx (.xd (nf.zip vs).reverse)) ⟨G', g, dr, tk', os⟩ := I1.laid (t' := tk') old dnew ob
        refine ⟨e, oe, fv, ⟨G', g, dr, tk', os⟩, _, .ref C, some dx, rfl, J, back, ge, hoe, ⟨hc, hd.trans hdd⟩, hdat, h1, ?_, rfl, I1.bare, raises_own T.exC T.tyC, q1 en dx hdn⟩
        rw [upd_ne (Ne.symm dne)]
        exact hes

/-- what the making of a C asks, whatever stands around -/
def XCls (P : Program) (w : World) (K : PySem.W.Frag) (mg : Str → Option Value) (base : Heap) (C fI : Addr) (nf : List Str) (ok : List V → Hp → Prop) : Prop :=
  ∀ (A : Around) (s : Shared) (us : List Value) (vs : List V) (H : Hp), Room 2 A → HOk P w H s.heap → Mod K mg base → Cw.Keeps base s.heap → Vals vs us → vs.length = nf.length → ok vs H → Cw.HInit P w A s C fI us (nf.zip us).reverse
variable {e : Expr} {es : List Expr} {ta : TA} {p pos : Pos} {C fI cc cda : Addr} {x name qual : Str} {params : Arguments} {body : List Stmt} {scope : Scope} {nf : List Str} {ok : List V → Hp → Prop}
/-- C(e, ..) -/
theorem pmk_x (T : Cw.XTxt X.prog X.K C fI cc cda name qual params body scope) (hc : XCls X.prog X.w X.K X.mg X.base C fI nf ok) (hz : nf.length ≤ 10) (hr : Room 2 X.A) (hm : X.mg x = some (.ref C)) (hg : Gl X x) (ha : PA X (e :: es) ta)
    (hdb : (x == ("__debug__" : Str)) = false := by decide) (he : starEach (e :: es) X.env = (false, eval e X.env) :: starEach es X.env := by rfl) (hpl : (backTo pos (starEach es X.env)).any (·.1) = false := by rfl) :
    PMk X (.Call (.Name x p) (e :: es) [] pos) (tMkX C nf ok ta) := by
  intro pins s σ H Q I h
  refine wpAny_Call_Name_kw (ld_glob I hg hm ?_ hdb)
  refine PySem.W.callWith_K (h₀ := X.base) I.ok.mod.kin T.kC (thn (ha.run pos pins s σ H _ I h) fun us s1 ⟨vs, H1, I1, r1, hn, hok, q0, q1⟩ => ⟨I1.kIn, ?_⟩) he hpl
  exact pmk_end (ok := ok) T I1 r1 hn hz (hc X.A s1 us vs H1 hr I1.hok I1.ok.mod I1.bk r1 hn hok) q0 q1
/-- C() -/
theorem pmk_x0 (T : Cw.XTxt X.prog X.K C fI cc cda name qual params body scope) (hc : XCls X.prog X.w X.K X.mg X.base C fI [] ok) (hr : Room 2 X.A) (hm : X.mg x = some (.ref C)) (hg : Gl X x) (hdb : (x == ("__debug__" : Str)) = false := by decide) :
    PMk X (.Call (.Name x p) [] [] pos) (tMkX C [] ok tNil) := by
  intro pins s σ H Q I h
  obtain ⟨_, hok, q0, q1⟩ := h
  refine wpAny_Call_Name_kw (ld_glob I hg hm ?_ hdb)
  exact PySem.W.callWith_K0 I.kIn T.kC (pmk_end (nf := []) (ok := ok) (us := []) T I .nil rfl (Nat.zero_le _) (hc X.A s [] [] H hr I.hok I.ok.mod I.bk .nil rfl hok) q0 q1)
end
section
/-- isinstance(e, c), e the error that the suite holds, of the class at D, with its own dict -/
def rIsX (K : PySem.W.Frag) (D a : Addr) (cls : Value) (d : Option Addr) : List V → Hp → VK → Prop := fun xs H Q => cls = .ref D ∧ (∃ dd fs, d = some dd ∧ H dd = some (.xd fs)) ∧
  ∃ (c : V) (cv : Value) (b : Bool), xs = [.ref a, c] ∧ (∀ u, RelV c u → u = cv) ∧ PySem.W.kitOne K (.ref D) cv = some b ∧ Q (.bl b) H
theorem call_isX {X : Cx} {a D : Addr} {oe : Obj} {cls : Value} {d : Option Addr} {pn : List (Addr × Obj)} (C : ExcC X.K D) (hz : Zc cls d oe) (hf : ∃ vs, oe.data = .fields vs) :
    CallR (X.suite a ((a, oe) :: pn)) (.builtin "isinstance") (rIsX X.K D a cls d) := by
  intro pins s σ H xs us Q I r h
  obtain ⟨ec, ⟨dd, fs, ed, hdd⟩, c, cv, b, rfl, hcv, e, q⟩ := h
  subst ec ed
  cases r with
  | cons rx rr =>
    cases rr with
    | cons rt rr =>
      cases rr
      cases rx
      have ec := hcv _ rt
      subst ec
      obtain ⟨hget, _⟩ := I.pin (a, oe) (List.mem_append.mpr (.inl List.mem_cons_self))
      obtain ⟨vs, hv⟩ := hf
      obtain ⟨mA, ⟨od, _, _, hod, _⟩, _⟩ := (I.hok dd _ hdd : ObjOk X.prog X.w H s.heap dd (.xd fs))
      have J : PySem.W.InstAt s.heap a oe D (some od) := ⟨hget, hz.1, by unfold PySem.W.notCls; rw [hv], by rw [hz.2]; exact hod⟩
      have hcl : (PySem.W.clsIn X.K D).isSome = true := by
        obtain ⟨cd, hc, _⟩ := PySem.W.any_some C.hd
        rw [hc]; rfl
      exact PySem.W.kia_one (PySem.W.kitx_exc hcl C.hg C.hk C.hs C.ha C.hn C.ht C.hm) I.kIn J e (fun z => nomatch z) fun tk => ⟨.bl b, H, I.kept (t' := tk) fun _ _ z => z, rfl, q⟩
end
end L2

namespace L2
open PySem PySem.Spec PyProof.Rows
section
variable {K : PySem.W.Frag} {H H' : Hp}
theorem same_new {p : Addr} {o : HO} (h : H p = none) : Same H (upd H p o) := fun b u q => by rw [upd_ne (ne_of_none q h)]; exact q
theorem Same.tup {a : Addr} {xs : List V} (e : Same H H') (h : SqT K H a xs) : SqT K H' a xs := by
  rcases h with (h | ⟨o, h⟩) | h
  · exact .inl (.inl (e _ _ h))
  · exact .inl (.inr ⟨o, e _ _ h⟩)
  · exact .inr h
mutual
theorem Dp.same (e : Same H H') : ∀ {v : V} {d : PyData}, Dp K H v d → Dp K H' v d
  | _, _, .non => .non
  | _, _, .bl b => .bl b
  | _, _, .int i => .int i
  | _, _, .str x => .str x
  | _, _, .lst h r => .lst (e.seq h) (DpAll.same e r)
  | _, _, .tup h r => .tup (e.tup h) (DpAll.same e r)
theorem DpAll.same (e : Same H H') : ∀ {vs : List V} {ds : List PyData}, DpAll K H vs ds → DpAll K H' vs ds
  | _, _, .nil => .nil
  | _, _, .cons h r => .cons (Dp.same e h) (DpAll.same e r)
end
/-- all but the list at r is kept -/
def But (r : Addr) (H H' : Hp) : Prop := ∀ b o, b ≠ r → H b = some o → H' b = some o
theorem But.refl (r : Addr) (H : Hp) : But r H H := fun _ _ _ e => e
theorem But.trans {r : Addr} {H H1 H2 : Hp} (a : But r H H1) (b : But r H1 H2) : But r H H2 := fun c o n e => b c o n (a c o n e)
theorem Same.but {r : Addr} (e : Same H H') : But r H H' := fun b o _ h => e b o h
theorem But.upd {r : Addr} {o : HO} (e : But r H H') : But r H (upd H' r o) := fun b u n h => by rw [upd_ne n]; exact e b u n h
theorem But.seq {r a : Addr} {xs : List V} (e : But r H H') (h : SqL K H a xs) (n : a ≠ r) : SqL K H' a xs := by
  rcases h with (h | ⟨o, h⟩) | h
  · exact .inl (.inl (e _ _ n h))
  · exact .inl (.inr ⟨o, e _ _ n h⟩)
  · exact .inr h
theorem dall_len : ∀ {vs : List V} {ds : List PyData}, DpAll K H vs ds → vs.length = ds.length
  | _, _, .nil => rfl
  | _, _, .cons _ r => by rw [List.length_cons, List.length_cons, dall_len r]
theorem dall_app : ∀ {vs ws : List V} {ds es : List PyData}, DpAll K H vs ds → DpAll K H ws es → DpAll K H (vs ++ ws) (ds ++ es)
  | _, _, _, _, .nil, s => s
  | _, _, _, _, .cons h r, s => .cons h (dall_app r s)
theorem dall_get : ∀ {vs : List V} {ds : List PyData} {i : Nat} {v : V}, DpAll K H vs ds → vs[i]? = some v → ∃ d, ds[i]? = some d ∧ Dp K H v d
  | _, _, 0, v, .cons h _, e => ⟨_, rfl, by cases e; exact h⟩
  | _, _, i + 1, v, .cons _ r, e => by
    obtain ⟨d, h1, h2⟩ := dall_get (i := i) (v := v) r (by simpa using e)
    exact ⟨d, by simpa using h1, h2⟩
theorem dp_tup {v : V} {ds : List PyData} (h : Dp K H v (.tuple ds)) : ∃ a xs, v = .ref a ∧ SqT K H a xs ∧ DpAll K H xs ds := by
  cases h with
  | tup h r => exact ⟨_, _, rfl, h, r⟩
theorem dp_str {v : V} {x : Str} (h : Dp K H v (.str x)) : v = .str x := by
  cases h
  rfl
end
end L2

namespace L2
open PySem PySem.Spec PyProof.Rows
/-! values that never change: None, bools, ints, texts and tuples of such -/
mutual
inductive Im (K : PySem.W.Frag) (H : Hp) : V → PyData → Prop
  | non : Im K H .non .none
  | bl (b : Bool) : Im K H (.bl b) (.bool b)
  | int (i : Int) : Im K H (.int i) (.int i)
  | str (x : Str) : Im K H (.str x) (.str x)
  | tup {a : Addr} {xs : List V} {ds : List PyData} : SqT K H a xs → Ims K H xs ds → Im K H (.ref a) (.tuple ds)
inductive Ims (K : PySem.W.Frag) (H : Hp) : List V → List PyData → Prop
  | nil : Ims K H [] []
  | cons {v : V} {vs : List V} {d : PyData} {ds : List PyData} : Im K H v d → Ims K H vs ds → Ims K H (v :: vs) (d :: ds)
end
/-- what was a tuple is one -/
structure Tk (H H' : Hp) : Prop where
  tup : ∀ b xs, H b = some (.tup xs) → H' b = some (.tup xs)
  frz : ∀ b o u, H b = some (.frz o u) → H' b = some (.frz o u)
section
variable {K : PySem.W.Frag} {H H' H2 : Hp}
theorem Tk.refl (H : Hp) : Tk H H := ⟨fun _ _ e => e, fun _ _ _ e => e⟩
theorem Tk.trans (a : Tk H H') (b : Tk H' H2) : Tk H H2 := ⟨fun c x e => b.tup c x (a.tup c x e), fun c o u e => b.frz c o u (a.frz c o u e)⟩
theorem Same.tk (e : Same H H') : Tk H H' := ⟨fun b _ h => e b _ h, fun b _ _ h => e b _ h⟩
theorem But.tk {r : Addr} {ys : List V} (e : But r H H') (h : H r = some (.lst ys)) : Tk H H' :=
  ⟨fun b _ g => e b _ (fun z => by rw [z, h] at g; cases g) g, fun b _ _ g => e b _ (fun z => by rw [z, h] at g; cases g) g⟩
theorem Tk.sq (e : Tk H H') {a : Addr} {xs : List V} (h : SqT K H a xs) : SqT K H' a xs := by
  rcases h with (h | ⟨o, h⟩) | h
  · exact .inl (.inl (e.tup _ _ h))
  · exact .inl (.inr ⟨o, e.frz _ _ _ h⟩)
  · exact .inr h
mutual
theorem Im.tk (e : Tk H H') : ∀ {v : V} {d : PyData}, Im K H v d → Im K H' v d
  | _, _, .non => .non
  | _, _, .bl b => .bl b
  | _, _, .int i => .int i
  | _, _, .str x => .str x
  | _, _, .tup h r => .tup (e.sq h) (Ims.tk e r)
theorem Ims.tk (e : Tk H H') : ∀ {vs : List V} {ds : List PyData}, Ims K H vs ds → Ims K H' vs ds
  | _, _, .nil => .nil
  | _, _, .cons h r => .cons (Im.tk e h) (Ims.tk e r)
end
mutual
theorem Im.dp : ∀ {v : V} {d : PyData}, Im K H v d → Dp K H v d
  | _, _, .non => .non
  | _, _, .bl b => .bl b
  | _, _, .int i => .int i
  | _, _, .str x => .str x
  | _, _, .tup h r => .tup h (Ims.dp r)
theorem Ims.dp : ∀ {vs : List V} {ds : List PyData}, Ims K H vs ds → DpAll K H vs ds
  | _, _, .nil => .nil
  | _, _, .cons h r => .cons (Im.dp h) (Ims.dp r)
end
theorem Im.same (e : Same H H') {v : V} {d : PyData} (h : Im K H v d) : Im K H' v d := h.tk e.tk
theorem Ims.same (e : Same H H') {v : List V} {d : List PyData} (h : Ims K H v d) : Ims K H' v d := h.tk e.tk
theorem Ims.len : ∀ {vs : List V} {ds : List PyData}, Ims K H vs ds → vs.length = ds.length
  | _, _, .nil => rfl
  | _, _, .cons _ r => by rw [List.length_cons, List.length_cons, Ims.len r]
theorem Ims.app : ∀ {vs ws : List V} {ds es : List PyData}, Ims K H vs ds → Ims K H ws es → Ims K H (vs ++ ws) (ds ++ es)
  | _, _, _, _, .nil, s => s
  | _, _, _, _, .cons h r, s => .cons h (Ims.app r s)
theorem Ims.get : ∀ {vs : List V} {ds : List PyData} {i : Nat} {v : V}, Ims K H vs ds → vs[i]? = some v → ∃ d, ds[i]? = some d ∧ Im K H v d
  | _, _, 0, v, .cons h _, e => ⟨_, rfl, by cases e; exact h⟩
  | _, _, i + 1, v, .cons _ r, e => by
    obtain ⟨d, h1, h2⟩ := Ims.get (i := i) (v := v) r (by simpa using e)
    exact ⟨d, by simpa using h1, h2⟩
theorem Im.tupI {v : V} {ds : List PyData} (h : Im K H v (.tuple ds)) : ∃ a xs, v = .ref a ∧ SqT K H a xs ∧ Ims K H xs ds := by
  cases h with
  | tup h r => exact ⟨_, _, rfl, h, r⟩
theorem Im.strI {v : V} {x : Str} (h : Im K H v (.str x)) : v = .str x := by
  cases h
  rfl
theorem Ims.two {vs : List V} {d e : PyData} (h : Ims K H vs [d, e]) : ∃ x y, vs = [x, y] ∧ Im K H x d ∧ Im K H y e := by
  cases h with
  | cons h1 r =>
    cases r with
    | cons h2 r =>
      cases r
      exact ⟨_, _, rfl, h1, h2⟩
/-- a new tuple of such -/
theorem Im.new {p : Addr} {xs : List V} {ds : List PyData} (hp : H p = none) (h : Ims K H xs ds) : Im K (upd H p (.tup xs)) (.ref p) (.tuple ds) :=
  .tup (.inl (.inl upd_same)) (h.same (same_new hp))
end
end L2

namespace Cw
open PySem
/-! texts as lists of codes -/
def S (l : List Nat) : Str := ⟨l.toArray⟩
theorem S_app (l m : List Nat) : S l ++ S m = S (l ++ m) := by
  show Str.append (S l) (S m) = S (l ++ m)
  simp [Str.append, S]
theorem S_len (l : List Nat) : (S l).length = l.length := by simp [S, Str.length]
theorem S_inj {l m : List Nat} (h : S l = S m) : l = m := by
  have := congrArg (fun x : Str => x.cps.toList) h
  simpa [S] using this
theorem S_list (l : List Nat) : (S l).cps.toList = l := by simp [S]
theorem S_cps (x : Str) : S x.cps.toList = x := by cases x; simp [S]
theorem S_a : ("a" : Str) = S [97] := by decide +kernel
theorem S_b : ("b" : Str) = S [98] := by decide +kernel
theorem S_c : ("c" : Str) = S [99] := by decide +kernel
theorem S_nil : ("" : Str) = S [] := by decide +kernel
theorem S_dash : ("-" : Str) = S [45] := by decide +kernel
theorem S_op : ("[" : Str) = S [91] := by decide +kernel
theorem S_cl : ("]" : Str) = S [93] := by decide +kernel

/-- a thing in a folder: none, a file, a folder of what stands under a, b, c -/
inductive Th where
  | non | file | dir (a b c : Th)
  deriving DecidableEq
namespace Th
/-- a folder's depth -/
def dep : Th → Nat
  | dir a b c => max (max (dep a) (dep b)) (dep c) + 1
  | _ => 0
def isDir : Th → Bool
  | dir _ _ _ => true
  | _ => false
def en (n : Nat) : Th → List (Nat × Th)
  | non => []
  | t => [(n, t)]
def ents : Th → List (Nat × Th)
  | dir a b c => en 97 a ++ en 98 b ++ en 99 c
  | _ => []
def eD (n : Nat) (t : Th) (d : PyData) : List PyData := match t with
  | non => []
  | _ => [.tuple [.str (S [n]), d]]
/-- a thing as data -/
def D : Th → PyData
  | non => .none
  | file => .str "file"
  | dir a b c => .tuple (eD 97 a (D a) ++ eD 98 b (D b) ++ eD 99 c (D c))
def xe (n : Nat) (t : Th) (x : List Nat) : List Nat := match t with
  | non => []
  | file => [n, 45]
  | dir _ _ _ => n :: 91 :: (x ++ [93])
/-- a folder's text -/
def tx : Th → List Nat
  | dir a b c => xe 97 a (tx a) ++ xe 98 b (tx b) ++ xe 99 c (tx c)
  | _ => []
def pD (p : Nat × Th) : PyData := .tuple [.str (S [p.1]), D p.2]
def pX (p : Nat × Th) : List Nat := xe p.1 p.2 (tx p.2)
theorem eD_en (n : Nat) (t : Th) : eD n t (D t) = (en n t).map pD := by cases t <;> rfl
theorem D_dir (t : Th) (h : t.isDir = true) : D t = .tuple (t.ents.map pD) := by
  cases t with
  | dir a b c => simp only [D, ents, eD_en, List.map_append]
  | _ => cases h
theorem xe_en (n : Nat) (t : Th) : xe n t (tx t) = (en n t).flatMap pX := by cases t <;> simp [xe, en, pX]
theorem tx_ents (t : Th) : tx t = t.ents.flatMap pX := by
  cases t with
  | dir a b c => simp only [tx, ents, xe_en, List.flatMap_append]
  | _ => rfl
theorem en_mem {n : Nat} {t : Th} {p : Nat × Th} (h : p ∈ en n t) : p = (n, t) ∧ t ≠ non := by
  cases t <;> simp [en] at h <;> simp [h]
theorem ents_mem {t : Th} {p : Nat × Th} (h : p ∈ t.ents) : (p.1 = 97 ∨ p.1 = 98 ∨ p.1 = 99) ∧ p.2 ≠ non ∧ p.2.dep < t.dep := by
  cases t with
  | dir a b c =>
    simp only [ents, List.mem_append] at h
    rcases h with (h | h) | h <;> obtain ⟨rfl, h2⟩ := en_mem h <;> simp only [dep, true_or, or_true, true_and] <;> refine ⟨h2, ?_⟩ <;> omega
  | _ => cases h
theorem dep_pos {t : Th} (h : t.isDir = true) : 1 ≤ t.dep := by
  cases t with
  | dir a b c => simp [dep]
  | _ => cases h
theorem ents_len (t : Th) : t.ents.length ≤ 3 := by
  cases t with
  | dir a b c => cases a <;> cases b <;> cases c <;> simp [ents, en]
  | _ => simp [ents]
end Th
open Th
/-- a thing's data is a file's just if it is one -/
theorem eqv_file (t : Th) (h : t ≠ non) : PyData.eqv (D t) (.str "file") = decide (t = file) := by
  cases t with
  | non => exact absurd rfl h
  | file => decide +kernel
  | dir a b c => rfl
mutual
/-- equality of data is equality, where no number stands -/
def noNum : PyData → Bool
  | .none | .str _ => true
  | .tuple ds => noNums ds
  | .list ds => noNums ds
  | _ => false
def noNums : List PyData → Bool
  | [] => true
  | d :: ds => noNum d && noNums ds
end
mutual
theorem eqv_iff : ∀ (d e : PyData), noNum d = true → (PyData.eqv d e = true ↔ d = e)
  | .none, e, _ => by cases e <;> simp [PyData.eqv]
  | .str x, e, _ => by cases e <;> simp [PyData.eqv]
  | .tuple ds, e, h => by
    cases e with
    | tuple es =>
      have q := eqvs_iff ds es (by simpa [noNum] using h)
      simp only [PyData.eqv, PyData.tuple.injEq]
      exact q
    | _ => simp [PyData.eqv]
  | .list ds, e, h => by
    cases e with
    | list es =>
      have q := eqvs_iff ds es (by simpa [noNum] using h)
      simp only [PyData.eqv, PyData.list.injEq]
      exact q
    | _ => simp [PyData.eqv]
  | .bool _, _, h => by simp [noNum] at h
  | .int _, _, h => by simp [noNum] at h
  | .dict _, _, h => by simp [noNum] at h
theorem eqvs_iff : ∀ (ds es : List PyData), noNums ds = true → (PyData.eqvAll ds es = true ↔ ds = es)
  | [], es, _ => by cases es <;> simp [PyData.eqvAll]
  | d :: ds, es, h => by
    simp only [noNums, Bool.and_eq_true] at h
    cases es with
    | nil => simp [PyData.eqvAll]
    | cons e es =>
      have q1 := eqv_iff d e h.1
      have q2 := eqvs_iff ds es h.2
      simp only [PyData.eqvAll, Bool.and_eq_true, List.cons.injEq]
      rw [q1, q2]
end
theorem noNums_app : ∀ (a b : List PyData), noNums (a ++ b) = (noNums a && noNums b)
  | [], b => by simp [noNums]
  | x :: a, b => by simp [noNums, noNums_app a b, Bool.and_assoc]
theorem noNum_D : ∀ t : Th, noNum (D t) = true
  | non => rfl
  | file => rfl
  | dir a b c => by
    have h : ∀ n t, noNum (D t) = true → noNums (eD n t (D t)) = true := fun n t h => by cases t <;> simp [eD, noNums, noNum] at h ⊢ <;> exact h
    simp [D, noNum, noNums_app, h _ _ (noNum_D a), h _ _ (noNum_D b), h _ _ (noNum_D c)]
theorem lay_str {l : List Nat} (h : ∀ c ∈ l, c < 0x110000) : PyData.canLay0 (.str (S l)) = true := by
  simpa [PyData.canLay0, PyData.strOk, S] using h
theorem layAll_app : ∀ a b : List PyData, PyData.canLayAll0 (a ++ b) = (PyData.canLayAll0 a && PyData.canLayAll0 b)
  | [], b => by simp [PyData.canLayAll0]
  | x :: a, b => by simp [PyData.canLayAll0, layAll_app a b, Bool.and_assoc]
theorem depthAll_app : ∀ a b : List PyData, PyData.depthAll (a ++ b) = max (PyData.depthAll a) (PyData.depthAll b)
  | [], b => by simp [PyData.depthAll]
  | x :: a, b => by simp [PyData.depthAll, depthAll_app a b, Nat.max_assoc]
theorem lay_eD {n : Nat} {t : Th} (hn : n < 0x110000) (h : PyData.canLay0 (D t) = true) : PyData.canLayAll0 (eD n t (D t)) = true := by
  have q : PyData.canLay0 (.str (S [n])) = true := lay_str (by simpa using hn)
  have r : PyData.canLayAll0 [.tuple [.str (S [n]), D t]] = true := by
    simp only [PyData.canLayAll0, PyData.canLay0, h, Bool.and_true]
    simpa only [PyData.canLay0] using q
  cases t with
  | non => rfl
  | file => exact r
  | dir _ _ _ => exact r
theorem lay_D : ∀ t : Th, PyData.canLay0 (D t) = true
  | non => rfl
  | file => by decide +kernel
  | dir a b c => by
    simp [D, PyData.canLay0, layAll_app, lay_eD (n := 97) (by decide) (lay_D a), lay_eD (n := 98) (by decide) (lay_D b), lay_eD (n := 99) (by decide) (lay_D c)]
theorem depth_D : ∀ t : Th, (D t).depth ≤ 2 * t.dep
  | non => Nat.le_refl 0
  | file => Nat.le_refl 0
  | dir a b c => by
    have h : ∀ n t, PyData.depthAll (eD n t (D t)) ≤ (D t).depth + 1 := fun n t => by
      cases t <;> simp [eD, PyData.depthAll, PyData.depth]
    have ha := h 97 a
    have hb := h 98 b
    have hc := h 99 c
    have ia := depth_D a
    have ib := depth_D b
    have ic := depth_D c
    simp only [D, PyData.depth, depthAll_app, Th.dep]
    omega
theorem shaped_D {t : Th} (h : t.dep ≤ 32) : SeqAt.shaped (D t) = true := by
  have := depth_D t
  simp only [SeqAt.shaped, lay_D t, Bool.true_and, decide_eq_true_eq]
  omega
theorem shaped_file : SeqAt.shaped (.str "file") = true := by decide +kernel
end Cw

namespace Cw
open PySem
/-! reading the text of a tree -/
inductive Out (α : Type) where
  | ok (a : α) (rest : List Nat)
  | bad (rest : List Nat)
def isNm (c : Nat) : Bool := c == 97 || c == 98 || c == 99
/-- a folder of these entries -/
def ofE (n : Nat) (es : List (Nat × Th)) : Th := (es.lookup n).getD .non
def ofEs (es : List (Nat × Th)) : Th := .dir (ofE 97 es) (ofE 98 es) (ofE 99 es)
mutual
def pC : Nat → Nat → List Nat → Out (List (Nat × Th))
  | 0, _, l => .bad l
  | f + 1, last, [] => .ok [] []
  | f + 1, last, c :: r =>
    if isNm c = true then
      if c ≤ last then .bad (c :: r) else
        match pT f r with
        | .bad x => .bad x
        | .ok t r' =>
          match pC f c r' with
          | .bad x => .bad x
          | .ok es r'' => .ok ((c, t) :: es) r''
    else .ok [] (c :: r)
def pT : Nat → List Nat → Out Th
  | 0, l => .bad l
  | f + 1, [] => .bad []
  | f + 1, c :: r =>
    if c = 45 then .ok .file r
    else if c = 91 then
      match pC f 0 r with
      | .bad x => .bad x
      | .ok es [] => .bad []
      | .ok es (d :: r') => if d = 93 then .ok (ofEs es) r' else .bad (d :: r')
    else .bad (c :: r)
end
/-- brackets open -/
def bal : List Nat → Int
  | [] => 0
  | c :: r => (if c = 91 then 1 else if c = 93 then -1 else 0) + bal r
theorem bal_app : ∀ a b : List Nat, bal (a ++ b) = bal a + bal b
  | [], b => by simp [bal]
  | c :: a, b => by simp [bal, bal_app a b]; omega
/-- no more than m brackets are ever open -/
def Flat (m : Int) (l : List Nat) : Prop := ∀ i, bal (l.take i) ≤ m
theorem Flat.drop {m : Int} {a b : List Nat} (h : Flat m (a ++ b)) : Flat (m - bal a) b := fun i => by
  have := h (a.length + i)
  rw [List.take_append, List.take_of_length_le (by omega), bal_app] at this
  simp only [Nat.add_sub_cancel_left] at this
  omega
theorem isNm_bal {c : Nat} (h : isNm c = true) : bal [c] = 0 := by
  simp only [isNm, Bool.or_eq_true, beq_iff_eq] at h
  rcases h with (rfl | rfl) | rfl <;> rfl
/-- what is read: ahead of the rest, its brackets closed; names ascend; nothing read is no thing -/
theorem read_spec : ∀ f : Nat, (∀ last l es r, pC f last l = .ok es r → (∃ a, l = a ++ r ∧ bal a = 0) ∧ (r = [] ∨ ∃ c r', r = c :: r' ∧ isNm c = false) ∧ (∀ p ∈ es, isNm p.1 = true ∧ last < p.1 ∧ p.2 ≠ .non) ∧ es.Pairwise (fun p q => p.1 < q.1)) ∧
    (∀ l t r, pT f l = .ok t r → (∃ a, l = a ++ r ∧ bal a = 0 ∧ a ≠ []) ∧ t ≠ .non)
  | 0 => ⟨fun last l es r h => by simp [pC] at h, fun l t r h => by simp [pT] at h⟩
  | f + 1 => by
    obtain ⟨ihC, ihT⟩ := read_spec f
    refine ⟨fun last l es r h => ?_, fun l t r h => ?_⟩
    · cases l with
      | nil =>
        simp only [pC, Out.ok.injEq] at h
        obtain ⟨rfl, rfl⟩ := h
        exact ⟨⟨[], rfl, rfl⟩, .inl rfl, by simp, .nil⟩
      | cons c r0 =>
        simp only [pC] at h
        split at h
        · rename_i hc
          split at h
          · cases h
          · rename_i hlast
            split at h
            · cases h
            · rename_i t r1 hT
              split at h
              · cases h
              · rename_i es' r2 hC
                cases h
                obtain ⟨⟨a1, rfl, b1, _⟩, tn⟩ := ihT _ _ _ hT
                obtain ⟨⟨a2, rfl, b2⟩, e2, h3, h4⟩ := ihC _ _ _ _ hC
                refine ⟨⟨c :: (a1 ++ a2), by simp, ?_⟩, e2, ?_, ?_⟩
                · have := isNm_bal hc
                  simp only [bal, bal_app] at this ⊢
                  omega
                · intro p hp
                  rcases List.mem_cons.mp hp with rfl | hp
                  · exact ⟨hc, by omega, tn⟩
                  · obtain ⟨q1, q2, q3⟩ := h3 p hp
                    exact ⟨q1, by omega, q3⟩
                · exact .cons (fun p hp => (h3 p hp).2.1) h4
        · rename_i hc
          cases h
          exact ⟨⟨[], rfl, rfl⟩, .inr ⟨c, r0, rfl, by simpa using hc⟩, by simp, .nil⟩
    · cases l with
      | nil => simp [pT] at h
      | cons c r0 =>
        simp only [pT] at h
        split at h
        · rename_i hc
          cases h
          subst hc
          exact ⟨⟨[45], rfl, rfl, by simp⟩, by intro z; cases z⟩
        · split at h
          · rename_i hc
            subst hc
            split at h
            · cases h
            · cases h
            · rename_i es d r1 hC
              split at h
              · rename_i hd
                subst hd
                cases h
                obtain ⟨⟨a, rfl, b⟩, _⟩ := ihC _ _ _ _ hC
                refine ⟨⟨91 :: (a ++ [93]), by simp, ?_, by simp⟩, by intro z; cases z⟩
                simp only [bal, bal_app, b]
                rfl
              · cases h
          · cases h
theorem lookup_none_of {n : Nat} : ∀ {es : List (Nat × Th)}, (∀ p ∈ es, n < p.1) → es.lookup n = none
  | [], _ => rfl
  | p :: es, h => by
    have := h p List.mem_cons_self
    have q : (n == p.1) = false := by simp; omega
    simp only [List.lookup, q]
    exact lookup_none_of fun r hr => h r (List.mem_cons_of_mem _ hr)
theorem ents_ofEs {es : List (Nat × Th)} (h1 : ∀ p ∈ es, isNm p.1 = true ∧ p.2 ≠ .non) (h2 : es.Pairwise (fun p q => p.1 < q.1)) : (ofEs es).ents = es := by
  have en1 : ∀ n (t : Th), t ≠ .non → Th.en n t = [(n, t)] := fun n t h => by cases t <;> first | exact absurd rfl h | rfl
  have key : ∀ (n : Nat) (es : List (Nat × Th)), (∀ p ∈ es, n ≤ p.1 ∧ p.2 ≠ .non) → es.Pairwise (fun p q => p.1 < q.1) → ∃ r, es = Th.en n (ofE n es) ++ r ∧ (∀ p ∈ r, n < p.1) ∧ (∀ m, n < m → ofE m es = ofE m r) := by
    intro n es h1 h2
    cases es with
    | nil => exact ⟨[], rfl, by simp, fun m _ => rfl⟩
    | cons p es =>
      obtain ⟨c, t⟩ := p
      have hc := h1 (c, t) List.mem_cons_self
      cases h2 with
      | cons ha hb =>
      by_cases e : c = n
      · subst e
        refine ⟨es, ?_, fun p hp => ha p hp, fun m hm => ?_⟩
        · have : ofE c ((c, t) :: es) = t := by simp [ofE, List.lookup]
          rw [this, en1 c t hc.2]
          rfl
        · have q : (m == c) = false := by simp; omega
          simp [ofE, List.lookup, q]
      · have hlt : n < c := by
          have := hc.1
          dsimp only at this
          omega
        have hall : ∀ q ∈ (c, t) :: es, n < q.1 := fun q hq => by
          rcases List.mem_cons.mp hq with rfl | hq
          · exact hlt
          · have := ha q hq
            dsimp only at this
            omega
        refine ⟨(c, t) :: es, ?_, hall, fun m _ => rfl⟩
        have : ofE n ((c, t) :: es) = .non := by unfold ofE; rw [lookup_none_of hall]; rfl
        rw [this]
        rfl
  have nm : ∀ p ∈ es, (p.1 = 97 ∨ p.1 = 98 ∨ p.1 = 99) := fun p hp => by
    have := (h1 p hp).1
    simpa [isNm, or_assoc] using this
  obtain ⟨r1, e1, g1, k1⟩ := key 97 es (fun p hp => ⟨by rcases nm p hp with h | h | h <;> omega, (h1 p hp).2⟩) h2
  have m1 : ∀ p ∈ r1, p ∈ es := fun p hp => by rw [e1]; exact List.mem_append_right _ hp
  have p1 : r1.Pairwise (fun p q => p.1 < q.1) := by rw [e1] at h2; exact (List.pairwise_append.mp h2).2.1
  obtain ⟨r2, e2, g2, k2⟩ := key 98 r1 (fun p hp => ⟨g1 p hp, (h1 p (m1 p hp)).2⟩) p1
  have m2 : ∀ p ∈ r2, p ∈ r1 := fun p hp => by rw [e2]; exact List.mem_append_right _ hp
  have p2 : r2.Pairwise (fun p q => p.1 < q.1) := by rw [e2] at p1; exact (List.pairwise_append.mp p1).2.1
  obtain ⟨r3, e3, g3, k3⟩ := key 99 r2 (fun p hp => ⟨g2 p hp, (h1 p (m1 p (m2 p hp))).2⟩) p2
  have z3 : r3 = [] := by
    cases r3 with
    | nil => rfl
    | cons p r =>
      have a := g3 p List.mem_cons_self
      have b := nm p (m1 p (m2 p (by rw [e3]; exact List.mem_append_right _ List.mem_cons_self)))
      rcases b with b | b | b <;> omega
  subst z3
  show Th.en 97 (ofE 97 es) ++ Th.en 98 (ofE 98 es) ++ Th.en 99 (ofE 99 es) = es
  rw [k1 98 (by decide), k1 99 (by decide), k2 99 (by decide)]
  conv => rhs; rw [e1, e2, e3]
  simp
/-- the law's own reading: waits, last, pile, what is left; the rest at the first fault -/
def scan : Bool → Nat → List Nat → List Nat → Option (List Nat)
  | w, _, pile, [] => if w = true ∨ pile ≠ [] then some [] else none
  | true, last, pile, c :: r => if c = 45 then scan false last pile r else if c = 91 then scan false 0 (last :: pile) r else some (c :: r)
  | false, last, [], c :: r => if isNm c = true ∧ last < c then scan true c [] r else some (c :: r)
  | false, last, x :: pile, c :: r => if c = 93 then scan false x pile r else if isNm c = true ∧ last < c then scan true c (x :: pile) r else some (c :: r)
theorem scan_nm {last c : Nat} {pile r : List Nat} (h : isNm c = true) : scan false last pile (c :: r) = if last < c then scan true c pile r else some (c :: r) := by
  have n93 : ¬ c = 93 := by rintro rfl; simp [isNm] at h
  cases pile <;> simp [scan, h, n93]
theorem scan_no {last c : Nat} {pile r : List Nat} (h : isNm c = false) (h93 : c ≠ 93) : scan false last pile (c :: r) = some (c :: r) := by
  cases pile <;> simp [scan, h, h93]
theorem scan_read : ∀ f : Nat, (∀ last pile l, l.length < f → match pC f last l with | .bad x => scan false last pile l = some x | .ok es r => ∃ last', scan false last pile l = scan false last' pile r) ∧
    (∀ last pile l, l.length < f → match pT f l with | .bad x => scan true last pile l = some x | .ok t r => scan true last pile l = scan false last pile r)
  | 0 => ⟨fun _ _ _ h => absurd h (Nat.not_lt_zero _), fun _ _ _ h => absurd h (Nat.not_lt_zero _)⟩
  | f + 1 => by
    obtain ⟨ihC, ihT⟩ := scan_read f
    obtain ⟨spC, spT⟩ := read_spec f
    refine ⟨fun last pile l hl => ?_, fun last pile l hl => ?_⟩
    · cases l with
      | nil => simp only [pC]; exact ⟨last, rfl⟩
      | cons c r =>
        have hr : r.length < f := by simpa using hl
        simp only [pC]
        by_cases hc : isNm c = true
        · rw [if_pos hc]
          by_cases hlast : c ≤ last
          · rw [if_pos hlast]
            rw [scan_nm hc, if_neg (by omega)]
          · rw [if_neg hlast]
            have iT := ihT c pile r hr
            rw [scan_nm hc, if_pos (by omega)]
            cases hT : pT f r with
            | bad x =>
              rw [hT] at iT
              exact iT
            | ok t r1 =>
              rw [hT] at iT
              have hr1 : r1.length < f := by
                obtain ⟨⟨a, rfl, _⟩, _⟩ := spT _ _ _ hT
                rw [List.length_append] at hr
                omega
              have iC := ihC c pile r1 hr1
              dsimp only at iT ⊢
              cases hC : pC f c r1 with
              | bad x =>
                rw [hC] at iC
                exact iT.trans iC
              | ok es r2 =>
                rw [hC] at iC
                obtain ⟨last', e⟩ := iC
                exact ⟨last', iT.trans e⟩
        · rw [if_neg hc]
          exact ⟨last, rfl⟩
    · cases l with
      | nil => simp [pT, scan]
      | cons c r =>
        have hr : r.length < f := by simpa using hl
        simp only [pT, scan]
        by_cases h45 : c = 45
        · rw [if_pos h45, if_pos h45]
        · rw [if_neg h45, if_neg h45]
          by_cases h91 : c = 91
          · rw [if_pos h91, if_pos h91]
            have iC := ihC 0 (last :: pile) r hr
            cases hC : pC f 0 r with
            | bad x =>
              rw [hC] at iC
              exact iC
            | ok es r1 =>
              rw [hC] at iC
              obtain ⟨last', e⟩ := iC
              obtain ⟨_, hend, _⟩ := spC _ _ _ _ hC
              cases r1 with
              | nil => rw [e]; simp [scan]
              | cons d r2 =>
                dsimp only
                rcases hend with hend | ⟨c', r', e', hn⟩
                · cases hend
                · cases e'
                  by_cases hd : d = 93
                  · subst hd
                    rw [if_pos rfl, e]
                    simp [scan]
                  · rw [if_neg hd]
                    rw [e]
                    exact scan_no hn hd
          · rw [if_neg h91, if_neg h91]
end Cw

namespace Cw
open PySem
theorem Flat.mono {m n : Int} {l : List Nat} (h : Flat m l) (e : m ≤ n) : Flat n l := fun i => Int.le_trans (h i) e
theorem tx_ofEs {f last : Nat} {l r : List Nat} {es : List (Nat × Th)} (h : pC f last l = .ok es r) : (ofEs es).tx = es.flatMap Th.pX := by
  obtain ⟨_, _, h3, h4⟩ := (read_spec f).1 _ _ _ _ h
  rw [Th.tx_ents, ents_ofEs (fun p hp => ⟨(h3 p hp).1, (h3 p hp).2.2⟩) h4]
theorem dep_ofE {n m : Nat} {es : List (Nat × Th)} (h : ∀ p ∈ es, p.2.dep ≤ m) : (ofE n es).dep ≤ m := by
  unfold ofE
  cases e : es.lookup n with
  | none => exact Nat.zero_le _
  | some t =>
    have : (n, t) ∈ es := by
      induction es with
      | nil => cases e
      | cons p es ih =>
        obtain ⟨a, b⟩ := p
        by_cases q : n = a
        · subst q
          simp [List.lookup] at e
          rw [e]; exact List.mem_cons_self
        · have : (n == a) = false := by simpa using q
          simp only [List.lookup, this] at e
          exact List.mem_cons_of_mem _ (ih (fun p hp => h p (List.mem_cons_of_mem _ hp)) e)
    exact h _ this
theorem read_text : ∀ f : Nat, (∀ last l es r, pC f last l = .ok es r → l = es.flatMap Th.pX ++ r ∧ ∀ m : Nat, Flat m l → ∀ p ∈ es, p.2.dep ≤ m) ∧
    (∀ l t r, pT f l = .ok t r → (∀ n, n :: l = Th.pX (n, t) ++ r) ∧ ∀ m : Nat, Flat m l → t.dep ≤ m)
  | 0 => ⟨fun last l es r h => by simp [pC] at h, fun l t r h => by simp [pT] at h⟩
  | f + 1 => by
    obtain ⟨ihC, ihT⟩ := read_text f
    obtain ⟨spC, spT⟩ := read_spec f
    refine ⟨fun last l es r h => ?_, fun l t r h => ?_⟩
    · cases l with
      | nil =>
        simp only [pC, Out.ok.injEq] at h
        obtain ⟨rfl, rfl⟩ := h
        exact ⟨rfl, by simp⟩
      | cons c r0 =>
        simp only [pC] at h
        split at h
        · rename_i hc
          split at h
          · cases h
          · split at h
            · cases h
            · rename_i t r1 hT
              split at h
              · cases h
              · rename_i es' r2 hC
                cases h
                obtain ⟨e1, d1⟩ := ihT _ _ _ hT
                obtain ⟨e2, d2⟩ := ihC _ _ _ _ hC
                obtain ⟨⟨a1, ea1, b1, _⟩, _⟩ := spT _ _ _ hT
                refine ⟨?_, fun m hF p hp => ?_⟩
                · rw [e1 c, List.flatMap_cons, List.append_assoc, ← e2]
                · have hF0 : Flat m r0 := by
                    have := Flat.drop (a := [c]) (b := r0) hF
                    rw [isNm_bal hc, Int.sub_zero] at this
                    exact this
                  rcases List.mem_cons.mp hp with rfl | hp
                  · exact d1 m hF0
                  · refine d2 m ?_ p hp
                    rw [ea1] at hF0
                    have := Flat.drop hF0
                    rw [b1, Int.sub_zero] at this
                    exact this
        · cases h
          exact ⟨rfl, by simp⟩
    · cases l with
      | nil => simp [pT] at h
      | cons c r0 =>
        simp only [pT] at h
        split at h
        · rename_i hc
          cases h
          subst hc
          exact ⟨fun n => rfl, fun m _ => Nat.zero_le _⟩
        · split at h
          · rename_i hc
            subst hc
            split at h
            · cases h
            · cases h
            · rename_i es d r1 hC
              split at h
              · rename_i hd
                subst hd
                cases h
                obtain ⟨e1, d1⟩ := ihC _ _ _ _ hC
                refine ⟨fun n => ?_, fun m hF => ?_⟩
                · show n :: 91 :: r0 = n :: 91 :: ((ofEs es).tx ++ [93]) ++ r
                  rw [tx_ofEs hC]
                  conv => lhs; rw [e1]
                  simp
                · have hF0 := Flat.drop (a := [91]) (b := r0) hF
                  have e : bal [91] = 1 := rfl
                  rw [e] at hF0
                  have h0 := hF0 0
                  simp only [List.take_zero, bal] at h0
                  obtain ⟨m', rfl⟩ : ∃ m', m = m' + 1 := ⟨m - 1, by omega⟩
                  have d2 := d1 m' (by have q : ((m' + 1 : Nat) : Int) - 1 = (m' : Int) := by omega
                                       rw [q] at hF0; exact hF0)
                  show (max (max (ofE 97 es).dep (ofE 98 es).dep) (ofE 99 es).dep) + 1 ≤ m' + 1
                  have a1 := dep_ofE (n := 97) d2
                  have a2 := dep_ofE (n := 98) d2
                  have a3 := dep_ofE (n := 99) d2
                  omega
              · cases h
          · cases h
/-- the whole: by the law's reading -/
theorem scan_whole {L : List Nat} {m : Nat} (hF : Flat m L) : match scan false 0 [] L with
    | some x => pC (L.length + 1) 0 L = .bad x ∨ ∃ es c r, pC (L.length + 1) 0 L = .ok es (c :: r) ∧ x = c :: r
    | none => ∃ es, pC (L.length + 1) 0 L = .ok es [] ∧ (ofEs es).tx = L ∧ (ofEs es).dep ≤ m + 1 := by
  have h := (scan_read (L.length + 1)).1 0 [] L (Nat.lt_succ_self _)
  cases hC : pC (L.length + 1) 0 L with
  | bad x =>
    rw [hC] at h
    dsimp only at h
    rw [h]
    exact .inl rfl
  | ok es r =>
    rw [hC] at h
    obtain ⟨last', e⟩ := h
    obtain ⟨_, hend, _⟩ := (read_spec _).1 _ _ _ _ hC
    obtain ⟨e1, d1⟩ := (read_text _).1 _ _ _ _ hC
    rw [e]
    cases r with
    | nil =>
      show ∃ es', Out.ok es [] = Out.ok es' [] ∧ _
      refine ⟨es, rfl, ?_, ?_⟩
      · rw [tx_ofEs hC, List.append_nil] at *
        exact e1.symm
      · have d2 := d1 m hF
        show (max (max (ofE 97 es).dep (ofE 98 es).dep) (ofE 99 es).dep) + 1 ≤ m + 1
        have a1 := dep_ofE (n := 97) d2
        have a2 := dep_ofE (n := 98) d2
        have a3 := dep_ofE (n := 99) d2
        omega
    | cons c r =>
      rcases hend with z | ⟨c', r', z, hn⟩
      · cases z
      · cases z
        have : scan false last' [] (c :: r) = some (c :: r) := by simp [scan, hn]
        rw [this]
        exact .inr ⟨es, c, r, rfl, rfl⟩
/-! drawn texts and their turns -/
theorem bal_one (c : Nat) : bal [c] ≤ 1 ∧ -1 ≤ bal [c] := by
  simp only [bal]
  split
  · omega
  · split <;> omega
theorem Flat.cut {m : Int} {l : List Nat} (h : Flat m l) (a : Nat) : Flat m (l.take a) := fun i => by rw [List.take_take]; exact h _
theorem Flat.edit {m : Int} {L : List Nat} (h : Flat m L) {a b : Nat} (X : List Nat) (ha : a ≤ L.length) (hab : a ≤ b) (hb : b ≤ a + 1) (hX : X.length ≤ 1) : Flat (m + 2) (L.take a ++ X ++ L.drop b) := fun i => by
  have hm : (0 : Int) ≤ m := h 0
  have hXb : ∀ j, bal (X.take j) ≤ 1 ∧ -1 ≤ bal (X.take j) := fun j => by
    match X, hX with
    | [], _ => simp [bal]
    | [c], _ =>
      cases j with
      | zero => simp [bal]
      | succ j => simpa using bal_one c
  rw [List.take_append, List.take_append, bal_app, bal_app, List.length_append, List.length_take, Nat.min_eq_left ha]
  by_cases hi : i ≤ a
  · have e1 : i - a = 0 := by omega
    have e2 : i - (a + X.length) = 0 := by omega
    rw [e1, e2, List.take_take]
    have := h (min i a)
    simp only [List.take_zero, bal]
    omega
  · have e1 : (L.take a).take i = L.take a := List.take_of_length_le (by rw [List.length_take]; omega)
    rw [e1]
    have q := hXb (i - a)
    by_cases hj : i - (a + X.length) = 0
    · rw [hj]
      have := h a
      simp only [List.take_zero, bal]
      omega
    · have g := h (b + (i - (a + X.length)))
      have e2 : L.take (b + (i - (a + X.length))) = L.take a ++ (L.drop a).take (b - a) ++ (L.drop b).take (i - (a + X.length)) := by
        have e3 : b = a + (b - a) := by omega
        conv => lhs; rw [e3, Nat.add_assoc, List.take_add]
        rw [List.append_assoc]
        congr 1
        rw [List.take_add, List.drop_drop, ← e3]
      rw [e2, bal_app, bal_app] at g
      have mid : -1 ≤ bal ((L.drop a).take (b - a)) := by
        rcases Nat.eq_or_lt_of_le hab with e | e
        · have : b - a = 0 := by omega
          rw [this]; simp [bal]
        · have : b - a = 1 := by omega
          rw [this]
          cases L.drop a with
          | nil => simp [bal]
          | cons c r => exact (bal_one c).2
      omega
theorem flat_xe {n : Nat} {t : Th} {m : Nat} (hn : isNm n = true) (h : ∀ t', t' = t → t'.isDir = true → Flat ((m : Int) - 1) t.tx ∧ bal t.tx = 0) : Flat m (Th.xe n t t.tx) ∧ bal (Th.xe n t t.tx) = 0 := by
  have b0 : bal [n] = 0 := isNm_bal hn
  have n0 : (if n = 91 then (1 : Int) else if n = 93 then -1 else 0) = 0 := by simpa [bal] using b0
  cases t with
  | non => exact ⟨fun i => by simp [Th.xe, bal], rfl⟩
  | file =>
    refine ⟨fun i => ?_, ?_⟩
    · match i with
      | 0 => simp [bal]
      | 1 => simp only [Th.xe, List.take, bal, n0]; omega
      | i + 2 => simp only [Th.xe, List.take, bal, n0, List.take_nil]; simp
    · simp only [Th.xe, bal, n0]; rfl
  | dir a b c =>
    obtain ⟨h1, h2⟩ := h _ rfl rfl
    have h0 := h1 0
    simp only [List.take_zero, bal] at h0
    refine ⟨fun i => ?_, ?_⟩
    · match i with
      | 0 => simp [bal]
      | 1 => simp only [Th.xe, List.take, bal, n0]; omega
      | i + 2 =>
        simp only [Th.xe, List.take, bal, n0]
        rw [List.take_append, bal_app]
        have g := h1 i
        by_cases z : i ≤ (Th.dir a b c).tx.length
        · have e : i - (Th.dir a b c).tx.length = 0 := by omega
          rw [e]
          simp only [List.take_zero, bal, if_true]
          omega
        · rw [List.take_of_length_le (by omega), h2]
          obtain ⟨j, hj⟩ : ∃ j, i - (Th.dir a b c).tx.length = j + 1 := ⟨i - (Th.dir a b c).tx.length - 1, by omega⟩
          rw [hj]
          simp only [List.take, List.take_nil, bal]
          rw [if_neg (by decide : ¬ (93 : Nat) = 91)]
          simp only [if_true]
          omega
    · simp only [Th.xe, bal, n0, bal_app, h2]
      rfl
theorem Flat.app {m : Int} {a b : List Nat} (ha : Flat m a) (h0 : bal a = 0) (hb : Flat m b) : Flat m (a ++ b) := fun i => by
  rw [List.take_append, bal_app]
  by_cases h : i ≤ a.length
  · have e : i - a.length = 0 := by omega
    rw [e]
    have := ha i
    simp only [List.take_zero, bal]
    omega
  · rw [List.take_of_length_le (by omega), h0, Int.zero_add]
    exact hb _
theorem flat_tx : ∀ (t : Th) (m : Nat), t.dep ≤ m + 1 → Flat m t.tx ∧ bal t.tx = 0
  | .non, m, _ => ⟨fun i => by simp [Th.tx, bal], rfl⟩
  | .file, m, _ => ⟨fun i => by simp [Th.tx, bal], rfl⟩
  | .dir a b c, m, h => by
    have hd : max (max a.dep b.dep) c.dep + 1 ≤ m + 1 := h
    have key : ∀ (t : Th) (n : Nat), isNm n = true → t.dep ≤ m → (∀ k : Nat, t.dep ≤ k + 1 → Flat k t.tx ∧ bal t.tx = 0) → Flat m (Th.xe n t t.tx) ∧ bal (Th.xe n t t.tx) = 0 := fun t n hn hd ih =>
      flat_xe hn fun t' e hdir => by
        subst e
        have := Th.dep_pos hdir
        obtain ⟨m', rfl⟩ : ∃ m', m = m' + 1 := ⟨m - 1, by omega⟩
        have q := ih m' hd
        have e : ((m' + 1 : Nat) : Int) - 1 = (m' : Int) := by omega
        rw [e]
        exact q
    obtain ⟨a1, a2⟩ := key a 97 rfl (by omega) (flat_tx a)
    obtain ⟨b1, b2⟩ := key b 98 rfl (by omega) (flat_tx b)
    obtain ⟨c1, c2⟩ := key c 99 rfl (by omega) (flat_tx c)
    refine ⟨(a1.app a2 b1).app (by rw [bal_app, a2, b2]; rfl) c1, ?_⟩
    show bal (Th.xe 97 a a.tx ++ Th.xe 98 b b.tx ++ Th.xe 99 c c.tx) = 0
    rw [bal_app, bal_app, a2, b2, c2]
    rfl
/-- how long a text may be -/
def bnd : Nat → Nat
  | 0 => 0
  | n + 1 => 3 * (3 + bnd n)
theorem bnd_mono : ∀ {a b : Nat}, a ≤ b → bnd a ≤ bnd b
  | 0, _, _ => Nat.zero_le _
  | a + 1, b + 1, h => by
    have := bnd_mono (a := a) (b := b) (by omega)
    simp only [bnd]
    omega
theorem tx_len : ∀ t : Th, t.tx.length ≤ bnd t.dep
  | .non => Nat.le_refl 0
  | .file => Nat.le_refl 0
  | .dir a b c => by
    have key : ∀ (n : Nat) (t : Th), t.tx.length ≤ bnd t.dep → (Th.xe n t t.tx).length ≤ 3 + bnd t.dep := fun n t h => by
      cases t <;> simp [Th.xe] <;> omega
    have ka := key 97 a (tx_len a)
    have kb := key 98 b (tx_len b)
    have kc := key 99 c (tx_len c)
    have ma : bnd a.dep ≤ bnd (max (max a.dep b.dep) c.dep) := bnd_mono (by omega)
    have mb : bnd b.dep ≤ bnd (max (max a.dep b.dep) c.dep) := bnd_mono (by omega)
    have mc : bnd c.dep ≤ bnd (max (max a.dep b.dep) c.dep) := bnd_mono (by omega)
    show (Th.xe 97 a a.tx ++ Th.xe 98 b b.tx ++ Th.xe 99 c c.tx).length ≤ 3 * (3 + bnd (max (max a.dep b.dep) c.dep))
    rw [List.length_append, List.length_append]
    omega
theorem tx_len5 {t : Th} (h : t.dep ≤ 5) : t.tx.length ≤ 2000 := Nat.le_trans (tx_len t) (Nat.le_trans (bnd_mono h) (by decide))
end Cw

namespace Cw
open PySem
/-! values that may be no tree -/
inductive U where
  | tup (l : List U)
  | str (x : Str)
  | oth
def U.isTup : U → Bool
  | .tup _ => true
  | _ => false
def U.isStr : U → Bool
  | .str _ => true
  | _ => false
def codeS (x : Str) : Option Nat := if x = S [97] then some 97 else if x = S [98] then some 98 else if x = S [99] then some 99 else none
def U.nm : U → Bool
  | .str x => (codeS x).isSome
  | _ => false
def U.okT : U → Bool
  | .tup _ => true
  | .str x => decide (x = "file")
  | .oth => false
/-- an entry behind one of the name last -/
def U.ent (last : Nat) : U → Option (Nat × U)
  | .tup [.str x, t] => match codeS x with
    | some c => if t.okT = true ∧ last < c then some (c, t) else none
    | none => none
  | _ => none
def okC : Nat → List U → Option (List (Nat × U))
  | _, [] => some []
  | last, e :: r => match e.ent last with
    | some (c, t) => (okC c r).map ((c, t) :: ·)
    | none => none
def faults (g : List Nat → U → Option (List Nat)) (p : List Nat) : List (Nat × U) → Option (List Nat)
  | [] => none
  | (c, t) :: r => if t.isTup = true then (match g (p ++ [c]) t with | some q => some q | none => faults g p r) else faults g p r
/-- the path of the first folder at fault -/
def fault : Nat → List Nat → U → Option (List Nat)
  | 0, p, _ => some p
  | n + 1, p, .tup es => match okC 0 es with
    | some l => faults (fault n) p l
    | none => some p
  | _ + 1, p, _ => some p
/-- no more than n folders deep -/
def Sh : Nat → U → Prop
  | 0, u => u.isTup = false
  | n + 1, .tup es => ∀ x t, U.tup [x, t] ∈ es → Sh n t
  | _ + 1, _ => True
theorem codeS_some {x : Str} {c : Nat} (h : codeS x = some c) : x = S [c] ∧ (c = 97 ∨ c = 98 ∨ c = 99) := by
  unfold codeS at h
  split at h
  · cases h; rename_i e; exact ⟨e, .inl rfl⟩
  · split at h
    · cases h; rename_i e; exact ⟨e, .inr (.inl rfl)⟩
    · split at h
      · cases h; rename_i e; exact ⟨e, .inr (.inr rfl)⟩
      · cases h
theorem S_one_inj {a b : Nat} (h : S [a] = S [b]) : a = b := by simpa using S_inj h
theorem codeS_one {c : Nat} (h : c = 97 ∨ c = 98 ∨ c = 99) : codeS (S [c]) = some c := by
  unfold codeS
  rcases h with rfl | rfl | rfl
  · rw [if_pos rfl]
  · rw [if_neg (fun z => absurd (S_one_inj z) (by decide)), if_pos rfl]
  · rw [if_neg (fun z => absurd (S_one_inj z) (by decide)), if_neg (fun z => absurd (S_one_inj z) (by decide)), if_pos rfl]
theorem ent_some {last c : Nat} {e t : U} (h : e.ent last = some (c, t)) : e = .tup [.str (S [c]), t] ∧ (c = 97 ∨ c = 98 ∨ c = 99) ∧ t.okT = true ∧ last < c := by
  unfold U.ent at h
  split at h
  · rename_i x t'
    split at h
    · rename_i c' hc
      split at h
      · rename_i h2
        cases h
        obtain ⟨rfl, q⟩ := codeS_some hc
        exact ⟨rfl, q, h2.1, h2.2⟩
      · cases h
    · cases h
  · cases h
theorem okC_some : ∀ {es : List U} {last : Nat} {l : List (Nat × U)}, okC last es = some l → es = l.map (fun q => U.tup [.str (S [q.1]), q.2]) ∧ (∀ q ∈ l, (q.1 = 97 ∨ q.1 = 98 ∨ q.1 = 99) ∧ q.2.okT = true ∧ last < q.1) ∧ l.Pairwise (fun a b => a.1 < b.1)
  | [], last, l, h => by
    cases h
    exact ⟨rfl, by simp, .nil⟩
  | e :: r, last, l, h => by
    simp only [okC] at h
    split at h
    · rename_i c t he
      obtain ⟨l', hl, rfl⟩ := Option.map_eq_some_iff.mp h
      obtain ⟨h1, h2, h3⟩ := okC_some hl
      obtain ⟨rfl, e2, e3, e4⟩ := ent_some he
      refine ⟨by rw [h1]; rfl, ?_, .cons (fun q hq => (h2 q hq).2.2) h3⟩
      intro q hq
      rcases List.mem_cons.mp hq with rfl | hq
      · exact ⟨e2, e3, e4⟩
      · obtain ⟨q1, q2, q3⟩ := h2 q hq
        exact ⟨q1, q2, by omega⟩
    · cases h
/-- a tree as such a value -/
def eU (n : Nat) (t : Th) (u : U) : List U := match t with
  | .non => []
  | _ => [.tup [.str (S [n]), u]]
def Th.U : Th → U
  | .non => .oth
  | .file => .str "file"
  | .dir a b c => .tup (eU 97 a a.U ++ eU 98 b b.U ++ eU 99 c c.U)
def pU (p : Nat × Th) : U := .tup [.str (S [p.1]), p.2.U]
theorem U_dir (t : Th) (h : t.isDir = true) : t.U = .tup (t.ents.map pU) := by
  cases t with
  | dir a b c =>
    have e : ∀ n (t : Th), eU n t t.U = (Th.en n t).map pU := fun n t => by cases t <;> rfl
    simp only [Th.U, Th.ents, e, List.map_append]
  | _ => cases h
theorem U_isTup (t : Th) : t.U.isTup = t.isDir := by cases t <;> rfl
theorem U_okT {t : Th} (h : t ≠ .non) : t.U.okT = true := by
  cases t with
  | non => exact absurd rfl h
  | file => rfl
  | dir _ _ _ => rfl
/-- what has no fault is a tree -/
theorem valid_th : ∀ (n : Nat) (p : List Nat) (u : U), Sh n u → fault n p u = none → ∃ t : Th, t.isDir = true ∧ t.dep ≤ n ∧ u = t.U
  | 0, p, u, _, h => by cases h
  | n + 1, p, .str x, _, h => by cases h
  | n + 1, p, .oth, _, h => by cases h
  | n + 1, p, .tup es, hs, h => by
    simp only [fault] at h
    split at h
    · rename_i l hl
      obtain ⟨h1, h2, h3⟩ := okC_some hl
      have key : ∀ l : List (Nat × U), (∀ q ∈ l, Sh n q.2 ∧ q.2.okT = true) → faults (fault n) p l = none → ∃ l' : List (Nat × Th), l = l'.map (fun q => (q.1, q.2.U)) ∧ ∀ q ∈ l', q.2 ≠ .non ∧ q.2.dep ≤ n := by
        intro l
        induction l with
        | nil => intro _ _; exact ⟨[], rfl, by simp⟩
        | cons q r ih =>
          obtain ⟨c, t⟩ := q
          intro hq hf
          obtain ⟨q1, q2⟩ := hq (c, t) List.mem_cons_self
          simp only [faults] at hf
          have step : faults (fault n) p r = none → (∃ t' : Th, t' ≠ .non ∧ t'.dep ≤ n ∧ t = t'.U) → ∃ l' : List (Nat × Th), (c, t) :: r = l'.map (fun q => (q.1, q.2.U)) ∧ ∀ q ∈ l', q.2 ≠ .non ∧ q.2.dep ≤ n := by
            rintro hr ⟨t', a1, a2, rfl⟩
            obtain ⟨l', rfl, b2⟩ := ih (fun z hz => hq z (List.mem_cons_of_mem _ hz)) hr
            refine ⟨(c, t') :: l', rfl, ?_⟩
            intro z hz
            rcases List.mem_cons.mp hz with rfl | hz
            · exact ⟨a1, a2⟩
            · exact b2 z hz
          split at hf
          · split at hf
            · cases hf
            · rename_i hg
              obtain ⟨t', d1, d2, d3⟩ := valid_th n _ t q1 hg
              refine step hf ⟨t', ?_, d2, d3⟩
              rintro rfl; cases d1
          · rename_i ht
            refine step hf ⟨.file, (by intro z; cases z), Nat.zero_le _, ?_⟩
            cases t with
            | tup _ => exact absurd rfl ht
            | str x =>
              have : x = "file" := of_decide_eq_true q2
              subst this; rfl
            | oth => cases q2
      obtain ⟨l', rfl, k2⟩ := key l (fun q hq => ⟨hs _ _ (by rw [h1]; exact List.mem_map.mpr ⟨q, hq, rfl⟩), (h2 q hq).2.1⟩) h
      have hent : (ofEs l').ents = l' := by
        refine ents_ofEs (fun q hq => ⟨?_, (k2 q hq).1⟩) ?_
        · have := (h2 (q.1, q.2.U) (List.mem_map.mpr ⟨q, hq, rfl⟩)).1
          dsimp only at this
          rcases this with e | e | e <;> rw [e] <;> rfl
        · rw [List.pairwise_map] at h3; exact h3
      refine ⟨ofEs l', rfl, ?_, ?_⟩
      · show max (max (ofE 97 l').dep (ofE 98 l').dep) (ofE 99 l').dep + 1 ≤ n + 1
        have d := fun m => dep_ofE (n := m) (m := n) (es := l') fun q hq => (k2 q hq).2
        have := d 97; have := d 98; have := d 99
        omega
      · rw [U_dir _ rfl, hent, h1, List.map_map]
        rfl
    · cases h
theorem okC_ents {t : Th} (h : t.isDir = true) : okC 0 (t.ents.map pU) = some (t.ents.map fun q => (q.1, q.2.U)) := by
  have one : ∀ (last c : Nat) (u : Th), u ≠ .non → (c = 97 ∨ c = 98 ∨ c = 99) → last < c → (pU (c, u)).ent last = some (c, u.U) := fun last c u hu hc hl => by
    show (match codeS (S [c]) with | some c => if u.U.okT = true ∧ last < c then some (c, u.U) else none | none => none) = _
    rw [codeS_one hc]
    exact if_pos ⟨U_okT hu, hl⟩
  have gen : ∀ (l : List (Nat × Th)) (last : Nat), (∀ q ∈ l, (q.1 = 97 ∨ q.1 = 98 ∨ q.1 = 99) ∧ q.2 ≠ .non ∧ last < q.1) → l.Pairwise (fun a b => a.1 < b.1) → okC last (l.map pU) = some (l.map fun q => (q.1, q.2.U)) := by
    intro l
    induction l with
    | nil => intro _ _ _; rfl
    | cons q r ih =>
      intro last h1 h2
      obtain ⟨c, u⟩ := q
      obtain ⟨a1, a2, a3⟩ := h1 (c, u) List.mem_cons_self
      rw [List.map_cons]
      simp only [okC]
      rw [one last c u a2 a1 a3]
      cases h2 with
      | cons b1 b2 =>
        dsimp only
        rw [ih c (fun z hz => ⟨(h1 z (List.mem_cons_of_mem _ hz)).1, (h1 z (List.mem_cons_of_mem _ hz)).2.1, b1 z hz⟩) b2]
        rfl
  refine gen _ _ (fun q hq => ?_) ?_
  · obtain ⟨a1, a2, _⟩ := Th.ents_mem hq
    exact ⟨a1, a2, by omega⟩
  · cases t with
    | dir a b c => cases a <;> cases b <;> cases c <;> simp [Th.ents, Th.en]
    | _ => cases h
theorem fault_U : ∀ (n : Nat) (p : List Nat) (t : Th), t.isDir = true → t.dep ≤ n → fault n p t.U = none
  | 0, p, t, h, hn => by have := Th.dep_pos h; omega
  | n + 1, p, t, h, hn => by
    rw [U_dir t h]
    simp only [fault]
    rw [okC_ents h]
    dsimp only
    have gen : ∀ l : List (Nat × Th), (∀ q ∈ l, q.2.dep ≤ n) → faults (fault n) p (l.map fun q => (q.1, q.2.U)) = none := by
      intro l
      induction l with
      | nil => intro _; rfl
      | cons q r ih =>
        intro hq
        rw [List.map_cons]
        simp only [faults]
        rw [ih fun z hz => hq z (List.mem_cons_of_mem _ hz)]
        split
        · rename_i ht
          rw [fault_U n _ q.2 (by rw [← U_isTup]; exact ht) (hq q List.mem_cons_self)]
        · rfl
    refine gen _ fun q hq => ?_
    have := (Th.ents_mem hq).2.2
    omega
theorem Sh_U : ∀ (n : Nat) (t : Th), t.dep ≤ n → Sh n t.U
  | 0, t, h => by
    cases t with
    | dir a b c => simp [Th.dep] at h
    | _ => rfl
  | n + 1, .non, _ => trivial
  | n + 1, .file, _ => trivial
  | n + 1, .dir a b c, h => by
    have e := U_dir (.dir a b c) rfl
    rw [e]
    intro x t ht
    obtain ⟨q, hq, hqe⟩ := List.mem_map.mp ht
    injection hqe with z
    injection z with z1 z2
    injection z2 with z2 _
    subst z2
    have := (Th.ents_mem hq).2.2
    exact Sh_U n q.2 (by omega)
theorem fault_mem : ∀ (n : Nat) (p : List Nat) (u : U) (q : List Nat), fault n p u = some q → ∃ r, q = p ++ r ∧ r.length ≤ n ∧ ∀ c ∈ r, c = 97 ∨ c = 98 ∨ c = 99
  | 0, p, u, q, h => by cases h; exact ⟨[], by simp, Nat.zero_le _, by simp⟩
  | n + 1, p, .str _, q, h => by cases h; exact ⟨[], by simp, Nat.zero_le _, by simp⟩
  | n + 1, p, .oth, q, h => by cases h; exact ⟨[], by simp, Nat.zero_le _, by simp⟩
  | n + 1, p, .tup es, q, h => by
    simp only [fault] at h
    split at h
    · rename_i l hl
      obtain ⟨_, h2, _⟩ := okC_some hl
      have gen : ∀ l : List (Nat × U), (∀ z ∈ l, z.1 = 97 ∨ z.1 = 98 ∨ z.1 = 99) → faults (fault n) p l = some q → ∃ r, q = p ++ r ∧ r.length ≤ n + 1 ∧ ∀ c ∈ r, c = 97 ∨ c = 98 ∨ c = 99 := by
        intro l
        induction l with
        | nil => intro _ h; cases h
        | cons z r ih =>
          obtain ⟨c, t⟩ := z
          intro hz h
          simp only [faults] at h
          split at h
          · split at h
            · rename_i q' hq
              cases h
              obtain ⟨r', rfl, b1, b2⟩ := fault_mem n _ _ _ hq
              refine ⟨c :: r', by simp, by simpa using b1, ?_⟩
              intro d hd
              rcases List.mem_cons.mp hd with rfl | hd
              · exact hz _ List.mem_cons_self
              · exact b2 d hd
            · exact ih (fun y hy => hz y (List.mem_cons_of_mem _ hy)) h
          · exact ih (fun y hy => hz y (List.mem_cons_of_mem _ hy)) h
      exact gen l (fun z hz => (h2 z hz).1) h
    · cases h; exact ⟨[], by simp, Nat.zero_le _, by simp⟩
end Cw

namespace L2
open PySem PySem.Spec PyProof.Rows Cw
mutual
/-- a value that may be no tree (r: the row's list, which is none of it) -/
inductive An (K : PySem.W.Frag) (r : Addr) (H : Hp) : V → U → Prop
  | non : An K r H .non .oth
  | bl (b : Bool) : An K r H (.bl b) .oth
  | int (i : Int) : An K r H (.int i) .oth
  | lst {a : Addr} {xs : List V} : H a = some (.lst xs) → a ≠ r → An K r H (.ref a) .oth
  | str (x : Str) : An K r H (.str x) (.str x)
  | tup {a : Addr} {xs : List V} {us : List U} : SqT K H a xs → Ans K r H xs us → An K r H (.ref a) (.tup us)
inductive Ans (K : PySem.W.Frag) (r : Addr) (H : Hp) : List V → List U → Prop
  | nil : Ans K r H [] []
  | cons {v : V} {vs : List V} {u : U} {us : List U} : An K r H v u → Ans K r H vs us → Ans K r H (v :: vs) (u :: us)
end
/-- what stays: tuples, and lists but the row's -/
structure Ty (r : Addr) (H H' : Hp) : Prop where
  tk : Tk H H'
  lst : ∀ b xs, b ≠ r → H b = some (.lst xs) → H' b = some (.lst xs)
section
variable {K : PySem.W.Frag} {r : Addr} {H H' H2 : Hp}
theorem Ty.trans (a : Ty r H H') (b : Ty r H' H2) : Ty r H H2 := ⟨a.tk.trans b.tk, fun c x n e => b.lst c x n (a.lst c x n e)⟩
theorem Same.ty (e : Same H H') : Ty r H H' := ⟨e.tk, fun b _ _ h => e b _ h⟩
theorem But.ty {ys : List V} (e : But r H H') (h : H r = some (.lst ys)) : Ty r H H' := ⟨e.tk h, fun b _ n h => e b _ n h⟩
mutual
theorem An.ty (e : Ty r H H') : ∀ {v : V} {u : U}, An K r H v u → An K r H' v u
  | _, _, .non => .non
  | _, _, .bl b => .bl b
  | _, _, .int i => .int i
  | _, _, .lst h n => .lst (e.lst _ _ n h) n
  | _, _, .str x => .str x
  | _, _, .tup h g => .tup (e.tk.sq h) (Ans.ty e g)
theorem Ans.ty (e : Ty r H H') : ∀ {vs : List V} {us : List U}, Ans K r H vs us → Ans K r H' vs us
  | _, _, .nil => .nil
  | _, _, .cons h g => .cons (An.ty e h) (Ans.ty e g)
end
theorem An.same (e : Same H H') {v : V} {u : U} (h : An K r H v u) : An K r H' v u := h.ty e.ty
theorem Ans.same (e : Same H H') {v : List V} {u : List U} (h : Ans K r H v u) : Ans K r H' v u := h.ty e.ty
theorem Ans.len : ∀ {vs : List V} {us : List U}, Ans K r H vs us → vs.length = us.length
  | _, _, .nil => rfl
  | _, _, .cons _ g => by rw [List.length_cons, List.length_cons, Ans.len g]
theorem Ans.app : ∀ {vs ws : List V} {us xs : List U}, Ans K r H vs us → Ans K r H ws xs → Ans K r H (vs ++ ws) (us ++ xs)
  | _, _, _, _, .nil, s => s
  | _, _, _, _, .cons h g, s => .cons h (Ans.app g s)
theorem Ans.take : ∀ {vs : List V} {us : List U} (n : Nat), Ans K r H vs us → Ans K r H (vs.take n) (us.take n)
  | _, _, 0, _ => .nil
  | _, _, n + 1, .nil => .nil
  | _, _, n + 1, .cons h g => .cons h (Ans.take n g)
theorem Ans.drop : ∀ {vs : List V} {us : List U} (n : Nat), Ans K r H vs us → Ans K r H (vs.drop n) (us.drop n)
  | _, _, 0, h => h
  | _, _, n + 1, .nil => .nil
  | _, _, n + 1, .cons h g => Ans.drop n g
theorem Ans.rev : ∀ {vs : List V} {us : List U}, Ans K r H vs us → Ans K r H vs.reverse us.reverse
  | _, _, .nil => .nil
  | _, _, .cons h g => by
    rw [List.reverse_cons, List.reverse_cons]
    exact (Ans.rev g).app (.cons h .nil)
theorem Ans.get : ∀ {vs : List V} {us : List U} {i : Nat} {v : V}, Ans K r H vs us → vs[i]? = some v → ∃ u, us[i]? = some u ∧ An K r H v u
  | _, _, 0, v, .cons h _, e => ⟨_, rfl, by cases e; exact h⟩
  | _, _, i + 1, v, .cons _ g, e => by
    obtain ⟨d, h1, h2⟩ := Ans.get (i := i) (v := v) g (by simpa using e)
    exact ⟨d, by simpa using h1, h2⟩
theorem Ans.two {vs : List V} {d e : U} (h : Ans K r H vs [d, e]) : ∃ x y, vs = [x, y] ∧ An K r H x d ∧ An K r H y e := by
  cases h with
  | cons h1 g =>
    cases g with
    | cons h2 g =>
      cases g
      exact ⟨_, _, rfl, h1, h2⟩
theorem An.tupI {v : V} {us : List U} (h : An K r H v (.tup us)) : ∃ a xs, v = .ref a ∧ SqT K H a xs ∧ Ans K r H xs us := by
  cases h with
  | tup h g => exact ⟨_, _, rfl, h, g⟩
theorem An.strI {v : V} {x : Str} (h : An K r H v (.str x)) : v = .str x := by
  cases h; rfl
/-- a tree's data and its value -/
theorem an_of : ∀ {t : Th} {v : V}, t ≠ .non → Im K H v t.D → An K r H v t.U
  | .non, _, h, _ => absurd rfl h
  | .file, _, _, h => by cases h; exact .str _
  | .dir a b c, v, _, h => by
    obtain ⟨p, xs, rfl, h1, h2⟩ := h.tupI
    refine .tup h1 ?_
    have one : ∀ (n : Nat) (t : Th) (vs : List V), (t ≠ .non → ∀ v, Im K H v t.D → An K r H v t.U) → Ims K H vs (Th.eD n t t.D) → Ans K r H vs (eU n t t.U) := fun n t vs ih hv => by
      have two : t ≠ .non → Ims K H vs [.tuple [.str (S [n]), t.D]] → Ans K r H vs [.tup [.str (S [n]), t.U]] := fun ht hv => by
        cases hv with
        | cons e1 e2 =>
          cases e2
          obtain ⟨q, ys, rfl, g1, g2⟩ := e1.tupI
          obtain ⟨x, y, rfl, x1, y1⟩ := g2.two
          cases x1
          exact .cons (.tup g1 (.cons (.str _) (.cons (ih ht _ y1) .nil))) .nil
      cases t with
      | non => cases hv; exact .nil
      | file => exact two (by intro z; cases z) hv
      | dir _ _ _ => exact two (by intro z; cases z) hv
    have split : ∀ {ds es : List PyData} {vs : List V}, Ims K H vs (ds ++ es) → ∃ v1 v2, vs = v1 ++ v2 ∧ Ims K H v1 ds ∧ Ims K H v2 es := by
      intro ds
      induction ds with
      | nil => intro es vs h; exact ⟨[], vs, rfl, .nil, h⟩
      | cons d ds ih =>
        intro es vs h
        cases h with
        | cons h1 h2 =>
          obtain ⟨v1, v2, rfl, b1, b2⟩ := ih h2
          exact ⟨_ :: v1, v2, rfl, .cons h1 b1, b2⟩
    obtain ⟨v12, v3, rfl, g12, g3⟩ := split h2
    obtain ⟨v1, v2, rfl, g1, g2⟩ := split g12
    exact ((one 97 a v1 (fun ht v hv => an_of ht hv) g1).app (one 98 b v2 (fun ht v hv => an_of ht hv) g2)).app (one 99 c v3 (fun ht v hv => an_of ht hv) g3)
theorem im_of : ∀ {t : Th} {v : V}, t ≠ .non → An K r H v t.U → Im K H v t.D
  | .non, _, h, _ => absurd rfl h
  | .file, _, _, h => by cases h; exact .str _
  | .dir a b c, v, _, h => by
    obtain ⟨p, xs, rfl, h1, h2⟩ := h.tupI
    refine .tup h1 ?_
    have one : ∀ (n : Nat) (t : Th) (vs : List V), (t ≠ .non → ∀ v, An K r H v t.U → Im K H v t.D) → Ans K r H vs (eU n t t.U) → Ims K H vs (Th.eD n t t.D) := fun n t vs ih hv => by
      have two : t ≠ .non → Ans K r H vs [.tup [.str (S [n]), t.U]] → Ims K H vs [.tuple [.str (S [n]), t.D]] := fun ht hv => by
        cases hv with
        | cons e1 e2 =>
          cases e2
          obtain ⟨q, ys, rfl, g1, g2⟩ := e1.tupI
          obtain ⟨x, y, rfl, x1, y1⟩ := g2.two
          cases x1
          exact .cons (.tup g1 (.cons (.str _) (.cons (ih ht _ y1) .nil))) .nil
      cases t with
      | non => cases hv; exact .nil
      | file => exact two (by intro z; cases z) hv
      | dir _ _ _ => exact two (by intro z; cases z) hv
    have split : ∀ {ds es : List U} {vs : List V}, Ans K r H vs (ds ++ es) → ∃ v1 v2, vs = v1 ++ v2 ∧ Ans K r H v1 ds ∧ Ans K r H v2 es := by
      intro ds
      induction ds with
      | nil => intro es vs h; exact ⟨[], vs, rfl, .nil, h⟩
      | cons d ds ih =>
        intro es vs h
        cases h with
        | cons h1 h2 =>
          obtain ⟨v1, v2, rfl, b1, b2⟩ := ih h2
          exact ⟨_ :: v1, v2, rfl, .cons h1 b1, b2⟩
    obtain ⟨v12, v3, rfl, g12, g3⟩ := split h2
    obtain ⟨v1, v2, rfl, g1, g2⟩ := split g12
    exact ((one 97 a v1 (fun ht v hv => im_of ht hv) g1).app (one 98 b v2 (fun ht v hv => im_of ht hv) g2)).app (one 99 c v3 (fun ht v hv => im_of ht hv) g3)
/-- the type of a tuple of any kind -/
theorem sqT_ty {a : Addr} {xs : List V} (h : SqT K H a xs) : TyX K H (.ref a) (.type "tuple") := by
  rcases h with (h | ⟨o, h⟩) | ⟨o, its, n, h1, h2, _⟩
  · exact .base (.tup h)
  · exact .fTuple h
  · exact .kTuple h1 h2
theorem An.tyX {v : V} {u : U} (h : An K r H v u) : ∃ s : String, TyX K H v (.type s) ∧ kitB s "tuple" = some u.isTup ∧ kitB s "str" = some u.isStr := by
  cases h with
  | non => exact ⟨_, .base .non, by decide +kernel, by decide +kernel⟩
  | bl b => exact ⟨_, .base (.bl b), by decide +kernel, by decide +kernel⟩
  | int i => exact ⟨_, .base (.int i), by decide +kernel, by decide +kernel⟩
  | lst h n => exact ⟨_, .base (.lst h), by decide +kernel, by decide +kernel⟩
  | str x => exact ⟨_, .base (.str x), (by show _ = some false; decide +kernel), (by show _ = some true; decide +kernel)⟩
  | tup h g => exact ⟨_, sqT_ty h, (by show _ = some true; decide +kernel), (by show _ = some false; decide +kernel)⟩
theorem isiT {v : V} {u : U} (h : An K r H v u) : ∃ t, TyX K H v t ∧ PySem.W.kitOne K t (.type "tuple") = some u.isTup := by
  obtain ⟨s, h1, h2, h3⟩ := h.tyX
  exact ⟨_, h1, kit_ty h2⟩
theorem isiS {v : V} {u : U} (h : An K r H v u) : ∃ t, TyX K H v t ∧ PySem.W.kitOne K t (.type "str") = some u.isStr := by
  obtain ⟨s, h1, h2, h3⟩ := h.tyX
  exact ⟨_, h1, kit_ty h3⟩
end
end L2

/-! t[::-1], t a tuple; {t!r} in an error's text -/
namespace HT
open PySem PySem.Spec PyProof.Rows
section
variable {prog : Program} {w : World} {A : Around} {E : Value → Shared → Prop} {s : Shared}
theorem adjust_rev (n : Nat) : Builtin.Slice.sliceAdjust none none (-1) (n : Int) = ((n : Int) - 1, -1) := by
  unfold Builtin.Slice.sliceAdjust
  have h1 : ((-1 : Int) < 0) := by omega
  simp only [h1, if_true]
theorem places_rev (n : Nat) : Builtin.Slice.slicePlaces ((n : Int) - 1) (-1) (-1) = n := by
  unfold Builtin.Slice.slicePlaces
  have h1 : ¬ ((-1 : Int) > 0) := by omega
  have h2 : (- -1 : Int) = 1 := rfl
  simp only [h1, if_false, h2, Int.ediv_one]
  split <;> omega
theorem sliceApplied_rev {sl : Addr} {vl vu vs : Value} {n : Nat} {Q : Int × Int × Nat → Shared → Prop} (hs : s.heap.IsSliceOf sl vl vu vs) (pl : IsPart vl none) (pu : IsPart vu none) (ps : IsPart vs (some (-1)))
    (h : Q ((n : Int) - 1, -1, n) s) : wpAny (model prog w) A (Builtin.Slice.sliceApplied (.ref sl) (pure (n : Int))) Q E s := by
  obtain ⟨os, hos, hcs, hds⟩ := id hs
  unfold Builtin.Slice.sliceApplied Builtin.Slice.sliceFields
  refine wpAny_bind (wpAny_bind (wpAny_field hos hds (x := vl) rfl (wpAny_bind (wpAny_field hos hds (x := vu) rfl (wpAny_bind (wpAny_field hos hds (x := vs) rfl (wpAny_pure ?_)))))))
  refine wpAny_bind (slicePart_ ps ?_)
  show wpAny _ _ (if ((-1 : Int) == 0) = true then _ else _) _ _ s
  rw [if_neg (by decide)]
  refine wpAny_bind (slicePart_ pl (wpAny_bind (slicePart_ pu (wpAny_bind (wpAny_pure ?_)))))
  show wpAny _ _ (match Builtin.Slice.sliceAdjust none none (-1) (n : Int) with | (lo, hi) => pure (lo, (-1 : Int), Builtin.Slice.slicePlaces lo hi (-1))) _ _ s
  rw [adjust_rev n]
  show wpAny _ _ (pure ((n : Int) - 1, (-1 : Int), Builtin.Slice.slicePlaces ((n : Int) - 1) (-1) (-1))) _ _ s
  rw [places_rev]
  exact wpAny_pure h
theorem fm_congr {α β : Type} {f g : α → Option β} : ∀ l : List α, (∀ m ∈ l, f m = g m) → l.filterMap f = l.filterMap g
  | [], _ => rfl
  | a :: l, h => by
    rw [List.filterMap_cons, List.filterMap_cons, h a List.mem_cons_self, fm_congr l fun m hm => h m (List.mem_cons_of_mem _ hm)]
theorem pick_rev (xs : List Value) : ((List.range xs.length).filterMap fun (m : Nat) => xs.toArray[(((xs.length : Int) - 1) + (m : Int) * (-1)).toNat]?) = xs.reverse := by
  have e : ∀ m ∈ List.range xs.length, (xs.toArray[(((xs.length : Int) - 1) + (m : Int) * (-1)).toNat]?) = xs.reverse[m]? := fun m hm => by
    have hm := List.mem_range.mp hm
    have : (((xs.length : Int) - 1) + (m : Int) * (-1)).toNat = xs.length - 1 - m := by omega
    rw [this, List.getElem?_reverse hm, List.getElem?_toArray]
  rw [fm_congr _ e]
  have e2 : List.range xs.length = List.range xs.reverse.length := by rw [List.length_reverse]
  rw [e2]
  have h := PySem.W.krv_all xs.reverse.toArray
  rw [List.size_toArray] at h
  have e3 : ((xs.reverse.toArray)[·]? : Nat → Option Value) = (xs.reverse[·]?) := by
    funext i
    exact List.getElem?_toArray
  rw [e3] at h
  exact h
theorem getItem_tuple_rev {t sl : Addr} {xs : List Value} {vl vu vs : Value} {Q : Value → Shared → Prop} (ht : IsTup s.heap t xs.toArray) (hs : s.heap.IsSliceOf sl vl vu vs) (pl : IsPart vl none) (pu : IsPart vu none) (ps : IsPart vs (some (-1)))
    (h : Q (.ref s.heap.objs.size) { s with heap := s.heap.push { cls := .type "tuple", data := .seq xs.reverse.toArray } })
    (hsz : xs.length ≤ sizeLine) : wpAny (model prog w) A (getItem (.ref t) (.ref sl)) Q E s := by
  have htake : sizeOk (.seq xs.reverse.toArray) := by
    show xs.reverse.toArray.size ≤ sizeLine
    rw [List.size_toArray, List.length_reverse]
    exact hsz
  obtain ⟨os, hos, hcs, hds⟩ := id hs
  have hTs : s.TypeIs (.ref sl) "slice" := ⟨os, hos, hcs⟩
  unfold getItem
  try with_reducible refine wpAny_holding ?_
  first | refine wpAny_bind (wpAny_pure ?_) | skip
  refine wpAny_bind (wpAny_sequenceKey ht.typeIs (by decide) ?_)
  refine wpAny_bind (wpAny_callSpecial?_slot (name := Str.ofString "__getitem__") ht.typeIs PyProof.Rows.slot_tuple_getitem
    (wpAny_call_entry PyProof.Rows.slot_tuple_getitem ht.typeIs entry_tuple_getitem ?_ (args_tuple_getitem _ _)))
  show wpAny _ _ (Builtin.Tuple.tupleItemsOf (.ref t) >>= _) _ _ s
  refine wpAny_bind (tupleItemsOf_ ht ?_)
  refine wpAny_bind (wpAny_typeOf hTs ?_)
  rw [if_pos (by decide)]
  have e0 : ((xs.toArray.size : Nat) : Int) = ((xs.length : Nat) : Int) := by rw [List.size_toArray]
  rw [e0]
  refine wpAny_bind (sliceApplied_rev hs pl pu ps ?_)
  have hno : ¬ ((((xs.length : Int) - 1) == 0 && (-1 : Int) == 1 && xs.length == xs.toArray.size) = true) := by simp
  show wpAny _ _ (if (((xs.length : Int) - 1) == 0 && (-1 : Int) == 1 && xs.length == xs.toArray.size) = true then _ else _) _ _ s
  rw [if_neg hno, pick_rev]
  first
    | exact wpAny_bind (m := Builtin.Tuple.tupleExact _) (wpAny_newObj_type (wpAny_pure ⟨_, rfl, wpAny_pure h⟩) htake)
    | exact wpAny_bind (m := Builtin.Tuple.tupleExact _) (wpAny_newObj_type (wpAny_bind (wpAny_pure (wpAny_pure ⟨_, rfl, wpAny_pure h⟩))) htake)
    | exact wpAny_bind (wpAny_bind (m := Builtin.Tuple.tupleExact _) (wpAny_newObj_type (wpAny_pure (wpAny_pure ⟨_, rfl, wpAny_pure h⟩)) htake))
    | exact wpAny_bind (wpAny_bind (m := Builtin.Tuple.tupleExact _) (wpAny_newObj_type (wpAny_pure ⟨_, rfl, wpAny_pure h⟩) htake))
end
end HT

namespace L2
open PySem PySem.Spec PyProof.Rows
section
variable {X : Cx}
/-- t[::-1], t a tuple -/
def tRevT (K : PySem.W.Frag) (te : TE) : TE := fun σ H Q => te σ H fun x H1 => ∃ a xs, x = .ref a ∧ SqT K H1 a xs ∧ ∀ p, H1 p = none → Q (.ref p) (upd H1 p (.tup xs.reverse))
theorem pe_revT {e : Expr} {te : TE} {k : Nat} {p1 p2 p3 pos : Pos} (he : PE X e te) : PE X (.Subscript e (.Slice none none (some (.UnaryOp .USub (.Constant (.int 1) k p1) p2)) p3) pos) (tRevT X.K te) := by
  refine ⟨fun pins s σ H Q I h => ?_⟩
  refine Subscript_ (thn (he.run pins s σ H _ I h) fun v s1 ⟨x, H1, I1, r1, q1⟩ => ?_)
  obtain ⟨a, xs, ex, hx, q⟩ := q1
  subst ex
  cases r1
  have hst : PO X (some (.UnaryOp .USub (.Constant (.int 1) k p1) p2)) (tPart (tUn (rU fun i => .int (-i)) (tC (.int 1)))) := po_some (pe_un un_neg pe_int)
  refine wpAny_Slice (thn (po_none.run pins s1 σ H1 (fun o H2 => o = none ∧ H2 = H1) I1 ⟨rfl, rfl⟩) fun vl s2 ⟨l, H2, I2, pl, el, e2⟩ => ?_)
  subst el e2
  refine thn (po_none.run pins s2 σ H2 (fun o H3 => o = none ∧ H3 = H2) I2 ⟨rfl, rfl⟩) fun vu s3 ⟨u, H3, I3, pu, eu, e3⟩ => ?_
  subst eu e3
  refine thn (hst.run pins s3 σ H3 (fun o H4 => o = some (-1) ∧ H4 = H3) I3 ⟨1, rfl, -1, rfl, rfl, rfl⟩) fun vs s4 ⟨o, H4, I4, ps, eo, e4⟩ => ?_
  subst eo e4
  have I5 : Inv X pins σ H4 { s4 with heap := s4.heap.push { cls := .type "slice", data := .fields #[vl, vu, vs] } } := I4.kept (t' := s4.toks) fun b ob q => Heap.get?_push_of_some _ q
  obtain ⟨its, r, ht, hz⟩ := I5.tuple hx
  have hlen := r.length
  show wpAny (model X.prog X.w) X.A (subscriptTail e (.Slice none none (some (.UnaryOp .USub (.Constant (.int 1) k p1) p2)) p3) (.ref a) (.ref s4.heap.objs.size)) (EP X pins σ Q) X.xe { s4 with heap := s4.heap.push { cls := .type "slice", data := .fields #[vl, vu, vs] } }
  refine tail_any (ops := [.ref a, .ref s4.heap.objs.size]) ht.typeIs (PyProof.Rows.slot_tuple_getitem.lookup) ?_ (by with_unfolding_all rfl)
  refine HT.getItem_tuple_rev ht (Heap.IsSliceOf.new _ vl vu vs) pl pu ps ?_ (by omega)
  refine ⟨.ref _, _, I5.laid (t' := s4.toks) (o := .tup xs.reverse) (fun b ob q => Heap.get?_push_of_some _ q) (Nat.le_refl _) ?_, rfl, q _ (I5.hok.fresh (Nat.le_refl _))⟩
  exact ⟨by rw [List.length_reverse]; omega, _, r.reverse, IsTup.new _ _⟩
end
end L2
namespace Cw
open PySem PySem.W PySem.Calls PyProof.Rows PySem.HandSPX
section
variable {P : Program} {w : World} {A : Around} {K : Frag} {qual : Str} {scope : Scope} {fI cda cc : Addr} {m : Str → Option Value} {h0 : Heap}
/-- {f!r}: f a tuple of texts -/
theorem part_reprT {f : Str} {p1 p2 : Pos} {a : Addr} {o : Obj} {its : List Value} {l : List Str} {k n : Nat} (hk : scope.kind = .function) (hl : scope.names.lookup f = some .local) (hd : (f == ("__debug__" : Str)) = false) (hv : m f = some (.ref a))
    (ho : h0.get? a = some o) (hc : o.cls = .type "tuple") (hdt : o.data = .seq its.toArray k) (rv : L2.Vals (l.map L2.V.str) its) (hcs : ∀ y ∈ l, ∀ c ∈ y.cps.toList, c < 16 ^ 8) (hz : fmtCost l + 7 ≤ n) (hn : n ≤ sizeLine) :
    Part P w (.FormattedValue (.Name f p1) 114 none p2) qual scope fI cda cc m h0 n := by
  intro A E L s QQ hr hns hk0 q
  have hp := fmt_piled l hcs
  have htx := fmt_text (l.map reprText)
  have hu := hr.units
  refine wpAny_FormattedValue_repr (wpAny_Name (wpAny_loadName_local (v := .ref a) hk hl hns hv ?_) hd)
  have ho' : s.heap.get? a = some o := hk0 _ _ ho
  refine wpAny_pyReprObj_slot (by omega) ⟨o, ho', hc⟩ F.slot_tuple_repr ?_
  refine fmt_tuple_repr (ts := l.map reprText) ho' hc hdt (L2.repr_all rv fun y hy => ?_) (by omega) fun mm u tk hm => ?_
  · have h1 := StrLaws.reprText_len y (hcs y hy)
    have h2 := fmtCost_mem hy
    omega
  · refine ⟨mm, u, rfl, ?_⟩
    exact wpAny_formatField_str (q _ _ _ (by omega)) (q _ _ _ (by omega)) (by omega)
end
end Cw

namespace Cw
open PySem
/-! the text of a tree, read -/
/-- no name comes next -/
def NoNm : List Nat → Prop
  | [] => True
  | c :: _ => isNm c = false
theorem isNm_of {c : Nat} (h : c = 97 ∨ c = 98 ∨ c = 99) : isNm c = true := by rcases h with rfl | rfl | rfl <;> rfl
/-- the entries, read: g of what is read -/
theorem back_ents (g : Nat) : ∀ (l : List (Nat × Th)) (f last : Nat) (rest : List Nat), (∀ q ∈ l, (q.1 = 97 ∨ q.1 = 98 ∨ q.1 = 99) ∧ last < q.1 ∧ q.2 ≠ .non ∧ (q.2.isDir = true → ∀ f' rest', q.2.tx.length + rest'.length < f' → NoNm rest' → pC f' 0 (q.2.tx ++ rest') = .ok q.2.ents rest')) →
    l.Pairwise (fun a b => a.1 < b.1) → (l.flatMap Th.pX ++ rest).length < f → NoNm rest → pC f last (l.flatMap Th.pX ++ rest) = .ok l rest
  | [], 0, last, rest, _, _, hf, _ => absurd hf (Nat.not_lt_zero _)
  | [], f + 1, last, [], _, _, _, _ => rfl
  | [], f + 1, last, c :: r, _, _, _, hn => by
    have hn : isNm c = false := hn
    show pC (f + 1) last (c :: r) = _
    simp [pC, hn]
  | (c, t) :: l, 0, last, rest, _, _, hf, _ => absurd hf (Nat.not_lt_zero _)
  | (c, t) :: l, f + 1, last, rest, h, hp, hf, hn => by
    obtain ⟨h1, h2, h3, h4⟩ := h (c, t) List.mem_cons_self
    dsimp only at h1 h2 h3 h4
    cases hp with
    | cons p1 p2 =>
      have ih : ∀ f, (l.flatMap Th.pX ++ rest).length < f → pC f c (l.flatMap Th.pX ++ rest) = .ok l rest := fun f hf =>
        back_ents g l f c rest (fun q hq => by
          obtain ⟨a1, a2, a3, a4⟩ := h q (List.mem_cons_of_mem _ hq)
          exact ⟨a1, p1 q hq, a3, a4⟩) p2 hf hn
      cases t with
      | non => exact absurd rfl h3
      | file =>
        have e : ((c, Th.file) :: l).flatMap Th.pX ++ rest = c :: 45 :: (l.flatMap Th.pX ++ rest) := by simp [Th.pX, Th.xe]
        rw [e] at hf ⊢
        rw [List.length_cons, List.length_cons] at hf
        obtain ⟨f, rfl⟩ : ∃ g, f = g + 1 := ⟨f - 1, by omega⟩
        have eT : pT (f + 1) (45 :: (l.flatMap Th.pX ++ rest)) = .ok .file (l.flatMap Th.pX ++ rest) := by simp [pT]
        rw [pC, if_pos (isNm_of h1), if_neg (by omega), eT]
        dsimp only
        rw [ih (f + 1) (by omega)]
      | dir a b d =>
        have e : ((c, Th.dir a b d) :: l).flatMap Th.pX ++ rest = c :: 91 :: ((Th.dir a b d).tx ++ 93 :: (l.flatMap Th.pX ++ rest)) := by simp [Th.pX, Th.xe]
        rw [e] at hf ⊢
        rw [List.length_cons, List.length_cons, List.length_append, List.length_cons] at hf
        obtain ⟨f, rfl⟩ : ∃ g, f = g + 1 := ⟨f - 1, by omega⟩
        have eC := h4 rfl f (93 :: (l.flatMap Th.pX ++ rest)) (by rw [List.length_cons]; omega) rfl
        have eO : ofEs (Th.dir a b d).ents = Th.dir a b d := by cases a <;> cases b <;> cases d <;> rfl
        have eT : pT (f + 1) (91 :: ((Th.dir a b d).tx ++ 93 :: (l.flatMap Th.pX ++ rest))) = .ok (Th.dir a b d) (l.flatMap Th.pX ++ rest) := by
          rw [pT, if_neg (by decide), if_pos rfl, eC]
          dsimp only
          rw [if_pos rfl, eO]
        rw [pC, if_pos (isNm_of h1), if_neg (by omega), eT]
        dsimp only
        rw [ih (f + 1) (by omega)]
theorem ents_pair (t : Th) : t.ents.Pairwise (fun a b => a.1 < b.1) := by
  cases t with
  | dir a b c => cases a <;> cases b <;> cases c <;> simp [Th.ents, Th.en]
  | _ => exact .nil
theorem read_back : ∀ (n : Nat) (t : Th), t.dep ≤ n → t.isDir = true → ∀ f rest, t.tx.length + rest.length < f → NoNm rest → pC f 0 (t.tx ++ rest) = .ok t.ents rest
  | 0, t, h, hd, _, _, _, _ => by have := Th.dep_pos hd; omega
  | n + 1, t, h, hd, f, rest, hf, hn => by
    rw [Th.tx_ents]
    refine back_ents 0 t.ents f 0 rest (fun q hq => ?_) (ents_pair t) (by rw [← Th.tx_ents, List.length_append]; exact hf) hn
    obtain ⟨a1, a2, a3⟩ := Th.ents_mem hq
    exact ⟨a1, by omega, a2, fun hq f' rest' h1 h2 => read_back n q.2 (by omega) hq f' rest' h1 h2⟩
theorem ofEs_ents {t : Th} (h : t.isDir = true) : ofEs t.ents = t := by
  cases t with
  | dir a b c => cases a <;> cases b <;> cases c <;> rfl
  | _ => cases h
theorem tx_inj {t u : Th} (ht : t.isDir = true) (hu : u.isDir = true) (h : t.tx = u.tx) : t = u := by
  have a := read_back _ t (Nat.le_refl _) ht (t.tx.length + 1) [] (by simp) trivial
  have b := read_back _ u (Nat.le_refl _) hu (t.tx.length + 1) [] (by rw [h]; simp) trivial
  rw [List.append_nil] at a b
  rw [← h] at b
  have e : (Out.ok t.ents ([] : List Nat)) = Out.ok u.ents [] := a.symm.trans b
  injection e with e
  rw [← ofEs_ents ht, ← ofEs_ents hu, e]
theorem scan_tx {t : Th} {m : Nat} (h : t.isDir = true) (hm : t.dep ≤ m + 1) : scan false 0 [] t.tx = none := by
  have hw := scan_whole (m := m) (flat_tx t m hm).1
  have a := read_back _ t (Nat.le_refl _) h (t.tx.length + 1) [] (by simp) trivial
  rw [List.append_nil] at a
  cases hs : scan false 0 [] t.tx with
  | none => rfl
  | some x =>
    rw [hs] at hw
    dsimp only at hw
    rw [a] at hw
    rcases hw with hw | ⟨es, c, r, hw, _⟩
    · cases hw
    · cases hw
end Cw

namespace Cw
open PySem Th
/-! the things of a tree with their paths, in reading order -/
def pe1 (p : List Nat) (n : Nat) (t : Th) (sub : List (List Nat × Th)) : List (List Nat × Th) := match t with
  | non => []
  | t => (p ++ [n], t) :: sub
def pts (p : List Nat) : Th → List (List Nat × Th)
  | dir a b c => pe1 p 97 a (pts (p ++ [97]) a) ++ pe1 p 98 b (pts (p ++ [98]) b) ++ pe1 p 99 c (pts (p ++ [99]) c)
  | _ => []
def ptE (p : List Nat) (q : Nat × Th) : List (List Nat × Th) := (p ++ [q.1], q.2) :: pts (p ++ [q.1]) q.2
theorem pts_ents (p : List Nat) (t : Th) : pts p t = t.ents.flatMap (ptE p) := by
  have e : ∀ n (t : Th), pe1 p n t (pts (p ++ [n]) t) = (en n t).flatMap (ptE p) := fun n t => by cases t <;> simp [pe1, en, ptE]
  cases t with
  | dir a b c => simp only [pts, ents, e, List.flatMap_append]
  | _ => rfl
theorem pts_len : ∀ (p : List Nat) (t : Th), (pts p t).length ≤ t.tx.length
  | p, non => Nat.le_refl 0
  | p, file => Nat.le_refl 0
  | p, dir a b c => by
    have h : ∀ n (t : Th), (pts (p ++ [n]) t).length ≤ t.tx.length → (pe1 p n t (pts (p ++ [n]) t)).length ≤ (xe n t t.tx).length := fun n t h => by
      cases t with
      | non => exact Nat.le_refl 0
      | file => simp [pe1, pts, xe]
      | dir _ _ _ =>
        simp only [pe1, xe, List.length_cons, List.length_append]
        omega
    have ha := h 97 a (pts_len _ a)
    have hb := h 98 b (pts_len _ b)
    have hc := h 99 c (pts_len _ c)
    simp only [pts, tx, List.length_append]
    omega
theorem ptE_len (p : List Nat) (q : Nat × Th) (h : q.2 ≠ .non) : (ptE p q).length ≤ (pX q).length := by
  have := pts_len (p ++ [q.1]) q.2
  obtain ⟨n, t⟩ := q
  cases t with
  | non => exact absurd rfl h
  | file => simp [ptE, pts, pX, xe]
  | dir _ _ _ =>
    simp only [ptE, pX, xe, List.length_cons, List.length_append] at this ⊢
    omega
def pathD (p : List Nat) : PyData := .tuple (p.map fun c => PyData.str (S [c]))
def kindS (t : Th) : Str := if t = .file then "file" else "folder"
/-- what things tells of a thing -/
def rowD (q : List Nat × Th) : PyData := .tuple [pathD q.1, .str (kindS q.2)]
/-- a path and its thing -/
def ptD (q : List Nat × Th) : PyData := .tuple [pathD q.1, D q.2]
def okPath (p : List Nat) : Prop := p.length ≤ 100 ∧ ∀ c ∈ p, c = 97 ∨ c = 98 ∨ c = 99
theorem okPath.snoc {p : List Nat} {c : Nat} (h : okPath p) (hl : p.length < 100) (hc : c = 97 ∨ c = 98 ∨ c = 99) : okPath (p ++ [c]) := by
  refine ⟨by rw [List.length_append, List.length_singleton]; omega, fun d hd => ?_⟩
  rcases List.mem_append.mp hd with hd | hd
  · exact h.2 d hd
  · rw [List.mem_singleton.mp hd]; exact hc
theorem pts_ok : ∀ (n : Nat) (p : List Nat) (t : Th), t.dep ≤ n → p.length + n ≤ 100 → okPath p → ∀ q ∈ pts p t, okPath q.1 ∧ q.2 ≠ .non ∧ q.2.dep < t.dep + 1
  | 0, p, t, h, _, _, q, hq => by
    cases t with
    | dir a b c => simp [Th.dep] at h
    | _ => cases hq
  | n + 1, p, t, h, hp, ok, q, hq => by
    rw [pts_ents] at hq
    obtain ⟨e, he, hq⟩ := List.mem_flatMap.mp hq
    obtain ⟨h1, h2, h3⟩ := ents_mem he
    have ok2 := ok.snoc (by omega) h1
    rcases List.mem_cons.mp hq with rfl | hq
    · exact ⟨ok2, h2, by show e.2.dep < t.dep + 1; omega⟩
    · obtain ⟨a1, a2, a3⟩ := pts_ok n _ _ (by omega) (by rw [List.length_append, List.length_singleton]; omega) ok2 q hq
      exact ⟨a1, a2, by omega⟩
theorem lay_path {p : List Nat} (h : okPath p) : PyData.canLay0 (pathD p) = true ∧ (pathD p).depth ≤ 1 := by
  have l : ∀ q : List Nat, (∀ c ∈ q, c = 97 ∨ c = 98 ∨ c = 99) → PyData.canLayAll0 (q.map fun c => PyData.str (S [c])) = true ∧ PyData.depthAll (q.map fun c => PyData.str (S [c])) = 0 := by
    intro q
    induction q with
    | nil => intro _; exact ⟨rfl, rfl⟩
    | cons a r ih =>
      intro h
      obtain ⟨h1, h2⟩ := ih fun x hx => h x (List.mem_cons_of_mem _ hx)
      have ha := h a List.mem_cons_self
      have hs : PyData.canLay0 (.str (S [a])) = true := lay_str (fun c hc => by
        have := List.mem_singleton.mp hc; omega)
      refine ⟨?_, ?_⟩
      · show (PyData.canLay0 (.str (S [a])) && PyData.canLayAll0 (r.map fun c => PyData.str (S [c]))) = true
        rw [hs, h1]; rfl
      · show max (PyData.depth (.str (S [a]))) (PyData.depthAll (r.map fun c => PyData.str (S [c]))) = 0
        rw [h2]; rfl
  obtain ⟨h1, h2⟩ := l p h.2
  refine ⟨h1, ?_⟩
  simp only [pathD, PyData.depth, h2]
  exact Nat.le_refl _
theorem lay_row {q : List Nat × Th} (h : okPath q.1) : PyData.canLay0 (rowD q) = true ∧ (rowD q).depth ≤ 2 := by
  obtain ⟨h1, h2⟩ := lay_path h
  have k : PyData.canLay0 (.str (kindS q.2)) = true := by unfold kindS; split <;> decide +kernel
  refine ⟨?_, ?_⟩
  · show (PyData.canLay0 (pathD q.1) && (PyData.canLay0 (.str (kindS q.2)) && true)) = true
    rw [h1, k]; rfl
  · show max (pathD q.1).depth (max 0 0) + 1 ≤ 2
    omega
theorem shaped_rows {l : List (List Nat × Th)} (h : ∀ q ∈ l, okPath q.1) : SeqAt.shaped (.list (l.map rowD)) = true := by
  have g : ∀ l : List (List Nat × Th), (∀ q ∈ l, okPath q.1) → PyData.canLayAll0 (l.map rowD) = true ∧ PyData.depthAll (l.map rowD) ≤ 2 := by
    intro l
    induction l with
    | nil => intro _; exact ⟨rfl, Nat.zero_le _⟩
    | cons a r ih =>
      intro h
      obtain ⟨h1, h2⟩ := ih fun x hx => h x (List.mem_cons_of_mem _ hx)
      obtain ⟨g1, g2⟩ := lay_row (h a List.mem_cons_self)
      refine ⟨?_, ?_⟩
      · show (PyData.canLay0 (rowD a) && PyData.canLayAll0 (r.map rowD)) = true
        rw [h1, g1]; rfl
      · show max (rowD a).depth (PyData.depthAll (r.map rowD)) ≤ 2
        omega
  obtain ⟨h1, h2⟩ := g l h
  have h3 : (PyData.list (l.map rowD)).depth ≤ 3 := Nat.succ_le_succ h2
  simp only [SeqAt.shaped, PyData.canLay0, h1, Bool.true_and, decide_eq_true_eq]
  omega
end Cw

namespace Toy
open PySem L2
def tp (i : Nat) : Stmt := PySem.Challenge.pw_changedwalks_k01_trees_and_their_texts.main.body.getD i (.Pass ⟨0, 0, 0, 0⟩)
abbrev s_BadTree_init : Stmt := inClass (tp 2) 0
abbrev s_BadText_init : Stmt := inClass (tp 3) 0
abbrev s_is_name : Stmt := tp 8
abbrev s_sort_of : Stmt := tp 9
abbrev s_is_thing : Stmt := tp 10
abbrev s_is_content : Stmt := tp 11
abbrev s_check_folder : Stmt := tp 12
abbrev s_check_tree : Stmt := tp 13
abbrev s_things_in : Stmt := tp 14
abbrev s_things : Stmt := tp 15
abbrev s_size : Stmt := tp 16
abbrev s_write_tree : Stmt := tp 17
abbrev s_Reader_init : Stmt := inClass (tp 18) 0
abbrev s_Reader_sign : Stmt := inClass (tp 18) 1
abbrev s_Reader_thing : Stmt := inClass (tp 18) 2
abbrev s_Reader_content : Stmt := inClass (tp 18) 3
abbrev s_read_tree : Stmt := tp 19
abbrev s_l_draws : Stmt := tp 21
abbrev s_l_pick : Stmt := tp 22
abbrev s_l_tree : Stmt := tp 23
abbrev s_l_text : Stmt := tp 24
abbrev s_l_paths : Stmt := tp 25
abbrev s_l_odd : Stmt := tp 26
abbrev s_l_spoilt : Stmt := tp 27
abbrev s_l_is_entry : Stmt := tp 28
abbrev s_l_fault : Stmt := tp 29
abbrev s_l_told : Stmt := tp 30
abbrev s_law : Stmt := tp 31
theorem sc_is_name : FnScope ["value"] ["value"] (defScope s_is_name) := ⟨rfl, rfl, rfl, by decide +kernel, rfl, by decide +kernel, by decide +kernel⟩
theorem sc_sort_of : FnScope ["thing"] ["thing"] (defScope s_sort_of) := ⟨rfl, rfl, rfl, by decide +kernel, rfl, by decide +kernel, by decide +kernel⟩
theorem sc_is_thing : FnScope ["value"] ["value"] (defScope s_is_thing) := ⟨rfl, rfl, rfl, by decide +kernel, rfl, by decide +kernel, by decide +kernel⟩
theorem sc_is_content : FnScope ["value", "last", "entry"] ["value"] (defScope s_is_content) := ⟨rfl, rfl, rfl, by decide +kernel, rfl, by decide +kernel, by decide +kernel⟩
theorem sc_check_folder : FnScope ["value", "path", "name", "thing"] ["value", "path"] (defScope s_check_folder) := ⟨rfl, rfl, rfl, by decide +kernel, rfl, by decide +kernel, by decide +kernel⟩
theorem sc_check_tree : FnScope ["value"] ["value"] (defScope s_check_tree) := ⟨rfl, rfl, rfl, by decide +kernel, rfl, by decide +kernel, by decide +kernel⟩
theorem sc_things_in : FnScope ["tree", "path", "found", "name", "thing", "here"] ["tree", "path"] (defScope s_things_in) := ⟨rfl, rfl, rfl, by decide +kernel, rfl, by decide +kernel, by decide +kernel⟩
theorem sc_things : FnScope ["tree"] ["tree"] (defScope s_things) := ⟨rfl, rfl, rfl, by decide +kernel, rfl, by decide +kernel, by decide +kernel⟩
theorem sc_size : FnScope ["tree"] ["tree"] (defScope s_size) := ⟨rfl, rfl, rfl, by decide +kernel, rfl, by decide +kernel, by decide +kernel⟩
theorem sc_write_tree : FnScope ["tree", "found", "name", "thing"] ["tree"] (defScope s_write_tree) := ⟨rfl, rfl, rfl, by decide +kernel, rfl, by decide +kernel, by decide +kernel⟩
theorem sc_Reader_init : FnScope ["self", "text"] ["self", "text"] (defScope s_Reader_init) := ⟨rfl, rfl, rfl, by decide +kernel, rfl, by decide +kernel, by decide +kernel⟩
theorem sc_Reader_sign : FnScope ["self"] ["self"] (defScope s_Reader_sign) := ⟨rfl, rfl, rfl, by decide +kernel, rfl, by decide +kernel, by decide +kernel⟩
theorem sc_Reader_thing : FnScope ["self", "found"] ["self"] (defScope s_Reader_thing) := ⟨rfl, rfl, rfl, by decide +kernel, rfl, by decide +kernel, by decide +kernel⟩
theorem sc_Reader_content : FnScope ["self", "found", "last", "name"] ["self"] (defScope s_Reader_content) := ⟨rfl, rfl, rfl, by decide +kernel, rfl, by decide +kernel, by decide +kernel⟩
theorem sc_read_tree : FnScope ["text", "reader", "found"] ["text"] (defScope s_read_tree) := ⟨rfl, rfl, rfl, by decide +kernel, rfl, by decide +kernel, by decide +kernel⟩
theorem sc_l_draws : FnScope ["_law_script"] ["_law_script"] (defScope s_l_draws) := ⟨rfl, rfl, rfl, by decide +kernel, rfl, by decide +kernel, by decide +kernel⟩
theorem sc_l_pick : FnScope ["_law_row", "_law_many", "_law_cell", "_law_found"] ["_law_row", "_law_many"] (defScope s_l_pick) := ⟨rfl, rfl, rfl, by decide +kernel, rfl, by decide +kernel, by decide +kernel⟩
theorem sc_l_tree : FnScope ["_law_row", "_law_deep", "_law_found", "_law_name", "_law_kind"] ["_law_row", "_law_deep"] (defScope s_l_tree) := ⟨rfl, rfl, rfl, by decide +kernel, rfl, by decide +kernel, by decide +kernel⟩
theorem sc_l_text : FnScope ["_law_tree_here", "_law_found", "_law_name", "_law_thing"] ["_law_tree_here"] (defScope s_l_text) := ⟨rfl, rfl, rfl, by decide +kernel, rfl, by decide +kernel, by decide +kernel⟩
theorem sc_l_paths : FnScope ["_law_tree_here", "_law_base", "_law_found", "_law_name", "_law_thing"] ["_law_tree_here", "_law_base"] (defScope s_l_paths) := ⟨rfl, rfl, rfl, by decide +kernel, rfl, by decide +kernel, by decide +kernel⟩
theorem sc_l_odd : FnScope ["_law_row", "_law_odd_here"] ["_law_row"] (defScope s_l_odd) := ⟨rfl, rfl, rfl, by decide +kernel, rfl, by decide +kernel, by decide +kernel⟩
theorem sc_l_spoilt : FnScope ["_law_row", "_law_tree_here", "_law_deep", "_law_k", "_law_inner", "_law_at", "_law_entry", "_law_turn_of"] ["_law_row", "_law_tree_here", "_law_deep"] (defScope s_l_spoilt) := ⟨rfl, rfl, rfl, by decide +kernel, rfl, by decide +kernel, by decide +kernel⟩
theorem sc_l_is_entry : FnScope ["_law_entry", "_law_last"] ["_law_entry", "_law_last"] (defScope s_l_is_entry) := ⟨rfl, rfl, rfl, by decide +kernel, rfl, by decide +kernel, by decide +kernel⟩
theorem sc_l_fault : FnScope ["_law_value", "_law_path", "_law_last", "_law_entry", "_law_found"] ["_law_value", "_law_path"] (defScope s_l_fault) := ⟨rfl, rfl, rfl, by decide +kernel, rfl, by decide +kernel, by decide +kernel⟩
theorem sc_l_told : FnScope ["_law_value", "_law_told_here", "e"] ["_law_value"] (defScope s_l_told) := ⟨rfl, rfl, rfl, by decide +kernel, rfl, by decide +kernel, by decide +kernel⟩
theorem sc_law : FnScope ["_law_script", "_law_row", "_law_turn", "_law_tree_here", "_law_rows", "_law_path", "_law_thing", "_law_text_here", "_law_value", "_law_k"] ["_law_script"] (defScope s_law) := ⟨rfl, rfl, rfl, by decide +kernel, rfl, by decide +kernel, by decide +kernel⟩
structure Tx (P : Program) (K : PySem.W.Frag) (mg : Str → Option Value) where
  n_len : mg "len" = none
  n_int : mg "int" = none
  n_list : mg "list" = none
  n_tuple : mg "tuple" = none
  n_range : mg "range" = none
  n_isinstance : mg "isinstance" = none
  n_str : mg "str" = none
  t_FILE : Tok
  m_FILE : mg "FILE" = some (.str "file" t_FILE)
  t_FOLDER : Tok
  m_FOLDER : mg "FOLDER" = some (.str "folder" t_FOLDER)
  a_NAMES : Addr
  m_NAMES : mg "NAMES" = some (.ref a_NAMES)
  c_NAMES : ∀ H, SqT K H a_NAMES [.str "a", .str "b", .str "c"]
  C_Reader : Addr
  c_Reader : Cls K C_Reader
  m_Reader : mg "Reader" = some (.ref C_Reader)
  A_Reader_text : NoAttr K C_Reader "text"
  A_Reader_spot : NoAttr K C_Reader "spot"
  f_is_name : Addr
  d_is_name : FuncData
  F_is_name : Fun K "is_name" "is_name" s_is_name f_is_name d_is_name
  b_is_name : Binds K d_is_name ["value"] []
  m_is_name : mg "is_name" = some (.ref f_is_name)
  f_sort_of : Addr
  d_sort_of : FuncData
  F_sort_of : Fun K "sort_of" "sort_of" s_sort_of f_sort_of d_sort_of
  b_sort_of : Binds K d_sort_of ["thing"] []
  m_sort_of : mg "sort_of" = some (.ref f_sort_of)
  f_is_thing : Addr
  d_is_thing : FuncData
  F_is_thing : Fun K "is_thing" "is_thing" s_is_thing f_is_thing d_is_thing
  b_is_thing : Binds K d_is_thing ["value"] []
  m_is_thing : mg "is_thing" = some (.ref f_is_thing)
  f_is_content : Addr
  d_is_content : FuncData
  F_is_content : Fun K "is_content" "is_content" s_is_content f_is_content d_is_content
  b_is_content : Binds K d_is_content ["value"] []
  m_is_content : mg "is_content" = some (.ref f_is_content)
  f_check_folder : Addr
  d_check_folder : FuncData
  F_check_folder : Fun K "check_folder" "check_folder" s_check_folder f_check_folder d_check_folder
  b_check_folder : Binds K d_check_folder ["value", "path"] []
  m_check_folder : mg "check_folder" = some (.ref f_check_folder)
  f_check_tree : Addr
  d_check_tree : FuncData
  F_check_tree : Fun K "check_tree" "check_tree" s_check_tree f_check_tree d_check_tree
  b_check_tree : Binds K d_check_tree ["value"] []
  m_check_tree : mg "check_tree" = some (.ref f_check_tree)
  f_things_in : Addr
  d_things_in : FuncData
  F_things_in : Fun K "things_in" "things_in" s_things_in f_things_in d_things_in
  b_things_in : Binds K d_things_in ["tree", "path"] []
  m_things_in : mg "things_in" = some (.ref f_things_in)
  f_things : Addr
  d_things : FuncData
  F_things : Fun K "things" "things" s_things f_things d_things
  b_things : Binds K d_things ["tree"] []
  m_things : mg "things" = some (.ref f_things)
  f_size : Addr
  d_size : FuncData
  F_size : Fun K "size" "size" s_size f_size d_size
  b_size : Binds K d_size ["tree"] []
  m_size : mg "size" = some (.ref f_size)
  f_write_tree : Addr
  d_write_tree : FuncData
  F_write_tree : Fun K "write_tree" "write_tree" s_write_tree f_write_tree d_write_tree
  b_write_tree : Binds K d_write_tree ["tree"] []
  m_write_tree : mg "write_tree" = some (.ref f_write_tree)
  f_Reader_init : Addr
  d_Reader_init : FuncData
  F_Reader_init : Fun K "__init__" "Reader.__init__" s_Reader_init f_Reader_init d_Reader_init
  b_Reader_init : Binds K d_Reader_init ["self", "text"] []
  K_Reader : Mk K C_Reader f_Reader_init
  f_Reader_sign : Addr
  d_Reader_sign : FuncData
  F_Reader_sign : Fun K "sign" "Reader.sign" s_Reader_sign f_Reader_sign d_Reader_sign
  b_Reader_sign : Binds K d_Reader_sign ["self"] []
  M_Reader_sign : Meth K C_Reader "sign" f_Reader_sign
  f_Reader_thing : Addr
  d_Reader_thing : FuncData
  F_Reader_thing : Fun K "thing" "Reader.thing" s_Reader_thing f_Reader_thing d_Reader_thing
  b_Reader_thing : Binds K d_Reader_thing ["self"] []
  M_Reader_thing : Meth K C_Reader "thing" f_Reader_thing
  f_Reader_content : Addr
  d_Reader_content : FuncData
  F_Reader_content : Fun K "content" "Reader.content" s_Reader_content f_Reader_content d_Reader_content
  b_Reader_content : Binds K d_Reader_content ["self"] []
  M_Reader_content : Meth K C_Reader "content" f_Reader_content
  f_read_tree : Addr
  d_read_tree : FuncData
  F_read_tree : Fun K "read_tree" "read_tree" s_read_tree f_read_tree d_read_tree
  b_read_tree : Binds K d_read_tree ["text"] []
  m_read_tree : mg "read_tree" = some (.ref f_read_tree)
  f_l_draws : Addr
  d_l_draws : FuncData
  F_l_draws : Fun K "_law_draws" "_law_draws" s_l_draws f_l_draws d_l_draws
  b_l_draws : Binds K d_l_draws ["_law_script"] []
  m_l_draws : mg "_law_draws" = some (.ref f_l_draws)
  f_l_pick : Addr
  d_l_pick : FuncData
  F_l_pick : Fun K "_law_pick" "_law_pick" s_l_pick f_l_pick d_l_pick
  b_l_pick : Binds K d_l_pick ["_law_row", "_law_many"] []
  m_l_pick : mg "_law_pick" = some (.ref f_l_pick)
  f_l_tree : Addr
  d_l_tree : FuncData
  F_l_tree : Fun K "_law_tree" "_law_tree" s_l_tree f_l_tree d_l_tree
  b_l_tree : Binds K d_l_tree ["_law_row", "_law_deep"] []
  m_l_tree : mg "_law_tree" = some (.ref f_l_tree)
  f_l_text : Addr
  d_l_text : FuncData
  F_l_text : Fun K "_law_text" "_law_text" s_l_text f_l_text d_l_text
  b_l_text : Binds K d_l_text ["_law_tree_here"] []
  m_l_text : mg "_law_text" = some (.ref f_l_text)
  f_l_paths : Addr
  d_l_paths : FuncData
  F_l_paths : Fun K "_law_paths" "_law_paths" s_l_paths f_l_paths d_l_paths
  b_l_paths : Binds K d_l_paths ["_law_tree_here", "_law_base"] []
  m_l_paths : mg "_law_paths" = some (.ref f_l_paths)
  f_l_odd : Addr
  d_l_odd : FuncData
  F_l_odd : Fun K "_law_odd" "_law_odd" s_l_odd f_l_odd d_l_odd
  b_l_odd : Binds K d_l_odd ["_law_row"] []
  m_l_odd : mg "_law_odd" = some (.ref f_l_odd)
  f_l_spoilt : Addr
  d_l_spoilt : FuncData
  F_l_spoilt : Fun K "_law_spoilt" "_law_spoilt" s_l_spoilt f_l_spoilt d_l_spoilt
  b_l_spoilt : Binds K d_l_spoilt ["_law_row", "_law_tree_here", "_law_deep"] []
  m_l_spoilt : mg "_law_spoilt" = some (.ref f_l_spoilt)
  f_l_is_entry : Addr
  d_l_is_entry : FuncData
  F_l_is_entry : Fun K "_law_is_entry" "_law_is_entry" s_l_is_entry f_l_is_entry d_l_is_entry
  b_l_is_entry : Binds K d_l_is_entry ["_law_entry", "_law_last"] []
  m_l_is_entry : mg "_law_is_entry" = some (.ref f_l_is_entry)
  f_l_fault : Addr
  d_l_fault : FuncData
  F_l_fault : Fun K "_law_fault" "_law_fault" s_l_fault f_l_fault d_l_fault
  b_l_fault : Binds K d_l_fault ["_law_value", "_law_path"] []
  m_l_fault : mg "_law_fault" = some (.ref f_l_fault)
  f_l_told : Addr
  d_l_told : FuncData
  F_l_told : Fun K "_law_told" "_law_told" s_l_told f_l_told d_l_told
  b_l_told : Binds K d_l_told ["_law_value"] []
  m_l_told : mg "_law_told" = some (.ref f_l_told)
  f_law : Addr
  d_law : FuncData
  F_law : Fun K "law" "law" s_law f_law d_law
  b_law : Binds K d_law ["_law_script"] []
  m_law : mg "law" = some (.ref f_law)
  C_BadTree : Addr
  m_BadTree : mg "BadTree" = some (.ref C_BadTree)
  f_BadTree_init : Addr
  cc_BadTree : Addr
  cd_BadTree : Addr
  X_BadTree : Cw.XTxt P K C_BadTree f_BadTree_init cc_BadTree cd_BadTree "__init__" "BadTree.__init__" (defArgs s_BadTree_init) (defBody s_BadTree_init) (defScope s_BadTree_init)
  tp_BadTree : (P.main.scope.names.lookup ("super" : Str)).isSome = false
  E_BadTree : ExcC K C_BadTree
  Y_BadTree : XfC K C_BadTree
  te_BadTree : PySem.W.exmOne K (.ref C_BadTree) (.ref C_BadTree) = some true
  A_BadTree_path : PySem.W.findIn K (.ref C_BadTree) "path" = some none
  C_BadText : Addr
  m_BadText : mg "BadText" = some (.ref C_BadText)
  f_BadText_init : Addr
  cc_BadText : Addr
  cd_BadText : Addr
  X_BadText : Cw.XTxt P K C_BadText f_BadText_init cc_BadText cd_BadText "__init__" "BadText.__init__" (defArgs s_BadText_init) (defBody s_BadText_init) (defScope s_BadText_init)
  tp_BadText : (P.main.scope.names.lookup ("super" : Str)).isSome = false
  E_BadText : ExcC K C_BadText
  Y_BadText : XfC K C_BadText
  te_BadText : PySem.W.exmOne K (.ref C_BadText) (.ref C_BadText) = some true
  A_BadText_place : PySem.W.findIn K (.ref C_BadText) "place" = some none
  C_WalkError : Addr
  m_WalkError : mg "WalkError" = some (.ref C_WalkError)
  kw_BadTree : PySem.W.kitOne K (.ref C_BadTree) (.ref C_WalkError) = some true
/-! the draws -/
section
variable {P : Program} {w : World} {K : PySem.W.Frag} {mg : Str → Option Value} {base : Heap}
/-- the row of draws: its address, its list's address, the script's ints -/
structure Rw where
  r : Addr
  q : Addr
  ns : List Int
def Row (K : PySem.W.Frag) (H : Hp) (ρ : Rw) : Prop := ∃ (a : Nat) (b c : Int), H ρ.r = some (.lst [.ref ρ.q, .int a, .int b, .int c]) ∧ SqL K H ρ.q (ρ.ns.map V.int) ∧ ρ.q ≠ ρ.r ∧ a ≤ ρ.ns.length ∧ 0 ≤ b
theorem Row.same {H H' : Hp} {ρ : Rw} (h : Row K H ρ) (e : Same H H') : Row K H' ρ := by
  obtain ⟨a, b, c, h1, h2, h3⟩ := h
  exact ⟨a, b, c, e _ _ h1, e.seq h2, h3⟩
theorem Row.lst {H : Hp} {ρ : Rw} (h : Row K H ρ) : ∃ ys, H ρ.r = some (.lst ys) := by
  obtain ⟨a, b, c, h1, _⟩ := h
  exact ⟨_, h1⟩
/-- something else is written that was not there at first -/
theorem Row.mut {H H0 : Hp} {ρ : Rw} {l : Addr} {o : HO} (h : Row K H ρ) (h0 : Row K H0 ρ) (hl : H0 l = none) : Row K (upd H l o) ρ := by
  obtain ⟨a, b, c, h1, h2, h3⟩ := h
  obtain ⟨a0, b0, c0, g1, g2, _⟩ := h0
  refine ⟨a, b, c, by rw [upd_ne (ne_of_none g1 hl)]; exact h1, ?_, h3⟩
  have tr : ∀ u, H0 ρ.q = some u → SqL K (upd H l o) ρ.q (ρ.ns.map V.int) := fun u e => by
    have n : ρ.q ≠ l := ne_of_none e hl
    rcases h2 with (h2 | ⟨u, h2⟩) | h2
    · exact .inl (.inl (by rw [upd_ne n]; exact h2))
    · exact .inl (.inr ⟨u, by rw [upd_ne n]; exact h2⟩)
    · exact .inr h2
  rcases g2 with (g2 | ⟨u, g2⟩) | g2
  · exact tr _ g2
  · exact tr _ g2
  · exact .inr g2
def spDraws (K : PySem.W.Frag) : Sp := fun vs H Q _ => ∃ (a : Addr) (ns : List Int), vs = [.ref a] ∧ SqL K H a (ns.map V.int) ∧ ∀ r q H', Same H H' → H r = none → Row K H' ⟨r, q, ns⟩ → Q (.ref r) H'
def spPick (K : PySem.W.Frag) : Sp := fun vs H Q _ => ∃ (ρ : Rw) (m : Int), vs = [.ref ρ.r, .int m] ∧ 0 < m ∧ m < 1000000 ∧ Row K H ρ ∧ ∀ v H', 0 ≤ v → v < m → Row K H' ρ → But ρ.r H H' → Q (.int v) H'
theorem ok_l_draws (T : Tx P K mg) : FnOk P w K mg base CX0 1 T.f_l_draws T.d_l_draws ["_law_script"] (spDraws K) := by
  refine T.F_l_draws.ok sc_l_draws (fun vs H Q E h => ?_) (fun cdv A outer s H vs Q E hr h => ?_)
  · obtain ⟨a, ns, rfl, _⟩ := h
    rfl
  · obtain ⟨a, ns, rfl, hS, k⟩ := h
    refine ⟨_, (pss_one (ps_ret (pe_lst (pa_cons (pe_callTy call_list_of (by rfl) T.n_list (by decide +kernel) (pa_cons (pv 0) pa_nil)) (pa_cons pe_int (pa_cons pe_int (pa_cons pe_int pa_nil))))))), ?_⟩
    refine ⟨_, rfl, a, _, rfl, .inl hS, fun l hl0 => ⟨(by show 4 ≤ sizeLine; decide), fun r hr0 => ?_⟩⟩
    have n : l ≠ r := ne_of_none upd_same hr0
    have s1 : Same H (upd H l (.lst (ns.map V.int))) := same_new hl0
    refine k r l _ (s1.trans (same_new hr0)) (s1.free hr0) ⟨0, 0, 7, upd_same, SqL.of (by rw [upd_ne n]; exact upd_same), n, Nat.zero_le _, by decide⟩
theorem cmul_r (i : Int) {j : Int} (h : -(2 ^ 64) < j ∧ j < 2 ^ 64) : CMul i j := .inr h
theorem ok_l_pick (T : Tx P K mg) : FnOk P w K mg base CX0 1 T.f_l_pick T.d_l_pick ["_law_row", "_law_many"] (spPick K) := by
  refine T.F_l_pick.ok sc_l_pick (fun vs H Q E h => ?_) (fun cdv A outer s H vs Q E hr h => ?_)
  · obtain ⟨a, ns, rfl, _⟩ := h
    rfl
  · obtain ⟨⟨r, l, ns⟩, m, rfl, hm0, hm1, hrow, k⟩ := h
    refine ⟨_, (Evl.pss_cut (ps_if (pt_cmpR op_eq (pe_ix ix_list (pv 0) pe_int (fun _ _ => rfl)) pe_int (nomark _))
  (pss_one (ps_if (pt_cmpR op_lt (pe_ix ix_list (pv 0) pe_int (fun _ _ => rfl)) (pe_callB call_len_seq (by rfl) T.n_len PySem.boot_len (pa_cons (pe_ix ix_list (pv 0) pe_int (fun _ _ => rfl)) pa_nil)) (nomark _))
  (pss_cons (ps_set (i := 2) sc_l_pick.nd rfl (Or.inl rfl) (pe_ix ix_list (pe_ix ix_list (pv 0) pe_int (fun _ _ => rfl)) (pe_ix ix_list (pv 0) pe_int (fun _ _ => rfl)) (fun _ _ => rfl)))
  (pss_cons (ps_asg (pe_op op_add (pe_ix ix_list (pv 0) pe_int (fun _ _ => rfl)) pe_int) (pg_sub (pv 0) pe_int set_list))
  (pss_one (ps_if (pt_cmpR op_ge (pv 2) (pe_op op_pow pe_int pe_int) (nomark _))
  (pss_one (ps_asg (pv 2) (pg_sub (pv 0) pe_int set_list)))
  (pss_one (ps_asg (pe_op op_mod (pe_callTy call_int1 (by rfl) T.n_int (by decide +kernel) (pa_cons (pe_op op_add (pe_op op_add (pe_op op_mul (pe_ix ix_list (pv 0) pe_int (fun _ _ => rfl)) pe_int) (pe_op op_mul (pv 2) pe_int)) pe_int) pa_nil)) pe_int) (pg_sub (pv 0) pe_int set_list)))))))
  (pss_one (ps_asg (pe_op op_mod (pe_callTy call_int1 (by rfl) T.n_int (by decide +kernel) (pa_cons (pe_op op_add (pe_op op_mul (pe_ix ix_list (pv 0) pe_int (fun _ _ => rfl)) pe_int) pe_int) pa_nil)) pe_int) (pg_sub (pv 0) pe_int set_list)))))
  pss_nil)
  (pss_cons (ps_if (pt_cmpR op_gt (pe_ix ix_list (pv 0) pe_int (fun _ _ => rfl)) pe_int (nomark _))
  (pss_cons (ps_set (i := 3) sc_l_pick.nd rfl (Or.inl rfl) (pe_op op_mod (pe_callTy call_int1 (by rfl) T.n_int (by decide +kernel) (pa_cons (pe_ix ix_list (pv 0) pe_int (fun _ _ => rfl)) pa_nil)) (pv 1)))
  (pss_cons (ps_asg (pe_op op_fdiv (pe_ix ix_list (pv 0) pe_int (fun _ _ => rfl)) (pv 1)) (pg_sub (pv 0) pe_int set_list))
  (pss_one (ps_ret (pv 3)))))
  pss_nil)
  (pss_one (ps_ret (pe_op op_mod (pe_op op_mod (pe_callTy call_int1 (by rfl) T.n_int (by decide +kernel) (pa_cons (pe_op op_mul (pe_ix ix_list (pv 0) pe_int (fun _ _ => rfl)) pe_int) pa_nil)) pe_int) (pv 1)))))), ?_⟩
    refine ⟨fun σ H' => ∃ c, σ = [some (.ref r), some (.int m), c, none] ∧ Row K H' ⟨r, l, ns⟩ ∧ But r H H', ?_, ?_⟩
    · obtain ⟨a, b, c, h1, h2, h3, h4, h5⟩ := id hrow
      dsimp only at h1 h2 h3 h4
      refine ⟨_, rfl, r, _, _, _, rfl, rfl, SqL.of h1, at_of (j := 2) rfl rfl, rfl, _, rfl, ?_⟩
      refine ite2 (fun e => ?_) (fun e => ?_)
      · refine ⟨_, rfl, r, _, _, _, rfl, rfl, SqL.of h1, at_of (j := 1) rfl rfl, _, rfl, r, _, _, _, rfl, rfl, SqL.of h1, at_of (j := 0) rfl rfl, l, _, rfl, .inl h2, _, _, rfl, rfl, _, rfl, ?_⟩
        refine ite2 (fun e2 => ?_) (fun e2 => ?_)
        · have e3 : a < ns.length := by
            have := of_decide_eq_true e2
            rw [List.length_map] at this
            omega
          refine ⟨_, rfl, r, _, _, _, rfl, rfl, SqL.of h1, at_of (j := 0) rfl rfl, _, rfl, r, _, _, _, rfl, rfl, SqL.of h1, at_of (j := 1) rfl rfl, l, _, _, _, rfl, rfl, h2, at_of (j := a) rfl (by rw [List.getElem?_map, List.getElem?_eq_getElem e3]; rfl), ?_⟩
          refine ⟨_, rfl, r, _, _, _, rfl, rfl, SqL.of h1, at_of (j := 1) rfl rfl, _, _, rfl, rfl, _, rfl, r, _, _, 1, rfl, rfl, h1, rfl, ?_⟩
          have hu : (upd H r (.lst ([V.ref l, .int a, .int b, .int c].set 1 (.int ((a : Int) + 1))))) r = some (.lst [.ref l, .int ((a + 1 : Nat) : Int), .int b, .int c]) := upd_same
          have hb1 : But r H (upd H r (.lst ([V.ref l, .int a, .int b, .int c].set 1 (.int ((a : Int) + 1))))) := (But.refl r H).upd
          have hq1 := hb1.seq h2 h3
          refine ⟨_, rfl, _, _, rfl, rfl, ⟨by decide, by decide, by decide⟩, _, _, rfl, rfl, _, rfl, ?_⟩
          refine ite2 (fun e4 => ?_) (fun e4 => ?_)
          · refine ⟨_, rfl, _, rfl, r, _, _, 2, rfl, rfl, hu, rfl, ?_⟩
            refine ⟨_, rfl, ⟨a + 1, _, c, upd_same, (hb1.upd).seq h2 h3, h3, e3, ?_⟩, hb1.upd⟩
            have := of_decide_eq_true e4
            have : (10 : Int) ^ (18 : Int).toNat = 1000000000000000000 := by decide
            omega
          · refine ⟨_, rfl, r, _, _, _, rfl, rfl, SqL.of hu, at_of (j := 3) rfl rfl, _, _, rfl, rfl, cmul_r _ ⟨by decide, by decide⟩, _, rfl, _, _, rfl, rfl, cmul_r _ ⟨by decide, by decide⟩, _, _, rfl, rfl, _, _, rfl, rfl, .inl ⟨_, rfl, ?_⟩⟩
            refine ⟨_, _, rfl, rfl, (by show (0 : Int) < 2147483647; decide), _, rfl, r, _, _, 3, rfl, rfl, hu, rfl, ?_⟩
            exact ⟨_, rfl, ⟨a + 1, b, _, upd_same, (hb1.upd).seq h2 h3, h3, e3, h5⟩, hb1.upd⟩
        · refine ⟨_, rfl, r, _, _, _, rfl, rfl, SqL.of h1, at_of (j := 3) rfl rfl, _, _, rfl, rfl, cmul_r _ ⟨by decide, by decide⟩, _, _, rfl, rfl, .inl ⟨_, rfl, ?_⟩⟩
          refine ⟨_, _, rfl, rfl, (by show (0 : Int) < 2147483647; decide), _, rfl, r, _, _, 3, rfl, rfl, h1, rfl, ?_⟩
          exact ⟨_, rfl, ⟨a, b, _, upd_same, ((But.refl r H).upd).seq h2 h3, h3, h4, h5⟩, (But.refl r H).upd⟩
      · exact ⟨_, rfl, hrow, But.refl r H⟩
    · rintro σ H1 ⟨cell, rfl, ⟨a, b, c, h1, h2, h3, h4, h5⟩, hb⟩
      dsimp only at h1 h2 h3 h4
      refine ⟨_, rfl, r, _, _, _, rfl, rfl, SqL.of h1, at_of (j := 2) rfl rfl, _, _, rfl, rfl, _, rfl, ?_⟩
      refine ite2 (fun e => ?_) (fun e => ?_)
      · refine ⟨_, rfl, r, _, _, _, rfl, rfl, SqL.of h1, at_of (j := 2) rfl rfl, .inl ⟨_, rfl, ?_⟩⟩
        refine ⟨_, rfl, _, _, rfl, rfl, hm0, ?_⟩
        refine ⟨_, rfl, r, _, _, _, rfl, rfl, SqL.of h1, at_of (j := 2) rfl rfl, _, rfl, _, _, rfl, rfl, ⟨hm0, by omega⟩, _, rfl, r, _, _, 2, rfl, rfl, h1, rfl, ?_⟩
        refine ⟨_, rfl, ?_⟩
        exact k _ _ (Int.emod_nonneg _ (by omega)) (Int.emod_lt_of_pos _ hm0) ⟨a, _, c, upd_same, ((But.refl r H1).upd).seq h2 h3, h3, h4, Int.ediv_nonneg h5 (by omega)⟩ hb.upd
      · refine ⟨_, rfl, r, _, _, _, rfl, rfl, SqL.of h1, at_of (j := 3) rfl rfl, _, _, rfl, rfl, cmul_r _ ⟨by decide, by decide⟩, .inl ⟨_, rfl, ?_⟩⟩
        refine ⟨_, _, rfl, rfl, (by show (0 : Int) < 2147483629; decide), _, rfl, _, _, rfl, rfl, hm0, ?_⟩
        exact k _ _ (Int.emod_nonneg _ (by omega)) (Int.emod_lt_of_pos _ hm0) ⟨a, b, c, h1, h2, h3, h4, h5⟩ hb
end
end Toy


namespace Toy
open PySem L2 Cw
theorem take_more {α : Type} : ∀ {l : List α} {i : Nat} {x : α}, l[i]? = some x → l.take (i + 1) = l.take i ++ [x]
  | [], i, x, h => by simp at h
  | a :: l, 0, x, h => by
    have e : a = x := Option.some.inj h
    subst e
    rfl
  | a :: l, i + 1, x, h => by
    have ih := take_more (l := l) (i := i) (x := x) (by simpa using h)
    show a :: l.take (i + 1) = a :: l.take i ++ [x]
    rw [ih]
    rfl
theorem sz1 {n : Nat} (h : n ≤ 1000000) : n ≤ sizeLine := Nat.le_trans h (by decide)
/-- the text of a folder -/
def spText (K : PySem.W.Frag) (n : Nat) : Sp := fun vs H Q _ => ∃ (v : V) (t : Cw.Th), vs = [v] ∧ Im K H v t.D ∧ t.isDir = true ∧ t.dep ≤ n ∧ t.dep ≤ 30 ∧ t.tx.length ≤ 100000 ∧ ∀ H', Same H H' → Q (.str (Cw.S t.tx)) H'
/-! the text of a tree: write_tree -/
section
variable {P : Program} {w : World} {K : PySem.W.Frag} {mg : Str → Option Value} {base : Heap}
theorem ok_write_tree_n {n : Nat} (T : Tx P K mg) (G : FnOk P w K mg base CX0 n T.f_write_tree T.d_write_tree ["tree"] (spText K n)) : FnOk P w K mg base CX0 (n + 1) T.f_write_tree T.d_write_tree ["tree"] (spText K (n + 1)) := by
  refine T.F_write_tree.ok sc_write_tree (fun vs H Q E h => ?_) (fun cdv A outer s H vs Q E hr h => ?_)
  · obtain ⟨v, t, rfl, _⟩ := h
    rfl
  · obtain ⟨v, t, rfl, him, hd, hn, h32, hl, k⟩ := h
    rw [Th.D_dir t hd] at him
    obtain ⟨a, xs, rfl, hS, hx⟩ := him.tupI
    refine ⟨_, (pss_cons (ps_set (i := 1) sc_write_tree.nd rfl (Or.inl rfl) pe_str)
  (pss_cons (ps_for PassesOwn.never rfl (pi_tup (pv 0)) (pg_tup rfl (pgs_cons (pg_name (i := 2) sc_write_tree.nd rfl (Or.inl rfl)) (pgs_cons (pg_name (i := 3) sc_write_tree.nd rfl (Or.inl rfl)) pgs_nil)))
  (pss_one (ps_set (i := 1) sc_write_tree.nd rfl (Or.inl rfl) (pe_op op_add_str (pe_op op_add_str (pv 1) (pv 2)) (pe_ifExp (pt_cmpR (op_eqD hr.units) (pv 3) (pe_glob (v := .str "file") rfl T.m_FILE ⟨_, rfl⟩) (nomark _)) pe_str (pe_op op_add_str (pe_op op_add_str pe_str (pe_call G hr rfl T.m_write_tree T.F_write_tree.kp T.b_write_tree .nil pass0 (pa_cons (pv 3) pa_nil))) pe_str))))))
  (pss_one (ps_ret (pv 1))))), ?_⟩
    refine ⟨_, rfl, a, rfl, ⟨_, hS⟩, for_tup (K := K) (a := a) (xs := xs) (fun i σ H' => ∃ v2 v3, σ = [some (.ref a), some (.str (Cw.S ((t.ents.take i).flatMap Th.pX))), v2, v3] ∧ Same H H')
      ⟨none, none, by show _ = [_, some (V.str (Cw.S [])), _, _]; rw [← Cw.S_nil]; rfl, Same.refl _⟩ (fun i σ H' _ ⟨_, _, _, e⟩ => e.tup hS) ?_ ?_⟩
    · rintro i x σ H' hi ⟨v2, v3, rfl, e⟩
      obtain ⟨d, hd1, hd2⟩ := (hx.same e).get hi
      rw [List.getElem?_map] at hd1
      obtain ⟨⟨m, u⟩, hmu, rfl⟩ := Option.map_eq_some_iff.mp hd1
      obtain ⟨hm, hu0, hud⟩ := Th.ents_mem (List.mem_of_getElem? hmu)
      obtain ⟨q, ys, rfl, hq, hys⟩ := hd2.tupI
      obtain ⟨x, y, rfl, hx1, hy1⟩ := hys.two
      cases hx1.strI
      have hsum : ((t.ents.take (i + 1)).flatMap Th.pX).length ≤ 100000 := by
        refine Nat.le_trans ?_ hl
        rw [Th.tx_ents]
        conv => rhs; rw [← List.take_append_drop (i + 1) t.ents, List.flatMap_append]
        simp
      have htk : (t.ents.take (i + 1)).flatMap Th.pX = (t.ents.take i).flatMap Th.pX ++ Th.pX (m, u) := by
        rw [take_more hmu, List.flatMap_append]
        simp
      rw [htk, List.length_append] at hsum
      have hud : u.dep < t.dep := hud
      refine ⟨q, _, rfl, hq, rfl, _, _, rfl, _, _, rfl, rfl, ?_⟩
      have fin : ∀ (H2 : Hp) (X : Str), Same H' H2 → X = Cw.S ((t.ents.take i).flatMap Th.pX ++ Th.pX (m, u)) → ∃ v2 v3, ([some (.ref a), some (.str X), some (.str (Cw.S [m])), some y] : List (Option V)) = [some (.ref a), some (.str (Cw.S ((t.ents.take (i + 1)).flatMap Th.pX))), v2, v3] ∧ Same H H2 := fun H2 X e2 ez =>
        ⟨some (.str (Cw.S [m])), some y, by rw [htk, ez], e.trans e2⟩
      generalize (t.ents.take i).flatMap Th.pX = A at hsum fin ⊢
      have l1 : (Cw.S A).length + (Cw.S [m]).length ≤ sizeLine := sz1 (by rw [Cw.S_len, Cw.S_len, List.length_singleton]; omega)
      refine ⟨_, rfl, _, rfl, _, _, rfl, rfl, l1, _, rfl, _, _, hy1.dp, .str "file", Cw.shaped_D (by show u.dep ≤ 32; omega), Cw.shaped_file, _, rfl, ?_⟩
      rw [Cw.eqv_file u hu0]
      refine ite2 (fun c => ?_) (fun c => ?_)
      · have cu : u = .file := of_decide_eq_true c
        subst cu
        rw [Cw.S_dash]
        refine ⟨_, _, rfl, rfl, sz1 (by rw [Cw.S_app, Cw.S_len, Cw.S_len, List.length_append, List.length_singleton, List.length_singleton]; omega), ?_⟩
        exact fin H' _ (Same.refl _) (by rw [Cw.S_app, Cw.S_app, List.append_assoc]; rfl)
      · have cu : ¬ u = .file := fun z => c (decide_eq_true z)
        have hdir : u.isDir = true := by
          cases u with
          | non => exact absurd rfl hu0
          | file => exact absurd rfl cu
          | dir _ _ _ => rfl
        have hz : Th.pX (m, u) = m :: 91 :: (Th.tx u ++ [93]) := by
          cases u with
          | non => exact absurd rfl hu0
          | file => exact absurd rfl cu
          | dir _ _ _ => rfl
        rw [hz, List.length_cons, List.length_cons, List.length_append, List.length_singleton] at hsum
        rw [Cw.S_op, Cw.S_cl]
        refine ⟨_, rfl, _, u, rfl, hy1, hdir, by omega, by omega, by omega, fun H2 e2 => ?_⟩
        refine ⟨_, _, rfl, rfl, sz1 (by rw [Cw.S_len, Cw.S_len, List.length_singleton]; omega), ?_⟩
        refine ⟨_, _, rfl, rfl, sz1 (by rw [Cw.S_app, Cw.S_len, Cw.S_len, List.length_append, List.length_singleton, List.length_singleton]; omega), ?_⟩
        refine ⟨_, _, rfl, rfl, sz1 (by rw [Cw.S_app, Cw.S_app, Cw.S_app, Cw.S_len, Cw.S_len, List.length_append, List.length_append, List.length_append, List.length_singleton, List.length_singleton, List.length_singleton]; omega), ?_⟩
        exact fin H2 _ e2 (by rw [Cw.S_app, Cw.S_app, Cw.S_app, Cw.S_app, hz, List.append_assoc, List.append_assoc]; rfl)
    · rintro σ H' ⟨v2, v3, rfl, e⟩
      have hlen : xs.length = t.ents.length := by rw [hx.len, List.length_map]
      rw [hlen, List.take_length, ← Th.tx_ents]
      exact ⟨_, rfl, k H' e⟩
theorem ok_write_tree (T : Tx P K mg) : ∀ n : Nat, FnOk P w K mg base CX0 n T.f_write_tree T.d_write_tree ["tree"] (spText K n)
  | 0 => by
    have no : ∀ vs H Q E, ¬ spText K 0 vs H Q E := fun vs H Q E h => by
      obtain ⟨_, _, _, _, h1, h2, _⟩ := h
      have := Th.dep_pos h1
      omega
    exact ⟨fun vs H Q E h => absurd h (no vs H Q E), fun A outer s H args us vs Q E _ _ _ _ h => absurd h (no vs H Q E)⟩
  | n + 1 => ok_write_tree_n T (ok_write_tree T n)
end
/-! the text of a tree: _law_text -/
section
variable {P : Program} {w : World} {K : PySem.W.Frag} {mg : Str → Option Value} {base : Heap}
theorem ok_l_text_n {n : Nat} (T : Tx P K mg) (G : FnOk P w K mg base CX0 n T.f_l_text T.d_l_text ["_law_tree_here"] (spText K n)) : FnOk P w K mg base CX0 (n + 1) T.f_l_text T.d_l_text ["_law_tree_here"] (spText K (n + 1)) := by
  refine T.F_l_text.ok sc_l_text (fun vs H Q E h => ?_) (fun cdv A outer s H vs Q E hr h => ?_)
  · obtain ⟨v, t, rfl, _⟩ := h
    rfl
  · obtain ⟨v, t, rfl, him, hd, hn, h32, hl, k⟩ := h
    rw [Th.D_dir t hd] at him
    obtain ⟨a, xs, rfl, hS, hx⟩ := him.tupI
    refine ⟨_, (pss_cons (ps_set (i := 1) sc_l_text.nd rfl (Or.inl rfl) pe_str)
  (pss_cons (ps_for PassesOwn.never rfl (pi_tup (pv 0)) (pg_tup rfl (pgs_cons (pg_name (i := 2) sc_l_text.nd rfl (Or.inl rfl)) (pgs_cons (pg_name (i := 3) sc_l_text.nd rfl (Or.inl rfl)) pgs_nil)))
  (pss_one (ps_set (i := 1) sc_l_text.nd rfl (Or.inl rfl) (pe_op op_add_str (pe_op op_add_str (pv 1) (pv 2)) (pe_ifExp (pt_cmpR (op_eqD hr.units) (pv 3) pe_str (nomark _)) pe_str (pe_op op_add_str (pe_op op_add_str pe_str (pe_call G hr rfl T.m_l_text T.F_l_text.kp T.b_l_text .nil pass0 (pa_cons (pv 3) pa_nil))) pe_str))))))
  (pss_one (ps_ret (pv 1))))), ?_⟩
    refine ⟨_, rfl, a, rfl, ⟨_, hS⟩, for_tup (K := K) (a := a) (xs := xs) (fun i σ H' => ∃ v2 v3, σ = [some (.ref a), some (.str (Cw.S ((t.ents.take i).flatMap Th.pX))), v2, v3] ∧ Same H H')
      ⟨none, none, by show _ = [_, some (V.str (Cw.S [])), _, _]; rw [← Cw.S_nil]; rfl, Same.refl _⟩ (fun i σ H' _ ⟨_, _, _, e⟩ => e.tup hS) ?_ ?_⟩
    · rintro i x σ H' hi ⟨v2, v3, rfl, e⟩
      obtain ⟨d, hd1, hd2⟩ := (hx.same e).get hi
      rw [List.getElem?_map] at hd1
      obtain ⟨⟨m, u⟩, hmu, rfl⟩ := Option.map_eq_some_iff.mp hd1
      obtain ⟨hm, hu0, hud⟩ := Th.ents_mem (List.mem_of_getElem? hmu)
      obtain ⟨q, ys, rfl, hq, hys⟩ := hd2.tupI
      obtain ⟨x, y, rfl, hx1, hy1⟩ := hys.two
      cases hx1.strI
      have hsum : ((t.ents.take (i + 1)).flatMap Th.pX).length ≤ 100000 := by
        refine Nat.le_trans ?_ hl
        rw [Th.tx_ents]
        conv => rhs; rw [← List.take_append_drop (i + 1) t.ents, List.flatMap_append]
        simp
      have htk : (t.ents.take (i + 1)).flatMap Th.pX = (t.ents.take i).flatMap Th.pX ++ Th.pX (m, u) := by
        rw [take_more hmu, List.flatMap_append]
        simp
      rw [htk, List.length_append] at hsum
      have hud : u.dep < t.dep := hud
      refine ⟨q, _, rfl, hq, rfl, _, _, rfl, _, _, rfl, rfl, ?_⟩
      have fin : ∀ (H2 : Hp) (X : Str), Same H' H2 → X = Cw.S ((t.ents.take i).flatMap Th.pX ++ Th.pX (m, u)) → ∃ v2 v3, ([some (.ref a), some (.str X), some (.str (Cw.S [m])), some y] : List (Option V)) = [some (.ref a), some (.str (Cw.S ((t.ents.take (i + 1)).flatMap Th.pX))), v2, v3] ∧ Same H H2 := fun H2 X e2 ez =>
        ⟨some (.str (Cw.S [m])), some y, by rw [htk, ez], e.trans e2⟩
      generalize (t.ents.take i).flatMap Th.pX = A at hsum fin ⊢
      have l1 : (Cw.S A).length + (Cw.S [m]).length ≤ sizeLine := sz1 (by rw [Cw.S_len, Cw.S_len, List.length_singleton]; omega)
      refine ⟨_, rfl, _, rfl, _, _, rfl, rfl, l1, _, rfl, _, _, hy1.dp, .str "file", Cw.shaped_D (by show u.dep ≤ 32; omega), Cw.shaped_file, _, rfl, ?_⟩
      rw [Cw.eqv_file u hu0]
      refine ite2 (fun c => ?_) (fun c => ?_)
      · have cu : u = .file := of_decide_eq_true c
        subst cu
        rw [Cw.S_dash]
        refine ⟨_, _, rfl, rfl, sz1 (by rw [Cw.S_app, Cw.S_len, Cw.S_len, List.length_append, List.length_singleton, List.length_singleton]; omega), ?_⟩
        exact fin H' _ (Same.refl _) (by rw [Cw.S_app, Cw.S_app, List.append_assoc]; rfl)
      · have cu : ¬ u = .file := fun z => c (decide_eq_true z)
        have hdir : u.isDir = true := by
          cases u with
          | non => exact absurd rfl hu0
          | file => exact absurd rfl cu
          | dir _ _ _ => rfl
        have hz : Th.pX (m, u) = m :: 91 :: (Th.tx u ++ [93]) := by
          cases u with
          | non => exact absurd rfl hu0
          | file => exact absurd rfl cu
          | dir _ _ _ => rfl
        rw [hz, List.length_cons, List.length_cons, List.length_append, List.length_singleton] at hsum
        rw [Cw.S_op, Cw.S_cl]
        refine ⟨_, rfl, _, u, rfl, hy1, hdir, by omega, by omega, by omega, fun H2 e2 => ?_⟩
        refine ⟨_, _, rfl, rfl, sz1 (by rw [Cw.S_len, Cw.S_len, List.length_singleton]; omega), ?_⟩
        refine ⟨_, _, rfl, rfl, sz1 (by rw [Cw.S_app, Cw.S_len, Cw.S_len, List.length_append, List.length_singleton, List.length_singleton]; omega), ?_⟩
        refine ⟨_, _, rfl, rfl, sz1 (by rw [Cw.S_app, Cw.S_app, Cw.S_app, Cw.S_len, Cw.S_len, List.length_append, List.length_append, List.length_append, List.length_singleton, List.length_singleton, List.length_singleton]; omega), ?_⟩
        exact fin H2 _ e2 (by rw [Cw.S_app, Cw.S_app, Cw.S_app, Cw.S_app, hz, List.append_assoc, List.append_assoc]; rfl)
    · rintro σ H' ⟨v2, v3, rfl, e⟩
      have hlen : xs.length = t.ents.length := by rw [hx.len, List.length_map]
      rw [hlen, List.take_length, ← Th.tx_ents]
      exact ⟨_, rfl, k H' e⟩
theorem ok_l_text (T : Tx P K mg) : ∀ n : Nat, FnOk P w K mg base CX0 n T.f_l_text T.d_l_text ["_law_tree_here"] (spText K n)
  | 0 => by
    have no : ∀ vs H Q E, ¬ spText K 0 vs H Q E := fun vs H Q E h => by
      obtain ⟨_, _, _, _, h1, h2, _⟩ := h
      have := Th.dep_pos h1
      omega
    exact ⟨fun vs H Q E h => absurd h (no vs H Q E), fun A outer s H args us vs Q E _ _ _ _ h => absurd h (no vs H Q E)⟩
  | n + 1 => ok_l_text_n T (ok_l_text T n)
end
end Toy


namespace Toy
open PySem L2 Cw
/-! a drawn tree -/
namespace PD
open Cw
def nms : List Nat := [97, 98, 99]
def pds (ps : List Th) : List PyData := (nms.zip ps).flatMap fun p => Th.eD p.1 p.2 p.2.D
theorem pds_snoc {ps : List Th} {i n : Nat} (hl : ps.length = i) (hn : nms[i]? = some n) (u : Th) : pds (ps ++ [u]) = pds ps ++ Th.eD n u u.D := by
  match i, ps, hl, hn with
  | 0, [], _, hn => cases hn; simp [pds, nms]
  | 1, [a], _, hn => cases hn; simp [pds, nms]
  | 2, [a, b], _, hn => cases hn; simp [pds, nms]
  | i + 3, _, _, hn => simp [nms] at hn
theorem pds_dir (a b c : Th) : PyData.tuple (pds [a, b, c]) = (Th.dir a b c).D := by simp [pds, nms, Th.D]
theorem eD_len (n : Nat) (t : Th) (d : PyData) : (Th.eD n t d).length ≤ 1 := by cases t <;> simp [Th.eD]
theorem pds_len : ∀ ps : List Th, (pds ps).length ≤ 3
  | [] => Nat.zero_le _
  | [a] => by
    show (Th.eD 97 a a.D ++ []).length ≤ 3
    have := eD_len 97 a a.D
    simp only [List.length_append, List.length_nil]
    omega
  | [a, b] => by
    show (Th.eD 97 a a.D ++ (Th.eD 98 b b.D ++ [])).length ≤ 3
    have := eD_len 97 a a.D
    have := eD_len 98 b b.D
    simp only [List.length_append, List.length_nil]
    omega
  | a :: b :: c :: r => by
    show (Th.eD 97 a a.D ++ (Th.eD 98 b b.D ++ (Th.eD 99 c c.D ++ []))).length ≤ 3
    have := eD_len 97 a a.D
    have := eD_len 98 b b.D
    have := eD_len 99 c c.D
    simp only [List.length_append, List.length_nil]
    omega
theorem len3 {ps : List Th} (h : ps.length = 3) : ∃ a b c, ps = [a, b, c] := by
  match ps, h with
  | [a, b, c], _ => exact ⟨a, b, c, rfl⟩
def nmV : List V := [.str "a", .str "b", .str "c"]
theorem nm_at {i : Nat} {x : V} (h : nmV[i]? = some x) : ∃ n, nms[i]? = some n ∧ x = .str (S [n]) := by
  match i, h with
  | 0, h => cases h; exact ⟨97, rfl, by rw [S_a]⟩
  | 1, h => cases h; exact ⟨98, rfl, by rw [S_b]⟩
  | 2, h => cases h; exact ⟨99, rfl, by rw [S_c]⟩
  | i + 3, h => simp [nmV] at h
end PD
section
variable {P : Program} {w : World} {K : PySem.W.Frag} {mg : Str → Option Value} {base : Heap}
theorem tk_updL {H : Hp} {l : Addr} {xs : List V} {o : HO} (h : H l = some (.lst xs)) : Tk H (upd H l o) :=
  ⟨fun b ys e => by rw [upd_ne (ne_of e h (by intro z; cases z))]; exact e, fun b ob u e => by rw [upd_ne (ne_of e h (by intro z; cases z))]; exact e⟩
/-- in a turn of the tree's loop -/
structure TrI (K : PySem.W.Frag) (H : Hp) (ρ : Rw) (l p : Addr) (m : Nat) (ps : List Cw.Th) (H' : Hp) : Prop where
  row : Row K H' ρ
  but : But ρ.r H H'
  lst : ∃ vs, H' l = some (.lst vs) ∧ Ims K H' vs (PD.pds ps)
  nm : H' p = some (.lst PD.nmV)
  dep : ∀ u ∈ ps, u.dep ≤ m
/-- a thing u is appended as (name, y), the heap having grown from H1 to H2 -/
theorem TrI.push {H H1 H2 : Hp} {ρ : Rw} {l p t : Addr} {m i nm : Nat} {ps : List Cw.Th} {y : V} {u : Cw.Th} {vs : List V} (h0 : Row K H ρ) (R : TrI K H ρ l p m ps H1) (hv : H1 l = some (.lst vs)) (hl0 : H l = none) (npl : p ≠ l) (npr : p ≠ ρ.r) (hps : ps.length = i) (hnm : PD.nms[i]? = some nm)
    (hrow2 : Row K H2 ρ) (hb2 : But ρ.r H1 H2) (hy : Im K H2 y u.D) (hu : u ≠ .non) (hud : u.dep ≤ m) (ht : H2 t = none) :
    (upd H2 t (.tup [.str (Cw.S [nm]), y])) l = some (.lst vs) ∧ vs.length < sizeLine ∧ TrI K H ρ l p m (ps ++ [u]) (upd (upd H2 t (.tup [.str (Cw.S [nm]), y])) l (.lst (vs ++ [.ref t]))) := by
  obtain ⟨rys, hr0⟩ := h0.lst
  have nrl : l ≠ ρ.r := Ne.symm (ne_of_none hr0 hl0)
  have hl3 := hb2 _ _ nrl hv
  obtain ⟨ysr, hyr⟩ := R.row.lst
  obtain ⟨vs', hv', him⟩ := R.lst
  have ev : vs' = vs := by
    rw [hv] at hv'
    injection hv' with z
    injection z with z
    exact z.symm
  subst ev
  have ntl : t ≠ l := Ne.symm (ne_of_none hl3 ht)
  have hl4 : upd H2 t (.tup [.str (Cw.S [nm]), y]) l = some (.lst vs') := by rw [upd_ne (Ne.symm ntl)]; exact hl3
  have hsame := same_new (o := .tup [.str (Cw.S [nm]), y]) ht
  have tk3 : Tk H1 (upd H2 t (.tup [.str (Cw.S [nm]), y])) := (hb2.tk hyr).trans hsame.tk
  have tk4 := tk_updL (o := .lst (vs' ++ [.ref t])) hl4
  have hlen : vs'.length < sizeLine := by
    have e := him.len
    have := PD.pds_len ps
    exact small1000 (by omega)
  refine ⟨hl4, hlen, (hrow2.same hsame).mut h0 hl0, ?_, ⟨_, upd_same, ?_⟩, ?_, fun z hz => ?_⟩
  · intro b o hb e
    have nbl : b ≠ l := fun z => by rw [z, hl0] at e; cases e
    have e2 := hb2 _ _ hb (R.but _ _ hb e)
    rw [upd_ne nbl, upd_ne (ne_of_none e2 ht)]
    exact e2
  · rw [PD.pds_snoc hps hnm]
    refine ((him.tk tk3).tk tk4).app ?_
    have : Cw.Th.eD nm u u.D = [.tuple [.str (Cw.S [nm]), u.D]] := by cases u <;> first | exact absurd rfl hu | rfl
    rw [this]
    refine .cons (Im.tk tk4 ?_) .nil
    exact Im.new ht (.cons (.str _) (.cons hy .nil))
  · rw [upd_ne npl]
    have e2 := hb2 _ _ npr R.nm
    rw [upd_ne (ne_of_none e2 ht)]
    exact e2
  · rcases List.mem_append.mp hz with hz | hz
    · exact R.dep z hz
    · rw [List.mem_singleton.mp hz]
      exact hud
/-- nothing is appended -/
theorem TrI.skip {H H1 : Hp} {ρ : Rw} {l p : Addr} {m i nm : Nat} {ps : List Cw.Th} (R : TrI K H ρ l p m ps H1) (hps : ps.length = i) (hnm : PD.nms[i]? = some nm) : TrI K H ρ l p m (ps ++ [.non]) H1 := by
  obtain ⟨vs, h1, h2⟩ := R.lst
  refine ⟨R.row, R.but, ⟨vs, h1, ?_⟩, R.nm, fun z hz => ?_⟩
  · rw [PD.pds_snoc hps hnm]
    simpa [Cw.Th.eD] using h2
  · rcases List.mem_append.mp hz with hz | hz
    · exact R.dep z hz
    · rw [List.mem_singleton.mp hz]
      exact Nat.zero_le _
def spTree (K : PySem.W.Frag) (n : Nat) : Sp := fun vs H Q _ => ∃ (ρ : Rw) (d : Nat), vs = [.ref ρ.r, .int d] ∧ Row K H ρ ∧ d ≤ 4 ∧ 5 ≤ d + n ∧
  ∀ v H' (t : Cw.Th), t.isDir = true → t.dep + d ≤ 5 → Row K H' ρ → But ρ.r H H' → Im K H' v t.D → Q v H'
theorem ok_l_tree_n {n : Nat} (T : Tx P K mg) (G : FnOk P w K mg base CX0 (n + 1) T.f_l_tree T.d_l_tree ["_law_row", "_law_deep"] (spTree K n)) : FnOk P w K mg base CX0 (n + 2) T.f_l_tree T.d_l_tree ["_law_row", "_law_deep"] (spTree K (n + 1)) := by
  refine T.F_l_tree.ok sc_l_tree (fun vs H Q E h => ?_) (fun cdv A outer s H vs Q E hr h => ?_)
  · obtain ⟨ρ, d, rfl, _⟩ := h
    rfl
  · obtain ⟨ρ, d, rfl, hrow, hd4, hdn, k⟩ := h
    have hr1 : Room 1 _ := hr.mono (by omega)
    refine ⟨_, (pss_cons (ps_set (i := 2) sc_l_tree.nd rfl (Or.inl rfl) (pe_lst pa_nil))
  (pss_cons (ps_for PassesOwn.never rfl (pi_list (pe_lst (pa_cons pe_str (pa_cons pe_str (pa_cons pe_str pa_nil))))) (pg_name (i := 3) sc_l_tree.nd rfl (Or.inl rfl))
  (pss_cons (ps_set (i := 4) sc_l_tree.nd rfl (Or.inl rfl) (pe_call (ok_l_pick T) hr1 rfl T.m_l_pick T.F_l_pick.kp T.b_l_pick .nil pass0 (pa_cons (pv 0) (pa_cons pe_int pa_nil))))
  (Evl.pss_cut (ps_if (PW.pt (pw_or (pt_cmpR op_eq (pv 4) pe_int (nomark _)) (pw_or1 (pt_cmpR op_eq (pv 4) pe_int (nomark _)))))
  (pss_one (ps_expr (pe_bm PySem.F.plainAttrs_list PySem.F.slot_list_append PySem.F.type_list_append mt_append (pv 2) (pa_cons (pe_tup (pa_cons (pv 3) (pa_cons pe_str pa_nil))) pa_nil))))
  pss_nil)
  (pss_one (ps_if (PW.pt (pw_and (pt_cmpR op_ge (pv 4) pe_int (nomark _)) (pw_and1 (pt_cmpR op_lt (pv 1) pe_int (nomark _)))))
  (pss_one (ps_expr (pe_bm PySem.F.plainAttrs_list PySem.F.slot_list_append PySem.F.type_list_append mt_append (pv 2) (pa_cons (pe_tup (pa_cons (pv 3) (pa_cons (pe_ifExp (PW.pt (pw_or (pt_cmpR op_lt (pv 1) pe_int (nomark _)) (pw_or1 (pt_cmpR op_eq (pv 4) pe_int (nomark _))))) (pe_call G hr rfl T.m_l_tree T.F_l_tree.kp T.b_l_tree .nil pass0 (pa_cons (pv 0) (pa_cons (pe_op op_add (pv 1) pe_int) pa_nil))) (pe_tup pa_nil)) pa_nil))) pa_nil))))
  pss_nil)))))
  (pss_one (ps_ret (pe_callTy call_tuple_of (by rfl) T.n_tuple (by decide +kernel) (pa_cons (pv 2) pa_nil)))))), ?_⟩
    refine ⟨Nat.zero_le _, fun l hl0 => ?_⟩
    refine ⟨(by show 3 ≤ sizeLine; decide), fun p hp0 => ?_⟩
    obtain ⟨rys, hr0⟩ := hrow.lst
    have nrl : l ≠ ρ.r := Ne.symm (ne_of_none hr0 hl0)
    have hHp : H p = none := (same_new hl0).free hp0
    have npr : p ≠ ρ.r := Ne.symm (ne_of_none hr0 hHp)
    have npl : p ≠ l := Ne.symm (ne_of_none upd_same hp0)
    have s2 : Same H (upd (upd H l (.lst [])) p (.lst PD.nmV)) := (same_new hl0).trans (same_new hp0)
    refine ⟨p, rfl, ⟨_, SqL.of upd_same⟩, for_list (K := K) (a := p) (xs := PD.nmV) (fun i σ H' => ∃ nv kv ps, σ = [some (.ref ρ.r), some (.int d), some (.ref l), nv, kv] ∧ ps.length = i ∧ TrI K H ρ l p (4 - d) ps H')
      ⟨none, none, [], rfl, rfl, ⟨hrow.same s2, s2.but, ⟨[], by rw [upd_ne (Ne.symm npl)]; exact upd_same, .nil⟩, upd_same, by simp⟩⟩ (fun i σ H' _ ⟨_, _, _, _, _, R⟩ => SqL.of R.nm) ?_ ?_⟩
    · rintro i x σ H' hi ⟨nv, kv, ps, rfl, hps, R⟩
      obtain ⟨nm, hnm, rfl⟩ := PD.nm_at hi
      refine ⟨_, rfl, ρ, 5, rfl, by decide, by decide, R.row, fun kd H1 hk0 hk5 hrow1 hb1 => ?_⟩
      obtain ⟨ys1, hy1⟩ := R.row.lst
      obtain ⟨vs, hl1, him1⟩ := R.lst
      have hl2 := hb1 _ _ nrl hl1
      have R1 : TrI K H ρ l p (4 - d) ps H1 := ⟨hrow1, R.but.trans hb1, ⟨vs, hl2, him1.tk (hb1.tk hy1)⟩, hb1 _ _ npr R.nm, R.dep⟩
      refine ⟨fun σ H2 => σ = [some (.ref ρ.r), some (.int d), some (.ref l), some (.str (Cw.S [nm])), some (.int kd)] ∧ ((kd < 3 ∧ ∃ u, TrI K H ρ l p (4 - d) (ps ++ [u]) H2) ∨ (3 ≤ kd ∧ H2 = H1)), ?_, ?_⟩
      · -- a file
        have file : ∀ t, H1 t = none → (upd H1 t (.tup [.str (Cw.S [nm]), .str "file"])) l = some (.lst vs) ∧ vs.length < sizeLine ∧ TrI K H ρ l p (4 - d) (ps ++ [.file]) (upd (upd H1 t (.tup [.str (Cw.S [nm]), .str "file"])) l (.lst (vs ++ [.ref t]))) :=
          fun t ht => R1.push hrow hl2 hl0 npl npr hps hnm hrow1 (But.refl _ _) (.str _) (by intro z; cases z) (Nat.zero_le _) ht
        refine ⟨_, rfl, rfl, _, rfl, ?_⟩
        refine ite2 (fun c => ?_) (fun c => ?_)
        · have c1 : kd = 1 := by simpa using c
          refine ⟨_, rfl, .inl ⟨rfl, _, .inl (.inl hl2)⟩, _, rfl, (by show 2 ≤ sizeLine; decide), fun t ht => ?_⟩
          obtain ⟨f1, f2, f3⟩ := file t ht
          exact ⟨l, _, _, rfl, rfl, f1, f2, rfl, .inl ⟨by omega, _, f3⟩⟩
        · refine ⟨_, rfl, rfl, _, rfl, ?_⟩
          refine ite2 (fun c2 => ?_) (fun c2 => ?_)
          · have c3 : kd = 2 := by simpa using c2
            refine ⟨_, rfl, .inl ⟨rfl, _, .inl (.inl hl2)⟩, _, rfl, (by show 2 ≤ sizeLine; decide), fun t ht => ?_⟩
            obtain ⟨f1, f2, f3⟩ := file t ht
            exact ⟨l, _, _, rfl, rfl, f1, f2, rfl, .inl ⟨by omega, _, f3⟩⟩
          · refine ⟨rfl, ?_⟩
            by_cases h3 : kd < 3
            · exact .inl ⟨h3, _, R1.skip hps hnm⟩
            · exact .inr ⟨by omega, rfl⟩
      · rintro σ H2 ⟨rfl, hH2⟩
        refine ⟨_, rfl, _, _, rfl, rfl, _, rfl, ?_⟩
        refine ite2 (fun c => ?_) (fun c => ?_)
        · have c3 : 3 ≤ kd := of_decide_eq_true c
          have e2 : H2 = H1 := by
            rcases hH2 with ⟨z, _⟩ | ⟨_, z⟩
            · omega
            · exact z
          subst e2
          refine ⟨_, rfl, _, _, rfl, rfl, _, rfl, ?_⟩
          refine ite2 (fun c4 => ?_) (fun c4 => ?_)
          · have d4 : d < 4 := by
              have := of_decide_eq_true c4
              omega
            -- found.append((name, ..))
            refine ⟨_, rfl, .inl ⟨rfl, _, .inl (.inl hl2)⟩, _, rfl, ?_⟩
            have fin : ∀ (y : V) (H3 : Hp) (u : Cw.Th), Row K H3 ρ → But ρ.r H2 H3 → Im K H3 y u.D → u.isDir = true → u.dep ≤ 4 - d → ∀ t, H3 t = none → (upd H3 t (.tup [.str (Cw.S [nm]), y])) l = some (.lst vs) ∧ vs.length < sizeLine ∧ TrI K H ρ l p (4 - d) (ps ++ [u]) (upd (upd H3 t (.tup [.str (Cw.S [nm]), y])) l (.lst (vs ++ [.ref t]))) :=
              fun y H3 u g1 g2 g3 g4 g5 t ht => R1.push hrow hl2 hl0 npl npr hps hnm g1 g2 g3 (by intro z; subst z; cases g4) g5 ht
            have call : ∀ (Q' : V → Hp → Prop), (∀ y H3 u, Row K H3 ρ → But ρ.r H2 H3 → Im K H3 y u.D → Cw.Th.isDir u = true → u.dep ≤ 4 - d → Q' y H3) → spTree K n [.ref ρ.r, .int ((d : Int) + 1)] H2 Q' E0 :=
              fun Q' q => ⟨ρ, d + 1, rfl, hrow1, by omega, by omega, fun v H3 u g1 g2 g3 g4 g5 => q v H3 u g3 g4 g5 g1 (by omega)⟩
            let NX : Hp → Prop := fun H4 => ∃ nv kv ps', ([some (.ref ρ.r), some (.int d), some (.ref l), some (.str (Cw.S [nm])), some (.int kd)] : List (Option V)) = [some (.ref ρ.r), some (.int d), some (.ref l), nv, kv] ∧ ps'.length = i + 1 ∧ TrI K H ρ l p (4 - d) ps' H4
            have mk : ∀ (y : V) (H3 : Hp) (u : Cw.Th), Row K H3 ρ → But ρ.r H2 H3 → Im K H3 y u.D → u.isDir = true → u.dep ≤ 4 - d → (∀ H4, TrI K H ρ l p (4 - d) (ps ++ [u]) H4 → NX H4) →
                [V.str (Cw.S [nm]), y].length ≤ sizeLine ∧ ∀ t, H3 t = none → rAppend (.ref l) [.ref t] (upd H3 t (.tup [.str (Cw.S [nm]), y])) fun _ H4 => NX H4 :=
              fun y H3 u g1 g2 g3 g4 g5 q => ⟨(by show 2 ≤ sizeLine; decide), fun t ht => by
                obtain ⟨f1, f2, f3⟩ := fin y H3 u g1 g2 g3 g4 g5 t ht
                exact ⟨l, _, _, rfl, rfl, f1, f2, q _ f3⟩⟩
            have nx : ∀ u H4, TrI K H ρ l p (4 - d) (ps ++ [u]) H4 → NX H4 :=
              fun u H4 R => ⟨_, _, _, rfl, by rw [List.length_append, hps]; rfl, R⟩
            refine ⟨_, rfl, _, _, rfl, rfl, _, rfl, ?_⟩
            refine ite2 (fun c5 => ?_) (fun c5 => ?_)
            · refine ⟨_, rfl, _, rfl, _, _, rfl, rfl, call _ fun y H3 u g1 g2 g3 g4 g5 => ?_⟩
              exact mk y H3 u g1 g2 g3 g4 g5 (nx u)
            · refine ⟨_, rfl, rfl, _, rfl, ?_⟩
              refine ite2 (fun c6 => ?_) (fun c6 => ?_)
              · refine ⟨_, rfl, _, rfl, _, _, rfl, rfl, call _ fun y H3 u g1 g2 g3 g4 g5 => ?_⟩
                exact mk y H3 u g1 g2 g3 g4 g5 (nx u)
              · refine ⟨Nat.zero_le _, fun e0 he0 => ?_⟩
                have sm := same_new (o := .tup []) he0
                exact mk (.ref e0) _ (.dir .non .non .non) (hrow1.same sm) sm.but (Im.new he0 .nil) rfl (by show 1 ≤ 4 - d; omega) (nx _)
          · exact ⟨_, _, _, rfl, by rw [List.length_append, hps]; rfl, R1.skip hps hnm⟩
        · rcases hH2 with ⟨_, u, R2⟩ | ⟨z, _⟩
          · exact ⟨_, _, _, rfl, by rw [List.length_append, hps]; rfl, R2⟩
          · exact absurd (decide_eq_true z) c
    · rintro σ H' ⟨nv, kv, ps, rfl, hps, R⟩
      obtain ⟨a, b, c, rfl⟩ := PD.len3 hps
      obtain ⟨vs, h1, h2⟩ := R.lst
      refine ⟨_, rfl, l, _, rfl, .inl ⟨SqL.of h1, fun e he => ?_⟩⟩
      have sm := same_new (o := .tup vs) he
      refine k (.ref e) _ (.dir a b c) rfl ?_ (R.row.same sm) (R.but.trans sm.but) ?_
      · have ha := R.dep a (by simp)
        have hb := R.dep b (by simp)
        have hc := R.dep c (by simp)
        show (max (max a.dep b.dep) c.dep + 1) + d ≤ 5
        omega
      · rw [← PD.pds_dir]
        exact Im.new he h2
theorem ok_l_tree (T : Tx P K mg) : ∀ n : Nat, FnOk P w K mg base CX0 (n + 1) T.f_l_tree T.d_l_tree ["_law_row", "_law_deep"] (spTree K n)
  | 0 => by
    have no : ∀ vs H Q E, ¬ spTree K 0 vs H Q E := fun vs H Q E h => by
      obtain ⟨_, _, _, _, h1, h2, _⟩ := h
      omega
    exact ⟨fun vs H Q E h => absurd h (no vs H Q E), fun A outer s H args us vs Q E _ _ _ _ h => absurd h (no vs H Q E)⟩
  | n + 1 => ok_l_tree_n T (ok_l_tree T n)
end
end Toy


namespace Toy
open PySem L2 Cw
/-! the reader of texts of trees -/
section
variable {P : Program} {w : World} {K : PySem.W.Frag} {mg : Str → Option Value} {base : Heap}
open Cw
/-! its attributes -/
theorem ts_ : ¬ (("text" : Str) = "spot") := by decide +kernel
def rdf (L : List Nat) (k : Int) : List (Str × V) := putF "spot" (.int k) (putF "text" (.str (S L)) [])
theorem rdf_eq (L : List Nat) (k : Int) : rdf L k = ([("text", V.str (S L)), ("spot", V.int k)] : List (Str × V)) := by
  show (if ("text" : Str) = "spot" then [(("text" : Str), V.int k)] else (("text" : Str), V.str (S L)) :: putF "spot" (V.int k) []) = ([("text", V.str (S L)), ("spot", V.int k)] : List (Str × V))
  rw [if_neg ts_]
  all_goals rfl
theorem rdf_text (L : List Nat) (k : Int) : (rdf L k).lookup ("text" : Str) = some (.str (S L)) := by
  unfold rdf
  rw [lookup_putF, if_neg ts_, lookup_putF, if_pos rfl]
theorem rdf_spot (L : List Nat) (k : Int) : (rdf L k).lookup ("spot" : Str) = some (.int k) := by
  unfold rdf
  rw [lookup_putF, if_pos rfl]
theorem rdf_no (L : List Nat) (k : Int) {m : Str} (h1 : ¬ m = "spot") (h2 : ¬ m = "text") : (rdf L k).lookup m = none := by
  unfold rdf
  rw [lookup_putF, if_neg h1, lookup_putF, if_neg h2]
  all_goals rfl
theorem rdf_put (L : List Nat) (k j : Int) : putF "spot" (.int j) (rdf L k) = rdf L j := by
  rw [rdf_eq, rdf_eq]
  show (if ("text" : Str) = "spot" then _ else (("text" : Str), V.str (S L)) :: (if ("spot" : Str) = "spot" then [(("spot" : Str), V.int j)] else _)) = ([("text", V.str (S L)), ("spot", V.int j)] : List (Str × V))
  rw [if_neg ts_, if_pos rfl]
/-- a reader of the text L, what is left being l -/
def RdAt (C : Addr) (H : Hp) (p : Addr) (L l : List Nat) : Prop := ∃ dx, H p = some (.ins C dx (rdf L ((L.length - l.length : Nat) : Int))) ∧ ∃ a, L = a ++ l
theorem RdAt.keep {C : Addr} {H H' : Hp} {p : Addr} {L l : List Nat} (h : RdAt C H p L l) (e : H' p = H p) : RdAt C H' p L l := by
  obtain ⟨dx, h1, h2⟩ := h
  exact ⟨dx, e.trans h1, h2⟩
theorem RdAt.step {C : Addr} {H : Hp} {p dx : Addr} {L l : List Nat} {c : Nat} {a : List Nat} (e : L = a ++ (c :: l)) : RdAt C (upd H p (.ins C dx (rdf L (((L.length - (c :: l).length : Nat) : Int) + 1)))) p L l := by
  refine ⟨dx, ?_, a ++ [c], by rw [e]; simp⟩
  rw [upd_same]
  congr 3
  rw [e]
  simp only [List.length_append, List.length_cons]
  omega
def spRInit (C : Addr) : Sp := fun vs H Q _ => ∃ (p dx : Addr) (L : List Nat), vs = [.ref p, .str (S L)] ∧ H p = some (.ins C dx []) ∧ ∀ H', RdAt C H' p L L → But p H H' → Q .non H'
theorem ok_Reader_init (T : Tx P K mg) : FnOk P w K mg base CX0 1 T.f_Reader_init T.d_Reader_init ["self", "text"] (spRInit T.C_Reader) := by
  refine T.F_Reader_init.ok sc_Reader_init (fun vs H Q E h => ?_) (fun cdv A outer s H vs Q E hr h => ?_)
  · obtain ⟨p, dx, L, rfl, _⟩ := h
    rfl
  · obtain ⟨p, dx, L, rfl, hp, k⟩ := h
    refine ⟨_, (pss_cons (ps_fld (pv 0) (pv 1) rfl)
  (pss_one (ps_fld (pv 0) pe_int rfl))), ?_⟩
    refine ⟨_, rfl, _, rfl, p, T.C_Reader, dx, [], rfl, hp, T.c_Reader, T.A_Reader_text, (by show 0 < 1000; decide), _, rfl, p, T.C_Reader, dx, _, rfl, upd_same, T.c_Reader, T.A_Reader_spot, (by show 1 < 1000; decide), ?_⟩
    refine k _ ⟨dx, ?_, [], rfl⟩ fun b o hb e => by rw [upd_ne hb, upd_ne hb]; exact e
    rw [Nat.sub_self]
    exact upd_same
def spSign (C : Addr) : Sp := fun vs H Q _ => ∃ (p : Addr) (L l : List Nat), vs = [.ref p] ∧ RdAt C H p L l ∧ L.length ≤ 100000 ∧ Q (.str (S (l.take 1))) H
theorem cut_one (L l a : List Nat) (e : L = a ++ l) : cutS (S L) (some ((L.length - l.length : Nat) : Int)) (some (((L.length - l.length : Nat) : Int) + 1)) = S (l.take 1) := by
  have hk : L.length - l.length = a.length := by rw [e]; simp
  rw [hk]
  unfold cutS
  have e1 : HT.sIx (S L).length 0 (some ((a.length : Nat) : Int)) = a.length := by
    rw [HT.sIx_nat, S_len, e, List.length_append]; omega
  have e2 : HT.sIx (S L).length (S L).length (some (((a.length : Nat) : Int) + 1)) = min (a.length + 1) L.length := by
    have : (((a.length : Nat) : Int) + 1) = ((a.length + 1 : Nat) : Int) := by omega
    rw [this, HT.sIx_nat, S_len]
  rw [e1, e2, S_list, e, List.drop_left']
  · show S _ = S _
    congr 1
    rw [List.length_append]
    cases l with
    | nil => simp
    | cons c r =>
      have : min (a.length + 1) (a.length + (c :: r).length) - a.length = 1 := by rw [List.length_cons]; omega
      rw [this]
  · rfl
theorem ok_Reader_sign (T : Tx P K mg) : FnOk P w K mg base CX0 1 T.f_Reader_sign T.d_Reader_sign ["self"] (spSign T.C_Reader) := by
  refine T.F_Reader_sign.ok sc_Reader_sign (fun vs H Q E h => ?_) (fun cdv A outer s H vs Q E hr h => ?_)
  · obtain ⟨p, L, l, rfl, _⟩ := h
    rfl
  · obtain ⟨p, L, l, rfl, ⟨dx, h1, a, e⟩, hL, k⟩ := h
    refine ⟨_, (pss_one (ps_ret (pe_slice sl_str (pe_fld (pv 0) rfl) (po_some (pe_fld (pv 0) rfl)) (po_some (pe_op op_add (pe_fld (pv 0) rfl) pe_int))))), ?_⟩
    refine ⟨_, rfl, p, _, dx, _, _, rfl, h1, T.c_Reader, T.A_Reader_text, rdf_text _ _, _, rfl, p, _, dx, _, _, rfl, h1, T.c_Reader, T.A_Reader_spot, rdf_spot _ _, _, rfl,
      _, rfl, p, _, dx, _, _, rfl, h1, T.c_Reader, T.A_Reader_spot, rdf_spot _ _, _, _, rfl, rfl, _, rfl, _, rfl, sz1 (by rw [S_len]; omega), ?_⟩
    rw [cut_one L l a e]
    exact k
end
end Toy


namespace Toy
open PySem L2 Cw
theorem log2_small {i : Int} (h0 : 0 ≤ i) (h : i ≤ 1000000) : i.natAbs.log2 < 1920 := by
  have : i.natAbs < 2 ^ 20 := by omega
  by_cases z : i.natAbs = 0
  · rw [z]; decide
  · have := (Nat.log2_lt z).mpr this
    omega
/-- one small number -/
def okI : List V → Hp → Prop := fun vs _ => ∃ i : Int, vs = [.int i] ∧ 0 ≤ i ∧ i ≤ 1000000
theorem part_int {P : Program} {w : World} {qual : Str} {scope : Scope} {fI cda cc : Addr} {m : Str → Option Value} {h0 : Heap} {f : Str} {p1 p2 : Pos} {i : Int} {t : Tok} (hk : scope.kind = .function) (hl : scope.names.lookup f = some .local) (hd : (f == ("__debug__" : Str)) = false) (hv : m f = some (.int i t))
    (h1 : 0 ≤ i) (h2 : i ≤ 1000000) : Part P w (.FormattedValue (.Name f p1) (-1) none p2) qual scope fI cda cc m h0 2000 :=
  part_fmt hk hl hd hv (.inr (.inl ⟨i, t, rfl, log2_small h1 h2, Nat.le_trans (PyProof.Rows.int_text_len_1921 (log2_small h1 h2)) (by decide)⟩))
section
variable {P : Program} {w : World} {K : PySem.W.Frag} {mg : Str → Option Value} {base : Heap}
open Cw
theorem so_BadText (T : Tx P K mg) : ∃ M p0 p1 p2 p3 p4 q1 q2 q3 q4, defBody s_BadText_init = [supS M p0 p1 p2 p3 p4, stS "place" q1 q2 q3 q4] ∧ SupOk P M "BadText.__init__" (defScope s_BadText_init) T.f_BadText_init T.cd_BadText T.cc_BadText p0 p1 p2 p3 p4 ∧
    (∀ (m : Str → Option Value) (h0 : Heap) (i : Int) (t : Tok), m "place" = some (.int i t) → 0 ≤ i → i ≤ 1000000 → Msg P w M "BadText.__init__" (defScope s_BadText_init) T.f_BadText_init T.cd_BadText T.cc_BadText m h0) ∧
    (∀ L, swapsWith (.Name "place" q3) (some (.Attribute (.Name "self" q1) "place" q2)) q4.line (PySem.W.ksEnv "BadText.__init__" (defScope s_BadText_init) L T.f_BadText_init (.ref T.cd_BadText) T.cc_BadText) = pure false) := by
  refine ⟨_, _, _, _, _, _, _, _, _, _, rfl, ⟨rfl, rfl, rfl, rfl, rfl, T.tp_BadText, by decide +kernel, fun L => ⟨_, rfl⟩, fun L => rfl⟩, fun m h0 i t hm h1 h2 => ?_, fun L => rfl⟩
  refine msg_join (n := 2000) (fun e he => ?_) (by decide)
  rcases List.mem_cons.mp he with rfl | he
  · exact part_const (by decide +kernel)
  rcases List.mem_cons.mp he with rfl | he
  · exact part_int rfl rfl (by decide +kernel) hm h1 h2
  · cases he
theorem xc_BadText (T : Tx P K mg) : XCls P w K mg base T.C_BadText T.f_BadText_init ["place"] okI := by
  intro A s us vs H hr hok Mo kb r hn hok2
  obtain ⟨i, rfl, h1, h2⟩ := hok2
  obtain ⟨u, rfl, t, rfl⟩ := vals1 r
  obtain ⟨M, p0, p1, p2, p3, p4, q1, q2, q3, q4, eb, so, hm, hsw⟩ := so_BadText (w := w) T
  have X := T.X_BadText
  rw [eb] at X
  exact hinit1 X so Mo kb hr rfl rfl rfl rfl (by decide +kernel) (by decide +kernel) T.A_BadText_place (fun x kV doc pm an ct s => .of_eq rfl) hsw (fun x h1' k => hm _ _ i t (by simp [List.lookup]) h1 h2)
end
end Toy


namespace Toy
open PySem L2 Cw
section
variable {P : Program} {w : World} {K : PySem.W.Frag} {mg : Str → Option Value} {base : Heap}
open Cw
theorem D_ofEs {f last : Nat} {l r : List Nat} {es : List (Nat × Th)} (h : pC f last l = .ok es r) : (ofEs es).D = .tuple (es.map Th.pD) := by
  obtain ⟨_, _, h3, h4⟩ := (read_spec f).1 _ _ _ _ h
  have e := ents_ofEs (fun p hp => ⟨(h3 p hp).1, (h3 p hp).2.2⟩) h4
  rw [Th.D_dir _ rfl, e]
theorem strS {a : List Nat} {x : Str} {b : List Nat} (hx : x = S b) : decide (V.str (S a) = V.str x) = decide (a = b) := by
  subst hx
  by_cases h : a = b
  · rw [h]; simp
  · rw [decide_eq_false h, decide_eq_false (fun z => h (S_inj (V.str.inj z)))]
theorem inV_nm (l : List Nat) : inV (.str (S (l.take 1))) [.str "a", .str "b", .str "c"] = (match l with | [] => false | c :: _ => isNm c) := by
  have key : ∀ c : Nat, (("a" : Str) == S [c]) = (c == 97) ∧ (("b" : Str) == S [c]) = (c == 98) ∧ (("c" : Str) == S [c]) = (c == 99) := fun c => by
    rw [S_a, S_b, S_c]
    have k : ∀ a : Nat, (S [a] == S [c]) = (c == a) := fun a => by
      by_cases h : c = a
      · subst h; simp
      · have : S [a] ≠ S [c] := fun z => h (by have := S_inj z; simpa using this.symm)
        rw [beq_eq_false_iff_ne.mpr this, beq_eq_false_iff_ne.mpr h]
    exact ⟨k 97, k 98, k 99⟩
  cases l with
  | nil =>
    show ((("a" : Str) == S []) || ((("b" : Str) == S []) || ((("c" : Str) == S []) || false))) = false
    decide +kernel
  | cons c r =>
    show ((("a" : Str) == S [c]) || ((("b" : Str) == S [c]) || ((("c" : Str) == S [c]) || false))) = isNm c
    rw [(key c).1, (key c).2.1, (key c).2.2]
    simp [isNm, Bool.or_assoc]
def PlaceErr (CE : Addr) (L r : List Nat) (p : Addr) (H : Hp) (E : XK) : Prop := ∀ d H', H' d = some (.xd [("place", .int ((L.length - r.length : Nat) : Int))]) → But p H H' → E (.ref CE) (some d) H'
def spThing (K : PySem.W.Frag) (C CE : Addr) (m : Nat) : Sp := fun vs H Q E => ∃ (p : Addr) (L l : List Nat) (f : Nat), vs = [.ref p] ∧ RdAt C H p L l ∧ Flat ((m : Int) - 1) l ∧ L.length ≤ 100000 ∧ l.length < f ∧
  (match pT f l with
  | .ok t r => ∀ v H', But p H H' → RdAt C H' p L r → Im K H' v t.D → Q v H'
  | .bad r => PlaceErr CE L r p H E)
def spContent (K : PySem.W.Frag) (C CE : Addr) (m : Nat) : Sp := fun vs H Q E => ∃ (p : Addr) (L l : List Nat) (f : Nat), vs = [.ref p] ∧ RdAt C H p L l ∧ Flat ((m : Int) - 1) l ∧ L.length ≤ 100000 ∧ l.length < f ∧
  (match pC f 0 l with
  | .ok es r => ∀ v H', But p H H' → RdAt C H' p L r → Im K H' v (.tuple (es.map Th.pD)) → Q v H'
  | .bad r => PlaceErr CE L r p H E)
theorem ok_thing_n {m n : Nat} (T : Tx P K mg) (hn : 2 ≤ n) (G : FnOk P w K mg base (L2.CX P w) n T.f_Reader_content T.d_Reader_content ["self"] (spContent K T.C_Reader T.C_BadText m)) :
    FnOk P w K mg base (L2.CX P w) (n + 1) T.f_Reader_thing T.d_Reader_thing ["self"] (spThing K T.C_Reader T.C_BadText (m + 1)) := by
  refine T.F_Reader_thing.okX sc_Reader_thing (fun vs H Q E h => ?_) (fun cdv A outer s H vs Q E hr h => ?_)
  · obtain ⟨p, L, l, f, rfl, _⟩ := h
    rfl
  · obtain ⟨p, L, l, f, rfl, hR, hF, hL, hf, k⟩ := h
    have hr1 : Room 1 _ := hr.mono (by omega)
    have hr2 : Room 2 _ := hr.mono (by omega)
    refine ⟨_, (pss_cons (ps_if (pt_cmpR op_eq (pe_meth0 (pv 0) T.c_Reader T.M_Reader_sign (ok_Reader_sign T) hr1 T.b_Reader_sign .nil pass0) pe_str (nomark _))
  (pss_cons (ps_fldaug (pv 0) pe_int in_add)
  (pss_one (ps_ret (pe_glob (v := .str "file") rfl T.m_FILE ⟨_, rfl⟩))))
  pss_nil)
  (pss_cons (ps_if (pt_cmpR op_ne (pe_meth0 (pv 0) T.c_Reader T.M_Reader_sign (ok_Reader_sign T) hr1 T.b_Reader_sign .nil pass0) pe_str (nomark _))
  (pss_one (ps_raise rfl (takes_of rfl rfl rfl rfl) (pmk_x T.X_BadText (xc_BadText T) (by decide) hr2 T.m_BadText rfl (pa_cons (pe_fld (pv 0) rfl) pa_nil))))
  pss_nil)
  (pss_cons (ps_fldaug (pv 0) pe_int in_add)
  (pss_cons (ps_set (i := 1) sc_Reader_thing.nd rfl (Or.inl rfl) (pe_meth0 (pv 0) T.c_Reader T.M_Reader_content G hr T.b_Reader_content .nil (passes_call (takes_of rfl rfl rfl rfl) (fun _ _ _ _ h => h))))
  (pss_cons (ps_if (pt_cmpR op_ne (pe_meth0 (pv 0) T.c_Reader T.M_Reader_sign (ok_Reader_sign T) hr1 T.b_Reader_sign .nil pass0) pe_str (nomark _))
  (pss_one (ps_raise rfl (takes_of rfl rfl rfl rfl) (pmk_x T.X_BadText (xc_BadText T) (by decide) hr2 T.m_BadText rfl (pa_cons (pe_fld (pv 0) rfl) pa_nil))))
  pss_nil)
  (pss_cons (ps_fldaug (pv 0) pe_int in_add)
  (pss_one (ps_ret (pv 1))))))))), ?_⟩
    obtain ⟨dx, h1, a, eL⟩ := id hR
    obtain ⟨f, rfl⟩ : ∃ f', f = f' + 1 := ⟨f - 1, by omega⟩
    have ns : (rdf L ((L.length - l.length : Nat) : Int)).lookup ("sign" : Str) = none := rdf_no _ _ (by decide +kernel) (by decide +kernel)
    have hb : (0 : Int) ≤ ((L.length - l.length : Nat) : Int) ∧ ((L.length - l.length : Nat) : Int) ≤ 1000000 := by omega
    -- if self.sign() == '-'
    refine ⟨_, rfl, p, dx, _, rfl, h1, ns, p, L, l, rfl, hR, hL, rfl, _, rfl, ?_⟩
    rw [strS S_dash]
    refine ite2 (fun c => ?_) (fun c => ?_)
    · obtain ⟨r, rfl⟩ : ∃ r, l = 45 :: r := by
        have e := of_decide_eq_true c
        cases l with
        | nil => cases e
        | cons x r => exact ⟨r, by simp at e; rw [e]⟩
      refine ⟨_, rfl, p, _, dx, _, _, rfl, h1, T.c_Reader, T.A_Reader_spot, rdf_spot _ _, _, _, rfl, rfl, dx, _, h1, (by rw [rdf_eq]; show 2 < 1000; decide), ?_⟩
      simp only [pT, if_true] at k
      rw [rdf_put]
      exact k _ _ (But.upd (But.refl p H)) (RdAt.step eL) (.str _)
    · have n45 : ∀ r, l ≠ 45 :: r := fun r z => c (decide_eq_true (by rw [z]; rfl))
      refine ⟨_, rfl, p, dx, _, rfl, h1, ns, p, L, l, rfl, hR, hL, rfl, _, rfl, ?_⟩
      rw [strS S_op]
      refine ite2 (fun c2 => ?_) (fun c2 => ?_)
      · have n91 : ∀ r, l ≠ 91 :: r := fun r z => by
          subst z
          simp at c2
        refine ⟨_, rfl, p, _, dx, _, _, rfl, h1, T.c_Reader, T.A_Reader_spot, rdf_spot _ _, rfl, ⟨_, rfl, hb.1, hb.2⟩, (fun z => nomatch z), fun _ d hd => ?_⟩
        have kb : pT (f + 1) l = .bad l := by
          cases l with
          | nil => rfl
          | cons x r =>
            have a1 : ¬ x = 45 := fun z => n45 r (by rw [z])
            have a2 : ¬ x = 91 := fun z => n91 r (by rw [z])
            simp [pT, a1, a2]
        rw [kb] at k
        exact k d _ upd_same ((same_new hd).but)
      · obtain ⟨r, rfl⟩ : ∃ r, l = 91 :: r := by
          have e : decide (l.take 1 = [91]) = true := by
            cases q : decide (l.take 1 = [91]) with
            | true => rfl
            | false => rw [q] at c2; exact absurd rfl c2
          have e := of_decide_eq_true e
          cases l with
          | nil => cases e
          | cons x r => exact ⟨r, by simp at e; rw [e]⟩
        refine ⟨_, rfl, p, _, dx, _, _, rfl, h1, T.c_Reader, T.A_Reader_spot, rdf_spot _ _, _, _, rfl, rfl, dx, _, h1, (by rw [rdf_eq]; show 2 < 1000; decide), ?_⟩
        rw [rdf_put]
        have R1 := RdAt.step (C := T.C_Reader) (H := H) (p := p) (dx := dx) eL
        have hb1 : But p H (upd H p (.ins T.C_Reader dx (rdf L (((L.length - (91 :: r).length : Nat) : Int) + 1)))) := But.upd (But.refl p H)
        have hF1 : Flat ((m : Int) - 1) r := by
          have := Flat.drop (a := [91]) (b := r) hF
          have e : ((m + 1 : Nat) : Int) - 1 - bal [91] = (m : Int) - 1 := by show ((m + 1 : Nat) : Int) - 1 - 1 = _; omega
          rw [e] at this
          exact this
        generalize upd H p (.ins T.C_Reader dx (rdf L (((L.length - (91 :: r).length : Nat) : Int) + 1))) = H1 at R1 hb1 ⊢
        obtain ⟨dx1, g1, _⟩ := id R1
        refine ⟨_, rfl, p, dx1, _, rfl, g1, rdf_no _ _ (by decide +kernel) (by decide +kernel), p, L, r, f, rfl, R1, hF1, hL, by simpa using hf, ?_⟩
        cases hC : pC f 0 r with
        | bad x =>
          have kb : pT (f + 1) (91 :: r) = .bad x := by simp [pT, hC]
          rw [kb] at k
          exact fun d H' e1 e2 => k d H' e1 (hb1.trans e2)
        | ok es r1 =>
          intro v H2 hb2 R2 hv
          obtain ⟨dx2, g2, a2, eL2⟩ := id R2
          have hb' : (0 : Int) ≤ ((L.length - r1.length : Nat) : Int) ∧ ((L.length - r1.length : Nat) : Int) ≤ 1000000 := by omega
          refine ⟨_, rfl, p, dx2, _, rfl, g2, rdf_no _ _ (by decide +kernel) (by decide +kernel), p, L, r1, rfl, R2, hL, rfl, _, rfl, ?_⟩
          rw [strS S_cl]
          refine ite2 (fun c3 => ?_) (fun c3 => ?_)
          · refine ⟨_, rfl, p, _, dx2, _, _, rfl, g2, T.c_Reader, T.A_Reader_spot, rdf_spot _ _, rfl, ⟨_, rfl, hb'.1, hb'.2⟩, (fun z => nomatch z), fun _ d hd => ?_⟩
            have kb : pT (f + 1) (91 :: r) = .bad r1 := by
              cases r1 with
              | nil => simp [pT, hC]
              | cons x r2 =>
                have a1 : ¬ x = 93 := fun z => by subst z; simp at c3
                simp [pT, hC, a1]
            rw [kb] at k
            exact k d _ upd_same ((hb1.trans hb2).trans (same_new hd).but)
          · obtain ⟨r2, rfl⟩ : ∃ r2, r1 = 93 :: r2 := by
              have e : decide (r1.take 1 = [93]) = true := by
                cases q : decide (r1.take 1 = [93]) with
                | true => rfl
                | false => rw [q] at c3; exact absurd rfl c3
              have e := of_decide_eq_true e
              cases r1 with
              | nil => cases e
              | cons x r2 => exact ⟨r2, by simp at e; rw [e]⟩
            refine ⟨_, rfl, p, _, dx2, _, _, rfl, g2, T.c_Reader, T.A_Reader_spot, rdf_spot _ _, _, _, rfl, rfl, dx2, _, g2, (by rw [rdf_eq]; show 2 < 1000; decide), ?_⟩
            rw [rdf_put]
            have kb : pT (f + 1) (91 :: r) = .ok (ofEs es) r2 := by simp [pT, hC]
            rw [kb] at k
            refine ⟨_, rfl, k v _ ((hb1.trans hb2).upd) (RdAt.step eL2) ?_⟩
            rw [D_ofEs hC]
            exact hv.tk ⟨fun b xs e => by rw [upd_ne (ne_of e g2 (by intro z; cases z))]; exact e, fun b o u e => by rw [upd_ne (ne_of e g2 (by intro z; cases z))]; exact e⟩
end
end Toy


namespace Toy
open PySem L2 Cw
section
variable {P : Program} {w : World} {K : PySem.W.Frag} {mg : Str → Option Value} {base : Heap}
open Cw
theorem lt_one (a b : Nat) : decide (([a] : List Nat) < [b]) = decide (a < b) := by
  by_cases h : a < b
  · rw [decide_eq_true h]; exact decide_eq_true (List.Lex.rel h)
  · rw [decide_eq_false h]
    refine decide_eq_false fun z => ?_
    cases z with
    | rel z => exact h z
    | cons z => cases z
theorem ok_content_n {m n : Nat} (T : Tx P K mg) (hn : 2 ≤ n) (G : FnOk P w K mg base (L2.CX P w) n T.f_Reader_thing T.d_Reader_thing ["self"] (spThing K T.C_Reader T.C_BadText m)) :
    FnOk P w K mg base (L2.CX P w) (n + 1) T.f_Reader_content T.d_Reader_content ["self"] (spContent K T.C_Reader T.C_BadText m) := by
  refine T.F_Reader_content.okX sc_Reader_content (fun vs H Q E h => ?_) (fun cdv A outer s H vs Q E hr h => ?_)
  · obtain ⟨p, L, l, f, rfl, _⟩ := h
    rfl
  · obtain ⟨p, L, l, f, rfl, hR, hF, hL, hf, k⟩ := h
    have hr1 : Room 1 _ := hr.mono (by omega)
    have hr2 : Room 2 _ := hr.mono (by omega)
    refine ⟨_, (pss_cons (ps_par (i := 1) (j := 2) (by rfl) sc_Reader_content.nd rfl rfl (by decide) rfl rfl (pa_cons (pe_lst pa_nil) (pa_cons pe_str pa_nil)) (by rfl))
  (pss_cons (ps_while (passes_of rfl) (pt_cmpR op_in_seq (pe_meth0 (pv 0) T.c_Reader T.M_Reader_sign (ok_Reader_sign T) hr1 T.b_Reader_sign .nil pass0) (pe_glob (v := .ref T.a_NAMES) rfl T.m_NAMES rfl) (by rfl))
  (pss_cons (ps_set (i := 3) sc_Reader_content.nd rfl (Or.inl rfl) (pe_meth0 (pv 0) T.c_Reader T.M_Reader_sign (ok_Reader_sign T) hr1 T.b_Reader_sign .nil pass0))
  (pss_cons (ps_if (pt_cmpR op_le_str (pv 3) (pv 2) (nomark _))
  (pss_one (ps_raise rfl (takes_of rfl rfl rfl rfl) (pmk_x T.X_BadText (xc_BadText T) (by decide) hr2 T.m_BadText rfl (pa_cons (pe_fld (pv 0) rfl) pa_nil))))
  pss_nil)
  (pss_cons (ps_fldaug (pv 0) pe_int in_add)
  (pss_cons (ps_expr (pe_bm PySem.F.plainAttrs_list PySem.F.slot_list_append PySem.F.type_list_append mt_append (pv 1) (pa_cons (pe_tup (pa_cons (pv 3) (pa_cons (pe_meth0 (pv 0) T.c_Reader T.M_Reader_thing G hr T.b_Reader_thing .nil (passes_call (takes_of rfl rfl rfl rfl) (fun _ _ _ _ h => h))) pa_nil))) pa_nil)))
  (pss_one (ps_set (i := 2) sc_Reader_content.nd rfl (Or.inl rfl) (pv 3))))))))
  (pss_one (ps_ret (pe_callTy call_tuple_of (by rfl) T.n_tuple (by decide +kernel) (pa_cons (pv 1) pa_nil)))))), ?_⟩
    obtain ⟨dx0, h10, _⟩ := id hR
    refine ⟨Nat.zero_le _, fun fl hfl => ⟨_, _, rfl, ?_⟩⟩
    have npf : p ≠ fl := ne_of_none h10 hfl
    have sm := same_new (o := .lst []) hfl
    -- the loop
    refine ⟨fun μ σ H' => ∃ (acc : List (Nat × Th)) (last : Nat) (lt l' : List Nat) (f' : Nat) (vs : List V) (nm : Option V), σ = [some (.ref p), some (.ref fl), some (.str (S lt)), nm] ∧ ((lt = [] ∧ last = 0) ∨ lt = [last]) ∧ l'.length < f' ∧
        pC f 0 l = (match pC f' last l' with | .bad x => .bad x | .ok es r => .ok (acc ++ es) r) ∧ RdAt T.C_Reader H' p L l' ∧ Flat ((m : Int) - 1) l' ∧ H' fl = some (.lst vs) ∧ Ims K H' vs (acc.map Th.pD) ∧ acc.length + l'.length ≤ l.length ∧ But p H H' ∧ μ = l'.length,
      ⟨_, [], 0, [], l, f, [], none, by rw [← S_nil]; rfl, .inl ⟨rfl, rfl⟩, hf, by cases pC f 0 l <;> rfl, hR.keep (upd_ne npf), hF, upd_same, .nil, by simp, sm.but, rfl⟩, ?_⟩
    rintro μ σ H' ⟨acc, last, lt, l', f', vs, nm, rfl, hlt, hf', hpc, hR', hF', hl', him, hsz, hb, rfl⟩
    obtain ⟨dx, h1, a, eL⟩ := id hR'
    have ns : (rdf L ((L.length - l'.length : Nat) : Int)).lookup ("sign" : Str) = none := rdf_no _ _ (by decide +kernel) (by decide +kernel)
    have hb0 : (0 : Int) ≤ ((L.length - l'.length : Nat) : Int) ∧ ((L.length - l'.length : Nat) : Int) ≤ 1000000 := by omega
    refine ⟨_, rfl, p, dx, _, rfl, h1, ns, p, L, l', rfl, hR', hL, T.a_NAMES, _, rfl, .inr (T.c_NAMES _), rfl, rfl, _, rfl, ?_⟩
    show (if (inV (.str (S (l'.take 1))) [.str "a", .str "b", .str "c"]) = true then _ else _)
    rw [inV_nm]
    obtain ⟨f', rfl⟩ : ∃ g, f' = g + 1 := ⟨f' - 1, by omega⟩
    cases l' with
    | nil =>
      refine iteF ?_
      simp only [pC, List.append_nil] at hpc
      rw [hpc] at k
      refine ⟨_, rfl, fl, _, rfl, .inl ⟨SqL.of hl', fun e he => ?_⟩⟩
      have s2 := same_new (o := .tup vs) he
      exact k _ _ (hb.trans s2.but) (hR'.keep (upd_ne (ne_of_none h1 he))) (Im.new he him)
    | cons c r =>
      dsimp only
      refine ite2 (fun hc => ?_) (fun hc => ?_)
      · refine ⟨_, fun σ' H'' q => q, ?_⟩
        refine ⟨_, rfl, p, dx, _, rfl, h1, ns, p, L, c :: r, rfl, hR', hL, ?_⟩
        refine ⟨_, rfl, _, rfl, _, _, rfl, rfl, _, rfl, ?_⟩
        have hle : (!decide ((S lt).cps.toList < (S [c]).cps.toList)) = decide (c ≤ last) := by
          rw [S_list, S_list]
          rcases hlt with ⟨rfl, rfl⟩ | rfl
          · have : c ≠ 0 := by rintro rfl; simp [isNm] at hc
            have e1 : decide (([] : List Nat) < [c]) = true := by simp
            rw [e1, decide_eq_false (by omega)]
            rfl
          · rw [lt_one]
            by_cases h : last < c
            · rw [decide_eq_true h, decide_eq_false (by omega)]; rfl
            · rw [decide_eq_false h, decide_eq_true (by omega)]; rfl
        show (if (!decide ((S lt).cps.toList < (S [c]).cps.toList)) = true then _ else _)
        rw [hle]
        simp only [pC, hc, if_true] at hpc
        refine ite2 (fun hl => ?_) (fun hl => ?_)
        · rw [if_pos (of_decide_eq_true hl)] at hpc
          rw [hpc] at k
          refine ⟨_, rfl, p, _, dx, _, _, rfl, h1, T.c_Reader, T.A_Reader_spot, rdf_spot _ _, rfl, ⟨_, rfl, hb0.1, hb0.2⟩, (fun z => nomatch z), fun _ d hd => ?_⟩
          exact k d _ upd_same (hb.trans (same_new hd).but)
        · rw [if_neg (fun z => hl (decide_eq_true z))] at hpc
          refine ⟨_, rfl, p, _, dx, _, _, rfl, h1, T.c_Reader, T.A_Reader_spot, rdf_spot _ _, _, _, rfl, rfl, dx, _, h1, (by rw [rdf_eq]; show 2 < 1000; decide), ?_⟩
          rw [rdf_put]
          have R1 := RdAt.step (C := T.C_Reader) (H := H') (p := p) (dx := dx) eL
          have tkp : ∀ (H1 : Hp) (C dx : Addr) (fs gs : List (Str × V)), H1 p = some (.ins C dx fs) → Tk H1 (upd H1 p (.ins C dx gs)) := fun H1 C dx fs gs g =>
            ⟨fun b xs e => by rw [upd_ne (ne_of e g (by intro z; cases z))]; exact e, fun b o u e => by rw [upd_ne (ne_of e g (by intro z; cases z))]; exact e⟩
          have hl1 : upd H' p (.ins T.C_Reader dx (rdf L (((L.length - (c :: r).length : Nat) : Int) + 1))) fl = some (.lst vs) := by rw [upd_ne (Ne.symm npf)]; exact hl'
          have him1 := him.tk (tkp H' _ _ _ (rdf L (((L.length - (c :: r).length : Nat) : Int) + 1)) h1)
          have hb1 : But p H (upd H' p (.ins T.C_Reader dx (rdf L (((L.length - (c :: r).length : Nat) : Int) + 1)))) := hb.upd
          generalize upd H' p (.ins T.C_Reader dx (rdf L (((L.length - (c :: r).length : Nat) : Int) + 1))) = H1 at R1 hl1 him1 hb1 ⊢
          obtain ⟨dx1, g1, _⟩ := id R1
          have hF1 : Flat ((m : Int) - 1) r := by
            have := Flat.drop (a := [c]) (b := r) hF'
            rw [isNm_bal hc, Int.sub_zero] at this
            exact this
          refine ⟨_, rfl, .inl ⟨rfl, _, SqL.of hl1⟩, _, rfl, _, rfl, p, dx1, _, rfl, g1, rdf_no _ _ (by decide +kernel) (by decide +kernel), p, L, r, f', rfl, R1, hF1, hL, by simpa using hf', ?_⟩
          cases hT : pT f' r with
          | bad x =>
            rw [hT] at hpc
            rw [hpc] at k
            exact fun d H2 e1 e2 => k d H2 e1 (hb1.trans e2)
          | ok t r1 =>
            rw [hT] at hpc
            dsimp only at hpc
            intro v H2 hb2 R2 hv
            obtain ⟨⟨q1, eq1, bq1, nq1⟩, _⟩ := (read_spec f').2 _ _ _ hT
            have hl2 : H2 fl = some (.lst vs) := hb2 _ _ (Ne.symm npf) hl1
            have tk2 : Tk H1 H2 := ⟨fun b xs e => hb2 b _ (ne_of e g1 (by intro z; cases z)) e, fun b o u e => hb2 b _ (ne_of e g1 (by intro z; cases z)) e⟩
            refine ⟨(by show 2 ≤ sizeLine; decide), fun e he => ?_⟩
            have nfe : fl ≠ e := ne_of_none hl2 he
            have s3 := same_new (o := .tup [.str (S [c]), v]) he
            have hl3 := s3 _ _ hl2
            have vl : vs.length ≤ 100000 := by
              have e1 := him.len
              rw [List.length_map] at e1
              have e2 : L.length = a.length + (c :: r).length := by rw [eL, List.length_append]
              have : l.length ≤ L.length := by
                obtain ⟨_, _, a0, e0⟩ := hR
                rw [e0, List.length_append]; omega
              omega
            refine ⟨fl, _, _, rfl, rfl, hl3, Nat.lt_of_le_of_lt (show vs.length ≤ 100000 from vl) (by decide), ?_⟩
            refine ⟨_, rfl, ?_⟩
            obtain ⟨dx2, g2, _⟩ := id R2
            have npe : p ≠ e := ne_of_none g2 he
            have tk4 := tk_updL (o := .lst (vs ++ [.ref e])) hl3
            refine ⟨r1.length, ?_, acc ++ [(c, t)], c, [c], r1, f', vs ++ [.ref e], _, rfl, .inr rfl, ?_, ?_, ?_, ?_, upd_same, ?_, ?_, ?_, rfl⟩
            · rw [eq1]; simp only [List.length_cons, List.length_append]; omega
            · have : (c :: r).length < f' + 1 := hf'
              rw [eq1] at this
              simp only [List.length_cons, List.length_append] at this
              omega
            · rw [hpc]
              cases pC f' c r1 <;> simp
            · refine R2.keep ?_
              rw [upd_ne npf, upd_ne npe]
            · rw [eq1] at hF1
              have := Flat.drop hF1
              rw [bq1, Int.sub_zero] at this
              exact this
            · rw [List.map_append]
              refine (((him1.tk tk2).same s3).tk tk4).app (.cons (Im.tk tk4 (Im.new he (.cons (.str _) (.cons hv .nil)))) .nil)
            · rw [eq1] at hsz
              simp only [List.length_cons, List.length_append, List.length_nil] at hsz ⊢
              omega
            · intro b o nb eb
              have e1 := hb2 b o nb (hb1 b o nb eb)
              have nbf : b ≠ fl := fun z => by rw [z, hfl] at eb; cases eb
              rw [upd_ne nbf]
              exact s3 _ _ e1
      · have hc' : isNm c = false := by simpa using hc
        simp only [pC, hc', Bool.false_eq_true, if_false, List.append_nil] at hpc
        rw [hpc] at k
        refine ⟨_, rfl, fl, _, rfl, .inl ⟨SqL.of hl', fun e he => ?_⟩⟩
        have s2 := same_new (o := .tup vs) he
        exact k _ _ (hb.trans s2.but) (hR'.keep (upd_ne (ne_of_none h1 he))) (Im.new he him)
theorem ok_content (T : Tx P K mg) : ∀ m : Nat, FnOk P w K mg base (L2.CX P w) (2 * m + 2) T.f_Reader_content T.d_Reader_content ["self"] (spContent K T.C_Reader T.C_BadText m)
  | 0 => by
    have no : ∀ vs H Q E, ¬ spContent K T.C_Reader T.C_BadText 0 vs H Q E := fun vs H Q E h => by
      obtain ⟨_, _, l, _, _, _, h, _⟩ := h
      have := h 0
      simp [bal] at this
    exact ⟨fun vs H Q E h => absurd h (no vs H Q E), fun A outer s H args us vs Q E _ _ _ _ h => absurd h (no vs H Q E)⟩
  | m + 1 => ok_content_n (n := 2 * m + 3) T (by omega) (ok_thing_n (n := 2 * m + 2) T (by omega) (ok_content T m))
end
end Toy


namespace Toy
open PySem L2 Cw
section
variable {P : Program} {w : World} {K : PySem.W.Frag} {mg : Str → Option Value} {base : Heap}
open Cw
def spRead (K : PySem.W.Frag) (CE : Addr) (m : Nat) : Sp := fun vs H Q E => ∃ (L : List Nat), vs = [.str (S L)] ∧ Flat m L ∧ L.length ≤ 100000 ∧
  (match scan false 0 [] L with
  | some x => ∀ d H', H' d = some (.xd [("place", .int ((L.length - x.length : Nat) : Int))]) → Same H H' → E (.ref CE) (some d) H'
  | none => ∀ v H' (t : Th), Same H H' → Im K H' v t.D → t.isDir = true → t.dep ≤ m + 1 → t.tx = L → Q v H')
theorem ok_read_tree (T : Tx P K mg) (m : Nat) : FnOk P w K mg base (L2.CX P w) (2 * m + 5) T.f_read_tree T.d_read_tree ["text"] (spRead K T.C_BadText m) := by
  have G : FnOk P w K mg base (L2.CX P w) (2 * m + 4) T.f_Reader_content T.d_Reader_content ["self"] (spContent K T.C_Reader T.C_BadText (m + 1)) := ok_content T (m + 1)
  refine T.F_read_tree.okX sc_read_tree (fun vs H Q E h => ?_) (fun cdv A outer s H vs Q E hr h => ?_)
  · obtain ⟨L, rfl, _⟩ := h
    rfl
  · obtain ⟨L, rfl, hF, hL, k⟩ := h
    have hr2 : Room 2 _ := hr.mono (by omega)
    refine ⟨_, (pss_cons (ps_set (i := 1) sc_read_tree.nd rfl (Or.inl rfl) (pe_make T.K_Reader (ok_Reader_init T) hr2 rfl T.m_Reader T.b_Reader_init .nil pass0 (pa_cons (pv 0) pa_nil)))
  (pss_cons (ps_set (i := 2) sc_read_tree.nd rfl (Or.inl rfl) (pe_meth0 (pv 1) T.c_Reader T.M_Reader_content G hr T.b_Reader_content .nil (passes_call (takes_of rfl rfl rfl rfl) (fun _ _ _ _ h => h))))
  (pss_cons (ps_if (pt_cmpR op_lt (pe_fld (pv 1) rfl) (pe_callB call_len_str (by rfl) T.n_len PySem.boot_len (pa_cons (pv 0) pa_nil)) (nomark _))
  (pss_one (ps_raise rfl (takes_of rfl rfl rfl rfl) (pmk_x T.X_BadText (xc_BadText T) (by decide) hr2 T.m_BadText rfl (pa_cons (pe_fld (pv 1) rfl) pa_nil))))
  pss_nil)
  (pss_one (ps_ret (pv 2)))))), ?_⟩
    refine ⟨_, rfl, fun x dx nx ndx nex => ?_⟩
    refine ⟨x, dx, L, rfl, upd_same, fun H1 R1 b1 => ⟨rfl, ?_⟩⟩
    have s1 : Same H H1 := fun b o e => by
      have n1 : b ≠ x := ne_of_none e nx
      exact b1 b o n1 (by rw [upd_ne n1, upd_ne (ne_of_none e ndx)]; exact e)
    obtain ⟨dx1, g1, _⟩ := id R1
    have hF' : Flat (((m + 1 : Nat) : Int) - 1) L := by
      have e : ((m + 1 : Nat) : Int) - 1 = (m : Int) := by omega
      rw [e]; exact hF
    refine ⟨_, rfl, x, dx1, _, rfl, g1, rdf_no _ _ (by decide +kernel) (by decide +kernel), x, L, L, L.length + 1, rfl, R1, hF', hL, Nat.lt_succ_self _, ?_⟩
    have hw := scan_whole (m := m) hF
    have sx : ∀ H', But x H1 H' → Same H H' := fun H' b2 b o e => b2 b o (ne_of_none e nx) (s1 b o e)
    cases hs : scan false 0 [] L with
    | some y =>
      rw [hs] at hw k
      dsimp only at hw k
      rcases hw with hw | ⟨es, c, r, hw, rfl⟩
      · rw [hw]
        exact fun d H' e1 e2 => k d H' e1 (sx H' e2)
      · rw [hw]
        intro v H2 b2 R2 hv
        obtain ⟨dx2, g2, a2, eL2⟩ := id R2
        refine ⟨_, rfl, x, _, dx2, _, _, rfl, g2, T.c_Reader, T.A_Reader_spot, rdf_spot _ _, _, rfl, _, rfl, sz1 (by rw [S_len]; omega), _, _, rfl, rfl, _, rfl, ?_⟩
        refine ite2 (fun c1 => ?_) (fun c1 => ?_)
        · refine ⟨_, rfl, x, _, dx2, _, _, rfl, g2, T.c_Reader, T.A_Reader_spot, rdf_spot _ _, rfl, ⟨_, rfl, by omega, by omega⟩, (fun z => nomatch z), fun _ d hd => ?_⟩
          exact k d _ upd_same ((sx H2 b2).trans (same_new hd))
        · refine absurd (decide_eq_true ?_) c1
          rw [S_len]
          have : L.length = a2.length + (c :: r).length := by rw [eL2, List.length_append]
          rw [List.length_cons] at this ⊢
          omega
    | none =>
      rw [hs] at hw k
      obtain ⟨es, hw, htx, hdep⟩ := hw
      rw [hw]
      intro v H2 b2 R2 hv
      obtain ⟨dx2, g2, a2, eL2⟩ := id R2
      refine ⟨_, rfl, x, _, dx2, _, _, rfl, g2, T.c_Reader, T.A_Reader_spot, rdf_spot _ _, _, rfl, _, rfl, sz1 (by rw [S_len]; omega), _, _, rfl, rfl, _, rfl, ?_⟩
      refine ite2 (fun c1 => ?_) (fun c1 => ?_)
      · have := of_decide_eq_true c1
        rw [S_len] at this
        simp at this
      · refine ⟨_, rfl, k v H2 (ofEs es) (sx H2 b2) ?_ rfl hdep htx⟩
        rw [D_ofEs hw]
        exact hv
end
end Toy


namespace Toy
open PySem L2 Cw
section
variable {P : Program} {w : World} {K : PySem.W.Frag} {mg : Str → Option Value} {base : Heap}
open Cw
def spIsName (K : PySem.W.Frag) : Sp := fun vs H Q _ => ∃ (v : V) (u : U) (r : Addr), vs = [v] ∧ An K r H v u ∧ Q (.bl u.nm) H
theorem inV_nmS (x : Str) : inV (.str x) [.str "a", .str "b", .str "c"] = (codeS x).isSome := by
  rw [S_a, S_b, S_c]
  unfold codeS
  show (decide (S [97] = x) || (decide (S [98] = x) || (decide (S [99] = x) || false))) = _
  by_cases h1 : x = S [97]
  · rw [if_pos h1, h1]; simp
  · rw [if_neg h1, decide_eq_false (Ne.symm h1)]
    by_cases h2 : x = S [98]
    · rw [if_pos h2, h2]; simp
    · rw [if_neg h2, decide_eq_false (Ne.symm h2)]
      by_cases h3 : x = S [99]
      · rw [if_pos h3, h3]; simp
      · rw [if_neg h3, decide_eq_false (Ne.symm h3)]; rfl
theorem ok_is_name (T : Tx P K mg) : FnOk P w K mg base CX0 1 T.f_is_name T.d_is_name ["value"] (spIsName K) := by
  refine T.F_is_name.ok sc_is_name (fun vs H Q E h => ?_) (fun cdv A outer s H vs Q E hr h => ?_)
  · obtain ⟨v, u, r, rfl, _⟩ := h
    rfl
  · obtain ⟨v, u, r, rfl, him, k⟩ := h
    refine ⟨_, (pss_one (ps_ret (pe_and (pe_callB call_isi (by rfl) T.n_isinstance (by decide +kernel) (pa_cons (pv 0) (pa_cons (pe_bltn (v := .ty "str") (by rfl) T.n_str (by decide +kernel) rfl) pa_nil))) (pe_one (pe_cmpR op_in_seq (pv 0) (pe_glob (v := .ref T.a_NAMES) rfl T.m_NAMES rfl) (by rfl)))))), ?_⟩
    refine ⟨_, rfl, ?_⟩
    obtain ⟨t1, y1, z1⟩ := isiS him
    refine ⟨_, _, t1, _, _, rfl, .ty _, y1, z1, _, rfl, ?_⟩
    cases u with
    | str x =>
      cases him.strI
      refine iteT ?_
      refine ⟨_, rfl, T.a_NAMES, _, rfl, .inr (T.c_NAMES _), rfl, rfl, ?_⟩
      show Q (.bl (inV (.str x) [.str "a", .str "b", .str "c"])) _
      rw [inV_nmS]
      exact k
    | tup l => exact iteF k
    | oth => exact iteF k
def spIsThing (K : PySem.W.Frag) : Sp := fun vs H Q _ => ∃ (v : V) (u : U) (r : Addr), vs = [v] ∧ An K r H v u ∧ Q (.bl u.okT) H
theorem ok_is_thing (T : Tx P K mg) : FnOk P w K mg base CX0 1 T.f_is_thing T.d_is_thing ["value"] (spIsThing K) := by
  refine T.F_is_thing.ok sc_is_thing (fun vs H Q E h => ?_) (fun cdv A outer s H vs Q E hr h => ?_)
  · obtain ⟨v, u, r, rfl, _⟩ := h
    rfl
  · obtain ⟨v, u, r, rfl, him, k⟩ := h
    refine ⟨_, (pss_one (ps_ret (pe_or (pe_callB call_isi (by rfl) T.n_isinstance (by decide +kernel) (pa_cons (pv 0) (pa_cons (pe_bltn (v := .ty "tuple") (by rfl) T.n_tuple (by decide +kernel) rfl) pa_nil))) (pe_one (pe_and (pe_callB call_isi (by rfl) T.n_isinstance (by decide +kernel) (pa_cons (pv 0) (pa_cons (pe_bltn (v := .ty "str") (by rfl) T.n_str (by decide +kernel) rfl) pa_nil))) (pe_one (pe_cmpR op_eq (pv 0) (pe_glob (v := .str "file") rfl T.m_FILE ⟨_, rfl⟩) (nomark _)))))))), ?_⟩
    refine ⟨_, rfl, ?_⟩
    obtain ⟨t1, y1, z1⟩ := isiT him
    refine ⟨_, _, t1, _, _, rfl, .ty _, y1, z1, _, rfl, ?_⟩
    cases u with
    | tup l => exact iteT k
    | str x =>
      cases him.strI
      refine iteF ?_
      obtain ⟨t1, y1, z1⟩ := isiS him
      refine ⟨_, rfl, _, _, t1, _, _, rfl, .ty _, y1, z1, _, rfl, iteT ?_⟩
      refine ⟨_, rfl, rfl, ?_⟩
      have e : decide ((V.str x) = V.str "file") = decide (x = "file") := by
        by_cases h : x = "file"
        · rw [h]; simp
        · rw [decide_eq_false h]; exact decide_eq_false fun z => h (by injection z)
      show Q (.bl (decide ((V.str x) = V.str "file"))) _
      rw [e]
      exact k
    | oth =>
      refine iteF ?_
      obtain ⟨t1, y1, z1⟩ := isiS him
      exact ⟨_, rfl, _, _, t1, _, _, rfl, .ty _, y1, z1, _, rfl, iteF k⟩
def _root_.Cw.U.okF : U → Bool
  | .tup es => (okC 0 es).isSome
  | _ => false
def nT (n : Nat) : List Nat := if n = 0 then [] else [n]
theorem le_nT {last c : Nat} (hc : c ≠ 0) : (!decide ((S (nT last)).cps.toList < (S [c]).cps.toList)) = decide (c ≤ last) := by
  rw [S_list, S_list]
  unfold nT
  split
  · rename_i z
    have e1 : decide (([] : List Nat) < [c]) = true := by simp
    rw [e1, decide_eq_false (by omega)]
    rfl
  · rw [lt_one]
    by_cases h : last < c
    · rw [decide_eq_true h, decide_eq_false (by omega)]; rfl
    · rw [decide_eq_false h, decide_eq_true (by omega)]; rfl
def spIsContent (K : PySem.W.Frag) : Sp := fun vs H Q _ => ∃ (v : V) (u : U) (r : Addr), vs = [v] ∧ An K r H v u ∧ ∀ H', Same H H' → Q (.bl u.okF) H'
/-- an entry looked at -/
inductive EnS (last : Nat) : U → Prop
  | tup {l : List U} : EnS last (.tup l)
theorem ent_len {last : Nat} {l : List U} (h : l.length ≠ 2) : (U.tup l).ent last = none := by
  match l, h with
  | [], _ => rfl
  | [a], _ => cases a <;> rfl
  | [a, b], h => exact absurd rfl h
  | a :: b :: c :: r, _ => cases a <;> rfl
theorem ent_nm {last : Nat} {a b : U} (h : a.nm = false) : (U.tup [a, b]).ent last = none := by
  cases a with
  | str x =>
    have h : (codeS x).isSome = false := h
    have : codeS x = none := by cases e : codeS x with
      | none => rfl
      | some c => rw [e] at h; cases h
    simp [U.ent, this]
  | tup l => rfl
  | oth => rfl
theorem ok_is_content (T : Tx P K mg) : FnOk P w K mg base CX0 2 T.f_is_content T.d_is_content ["value"] (spIsContent K) := by
  refine T.F_is_content.ok sc_is_content (fun vs H Q E h => ?_) (fun cdv A outer s H vs Q E hr h => ?_)
  · obtain ⟨v, u, r, rfl, _⟩ := h
    rfl
  · obtain ⟨v, u, r, rfl, him, k⟩ := h
    refine ⟨_, (pss_cons (ps_if (pt_not (pt_val (pe_callB call_isi (by rfl) T.n_isinstance (by decide +kernel) (pa_cons (pv 0) (pa_cons (pe_bltn (v := .ty "tuple") (by rfl) T.n_tuple (by decide +kernel) rfl) pa_nil)))))
  (pss_one (ps_ret pe_bl))
  pss_nil)
  (pss_cons (ps_set (i := 1) sc_is_content.nd rfl (Or.inl rfl) pe_str)
  (pss_cons (ps_for PassesOwn.never rfl (pi_tup (pv 0)) (pg_name (i := 2) sc_is_content.nd rfl (Or.inl rfl))
  (pss_cons (ps_if (PW.pt (pw_or (pt_not (pt_val (pe_callB call_isi (by rfl) T.n_isinstance (by decide +kernel) (pa_cons (pv 2) (pa_cons (pe_bltn (v := .ty "tuple") (by rfl) T.n_tuple (by decide +kernel) rfl) pa_nil))))) (pw_or (pt_cmpR op_ne (pe_callB call_len_seq (by rfl) T.n_len PySem.boot_len (pa_cons (pv 2) pa_nil)) pe_int (nomark _)) (pw_or (pt_not (pt_val (pe_call (ok_is_name T) (hr.mono (by decide)) rfl T.m_is_name T.F_is_name.kp T.b_is_name .nil pass0 (pa_cons (pe_ix ix_tup (pv 2) pe_int (fun _ _ => rfl)) pa_nil)))) (pw_or1 (pt_not (pt_val (pe_call (ok_is_thing T) (hr.mono (by decide)) rfl T.m_is_thing T.F_is_thing.kp T.b_is_thing .nil pass0 (pa_cons (pe_ix ix_tup (pv 2) pe_int (fun _ _ => rfl)) pa_nil)))))))))
  (pss_one (ps_ret pe_bl))
  pss_nil)
  (pss_cons (ps_if (pt_cmpR op_le_str (pe_ix ix_tup (pv 2) pe_int (fun _ _ => rfl)) (pv 1) (nomark _))
  (pss_one (ps_ret pe_bl))
  pss_nil)
  (pss_one (ps_set (i := 1) sc_is_content.nd rfl (Or.inl rfl) (pe_ix ix_tup (pv 2) pe_int (fun _ _ => rfl)))))))
  (pss_one (ps_ret pe_bl))))), ?_⟩
    refine ⟨_, rfl, ?_⟩
    obtain ⟨t1, y1, z1⟩ := isiT him
    refine ⟨_, _, t1, _, _, rfl, .ty _, y1, z1, _, rfl, ?_⟩
    have nt : u.isTup = false → u.okF = false := fun h => by cases u <;> first | rfl | cases h
    cases hu : u.isTup with
    | false =>
      refine iteT ?_
      rw [nt hu] at k
      exact k _ (Same.refl _)
    | true =>
      refine iteF ?_
      obtain ⟨es, rfl⟩ : ∃ es, u = .tup es := by cases u <;> first | exact ⟨_, rfl⟩ | cases hu
      obtain ⟨a, xs, rfl, hS, hx⟩ := him.tupI
      refine ⟨_, rfl, a, rfl, ⟨_, hS⟩, for_tup (K := K) (a := a) (xs := xs) (fun i σ H' => ∃ last ev, σ = [some (.ref a), some (.str (S (nT last))), ev] ∧ (okC 0 es).isSome = (okC last (es.drop i)).isSome ∧ Same H H')
        ⟨0, none, by show _ = [_, some (V.str (S [])), _]; rw [← S_nil]; rfl, rfl, Same.refl _⟩ (fun i σ H' _ ⟨_, _, _, _, e⟩ => e.tup hS) ?_ ?_⟩
      · rintro i x σ H' hi ⟨last, ev, rfl, hl, e⟩
        obtain ⟨d, hd1, hd2⟩ := (hx.same e).get hi
        have hdr : es.drop i = d :: es.drop (i + 1) := by
          rw [List.drop_eq_getElem?_toList_append, hd1]; rfl
        rw [hdr] at hl
        simp only [okC] at hl
        have bad : d.ent last = none → ∀ H2, Same H' H2 → Q (.bl false) H2 := fun h H2 e2 => by
          rw [h] at hl
          have k' := k H2 (e.trans e2)
          have : (U.tup es).okF = false := hl
          rw [this] at k'
          exact k'
        obtain ⟨t1, y1, z1⟩ := isiT hd2
        refine ⟨_, rfl, _, _, t1, _, _, rfl, .ty _, y1, z1, _, rfl, ?_⟩
        cases d with
        | oth => exact iteT (iteT (bad rfl _ (Same.refl _)))
        | str x => exact iteT (iteT (bad rfl _ (Same.refl _)))
        | tup l =>
          refine iteF ?_
          obtain ⟨q, ys, rfl, hq, hys⟩ := hd2.tupI
          have hyl := hys.len
          refine ⟨_, rfl, q, ys, rfl, .inr hq, rfl, _, rfl, ?_⟩
          by_cases h2 : l.length = 2
          · obtain ⟨a1, b1, rfl⟩ : ∃ a b, l = [a, b] := by
              match l, h2 with
              | [a, b], _ => exact ⟨a, b, rfl⟩
            obtain ⟨v1, v2, rfl, g1, g2⟩ := hys.two
            refine iteF ?_
            refine ⟨_, rfl, q, _, _, _, rfl, rfl, hq, at_of (j := 0) rfl rfl, v1, a1, r, rfl, g1, _, rfl, ?_⟩
            cases hn : a1.nm with
            | false => exact iteT (iteT (bad (ent_nm hn) _ (Same.refl _)))
            | true =>
              refine iteF ?_
              obtain ⟨x, rfl⟩ : ∃ x, a1 = .str x := by cases a1 <;> first | exact ⟨_, rfl⟩ | cases hn
              cases g1.strI
              obtain ⟨c, hc⟩ : ∃ c, codeS x = some c := Option.isSome_iff_exists.mp hn
              obtain ⟨rfl, hc3⟩ := codeS_some hc
              refine ⟨_, rfl, q, _, _, _, rfl, rfl, hq, at_of (j := 1) rfl rfl, v2, b1, r, rfl, g2, _, rfl, ?_⟩
              have he : (U.tup [.str (S [c]), b1]).ent last = if b1.okT = true ∧ last < c then some (c, b1) else none := by
                simp only [U.ent, hc]
              cases hb : b1.okT with
              | false => exact iteT (bad (by rw [he, hb]; simp) _ (Same.refl _))
              | true =>
                refine iteF ?_
                refine ⟨_, rfl, q, _, _, _, rfl, rfl, hq, at_of (j := 0) rfl rfl, _, rfl, _, _, rfl, rfl, _, rfl, ?_⟩
                show (if (!decide ((S (nT last)).cps.toList < (S [c]).cps.toList)) = true then _ else _)
                rw [le_nT (by omega)]
                refine ite2 (fun h3 => ?_) (fun h3 => ?_)
                · have := of_decide_eq_true h3
                  exact bad (by rw [he, if_neg (by omega)]) _ (Same.refl _)
                · have h3 : last < c := by have : ¬ c ≤ last := fun z => h3 (decide_eq_true z); omega
                  refine ⟨_, rfl, q, _, _, _, rfl, rfl, hq, at_of (j := 0) rfl rfl, ?_⟩
                  refine ⟨c, some (.ref q), ?_, ?_, e⟩
                  · have : nT c = [c] := by unfold nT; rw [if_neg (by omega)]
                    rw [this]; rfl
                  · rw [hl, he, if_pos ⟨hb, h3⟩]
                    dsimp only
                    cases okC c (es.drop (i + 1)) <;> rfl
          · rw [show decide (V.int (ys.length : Int) = V.int 2) = false from decide_eq_false fun z => by
              injection z with z
              omega]
            exact iteT (iteT (bad (ent_len h2) _ (Same.refl _)))
      · rintro σ H' ⟨last, ev, rfl, hl, e⟩
        have hlen := hx.len
        rw [hlen, List.drop_length] at hl
        have k' := k H' e
        show Q (.bl true) H'
        have : (U.tup es).okF = true := hl
        rw [this] at k'
        exact k'
end
end Toy


namespace Toy
open PySem L2 Cw
/-- a path: a small tuple of names -/
def SqP (K : PySem.W.Frag) (H : Hp) (a : Addr) (p : List Nat) : Prop := SqT K H a (p.map fun c => V.str (S [c]))
def okP (K : PySem.W.Frag) : List V → Hp → Prop := fun vs H => ∃ (a : Addr) (p : List Nat), vs = [.ref a] ∧ SqP K H a p ∧ p.length ≤ 100 ∧ ∀ c ∈ p, c = 97 ∨ c = 98 ∨ c = 99
section
variable {P : Program} {w : World} {K : PySem.W.Frag} {mg : Str → Option Value} {base : Heap}
open Cw
theorem cost_p : ∀ p : List Nat, fmtCost (p.map fun c => S [c]) = 14 * p.length
  | [] => rfl
  | c :: p => by
    rw [List.map_cons, fmtCost_cons, cost_p p, S_len]
    simp only [List.length_cons, List.length_nil]
    omega
theorem so_BadTree (T : Tx P K mg) : ∃ M p0 p1 p2 p3 p4 q1 q2 q3 q4, defBody s_BadTree_init = [supS M p0 p1 p2 p3 p4, stS "path" q1 q2 q3 q4] ∧ SupOk P M "BadTree.__init__" (defScope s_BadTree_init) T.f_BadTree_init T.cd_BadTree T.cc_BadTree p0 p1 p2 p3 p4 ∧
    (∀ (m : Str → Option Value) (h0 : Heap) (a : Addr) (o : Obj) (its : List Value) (p : List Nat) (k : Nat), m "path" = some (.ref a) → h0.get? a = some o → o.cls = .type "tuple" → o.data = .seq its.toArray k → Vals ((p.map fun c => S [c]).map V.str) its → p.length ≤ 100 → (∀ c ∈ p, c = 97 ∨ c = 98 ∨ c = 99) →
      Msg P w M "BadTree.__init__" (defScope s_BadTree_init) T.f_BadTree_init T.cd_BadTree T.cc_BadTree m h0) ∧
    (∀ L, swapsWith (.Name "path" q3) (some (.Attribute (.Name "self" q1) "path" q2)) q4.line (PySem.W.ksEnv "BadTree.__init__" (defScope s_BadTree_init) L T.f_BadTree_init (.ref T.cd_BadTree) T.cc_BadTree) = pure false) := by
  refine ⟨_, _, _, _, _, _, _, _, _, _, rfl, ⟨rfl, rfl, rfl, rfl, rfl, T.tp_BadTree, by decide +kernel, fun L => ⟨_, rfl⟩, fun L => rfl⟩, fun m h0 a o its p k hm h1 h2 h3 h4 h5 h6 => ?_, fun L => rfl⟩
  refine msg_join (n := 2000) (fun e he => ?_) (by decide)
  rcases List.mem_cons.mp he with rfl | he
  · exact part_const (by decide +kernel)
  rcases List.mem_cons.mp he with rfl | he
  · refine part_reprT rfl rfl (by decide +kernel) hm h1 h2 h3 h4 ?_ (by rw [cost_p]; omega) (by decide)
    intro y hy c hc
    obtain ⟨d, hd, rfl⟩ := List.mem_map.mp hy
    rw [S_list, List.mem_singleton] at hc
    subst hc
    rcases h6 _ hd with rfl | rfl | rfl <;> decide
  rcases List.mem_cons.mp he with rfl | he
  · exact part_const (by decide +kernel)
  · cases he
theorem xc_BadTree (T : Tx P K mg) : XCls P w K mg base T.C_BadTree T.f_BadTree_init ["path"] (okP K) := by
  intro A s us vs H hr hok Mo kb r hn hok2
  obtain ⟨a, p, rfl, h1, h2, h3⟩ := hok2
  obtain ⟨u, rfl, ru⟩ := vals1 r
  cases ru
  obtain ⟨M, p0, p1, p2, p3, p4, q1, q2, q3, q4, eb, so, hm, hsw⟩ := so_BadTree (w := w) T
  have X := T.X_BadTree
  rw [eb] at X
  have tup : ∃ (o : Obj) (its : List Value) (n : Nat), s.heap.get? a = some o ∧ o.cls = .type "tuple" ∧ o.data = .seq its.toArray n ∧ Vals (p.map fun c => V.str (S [c])) its := by
    rcases h1 with (h1 | ⟨ob, h1⟩) | ⟨o, its, n, e1, e2, e3, _, e5⟩
    · obtain ⟨_, its, rv, o, g1, g2, n, g3⟩ := (show ObjOk P w H s.heap a (.tup _) from hok a _ h1)
      exact ⟨o, its, n, g1, g2, g3, rv⟩
    · obtain ⟨_, _, its, rv, o, g1, g2, n, g3⟩ := (show ObjOk P w H s.heap a (.frz ob (.tup _)) from hok a _ h1)
      exact ⟨o, its, n, g1, g2, g3, rv⟩
    · exact ⟨o, its.toList, n, kb _ _ (Mo.kin _ _ e1), e2, by rw [e3, Array.toArray_toList], e5⟩
  obtain ⟨o, its, n, g1, g2, g3, rv⟩ := tup
  refine hinit1 X so Mo kb hr rfl rfl rfl rfl (by decide +kernel) (by decide +kernel) T.A_BadTree_path (fun x kV doc pm an ct s => .of_eq rfl) hsw (fun x h1' k => ?_)
  exact hm _ _ a o its p n (by simp [List.lookup]) (k _ _ g1) g2 g3 (by rw [List.map_map]; exact rv) h2 h3
def spCheck (K : PySem.W.Frag) (CE : Addr) (n : Nat) : Sp := fun vs H Q E => ∃ (v : V) (u : U) (r pa : Addr) (p : List Nat), vs = [v, .ref pa] ∧ 1 ≤ n ∧ An K r H v u ∧ Sh n u ∧ SqP K H pa p ∧ p.length + n ≤ 40 ∧ (∀ c ∈ p, c = 97 ∨ c = 98 ∨ c = 99) ∧
  (match fault n p u with
  | some q => ∀ d pb H', H' d = some (.xd [("path", .ref pb)]) → SqP K H' pb q → Same H H' → E (.ref CE) (some d) H'
  | none => ∀ H', Same H H' → Q .non H')
theorem ok_check_n {n : Nat} (T : Tx P K mg) (G : FnOk P w K mg base (L2.CX P w) (n + 3) T.f_check_folder T.d_check_folder ["value", "path"] (spCheck K T.C_BadTree n)) :
    FnOk P w K mg base (L2.CX P w) (n + 4) T.f_check_folder T.d_check_folder ["value", "path"] (spCheck K T.C_BadTree (n + 1)) := by
  refine T.F_check_folder.okX sc_check_folder (fun vs H Q E h => ?_) (fun cdv A outer s H vs Q E hr h => ?_)
  · obtain ⟨v, u, r, pa, p, rfl, _⟩ := h
    rfl
  · obtain ⟨v, u, r, pa, p, rfl, _, him, hs, hp, hpl, hpc, k⟩ := h
    have hr2 : Room 2 _ := hr.mono (by omega)
    refine ⟨_, (pss_cons (ps_if (pt_not (pt_val (pe_call (ok_is_content T) hr2 rfl T.m_is_content T.F_is_content.kp T.b_is_content .nil pass0 (pa_cons (pv 0) pa_nil))))
  (pss_one (ps_raise rfl (takes_of rfl rfl rfl rfl) (pmk_x T.X_BadTree (xc_BadTree T) (by decide) hr2 T.m_BadTree rfl (pa_cons (pv 1) pa_nil))))
  pss_nil)
  (pss_one (ps_for (passes_of rfl) rfl (pi_tup (pv 0)) (pg_tup rfl (pgs_cons (pg_name (i := 2) sc_check_folder.nd rfl (Or.inl rfl)) (pgs_cons (pg_name (i := 3) sc_check_folder.nd rfl (Or.inl rfl)) pgs_nil)))
  (pss_one (ps_if (pt_val (pe_callB call_isi (by rfl) T.n_isinstance (by decide +kernel) (pa_cons (pv 3) (pa_cons (pe_bltn (v := .ty "tuple") (by rfl) T.n_tuple (by decide +kernel) rfl) pa_nil))))
  (pss_one (ps_expr (pe_call G hr rfl T.m_check_folder T.F_check_folder.kp T.b_check_folder .nil (passes_call (takes_of rfl rfl rfl rfl) (fun _ _ _ _ h => h)) (pa_cons (pv 3) (pa_cons (pe_tup (StX.pa_star (pv 1) (pa_cons (pv 2) pa_nil))) pa_nil)))))
  pss_nil))))), ?_⟩
    refine ⟨_, rfl, v, u, r, rfl, him, fun H1 e1 => ⟨_, rfl, ?_⟩⟩
    have hp1 : SqP K H1 pa p := e1.tup hp
    have bad : fault (n + 1) p u = some p → ∀ d, H1 d = none → E (.ref T.C_BadTree) (some d) (upd H1 d (.xd [("path", .ref pa)])) := fun h d hd => by
      rw [h] at k
      have s2 := same_new (o := .xd [("path", .ref pa)]) hd
      exact k d pa _ upd_same (s2.tup hp1) (e1.trans s2)
    cases hu : u.okF with
    | false =>
      refine iteT ?_
      have hf : fault (n + 1) p u = some p := by
        cases u with
        | tup es =>
          have hu : (okC 0 es).isSome = false := hu
          simp only [fault]
          cases e : okC 0 es with
          | none => rfl
          | some l => rw [e] at hu; cases hu
        | str x => rfl
        | oth => rfl
      refine ⟨_, rfl, rfl, ⟨pa, p, rfl, hp1, by omega, hpc⟩, (fun z => nomatch z), fun _ d hd => ?_⟩
      exact bad hf d hd
    | true =>
      refine iteF ?_
      obtain ⟨es, rfl⟩ : ∃ es, u = .tup es := by cases u <;> first | exact ⟨_, rfl⟩ | cases hu
      obtain ⟨l, hl⟩ : ∃ l, okC 0 es = some l := Option.isSome_iff_exists.mp hu
      obtain ⟨hes, hlc, _⟩ := okC_some hl
      have hfl : fault (n + 1) p (.tup es) = faults (fault n) p l := by simp only [fault]; rw [hl]
      rw [hfl] at k
      obtain ⟨a, xs, rfl, hS, hx⟩ := him.tupI
      refine ⟨_, rfl, a, rfl, ⟨_, e1.tup hS⟩, for_tup (K := K) (a := a) (xs := xs) (fun i σ H' => ∃ v2 v3, σ = [some (.ref a), some (.ref pa), v2, v3] ∧ faults (fault n) p l = faults (fault n) p (l.drop i) ∧ Same H H')
        ⟨none, none, rfl, rfl, e1⟩ (fun i σ H' _ ⟨_, _, _, _, e⟩ => e.tup hS) ?_ ?_⟩
      · rintro i x σ H' hi ⟨v2, v3, rfl, hi2, e⟩
        obtain ⟨d, hd1, hd2⟩ := (hx.same e).get hi
        rw [hes, List.getElem?_map] at hd1
        obtain ⟨⟨c, t⟩, hct, rfl⟩ := Option.map_eq_some_iff.mp hd1
        obtain ⟨hc3, htk, _⟩ := hlc _ (List.mem_of_getElem? hct)
        dsimp only at hc3 htk hd2
        have hdr : l.drop i = (c, t) :: l.drop (i + 1) := by
          rw [List.drop_eq_getElem?_toList_append, hct]; rfl
        rw [hdr] at hi2
        simp only [faults] at hi2
        obtain ⟨q, ys, rfl, hq, hys⟩ := hd2.tupI
        obtain ⟨x1, y1, rfl, g1, g2⟩ := hys.two
        cases g1.strI
        have hsh : Sh n t := hs _ _ (by rw [hes]; exact List.mem_map.mpr ⟨_, List.mem_of_getElem? hct, rfl⟩)
        refine ⟨q, _, rfl, hq, rfl, _, _, rfl, _, _, rfl, rfl, ?_⟩
        obtain ⟨t1, z1, z2⟩ := isiT g2
        refine ⟨_, rfl, _, _, t1, _, _, rfl, .ty _, z1, z2, _, rfl, ?_⟩
        cases ht : t.isTup with
        | false =>
          refine iteF ?_
          rw [ht] at hi2
          exact ⟨_, _, rfl, hi2, e⟩
        | true =>
          refine iteT ?_
          rw [ht, if_pos rfl] at hi2
          have hp2 : SqP K H' pa p := e.tup hp
          have n1 : 1 ≤ n := by
            cases n with
            | zero =>
              have hsh : t.isTup = false := hsh
              rw [ht] at hsh; cases hsh
            | succ n => omega
          refine ⟨_, rfl, _, rfl, pa, _, rfl, .inl hp2, _, rfl, sz1 (by rw [List.length_append, List.length_map, List.length_singleton]; omega), fun p2 hp2' => ?_⟩
          have s2 := same_new (o := .tup ((p.map fun c => V.str (S [c])) ++ [.str (S [c])])) hp2'
          have hsq : SqP K (upd H' p2 (.tup ((p.map fun c => V.str (S [c])) ++ [.str (S [c])]))) p2 (p ++ [c]) := by
            unfold SqP
            rw [List.map_append]
            exact .inl (.inl upd_same)
          refine ⟨y1, t, r, p2, p ++ [c], rfl, n1, g2.same s2, hsh, hsq, by rw [List.length_append, List.length_singleton]; omega, ?_, ?_⟩
          · intro z hz
            rcases List.mem_append.mp hz with hz | hz
            · exact hpc z hz
            · rw [List.mem_singleton.mp hz]; exact hc3
          · cases hf : fault n (p ++ [c]) t with
            | some q2 =>
              rw [hf] at hi2
              rw [hi2] at k
              exact fun d pb H2 f1 f2 f3 => k d pb H2 f1 f2 ((e.trans s2).trans f3)
            | none =>
              rw [hf] at hi2
              exact fun H2 f3 => ⟨_, _, rfl, hi2, (e.trans s2).trans f3⟩
      · rintro σ H' ⟨v2, v3, rfl, hi2, e⟩
        have hlen : xs.length = l.length := by rw [hx.len, hes, List.length_map]
        rw [hlen, List.drop_length] at hi2
        rw [hi2] at k
        exact k H' e
theorem ok_check_folder (T : Tx P K mg) : ∀ n : Nat, FnOk P w K mg base (L2.CX P w) (n + 3) T.f_check_folder T.d_check_folder ["value", "path"] (spCheck K T.C_BadTree n)
  | 0 => by
    have no : ∀ vs H Q E, ¬ spCheck K T.C_BadTree 0 vs H Q E := fun vs H Q E h => by
      obtain ⟨_, _, _, _, _, _, h1, _⟩ := h
      omega
    refine T.F_check_folder.okX sc_check_folder (fun vs H Q E h => absurd h (no _ _ _ _)) (fun cdv A outer s H vs Q E hr h => absurd h (no _ _ _ _))
  | n + 1 => ok_check_n T (ok_check_folder T n)
def spCheckT (K : PySem.W.Frag) (CE : Addr) (n : Nat) : Sp := fun vs H Q E => ∃ (v : V) (u : U) (r : Addr), vs = [v] ∧ 1 ≤ n ∧ n ≤ 40 ∧ An K r H v u ∧ Sh n u ∧
  (match fault n [] u with
  | some q => ∀ d pb H', H' d = some (.xd [("path", .ref pb)]) → SqP K H' pb q → Same H H' → E (.ref CE) (some d) H'
  | none => ∀ H', Same H H' → Q .non H')
theorem ok_check_tree (T : Tx P K mg) (n : Nat) : FnOk P w K mg base (L2.CX P w) (n + 4) T.f_check_tree T.d_check_tree ["value"] (spCheckT K T.C_BadTree n) := by
  refine T.F_check_tree.okX sc_check_tree (fun vs H Q E h => ?_) (fun cdv A outer s H vs Q E hr h => ?_)
  · obtain ⟨v, u, r, rfl, _⟩ := h
    rfl
  · obtain ⟨v, u, r, rfl, hn, hn2, him, hs, k⟩ := h
    refine ⟨_, (pss_one (ps_expr (pe_call (ok_check_folder T n) hr rfl T.m_check_folder T.F_check_folder.kp T.b_check_folder .nil (passes_call (takes_of rfl rfl rfl rfl) (fun _ _ _ _ h => h)) (pa_cons (pv 0) (pa_cons (pe_tup pa_nil) pa_nil))))), ?_⟩
    refine ⟨_, rfl, Nat.zero_le _, fun p0 hp0 => ?_⟩
    have s2 := same_new (o := .tup []) hp0
    refine ⟨v, u, r, p0, [], rfl, hn, him.same s2, hs, .inl (.inl upd_same), by simpa using hn2, by simp, ?_⟩
    cases hf : fault n [] u with
    | some q =>
      rw [hf] at k
      exact fun d pb H2 f1 f2 f3 => k d pb H2 f1 f2 (s2.trans f3)
    | none =>
      rw [hf] at k
      exact fun H2 f3 => k H2 (s2.trans f3)
end
end Toy


namespace Toy
open PySem L2 Cw
section
variable {P : Program} {w : World} {K : PySem.W.Frag} {mg : Str → Option Value} {base : Heap}
open Cw
theorem cat_p {H : Hp} {Q : VK} {pa b : Addr} {p : List Nat} {c : Nat} (h1 : SqP K H pa p) (h2 : SqT K H b [.str (S [c])]) (hp : p.length ≤ 100) (q : ∀ x H', SqP K H' x (p ++ [c]) → Same H H' → Q (.ref x) H') : rCatA K (.ref pa) (.ref b) H Q := by
  refine ⟨pa, b, _, _, rfl, rfl, h1, h2, sz1 (by rw [List.length_map, List.length_singleton]; omega), fun e => ?_, fun _ e => ?_, fun _ _ x hx => ?_⟩
  · have e : p = [] := by cases p with
      | nil => rfl
      | cons _ _ => cases e
    subst e
    exact q b H h2 (Same.refl _)
  · cases e
  · refine q x _ ?_ (same_new hx)
    unfold SqP
    rw [List.map_append]
    exact .inl (.inl upd_same)
def spEntry (K : PySem.W.Frag) : Sp := fun vs H Q _ => ∃ (v : V) (u : U) (r : Addr) (last : Nat), vs = [v, .str (S (nT last))] ∧ An K r H v u ∧ ∀ H', Same H H' → Q (.bl (u.ent last).isSome) H'
theorem ok_l_is_entry (T : Tx P K mg) : FnOk P w K mg base CX0 1 T.f_l_is_entry T.d_l_is_entry ["_law_entry", "_law_last"] (spEntry K) := by
  refine T.F_l_is_entry.ok sc_l_is_entry (fun vs H Q E h => ?_) (fun cdv A outer s H vs Q E hr h => ?_)
  · obtain ⟨v, u, r, last, rfl, _⟩ := h
    rfl
  · obtain ⟨v, u, r, last, rfl, him, k⟩ := h
    refine ⟨_, (pss_cons (ps_if (PW.pt (pw_or (pt_not (pt_val (pe_callB call_isi (by rfl) T.n_isinstance (by decide +kernel) (pa_cons (pv 0) (pa_cons (pe_bltn (v := .ty "tuple") (by rfl) T.n_tuple (by decide +kernel) rfl) pa_nil))))) (pw_or (pt_cmpR op_ne (pe_callB call_len_seq (by rfl) T.n_len PySem.boot_len (pa_cons (pv 0) pa_nil)) pe_int (nomark _)) (pw_or1 (pt_not (pt_val (pe_callB call_isi (by rfl) T.n_isinstance (by decide +kernel) (pa_cons (pe_ix ix_tup (pv 0) pe_int (fun _ _ => rfl)) (pa_cons (pe_bltn (v := .ty "str") (by rfl) T.n_str (by decide +kernel) rfl) pa_nil)))))))))
  (pss_one (ps_ret pe_bl))
  pss_nil)
  (pss_cons (ps_if (PW.pt (pw_or (pt_cmpR op_notIn_seq (pe_ix ix_tup (pv 0) pe_int (fun _ _ => rfl)) (pe_lst (pa_cons pe_str (pa_cons pe_str (pa_cons pe_str pa_nil)))) (by rfl)) (pw_or1 (pt_cmpR op_le_str (pe_ix ix_tup (pv 0) pe_int (fun _ _ => rfl)) (pv 1) (nomark _)))))
  (pss_one (ps_ret pe_bl))
  pss_nil)
  (pss_one (ps_ret (pe_or (pe_callB call_isi (by rfl) T.n_isinstance (by decide +kernel) (pa_cons (pe_ix ix_tup (pv 0) pe_int (fun _ _ => rfl)) (pa_cons (pe_bltn (v := .ty "tuple") (by rfl) T.n_tuple (by decide +kernel) rfl) pa_nil))) (pe_one (pe_and (pe_callB call_isi (by rfl) T.n_isinstance (by decide +kernel) (pa_cons (pe_ix ix_tup (pv 0) pe_int (fun _ _ => rfl)) (pa_cons (pe_bltn (v := .ty "str") (by rfl) T.n_str (by decide +kernel) rfl) pa_nil))) (pe_one (pe_cmpR op_eq (pe_ix ix_tup (pv 0) pe_int (fun _ _ => rfl)) pe_str (nomark _)))))))))), ?_⟩
    have bad : u.ent last = none → ∀ H', Same H H' → Q (.bl false) H' := fun h H' e => by
      have k' := k H' e
      rw [h] at k'
      exact k'
    obtain ⟨t1, y1, z1⟩ := isiT him
    refine ⟨_, rfl, _, _, t1, _, _, rfl, .ty _, y1, z1, _, rfl, ?_⟩
    cases u with
    | oth => exact iteT (iteT (bad rfl _ (Same.refl _)))
    | str x => exact iteT (iteT (bad rfl _ (Same.refl _)))
    | tup l =>
      refine iteF ?_
      obtain ⟨q, ys, rfl, hq, hys⟩ := him.tupI
      have hyl := hys.len
      refine ⟨_, rfl, q, ys, rfl, .inr hq, rfl, _, rfl, ?_⟩
      by_cases h2 : l.length = 2
      · obtain ⟨a1, b1, rfl⟩ : ∃ a b, l = [a, b] := by
          match l, h2 with
          | [a, b], _ => exact ⟨a, b, rfl⟩
        obtain ⟨v1, v2, rfl, g1, g2⟩ := hys.two
        refine iteF ?_
        obtain ⟨t2, y2, z2⟩ := isiS g1
        refine ⟨_, rfl, q, _, _, _, rfl, rfl, hq, at_of (j := 0) rfl rfl, _, _, t2, _, _, rfl, .ty _, y2, z2, _, rfl, ?_⟩
        cases a1 with
        | oth => exact iteT (bad rfl _ (Same.refl _))
        | tup l => exact iteT (bad rfl _ (Same.refl _))
        | str x =>
          cases g1.strI
          refine iteF ?_
          refine ⟨_, rfl, q, _, _, _, rfl, rfl, hq, at_of (j := 0) rfl rfl, (by show 3 ≤ sizeLine; decide), fun p hp => ?_⟩
          have s2 := same_new (o := .lst [.str "a", .str "b", .str "c"]) hp
          refine ⟨p, _, rfl, .inl (SqL.of upd_same), rfl, rfl, _, rfl, ?_⟩
          show (if (!inV (.str x) [.str "a", .str "b", .str "c"]) = true then _ else _)
          rw [inV_nmS]
          cases hc : codeS x with
          | none => exact iteT (iteT (bad (by simp only [U.ent, hc]) _ s2))
          | some c =>
            refine iteF ?_
            obtain ⟨rfl, hc3⟩ := codeS_some hc
            have he : (U.tup [.str (S [c]), b1]).ent last = if b1.okT = true ∧ last < c then some (c, b1) else none := by
              simp only [U.ent, hc]
            have hq2 := s2.tup hq
            refine ⟨_, rfl, q, _, _, _, rfl, rfl, hq2, at_of (j := 0) rfl rfl, _, rfl, _, _, rfl, rfl, _, rfl, ?_⟩
            show (if (!decide ((S (nT last)).cps.toList < (S [c]).cps.toList)) = true then _ else _)
            rw [le_nT (by omega)]
            refine ite2 (fun h3 => ?_) (fun h3 => ?_)
            · have := of_decide_eq_true h3
              exact bad (by rw [he, if_neg (by omega)]) _ s2
            · have h3 : last < c := by have : ¬ c ≤ last := fun z => h3 (decide_eq_true z); omega
              have k2 := k _ s2
              rw [he] at k2
              have hk : (if b1.okT = true ∧ last < c then some (c, b1) else none : Option (Nat × U)).isSome = b1.okT := by
                cases hb : b1.okT with
                | true => rw [if_pos ⟨rfl, h3⟩]; rfl
                | false => rw [if_neg (by simp)]; rfl
              rw [hk] at k2
              have g2' := g2.same s2
              obtain ⟨t3, y3, z3⟩ := isiT g2'
              refine ⟨_, rfl, q, _, _, _, rfl, rfl, hq2, at_of (j := 1) rfl rfl, _, _, t3, _, _, rfl, .ty _, y3, z3, _, rfl, ?_⟩
              cases b1 with
              | tup l => exact iteT k2
              | oth =>
                refine iteF ?_
                obtain ⟨t4, y4, z4⟩ := isiS g2'
                exact ⟨_, rfl, q, _, _, _, rfl, rfl, hq2, at_of (j := 1) rfl rfl, _, _, t4, _, _, rfl, .ty _, y4, z4, _, rfl, iteF k2⟩
              | str y =>
                refine iteF ?_
                cases g2.strI
                obtain ⟨t4, y4, z4⟩ := isiS g2'
                refine ⟨_, rfl, q, _, _, _, rfl, rfl, hq2, at_of (j := 1) rfl rfl, _, _, t4, _, _, rfl, .ty _, y4, z4, _, rfl, iteT ?_⟩
                refine ⟨_, rfl, q, _, _, _, rfl, rfl, hq2, at_of (j := 1) rfl rfl, rfl, ?_⟩
                have e : decide ((V.str y) = V.str "file") = decide (y = "file") := by
                  by_cases h : y = "file"
                  · rw [h]; simp
                  · rw [decide_eq_false h]; exact decide_eq_false fun z => h (by injection z)
                show Q (.bl (decide ((V.str y) = V.str "file"))) _
                rw [e]
                exact k2
      · rw [show decide (V.int (ys.length : Int) = V.int 2) = false from decide_eq_false fun z => by
          injection z with z
          omega]
        exact iteT (iteT (bad (ent_len h2) _ (Same.refl _)))
theorem shaped_p {p : List Nat} (h : ∀ c ∈ p, c = 97 ∨ c = 98 ∨ c = 99) : SeqAt.shaped (.list [.tuple (p.map fun c => PyData.str (S [c]))]) = true := by
  have l : ∀ q : List Nat, (∀ c ∈ q, c = 97 ∨ c = 98 ∨ c = 99) → PyData.canLayAll0 (q.map fun c => PyData.str (S [c])) = true ∧ PyData.depthAll (q.map fun c => PyData.str (S [c])) = 0 := by
    intro q
    induction q with
    | nil => intro _; exact ⟨rfl, rfl⟩
    | cons a r ih =>
      intro h
      obtain ⟨h1, h2⟩ := ih fun x hx => h x (List.mem_cons_of_mem _ hx)
      have ha := h a List.mem_cons_self
      have hs : PyData.canLay0 (.str (S [a])) = true := lay_str (fun c hc => by
        have := List.mem_singleton.mp hc; omega)
      refine ⟨?_, ?_⟩
      · show (PyData.canLay0 (.str (S [a])) && PyData.canLayAll0 (r.map fun c => PyData.str (S [c]))) = true
        rw [hs, h1]; rfl
      · show max (PyData.depth (.str (S [a]))) (PyData.depthAll (r.map fun c => PyData.str (S [c]))) = 0
        rw [h2]; rfl
  obtain ⟨h1, h2⟩ := l p h
  simp only [SeqAt.shaped, PyData.canLay0, PyData.canLayAll0, PyData.depth, PyData.depthAll, h1, h2]
  decide
theorem dp_p {H : Hp} {a : Addr} {p : List Nat} (h : SqP K H a p) : Dp K H (.ref a) (.tuple (p.map fun c => PyData.str (S [c]))) := by
  refine .tup h ?_
  induction p with
  | nil => exact .nil
  | cons c r ih => exact .cons (.str _) (by
      have : ∀ q : List Nat, DpAll K H (q.map fun c => V.str (S [c])) (q.map fun c => PyData.str (S [c])) := by
        intro q
        induction q with
        | nil => exact .nil
        | cons d r ih => exact .cons (.str _) ih
      exact this r)
def spFault (K : PySem.W.Frag) (n : Nat) : Sp := fun vs H Q _ => ∃ (v : V) (u : U) (r pa : Addr) (p : List Nat), vs = [v, .ref pa] ∧ 1 ≤ n ∧ An K r H v u ∧ Sh n u ∧ SqP K H pa p ∧ p.length + n ≤ 40 ∧ (∀ c ∈ p, c = 97 ∨ c = 98 ∨ c = 99) ∧
  (match fault n p u with
  | some q => ∀ l qa H', H' l = some (.lst [.ref qa]) → SqP K H' qa q → Same H H' → Q (.ref l) H'
  | none => ∀ l H', H' l = some (.lst []) → Same H H' → Q (.ref l) H')
theorem ok_l_fault_n {n : Nat} (T : Tx P K mg) (G : FnOk P w K mg base CX0 (n + 1) T.f_l_fault T.d_l_fault ["_law_value", "_law_path"] (spFault K n)) :
    FnOk P w K mg base CX0 (n + 2) T.f_l_fault T.d_l_fault ["_law_value", "_law_path"] (spFault K (n + 1)) := by
  refine T.F_l_fault.ok sc_l_fault (fun vs H Q E h => ?_) (fun cdv A outer s H vs Q E hr h => ?_)
  · obtain ⟨v, u, r, pa, p, rfl, _⟩ := h
    rfl
  · obtain ⟨v, u, r, pa, p, rfl, _, him, hs, hp, hpl, hpc, k⟩ := h
    have hr1 : Room 1 _ := hr.mono (by omega)
    refine ⟨_, (pss_cons (ps_if (pt_not (pt_val (pe_callB call_isi (by rfl) T.n_isinstance (by decide +kernel) (pa_cons (pv 0) (pa_cons (pe_bltn (v := .ty "tuple") (by rfl) T.n_tuple (by decide +kernel) rfl) pa_nil)))))
  (pss_one (ps_ret (pe_lst (pa_cons (pv 1) pa_nil))))
  pss_nil)
  (pss_cons (ps_set (i := 2) sc_l_fault.nd rfl (Or.inl rfl) pe_str)
  (pss_cons (ps_for PassesOwn.never rfl (pi_tup (pv 0)) (pg_name (i := 3) sc_l_fault.nd rfl (Or.inl rfl))
  (pss_cons (ps_if (pt_not (pt_val (pe_call (ok_l_is_entry T) hr1 rfl T.m_l_is_entry T.F_l_is_entry.kp T.b_l_is_entry .nil pass0 (pa_cons (pv 3) (pa_cons (pv 2) pa_nil)))))
  (pss_one (ps_ret (pe_lst (pa_cons (pv 1) pa_nil))))
  pss_nil)
  (pss_one (ps_set (i := 2) sc_l_fault.nd rfl (Or.inl rfl) (pe_ix ix_tup (pv 3) pe_int (fun _ _ => rfl))))))
  (pss_cons (ps_for PassesOwn.never rfl (pi_tup (pv 0)) (pg_name (i := 3) sc_l_fault.nd rfl (Or.inl rfl))
  (pss_one (ps_if (pt_val (pe_callB call_isi (by rfl) T.n_isinstance (by decide +kernel) (pa_cons (pe_ix ix_tup (pv 3) pe_int (fun _ _ => rfl)) (pa_cons (pe_bltn (v := .ty "tuple") (by rfl) T.n_tuple (by decide +kernel) rfl) pa_nil))))
  (pss_cons (ps_set (i := 4) sc_l_fault.nd rfl (Or.inl rfl) (pe_call G hr rfl T.m_l_fault T.F_l_fault.kp T.b_l_fault .nil pass0 (pa_cons (pe_ix ix_tup (pv 3) pe_int (fun _ _ => rfl)) (pa_cons (pe_op op_catA (pv 1) (pe_tup (pa_cons (pe_ix ix_tup (pv 3) pe_int (fun _ _ => rfl)) pa_nil))) pa_nil))))
  (pss_one (ps_if (pt_cmpR (op_neD hr.units) (pv 4) (pe_lst pa_nil) (nomark _))
  (pss_one (ps_ret (pv 4)))
  pss_nil)))
  pss_nil)))
  (pss_one (ps_ret (pe_lst pa_nil))))))), ?_⟩
    have bad : fault (n + 1) p u = some p → ∀ H1 l, Same H H1 → H1 l = none → Q (.ref l) (upd H1 l (.lst [.ref pa])) := fun h H1 l e hl => by
      rw [h] at k
      have s2 := same_new (o := .lst [.ref pa]) hl
      exact k l pa _ upd_same ((e.trans s2).tup hp) (e.trans s2)
    obtain ⟨t1, y1, z1⟩ := isiT him
    refine ⟨_, rfl, _, _, t1, _, _, rfl, .ty _, y1, z1, _, rfl, ?_⟩
    cases hu : u.isTup with
    | false =>
      refine iteT ?_
      refine ⟨_, rfl, (by show 1 ≤ sizeLine; decide), fun l hl => ?_⟩
      refine bad ?_ _ l (Same.refl _) hl
      cases u <;> first | rfl | cases hu
    | true =>
      refine iteF ?_
      obtain ⟨es, rfl⟩ : ∃ es, u = .tup es := by cases u <;> first | exact ⟨_, rfl⟩ | cases hu
      obtain ⟨a, xs, rfl, hS, hx⟩ := him.tupI
      refine ⟨_, rfl, a, rfl, ⟨_, hS⟩, for_tup (K := K) (a := a) (xs := xs) (fun i σ H' => ∃ last ev, σ = [some (.ref a), some (.ref pa), some (.str (S (nT last))), ev, none] ∧ (okC 0 es).isSome = (okC last (es.drop i)).isSome ∧ Same H H')
        ⟨0, none, by show _ = [_, _, some (V.str (S [])), _, _]; rw [← S_nil]; rfl, rfl, Same.refl _⟩ (fun i σ H' _ ⟨_, _, _, _, e⟩ => e.tup hS) ?_ ?_⟩
      · rintro i x σ H' hi ⟨last, ev, rfl, hl, e⟩
        obtain ⟨d, hd1, hd2⟩ := (hx.same e).get hi
        have hdr : es.drop i = d :: es.drop (i + 1) := by
          rw [List.drop_eq_getElem?_toList_append, hd1]; rfl
        rw [hdr] at hl
        simp only [okC] at hl
        refine ⟨_, rfl, _, rfl, x, d, r, last, rfl, hd2, fun H2 e2 => ⟨_, rfl, ?_⟩⟩
        cases he : d.ent last with
        | none =>
          refine iteT ?_
          rw [he] at hl
          refine ⟨_, rfl, (by show 1 ≤ sizeLine; decide), fun l hl' => ?_⟩
          refine bad ?_ _ l (e.trans e2) hl'
          simp only [fault]
          cases h : okC 0 es with
          | none => rfl
          | some l => rw [h] at hl; cases hl
        | some ct =>
          refine iteF ?_
          obtain ⟨c, t⟩ := ct
          obtain ⟨rfl, hc3, _, _⟩ := ent_some he
          obtain ⟨q, ys, rfl, hq, hys⟩ := (hd2.same e2).tupI
          obtain ⟨v1, v2, rfl, g1, g2⟩ := hys.two
          cases g1.strI
          refine ⟨_, rfl, q, _, _, _, rfl, rfl, hq, at_of (j := 0) rfl rfl, ?_⟩
          refine ⟨c, some (.ref q), ?_, ?_, e.trans e2⟩
          · have : nT c = [c] := by unfold nT; rw [if_neg (by omega)]
            rw [this]; rfl
          · rw [hl, he]
            dsimp only
            cases okC c (es.drop (i + 1)) <;> rfl
      · rintro σ H' ⟨last, ev, rfl, hl, e⟩
        have hlen := hx.len
        rw [hlen, List.drop_length] at hl
        obtain ⟨l, hl⟩ : ∃ l, okC 0 es = some l := Option.isSome_iff_exists.mp hl
        obtain ⟨hes, hlc, _⟩ := okC_some hl
        have hfl : fault (n + 1) p (.tup es) = faults (fault n) p l := by simp only [fault]; rw [hl]
        rw [hfl] at k
        refine ⟨_, rfl, a, rfl, ⟨_, e.tup hS⟩, for_tup (K := K) (a := a) (xs := xs) (fun i σ H' => ∃ v3 v4, σ = [some (.ref a), some (.ref pa), some (.str (S (nT last))), v3, v4] ∧ faults (fault n) p l = faults (fault n) p (l.drop i) ∧ Same H H')
          ⟨_, _, rfl, rfl, e⟩ (fun i σ H' _ ⟨_, _, _, _, e⟩ => e.tup hS) ?_ ?_⟩
        · rintro i x σ H' hi ⟨v3, v4, rfl, hi2, e⟩
          obtain ⟨d, hd1, hd2⟩ := (hx.same e).get hi
          rw [hes, List.getElem?_map] at hd1
          obtain ⟨⟨c, t⟩, hct, rfl⟩ := Option.map_eq_some_iff.mp hd1
          obtain ⟨hc3, htk, _⟩ := hlc _ (List.mem_of_getElem? hct)
          dsimp only at hc3 htk hd2
          have hdr : l.drop i = (c, t) :: l.drop (i + 1) := by
            rw [List.drop_eq_getElem?_toList_append, hct]; rfl
          rw [hdr] at hi2
          simp only [faults] at hi2
          obtain ⟨q, ys, rfl, hq, hys⟩ := hd2.tupI
          obtain ⟨x1, y1, rfl, g1, g2⟩ := hys.two
          cases g1.strI
          have hsh : Sh n t := hs _ _ (by rw [hes]; exact List.mem_map.mpr ⟨_, List.mem_of_getElem? hct, rfl⟩)
          obtain ⟨t1, z1, z2⟩ := isiT g2
          refine ⟨_, rfl, q, _, _, _, rfl, rfl, hq, at_of (j := 1) rfl rfl, _, _, t1, _, _, rfl, .ty _, z1, z2, _, rfl, ?_⟩
          cases ht : t.isTup with
          | false =>
            refine iteF ?_
            rw [ht] at hi2
            exact ⟨_, _, rfl, hi2, e⟩
          | true =>
            refine iteT ?_
            rw [ht, if_pos rfl] at hi2
            have n1 : 1 ≤ n := by
              cases n with
              | zero =>
                have hsh : t.isTup = false := hsh
                rw [ht] at hsh; cases hsh
              | succ n => omega
            refine ⟨_, rfl, q, _, _, _, rfl, rfl, hq, at_of (j := 1) rfl rfl, _, rfl, _, rfl, q, _, _, _, rfl, rfl, hq, at_of (j := 0) rfl rfl, (by show 1 ≤ sizeLine; decide), fun b hb => ?_⟩
            have s2 := same_new (o := .tup [.str (S [c])]) hb
            refine cat_p ((e.trans s2).tup hp) (.inl (.inl upd_same)) (by omega) fun p2 H3 hsq s3 => ?_
            have e3 := (e.trans s2).trans s3
            refine ⟨y1, t, r, p2, p ++ [c], rfl, n1, g2.same (s2.trans s3), hsh, hsq, by rw [List.length_append, List.length_singleton]; omega, ?_, ?_⟩
            · intro z hz
              rcases List.mem_append.mp hz with hz | hz
              · exact hpc z hz
              · rw [List.mem_singleton.mp hz]; exact hc3
            · cases hf : fault n (p ++ [c]) t with
              | some q2 =>
                rw [hf] at hi2
                rw [hi2] at k
                obtain ⟨r2, hr2, _, hrc⟩ := fault_mem n _ _ _ hf
                have hq2 : ∀ z ∈ q2, z = 97 ∨ z = 98 ∨ z = 99 := fun z hz => by
                  rw [hr2] at hz
                  rcases List.mem_append.mp hz with hz | hz
                  · rcases List.mem_append.mp hz with hz | hz
                    · exact hpc z hz
                    · rw [List.mem_singleton.mp hz]; exact hc3
                  · exact hrc z hz
                intro ll qa H4 f1 f2 f3
                refine ⟨_, rfl, Nat.zero_le _, fun b2 hb2 => ?_⟩
                have s4 := same_new (o := .lst []) hb2
                refine ⟨_, .list [], .lst (SqL.of (s4 _ _ f1)) (.cons (dp_p (s4.tup f2)) .nil), .lst (SqL.of upd_same) .nil, shaped_p hq2, by decide +kernel, _, rfl, ?_⟩
                refine iteT ?_
                exact ⟨_, rfl, k ll qa _ (s4 _ _ f1) (s4.tup f2) ((e3.trans f3).trans s4)⟩
              | none =>
                rw [hf] at hi2
                intro ll H4 f1 f3
                refine ⟨_, rfl, Nat.zero_le _, fun b2 hb2 => ?_⟩
                have s4 := same_new (o := .lst []) hb2
                refine ⟨.list [], .list [], .lst (SqL.of (s4 _ _ f1)) .nil, .lst (SqL.of upd_same) .nil, by decide +kernel, by decide +kernel, _, rfl, ?_⟩
                refine iteF ?_
                exact ⟨_, _, rfl, hi2, (e3.trans f3).trans s4⟩
        · rintro σ H' ⟨v3, v4, rfl, hi2, e⟩
          have hlen : xs.length = l.length := by rw [hx.len, hes, List.length_map]
          rw [hlen, List.drop_length] at hi2
          rw [hi2] at k
          exact ⟨Nat.zero_le _, fun b hb => k b _ upd_same (e.trans (same_new hb))⟩
theorem ok_l_fault (T : Tx P K mg) : ∀ n : Nat, FnOk P w K mg base CX0 (n + 1) T.f_l_fault T.d_l_fault ["_law_value", "_law_path"] (spFault K n)
  | 0 => by
    have no : ∀ vs H Q E, ¬ spFault K 0 vs H Q E := fun vs H Q E h => by
      obtain ⟨_, _, _, _, _, _, h1, _⟩ := h
      omega
    exact ⟨fun vs H Q E h => absurd h (no vs H Q E), fun A outer s H args us vs Q E _ _ _ _ h => absurd h (no vs H Q E)⟩
  | n + 1 => ok_l_fault_n T (ok_l_fault T n)
end
end Toy


namespace Toy
open PySem L2 Cw
section
variable {P : Program} {w : World} {K : PySem.W.Frag} {mg : Str → Option Value} {base : Heap}
open Cw
theorem imP {H : Hp} {a : Addr} {p : List Nat} (h : SqP K H a p) : Im K H (.ref a) (pathD p) := by
  refine .tup h ?_
  have : ∀ q : List Nat, Ims K H (q.map fun c => V.str (S [c])) (q.map fun c => PyData.str (S [c])) := by
    intro q
    induction q with
    | nil => exact .nil
    | cons d r ih => exact .cons (.str _) ih
  exact this p
def spSort (K : PySem.W.Frag) : Sp := fun vs H Q _ => ∃ (v : V) (u : Th), vs = [v] ∧ Im K H v u.D ∧ u ≠ .non ∧ u.dep ≤ 32 ∧ Q (.str (kindS u)) H
theorem ok_sort_of (T : Tx P K mg) : FnOk P w K mg base CX0 1 T.f_sort_of T.d_sort_of ["thing"] (spSort K) := by
  refine T.F_sort_of.ok sc_sort_of (fun vs H Q E h => ?_) (fun cdv A outer s H vs Q E hr h => ?_)
  · obtain ⟨v, u, rfl, _⟩ := h
    rfl
  · obtain ⟨v, u, rfl, him, hu, hd, k⟩ := h
    refine ⟨_, (pss_one (ps_ret (pe_ifExp (pt_cmpR (op_eqD hr.units) (pv 0) (pe_glob (v := .str "file") rfl T.m_FILE ⟨_, rfl⟩) (nomark _)) (pe_glob (v := .str "file") rfl T.m_FILE ⟨_, rfl⟩) (pe_glob (v := .str "folder") rfl T.m_FOLDER ⟨_, rfl⟩)))), ?_⟩
    refine ⟨_, rfl, _, _, him.dp, .str "file", shaped_D hd, shaped_file, _, rfl, ?_⟩
    rw [eqv_file u hu]
    unfold kindS at k
    by_cases c : u = .file
    · rw [decide_eq_true c]
      rw [if_pos c] at k
      exact k
    · rw [decide_eq_false c]
      rw [if_neg c] at k
      exact k
def spThings (K : PySem.W.Frag) (n : Nat) : Sp := fun vs H Q _ => ∃ (v : V) (t : Th) (pa : Addr) (p : List Nat), vs = [v, .ref pa] ∧ Im K H v t.D ∧ t.isDir = true ∧ t.dep ≤ n ∧ t.dep ≤ 30 ∧ t.tx.length ≤ 100000 ∧ SqP K H pa p ∧ p.length + n ≤ 60 ∧
  ∀ l H' xs, H' l = some (.lst xs) → Ims K H' xs ((pts p t).map rowD) → Same H H' → Q (.ref l) H'
theorem ok_things_in_n {n : Nat} (T : Tx P K mg) (G : FnOk P w K mg base CX0 (n + 1) T.f_things_in T.d_things_in ["tree", "path"] (spThings K n)) :
    FnOk P w K mg base CX0 (n + 2) T.f_things_in T.d_things_in ["tree", "path"] (spThings K (n + 1)) := by
  refine T.F_things_in.ok sc_things_in (fun vs H Q E h => ?_) (fun cdv A outer s H vs Q E hr h => ?_)
  · obtain ⟨v, t, pa, p, rfl, _⟩ := h
    rfl
  · obtain ⟨v, t, pa, p, rfl, him, hd, hn, h30, htx, hp, hpl, k⟩ := h
    have hr1 : Room 1 _ := hr.mono (by omega)
    refine ⟨_, (pss_cons (ps_set (i := 2) sc_things_in.nd rfl (Or.inl rfl) (pe_lst pa_nil))
  (pss_cons (ps_for PassesOwn.never rfl (pi_tup (pv 0)) (pg_tup rfl (pgs_cons (pg_name (i := 3) sc_things_in.nd rfl (Or.inl rfl)) (pgs_cons (pg_name (i := 4) sc_things_in.nd rfl (Or.inl rfl)) pgs_nil)))
  (pss_cons (ps_set (i := 5) sc_things_in.nd rfl (Or.inl rfl) (pe_tup (StX.pa_star (pv 1) (pa_cons (pv 3) pa_nil))))
  (pss_cons (ps_expr (pe_bm PySem.F.plainAttrs_list PySem.F.slot_list_append PySem.F.type_list_append mt_append (pv 2) (pa_cons (pe_tup (pa_cons (pv 5) (pa_cons (pe_call (ok_sort_of T) hr1 rfl T.m_sort_of T.F_sort_of.kp T.b_sort_of .nil pass0 (pa_cons (pv 4) pa_nil)) pa_nil))) pa_nil)))
  (pss_one (ps_if (pt_cmpR (op_neD hr.units) (pv 4) (pe_glob (v := .str "file") rfl T.m_FILE ⟨_, rfl⟩) (nomark _))
  (pss_one (ps_expr (pe_bm PySem.F.plainAttrs_list PySem.F.slot_list_extend PySem.F.type_list_extend mt_extend (pv 2) (pa_cons (pe_call G hr rfl T.m_things_in T.F_things_in.kp T.b_things_in .nil pass0 (pa_cons (pv 4) (pa_cons (pv 5) pa_nil))) pa_nil))))
  pss_nil)))))
  (pss_one (ps_ret (pv 2))))), ?_⟩
    rw [Th.D_dir t hd] at him
    obtain ⟨a, xs, rfl, hS, hx⟩ := him.tupI
    refine ⟨Nat.zero_le _, fun l hl0 => ?_⟩
    have s0 := same_new (o := .lst []) hl0
    refine ⟨_, rfl, a, rfl, ⟨_, s0.tup hS⟩, for_tup (K := K) (a := a) (xs := xs) (fun i σ H' => ∃ v3 v4 v5 zs, σ = [some (.ref a), some (.ref pa), some (.ref l), v3, v4, v5] ∧ Same H H' ∧ H' l = some (.lst zs) ∧ Ims K H' zs (((t.ents.take i).flatMap (ptE p)).map rowD))
      ⟨none, none, none, [], rfl, s0, upd_same, .nil⟩ (fun i σ H' _ ⟨_, _, _, _, _, e, _⟩ => e.tup hS) ?_ ?_⟩
    · rintro i x σ H1 hi ⟨v3, v4, v5, zs, rfl, e1, hl1, hz1⟩
      obtain ⟨d, hd1, hd2⟩ := (hx.same e1).get hi
      rw [List.getElem?_map] at hd1
      obtain ⟨⟨m, u⟩, hmu, rfl⟩ := Option.map_eq_some_iff.mp hd1
      obtain ⟨hm, hu0, hud⟩ := Th.ents_mem (List.mem_of_getElem? hmu)
      dsimp only at hm hu0 hud
      obtain ⟨q, ys, rfl, hq, hys⟩ := hd2.tupI
      obtain ⟨x1, y, rfl, hx1, hy1⟩ := hys.two
      cases hx1.strI
      have htk : (t.ents.take (i + 1)).flatMap (ptE p) = (t.ents.take i).flatMap (ptE p) ++ ptE p (m, u) := by
        rw [take_more hmu, List.flatMap_append]
        simp
      have hsz : ((t.ents.take i).flatMap (ptE p) ++ ptE p (m, u)).length ≤ 100000 := by
        rw [← htk]
        refine Nat.le_trans ?_ htx
        refine Nat.le_trans ?_ (pts_len p t)
        rw [pts_ents]
        conv => rhs; rw [← List.take_append_drop (i + 1) t.ents, List.flatMap_append]
        simp
      rw [List.length_append] at hsz
      have hzl : zs.length = ((t.ents.take i).flatMap (ptE p)).length := by rw [hz1.len, List.length_map]
      have hE : (ptE p (m, u)).length = (pts (p ++ [m]) u).length + 1 := rfl
      refine ⟨q, _, rfl, hq, rfl, _, _, rfl, _, _, rfl, rfl, ?_⟩
      refine ⟨_, rfl, pa, _, rfl, .inl (e1.tup hp), _, rfl, sz1 (by rw [List.length_append, List.length_map, List.length_singleton]; omega), fun h hh => ?_⟩
      have s2 := same_new (o := .tup ((p.map fun c => V.str (S [c])) ++ [.str (S [m])])) hh
      have hhp : SqP K (upd H1 h (.tup ((p.map fun c => V.str (S [c])) ++ [.str (S [m])]))) h (p ++ [m]) := by
        unfold SqP
        rw [List.map_append]
        exact .inl (.inl upd_same)
      generalize upd H1 h (.tup ((p.map fun c => V.str (S [c])) ++ [.str (S [m])])) = H2 at s2 hhp ⊢
      have hl2 := s2 _ _ hl1
      refine ⟨_, rfl, .inl ⟨rfl, _, SqL.of hl2⟩, _, rfl, _, rfl, y, u, rfl, hy1.same s2, hu0, by omega, (by show 2 ≤ sizeLine; decide), fun tp htp => ?_⟩
      have s3 := same_new (o := .tup [.ref h, .str (kindS u)]) htp
      have hl3 := s3 _ _ hl2
      have hr3 : Im K (upd H2 tp (.tup [.ref h, .str (kindS u)])) (.ref tp) (rowD (p ++ [m], u)) := Im.new htp (.cons (imP hhp) (.cons (.str _) .nil))
      generalize upd H2 tp (.tup [.ref h, .str (kindS u)]) = H3 at s3 hl3 hr3 ⊢
      refine ⟨l, zs, _, rfl, rfl, hl3, Nat.lt_of_le_of_lt (show zs.length ≤ 100000 by omega) (by decide), ?_⟩
      have tk4 := tk_updL (o := .lst (zs ++ [.ref tp])) hl3
      have b4 : Same H (upd H3 l (.lst (zs ++ [.ref tp]))) := fun b o e => by rw [upd_ne (ne_of_none e hl0)]; exact s3 _ _ (s2 _ _ (e1 _ _ e))
      have him4 : Ims K (upd H3 l (.lst (zs ++ [.ref tp]))) (zs ++ [.ref tp]) ((((t.ents.take i).flatMap (ptE p)).map rowD) ++ [rowD (p ++ [m], u)]) :=
        ((hz1.same (s2.trans s3)).tk tk4).app (.cons (hr3.tk tk4) .nil)
      have hy4 := ((hy1.same (s2.trans s3)).tk tk4)
      have hh4 : SqP K (upd H3 l (.lst (zs ++ [.ref tp]))) h (p ++ [m]) := tk4.sq (s3.tup hhp)
      have hl4 : upd H3 l (.lst (zs ++ [.ref tp])) l = some (.lst (zs ++ [.ref tp])) := upd_same
      generalize upd H3 l (.lst (zs ++ [.ref tp])) = H4 at b4 him4 hy4 hh4 hl4 ⊢
      refine ⟨_, rfl, _, _, hy4.dp, .str "file", shaped_D (by show u.dep ≤ 32; omega), shaped_file, _, rfl, ?_⟩
      rw [eqv_file u hu0]
      by_cases cu : u = .file
      · subst cu
        refine iteF ?_
        refine ⟨_, _, _, _, rfl, b4, hl4, ?_⟩
        rw [htk, List.map_append]
        exact him4
      · rw [decide_eq_false cu]
        refine iteT ?_
        have hdir : u.isDir = true := by
          cases u with
          | non => exact absurd rfl hu0
          | file => exact absurd rfl cu
          | dir _ _ _ => rfl
        have hut : u.tx.length ≤ 100000 := by
          refine Nat.le_trans ?_ htx
          have h1 : (Th.pX (m, u)).length ≤ t.tx.length := by
            rw [Th.tx_ents]
            obtain ⟨A, B, hAB⟩ := List.append_of_mem (List.mem_of_getElem? hmu)
            rw [hAB]
            simp only [List.flatMap_append, List.flatMap_cons, List.length_append]
            omega
          refine Nat.le_trans ?_ h1
          cases u with
          | dir _ _ _ => simp only [Th.pX, Th.xe, List.length_cons, List.length_append]; omega
          | _ => cases hdir
        refine ⟨_, rfl, .inl ⟨rfl, _, SqL.of hl4⟩, _, rfl, _, rfl, y, u, h, p ++ [m], rfl, hy4, hdir, by omega, by omega, hut, hh4, by rw [List.length_append, List.length_singleton]; omega, fun l2 H5 ws hl5 hws e5 => ?_⟩
        have hl6 := e5 _ _ hl4
        have hwl : ws.length = (pts (p ++ [m]) u).length := by rw [hws.len, List.length_map]
        refine ⟨l, l2, _, _, rfl, rfl, hl6, hl5, sz1 (by rw [List.length_append, List.length_singleton]; omega), ?_⟩
        have tk7 := tk_updL (o := .lst (zs ++ [.ref tp] ++ ws)) hl6
        refine ⟨_, _, _, _, rfl, ?_, upd_same, ?_⟩
        · exact fun b o e => by rw [upd_ne (ne_of_none e hl0)]; exact e5 _ _ (b4 _ _ e)
        · rw [htk, List.map_append]
          have hh := ((him4.same e5).app hws).tk tk7
          simpa [ptE] using hh
    · rintro σ H' ⟨v3, v4, v5, zs, rfl, e, hl, hz⟩
      have hlen : xs.length = t.ents.length := by rw [hx.len, List.length_map]
      rw [hlen, List.take_length, ← pts_ents] at hz
      exact ⟨_, rfl, k l H' zs hl hz e⟩
theorem ok_things_in (T : Tx P K mg) : ∀ n : Nat, FnOk P w K mg base CX0 (n + 1) T.f_things_in T.d_things_in ["tree", "path"] (spThings K n)
  | 0 => by
    have no : ∀ vs H Q E, ¬ spThings K 0 vs H Q E := fun vs H Q E h => by
      obtain ⟨_, t, _, _, _, _, h1, h2, _⟩ := h
      have := Th.dep_pos h1
      omega
    exact ⟨fun vs H Q E h => absurd h (no vs H Q E), fun A outer s H args us vs Q E _ _ _ _ h => absurd h (no vs H Q E)⟩
  | n + 1 => ok_things_in_n T (ok_things_in T n)
def spThings0 (K : PySem.W.Frag) (n : Nat) : Sp := fun vs H Q _ => ∃ (v : V) (t : Th), vs = [v] ∧ Im K H v t.D ∧ t.isDir = true ∧ t.dep ≤ n ∧ n ≤ 30 ∧ t.tx.length ≤ 100000 ∧
  ∀ l H' xs, H' l = some (.lst xs) → Ims K H' xs ((pts [] t).map rowD) → Same H H' → Q (.ref l) H'
theorem ok_things (T : Tx P K mg) (n : Nat) : FnOk P w K mg base CX0 (n + 2) T.f_things T.d_things ["tree"] (spThings0 K n) := by
  refine T.F_things.ok sc_things (fun vs H Q E h => ?_) (fun cdv A outer s H vs Q E hr h => ?_)
  · obtain ⟨v, t, rfl, _⟩ := h
    rfl
  · obtain ⟨v, t, rfl, him, hd, hn, h30, htx, k⟩ := h
    refine ⟨_, (pss_one (ps_ret (pe_call (ok_things_in T n) hr rfl T.m_things_in T.F_things_in.kp T.b_things_in .nil pass0 (pa_cons (pv 0) (pa_cons (pe_tup pa_nil) pa_nil))))), ?_⟩
    refine ⟨_, rfl, Nat.zero_le _, fun p0 hp0 => ?_⟩
    have s2 := same_new (o := .tup []) hp0
    exact ⟨v, t, p0, [], rfl, him.same s2, hd, hn, by omega, htx, .inl (.inl upd_same), by simp; omega, fun l H' xs h1 h2 h3 => k l H' xs h1 h2 (s2.trans h3)⟩
def spSize (K : PySem.W.Frag) (n : Nat) : Sp := fun vs H Q _ => ∃ (v : V) (t : Th), vs = [v] ∧ Im K H v t.D ∧ t.isDir = true ∧ t.dep ≤ n ∧ n ≤ 30 ∧ t.tx.length ≤ 100000 ∧ ∀ H', Same H H' → Q (.int ((pts [] t).length : Nat)) H'
theorem ok_size (T : Tx P K mg) (n : Nat) : FnOk P w K mg base CX0 (n + 3) T.f_size T.d_size ["tree"] (spSize K n) := by
  refine T.F_size.ok sc_size (fun vs H Q E h => ?_) (fun cdv A outer s H vs Q E hr h => ?_)
  · obtain ⟨v, t, rfl, _⟩ := h
    rfl
  · obtain ⟨v, t, rfl, him, hd, hn, h30, htx, k⟩ := h
    refine ⟨_, (pss_one (ps_ret (pe_callB call_len_seq (by rfl) T.n_len PySem.boot_len (pa_cons (pe_call (ok_things T n) hr rfl T.m_things T.F_things.kp T.b_things .nil pass0 (pa_cons (pv 0) pa_nil)) pa_nil)))), ?_⟩
    refine ⟨_, rfl, v, t, rfl, him, hd, hn, h30, htx, fun l H' xs h1 h2 h3 => ?_⟩
    refine ⟨l, xs, rfl, .inl (SqL.of h1), ?_⟩
    have : xs.length = (pts [] t).length := by rw [h2.len, List.length_map]
    rw [this]
    exact k H' h3
end
end Toy


namespace Toy
open PySem L2 Cw
section
variable {P : Program} {w : World} {K : PySem.W.Frag} {mg : Str → Option Value} {base : Heap}
open Cw
def spPaths (K : PySem.W.Frag) (n : Nat) : Sp := fun vs H Q _ => ∃ (v : V) (t : Th) (pa : Addr) (p : List Nat), vs = [v, .ref pa] ∧ Im K H v t.D ∧ t.isDir = true ∧ t.dep ≤ n ∧ t.dep ≤ 30 ∧ t.tx.length ≤ 100000 ∧ SqP K H pa p ∧ p.length + n ≤ 60 ∧
  ∀ l H' xs, H l = none → H' l = some (.lst xs) → Ims K H' xs ((pts p t).map ptD) → Same H H' → Q (.ref l) H'
theorem ok_l_paths_n {n : Nat} (T : Tx P K mg) (G : FnOk P w K mg base CX0 (n + 1) T.f_l_paths T.d_l_paths ["_law_tree_here", "_law_base"] (spPaths K n)) :
    FnOk P w K mg base CX0 (n + 2) T.f_l_paths T.d_l_paths ["_law_tree_here", "_law_base"] (spPaths K (n + 1)) := by
  refine T.F_l_paths.ok sc_l_paths (fun vs H Q E h => ?_) (fun cdv A outer s H vs Q E hr h => ?_)
  · obtain ⟨v, t, pa, p, rfl, _⟩ := h
    rfl
  · obtain ⟨v, t, pa, p, rfl, him, hd, hn, h30, htx, hp, hpl, k⟩ := h
    have hr1 : Room 1 _ := hr.mono (by omega)
    refine ⟨_, (pss_cons (ps_set (i := 2) sc_l_paths.nd rfl (Or.inl rfl) (pe_lst pa_nil))
  (pss_cons (ps_for PassesOwn.never rfl (pi_tup (pv 0)) (pg_tup rfl (pgs_cons (pg_name (i := 3) sc_l_paths.nd rfl (Or.inl rfl)) (pgs_cons (pg_name (i := 4) sc_l_paths.nd rfl (Or.inl rfl)) pgs_nil)))
  (pss_cons (ps_expr (pe_bm PySem.F.plainAttrs_list PySem.F.slot_list_append PySem.F.type_list_append mt_append (pv 2) (pa_cons (pe_tup (pa_cons (pe_op op_catA (pv 1) (pe_tup (pa_cons (pv 3) pa_nil))) (pa_cons (pv 4) pa_nil))) pa_nil)))
  (pss_one (ps_if (pt_cmpR (op_neD hr.units) (pv 4) pe_str (nomark _))
  (pss_one (ps_set (i := 2) sc_l_paths.nd rfl (Or.inl rfl) (pe_op op_cat (pv 2) (pe_call G hr rfl T.m_l_paths T.F_l_paths.kp T.b_l_paths .nil pass0 (pa_cons (pv 4) (pa_cons (pe_op op_catA (pv 1) (pe_tup (pa_cons (pv 3) pa_nil))) pa_nil))))))
  pss_nil))))
  (pss_one (ps_ret (pv 2))))), ?_⟩
    rw [Th.D_dir t hd] at him
    obtain ⟨a, xs, rfl, hS, hx⟩ := him.tupI
    refine ⟨Nat.zero_le _, fun l0 hl0 => ?_⟩
    have s0 := same_new (o := .lst []) hl0
    refine ⟨_, rfl, a, rfl, ⟨_, s0.tup hS⟩, for_tup (K := K) (a := a) (xs := xs) (fun i σ H' => ∃ l v3 v4 zs, σ = [some (.ref a), some (.ref pa), some (.ref l), v3, v4] ∧ H l = none ∧ Same H H' ∧ H' l = some (.lst zs) ∧ Ims K H' zs (((t.ents.take i).flatMap (ptE p)).map ptD))
      ⟨l0, none, none, [], rfl, hl0, s0, upd_same, .nil⟩ (fun i σ H' _ ⟨_, _, _, _, _, _, e, _⟩ => e.tup hS) ?_ ?_⟩
    · rintro i x σ H1 hi ⟨l, v3, v4, zs, rfl, hl0, e1, hl1, hz1⟩
      obtain ⟨d, hd1, hd2⟩ := (hx.same e1).get hi
      rw [List.getElem?_map] at hd1
      obtain ⟨⟨m, u⟩, hmu, rfl⟩ := Option.map_eq_some_iff.mp hd1
      obtain ⟨hm, hu0, hud⟩ := Th.ents_mem (List.mem_of_getElem? hmu)
      dsimp only at hm hu0 hud
      obtain ⟨q, ys, rfl, hq, hys⟩ := hd2.tupI
      obtain ⟨x1, y, rfl, hx1, hy1⟩ := hys.two
      cases hx1.strI
      have htk : (t.ents.take (i + 1)).flatMap (ptE p) = (t.ents.take i).flatMap (ptE p) ++ ptE p (m, u) := by
        rw [take_more hmu, List.flatMap_append]
        simp
      have hsz : ((t.ents.take i).flatMap (ptE p) ++ ptE p (m, u)).length ≤ 100000 := by
        rw [← htk]
        refine Nat.le_trans ?_ htx
        refine Nat.le_trans ?_ (pts_len p t)
        rw [pts_ents]
        conv => rhs; rw [← List.take_append_drop (i + 1) t.ents, List.flatMap_append]
        simp
      rw [List.length_append] at hsz
      have hzl : zs.length = ((t.ents.take i).flatMap (ptE p)).length := by rw [hz1.len, List.length_map]
      have hE : (ptE p (m, u)).length = (pts (p ++ [m]) u).length + 1 := rfl
      refine ⟨q, _, rfl, hq, rfl, _, _, rfl, _, _, rfl, rfl, ?_⟩
      refine ⟨_, rfl, .inl ⟨rfl, _, SqL.of hl1⟩, _, rfl, _, rfl, (by show 1 ≤ sizeLine; decide), fun b hb => ?_⟩
      have s2 := same_new (o := .tup [.str (S [m])]) hb
      refine cat_p ((e1.trans s2).tup hp) (.inl (.inl upd_same)) (by omega) fun h H2 hhp s2' => ?_
      have s2 := s2.trans s2'
      have hl2 := s2 _ _ hl1
      refine ⟨_, rfl, (by show 2 ≤ sizeLine; decide), fun tp htp => ?_⟩
      have s3 := same_new (o := .tup [.ref h, y]) htp
      have hl3 := s3 _ _ hl2
      have hr3 : Im K (upd H2 tp (.tup [.ref h, y])) (.ref tp) (ptD (p ++ [m], u)) := Im.new htp (.cons (imP hhp) (.cons (hy1.same s2) .nil))
      generalize upd H2 tp (.tup [.ref h, y]) = H3 at s3 hl3 hr3 ⊢
      refine ⟨l, zs, _, rfl, rfl, hl3, Nat.lt_of_le_of_lt (show zs.length ≤ 100000 by omega) (by decide), ?_⟩
      have tk4 := tk_updL (o := .lst (zs ++ [.ref tp])) hl3
      have b4 : Same H (upd H3 l (.lst (zs ++ [.ref tp]))) := fun b o e => by rw [upd_ne (ne_of_none e hl0)]; exact s3 _ _ (s2 _ _ (e1 _ _ e))
      have him4 : Ims K (upd H3 l (.lst (zs ++ [.ref tp]))) (zs ++ [.ref tp]) ((((t.ents.take i).flatMap (ptE p)).map ptD) ++ [ptD (p ++ [m], u)]) :=
        ((hz1.same (s2.trans s3)).tk tk4).app (.cons (hr3.tk tk4) .nil)
      have hy4 := ((hy1.same (s2.trans s3)).tk tk4)
      have hl4 : upd H3 l (.lst (zs ++ [.ref tp])) l = some (.lst (zs ++ [.ref tp])) := upd_same
      generalize upd H3 l (.lst (zs ++ [.ref tp])) = H4 at b4 him4 hy4 hl4 ⊢
      refine ⟨_, rfl, _, _, hy4.dp, .str "file", shaped_D (by show u.dep ≤ 32; omega), shaped_file, _, rfl, ?_⟩
      rw [eqv_file u hu0]
      by_cases cu : u = .file
      · subst cu
        refine iteF ?_
        refine ⟨l, _, _, _, rfl, hl0, b4, hl4, ?_⟩
        rw [htk, List.map_append]
        exact him4
      · rw [decide_eq_false cu]
        refine iteT ?_
        have hdir : u.isDir = true := by
          cases u with
          | non => exact absurd rfl hu0
          | file => exact absurd rfl cu
          | dir _ _ _ => rfl
        have hut : u.tx.length ≤ 100000 := by
          refine Nat.le_trans ?_ htx
          have h1 : (Th.pX (m, u)).length ≤ t.tx.length := by
            rw [Th.tx_ents]
            obtain ⟨A, B, hAB⟩ := List.append_of_mem (List.mem_of_getElem? hmu)
            rw [hAB]
            simp only [List.flatMap_append, List.flatMap_cons, List.length_append]
            omega
          refine Nat.le_trans ?_ h1
          cases u with
          | dir _ _ _ => simp only [Th.pX, Th.xe, List.length_cons, List.length_append]; omega
          | _ => cases hdir
        refine ⟨_, rfl, _, rfl, _, rfl, _, rfl, (by show 1 ≤ sizeLine; decide), fun b5 hb5 => ?_⟩
        have s5 := same_new (o := .tup [.str (S [m])]) hb5
        refine cat_p ((b4.trans s5).tup hp) (.inl (.inl upd_same)) (by omega) fun h2 H5 hhp5 s5' => ?_
        have s5 := s5.trans s5'
        refine ⟨y, u, h2, p ++ [m], rfl, hy4.same s5, hdir, by omega, by omega, hut, hhp5, by rw [List.length_append, List.length_singleton]; omega, fun l2 H6 ws _ hl6 hws e6 => ?_⟩
        have e56 := s5.trans e6
        have hl7 := e56 _ _ hl4
        have hwl : ws.length = (pts (p ++ [m]) u).length := by rw [hws.len, List.length_map]
        refine ⟨l, l2, _, _, rfl, rfl, hl7, hl6, sz1 (by rw [List.length_append, List.length_singleton]; omega), fun l3 hl3' => ?_⟩
        have s7 := same_new (o := .lst (zs ++ [.ref tp] ++ ws)) hl3'
        refine ⟨l3, _, _, _, rfl, (b4.trans e56).free hl3', (b4.trans e56).trans s7, upd_same, ?_⟩
        rw [htk, List.map_append]
        have hh := ((him4.same e56).app hws).same s7
        simpa [ptE] using hh
    · rintro σ H' ⟨l, v3, v4, zs, rfl, hl0, e, hl, hz⟩
      have hlen : xs.length = t.ents.length := by rw [hx.len, List.length_map]
      rw [hlen, List.take_length, ← pts_ents] at hz
      exact ⟨_, rfl, k l H' zs hl0 hl hz e⟩
theorem ok_l_paths (T : Tx P K mg) : ∀ n : Nat, FnOk P w K mg base CX0 (n + 1) T.f_l_paths T.d_l_paths ["_law_tree_here", "_law_base"] (spPaths K n)
  | 0 => by
    have no : ∀ vs H Q E, ¬ spPaths K 0 vs H Q E := fun vs H Q E h => by
      obtain ⟨_, t, _, _, _, _, h1, h2, _⟩ := h
      have := Th.dep_pos h1
      omega
    exact ⟨fun vs H Q E h => absurd h (no vs H Q E), fun A outer s H args us vs Q E _ _ _ _ h => absurd h (no vs H Q E)⟩
  | n + 1 => ok_l_paths_n T (ok_l_paths T n)
end
end Toy


namespace Toy
open PySem L2 Cw
section
variable {P : Program} {w : World} {K : PySem.W.Frag} {mg : Str → Option Value} {base : Heap}
open Cw
def OddOk (u : U) : Prop := ∀ x t, u = .tup [x, t] → ∀ m, 1 ≤ m → Sh m t
theorem Sh_leaf {m : Nat} {u : U} (h : u.isTup = false) : Sh m u := by
  cases m with
  | zero => exact h
  | succ m => cases u <;> first | trivial | cases h
theorem Sh_nil {m : Nat} (h : 1 ≤ m) : Sh m (.tup []) := by
  cases m with
  | zero => omega
  | succ m => intro x t hx; cases hx
def spOdd (K : PySem.W.Frag) : Sp := fun vs H Q _ => ∃ (ρ : Rw), vs = [.ref ρ.r] ∧ Row K H ρ ∧ ∀ v u H', Row K H' ρ → But ρ.r H H' → An K ρ.r H' v u → OddOk u → Q v H'
theorem oddOk_leaf {u : U} (h : ∀ x t, u = .tup [x, t] → t.isTup = false) : OddOk u := fun x t e m _ => Sh_leaf (h x t e)
theorem ok_l_odd (T : Tx P K mg) : FnOk P w K mg base CX0 2 T.f_l_odd T.d_l_odd ["_law_row"] (spOdd K) := by
  refine T.F_l_odd.ok sc_l_odd (fun vs H Q E h => ?_) (fun cdv A outer s H vs Q E hr h => ?_)
  · obtain ⟨ρ, rfl, _⟩ := h
    rfl
  · obtain ⟨ρ, rfl, hrow, k⟩ := h
    refine ⟨_, (pss_cons (ps_set (i := 1) sc_l_odd.nd rfl (Or.inl rfl) (pe_lst (pa_cons pe_non (pa_cons pe_int (pa_cons (pe_tup (pa_cons pe_str pa_nil)) (pa_cons (pe_tup (pa_cons pe_str (pa_cons pe_str pa_nil))) (pa_cons (pe_tup (pa_cons pe_str (pa_cons pe_str pa_nil))) (pa_cons (pe_lst (pa_cons pe_str (pa_cons pe_str pa_nil))) pa_nil))))))))
  (pss_cons (ps_set (i := 1) sc_l_odd.nd rfl (Or.inl rfl) (pe_op op_cat (pv 1) (pe_lst (pa_cons (pe_tup (pa_cons pe_str (pa_cons pe_str pa_nil))) (pa_cons (pe_tup (pa_cons pe_str (pa_cons pe_non pa_nil))) (pa_cons (pe_tup (pa_cons pe_int (pa_cons (pe_tup pa_nil) pa_nil))) (pa_cons pe_str pa_nil)))))))
  (pss_cons (ps_set (i := 1) sc_l_odd.nd rfl (Or.inl rfl) (pe_op op_cat (pv 1) (pe_lst (pa_cons (pe_tup (pa_cons pe_str (pa_cons pe_str (pa_cons pe_int pa_nil)))) (pa_cons (pe_tup (pa_cons pe_str (pa_cons pe_str pa_nil))) (pa_cons (pe_tup (pa_cons pe_str (pa_cons (pe_lst (pa_cons pe_str pa_nil)) pa_nil))) (pa_cons (pe_tup (pa_cons pe_str (pa_cons pe_bl pa_nil))) (pa_cons (pe_tup (pa_cons pe_str (pa_cons (pe_tup pa_nil) pa_nil))) pa_nil))))))))
  (pss_one (ps_ret (pe_ix ix_list (pv 1) (pe_call (ok_l_pick T) (hr.mono (by decide)) rfl T.m_l_pick T.F_l_pick.kp T.b_l_pick .nil pass0 (pa_cons (pv 0) (pa_cons (pe_callB call_len_seq (by rfl) T.n_len PySem.boot_len (pa_cons (pv 1) pa_nil)) pa_nil))) (fun _ _ => rfl))))))), ?_⟩
    obtain ⟨rys, hr0⟩ := hrow.lst
    have z1 : 1 ≤ sizeLine := by decide
    have z2 : 2 ≤ sizeLine := by decide
    have z3 : 3 ≤ sizeLine := by decide
    -- one after the other: what is laid stays
    have tupN : ∀ {H1 : Hp} {p : Addr} {xs : List V} {us : List U}, H1 p = none → Ans K ρ.r H1 xs us → An K ρ.r (upd H1 p (.tup xs)) (.ref p) (.tup us) := fun hp hx => .tup (.inl (.inl upd_same)) (hx.same (same_new hp))
    have lstN : ∀ {H1 : Hp} {p : Addr} {xs : List V}, Same H H1 → H1 p = none → An K ρ.r (upd H1 p (.lst xs)) (.ref p) .oth := fun e hp => .lst upd_same (Ne.symm (ne_of_none (e _ _ hr0) hp))
    refine ⟨z1, fun p1' hp1 => ⟨z2, fun p2' hp2 => ⟨z2, fun p3' hp3 => ⟨z2, fun p4' hp4 => ⟨(by show 6 ≤ sizeLine; decide), fun l1 hl1 => ?_⟩⟩⟩⟩⟩
    have s1 := same_new (o := .tup [.str "a"]) hp1
    have a1 := tupN (us := [.str "a"]) hp1 (.cons (.str _) .nil)
    generalize upd H p1' (.tup [.str "a"]) = H1 at s1 a1 hp2 hp3 hp4 hl1 ⊢
    have s2 := same_new (o := .tup [.str "d", .str "file"]) hp2
    have a2 := tupN (us := [.str "d", .str "file"]) hp2 (.cons (.str _) (.cons (.str _) .nil))
    generalize upd H1 p2' (.tup [.str "d", .str "file"]) = H2 at s2 a2 hp3 hp4 hl1 ⊢
    have s3 := same_new (o := .tup [.str "a", .str "folder"]) hp3
    have a3 := tupN (us := [.str "a", .str "folder"]) hp3 (.cons (.str _) (.cons (.str _) .nil))
    generalize upd H2 p3' (.tup [.str "a", .str "folder"]) = H3 at s3 a3 hp4 hl1 ⊢
    have e3 := (s1.trans s2).trans s3
    have s4 := same_new (o := .lst [.str "a", .str "file"]) hp4
    have a4 := lstN (xs := [.str "a", .str "file"]) e3 hp4
    generalize upd H3 p4' (.lst [.str "a", .str "file"]) = H4 at s4 a4 hl1 ⊢
    have s5 := same_new (o := .lst [.non, .int 5, .ref p1', .ref p2', .ref p3', .ref p4']) hl1
    have A1 : Ans K ρ.r (upd H4 l1 (.lst [.non, .int 5, .ref p1', .ref p2', .ref p3', .ref p4'])) [.non, .int 5, .ref p1', .ref p2', .ref p3', .ref p4'] [.oth, .oth, .tup [.str "a"], .tup [.str "d", .str "file"], .tup [.str "a", .str "folder"], .oth] :=
      Ans.same s5 (.cons .non (.cons (.int _) (.cons (a1.same ((s2.trans s3).trans s4)) (.cons (a2.same (s3.trans s4)) (.cons (a3.same s4) (.cons a4 .nil))))))
    have hL1 : upd H4 l1 (.lst [.non, .int 5, .ref p1', .ref p2', .ref p3', .ref p4']) l1 = some (.lst [.non, .int 5, .ref p1', .ref p2', .ref p3', .ref p4']) := upd_same
    have e5 := (e3.trans s4).trans s5
    generalize upd H4 l1 (.lst [.non, .int 5, .ref p1', .ref p2', .ref p3', .ref p4']) = H5 at A1 hL1 e5 ⊢
    clear s1 s2 s3 s4 s5 a1 a2 a3 a4 e3 hl1 hp1 hp2 hp3 hp4
    refine ⟨_, rfl, z2, fun p1 hp1 => ⟨z2, fun p2 hp2 => ⟨Nat.zero_le _, fun p3 hp3 => ⟨z2, fun p4 hp4 => ⟨(by show 4 ≤ sizeLine; decide), fun l2 hl2 => ?_⟩⟩⟩⟩⟩
    have s1 := same_new (o := .tup [.str "", .str "file"]) hp1
    have a1 := tupN (us := [.str "", .str "file"]) hp1 (.cons (.str _) (.cons (.str _) .nil))
    generalize upd H5 p1 (.tup [.str "", .str "file"]) = H6 at s1 a1 hp2 hp3 hp4 hl2 ⊢
    have s2 := same_new (o := .tup [.str "a", .non]) hp2
    have a2 := tupN (us := [.str "a", .oth]) hp2 (.cons (.str _) (.cons .non .nil))
    generalize upd H6 p2 (.tup [.str "a", .non]) = H7 at s2 a2 hp3 hp4 hl2 ⊢
    have s3 := same_new (o := .tup []) hp3
    have a3 := tupN (us := []) hp3 .nil
    generalize upd H7 p3 (.tup []) = H8 at s3 a3 hp4 hl2 ⊢
    have s4 := same_new (o := .tup [.int 1, .ref p3]) hp4
    have a4 := tupN (us := [.oth, .tup []]) hp4 (.cons (.int 1) (.cons a3 .nil))
    generalize upd H8 p4 (.tup [.int 1, .ref p3]) = H9 at s4 a4 hl2 ⊢
    have s5 := same_new (o := .lst [.ref p1, .ref p2, .ref p4, .str "a"]) hl2
    have A2 : Ans K ρ.r (upd H9 l2 (.lst [.ref p1, .ref p2, .ref p4, .str "a"])) [.ref p1, .ref p2, .ref p4, .str "a"] [.tup [.str "", .str "file"], .tup [.str "a", .oth], .tup [.oth, .tup []], .str "a"] :=
      Ans.same s5 (.cons (a1.same ((s2.trans s3).trans s4)) (.cons (a2.same (s3.trans s4)) (.cons a4 (.cons (.str _) .nil))))
    have hL2 : upd H9 l2 (.lst [.ref p1, .ref p2, .ref p4, .str "a"]) l2 = some (.lst [.ref p1, .ref p2, .ref p4, .str "a"]) := upd_same
    have e6 := (((s1.trans s2).trans s3).trans s4).trans s5
    generalize upd H9 l2 (.lst [.ref p1, .ref p2, .ref p4, .str "a"]) = H10 at A2 hL2 e6 ⊢
    clear s1 s2 s3 s4 s5 a1 a2 a3 a4 hl2 hp1 hp2 hp3 hp4
    refine ⟨l1, l2, _, _, rfl, rfl, e6 _ _ hL1, hL2, (by show 10 ≤ sizeLine; decide), fun l3 hl3 => ?_⟩
    have s7 := same_new (o := .lst ([.non, .int 5, .ref p1', .ref p2', .ref p3', .ref p4'] ++ [.ref p1, .ref p2, .ref p4, .str "a"])) hl3
    have A3 := Ans.same s7 ((A1.same e6).app A2)
    have hL3 := upd_same (H := H10) (a := l3) (o := .lst ([.non, .int 5, .ref p1', .ref p2', .ref p3', .ref p4'] ++ [.ref p1, .ref p2, .ref p4, .str "a"]))
    have e7 := (e5.trans e6).trans s7
    generalize upd H10 l3 (.lst ([.non, .int 5, .ref p1', .ref p2', .ref p3', .ref p4'] ++ [.ref p1, .ref p2, .ref p4, .str "a"])) = H11 at A3 hL3 e7 ⊢
    clear s7 A1 A2 e6 hL1 hL2 e5
    refine ⟨_, rfl, z3, fun q1 hq1 => ⟨z2, fun q2 hq2 => ⟨z1, fun q3 hq3 => ⟨z2, fun q4 hq4 => ⟨z2, fun q5 hq5 => ⟨Nat.zero_le _, fun q6 hq6 => ⟨z2, fun q7 hq7 => ⟨(by show 5 ≤ sizeLine; decide), fun l4 hl4 => ?_⟩⟩⟩⟩⟩⟩⟩⟩
    have s1 := same_new (o := .tup [.str "a", .str "file", .int 1]) hq1
    have a1 := tupN (us := [.str "a", .str "file", .oth]) hq1 (.cons (.str _) (.cons (.str _) (.cons (.int 1) .nil)))
    generalize upd H11 q1 (.tup [.str "a", .str "file", .int 1]) = G1 at s1 a1 hq2 hq3 hq4 hq5 hq6 hq7 hl4 ⊢
    have s2 := same_new (o := .tup [.str "c", .str "file"]) hq2
    have a2 := tupN (us := [.str "c", .str "file"]) hq2 (.cons (.str _) (.cons (.str _) .nil))
    generalize upd G1 q2 (.tup [.str "c", .str "file"]) = G2 at s2 a2 hq3 hq4 hq5 hq6 hq7 hl4 ⊢
    have s3 := same_new (o := .lst [.str "b"]) hq3
    have a3 := lstN (xs := [.str "b"]) ((e7.trans s1).trans s2) hq3
    generalize upd G2 q3 (.lst [.str "b"]) = G3 at s3 a3 hq4 hq5 hq6 hq7 hl4 ⊢
    have s4 := same_new (o := .tup [.str "a", .ref q3]) hq4
    have a4 := tupN (us := [.str "a", .oth]) hq4 (.cons (.str _) (.cons a3 .nil))
    generalize upd G3 q4 (.tup [.str "a", .ref q3]) = G4 at s4 a4 hq5 hq6 hq7 hl4 ⊢
    have s5 := same_new (o := .tup [.str "b", .bl true]) hq5
    have a5 := tupN (us := [.str "b", .oth]) hq5 (.cons (.str _) (.cons (.bl true) .nil))
    generalize upd G4 q5 (.tup [.str "b", .bl true]) = G5 at s5 a5 hq6 hq7 hl4 ⊢
    have s6 := same_new (o := .tup []) hq6
    have a6 := tupN (us := []) hq6 .nil
    generalize upd G5 q6 (.tup []) = G6 at s6 a6 hq7 hl4 ⊢
    have s7 := same_new (o := .tup [.str "ab", .ref q6]) hq7
    have a7 := tupN (us := [.str "ab", .tup []]) hq7 (.cons (.str _) (.cons a6 .nil))
    generalize upd G6 q7 (.tup [.str "ab", .ref q6]) = G7 at s7 a7 hl4 ⊢
    have s8 := same_new (o := .lst [.ref q1, .ref q2, .ref q4, .ref q5, .ref q7]) hl4
    have A4 : Ans K ρ.r (upd G7 l4 (.lst [.ref q1, .ref q2, .ref q4, .ref q5, .ref q7])) [.ref q1, .ref q2, .ref q4, .ref q5, .ref q7] [.tup [.str "a", .str "file", .oth], .tup [.str "c", .str "file"], .tup [.str "a", .oth], .tup [.str "b", .oth], .tup [.str "ab", .tup []]] :=
      Ans.same s8 (.cons (a1.same (((((s2.trans s3).trans s4).trans s5).trans s6).trans s7)) (.cons (a2.same ((((s3.trans s4).trans s5).trans s6).trans s7)) (.cons (a4.same ((s5.trans s6).trans s7)) (.cons (a5.same (s6.trans s7)) (.cons a7 .nil)))))
    have hL4 : upd G7 l4 (.lst [.ref q1, .ref q2, .ref q4, .ref q5, .ref q7]) l4 = some (.lst [.ref q1, .ref q2, .ref q4, .ref q5, .ref q7]) := upd_same
    have e8 := ((((((s1.trans s2).trans s3).trans s4).trans s5).trans s6).trans s7).trans s8
    generalize upd G7 l4 (.lst [.ref q1, .ref q2, .ref q4, .ref q5, .ref q7]) = G8 at A4 hL4 e8 ⊢
    clear s1 s2 s3 s4 s5 s6 s7 s8 a1 a2 a3 a4 a5 a6 a7 hl4 hq1 hq2 hq3 hq4 hq5 hq6 hq7
    refine ⟨l3, l4, _, _, rfl, rfl, e8 _ _ hL3, hL4, (by show 15 ≤ sizeLine; decide), fun l5 hl5 => ?_⟩
    have A5 := (A3.same e8).app A4
    have ex : ∃ xs us, Ans K ρ.r G8 xs us ∧ xs.length = 15 ∧ (∀ u ∈ us, OddOk u) ∧ xs = ([.non, .int 5, .ref p1', .ref p2', .ref p3', .ref p4'] ++ [.ref p1, .ref p2, .ref p4, .str "a"]) ++ [.ref q1, .ref q2, .ref q4, .ref q5, .ref q7] := by
      refine ⟨_, _, A5, rfl, ?_, rfl⟩
      intro u hu
      simp only [List.cons_append, List.nil_append, List.mem_cons, List.not_mem_nil, or_false] at hu
      rcases hu with rfl | rfl | rfl | rfl | rfl | rfl | rfl | rfl | rfl | rfl | rfl | rfl | rfl | rfl | rfl
      all_goals
        intro x t e m hm
        first
        | (cases e; done)
        | (cases e; exact Sh_leaf rfl)
        | (cases e; exact Sh_nil hm)
    obtain ⟨xs, us, A6, hx15, hodd, hxs⟩ := ex
    rw [← hxs]
    have s9 := same_new (o := .lst xs) hl5
    have hL5 : upd G8 l5 (.lst xs) l5 = some (.lst xs) := upd_same
    have A7 := A6.same s9
    have e9 := (e7.trans e8).trans s9
    have n5 : l5 ≠ ρ.r := Ne.symm (ne_of_none ((e7.trans e8) _ _ hr0) hl5)
    generalize upd G8 l5 (.lst xs) = G9 at hL5 A7 e9 ⊢
    have hrow9 := hrow.same e9
    obtain ⟨ys9, hy9⟩ := hrow9.lst
    refine ⟨_, rfl, _, rfl, _, rfl, l5, xs, rfl, .inl (SqL.of hL5), ρ, _, rfl, by rw [hx15]; decide, by rw [hx15]; decide, hrow9, fun v H12 v0 v1 hrow12 hb12 => ?_⟩
    rw [hx15] at v1
    obtain ⟨j, rfl⟩ : ∃ j : Nat, v = (j : Int) := ⟨v.toNat, by omega⟩
    have hj : j < xs.length := by omega
    have A8 := A7.ty (hb12.ty hy9)
    obtain ⟨u, hu1, hu2⟩ := A8.get (List.getElem?_eq_getElem hj)
    refine ⟨l5, xs, _, _, rfl, rfl, SqL.of (hb12 _ _ n5 hL5), atI_nat (List.getElem?_eq_getElem hj), ?_⟩
    exact k _ u H12 hrow12 (e9.but.trans hb12) hu2 (hodd u (List.mem_of_getElem? hu1))
end
end Toy


namespace Toy
open PySem L2 Cw
section
variable {P : Program} {w : World} {K : PySem.W.Frag} {mg : Str → Option Value} {base : Heap}
open Cw
theorem catA {H : Hp} {Q : VK} {a b : Addr} {xs ys : List V} (h1 : SqT K H a xs) (h2 : SqT K H b ys) (hz : xs.length + ys.length ≤ 1000) (q : ∀ x H', SqT K H' x (xs ++ ys) → Same H H' → Q (.ref x) H') : rCatA K (.ref a) (.ref b) H Q := by
  refine ⟨a, b, _, _, rfl, rfl, h1, h2, sz1 (by omega), fun e => ?_, fun _ e => ?_, fun _ _ x hx => ?_⟩
  · subst e; exact q b H h2 (Same.refl _)
  · subst e; exact q a H (by rw [List.append_nil]; exact h1) (Same.refl _)
  · exact q x _ (.inl (.inl upd_same)) (same_new hx)
theorem slTo {H : Hp} {Q : VK} {a : Addr} {xs : List V} (k : Nat) (h1 : SqT K H a xs) (q : ∀ x H', SqT K H' x (xs.take k) → Same H H' → Q (.ref x) H') : rSlA K (.ref a) none (some (k : Int)) H Q := by
  have e : cutV xs none (some (k : Int)) = xs.take k := by
    unfold cutV
    rw [HT.sIx_none, HT.sIx_nat, List.drop_zero, Nat.sub_zero]
    by_cases h : k ≤ xs.length
    · rw [Nat.min_eq_left h]
    · rw [Nat.min_eq_right (by omega), List.take_length, List.take_of_length_le (by omega)]
  refine ⟨a, xs, rfl, h1, fun h => ?_, fun _ p hp => ?_⟩
  · refine q a H ?_ (Same.refl _)
    rw [HT.sIx_none, HT.sIx_nat] at h
    rw [List.take_of_length_le (by omega)]
    exact h1
  · rw [e]
    exact q p _ (.inl (.inl upd_same)) (same_new hp)
theorem slFrom {H : Hp} {Q : VK} {a : Addr} {xs : List V} (k : Nat) (h1 : SqT K H a xs) (q : ∀ x H', SqT K H' x (xs.drop k) → Same H H' → Q (.ref x) H') : rSlA K (.ref a) (some (k : Int)) none H Q := by
  have e : cutV xs (some (k : Int)) none = xs.drop k := by
    unfold cutV
    rw [HT.sIx_none, HT.sIx_nat]
    by_cases h : k ≤ xs.length
    · rw [Nat.min_eq_left h, List.take_of_length_le (by rw [List.length_drop]; omega)]
    · rw [Nat.min_eq_right (by omega), List.drop_length, List.drop_eq_nil_of_le (by omega), List.take_nil]
  refine ⟨a, xs, rfl, h1, fun h => ?_, fun _ p hp => ?_⟩
  · refine q a H ?_ (Same.refl _)
    rw [HT.sIx_none, HT.sIx_nat] at h
    have : k = 0 ∨ xs = [] := by
      rcases Nat.eq_zero_or_pos k with h0 | h0
      · exact .inl h0
      · right
        apply List.length_eq_zero_iff.mp
        omega
    rcases this with rfl | rfl
    · exact h1
    · rw [List.drop_nil]; exact h1
  · rw [e]
    exact q p _ (.inl (.inl upd_same)) (same_new hp)
/-- a row of entries, some of the tree's and one more -/
theorem Sh_cut {m : Nat} {t : Th} {es : List U} (hd : t.isDir = true) (ht : t.dep ≤ m + 1) (h : ∀ e ∈ es, e ∈ t.ents.map pU ∨ ∀ x t', e = .tup [x, t'] → Sh m t') : Sh (m + 1) (.tup es) := by
  intro x t' hx
  rcases h _ hx with h | h
  · obtain ⟨q, hq, hqe⟩ := List.mem_map.mp h
    injection hqe with z
    injection z with z1 z2
    injection z2 with z2 _
    subst z2
    have := (Th.ents_mem hq).2.2
    exact Sh_U m q.2 (by omega)
  · exact h x t' rfl
theorem ans_of {r : Addr} {H : Hp} : ∀ (l : List (Nat × Th)) (xs : List V), (∀ q ∈ l, q.2 ≠ .non) → Ims K H xs (l.map Th.pD) → Ans K r H xs (l.map pU)
  | [], _, _, .nil => .nil
  | q :: l, _, hq, .cons h1 h2 => by
    refine .cons ?_ (ans_of l _ (fun z hz => hq z (List.mem_cons_of_mem _ hz)) h2)
    obtain ⟨b, ys, rfl, g1, g2⟩ := h1.tupI
    obtain ⟨x, y, rfl, e1, e2⟩ := g2.two
    cases e1
    exact .tup g1 (.cons (.str _) (.cons (an_of (hq q List.mem_cons_self) e2) .nil))
def spSpoilt (K : PySem.W.Frag) (m : Nat) : Sp := fun vs H Q _ => ∃ (ρ : Rw) (v : V) (t : Th) (d : Nat), vs = [.ref ρ.r, v, .int d] ∧ Row K H ρ ∧ Im K H v t.D ∧ t.isDir = true ∧ t.dep ≤ m ∧ m + d = 5 ∧ d ≤ 3 ∧
  ∀ v' u' H', Row K H' ρ → But ρ.r H H' → An K ρ.r H' v' u' → Sh m u' → Q v' H'
theorem ok_l_spoilt_n {m : Nat} (T : Tx P K mg) (G : FnOk P w K mg base CX0 (m + 2) T.f_l_spoilt T.d_l_spoilt ["_law_row", "_law_tree_here", "_law_deep"] (spSpoilt K m)) :
    FnOk P w K mg base CX0 (m + 3) T.f_l_spoilt T.d_l_spoilt ["_law_row", "_law_tree_here", "_law_deep"] (spSpoilt K (m + 1)) := by
  refine T.F_l_spoilt.ok sc_l_spoilt (fun vs H Q E h => ?_) (fun cdv A outer s H vs Q E hr h => ?_)
  · obtain ⟨ρ, v, t, d, rfl, _⟩ := h
    rfl
  · obtain ⟨ρ, v, t, d, rfl, hrow, him, hd, hn, hmd, hd3, k⟩ := h
    have hr1 : Room 1 _ := hr.mono (by omega)
    have hr2 : Room 2 _ := hr.mono (by omega)
    refine ⟨_, (pss_cons (ps_setLc (i := 4) (own := [("_law_k", 3)]) (tt := (tTest (tOp (rNeD K) (tOp (rIxT K) (tOp (rIxT K) (tVar 1) (tVar 3)) (tC (.int 1))) (tC (.str "file"))))) rfl sc_l_spoilt.nd rfl rfl (sw_true rfl rfl rfl (by decide +kernel)) (pi_range1 rfl T.n_range (pa_cons (pe_callB call_len_seq (by rfl) T.n_len PySem.boot_len (pa_cons (pv 1) pa_nil)) pa_nil)) (blkOk_by (own := [("_law_k", 3)]) (N := ["_law_row", "_law_tree_here", "_law_deep", "_law_k", "_law_inner", "_law_at", "_law_entry", "_law_turn_of"]) (sc := defScope s_l_spoilt) (by decide +kernel)) (fun _ _ _ _ _ => (pg_name (i := 3) sc_l_spoilt.nd rfl (Or.inl rfl))) (fun _ _ _ _ _ => (pts_one (pt_cmpR (op_neD hr.units) (pe_ix ix_tup (pe_ix ix_tup (pv 1) (pv 3) (fun _ _ => rfl)) pe_int (fun _ _ => rfl)) pe_str (nomark _)))) (fun _ _ _ _ _ => (pv 3)))
  (Evl.pss_cut (ps_if (PW.pt (pw_and (pt_cmpR (op_neD hr.units) (pv 4) (pe_lst pa_nil) (nomark _)) (pw_and (pt_cmpR op_lt (pv 2) pe_int (nomark _)) (pw_and1 (pt_cmpR op_eq (pe_call (ok_l_pick T) hr1 rfl T.m_l_pick T.F_l_pick.kp T.b_l_pick .nil pass0 (pa_cons (pv 0) (pa_cons pe_int pa_nil))) pe_int (nomark _))))))
  (pss_cons (ps_set (i := 5) sc_l_spoilt.nd rfl (Or.inl rfl) (pe_ix ix_list (pv 4) (pe_call (ok_l_pick T) hr1 rfl T.m_l_pick T.F_l_pick.kp T.b_l_pick .nil pass0 (pa_cons (pv 0) (pa_cons (pe_callB call_len_seq (by rfl) T.n_len PySem.boot_len (pa_cons (pv 4) pa_nil)) pa_nil))) (fun _ _ => rfl)))
  (pss_cons (ps_set (i := 6) sc_l_spoilt.nd rfl (Or.inl rfl) (pe_tup (pa_cons (pe_ix ix_tup (pe_ix ix_tup (pv 1) (pv 5) (fun _ _ => rfl)) pe_int (fun _ _ => rfl)) (pa_cons (pe_call G hr rfl T.m_l_spoilt T.F_l_spoilt.kp T.b_l_spoilt .nil pass0 (pa_cons (pv 0) (pa_cons (pe_ix ix_tup (pe_ix ix_tup (pv 1) (pv 5) (fun _ _ => rfl)) pe_int (fun _ _ => rfl)) (pa_cons (pe_op op_add (pv 2) pe_int) pa_nil)))) pa_nil))))
  (pss_one (ps_ret (pe_op op_catA (pe_op op_catA (pe_slice sl_tupA (pv 1) po_none (po_some (pv 5))) (pe_tup (pa_cons (pv 6) pa_nil))) (pe_slice sl_tupA (pv 1) (po_some (pe_op op_add (pv 5) pe_int)) po_none))))))
  pss_nil)
  (pss_cons (ps_set (i := 7) sc_l_spoilt.nd rfl (Or.inl rfl) (pe_call (ok_l_pick T) hr1 rfl T.m_l_pick T.F_l_pick.kp T.b_l_pick .nil pass0 (pa_cons (pv 0) (pa_cons pe_int pa_nil))))
  (pss_cons (ps_if (pt_cmpR op_eq (pv 7) pe_int (nomark _))
  (pss_one (ps_ret (pe_ix ix_list (pe_lst (pa_cons (pe_callTy call_list_of (by rfl) T.n_list (by decide +kernel) (pa_cons (pv 1) pa_nil)) (pa_cons pe_non (pa_cons pe_str (pa_cons pe_int pa_nil))))) (pe_call (ok_l_pick T) hr1 rfl T.m_l_pick T.F_l_pick.kp T.b_l_pick .nil pass0 (pa_cons (pv 0) (pa_cons pe_int pa_nil))) (fun _ _ => rfl))))
  pss_nil)
  (pss_cons (ps_if (pt_cmpR op_eq (pv 7) pe_int (nomark _))
  (pss_one (ps_ret (pe_op op_catA (pe_revT (pv 1)) (pe_slice sl_tupA (pv 1) po_none (po_some pe_int)))))
  pss_nil)
  (pss_cons (ps_set (i := 5) sc_l_spoilt.nd rfl (Or.inl rfl) (pe_call (ok_l_pick T) hr1 rfl T.m_l_pick T.F_l_pick.kp T.b_l_pick .nil pass0 (pa_cons (pv 0) (pa_cons (pe_op op_add (pe_callB call_len_seq (by rfl) T.n_len PySem.boot_len (pa_cons (pv 1) pa_nil)) pe_int) pa_nil))))
  (pss_one (ps_ret (pe_op op_catA (pe_op op_catA (pe_slice sl_tupA (pv 1) po_none (po_some (pv 5))) (pe_tup (pa_cons (pe_call (ok_l_odd T) hr2 rfl T.m_l_odd T.F_l_odd.kp T.b_l_odd .nil pass0 (pa_cons (pv 0) pa_nil)) pa_nil))) (pe_slice sl_tupA (pv 1) (po_some (pe_op op_add (pv 5) (pe_call (ok_l_pick T) hr1 rfl T.m_l_pick T.F_l_pick.kp T.b_l_pick .nil pass0 (pa_cons (pv 0) (pa_cons pe_int pa_nil))))) po_none)))))))))), ?_⟩
    rw [Th.D_dir t hd] at him
    obtain ⟨a, xs, rfl, hS, hx⟩ := him.tupI
    have hA : Ans K ρ.r H xs (t.ents.map pU) := ans_of t.ents xs (fun q hq => (Th.ents_mem hq).2.1) hx
    obtain ⟨rys, hr0⟩ := hrow.lst
    have hxl : xs.length = t.ents.length := by rw [hx.len, List.length_map]
    have hx3 := Th.ents_len t
    refine ⟨_, rfl, a, xs, rfl, .inr hS, _, rfl, by omega, by omega, fun D hD => ?_⟩
    rw [Int.toNat_natCast]
    have nDr : D ≠ ρ.r := Ne.symm (ne_of_none hr0 hD)
    refine lc_range (lo := 0) (n := xs.length) (fun i H' => ∃ ks : List Nat, H' D = some (.lst (ks.map fun j => V.int (j : Nat))) ∧ ks.length ≤ i ∧ (∀ j ∈ ks, ∃ q, t.ents[j]? = some q ∧ q.2.isDir = true) ∧ Same H H')
      ⟨[], upd_same, Nat.le_refl _, by simp, same_new hD⟩ ?_ ?_
    · rintro i H1 hi ⟨ks, hks, hkl, hkd, e1⟩
      refine ⟨rfl, ?_⟩
      have hxi := List.getElem?_eq_getElem hi
      obtain ⟨dd, hd1, hd2⟩ := (hx.same e1).get hxi
      rw [List.getElem?_map] at hd1
      obtain ⟨⟨c, u⟩, hcu, rfl⟩ := Option.map_eq_some_iff.mp hd1
      obtain ⟨hm, hu0, hud⟩ := Th.ents_mem (List.mem_of_getElem? hcu)
      dsimp only at hm hu0 hud
      obtain ⟨q, ys, hq0, hq, hys⟩ := hd2.tupI
      obtain ⟨x1, y, rfl, hx1, hy1⟩ := hys.two
      cases hx1.strI
      have hz : (0 : Int) + (i : Int) = (i : Int) := Int.zero_add _
      refine ⟨_, rfl, _, rfl, a, xs, _, _, rfl, by rw [hz], e1.tup hS, atI_nat (by rw [hxi, hq0]), q, _, _, _, rfl, rfl, hq, at_of (j := 1) rfl rfl, _, _, hy1.dp, .str "file", shaped_D (by show u.dep ≤ 32; omega), shaped_file, _, rfl, ?_⟩
      rw [eqv_file u hu0]
      by_cases cu : u = .file
      · subst cu
        refine iteF ?_
        exact ⟨ks, hks, by omega, hkd, e1⟩
      · rw [decide_eq_false cu]
        refine iteT ?_
        refine ⟨_, rfl, _, hks, Nat.lt_of_le_of_lt (show _ ≤ 3 by rw [List.length_map]; omega) (by decide), ?_⟩
        refine ⟨ks ++ [i], ?_, by rw [List.length_append, List.length_singleton]; omega, ?_, ?_⟩
        · rw [upd_same, List.map_append, hz]; rfl
        · intro j hj
          rcases List.mem_append.mp hj with hj | hj
          · exact hkd j hj
          · rw [List.mem_singleton.mp hj]
            refine ⟨_, hcu, ?_⟩
            cases u with
            | non => exact absurd rfl hu0
            | file => exact absurd rfl cu
            | dir _ _ _ => rfl
        · exact fun b o e => by rw [upd_ne (ne_of_none e hD)]; exact e1 _ _ e
    · rintro H1 ⟨ks, hks, hkl, hkd, e1⟩
      have hrow1 := hrow.same e1
      have hb1 : But ρ.r H H1 := e1.but
      have e1r : H1 ρ.r = some (.lst rys) := e1 _ _ hr0
      refine ⟨fun σ H' => σ = [some (.ref ρ.r), some (.ref a), some (.int d), none, some (.ref D), none, none, none] ∧ Row K H' ρ ∧ But ρ.r H H', ?_, ?_⟩
      · refine ⟨_, rfl, Nat.zero_le _, fun p0 hp0 => ?_⟩
        have s2 := same_new (o := .lst []) hp0
        have hks2 := s2 _ _ hks
        have hdp : ∀ l : List Nat, DpAll K (upd H1 p0 (.lst [])) (l.map fun j => V.int (j : Nat)) (l.map fun j => PyData.int (j : Nat)) := by
          intro l
          induction l with
          | nil => exact .nil
          | cons j r ih => exact .cons (.int _) ih
        have hsh : ∀ l : List Nat, PyData.canLayAll0 (l.map fun j => PyData.int (j : Nat)) = true ∧ PyData.depthAll (l.map fun j => PyData.int (j : Nat)) = 0 := by
          intro l
          induction l with
          | nil => exact ⟨rfl, rfl⟩
          | cons j r ih => exact ⟨by show (true && PyData.canLayAll0 (r.map fun j => PyData.int (j : Nat))) = true; rw [ih.1]; rfl, by show max 0 (PyData.depthAll (r.map fun j => PyData.int (j : Nat))) = 0; rw [ih.2]; rfl⟩
        refine ⟨.list (ks.map fun j => PyData.int (j : Nat)), .list [], .lst (SqL.of hks2) (hdp ks), .lst (SqL.of upd_same) .nil, by simp only [SeqAt.shaped, PyData.canLay0, PyData.depth, (hsh ks).1, (hsh ks).2]; decide, by decide +kernel, _, rfl, ?_⟩
        have hrow2 := hrow1.same s2
        have e2 := e1.trans s2
        generalize upd H1 p0 (.lst []) = H2 at hks2 hrow2 e2 ⊢
        by_cases hk0 : ks = []
        · subst hk0
          refine iteF ?_
          exact ⟨rfl, hrow2, e2.but⟩
        · have : PyData.eqv (.list (ks.map fun j => PyData.int (j : Nat))) (.list []) = false := by
            cases ks with
            | nil => exact absurd rfl hk0
            | cons j r => rfl
          rw [this]
          refine iteT ?_
          refine ⟨_, rfl, _, _, rfl, rfl, _, rfl, ?_⟩
          refine ite2 (fun c3 => ?_) (fun c3 => ?_)
          · have d3 : d < 3 := by have := of_decide_eq_true c3; omega
            refine ⟨_, rfl, ρ, 2, rfl, by decide, by decide, hrow2, fun pv H3 p0' p1' hrow3 hb3 => ⟨rfl, _, rfl, ?_⟩⟩
            obtain ⟨ys2, hy2⟩ := hrow2.lst
            refine ite2 (fun cz => ?_) (fun cz => ?_)
            · have hks3 := hb3 _ _ nDr hks2
              have hkpos : 0 < ks.length := List.length_pos_iff.mpr hk0
              obtain ⟨ys3, hy3⟩ := hrow3.lst
              have t3 : Tk H H3 := e2.tk.trans (hb3.tk hy2)
              refine ⟨_, rfl, _, rfl, _, rfl, D, _, rfl, .inl (SqL.of hks3), ρ, _, rfl, by rw [List.length_map]; omega, by rw [List.length_map]; omega, hrow3, fun kv H4 kv0 kv1 hrow4 hb4 => ?_⟩
              rw [List.length_map] at kv1
              obtain ⟨jk, rfl⟩ : ∃ j : Nat, kv = (j : Int) := ⟨kv.toNat, by omega⟩
              have hjk : jk < ks.length := by omega
              have hks4 := hb4 _ _ nDr hks3
              refine ⟨D, _, _, _, rfl, rfl, SqL.of hks4, atI_nat (by rw [List.getElem?_map, List.getElem?_eq_getElem hjk]; rfl), ?_⟩
              obtain ⟨⟨c, u⟩, hcu, hud⟩ := hkd ks[jk] (List.getElem_mem hjk)
              dsimp only at hud
              generalize ks[jk] = at_ at hcu ⊢
              have hlt : at_ < xs.length := by
                rw [hxl]
                exact (List.getElem?_eq_some_iff.mp hcu).1
              obtain ⟨hm, hu0, hudep⟩ := Th.ents_mem (List.mem_of_getElem? hcu)
              dsimp only at hm hu0 hudep
              have t4 : Tk H H4 := t3.trans (hb4.tk hy3)
              have hx4 := hx.tk t4
              obtain ⟨dd, hd1, hd2⟩ := hx4.get (List.getElem?_eq_getElem hlt)
              rw [List.getElem?_map, hcu] at hd1
              obtain rfl : Th.pD (c, u) = dd := Option.some.inj hd1
              obtain ⟨q, ys, hq0, hq, hys⟩ := hd2.tupI
              obtain ⟨x1, y, rfl, hx1, hy1⟩ := hys.two
              cases hx1.strI
              have hat : atI xs (at_ : Nat) = some (.ref q) := atI_nat (by rw [List.getElem?_eq_getElem hlt, hq0])
              refine ⟨_, rfl, _, rfl, a, xs, _, _, rfl, rfl, t4.sq hS, hat, q, _, _, _, rfl, rfl, hq, at_of (j := 0) rfl rfl, ?_⟩
              refine ⟨_, rfl, _, rfl, _, rfl, a, xs, _, _, rfl, rfl, t4.sq hS, hat, q, _, _, _, rfl, rfl, hq, at_of (j := 1) rfl rfl, _, rfl, _, _, rfl, rfl, ?_⟩
              refine ⟨ρ, y, u, d + 1, rfl, hrow4, hy1, hud, by omega, by omega, by omega, fun v' u' H5 hrow5 hb5 han5 hsh5 => ?_⟩
              obtain ⟨ys4, hy4⟩ := hrow4.lst
              have ty5 : Ty ρ.r H H5 := ((e2.ty.trans (hb3.ty hy2)).trans (hb4.ty hy3)).trans (hb5.ty hy4)
              have b5 : But ρ.r H H5 := ((e2.but.trans hb3).trans hb4).trans hb5
              refine ⟨(by show 2 ≤ sizeLine; decide), fun e he => ?_⟩
              have s6 := same_new (o := .tup [.str (S [c]), v']) he
              have ane : An K ρ.r (upd H5 e (.tup [.str (S [c]), v'])) (.ref e) (.tup [.str (S [c]), u']) := .tup (.inl (.inl upd_same)) (.cons (.str _) (.cons (han5.same s6) .nil))
              have hrow6 := hrow5.same s6
              generalize upd H5 e (.tup [.str (S [c]), v']) = H6 at s6 ane hrow6 ⊢
              refine ⟨_, rfl, _, rfl, _, rfl, ?_⟩
              refine slTo at_ (s6.tup (ty5.tk.sq hS)) fun z1 H7 hz1 s7 => ?_
              refine ⟨_, rfl, (by show 1 ≤ sizeLine; decide), fun z2 hz2 => ?_⟩
              have s8 := same_new (o := .tup [.ref e]) hz2
              refine catA (s8.tup hz1) (.inl (.inl upd_same)) (by rw [List.length_take, List.length_singleton]; omega) fun z3 H9 hz3 s9 => ?_
              have s79 := (s7.trans s8).trans s9
              refine ⟨_, rfl, _, rfl, _, _, rfl, rfl, _, rfl, ?_⟩
              have ea : ((at_ : Nat) : Int) + 1 = ((at_ + 1 : Nat) : Int) := by omega
              rw [ea]
              dsimp only [tNoPart]
              refine slFrom (at_ + 1) ((s6.trans s79).tup (ty5.tk.sq hS)) fun z4 H10 hz4 s10 => ?_
              refine catA (s10.tup hz3) hz4 (by rw [List.length_append, List.length_take, List.length_singleton, List.length_drop]; omega) fun z5 H11 hz5 s11 => ?_
              have s7e := (s79.trans s10).trans s11
              have hA5 := ((hA.ty ty5).same s6).same s7e
              refine k _ (.tup ((t.ents.map pU).take at_ ++ [.tup [.str (S [c]), u']] ++ (t.ents.map pU).drop (at_ + 1))) H11 (hrow6.same s7e) ((b5.trans s6.but).trans s7e.but) ?_ ?_
              · refine .tup hz5 (((hA5.take _).app (.cons (ane.same s7e) .nil)).app (hA5.drop _))
              · refine Sh_cut hd hn fun w hw => ?_
                rcases List.mem_append.mp hw with hw | hw
                · rcases List.mem_append.mp hw with hw | hw
                  · exact .inl (List.mem_of_mem_take hw)
                  · rw [List.mem_singleton.mp hw]
                    refine .inr fun x t' hx => ?_
                    injection hx with hx
                    injection hx with _ hx
                    injection hx with hx _
                    rw [← hx]; exact hsh5
                · exact .inl (List.mem_of_mem_drop hw)
            · exact ⟨rfl, hrow3, e2.but.trans hb3⟩
          · exact ⟨rfl, hrow2, e2.but⟩
      · rintro σ H2 ⟨rfl, hrow2, hb2⟩
        obtain ⟨ys2, hy2⟩ := hrow2.lst
        have ty2 : Ty ρ.r H H2 := hb2.ty hr0
        refine ⟨_, rfl, ρ, 4, rfl, by decide, by decide, hrow2, fun tv H3 t0 t4 hrow3 hb3 => ?_⟩
        obtain ⟨ys3, hy3⟩ := hrow3.lst
        have ty3 := ty2.trans (hb3.ty hy2)
        have b3 := hb2.trans hb3
        refine ⟨_, rfl, rfl, _, rfl, ?_⟩
        refine ite2 (fun c0 => ?_) (fun c0 => ?_)
        · refine ⟨_, rfl, a, xs, rfl, .inr (ty3.tk.sq hS), fun p1 hp1 => ⟨(by show 4 ≤ sizeLine; decide), fun p2 hp2 => ?_⟩⟩
          have n1 : p1 ≠ ρ.r := Ne.symm (ne_of_none hy3 hp1)
          have s1 := same_new (o := .lst xs) hp1
          have n2 : p2 ≠ ρ.r := Ne.symm (ne_of_none (s1 _ _ hy3) hp2)
          have s2 := same_new (o := .lst [.ref p1, .non, .str "file", .int 5]) hp2
          have a1 : An K ρ.r (upd H3 p1 (.lst xs)) (.ref p1) .oth := .lst upd_same n1
          have hL : Ans K ρ.r (upd (upd H3 p1 (.lst xs)) p2 (.lst [.ref p1, .non, .str "file", .int 5])) [.ref p1, .non, .str "file", .int 5] [.oth, .oth, .str "file", .oth] := Ans.same s2 (.cons a1 (.cons .non (.cons (.str _) (.cons (.int 5) .nil))))
          have hP : upd (upd H3 p1 (.lst xs)) p2 (.lst [.ref p1, .non, .str "file", .int 5]) p2 = some (.lst [.ref p1, .non, .str "file", .int 5]) := upd_same
          have s12 := s1.trans s2
          generalize upd (upd H3 p1 (.lst xs)) p2 (.lst [.ref p1, .non, .str "file", .int 5]) = H5 at hL hP s12 ⊢
          have hrow5 := hrow3.same s12
          obtain ⟨ys5, hy5⟩ := hrow5.lst
          refine ⟨_, rfl, ρ, 4, rfl, by decide, by decide, hrow5, fun jv H6 j0 j4 hrow6 hb6 => ?_⟩
          obtain ⟨j, rfl⟩ : ∃ j : Nat, jv = (j : Int) := ⟨jv.toNat, by omega⟩
          have hj : j < 4 := by omega
          have hj' : j < ([.ref p1, .non, .str "file", .int 5] : List V).length := hj
          obtain ⟨u, hu1, hu2⟩ := (hL.ty (hb6.ty hy5)).get (List.getElem?_eq_getElem hj')
          refine ⟨p2, _, _, _, rfl, rfl, SqL.of (hb6 _ _ n2 hP), atI_nat (List.getElem?_eq_getElem hj'), ?_⟩
          refine k _ u H6 hrow6 ((b3.trans s12.but).trans hb6) hu2 (Sh_leaf ?_)
          have := List.mem_of_getElem? hu1
          simp only [List.mem_cons, List.not_mem_nil, or_false] at this
          rcases this with rfl | rfl | rfl | rfl <;> rfl
        · refine ⟨_, rfl, rfl, _, rfl, ?_⟩
          refine ite2 (fun c1 => ?_) (fun c1 => ?_)
          · refine ⟨_, rfl, a, xs, rfl, ty3.tk.sq hS, fun p1 hp1 => ?_⟩
            have s1 := same_new (o := .tup xs.reverse) hp1
            refine ⟨_, rfl, _, rfl, ?_⟩
            show rSlA K (.ref a) none (some ((1 : Nat) : Int)) _ _
            refine slTo 1 (s1.tup (ty3.tk.sq hS)) fun z1 H5 hz1 s2 => ?_
            refine catA (s2.tup (.inl (.inl upd_same))) hz1 (by rw [List.length_reverse, List.length_take]; omega) fun z2 H6 hz2 s3 => ?_
            have s13 := (s1.trans s2).trans s3
            have hA6 := (hA.ty ty3).same s13
            refine k _ (.tup ((t.ents.map pU).reverse ++ (t.ents.map pU).take 1)) H6 (hrow3.same s13) (b3.trans s13.but) (.tup hz2 (hA6.rev.app (hA6.take _))) ?_
            refine Sh_cut hd hn fun w hw => .inl ?_
            rcases List.mem_append.mp hw with hw | hw
            · exact List.mem_reverse.mp hw
            · exact List.mem_of_mem_take hw
          · refine ⟨_, rfl, _, rfl, a, xs, rfl, .inr (ty3.tk.sq hS), _, _, rfl, rfl, ρ, _, rfl, by omega, by omega, hrow3, fun av H4 a0 a1 hrow4 hb4 => ?_⟩
            have en : (xs.length : Int) + 1 = ((xs.length + 1 : Nat) : Int) := by omega
            obtain ⟨at_, rfl⟩ : ∃ j : Nat, av = (j : Int) := ⟨av.toNat, by omega⟩
            obtain ⟨ys4, hy4⟩ := hrow4.lst
            have ty4 := ty3.trans (hb4.ty hy3)
            have b4 := b3.trans hb4
            refine ⟨_, rfl, _, rfl, _, rfl, ?_⟩
            refine slTo at_ (ty4.tk.sq hS) fun z1 H5 hz1 s5 => ?_
            have hrow5 := hrow4.same s5
            obtain ⟨ys5, hy5⟩ := hrow5.lst
            refine ⟨_, rfl, ρ, rfl, hrow5, fun ov ou H6 hrow6 hb6 han6 hodd => ⟨(by show 1 ≤ sizeLine; decide), fun z2 hz2 => ?_⟩⟩
            obtain ⟨ys6, hy6⟩ := hrow6.lst
            have s7 := same_new (o := .tup [ov]) hz2
            refine catA (s7.tup ((hb6.ty hy5).tk.sq hz1)) (.inl (.inl upd_same)) (by rw [List.length_take, List.length_singleton]; omega) fun z3 H8 hz3 s8 => ?_
            have s78 := s7.trans s8
            have hrow8 := hrow6.same s78
            obtain ⟨ys8, hy8⟩ := hrow8.lst
            refine ⟨_, rfl, _, rfl, _, rfl, ρ, 2, rfl, by decide, by decide, hrow8, fun pv H9 p0 p2 hrow9 hb9 => ?_⟩
            have ty9 : Ty ρ.r H H9 := (((ty4.trans s5.ty).trans (hb6.ty hy5)).trans s78.ty).trans (hb9.ty hy8)
            have b9 : But ρ.r H H9 := (((b4.trans s5.but).trans hb6).trans s78.but).trans hb9
            obtain ⟨pn, rfl⟩ : ∃ j : Nat, pv = (j : Int) := ⟨pv.toNat, by omega⟩
            refine ⟨_, _, rfl, rfl, _, rfl, ?_⟩
            have ea : ((at_ : Nat) : Int) + ((pn : Nat) : Int) = ((at_ + pn : Nat) : Int) := by omega
            rw [ea]
            dsimp only [tNoPart]
            refine slFrom (at_ + pn) (ty9.tk.sq hS) fun z4 H10 hz4 s10 => ?_
            refine catA (s10.tup ((hb9.ty hy8).tk.sq hz3)) hz4 (by rw [List.length_append, List.length_take, List.length_singleton, List.length_drop]; omega) fun z5 H11 hz5 s11 => ?_
            have s1011 := s10.trans s11
            have hA11 := (hA.ty ty9).same s1011
            have ho11 : An K ρ.r H11 ov ou := ((han6.same s78).ty (hb9.ty hy8)).same s1011
            refine k _ (.tup ((t.ents.map pU).take at_ ++ [ou] ++ (t.ents.map pU).drop (at_ + pn))) H11 (hrow9.same s1011) (b9.trans s1011.but) (.tup hz5 (((hA11.take _).app (.cons ho11 .nil)).app (hA11.drop _))) ?_
            refine Sh_cut hd hn fun w hw => ?_
            rcases List.mem_append.mp hw with hw | hw
            · rcases List.mem_append.mp hw with hw | hw
              · exact .inl (List.mem_of_mem_take hw)
              · rw [List.mem_singleton.mp hw]
                exact .inr fun x t' hx => hodd x t' hx m (by omega)
            · exact .inl (List.mem_of_mem_drop hw)
theorem ok_l_spoilt (T : Tx P K mg) : ∀ m : Nat, FnOk P w K mg base CX0 (m + 2) T.f_l_spoilt T.d_l_spoilt ["_law_row", "_law_tree_here", "_law_deep"] (spSpoilt K m)
  | 0 => by
    have no : ∀ vs H Q E, ¬ spSpoilt K 0 vs H Q E := fun vs H Q E h => by
      obtain ⟨_, _, _, _, _, _, _, _, _, h1, h2, _⟩ := h
      omega
    exact ⟨fun vs H Q E h => absurd h (no vs H Q E), fun A outer s H args us vs Q E _ _ _ _ h => absurd h (no vs H Q E)⟩
  | m + 1 => ok_l_spoilt_n T (ok_l_spoilt T m)
end
end Toy


namespace Toy
open PySem L2 Cw
section
variable {P : Program} {w : World} {K : PySem.W.Frag} {mg : Str → Option Value} {base : Heap}
open Cw
def spTold (K : PySem.W.Frag) : Sp := fun vs H Q _ => ∃ (v : V) (u : U) (r : Addr), vs = [v] ∧ An K r H v u ∧ Sh 5 u ∧
  (match fault 5 [] u with
  | some q => ∀ l qa H', H' l = some (.lst [.ref qa]) → SqP K H' qa q → Same H H' → Q (.ref l) H'
  | none => ∀ l H', H' l = some (.lst []) → Same H H' → Q (.ref l) H')
theorem ok_l_told (T : Tx P K mg) : FnOk P w K mg base CX0 12 T.f_l_told T.d_l_told ["_law_value"] (spTold K) := by
  refine T.F_l_told.ok sc_l_told (fun vs H Q E h => ?_) (fun cdv A outer s H vs Q E hr h => ?_)
  · obtain ⟨v, u, r, rfl, _⟩ := h
    rfl
  · obtain ⟨v, u, r, rfl, him, hs, k⟩ := h
    refine ⟨_, (pss_cons (ps_set (i := 1) sc_l_told.nd rfl (Or.inl rfl) (pe_lst pa_nil))
  (pss_cons (ps_try_as (i := 2) rfl rfl sc_l_told.nd rfl rfl ⟨rfl, by decide, .inl T.m_BadTree⟩ takes0 (fun W pn xe tk _ =>
  (pss_one (ps_if (pt_cmpR op_notN (pe_callS (ok_check_tree T 5) (hr.mono (by decide)) rfl T.m_check_tree T.F_check_tree.kp T.b_check_tree (fun σ => passAt tk σ) (pa_cons (pv 0) pa_nil)) pe_non (nomark _))
  (pss_one (ps_set (i := 1) sc_l_told.nd rfl (Or.inl rfl) (pe_lst (pa_cons pe_str pa_nil))))
  pss_nil))) (fun a oe cls d pn hz hf =>
  (pss_cons (ps_set (i := 1) sc_l_told.nd rfl (Or.inl rfl) (pe_lst (pa_cons (pe_xf T.Y_BadTree T.A_BadTree_path hz hf (pv 2)) pa_nil)))
  (pss_one (ps_if (pt_not (pt_val (pe_callB (call_isX T.E_BadTree hz hf) (by rfl) T.n_isinstance (by decide +kernel) (pa_cons (pv 2) (pa_cons (pe_glob (v := .ref T.C_WalkError) rfl T.m_WalkError rfl) pa_nil)))))
  (pss_one (ps_set (i := 1) sc_l_told.nd rfl (Or.inl rfl) (pe_lst (pa_cons pe_str pa_nil))))
  pss_nil)))))
  (pss_one (ps_ret (pv 1))))), ?_⟩
    refine ⟨Nat.zero_le _, fun p0 hp0 => ?_⟩
    have s0 := same_new (o := .lst []) hp0
    have hP : upd H p0 (.lst []) p0 = some (.lst []) := upd_same
    refine ⟨_, rfl, v, u, r, rfl, by decide, by decide, him.same s0, hs, ?_⟩
    cases hf : fault 5 [] u with
    | some q =>
      rw [hf] at k
      dsimp only at k ⊢
      intro d pb H1 hd hpb s1
      refine ⟨true, T.te_BadTree, (fun _ a ha => ?_), (fun q => nomatch q)⟩
      refine ⟨_, rfl, rfl, rfl, d, _, _, rfl, hd, rfl, (by show 1 ≤ sizeLine; decide), fun l hl => ?_⟩
      have s2 := same_new (o := .lst [.ref pb]) hl
      refine ⟨_, rfl, rfl, ⟨d, _, rfl, s2 _ _ hd⟩, _, _, true, rfl, (fun u r => r), T.kw_BadTree, true, rfl, ?_⟩
      exact ⟨_, rfl, k l pb _ upd_same (s2.tup hpb) ((s0.trans s1).trans s2)⟩
    | none =>
      rw [hf] at k
      dsimp only at k ⊢
      intro H1 s1
      exact ⟨rfl, _, rfl, iteF ⟨_, rfl, k p0 H1 (s1 _ _ hP) (s0.trans s1)⟩⟩
end
end Toy


namespace Toy
open PySem L2 Cw
section
variable {P : Program} {w : World} {K : PySem.W.Frag} {mg : Str → Option Value} {base : Heap}
open Cw
theorem noNum_strs : ∀ p : List Nat, noNums (p.map fun c => PyData.str (S [c])) = true
  | [] => rfl
  | c :: p => by
    show (noNum (.str (S [c])) && noNums (p.map fun c => PyData.str (S [c]))) = true
    rw [noNum_strs p]; rfl
theorem noNum_path (p : List Nat) : noNum (pathD p) = true := noNum_strs p
theorem noNum_rows : ∀ l : List (List Nat × Th), noNums (l.map rowD) = true
  | [] => rfl
  | q :: l => by
    show (noNum (rowD q) && noNums (l.map rowD)) = true
    rw [noNum_rows l, Bool.and_true]
    show (noNum (pathD q.1) && (true && true)) = true
    rw [noNum_path]; rfl
theorem eqv_refl {d : PyData} (h : noNum d = true) : PyData.eqv d d = true := (eqv_iff d d h).mpr rfl
def spLaw (K : PySem.W.Frag) : Sp := fun vs H Q _ => ∃ (a : Addr) (ns : List Int), vs = [.ref a] ∧ SqL K H a (ns.map V.int) ∧ ns.length ≤ 63 ∧ ∀ H', Q (.bl true) H'
theorem ok_law (T : Tx P K mg) : FnOk P w K mg base CX0 40 T.f_law T.d_law ["_law_script"] (spLaw K) := by
  refine T.F_law.ok sc_law (fun vs H Q E h => ?_) (fun cdv A outer s H vs Q E hr h => ?_)
  · obtain ⟨a, ns, rfl, _⟩ := h
    rfl
  · obtain ⟨sa, ns, rfl, hS, hlen, k⟩ := h
    refine ⟨_, (pss_cons (ps_set (i := 1) sc_law.nd rfl (Or.inl rfl) (pe_call (ok_l_draws T) (hr.mono (by decide)) rfl T.m_l_draws T.F_l_draws.kp T.b_l_draws .nil pass0 (pa_cons (pv 0) pa_nil)))
  (pss_cons (ps_for PassesOwn.never rfl (pi_range1 rfl T.n_range (pa_cons pe_int pa_nil)) (pg_name (i := 2) sc_law.nd rfl (Or.inl rfl))
  (pss_cons (ps_set (i := 3) sc_law.nd rfl (Or.inl rfl) (pe_call (ok_l_tree T 5) (hr.mono (by decide)) rfl T.m_l_tree T.F_l_tree.kp T.b_l_tree .nil pass0 (pa_cons (pv 1) (pa_cons pe_int pa_nil))))
  (pss_cons (ps_set (i := 4) sc_law.nd rfl (Or.inl rfl) (pe_lst pa_nil))
  (pss_cons (ps_for PassesOwn.never rfl (pi_list (pe_call (ok_l_paths T 5) (hr.mono (by decide)) rfl T.m_l_paths T.F_l_paths.kp T.b_l_paths .nil pass0 (pa_cons (pv 3) (pa_cons (pe_tup pa_nil) pa_nil)))) (pg_tup rfl (pgs_cons (pg_name (i := 5) sc_law.nd rfl (Or.inl rfl)) (pgs_cons (pg_name (i := 6) sc_law.nd rfl (Or.inl rfl)) pgs_nil)))
  (pss_one (ps_expr (pe_bm PySem.F.plainAttrs_list PySem.F.slot_list_append PySem.F.type_list_append mt_append (pv 4) (pa_cons (pe_tup (pa_cons (pv 5) (pa_cons (pe_ifExp (pt_cmpR (op_eqD hr.units) (pv 6) pe_str (nomark _)) pe_str pe_str) pa_nil))) pa_nil)))))
  (pss_cons (ps_if (PW.pt (pw_or (pt_cmpR (op_neD hr.units) (pe_call (ok_l_told T) (hr.mono (by decide)) rfl T.m_l_told T.F_l_told.kp T.b_l_told .nil pass0 (pa_cons (pv 3) pa_nil)) (pe_lst pa_nil) (nomark _)) (pw_or (pt_cmpR (op_neD hr.units) (pe_call (ok_things T 5) (hr.mono (by decide)) rfl T.m_things T.F_things.kp T.b_things .nil pass0 (pa_cons (pv 3) pa_nil)) (pv 4) (nomark _)) (pw_or1 (pt_cmpR op_ne (pe_call (ok_size T 5) (hr.mono (by decide)) rfl T.m_size T.F_size.kp T.b_size .nil pass0 (pa_cons (pv 3) pa_nil)) (pe_callB call_len_seq (by rfl) T.n_len PySem.boot_len (pa_cons (pv 4) pa_nil)) (nomark _))))))
  (pss_one (ps_ret pe_bl))
  pss_nil)
  (pss_cons (ps_set (i := 7) sc_law.nd rfl (Or.inl rfl) (pe_call (ok_write_tree T 9) (hr.mono (by decide)) rfl T.m_write_tree T.F_write_tree.kp T.b_write_tree .nil pass0 (pa_cons (pv 3) pa_nil)))
  (pss_cons (ps_if (PW.pt (pw_or (pt_cmpR op_ne (pv 7) (pe_call (ok_l_text T 9) (hr.mono (by decide)) rfl T.m_l_text T.F_l_text.kp T.b_l_text .nil pass0 (pa_cons (pv 3) pa_nil)) (nomark _)) (pw_or1 (pt_cmpR (op_neD hr.units) (pe_call (ok_read_tree T 8) (hr.mono (by decide)) rfl T.m_read_tree T.F_read_tree.kp T.b_read_tree .nil passL (pa_cons (pv 7) pa_nil)) (pv 3) (nomark _)))))
  (pss_one (ps_ret pe_bl))
  pss_nil)
  (pss_cons (ps_set (i := 8) sc_law.nd rfl (Or.inl rfl) (pv 3))
  (pss_cons (ps_for PassesOwn.never rfl (pi_range1 rfl T.n_range (pa_cons (pe_op op_add pe_int (pe_call (ok_l_pick T) (hr.mono (by decide)) rfl T.m_l_pick T.F_l_pick.kp T.b_l_pick .nil pass0 (pa_cons (pv 1) (pa_cons pe_int pa_nil)))) pa_nil)) (pg_name (i := 9) sc_law.nd rfl (Or.inl rfl))
  (pss_one (ps_if (pt_cmpR (op_eqD hr.units) (pe_call (ok_l_fault T 5) (hr.mono (by decide)) rfl T.m_l_fault T.F_l_fault.kp T.b_l_fault .nil pass0 (pa_cons (pv 8) (pa_cons (pe_tup pa_nil) pa_nil))) (pe_lst pa_nil) (nomark _))
  (pss_one (ps_set (i := 8) sc_law.nd rfl (Or.inl rfl) (pe_call (ok_l_spoilt T 5) (hr.mono (by decide)) rfl T.m_l_spoilt T.F_l_spoilt.kp T.b_l_spoilt .nil pass0 (pa_cons (pv 1) (pa_cons (pv 8) (pa_cons pe_int pa_nil))))))
  pss_nil)))
  (pss_one (ps_if (pt_cmpR (op_neD hr.units) (pe_call (ok_l_told T) (hr.mono (by decide)) rfl T.m_l_told T.F_l_told.kp T.b_l_told .nil pass0 (pa_cons (pv 8) pa_nil)) (pe_call (ok_l_fault T 5) (hr.mono (by decide)) rfl T.m_l_fault T.F_l_fault.kp T.b_l_fault .nil pass0 (pa_cons (pv 8) (pa_cons (pe_tup pa_nil) pa_nil))) (nomark _))
  (pss_one (ps_ret pe_bl))
  pss_nil)))))))))))
  (pss_one (ps_ret (pe_and (pe_cmpR (op_eqD hr.units) (pe_call (ok_read_tree T 8) (hr.mono (by decide)) rfl T.m_read_tree T.F_read_tree.kp T.b_read_tree .nil passL (pa_cons pe_str pa_nil)) (pe_tup pa_nil) (nomark _)) (pe_and (pe_cmpR op_eq (pe_call (ok_write_tree T 9) (hr.mono (by decide)) rfl T.m_write_tree T.F_write_tree.kp T.b_write_tree .nil pass0 (pa_cons (pe_tup pa_nil) pa_nil)) pe_str (nomark _)) (pe_and (pe_cmpR (op_eqD hr.units) (pe_call (ok_things T 5) (hr.mono (by decide)) rfl T.m_things T.F_things.kp T.b_things .nil pass0 (pa_cons (pe_tup pa_nil) pa_nil)) (pe_lst pa_nil) (nomark _)) (pe_one (pe_cmpR op_eq (pe_call (ok_size T 5) (hr.mono (by decide)) rfl T.m_size T.F_size.kp T.b_size .nil pass0 (pa_cons (pe_tup pa_nil) pa_nil)) pe_int (nomark _)))))))))), ?_⟩
    refine ⟨_, rfl, sa, ns, rfl, hS, fun r q H1 s1 hr0 hrow => ?_⟩
    refine ⟨6, rfl, by decide, by decide, for_range (lo := 0) (n := 6) (fun i σ H' => ∃ v3 v4 v5 v6 v7 v8 v9 v10, σ = [some (.ref sa), some (.ref r), v3, v4, v5, v6, v7, v8, v9, v10] ∧ Row K H' ⟨r, q, ns⟩)
      ⟨_, _, _, _, _, _, _, _, rfl, hrow⟩ ?_ ?_⟩
    · rintro i σ H2 hi ⟨v3, v4, v5, v6, v7, v8, v9, v10, rfl, hrow2⟩
      refine ⟨_, rfl, ⟨r, q, ns⟩, 0, rfl, hrow2, by decide, by decide, fun tr H3 t ht hdt hrow3 hb3 him3 => ?_⟩
      have ht5 : t.dep ≤ 5 := by omega
      have hl3 := tx_len5 (t := t) ht5
      refine ⟨Nat.zero_le _, fun rl hrl => ?_⟩
      have s4 := same_new (o := .lst []) hrl
      have hrl4 : upd H3 rl (.lst []) rl = some (.lst []) := upd_same
      generalize upd H3 rl (.lst []) = H4 at s4 hrl4 ⊢
      refine ⟨_, rfl, Nat.zero_le _, fun pe hpe => ?_⟩
      have s5 := same_new (o := .tup []) hpe
      have hpe5 : SqP K (upd H4 pe (.tup [])) pe [] := .inl (.inl upd_same)
      generalize upd H4 pe (.tup []) = H5 at s5 hpe5 ⊢
      have him5 := him3.same (s4.trans s5)
      refine ⟨tr, t, pe, [], rfl, him5, ht, ht5, by omega, by omega, hpe5, by decide, fun lp H6 ls hlp0 hlp hls s6 => ?_⟩
      have s36 := (s4.trans s5).trans s6
      have hrl5 := s5 _ _ hrl4
      have nlr : rl ≠ lp := ne_of_none hrl5 hlp0
      have hrl6 := s6 _ _ hrl5
      refine ⟨lp, rfl, ⟨_, SqL.of hlp⟩, for_list (K := K) (a := lp) (xs := ls) (fun j σ H' => ∃ v5 v6 zs, σ = [some (.ref sa), some (.ref r), some (.int (0 + (i : Int))), some tr, some (.ref rl), v5, v6, v8, v9, v10] ∧ Same H3 H' ∧ Tk H6 H' ∧ H' lp = some (.lst ls) ∧ H' rl = some (.lst zs) ∧ Ims K H' zs (((pts [] t).take j).map rowD))
        ⟨_, _, _, rfl, s36, Tk.refl _, hlp, hrl6, .nil⟩ (fun j σ H' _ ⟨_, _, _, _, _, _, h, _⟩ => SqL.of h) ?_ ?_⟩
      · rintro j x σ H7 hj ⟨v5, v6, zs, rfl, e7, tk7, hlp7, hrl7, hz7⟩
        obtain ⟨d, hd1, hd2⟩ := (hls.tk tk7).get hj
        rw [List.getElem?_map] at hd1
        obtain ⟨⟨p, u⟩, hpu, rfl⟩ := Option.map_eq_some_iff.mp hd1
        obtain ⟨_, hu0, hud⟩ := pts_ok 5 [] t ht5 (by decide) ⟨by decide, by simp⟩ _ (List.mem_of_getElem? hpu)
        dsimp only at hu0 hud
        obtain ⟨qa, ys, rfl, hq, hys⟩ := hd2.tupI
        obtain ⟨x1, y, rfl, hx1, hy1⟩ := hys.two
        refine ⟨qa, _, rfl, hq, rfl, _, _, rfl, _, _, rfl, rfl, ?_⟩
        have hzl : zs.length ≤ (pts [] t).length := by rw [hz7.len, List.length_map, List.length_take]; omega
        have hpl := pts_len [] t
        have push : ∀ tp, H7 tp = none → (upd H7 tp (.tup [x1, .str (kindS u)])) rl = some (.lst zs) ∧ zs.length < sizeLine ∧ Same H3 (upd (upd H7 tp (.tup [x1, .str (kindS u)])) rl (.lst (zs ++ [.ref tp]))) ∧ Tk H6 (upd (upd H7 tp (.tup [x1, .str (kindS u)])) rl (.lst (zs ++ [.ref tp]))) ∧
            (upd (upd H7 tp (.tup [x1, .str (kindS u)])) rl (.lst (zs ++ [.ref tp]))) lp = some (.lst ls) ∧ Ims K (upd (upd H7 tp (.tup [x1, .str (kindS u)])) rl (.lst (zs ++ [.ref tp]))) (zs ++ [.ref tp]) (((pts [] t).take (j + 1)).map rowD) := fun tp htp => by
          have s8 := same_new (o := .tup [x1, .str (kindS u)]) htp
          have h8 := s8 _ _ hrl7
          have tk9 := tk_updL (o := .lst (zs ++ [.ref tp])) h8
          refine ⟨h8, Nat.lt_of_le_of_lt (show zs.length ≤ 100000 by omega) (by decide), ?_, (tk7.trans s8.tk).trans tk9, ?_, ?_⟩
          · exact fun b o e => by rw [upd_ne (ne_of_none e hrl)]; exact s8 _ _ (e7 _ _ e)
          · rw [upd_ne (Ne.symm nlr)]; exact s8 _ _ hlp7
          · rw [take_more hpu, List.map_append]
            exact ((hz7.same s8).tk tk9).app (.cons ((Im.new htp (.cons hx1 (.cons (.str _) .nil))).tk tk9) .nil)
        refine ⟨_, rfl, .inl ⟨rfl, _, SqL.of hrl7⟩, _, rfl, _, rfl, _, _, hy1.dp, .str "file", shaped_D (by show u.dep ≤ 32; omega), shaped_file, _, rfl, ?_⟩
        rw [eqv_file u hu0]
        by_cases cu : u = .file
        · rw [decide_eq_true cu]
          have ek : kindS u = "file" := if_pos cu
          rw [ek] at push
          refine iteT ⟨(by show 2 ≤ sizeLine; decide), fun tp htp => ?_⟩
          obtain ⟨h1, h2, h3, h4, h5, h6⟩ := push tp htp
          exact ⟨rl, zs, _, rfl, rfl, h1, h2, _, _, _, rfl, h3, h4, h5, upd_same, h6⟩
        · rw [decide_eq_false cu]
          have ek : kindS u = "folder" := if_neg cu
          rw [ek] at push
          refine iteF ⟨(by show 2 ≤ sizeLine; decide), fun tp htp => ?_⟩
          obtain ⟨h1, h2, h3, h4, h5, h6⟩ := push tp htp
          exact ⟨rl, zs, _, rfl, rfl, h1, h2, _, _, _, rfl, h3, h4, h5, upd_same, h6⟩
      · rintro σ H7 ⟨v5, v6, zs, rfl, e7, tk7, hlp7, hrl7, hz7⟩
        have hll : ls.length = (pts [] t).length := by rw [hls.len, List.length_map]
        rw [hll, List.take_length] at hz7
        have hrow7 := hrow3.same e7
        have him7 := him3.same e7
        have han7 : An K r H7 tr t.U := an_of (by rintro rfl; cases ht) him7
        have hf7 : fault 5 [] t.U = none := fault_U 5 [] t ht ht5
        -- told(tree) != []
        refine ⟨_, rfl, tr, t.U, r, rfl, han7, Sh_U 5 t ht5, ?_⟩
        rw [hf7]
        dsimp only
        intro l8 H8 hl8 e8
        refine ⟨Nat.zero_le _, fun l9 hl9 => ?_⟩
        have s9 := same_new (o := .lst []) hl9
        have e79 := e8.trans s9
        refine ⟨.list [], .list [], .lst (SqL.of (s9 _ _ hl8)) .nil, .lst (SqL.of upd_same) .nil, by decide +kernel, by decide +kernel, _, rfl, ?_⟩
        refine iteF ?_
        generalize upd H8 l9 (.lst []) = H9 at e79 ⊢
        -- things(tree) != rows
        refine ⟨_, rfl, tr, t, rfl, him7.same e79, ht, ht5, by decide, by omega, fun l10 H10 ws hl10 hws e10 => ?_⟩
        have hrl10 := e10 _ _ (e79 _ _ hrl7)
        have hrows : ∀ q ∈ pts [] t, okPath q.1 := fun q hq => (pts_ok 5 [] t ht5 (by decide) ⟨by decide, by simp⟩ q hq).1
        refine ⟨_, rfl, .list ((pts [] t).map rowD), .list ((pts [] t).map rowD), .lst (SqL.of hl10) hws.dp, .lst (SqL.of hrl10) ((hz7.same (e79.trans e10)).dp), shaped_rows hrows, shaped_rows hrows, _, rfl, ?_⟩
        rw [eqv_refl (show noNum (.list ((pts [] t).map rowD)) = true from noNum_rows _)]
        refine iteF ?_
        -- size(tree) != len(rows)
        have e710 := e79.trans e10
        refine ⟨_, rfl, tr, t, rfl, him7.same e710, ht, ht5, by decide, by omega, fun H11 e11 => ?_⟩
        have hzl : zs.length = (pts [] t).length := by rw [hz7.len, List.length_map]
        refine ⟨_, rfl, rl, zs, rfl, .inl (SqL.of (e11 _ _ hrl10)), rfl, _, rfl, ?_⟩
        rw [hzl, decide_eq_true rfl]
        refine iteF ?_
        have e711 := e710.trans e11
        -- the text
        refine ⟨_, rfl, tr, t, rfl, him7.same e711, ht, by omega, by omega, by omega, fun H12 e12 => ?_⟩
        have e712 := e711.trans e12
        refine ⟨_, rfl, _, rfl, tr, t, rfl, him7.same e712, ht, by omega, by omega, by omega, fun H13 e13 => ⟨rfl, _, rfl, ?_⟩⟩
        rw [decide_eq_true rfl]
        refine iteF ?_
        have e713 := e712.trans e13
        refine ⟨_, rfl, t.tx, rfl, (flat_tx t 8 (by omega)).1, by omega, ?_⟩
        rw [scan_tx (m := 8) ht (by omega)]
        dsimp only
        intro v14 H14 t14 e14 him14 hd14 hdp14 htx14
        obtain rfl := tx_inj hd14 ht htx14
        have e714 := e713.trans e14
        refine ⟨_, rfl, _, _, him14.dp, (him7.same e714).dp, shaped_D (by omega), shaped_D (by omega), _, rfl, ?_⟩
        rw [eqv_refl (noNum_D _)]
        refine iteF ?_
        -- spoilt
        have hrow14 := hrow7.same e714
        refine ⟨_, rfl, _, rfl, ⟨r, q, ns⟩, 2, rfl, by decide, by decide, hrow14, fun nv H15 n0 n2 hrow15 hb15 => ?_⟩
        obtain ⟨ys14, hy14⟩ := hrow14.lst
        have han15 : An K r H15 tr t14.U := (han7.same e714).ty (hb15.ty hy14)
        refine ⟨_, _, rfl, rfl, _, rfl, by omega, by omega, for_range (lo := 0) (n := ((1 : Int) + nv).toNat) (fun j σ H' => ∃ v10 vv uu, σ = [some (.ref sa), some (.ref r), some (.int (0 + (i : Int))), some tr, some (.ref rl), v5, v6, some (.str (S t14.tx)), some vv, v10] ∧ Row K H' ⟨r, q, ns⟩ ∧ An K r H' vv uu ∧ Sh 5 uu)
          ⟨v10, tr, t14.U, rfl, hrow15, han15, Sh_U 5 t14 ht5⟩ ?_ ?_⟩
        · rintro j σ H16 hj ⟨v10, vv, uu, rfl, hrow16, han16, hsh16⟩
          refine ⟨_, rfl, Nat.zero_le _, fun pe hpe => ?_⟩
          have s17 := same_new (o := .tup []) hpe
          refine ⟨vv, uu, r, pe, [], rfl, by decide, han16.same s17, hsh16, .inl (.inl upd_same), by decide, by simp, ?_⟩
          have hrow17 := hrow16.same s17
          have han17 := han16.same s17
          generalize upd H16 pe (.tup []) = H17 at s17 hrow17 han17 ⊢
          cases hf : fault 5 [] uu with
          | some qq =>
            dsimp only
            obtain ⟨r2, hr2, _, hrc⟩ := fault_mem _ _ _ _ hf
            intro l18 qa H18 hl18 hqa e18
            refine ⟨Nat.zero_le _, fun l19 hl19 => ?_⟩
            have s19 := same_new (o := .lst []) hl19
            refine ⟨.list [pathD qq], .list [], .lst (SqL.of (s19 _ _ hl18)) (.cons (dp_p (s19.tup hqa)) .nil), .lst (SqL.of upd_same) .nil, shaped_p (by rw [hr2]; simpa using hrc), by decide +kernel, _, rfl, ?_⟩
            refine iteF ?_
            exact ⟨_, vv, uu, rfl, (hrow17.same e18).same s19, (han17.same e18).same s19, hsh16⟩
          | none =>
            dsimp only
            intro l18 H18 hl18 e18
            refine ⟨Nat.zero_le _, fun l19 hl19 => ?_⟩
            have s19 := same_new (o := .lst []) hl19
            refine ⟨.list [], .list [], .lst (SqL.of (s19 _ _ hl18)) .nil, .lst (SqL.of upd_same) .nil, by decide +kernel, by decide +kernel, _, rfl, ?_⟩
            refine iteT ?_
            obtain ⟨t2, hd2, hdp2, rfl⟩ := valid_th 5 [] uu hsh16 hf
            have han19 := (han17.same e18).same s19
            have hrow19 := (hrow17.same e18).same s19
            refine ⟨_, rfl, _, rfl, ⟨r, q, ns⟩, vv, t2, 0, rfl, hrow19, im_of (by rintro rfl; cases hd2) han19, hd2, hdp2, rfl, by decide, fun v' u' H20 hrow20 hb20 han20 hsh20 => ?_⟩
            exact ⟨_, v', u', rfl, hrow20, han20, hsh20⟩
        · rintro σ H16 ⟨v10, vv, uu, rfl, hrow16, han16, hsh16⟩
          refine ⟨_, rfl, vv, uu, r, rfl, han16, hsh16, ?_⟩
          cases hf : fault 5 [] uu with
          | some qq =>
            dsimp only
            obtain ⟨r2, hr2, _, hrc⟩ := fault_mem _ _ _ _ hf
            have hq2 : ∀ c ∈ qq, c = 97 ∨ c = 98 ∨ c = 99 := by rw [hr2]; simpa using hrc
            intro l18 qa H18 hl18 hqa e18
            refine ⟨_, rfl, Nat.zero_le _, fun pe hpe => ?_⟩
            have s19 := same_new (o := .tup []) hpe
            refine ⟨vv, uu, r, pe, [], rfl, by decide, (han16.same e18).same s19, hsh16, .inl (.inl upd_same), by decide, by simp, ?_⟩
            rw [hf]
            dsimp only
            intro l20 qb H20 hl20 hqb e20
            have e1 := s19.trans e20
            refine ⟨.list [pathD qq], .list [pathD qq], .lst (SqL.of (e1 _ _ hl18)) (.cons (dp_p (e1.tup hqa)) .nil), .lst (SqL.of hl20) (.cons (dp_p hqb) .nil), shaped_p hq2, shaped_p hq2, _, rfl, ?_⟩
            rw [eqv_refl (by show (noNum (pathD qq) && true) = true; rw [noNum_path]; rfl)]
            refine iteF ?_
            exact ⟨_, _, _, _, _, _, _, _, rfl, ((hrow16.same e18).same s19).same e20⟩
          | none =>
            dsimp only
            intro l18 H18 hl18 e18
            refine ⟨_, rfl, Nat.zero_le _, fun pe hpe => ?_⟩
            have s19 := same_new (o := .tup []) hpe
            refine ⟨vv, uu, r, pe, [], rfl, by decide, (han16.same e18).same s19, hsh16, .inl (.inl upd_same), by decide, by simp, ?_⟩
            rw [hf]
            dsimp only
            intro l20 H20 hl20 e20
            have e1 := s19.trans e20
            refine ⟨.list [], .list [], .lst (SqL.of (e1 _ _ hl18)) .nil, .lst (SqL.of hl20) .nil, by decide +kernel, by decide +kernel, _, rfl, ?_⟩
            refine iteF ?_
            exact ⟨_, _, _, _, _, _, _, _, rfl, ((hrow16.same e18).same s19).same e20⟩
    · rintro σ H2 ⟨v3, v4, v5, v6, v7, v8, v9, v10, rfl, hrow2⟩
      have hroot : (Th.dir .non .non .non).isDir = true := rfl
      have e0 : ("" : Str) = S (Th.dir .non .non .non).tx := S_nil
      have imr : ∀ (H : Hp) (a : Addr), SqT K H a [] → Im K H (.ref a) (Th.dir .non .non .non).D := fun H a h => .tup h .nil
      rw [e0]
      refine ⟨(Th.dir .non .non .non).tx, rfl, (flat_tx _ 8 (by decide)).1, by decide, ?_⟩
      rw [scan_tx (m := 8) hroot (by decide)]
      dsimp only
      intro v3' H3 t3 e3 him3 hd3 hdp3 htx3
      obtain rfl := tx_inj hd3 hroot htx3
      refine ⟨Nat.zero_le _, fun p4 hp4 => ?_⟩
      have s4 := same_new (o := .tup []) hp4
      refine ⟨(Th.dir .non .non .non).D, (Th.dir .non .non .non).D, (him3.same s4).dp, (imr _ p4 (.inl (.inl upd_same))).dp, shaped_D (by decide), shaped_D (by decide), _, rfl, ?_⟩
      rw [eqv_refl (noNum_D _)]
      refine iteT ?_
      generalize upd H3 p4 (.tup []) = H4
      refine ⟨Nat.zero_le _, fun p5 hp5 => ?_⟩
      refine ⟨.ref p5, _, rfl, imr _ p5 (.inl (.inl upd_same)), hroot, by decide, by decide, by decide, fun H6 e6 => ⟨rfl, _, rfl, ?_⟩⟩
      rw [decide_eq_true rfl]
      refine iteT ?_
      refine ⟨Nat.zero_le _, fun p7 hp7 => ?_⟩
      refine ⟨.ref p7, _, rfl, imr _ p7 (.inl (.inl upd_same)), hroot, by decide, by decide, by decide, fun l8 H8 xs8 hl8 hx8 e8 => ⟨Nat.zero_le _, fun p9 hp9 => ?_⟩⟩
      have s9 := same_new (o := .lst []) hp9
      cases hx8
      refine ⟨.list [], .list [], .lst (SqL.of (s9 _ _ hl8)) .nil, .lst (SqL.of upd_same) .nil, by decide +kernel, by decide +kernel, _, rfl, ?_⟩
      refine iteT ?_
      refine ⟨Nat.zero_le _, fun p10 hp10 => ?_⟩
      refine ⟨.ref p10, _, rfl, imr _ p10 (.inl (.inl upd_same)), hroot, by decide, by decide, by decide, fun H11 e11 => ⟨rfl, ?_⟩⟩
      exact k _
end
end Toy


namespace Toy
open PySem L2 Cw
theorem all_mk {l : PySem.W.OpenLaw} {w : World} {K : PySem.W.Frag} {h : Heap} {mg : Str → Option Value} {fa : Addr} (X : K.In h) (G : h.Ns mainGlobals mg) (hfa : mg "law" = some (.ref fa))
    {t_FILE : Tok}
    {t_FOLDER : Tok}
    {a_NAMES : Addr}
    {od_NAMES : Option Addr}
    {nn_NAMES : Nat}
    {sl_NAMES : Array (Option Value)}
    {tk0_NAMES tk1_NAMES tk2_NAMES : Tok}
    {C_WalkError : Addr}
    {C_Reader : Addr}
    {f_is_name : Addr}
    {od_is_name an_is_name : Option Addr}
    {sl_is_name : Array (Option Value)}
    {oc_is_name kV_is_name dc_is_name pm_is_name cd_is_name ct_is_name : Value}
    {f_sort_of : Addr}
    {od_sort_of an_sort_of : Option Addr}
    {sl_sort_of : Array (Option Value)}
    {oc_sort_of kV_sort_of dc_sort_of pm_sort_of cd_sort_of ct_sort_of : Value}
    {f_is_thing : Addr}
    {od_is_thing an_is_thing : Option Addr}
    {sl_is_thing : Array (Option Value)}
    {oc_is_thing kV_is_thing dc_is_thing pm_is_thing cd_is_thing ct_is_thing : Value}
    {f_is_content : Addr}
    {od_is_content an_is_content : Option Addr}
    {sl_is_content : Array (Option Value)}
    {oc_is_content kV_is_content dc_is_content pm_is_content cd_is_content ct_is_content : Value}
    {f_check_folder : Addr}
    {od_check_folder an_check_folder : Option Addr}
    {sl_check_folder : Array (Option Value)}
    {oc_check_folder kV_check_folder dc_check_folder pm_check_folder cd_check_folder ct_check_folder : Value}
    {f_check_tree : Addr}
    {od_check_tree an_check_tree : Option Addr}
    {sl_check_tree : Array (Option Value)}
    {oc_check_tree kV_check_tree dc_check_tree pm_check_tree cd_check_tree ct_check_tree : Value}
    {f_things_in : Addr}
    {od_things_in an_things_in : Option Addr}
    {sl_things_in : Array (Option Value)}
    {oc_things_in kV_things_in dc_things_in pm_things_in cd_things_in ct_things_in : Value}
    {f_things : Addr}
    {od_things an_things : Option Addr}
    {sl_things : Array (Option Value)}
    {oc_things kV_things dc_things pm_things cd_things ct_things : Value}
    {f_size : Addr}
    {od_size an_size : Option Addr}
    {sl_size : Array (Option Value)}
    {oc_size kV_size dc_size pm_size cd_size ct_size : Value}
    {f_write_tree : Addr}
    {od_write_tree an_write_tree : Option Addr}
    {sl_write_tree : Array (Option Value)}
    {oc_write_tree kV_write_tree dc_write_tree pm_write_tree cd_write_tree ct_write_tree : Value}
    {f_Reader_init : Addr}
    {od_Reader_init an_Reader_init : Option Addr}
    {sl_Reader_init : Array (Option Value)}
    {oc_Reader_init kV_Reader_init dc_Reader_init pm_Reader_init cd_Reader_init ct_Reader_init : Value}
    {f_Reader_sign : Addr}
    {od_Reader_sign an_Reader_sign : Option Addr}
    {sl_Reader_sign : Array (Option Value)}
    {oc_Reader_sign kV_Reader_sign dc_Reader_sign pm_Reader_sign cd_Reader_sign ct_Reader_sign : Value}
    {f_Reader_thing : Addr}
    {od_Reader_thing an_Reader_thing : Option Addr}
    {sl_Reader_thing : Array (Option Value)}
    {oc_Reader_thing kV_Reader_thing dc_Reader_thing pm_Reader_thing cd_Reader_thing ct_Reader_thing : Value}
    {f_Reader_content : Addr}
    {od_Reader_content an_Reader_content : Option Addr}
    {sl_Reader_content : Array (Option Value)}
    {oc_Reader_content kV_Reader_content dc_Reader_content pm_Reader_content cd_Reader_content ct_Reader_content : Value}
    {f_read_tree : Addr}
    {od_read_tree an_read_tree : Option Addr}
    {sl_read_tree : Array (Option Value)}
    {oc_read_tree kV_read_tree dc_read_tree pm_read_tree cd_read_tree ct_read_tree : Value}
    {f_l_draws : Addr}
    {od_l_draws an_l_draws : Option Addr}
    {sl_l_draws : Array (Option Value)}
    {oc_l_draws kV_l_draws dc_l_draws pm_l_draws cd_l_draws ct_l_draws : Value}
    {f_l_pick : Addr}
    {od_l_pick an_l_pick : Option Addr}
    {sl_l_pick : Array (Option Value)}
    {oc_l_pick kV_l_pick dc_l_pick pm_l_pick cd_l_pick ct_l_pick : Value}
    {f_l_tree : Addr}
    {od_l_tree an_l_tree : Option Addr}
    {sl_l_tree : Array (Option Value)}
    {oc_l_tree kV_l_tree dc_l_tree pm_l_tree cd_l_tree ct_l_tree : Value}
    {f_l_text : Addr}
    {od_l_text an_l_text : Option Addr}
    {sl_l_text : Array (Option Value)}
    {oc_l_text kV_l_text dc_l_text pm_l_text cd_l_text ct_l_text : Value}
    {f_l_paths : Addr}
    {od_l_paths an_l_paths : Option Addr}
    {sl_l_paths : Array (Option Value)}
    {oc_l_paths kV_l_paths dc_l_paths pm_l_paths cd_l_paths ct_l_paths : Value}
    {f_l_odd : Addr}
    {od_l_odd an_l_odd : Option Addr}
    {sl_l_odd : Array (Option Value)}
    {oc_l_odd kV_l_odd dc_l_odd pm_l_odd cd_l_odd ct_l_odd : Value}
    {f_l_spoilt : Addr}
    {od_l_spoilt an_l_spoilt : Option Addr}
    {sl_l_spoilt : Array (Option Value)}
    {oc_l_spoilt kV_l_spoilt dc_l_spoilt pm_l_spoilt cd_l_spoilt ct_l_spoilt : Value}
    {f_l_is_entry : Addr}
    {od_l_is_entry an_l_is_entry : Option Addr}
    {sl_l_is_entry : Array (Option Value)}
    {oc_l_is_entry kV_l_is_entry dc_l_is_entry pm_l_is_entry cd_l_is_entry ct_l_is_entry : Value}
    {f_l_fault : Addr}
    {od_l_fault an_l_fault : Option Addr}
    {sl_l_fault : Array (Option Value)}
    {oc_l_fault kV_l_fault dc_l_fault pm_l_fault cd_l_fault ct_l_fault : Value}
    {f_l_told : Addr}
    {od_l_told an_l_told : Option Addr}
    {sl_l_told : Array (Option Value)}
    {oc_l_told kV_l_told dc_l_told pm_l_told cd_l_told ct_l_told : Value}
    {f_law : Addr}
    {od_law an_law : Option Addr}
    {sl_law : Array (Option Value)}
    {oc_law kV_law dc_law pm_law cd_law ct_law : Value}
    {C_BadTree f_BadTree_init cc_BadTree cd_BadTree N_BadTree : Addr}
    {nm_BadTree qn_BadTree : Str}
    {bs_BadTree sb_BadTree bm_BadTree : List Value}
    {sn_BadTree : List Str}
    {ab_BadTree : Bool}
    {co_BadTree : Option Bool}
    {dd_BadTree od_BadTree_init an_BadTree_init cld_BadTree cdd_BadTree : Option Addr}
    {k0_BadTree k1_BadTree k2_BadTree k3_BadTree k5_BadTree : Option Value}
    {oc_BadTree_init kV_BadTree_init dc_BadTree_init pm_BadTree_init ct_BadTree_init : Value}
    {cl_BadTree ccl_BadTree : Value}
    {sl_BadTree_init csl_BadTree ccs_BadTree : Array (Option Value)}
    {vs_BadTree : Array Value}
    {fi_BadTree : Str}
    {tf_BadTree : Tok}
    {C_BadText f_BadText_init cc_BadText cd_BadText N_BadText : Addr}
    {nm_BadText qn_BadText : Str}
    {bs_BadText sb_BadText bm_BadText : List Value}
    {sn_BadText : List Str}
    {ab_BadText : Bool}
    {co_BadText : Option Bool}
    {dd_BadText od_BadText_init an_BadText_init cld_BadText cdd_BadText : Option Addr}
    {k0_BadText k1_BadText k2_BadText k3_BadText k5_BadText : Option Value}
    {oc_BadText_init kV_BadText_init dc_BadText_init pm_BadText_init ct_BadText_init : Value}
    {cl_BadText ccl_BadText : Value}
    {sl_BadText_init csl_BadText ccs_BadText : Array (Option Value)}
    {vs_BadText : Array Value}
    {fi_BadText : Str}
    {tf_BadText : Tok}
    (zn_len : PySem.W.nsIn K mainGlobals "len" = some none)
    (zn_int : PySem.W.nsIn K mainGlobals "int" = some none)
    (zn_list : PySem.W.nsIn K mainGlobals "list" = some none)
    (zn_tuple : PySem.W.nsIn K mainGlobals "tuple" = some none)
    (zn_range : PySem.W.nsIn K mainGlobals "range" = some none)
    (zn_isinstance : PySem.W.nsIn K mainGlobals "isinstance" = some none)
    (zn_str : PySem.W.nsIn K mainGlobals "str" = some none)
    (gm_FILE : PySem.W.nsIn K mainGlobals "FILE" = some (some (.str "file" t_FILE)))
    (gm_FOLDER : PySem.W.nsIn K mainGlobals "FOLDER" = some (some (.str "folder" t_FOLDER)))
    (gm_NAMES : PySem.W.nsIn K mainGlobals "NAMES" = some (some (.ref a_NAMES)))
    (lk_NAMES : K.lookup a_NAMES = some ⟨.type "tuple", od_NAMES, .seq #[.str "a" tk0_NAMES, .str "b" tk1_NAMES, .str "c" tk2_NAMES] nn_NAMES, sl_NAMES⟩)
    (gm_WalkError : PySem.W.nsIn K mainGlobals "WalkError" = some (some (.ref C_WalkError)))
    (gm_Reader : PySem.W.nsIn K mainGlobals "Reader" = some (some (.ref C_Reader)))
    (pg_Reader : PySem.W.plainGet K C_Reader Str.empty = true)
    (hd_Reader : PySem.W.hasDictIn K C_Reader = true)
    (po_Reader : PySem.W.plainOver K C_Reader = true)
    (sa_Reader : PySem.W.findIn K (.ref C_Reader) "__setattr__" = some (some (.builtin "object.__setattr__")))
    (mk_Reader : PySem.W.makesIn K C_Reader = true)
    (kc_Reader : PySem.W.keepIn K (.ref C_Reader) = true)
    (na_Reader_text : PySem.W.findIn K (.ref C_Reader) "text" = some none)
    (na_Reader_spot : PySem.W.findIn K (.ref C_Reader) "spot" = some none)
    (gf_is_name : PySem.W.nsIn K mainGlobals "is_name" = some (some (.ref f_is_name)))
    (lf_is_name : K.lookup f_is_name = some ⟨oc_is_name, od_is_name, .func (PySem.W.fnOf "is_name" "is_name" (defArgs s_is_name) (defBody s_is_name) (defScope s_is_name) .none kV_is_name dc_is_name pm_is_name an_is_name cd_is_name ct_is_name), sl_is_name⟩)
    (cf_is_name : PySem.W.codeIn K cd_is_name "is_name" = true)
    (kf_is_name : PySem.W.keepIn K (.ref f_is_name) = true)
    (gf_sort_of : PySem.W.nsIn K mainGlobals "sort_of" = some (some (.ref f_sort_of)))
    (lf_sort_of : K.lookup f_sort_of = some ⟨oc_sort_of, od_sort_of, .func (PySem.W.fnOf "sort_of" "sort_of" (defArgs s_sort_of) (defBody s_sort_of) (defScope s_sort_of) .none kV_sort_of dc_sort_of pm_sort_of an_sort_of cd_sort_of ct_sort_of), sl_sort_of⟩)
    (cf_sort_of : PySem.W.codeIn K cd_sort_of "sort_of" = true)
    (kf_sort_of : PySem.W.keepIn K (.ref f_sort_of) = true)
    (gf_is_thing : PySem.W.nsIn K mainGlobals "is_thing" = some (some (.ref f_is_thing)))
    (lf_is_thing : K.lookup f_is_thing = some ⟨oc_is_thing, od_is_thing, .func (PySem.W.fnOf "is_thing" "is_thing" (defArgs s_is_thing) (defBody s_is_thing) (defScope s_is_thing) .none kV_is_thing dc_is_thing pm_is_thing an_is_thing cd_is_thing ct_is_thing), sl_is_thing⟩)
    (cf_is_thing : PySem.W.codeIn K cd_is_thing "is_thing" = true)
    (kf_is_thing : PySem.W.keepIn K (.ref f_is_thing) = true)
    (gf_is_content : PySem.W.nsIn K mainGlobals "is_content" = some (some (.ref f_is_content)))
    (lf_is_content : K.lookup f_is_content = some ⟨oc_is_content, od_is_content, .func (PySem.W.fnOf "is_content" "is_content" (defArgs s_is_content) (defBody s_is_content) (defScope s_is_content) .none kV_is_content dc_is_content pm_is_content an_is_content cd_is_content ct_is_content), sl_is_content⟩)
    (cf_is_content : PySem.W.codeIn K cd_is_content "is_content" = true)
    (kf_is_content : PySem.W.keepIn K (.ref f_is_content) = true)
    (gf_check_folder : PySem.W.nsIn K mainGlobals "check_folder" = some (some (.ref f_check_folder)))
    (lf_check_folder : K.lookup f_check_folder = some ⟨oc_check_folder, od_check_folder, .func (PySem.W.fnOf "check_folder" "check_folder" (defArgs s_check_folder) (defBody s_check_folder) (defScope s_check_folder) .none kV_check_folder dc_check_folder pm_check_folder an_check_folder cd_check_folder ct_check_folder), sl_check_folder⟩)
    (cf_check_folder : PySem.W.codeIn K cd_check_folder "check_folder" = true)
    (kf_check_folder : PySem.W.keepIn K (.ref f_check_folder) = true)
    (gf_check_tree : PySem.W.nsIn K mainGlobals "check_tree" = some (some (.ref f_check_tree)))
    (lf_check_tree : K.lookup f_check_tree = some ⟨oc_check_tree, od_check_tree, .func (PySem.W.fnOf "check_tree" "check_tree" (defArgs s_check_tree) (defBody s_check_tree) (defScope s_check_tree) .none kV_check_tree dc_check_tree pm_check_tree an_check_tree cd_check_tree ct_check_tree), sl_check_tree⟩)
    (cf_check_tree : PySem.W.codeIn K cd_check_tree "check_tree" = true)
    (kf_check_tree : PySem.W.keepIn K (.ref f_check_tree) = true)
    (gf_things_in : PySem.W.nsIn K mainGlobals "things_in" = some (some (.ref f_things_in)))
    (lf_things_in : K.lookup f_things_in = some ⟨oc_things_in, od_things_in, .func (PySem.W.fnOf "things_in" "things_in" (defArgs s_things_in) (defBody s_things_in) (defScope s_things_in) .none kV_things_in dc_things_in pm_things_in an_things_in cd_things_in ct_things_in), sl_things_in⟩)
    (cf_things_in : PySem.W.codeIn K cd_things_in "things_in" = true)
    (kf_things_in : PySem.W.keepIn K (.ref f_things_in) = true)
    (gf_things : PySem.W.nsIn K mainGlobals "things" = some (some (.ref f_things)))
    (lf_things : K.lookup f_things = some ⟨oc_things, od_things, .func (PySem.W.fnOf "things" "things" (defArgs s_things) (defBody s_things) (defScope s_things) .none kV_things dc_things pm_things an_things cd_things ct_things), sl_things⟩)
    (cf_things : PySem.W.codeIn K cd_things "things" = true)
    (kf_things : PySem.W.keepIn K (.ref f_things) = true)
    (gf_size : PySem.W.nsIn K mainGlobals "size" = some (some (.ref f_size)))
    (lf_size : K.lookup f_size = some ⟨oc_size, od_size, .func (PySem.W.fnOf "size" "size" (defArgs s_size) (defBody s_size) (defScope s_size) .none kV_size dc_size pm_size an_size cd_size ct_size), sl_size⟩)
    (cf_size : PySem.W.codeIn K cd_size "size" = true)
    (kf_size : PySem.W.keepIn K (.ref f_size) = true)
    (gf_write_tree : PySem.W.nsIn K mainGlobals "write_tree" = some (some (.ref f_write_tree)))
    (lf_write_tree : K.lookup f_write_tree = some ⟨oc_write_tree, od_write_tree, .func (PySem.W.fnOf "write_tree" "write_tree" (defArgs s_write_tree) (defBody s_write_tree) (defScope s_write_tree) .none kV_write_tree dc_write_tree pm_write_tree an_write_tree cd_write_tree ct_write_tree), sl_write_tree⟩)
    (cf_write_tree : PySem.W.codeIn K cd_write_tree "write_tree" = true)
    (kf_write_tree : PySem.W.keepIn K (.ref f_write_tree) = true)
    (gf_Reader_init : PySem.W.findIn K (.ref C_Reader) "__init__" = some (some (.ref f_Reader_init)))
    (if_Reader_init : PySem.W.isFn K (.ref f_Reader_init) = true)
    (lf_Reader_init : K.lookup f_Reader_init = some ⟨oc_Reader_init, od_Reader_init, .func (PySem.W.fnOf "__init__" "Reader.__init__" (defArgs s_Reader_init) (defBody s_Reader_init) (defScope s_Reader_init) .none kV_Reader_init dc_Reader_init pm_Reader_init an_Reader_init cd_Reader_init ct_Reader_init), sl_Reader_init⟩)
    (cf_Reader_init : PySem.W.codeIn K cd_Reader_init "Reader.__init__" = true)
    (kf_Reader_init : PySem.W.keepIn K (.ref f_Reader_init) = true)
    (gf_Reader_sign : PySem.W.findIn K (.ref C_Reader) "sign" = some (some (.ref f_Reader_sign)))
    (if_Reader_sign : PySem.W.isFn K (.ref f_Reader_sign) = true)
    (lf_Reader_sign : K.lookup f_Reader_sign = some ⟨oc_Reader_sign, od_Reader_sign, .func (PySem.W.fnOf "sign" "Reader.sign" (defArgs s_Reader_sign) (defBody s_Reader_sign) (defScope s_Reader_sign) .none kV_Reader_sign dc_Reader_sign pm_Reader_sign an_Reader_sign cd_Reader_sign ct_Reader_sign), sl_Reader_sign⟩)
    (cf_Reader_sign : PySem.W.codeIn K cd_Reader_sign "Reader.sign" = true)
    (kf_Reader_sign : PySem.W.keepIn K (.ref f_Reader_sign) = true)
    (gf_Reader_thing : PySem.W.findIn K (.ref C_Reader) "thing" = some (some (.ref f_Reader_thing)))
    (if_Reader_thing : PySem.W.isFn K (.ref f_Reader_thing) = true)
    (lf_Reader_thing : K.lookup f_Reader_thing = some ⟨oc_Reader_thing, od_Reader_thing, .func (PySem.W.fnOf "thing" "Reader.thing" (defArgs s_Reader_thing) (defBody s_Reader_thing) (defScope s_Reader_thing) .none kV_Reader_thing dc_Reader_thing pm_Reader_thing an_Reader_thing cd_Reader_thing ct_Reader_thing), sl_Reader_thing⟩)
    (cf_Reader_thing : PySem.W.codeIn K cd_Reader_thing "Reader.thing" = true)
    (kf_Reader_thing : PySem.W.keepIn K (.ref f_Reader_thing) = true)
    (gf_Reader_content : PySem.W.findIn K (.ref C_Reader) "content" = some (some (.ref f_Reader_content)))
    (if_Reader_content : PySem.W.isFn K (.ref f_Reader_content) = true)
    (lf_Reader_content : K.lookup f_Reader_content = some ⟨oc_Reader_content, od_Reader_content, .func (PySem.W.fnOf "content" "Reader.content" (defArgs s_Reader_content) (defBody s_Reader_content) (defScope s_Reader_content) .none kV_Reader_content dc_Reader_content pm_Reader_content an_Reader_content cd_Reader_content ct_Reader_content), sl_Reader_content⟩)
    (cf_Reader_content : PySem.W.codeIn K cd_Reader_content "Reader.content" = true)
    (kf_Reader_content : PySem.W.keepIn K (.ref f_Reader_content) = true)
    (gf_read_tree : PySem.W.nsIn K mainGlobals "read_tree" = some (some (.ref f_read_tree)))
    (lf_read_tree : K.lookup f_read_tree = some ⟨oc_read_tree, od_read_tree, .func (PySem.W.fnOf "read_tree" "read_tree" (defArgs s_read_tree) (defBody s_read_tree) (defScope s_read_tree) .none kV_read_tree dc_read_tree pm_read_tree an_read_tree cd_read_tree ct_read_tree), sl_read_tree⟩)
    (cf_read_tree : PySem.W.codeIn K cd_read_tree "read_tree" = true)
    (kf_read_tree : PySem.W.keepIn K (.ref f_read_tree) = true)
    (gf_l_draws : PySem.W.nsIn K mainGlobals "_law_draws" = some (some (.ref f_l_draws)))
    (lf_l_draws : K.lookup f_l_draws = some ⟨oc_l_draws, od_l_draws, .func (PySem.W.fnOf "_law_draws" "_law_draws" (defArgs s_l_draws) (defBody s_l_draws) (defScope s_l_draws) .none kV_l_draws dc_l_draws pm_l_draws an_l_draws cd_l_draws ct_l_draws), sl_l_draws⟩)
    (cf_l_draws : PySem.W.codeIn K cd_l_draws "_law_draws" = true)
    (kf_l_draws : PySem.W.keepIn K (.ref f_l_draws) = true)
    (gf_l_pick : PySem.W.nsIn K mainGlobals "_law_pick" = some (some (.ref f_l_pick)))
    (lf_l_pick : K.lookup f_l_pick = some ⟨oc_l_pick, od_l_pick, .func (PySem.W.fnOf "_law_pick" "_law_pick" (defArgs s_l_pick) (defBody s_l_pick) (defScope s_l_pick) .none kV_l_pick dc_l_pick pm_l_pick an_l_pick cd_l_pick ct_l_pick), sl_l_pick⟩)
    (cf_l_pick : PySem.W.codeIn K cd_l_pick "_law_pick" = true)
    (kf_l_pick : PySem.W.keepIn K (.ref f_l_pick) = true)
    (gf_l_tree : PySem.W.nsIn K mainGlobals "_law_tree" = some (some (.ref f_l_tree)))
    (lf_l_tree : K.lookup f_l_tree = some ⟨oc_l_tree, od_l_tree, .func (PySem.W.fnOf "_law_tree" "_law_tree" (defArgs s_l_tree) (defBody s_l_tree) (defScope s_l_tree) .none kV_l_tree dc_l_tree pm_l_tree an_l_tree cd_l_tree ct_l_tree), sl_l_tree⟩)
    (cf_l_tree : PySem.W.codeIn K cd_l_tree "_law_tree" = true)
    (kf_l_tree : PySem.W.keepIn K (.ref f_l_tree) = true)
    (gf_l_text : PySem.W.nsIn K mainGlobals "_law_text" = some (some (.ref f_l_text)))
    (lf_l_text : K.lookup f_l_text = some ⟨oc_l_text, od_l_text, .func (PySem.W.fnOf "_law_text" "_law_text" (defArgs s_l_text) (defBody s_l_text) (defScope s_l_text) .none kV_l_text dc_l_text pm_l_text an_l_text cd_l_text ct_l_text), sl_l_text⟩)
    (cf_l_text : PySem.W.codeIn K cd_l_text "_law_text" = true)
    (kf_l_text : PySem.W.keepIn K (.ref f_l_text) = true)
    (gf_l_paths : PySem.W.nsIn K mainGlobals "_law_paths" = some (some (.ref f_l_paths)))
    (lf_l_paths : K.lookup f_l_paths = some ⟨oc_l_paths, od_l_paths, .func (PySem.W.fnOf "_law_paths" "_law_paths" (defArgs s_l_paths) (defBody s_l_paths) (defScope s_l_paths) .none kV_l_paths dc_l_paths pm_l_paths an_l_paths cd_l_paths ct_l_paths), sl_l_paths⟩)
    (cf_l_paths : PySem.W.codeIn K cd_l_paths "_law_paths" = true)
    (kf_l_paths : PySem.W.keepIn K (.ref f_l_paths) = true)
    (gf_l_odd : PySem.W.nsIn K mainGlobals "_law_odd" = some (some (.ref f_l_odd)))
    (lf_l_odd : K.lookup f_l_odd = some ⟨oc_l_odd, od_l_odd, .func (PySem.W.fnOf "_law_odd" "_law_odd" (defArgs s_l_odd) (defBody s_l_odd) (defScope s_l_odd) .none kV_l_odd dc_l_odd pm_l_odd an_l_odd cd_l_odd ct_l_odd), sl_l_odd⟩)
    (cf_l_odd : PySem.W.codeIn K cd_l_odd "_law_odd" = true)
    (kf_l_odd : PySem.W.keepIn K (.ref f_l_odd) = true)
    (gf_l_spoilt : PySem.W.nsIn K mainGlobals "_law_spoilt" = some (some (.ref f_l_spoilt)))
    (lf_l_spoilt : K.lookup f_l_spoilt = some ⟨oc_l_spoilt, od_l_spoilt, .func (PySem.W.fnOf "_law_spoilt" "_law_spoilt" (defArgs s_l_spoilt) (defBody s_l_spoilt) (defScope s_l_spoilt) .none kV_l_spoilt dc_l_spoilt pm_l_spoilt an_l_spoilt cd_l_spoilt ct_l_spoilt), sl_l_spoilt⟩)
    (cf_l_spoilt : PySem.W.codeIn K cd_l_spoilt "_law_spoilt" = true)
    (kf_l_spoilt : PySem.W.keepIn K (.ref f_l_spoilt) = true)
    (gf_l_is_entry : PySem.W.nsIn K mainGlobals "_law_is_entry" = some (some (.ref f_l_is_entry)))
    (lf_l_is_entry : K.lookup f_l_is_entry = some ⟨oc_l_is_entry, od_l_is_entry, .func (PySem.W.fnOf "_law_is_entry" "_law_is_entry" (defArgs s_l_is_entry) (defBody s_l_is_entry) (defScope s_l_is_entry) .none kV_l_is_entry dc_l_is_entry pm_l_is_entry an_l_is_entry cd_l_is_entry ct_l_is_entry), sl_l_is_entry⟩)
    (cf_l_is_entry : PySem.W.codeIn K cd_l_is_entry "_law_is_entry" = true)
    (kf_l_is_entry : PySem.W.keepIn K (.ref f_l_is_entry) = true)
    (gf_l_fault : PySem.W.nsIn K mainGlobals "_law_fault" = some (some (.ref f_l_fault)))
    (lf_l_fault : K.lookup f_l_fault = some ⟨oc_l_fault, od_l_fault, .func (PySem.W.fnOf "_law_fault" "_law_fault" (defArgs s_l_fault) (defBody s_l_fault) (defScope s_l_fault) .none kV_l_fault dc_l_fault pm_l_fault an_l_fault cd_l_fault ct_l_fault), sl_l_fault⟩)
    (cf_l_fault : PySem.W.codeIn K cd_l_fault "_law_fault" = true)
    (kf_l_fault : PySem.W.keepIn K (.ref f_l_fault) = true)
    (gf_l_told : PySem.W.nsIn K mainGlobals "_law_told" = some (some (.ref f_l_told)))
    (lf_l_told : K.lookup f_l_told = some ⟨oc_l_told, od_l_told, .func (PySem.W.fnOf "_law_told" "_law_told" (defArgs s_l_told) (defBody s_l_told) (defScope s_l_told) .none kV_l_told dc_l_told pm_l_told an_l_told cd_l_told ct_l_told), sl_l_told⟩)
    (cf_l_told : PySem.W.codeIn K cd_l_told "_law_told" = true)
    (kf_l_told : PySem.W.keepIn K (.ref f_l_told) = true)
    (gf_law : PySem.W.nsIn K mainGlobals "law" = some (some (.ref f_law)))
    (lf_law : K.lookup f_law = some ⟨oc_law, od_law, .func (PySem.W.fnOf "law" "law" (defArgs s_law) (defBody s_law) (defScope s_law) .none kV_law dc_law pm_law an_law cd_law ct_law), sl_law⟩)
    (cf_law : PySem.W.codeIn K cd_law "law" = true)
    (kf_law : PySem.W.keepIn K (.ref f_law) = true)
    (gm_BadTree : PySem.W.nsIn K mainGlobals "BadTree" = some (some (.ref C_BadTree)))
    (xl_BadTree : K.lookup C_BadTree = some (excClassObj nm_BadTree qn_BadTree C_BadTree N_BadTree bs_BadTree bm_BadTree true sn_BadTree sb_BadTree ab_BadTree co_BadTree dd_BadTree k0_BadTree k1_BadTree k2_BadTree k3_BadTree k5_BadTree "ValueError.__new__"))
    (rv_BadTree : PySem.HandSPX.refsVE bm_BadTree = true)
    (sa_BadTree : PySem.W.findIn K (.ref C_BadTree) "__setattr__" = some (some (.builtin "object.__setattr__")))
    (gi_BadTree : PySem.W.findIn K (.ref C_BadTree) "__init__" = some (some (.ref f_BadTree_init)))
    (ti_BadTree : PySem.W.typeIn K (.ref f_BadTree_init) = some (.type "function"))
    (kc_BadTree : PySem.W.keepIn K (.ref C_BadTree) = true)
    (ex_BadTree : PySem.W.subIn K (.ref C_BadTree) (.type "BaseException") = some true)
    (ve_BadTree : PySem.W.subIn K (.ref C_BadTree) (.type "ValueError") = some true)
    (ty_BadTree : PySem.W.typeIn K (.ref C_BadTree) = some (.type "type"))
    (lf_BadTree : K.lookup f_BadTree_init = some ⟨oc_BadTree_init, od_BadTree_init, .func (PySem.W.fnX "__init__" "BadTree.__init__" (defArgs s_BadTree_init) (defBody s_BadTree_init) (defScope s_BadTree_init) [("__class__", cc_BadTree)] .none kV_BadTree_init dc_BadTree_init pm_BadTree_init an_BadTree_init (.ref cd_BadTree) ct_BadTree_init), sl_BadTree_init⟩)
    (ce_BadTree : K.lookup cc_BadTree = some ⟨cl_BadTree, cld_BadTree, .cell (some (.ref C_BadTree)), csl_BadTree⟩)
    (co1_BadTree : K.lookup cd_BadTree = some ⟨ccl_BadTree, cdd_BadTree, .fields vs_BadTree, ccs_BadTree⟩)
    (co2_BadTree : vs_BadTree[2]? = some (.str fi_BadTree tf_BadTree))
    (co3_BadTree : ((l.prog.main.file : Str) == fi_BadTree) = true)
    (sp_BadTree : PySem.W.ks_superIn K C_BadTree C_BadTree "__init__" = some (some (.builtin "ValueError.__init__")))
    (th_ : PySem.W.nsIn K cStatics "thirdparty.any" = some none)
    (su_ : PySem.W.nsIn K mainGlobals "super" = some none)
    (tp_ : (l.prog.main.scope.names.lookup ("super" : Str)).isSome = false)
    (cf_BadTree : PySem.W.codeIn K (.ref cd_BadTree) "BadTree.__init__" = true)
    (ga_BadTree : PySem.W.findIn K (.ref C_BadTree) "__getattribute__" = some (some (.builtin "BaseException.__getattribute__")))
    (gg_BadTree : PySem.W.findIn K (.ref C_BadTree) "__getattr__" = some none)
    (hd_BadTree : PySem.W.hasDictIn K C_BadTree = true)
    (ha_BadTree : PySem.W.findIn K (.ref C_BadTree) "__class__" = some (some (.builtin "object.__class__")))
    (hm_BadTree : PySem.W.mroIn K C_BadTree (.type "object") = some true)
    (hn_ : PySem.W.specialIn K (.builtin "object.__class__") "__get__" = some (some (.builtin "getset_descriptor.__get__")))
    (ht_ : PySem.W.takesIn K (.builtin "object.__class__") = some true)
    (te_BadTree : PySem.W.exmOne K (.ref C_BadTree) (.ref C_BadTree) = some true)
    (nf_BadTree_path : PySem.W.findIn K (.ref C_BadTree) "path" = some none)
    (gm_BadText : PySem.W.nsIn K mainGlobals "BadText" = some (some (.ref C_BadText)))
    (xl_BadText : K.lookup C_BadText = some (excClassObj nm_BadText qn_BadText C_BadText N_BadText bs_BadText bm_BadText true sn_BadText sb_BadText ab_BadText co_BadText dd_BadText k0_BadText k1_BadText k2_BadText k3_BadText k5_BadText "ValueError.__new__"))
    (rv_BadText : PySem.HandSPX.refsVE bm_BadText = true)
    (sa_BadText : PySem.W.findIn K (.ref C_BadText) "__setattr__" = some (some (.builtin "object.__setattr__")))
    (gi_BadText : PySem.W.findIn K (.ref C_BadText) "__init__" = some (some (.ref f_BadText_init)))
    (ti_BadText : PySem.W.typeIn K (.ref f_BadText_init) = some (.type "function"))
    (kc_BadText : PySem.W.keepIn K (.ref C_BadText) = true)
    (ex_BadText : PySem.W.subIn K (.ref C_BadText) (.type "BaseException") = some true)
    (ve_BadText : PySem.W.subIn K (.ref C_BadText) (.type "ValueError") = some true)
    (ty_BadText : PySem.W.typeIn K (.ref C_BadText) = some (.type "type"))
    (lf_BadText : K.lookup f_BadText_init = some ⟨oc_BadText_init, od_BadText_init, .func (PySem.W.fnX "__init__" "BadText.__init__" (defArgs s_BadText_init) (defBody s_BadText_init) (defScope s_BadText_init) [("__class__", cc_BadText)] .none kV_BadText_init dc_BadText_init pm_BadText_init an_BadText_init (.ref cd_BadText) ct_BadText_init), sl_BadText_init⟩)
    (ce_BadText : K.lookup cc_BadText = some ⟨cl_BadText, cld_BadText, .cell (some (.ref C_BadText)), csl_BadText⟩)
    (co1_BadText : K.lookup cd_BadText = some ⟨ccl_BadText, cdd_BadText, .fields vs_BadText, ccs_BadText⟩)
    (co2_BadText : vs_BadText[2]? = some (.str fi_BadText tf_BadText))
    (co3_BadText : ((l.prog.main.file : Str) == fi_BadText) = true)
    (sp_BadText : PySem.W.ks_superIn K C_BadText C_BadText "__init__" = some (some (.builtin "ValueError.__init__")))
    (cf_BadText : PySem.W.codeIn K (.ref cd_BadText) "BadText.__init__" = true)
    (ga_BadText : PySem.W.findIn K (.ref C_BadText) "__getattribute__" = some (some (.builtin "BaseException.__getattribute__")))
    (gg_BadText : PySem.W.findIn K (.ref C_BadText) "__getattr__" = some none)
    (hd_BadText : PySem.W.hasDictIn K C_BadText = true)
    (ha_BadText : PySem.W.findIn K (.ref C_BadText) "__class__" = some (some (.builtin "object.__class__")))
    (hm_BadText : PySem.W.mroIn K C_BadText (.type "object") = some true)
    (te_BadText : PySem.W.exmOne K (.ref C_BadText) (.ref C_BadText) = some true)
    (nf_BadText_place : PySem.W.findIn K (.ref C_BadText) "place" = some none)
    (zz_kw_BadTree : PySem.W.kitOne K (.ref C_BadTree) (.ref C_WalkError) = some true)
    : ∃ fd : FuncData, (∀ (s : Shared) (v : Value), BindsTo s fd ⟨[v], []⟩ [("_law_script", v)]) ∧ ∀ base : Heap, K.In base → base.Ns mainGlobals mg → FnOk l.prog w K mg base CX0 40 fa fd ["_law_script"] (spLaw K) := by
  have e := hfa.symm.trans (PySem.W.mg_of X G gf_law)
  have e2 : fa = f_law := by injection (Option.some.inj e)
  have F_is_name := fun_mk (st := s_is_name) lf_is_name cf_is_name kf_is_name
  have b_is_name := F_is_name.binds (ps := ["value"]) fun _ _ _ _ _ _ us hl => match us, hl with | [_], _ => rfl
  have F_sort_of := fun_mk (st := s_sort_of) lf_sort_of cf_sort_of kf_sort_of
  have b_sort_of := F_sort_of.binds (ps := ["thing"]) fun _ _ _ _ _ _ us hl => match us, hl with | [_], _ => rfl
  have F_is_thing := fun_mk (st := s_is_thing) lf_is_thing cf_is_thing kf_is_thing
  have b_is_thing := F_is_thing.binds (ps := ["value"]) fun _ _ _ _ _ _ us hl => match us, hl with | [_], _ => rfl
  have F_is_content := fun_mk (st := s_is_content) lf_is_content cf_is_content kf_is_content
  have b_is_content := F_is_content.binds (ps := ["value"]) fun _ _ _ _ _ _ us hl => match us, hl with | [_], _ => rfl
  have F_check_folder := fun_mk (st := s_check_folder) lf_check_folder cf_check_folder kf_check_folder
  have b_check_folder := F_check_folder.binds (ps := ["value", "path"]) fun _ _ _ _ _ _ us hl => match us, hl with | [_, _], _ => rfl
  have F_check_tree := fun_mk (st := s_check_tree) lf_check_tree cf_check_tree kf_check_tree
  have b_check_tree := F_check_tree.binds (ps := ["value"]) fun _ _ _ _ _ _ us hl => match us, hl with | [_], _ => rfl
  have F_things_in := fun_mk (st := s_things_in) lf_things_in cf_things_in kf_things_in
  have b_things_in := F_things_in.binds (ps := ["tree", "path"]) fun _ _ _ _ _ _ us hl => match us, hl with | [_, _], _ => rfl
  have F_things := fun_mk (st := s_things) lf_things cf_things kf_things
  have b_things := F_things.binds (ps := ["tree"]) fun _ _ _ _ _ _ us hl => match us, hl with | [_], _ => rfl
  have F_size := fun_mk (st := s_size) lf_size cf_size kf_size
  have b_size := F_size.binds (ps := ["tree"]) fun _ _ _ _ _ _ us hl => match us, hl with | [_], _ => rfl
  have F_write_tree := fun_mk (st := s_write_tree) lf_write_tree cf_write_tree kf_write_tree
  have b_write_tree := F_write_tree.binds (ps := ["tree"]) fun _ _ _ _ _ _ us hl => match us, hl with | [_], _ => rfl
  have F_Reader_init := fun_mk (st := s_Reader_init) lf_Reader_init cf_Reader_init kf_Reader_init
  have b_Reader_init := F_Reader_init.binds (ps := ["self", "text"]) fun _ _ _ _ _ _ us hl => match us, hl with | [_, _], _ => rfl
  have F_Reader_sign := fun_mk (st := s_Reader_sign) lf_Reader_sign cf_Reader_sign kf_Reader_sign
  have b_Reader_sign := F_Reader_sign.binds (ps := ["self"]) fun _ _ _ _ _ _ us hl => match us, hl with | [_], _ => rfl
  have F_Reader_thing := fun_mk (st := s_Reader_thing) lf_Reader_thing cf_Reader_thing kf_Reader_thing
  have b_Reader_thing := F_Reader_thing.binds (ps := ["self"]) fun _ _ _ _ _ _ us hl => match us, hl with | [_], _ => rfl
  have F_Reader_content := fun_mk (st := s_Reader_content) lf_Reader_content cf_Reader_content kf_Reader_content
  have b_Reader_content := F_Reader_content.binds (ps := ["self"]) fun _ _ _ _ _ _ us hl => match us, hl with | [_], _ => rfl
  have F_read_tree := fun_mk (st := s_read_tree) lf_read_tree cf_read_tree kf_read_tree
  have b_read_tree := F_read_tree.binds (ps := ["text"]) fun _ _ _ _ _ _ us hl => match us, hl with | [_], _ => rfl
  have F_l_draws := fun_mk (st := s_l_draws) lf_l_draws cf_l_draws kf_l_draws
  have b_l_draws := F_l_draws.binds (ps := ["_law_script"]) fun _ _ _ _ _ _ us hl => match us, hl with | [_], _ => rfl
  have F_l_pick := fun_mk (st := s_l_pick) lf_l_pick cf_l_pick kf_l_pick
  have b_l_pick := F_l_pick.binds (ps := ["_law_row", "_law_many"]) fun _ _ _ _ _ _ us hl => match us, hl with | [_, _], _ => rfl
  have F_l_tree := fun_mk (st := s_l_tree) lf_l_tree cf_l_tree kf_l_tree
  have b_l_tree := F_l_tree.binds (ps := ["_law_row", "_law_deep"]) fun _ _ _ _ _ _ us hl => match us, hl with | [_, _], _ => rfl
  have F_l_text := fun_mk (st := s_l_text) lf_l_text cf_l_text kf_l_text
  have b_l_text := F_l_text.binds (ps := ["_law_tree_here"]) fun _ _ _ _ _ _ us hl => match us, hl with | [_], _ => rfl
  have F_l_paths := fun_mk (st := s_l_paths) lf_l_paths cf_l_paths kf_l_paths
  have b_l_paths := F_l_paths.binds (ps := ["_law_tree_here", "_law_base"]) fun _ _ _ _ _ _ us hl => match us, hl with | [_, _], _ => rfl
  have F_l_odd := fun_mk (st := s_l_odd) lf_l_odd cf_l_odd kf_l_odd
  have b_l_odd := F_l_odd.binds (ps := ["_law_row"]) fun _ _ _ _ _ _ us hl => match us, hl with | [_], _ => rfl
  have F_l_spoilt := fun_mk (st := s_l_spoilt) lf_l_spoilt cf_l_spoilt kf_l_spoilt
  have b_l_spoilt := F_l_spoilt.binds (ps := ["_law_row", "_law_tree_here", "_law_deep"]) fun _ _ _ _ _ _ us hl => match us, hl with | [_, _, _], _ => rfl
  have F_l_is_entry := fun_mk (st := s_l_is_entry) lf_l_is_entry cf_l_is_entry kf_l_is_entry
  have b_l_is_entry := F_l_is_entry.binds (ps := ["_law_entry", "_law_last"]) fun _ _ _ _ _ _ us hl => match us, hl with | [_, _], _ => rfl
  have F_l_fault := fun_mk (st := s_l_fault) lf_l_fault cf_l_fault kf_l_fault
  have b_l_fault := F_l_fault.binds (ps := ["_law_value", "_law_path"]) fun _ _ _ _ _ _ us hl => match us, hl with | [_, _], _ => rfl
  have F_l_told := fun_mk (st := s_l_told) lf_l_told cf_l_told kf_l_told
  have b_l_told := F_l_told.binds (ps := ["_law_value"]) fun _ _ _ _ _ _ us hl => match us, hl with | [_], _ => rfl
  have F_law := fun_mk (st := s_law) lf_law cf_law kf_law
  have b_law := F_law.binds (ps := ["_law_script"]) fun _ _ _ _ _ _ us hl => match us, hl with | [_], _ => rfl
  refine ⟨PySem.W.fnOf "law" "law" (defArgs s_law) (defBody s_law) (defScope s_law) .none kV_law dc_law pm_law an_law cd_law ct_law, fun s v => .of_eq rfl, fun base _ _ => ?_⟩
  rw [e2]
  exact ok_law (w := w) (base := base) (T := {
    n_len := PySem.W.mg_none_of X G zn_len,
    n_int := PySem.W.mg_none_of X G zn_int,
    n_list := PySem.W.mg_none_of X G zn_list,
    n_tuple := PySem.W.mg_none_of X G zn_tuple,
    n_range := PySem.W.mg_none_of X G zn_range,
    n_isinstance := PySem.W.mg_none_of X G zn_isinstance,
    n_str := PySem.W.mg_none_of X G zn_str,
    t_FILE := t_FILE,
    m_FILE := PySem.W.mg_of X G gm_FILE,
    t_FOLDER := t_FOLDER,
    m_FOLDER := PySem.W.mg_of X G gm_FOLDER,
    a_NAMES := a_NAMES,
    m_NAMES := PySem.W.mg_of X G gm_NAMES,
    c_NAMES := fun H => .inr ⟨_, _, _, lk_NAMES, rfl, rfl, (by show 3 ≤ sizeLine; decide), .cons ⟨_, rfl⟩ (.cons ⟨_, rfl⟩ (.cons ⟨_, rfl⟩ (.nil)))⟩,
    C_WalkError := C_WalkError,
    m_WalkError := PySem.W.mg_of X G gm_WalkError,
    C_Reader := C_Reader,
    c_Reader := ⟨pg_Reader, hd_Reader, po_Reader, sa_Reader⟩,
    m_Reader := PySem.W.mg_of X G gm_Reader,
    A_Reader_text := na_Reader_text,
    A_Reader_spot := na_Reader_spot,
    f_is_name := f_is_name,
    d_is_name := _,
    F_is_name := F_is_name,
    b_is_name := b_is_name,
    m_is_name := PySem.W.mg_of X G gf_is_name,
    f_sort_of := f_sort_of,
    d_sort_of := _,
    F_sort_of := F_sort_of,
    b_sort_of := b_sort_of,
    m_sort_of := PySem.W.mg_of X G gf_sort_of,
    f_is_thing := f_is_thing,
    d_is_thing := _,
    F_is_thing := F_is_thing,
    b_is_thing := b_is_thing,
    m_is_thing := PySem.W.mg_of X G gf_is_thing,
    f_is_content := f_is_content,
    d_is_content := _,
    F_is_content := F_is_content,
    b_is_content := b_is_content,
    m_is_content := PySem.W.mg_of X G gf_is_content,
    f_check_folder := f_check_folder,
    d_check_folder := _,
    F_check_folder := F_check_folder,
    b_check_folder := b_check_folder,
    m_check_folder := PySem.W.mg_of X G gf_check_folder,
    f_check_tree := f_check_tree,
    d_check_tree := _,
    F_check_tree := F_check_tree,
    b_check_tree := b_check_tree,
    m_check_tree := PySem.W.mg_of X G gf_check_tree,
    f_things_in := f_things_in,
    d_things_in := _,
    F_things_in := F_things_in,
    b_things_in := b_things_in,
    m_things_in := PySem.W.mg_of X G gf_things_in,
    f_things := f_things,
    d_things := _,
    F_things := F_things,
    b_things := b_things,
    m_things := PySem.W.mg_of X G gf_things,
    f_size := f_size,
    d_size := _,
    F_size := F_size,
    b_size := b_size,
    m_size := PySem.W.mg_of X G gf_size,
    f_write_tree := f_write_tree,
    d_write_tree := _,
    F_write_tree := F_write_tree,
    b_write_tree := b_write_tree,
    m_write_tree := PySem.W.mg_of X G gf_write_tree,
    f_Reader_init := f_Reader_init,
    d_Reader_init := _,
    F_Reader_init := F_Reader_init,
    b_Reader_init := b_Reader_init,
    K_Reader := ⟨mk_Reader, gf_Reader_init, if_Reader_init, kc_Reader⟩,
    f_Reader_sign := f_Reader_sign,
    d_Reader_sign := _,
    F_Reader_sign := F_Reader_sign,
    b_Reader_sign := b_Reader_sign,
    M_Reader_sign := ⟨gf_Reader_sign, if_Reader_sign, kf_Reader_sign⟩,
    f_Reader_thing := f_Reader_thing,
    d_Reader_thing := _,
    F_Reader_thing := F_Reader_thing,
    b_Reader_thing := b_Reader_thing,
    M_Reader_thing := ⟨gf_Reader_thing, if_Reader_thing, kf_Reader_thing⟩,
    f_Reader_content := f_Reader_content,
    d_Reader_content := _,
    F_Reader_content := F_Reader_content,
    b_Reader_content := b_Reader_content,
    M_Reader_content := ⟨gf_Reader_content, if_Reader_content, kf_Reader_content⟩,
    f_read_tree := f_read_tree,
    d_read_tree := _,
    F_read_tree := F_read_tree,
    b_read_tree := b_read_tree,
    m_read_tree := PySem.W.mg_of X G gf_read_tree,
    f_l_draws := f_l_draws,
    d_l_draws := _,
    F_l_draws := F_l_draws,
    b_l_draws := b_l_draws,
    m_l_draws := PySem.W.mg_of X G gf_l_draws,
    f_l_pick := f_l_pick,
    d_l_pick := _,
    F_l_pick := F_l_pick,
    b_l_pick := b_l_pick,
    m_l_pick := PySem.W.mg_of X G gf_l_pick,
    f_l_tree := f_l_tree,
    d_l_tree := _,
    F_l_tree := F_l_tree,
    b_l_tree := b_l_tree,
    m_l_tree := PySem.W.mg_of X G gf_l_tree,
    f_l_text := f_l_text,
    d_l_text := _,
    F_l_text := F_l_text,
    b_l_text := b_l_text,
    m_l_text := PySem.W.mg_of X G gf_l_text,
    f_l_paths := f_l_paths,
    d_l_paths := _,
    F_l_paths := F_l_paths,
    b_l_paths := b_l_paths,
    m_l_paths := PySem.W.mg_of X G gf_l_paths,
    f_l_odd := f_l_odd,
    d_l_odd := _,
    F_l_odd := F_l_odd,
    b_l_odd := b_l_odd,
    m_l_odd := PySem.W.mg_of X G gf_l_odd,
    f_l_spoilt := f_l_spoilt,
    d_l_spoilt := _,
    F_l_spoilt := F_l_spoilt,
    b_l_spoilt := b_l_spoilt,
    m_l_spoilt := PySem.W.mg_of X G gf_l_spoilt,
    f_l_is_entry := f_l_is_entry,
    d_l_is_entry := _,
    F_l_is_entry := F_l_is_entry,
    b_l_is_entry := b_l_is_entry,
    m_l_is_entry := PySem.W.mg_of X G gf_l_is_entry,
    f_l_fault := f_l_fault,
    d_l_fault := _,
    F_l_fault := F_l_fault,
    b_l_fault := b_l_fault,
    m_l_fault := PySem.W.mg_of X G gf_l_fault,
    f_l_told := f_l_told,
    d_l_told := _,
    F_l_told := F_l_told,
    b_l_told := b_l_told,
    m_l_told := PySem.W.mg_of X G gf_l_told,
    f_law := f_law,
    d_law := _,
    F_law := F_law,
    b_law := b_law,
    m_law := PySem.W.mg_of X G gf_law,
    C_BadTree := C_BadTree,
    m_BadTree := PySem.W.mg_of X G gm_BadTree,
    f_BadTree_init := f_BadTree_init,
    cc_BadTree := cc_BadTree,
    cd_BadTree := cd_BadTree,
    X_BadTree := { cls := ⟨_, _, _, _, _, _, _, _, _, _, _, _, _, _, _, xl_BadTree, rv_BadTree⟩, sa := sa_BadTree, iC := gi_BadTree, tI := ti_BadTree, kC := kc_BadTree, exC := ex_BadTree, veC := ve_BadTree, tyC := ty_BadTree, cell := ⟨_, _, _, ce_BadTree⟩, code := ⟨_, _, _, _, _, _, co1_BadTree, co2_BadTree, co3_BadTree⟩, sup := sp_BadTree, thr := th_, sun := su_, fn := ⟨_, _, _, _, _, _, _, _, lf_BadTree, cf_BadTree⟩ },
    tp_BadTree := tp_,
    E_BadTree := ⟨ga_BadTree, gg_BadTree, ex_BadTree, hd_BadTree, ha_BadTree, hn_, ht_, hm_BadTree⟩,
    Y_BadTree := ⟨ga_BadTree, gg_BadTree, ex_BadTree, hd_BadTree⟩,
    te_BadTree := te_BadTree,
    A_BadTree_path := nf_BadTree_path,
    C_BadText := C_BadText,
    m_BadText := PySem.W.mg_of X G gm_BadText,
    f_BadText_init := f_BadText_init,
    cc_BadText := cc_BadText,
    cd_BadText := cd_BadText,
    X_BadText := { cls := ⟨_, _, _, _, _, _, _, _, _, _, _, _, _, _, _, xl_BadText, rv_BadText⟩, sa := sa_BadText, iC := gi_BadText, tI := ti_BadText, kC := kc_BadText, exC := ex_BadText, veC := ve_BadText, tyC := ty_BadText, cell := ⟨_, _, _, ce_BadText⟩, code := ⟨_, _, _, _, _, _, co1_BadText, co2_BadText, co3_BadText⟩, sup := sp_BadText, thr := th_, sun := su_, fn := ⟨_, _, _, _, _, _, _, _, lf_BadText, cf_BadText⟩ },
    tp_BadText := tp_,
    E_BadText := ⟨ga_BadText, gg_BadText, ex_BadText, hd_BadText, ha_BadText, hn_, ht_, hm_BadText⟩,
    Y_BadText := ⟨ga_BadText, gg_BadText, ex_BadText, hd_BadText⟩,
    te_BadText := te_BadText,
    A_BadText_place := nf_BadText_place,
    kw_BadTree := zz_kw_BadTree })
end Toy
open PySem PySem.W PyProof.Rows in
set_option maxRecDepth 100000 in
set_option maxHeartbeats 0 in
theorem PySem.Challenge.cw_changedwalks_k01_trees_and_their_texts_holds : PySem.Challenge.rw_changedwalks_k01_trees_and_their_texts.Holds := by
  w_on; o_law; k_head; (case hw => w_witness2)
  k_fill
  refine L2.walk_ofK (l := PySem.Challenge.rw_changedwalks_k01_trees_and_their_texts) (n := 63) (k := 40) (x := "_law_script") (CX := L2.CX0) (sp := Toy.spLaw) rfl (by decide) rfl ⟨rfl, by decide, by decide⟩ (fun w h Y => PySem.W.kIn_of Y) ?F (fun K H a ns hl _ hS => ⟨a, ns, rfl, hS, hl, fun _ => rfl⟩) fun _ _ _ _ z => z
  case F =>
    intro w mg fa h KX G hmg
    refine' Toy.all_mk KX G hmg ?zn_len ?zn_int ?zn_list ?zn_tuple ?zn_range ?zn_isinstance ?zn_str ?gm_FILE ?gm_FOLDER ?gm_NAMES ?lk_NAMES ?gm_WalkError ?gm_Reader ?pg_Reader ?hd_Reader ?po_Reader ?sa_Reader ?mk_Reader ?kc_Reader ?na_Reader_text ?na_Reader_spot ?gf_is_name ?lf_is_name ?cf_is_name ?kf_is_name ?gf_sort_of ?lf_sort_of ?cf_sort_of ?kf_sort_of ?gf_is_thing ?lf_is_thing ?cf_is_thing ?kf_is_thing ?gf_is_content ?lf_is_content ?cf_is_content ?kf_is_content ?gf_check_folder ?lf_check_folder ?cf_check_folder ?kf_check_folder ?gf_check_tree ?lf_check_tree ?cf_check_tree ?kf_check_tree ?gf_things_in ?lf_things_in ?cf_things_in ?kf_things_in ?gf_things ?lf_things ?cf_things ?kf_things ?gf_size ?lf_size ?cf_size ?kf_size ?gf_write_tree ?lf_write_tree ?cf_write_tree ?kf_write_tree ?gf_Reader_init ?if_Reader_init ?lf_Reader_init ?cf_Reader_init ?kf_Reader_init ?gf_Reader_sign ?if_Reader_sign ?lf_Reader_sign ?cf_Reader_sign ?kf_Reader_sign ?gf_Reader_thing ?if_Reader_thing ?lf_Reader_thing ?cf_Reader_thing ?kf_Reader_thing ?gf_Reader_content ?if_Reader_content ?lf_Reader_content ?cf_Reader_content ?kf_Reader_content ?gf_read_tree ?lf_read_tree ?cf_read_tree ?kf_read_tree ?gf_l_draws ?lf_l_draws ?cf_l_draws ?kf_l_draws ?gf_l_pick ?lf_l_pick ?cf_l_pick ?kf_l_pick ?gf_l_tree ?lf_l_tree ?cf_l_tree ?kf_l_tree ?gf_l_text ?lf_l_text ?cf_l_text ?kf_l_text ?gf_l_paths ?lf_l_paths ?cf_l_paths ?kf_l_paths ?gf_l_odd ?lf_l_odd ?cf_l_odd ?kf_l_odd ?gf_l_spoilt ?lf_l_spoilt ?cf_l_spoilt ?kf_l_spoilt ?gf_l_is_entry ?lf_l_is_entry ?cf_l_is_entry ?kf_l_is_entry ?gf_l_fault ?lf_l_fault ?cf_l_fault ?kf_l_fault ?gf_l_told ?lf_l_told ?cf_l_told ?kf_l_told ?gf_law ?lf_law ?cf_law ?kf_law ?gm_BadTree ?xl_BadTree ?rv_BadTree ?sa_BadTree ?gi_BadTree ?ti_BadTree ?kc_BadTree ?ex_BadTree ?ve_BadTree ?ty_BadTree ?lf_BadTree ?ce_BadTree ?co1_BadTree ?co2_BadTree ?co3_BadTree ?sp_BadTree ?th_ ?su_ ?tp_ ?cf_BadTree ?ga_BadTree ?gg_BadTree ?hd_BadTree ?ha_BadTree ?hm_BadTree ?hn_ ?ht_ ?te_BadTree ?nf_BadTree_path ?gm_BadText ?xl_BadText ?rv_BadText ?sa_BadText ?gi_BadText ?ti_BadText ?kc_BadText ?ex_BadText ?ve_BadText ?ty_BadText ?lf_BadText ?ce_BadText ?co1_BadText ?co2_BadText ?co3_BadText ?sp_BadText ?cf_BadText ?ga_BadText ?gg_BadText ?hd_BadText ?ha_BadText ?hm_BadText ?te_BadText ?nf_BadText_place ?zz_kw_BadTree
    (case zn_len => k_is)
    (case zn_int => k_is)
    (case zn_list => k_is)
    (case zn_tuple => k_is)
    (case zn_range => k_is)
    (case zn_isinstance => k_is)
    (case zn_str => k_is)
    (case gm_FILE => k_is)
    (case gm_FOLDER => k_is)
    (case gm_NAMES => k_is)
    (case lk_NAMES => k_is)
    (case gm_WalkError => k_is)
    (case gm_Reader => k_is)
    (case pg_Reader => k_is)
    (case hd_Reader => k_is)
    (case po_Reader => k_is)
    (case sa_Reader => k_is)
    (case mk_Reader => k_is)
    (case kc_Reader => k_is)
    (case na_Reader_text => k_is)
    (case na_Reader_spot => k_is)
    (case gf_is_name => k_is)
    (case lf_is_name => k_is)
    (case cf_is_name => k_is)
    (case kf_is_name => k_is)
    (case gf_sort_of => k_is)
    (case lf_sort_of => k_is)
    (case cf_sort_of => k_is)
    (case kf_sort_of => k_is)
    (case gf_is_thing => k_is)
    (case lf_is_thing => k_is)
    (case cf_is_thing => k_is)
    (case kf_is_thing => k_is)
    (case gf_is_content => k_is)
    (case lf_is_content => k_is)
    (case cf_is_content => k_is)
    (case kf_is_content => k_is)
    (case gf_check_folder => k_is)
    (case lf_check_folder => k_is)
    (case cf_check_folder => k_is)
    (case kf_check_folder => k_is)
    (case gf_check_tree => k_is)
    (case lf_check_tree => k_is)
    (case cf_check_tree => k_is)
    (case kf_check_tree => k_is)
    (case gf_things_in => k_is)
    (case lf_things_in => k_is)
    (case cf_things_in => k_is)
    (case kf_things_in => k_is)
    (case gf_things => k_is)
    (case lf_things => k_is)
    (case cf_things => k_is)
    (case kf_things => k_is)
    (case gf_size => k_is)
    (case lf_size => k_is)
    (case cf_size => k_is)
    (case kf_size => k_is)
    (case gf_write_tree => k_is)
    (case lf_write_tree => k_is)
    (case cf_write_tree => k_is)
    (case kf_write_tree => k_is)
    (case gf_Reader_init => k_is)
    (case if_Reader_init => k_is)
    (case lf_Reader_init => k_is)
    (case cf_Reader_init => k_is)
    (case kf_Reader_init => k_is)
    (case gf_Reader_sign => k_is)
    (case if_Reader_sign => k_is)
    (case lf_Reader_sign => k_is)
    (case cf_Reader_sign => k_is)
    (case kf_Reader_sign => k_is)
    (case gf_Reader_thing => k_is)
    (case if_Reader_thing => k_is)
    (case lf_Reader_thing => k_is)
    (case cf_Reader_thing => k_is)
    (case kf_Reader_thing => k_is)
    (case gf_Reader_content => k_is)
    (case if_Reader_content => k_is)
    (case lf_Reader_content => k_is)
    (case cf_Reader_content => k_is)
    (case kf_Reader_content => k_is)
    (case gf_read_tree => k_is)
    (case lf_read_tree => k_is)
    (case cf_read_tree => k_is)
    (case kf_read_tree => k_is)
    (case gf_l_draws => k_is)
    (case lf_l_draws => k_is)
    (case cf_l_draws => k_is)
    (case kf_l_draws => k_is)
    (case gf_l_pick => k_is)
    (case lf_l_pick => k_is)
    (case cf_l_pick => k_is)
    (case kf_l_pick => k_is)
    (case gf_l_tree => k_is)
    (case lf_l_tree => k_is)
    (case cf_l_tree => k_is)
    (case kf_l_tree => k_is)
    (case gf_l_text => k_is)
    (case lf_l_text => k_is)
    (case cf_l_text => k_is)
    (case kf_l_text => k_is)
    (case gf_l_paths => k_is)
    (case lf_l_paths => k_is)
    (case cf_l_paths => k_is)
    (case kf_l_paths => k_is)
    (case gf_l_odd => k_is)
    (case lf_l_odd => k_is)
    (case cf_l_odd => k_is)
    (case kf_l_odd => k_is)
    (case gf_l_spoilt => k_is)
    (case lf_l_spoilt => k_is)
    (case cf_l_spoilt => k_is)
    (case kf_l_spoilt => k_is)
    (case gf_l_is_entry => k_is)
    (case lf_l_is_entry => k_is)
    (case cf_l_is_entry => k_is)
    (case kf_l_is_entry => k_is)
    (case gf_l_fault => k_is)
    (case lf_l_fault => k_is)
    (case cf_l_fault => k_is)
    (case kf_l_fault => k_is)
    (case gf_l_told => k_is)
    (case lf_l_told => k_is)
    (case cf_l_told => k_is)
    (case kf_l_told => k_is)
    (case gf_law => k_is)
    (case lf_law => k_is)
    (case cf_law => k_is)
    (case kf_law => k_is)
    (case gm_BadTree => k_is)
    (case xl_BadTree => k_is)
    (case rv_BadTree => decide +kernel)
    (case sa_BadTree => k_is)
    (case gi_BadTree => k_is)
    (case ti_BadTree => k_is)
    (case kc_BadTree => k_is)
    (case ex_BadTree => k_is)
    (case ve_BadTree => k_is)
    (case ty_BadTree => k_is)
    (case lf_BadTree => k_is)
    (case ce_BadTree => k_is)
    (case co1_BadTree => k_is)
    (case co2_BadTree => rfl)
    (case co3_BadTree => decide +kernel)
    (case sp_BadTree => kernel_rfl)
    (case th_ => k_is)
    (case su_ => k_is)
    (case tp_ => decide +kernel)
    (case cf_BadTree => k_is)
    (case ga_BadTree => k_is)
    (case gg_BadTree => k_is)
    (case hd_BadTree => k_is)
    (case ha_BadTree => k_is)
    (case hm_BadTree => k_is)
    (case hn_ => k_is)
    (case ht_ => k_is)
    (case te_BadTree => kernel_rfl)
    (case nf_BadTree_path => k_is)
    (case gm_BadText => k_is)
    (case xl_BadText => k_is)
    (case rv_BadText => decide +kernel)
    (case sa_BadText => k_is)
    (case gi_BadText => k_is)
    (case ti_BadText => k_is)
    (case kc_BadText => k_is)
    (case ex_BadText => k_is)
    (case ve_BadText => k_is)
    (case ty_BadText => k_is)
    (case lf_BadText => k_is)
    (case ce_BadText => k_is)
    (case co1_BadText => k_is)
    (case co2_BadText => rfl)
    (case co3_BadText => decide +kernel)
    (case sp_BadText => kernel_rfl)
    (case cf_BadText => k_is)
    (case ga_BadText => k_is)
    (case gg_BadText => k_is)
    (case hd_BadText => k_is)
    (case ha_BadText => k_is)
    (case hm_BadText => k_is)
    (case te_BadText => kernel_rfl)
    (case nf_BadText_place => k_is)
    (case zz_kw_BadTree => kernel_rfl)

