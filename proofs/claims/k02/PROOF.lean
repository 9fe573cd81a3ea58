import PyProof.Rows.All
import Wide.All
import OpenK.AllK
import Wide.FinOn
import KE.KExcSuper
import HandS.ExcInit
import HandS.FStr
import HandS.ExcIs
import HandS.ExcField
import KE.KExcIs
import HandS.FStrTup
import PyProof.FString2
import PyProof.StrHeap
import HandS.ForMost
import HandS.ForExc
import HandS.Style
import HandS.Flow
import HandS.Evl
import PySem.Challenge.RW_changedwalks_k02_texts_of_trees_refused
set_option Elab.async false
set_option linter.all false
set_option maxRecDepth 100000
set_option maxHeartbeats 4000000
/-! super().__init__(M) in the __init__ of an own exception over ValueError, its fields behind it. -/
namespace Cw
open PySem PySem.W PySem.Calls PyProof.Rows PySem.HandSPX

/-- what the written part says of an own exception class at C, of its __init__ at fI, whose cell of __class__ is cc, its code at cda -/
structure XTxt (P : Program) (K : Frag) (C fI cc cda : Addr) (name qual : Str) (params : Arguments) (body : List Stmt) (scope : Scope) : Prop where
  cls : ∃ nm q N bs bm sn sub ab col dd k0 k1 k2 k3 k5, K.lookup C = some (excClassObj nm q C N bs bm true sn sub ab col dd k0 k1 k2 k3 k5 "ValueError.__new__") ∧ refsVE bm = true
  sa : findIn K (.ref C) "__setattr__" = some (some (.builtin "object.__setattr__"))
  iC : findIn K (.ref C) "__init__" = some (some (.ref fI))
  tI : typeIn K (.ref fI) = some (.type "function")
  kC : keepIn K (.ref C) = true
  exC : subIn K (.ref C) (.type "BaseException") = some true
  veC : subIn K (.ref C) (.type "ValueError") = some true
  tyC : typeIn K (.ref C) = some (.type "type")
  cell : ∃ cl cld csl, K.lookup cc = some ⟨cl, cld, .cell (some (.ref C)), csl⟩
  code : ∃ ccl cdd vs ccs file tf, K.lookup cda = some ⟨ccl, cdd, .fields vs, ccs⟩ ∧ vs[2]? = some (.str file tf) ∧ ((P.main.file : Str) == file) = true
  sup : ks_superIn K C C "__init__" = some (some (.builtin "ValueError.__init__"))
  thr : nsIn K cStatics "thirdparty.any" = some none
  sun : nsIn K mainGlobals "super" = some none
  fn : ∃ oc od kV doc pm an ct osl, K.lookup fI = some ⟨oc, od, .func (fnX name qual params body scope [("__class__", cc)] .none kV doc pm an (.ref cda) ct), osl⟩ ∧ codeIn K (.ref cda) qual = true

abbrev Keeps (h h' : Heap) : Prop := ∀ b o, h.get? b = some o → h'.get? b = some o

section
variable {P : Program} {w : World} {A : Around} {E : Value → Shared → Prop} {K : Frag} {mg : Str → Option Value} {base h : Heap} {g : Array GenState} {d : Drawn} {t : Nat} {os : OsState}
  {FS : List (Str × Value) → Prop} {C fI cc cda x L t0 : Addr} {name qual : Str} {params : Arguments} {body : List Stmt} {scope : Scope} {m : Str → Option Value}

/-- the first statement -/
theorem sup_stmt (T : XTxt P K C fI cc cda name qual params body scope) (Mo : L2.Mod K mg base) (kb : Keeps base h) (hns : h.Ns L m) {ar : Arg} (hp : (params.posonlyargs ++ params.args).head? = some ar) (hv : m ar.arg = some (.ref x))
    (hx : h.get? x = some (excO C t0)) {p0 p1 p2 p3 p4 : Pos} {M : Expr} {Q : Flow → Shared → Prop}
    (hks : scope.names.lookup ("super" : Str) = some .globalImplicit) (hkc : scope.names.lookup ("__class__" : Str) = some .free) (hka : scope.names.lookup ar.arg = some .local) (hk : scope.kind = .function)
    (htop : (P.main.scope.names.lookup ("super" : Str)).isSome = false)
    {pl : Sem Bool} (hev : eval (.Call (.Attribute (.Call (.Name "super" p0) [] [] p1) "__init__" p2) [M] [] p3) (ksEnv qual scope L fI (.ref cda) cc) = (do
      let ov ← attributeBase (.Call (.Name "super" p0) [] [] p1) "__init__" (ksEnv qual scope L fI (.ref cda) cc) (eval (.Call (.Name "super" p0) [] [] p1) (ksEnv qual scope L fI (.ref cda) cc))
      standAt p2.atName
      let (f, first) ← holding [ov] (getMethod ov "__init__" pl)
      callWith p3 f first (backTo p3 (starEach [M] (ksEnv qual scope L fI (.ref cda) cc))) []))
    (hst : starEach [M] (ksEnv qual scope L fI (.ref cda) cc) = [(false, eval M (ksEnv qual scope L fI (.ref cda) cc))])
    (hM : ∀ h1 t1 (QQ : Value → Shared → Prop), Keeps h h1 → (∀ z tk h2 t2, Keeps h1 h2 → QQ (.str z tk) ⟨h2, g, d, t2, os⟩) → wpAny (model P w) A (eval M (ksEnv qual scope L fI (.ref cda) cc)) QQ E ⟨h1, g, d, t1, os⟩)
    (hq : ∀ h' t' t1, (∀ b o, b ≠ x → h.get? b = some o → h'.get? b = some o) → h'.get? x = some (excO C t1) → Q .next ⟨h', g, d, t', os⟩) :
    PySem.wpAt (model P w) A (.func body (ksEnv qual scope L fI (.ref cda) cc)) (exec (.Expr (.Call (.Attribute (.Call (.Name "super" p0) [] [] p1) "__init__" p2) [M] [] p3) p4) (ksEnv qual scope L fI (.ref cda) cc)) Q E ⟨h, g, d, t, os⟩ := by
  obtain ⟨nm, qn, N, bs, bm, sn, sub, ab, col, dd, k0, k1, k2, k3, k5, hC, hbm⟩ := T.cls
  obtain ⟨cl, cld, csl, hcell⟩ := T.cell
  obtain ⟨ccl, cdd, vs, ccs, file, tf, hcode, hvs, hfile⟩ := T.code
  obtain ⟨oc, od, kV, doc, pm, an, ct, osl, hf, hcd⟩ := T.fn
  obtain ⟨mb, hbn, hbb⟩ := Mo.blt
  have X : K.In h := Mo.kin.keeps kb
  have hcl : clsIn K C = some { name := nm, bases := bs, mro := .ref C :: bm, ns := N, qualname := qn, hasDict := true, slotNames := sn, subclasses := sub, abstract := ab, collection := col, hasDel := false } := by unfold clsIn; rw [hC]
  have I : InstAt h x (excO C t0) C none := ⟨hx, rfl, rfl, trivial⟩
  have hsub : Looks (model P w) h (isSubtype (.ref C) (.ref C)) true := looks_mroIn X (by unfold mroIn; rw [hcl, Option.bind_some]; simp)
  refine ks_wpAt_Expr_any (ks_wpAt_MethodCall ?_ hev) (by simp [interactive, hk])
  refine ks_wpAt_super_base (env := ksEnv qual scope L fI (.ref cda) cc) hks hkc (by decide +kernel) rfl (X _ _ hf) rfl hp rfl (X _ _ hcode) rfl hvs hfile htop ?_
  refine ks_loadName_global hk hks (loadGlobal_builtin (env := ksEnv qual scope L fI (.ref cda) cc) (Mo.glob.keeps kb) (mg_none_of Mo.kin Mo.glob T.sun) (hbn.keeps kb) ((hbb _ (by decide +kernel)).trans (by decide +kernel)) ⟨rfl, ?_⟩)
  refine wpAny_loadName_free hk hkc rfl ⟨_, X _ _ hcell, rfl⟩ ?_
  refine wpAny_loadName_local hk hka hns hv ?_
  refine ks_wpAny_isType_cls (X _ _ hC) rfl ⟨rfl, ?_⟩
  refine ks_wpAny_call_super (X _ _ hC) rfl I.at_ I.cls (fun c e => by cases e) hsub (fun h1 e1 kk1 => ?_)
  have X1 : K.In h1 := X.keeps kk1
  have hsup := T.sup
  unfold ks_superIn at hsup
  rw [hcl] at hsup
  have hI1 : Looks (model P w) h1 (isInstance (.ref x) (.type "ValueError")) true := (show InstAt h1 x (excO C t0) C none from ⟨kk1 _ _ hx, rfl, rfl, trivial⟩).type.andThen (looks_subIn X1 T.veC)
  refine kxs_getMethod kxs_ValueError e1 (looks_opaque X1 T.thr) (l₀ := .ref C :: bm) ?_ rfl X1 hsup hI1 (ks_ne X I hcl) (by decide +kernel) ?_
  · exact fun A Q E s k q => wpAny_bind ((looks_clsIn X1 hcl) A _ E s k (wpAny_pure q))
  rw [hst]
  refine kxs_callWith (i := "ValueError.__init__") (x := x) rfl ?_
  refine evalArgs_plain ?_
  have kp : Keeps h1 (h1.push (kxs_mw "ValueError.__init__" x)) := fun b o e => Heap.get?_push_of_some _ e
  have ku : (h1.push (kxs_mw "ValueError.__init__" x)).get? h1.objs.size = some (kxs_mw "ValueError.__init__" x) := Heap.get?_push_at rfl rfl
  refine spliced_cons (hM _ _ _ (fun b o e => kp b o (kk1 b o e)) fun z tk h2 t2 k2 => ?_)
  refine spliced_nil ⟨k2 _ _ ku, ?_⟩
  have hx2 : h2.get? x = some (excO C t0) := k2 _ _ (kp _ _ (kk1 _ _ hx))
  have hC2 := k2 _ _ (kp _ _ (X1 _ _ hC))
  show wpAny _ _ (call (.ref h1.objs.size) [.str z tk]) _ _ _
  refine wpAny_call (codeAny_of_tree ?_)
  show wpAny _ A.in1 (callAny (.ref h1.objs.size) ⟨[.str z tk], []⟩) _ _ _
  simp only [callAny]
  refine wpAny_bind (wpAny_load (k2 _ _ ku) ?_)
  simp only [kxs_mw, show (Value.type "method-wrapper" == Value.type "method" || Value.type "method-wrapper" == Value.type "builtin_function_or_method" || Value.type "method-wrapper" == Value.type "method-wrapper") = true by decide, if_true]
  refine KFB.if_so (by decide) ?_
  refine wpAny_bind (check_bound_init F.excBase_ValueError.toExcCallFacts hC2 hx2 rfl ?_)
  refine wpAny_bind (wpAny_pure (wpAny_pure ?_))
  refine ⟨plainId_quiet F.excBase_ValueError.init.plain _, codeAny_builtin F.excBase_ValueError.initEntry ?_⟩
  refine exc_init_tree (cls := .ref C) (t0 := t0) (dv := none) (c2 := .none) (c3 := .none) (b4 := .bool false) hx2 (by rw [sizeLine_eq]; exact (by decide : 1 ≤ 16777216)) fun h' k' e' _ => ?_
  exact hq h' _ _ (fun b o hb e => k' b o hb (k2 _ _ (kp _ _ (kk1 _ _ e)))) e'

theorem get_upd_ne {h h' : Heap} {x : Addr} (k : ∀ b o, b ≠ x → h.get? b = some o → h'.get? b = some o) {L : Addr} {m : Str → Option Value} (hL : L ≠ x) (hns : h.Ns L m) : h'.Ns L m :=
  hns.at fun _ e => k _ _ hL e

/-- the message: some text -/
def Msg (P : Program) (w : World) (M : Expr) (qual : Str) (scope : Scope) (fI cda cc : Addr) (m : Str → Option Value) (h0 : Heap) : Prop :=
  ∀ (A : Around) (E : Value → Shared → Prop) (L : Addr) (h1 : Heap) (g : Array GenState) (d : Drawn) (t1 : Nat) (os : OsState) (QQ : Value → Shared → Prop), L2.Room 0 A → h1.Ns L m → Keeps h0 h1 →
    (∀ z tk h2 t2, Keeps h1 h2 → QQ (.str z tk) ⟨h2, g, d, t2, os⟩) → wpAny (model P w) A (eval M (ksEnv qual scope L fI (.ref cda) cc)) QQ E ⟨h1, g, d, t1, os⟩

/-- the conditions on the text of the first statement -/
structure SupOk (P : Program) (M : Expr) (qual : Str) (scope : Scope) (fI cda cc : Addr) (p0 p1 p2 p3 p4 : Pos) : Prop where
  ks : scope.names.lookup ("super" : Str) = some .globalImplicit
  kc : scope.names.lookup ("__class__" : Str) = some .free
  k : scope.kind = .function
  co : scope.isCoroutine = false
  gen : scope.isGenerator = false
  top : (P.main.scope.names.lookup ("super" : Str)).isSome = false
  cell : ∀ x ∈ scope.names, x.2 ≠ .cell
  ev : ∀ L, ∃ pl : Sem Bool, eval (.Call (.Attribute (.Call (.Name "super" p0) [] [] p1) "__init__" p2) [M] [] p3) (ksEnv qual scope L fI (.ref cda) cc) = (do
      let ov ← attributeBase (.Call (.Name "super" p0) [] [] p1) "__init__" (ksEnv qual scope L fI (.ref cda) cc) (eval (.Call (.Name "super" p0) [] [] p1) (ksEnv qual scope L fI (.ref cda) cc))
      standAt p2.atName
      let (f, first) ← holding [ov] (getMethod ov "__init__" pl)
      callWith p3 f first (backTo p3 (starEach [M] (ksEnv qual scope L fI (.ref cda) cc))) [])
  st : ∀ L, starEach [M] (ksEnv qual scope L fI (.ref cda) cc) = [(false, eval M (ksEnv qual scope L fI (.ref cda) cc))]

abbrev supS (M : Expr) (p0 p1 p2 p3 p4 : Pos) : Stmt := .Expr (.Call (.Attribute (.Call (.Name "super" p0) [] [] p1) "__init__" p2) [M] [] p3) p4

/-- the call of __init__ up to the statements behind super() -/
theorem init_go {s : Shared} {R : Result → Shared → Prop} {rest : List Stmt} {M : Expr} {p0 p1 p2 p3 p4 : Pos} {us : List Value} {binds : List (Str × Value)} {ar : Arg}
    (T : XTxt P K C fI cc cda name qual params (supS M p0 p1 p2 p3 p4 :: rest) scope) (S : SupOk P M qual scope fI cda cc p0 p1 p2 p3 p4) (Mo : L2.Mod K mg base) (kb : Keeps base s.heap)
    (hx : s.heap.get? x = some (excO C t0)) (hr : L2.Room 1 A) (hp : (params.posonlyargs ++ params.args).head? = some ar) (hka : scope.names.lookup ar.arg = some .local) (hv : binds.reverse.lookup ar.arg = some (.ref x))
    (hbind : ∀ kV doc pm an ct, BindsTo s (fnX name qual params (supS M p0 p1 p2 p3 p4 :: rest) scope [("__class__", cc)] .none kV doc pm an (.ref cda) ct) ⟨us, []⟩ binds) (hloc : ∀ y ∈ binds, scope.names.lookup y.1 = some .local)
    (hM : Msg P w M qual scope fI cda cc (fun y => binds.reverse.lookup y) s.heap)
    (hq : ∀ (A' : Around) (E' : Value → Shared → Prop) h' t' t1, (∀ b o, b ≠ x → s.heap.get? b = some o → h'.get? b = some o) → h'.get? x = some (excO C t1) → h'.Ns s.heap.objs.size (fun y => binds.reverse.lookup y) →
      wpAny (model P w) A' (execs rest (ksEnv qual scope s.heap.objs.size fI (.ref cda) cc)) (fun f s' => R (.ok (.ret (match f with | .ret v => v | _ => .none))) s') E' { s with heap := h', toks := t' }) :
    codeAny (model P w) A (.call (.ref fI) ⟨us, []⟩) R s := by
  obtain ⟨oc, od, kV, doc, pm, an, ct, osl, hf, hcd⟩ := T.fn
  have X : K.In s.heap := Mo.kin.keeps kb
  have hlim : s.heap.NoLimit := Mo.nolimit.keeps kb
  obtain ⟨hh, g, d, tk, os⟩ := s
  refine ks_codeAny_call_defAt (body := supS M p0 p1 p2 p3 p4 :: rest) (binds := binds) hr.depth (X _ _ hf) rfl hlim (codeRec_of X hcd) rfl (hbind _ _ _ _ _) S.cell hloc (fun h1 hns k1 => ?_) S.co S.gen S.k
  obtain ⟨pl, hev⟩ := S.ev hh.objs.size
  refine ks_wpAt_execs_cons ?_
  have hxL : hh.objs.size ≠ x := Nat.ne_of_gt (Heap.lt_size hx)
  refine sup_stmt T Mo (fun b o e => k1 b o (kb b o e)) hns hp hv (k1 _ _ hx) S.ks S.kc hka S.k S.top hev (S.st _) (fun h2 t2 QQ k2 q => ?_) fun h' t' t1 k' e' => ?_
  · exact hM _ _ hh.objs.size h2 g d t2 os QQ (hr.deeper _) (hns.keeps k2) (fun b o e => k2 b o (k1 b o e)) q
  · exact wpAt_of_wpAny (hq _ _ h' t' t1 (fun b o hb e => k' b o hb (k1 b o e)) e' (get_upd_ne k' hxL hns))

/-- the names of an exception's own dict, the last stored first -/
def mOf : List (Str × Value) → Str → Option Value
  | [] => fun _ => none
  | (f, v) :: r => fun y => if y = f then some v else mOf r y
/-- an own exception, made: at e, its own dict (where it has fields) -/
structure XMade (h h' : Heap) (e C : Addr) (dd : Option Addr) (fs : List (Str × Value)) : Prop where
  keep : Keeps h h'
  new : h.objs.size ≤ e
  obj : ∃ oe vs, h'.get? e = some oe ∧ oe.cls = .ref C ∧ oe.dict = dd ∧ oe.data = .fields vs ∧ vs[1]? = some .none
  dic : (dd = none ∧ fs = []) ∨ ∃ dx, dd = some dx ∧ fs ≠ [] ∧ h.objs.size ≤ dx ∧ dx ≠ e ∧ h'.Ns1 dx (mOf fs)

abbrev stS (f : Str) (q1 q2 q3 q4 : Pos) : Stmt := .Assign [.Attribute (.Name "self" q1) f q2] (.Name f q3) q4
theorem ld_k {env : Env} {s : Shared} {m : Str → Option Value} {x : Str} {pos : Pos} {v : Value} {Q : Value → Shared → Prop} (hn : s.heap.Ns env.locals m) (hv : m x = some v) (hk : env.scope.kind = .function) (hl : env.scope.names.lookup x = some .local) (hd : (x == ("__debug__" : Str)) = false) (h : Q v s) :
    wpAny (model P w) A (eval (.Name x pos) env) Q E s := wpAny_Name (wpAny_loadName_local hk hl hn hv h) hd

/-- what is shown of the call of __init__ behind BaseException.__new__ -/
def HInit (P : Program) (w : World) (A : Around) (s : Shared) (C fI : Addr) (us : List Value) (fs : List (Str × Value)) : Prop :=
  ∀ (A' : Around) (R' : Result → Shared → Prop) h1 (x t0 : Addr), A' = A.under (.builtin "type.__call__" ⟨.ref C :: us, []⟩) → Keeps s.heap h1 → s.heap.objs.size ≤ x → h1.get? x = some (excO C t0) →
    (∀ h' tk dd, (∀ b o, b ≠ x → h1.get? b = some o → h'.get? b = some o) → (∃ t1 : Addr, h'.get? x = some { cls := .ref C, dict := dd, data := .fields #[.ref t1, .none, .none, .none, .bool false, .none] }) →
      ((dd = none ∧ fs = []) ∨ ∃ dx, dd = some dx ∧ fs ≠ [] ∧ h1.objs.size ≤ dx ∧ dx ≠ x ∧ h'.Ns1 dx (mOf fs)) → R' (.ok (.ret .none)) { s with heap := h', toks := tk }) →
    codeAny (model P w) A' (.call (.ref fI) ⟨.ref x :: us, []⟩) R' { s with heap := h1 }

/-- one made -/
theorem made_of {s : Shared} {R : Result → Shared → Prop} {us : List Value} {fs : List (Str × Value)} (T : XTxt P K C fI cc cda name qual params body scope) (Mo : L2.Mod K mg base) (kb : Keeps base s.heap) (hus : us.length ≤ 1000)
    (hi : HInit P w A s C fI us fs) (hq : ∀ h' tk e dd, XMade s.heap h' e C dd fs → R (.ok (.ret (.ref e))) { s with heap := h', toks := tk }) :
    codeAny (model P w) A (.call (.ref C) ⟨us, []⟩) R s := by
  obtain ⟨nm, q, N, bs, bm, sn, sub, ab, col, dd, k0, k1, k2, k3, k5, hC, hbm⟩ := T.cls
  have X : K.In s.heap := Mo.kin.keeps kb
  obtain ⟨hp, g, d, tk, os⟩ := s
  have k : Keeps hp ((hp.push (kdv_tup us)).push (excO C hp.objs.size)) := fun b o e => Heap.get?_push_of_some _ (Heap.get?_push_of_some _ e)
  have hget : ((hp.push (kdv_tup us)).push (excO C hp.objs.size)).get? (hp.objs.size + 1) = some (excO C hp.objs.size) := by heap_get
  have hz : us.length ≤ sizeLine := by rw [sizeLine_eq]; omega
  refine call_own F.excBase_ValueError (fun Y => refsVE_contains Y bm hbm) (X _ _ hC) (looks_findIn X T.iC) (fun self => bind_fn X self T.tI) hz ?_
  refine hi _ _ _ (hp.objs.size + 1) hp.objs.size rfl k (Nat.le_succ _) hget fun h' tk' dd k' hx hd => ?_
  have old : Keeps hp h' := fun b o e => k' b o (Nat.ne_of_lt (Nat.lt_succ_of_lt (Heap.lt_size e))) (k b o e)
  obtain ⟨t1, hx⟩ := hx
  refine ⟨rfl, hq h' tk' (hp.objs.size + 1) dd ⟨old, Nat.le_succ _, ⟨_, _, hx, rfl, rfl, rfl, rfl⟩, ?_⟩⟩
  rcases hd with hd | ⟨dx, e1, ef, e2, e3, e4⟩
  · exact .inl hd
  · refine .inr ⟨dx, e1, ef, ?_, e3, e4⟩
    have z : hp.objs.size ≤ ((hp.push (kdv_tup us)).push (excO C hp.objs.size)).objs.size := by
      rw [Heap.size_push, Heap.size_push]; omega
    exact Nat.le_trans z e2

section
variable {s : Shared} {v u : Value} {f f2 : Str} {M : Expr} {p0 p1 p2 p3 p4 q1 q2 q3 q4 q5 q6 q7 q8 : Pos} {a0 : Arg}
/-- no field -/
theorem hinit0 (T : XTxt P K C fI cc cda name qual params [supS M p0 p1 p2 p3 p4] scope) (S : SupOk P M qual scope fI cda cc p0 p1 p2 p3 p4) (Mo : L2.Mod K mg base) (kb : Keeps base s.heap) (hr : L2.Room 2 A)
    (hp : (params.posonlyargs ++ params.args).head? = some a0) (ha : a0.arg = "self") (hself : scope.names.lookup ("self" : Str) = some .local)
    (hb : ∀ x kV doc pm an ct s, BindsTo s (fnX name qual params [supS M p0 p1 p2 p3 p4] scope [("__class__", cc)] .none kV doc pm an (.ref cda) ct) ⟨[.ref x], []⟩ [("self", .ref x)])
    (hM : ∀ x h1, Keeps s.heap h1 → Msg P w M qual scope fI cda cc (fun y => [(("self" : Str), Value.ref x)].lookup y) h1) : HInit P w A s C fI [] [] := by
  intro A' R' h1 x t0 eA k hx0 hx hq
  subst eA
  refine init_go (s := { s with heap := h1 }) T S Mo (fun b o e => k b o (kb b o e)) hx (hr.make C [] []) hp (by rw [ha]; exact hself) (by rw [ha]; simp) (fun kV doc pm an ct => hb x kV doc pm an ct _) (fun y hy => ?_) (hM x h1 k) ?_
  · simp only [List.mem_singleton] at hy
    subst hy
    exact hself
  · intro A'' E' h' t' t1 k' e' hns
    exact wpAny_execs_nil (hq h' t' none k' ⟨t1, e'⟩ (.inl ⟨rfl, rfl⟩))
/-- one field -/
theorem hinit1 (T : XTxt P K C fI cc cda name qual params [supS M p0 p1 p2 p3 p4, stS f q1 q2 q3 q4] scope) (S : SupOk P M qual scope fI cda cc p0 p1 p2 p3 p4) (Mo : L2.Mod K mg base) (kb : Keeps base s.heap) (hr : L2.Room 2 A)
    (hp : (params.posonlyargs ++ params.args).head? = some a0) (ha : a0.arg = "self") (hself : scope.names.lookup ("self" : Str) = some .local) (hfl : scope.names.lookup f = some .local) (hfs : f ≠ "self") (hfd : (f == ("__debug__" : Str)) = false)
    (hno : findIn K (.ref C) f = some none)
    (hb : ∀ x kV doc pm an ct s, BindsTo s (fnX name qual params [supS M p0 p1 p2 p3 p4, stS f q1 q2 q3 q4] scope [("__class__", cc)] .none kV doc pm an (.ref cda) ct) ⟨[.ref x, v], []⟩ [("self", .ref x), (f, v)])
    (hsw : ∀ L, swapsWith (.Name f q3) (some (.Attribute (.Name "self" q1) f q2)) q4.line (ksEnv qual scope L fI (.ref cda) cc) = pure false)
    (hM : ∀ x h1, Keeps s.heap h1 → Msg P w M qual scope fI cda cc (fun y => [(f, v), (("self" : Str), Value.ref x)].lookup y) h1) : HInit P w A s C fI [v] [(f, v)] := by
  intro A' R' h1 x t0 eA k hx0 hx hq
  subst eA
  have l1 : ∀ x : Addr, [(f, v), (("self" : Str), Value.ref x)].lookup ("self" : Str) = some (.ref x) := fun x => by
    have q : (("self" : Str) == f) = false := by simpa using fun e => hfs e.symm
    simp [List.lookup, q]
  have l2 : ∀ x : Addr, [(f, v), (("self" : Str), Value.ref x)].lookup f = some v := fun x => by simp [List.lookup]
  refine init_go (s := { s with heap := h1 }) T S Mo (fun b o e => k b o (kb b o e)) hx (hr.make C [v] []) hp (by rw [ha]; exact hself) (by rw [ha]; exact l1 x) (fun kV doc pm an ct => hb x kV doc pm an ct _) (fun y hy => ?_) (hM x h1 k) ?_
  · simp only [List.mem_cons, List.not_mem_nil, or_false] at hy
    rcases hy with rfl | rfl
    · exact hself
    · exact hfl
  · intro A'' E' h' t' t1 k' e' hns
    obtain ⟨nm, q, N, bs, bm, sn, sub, ab, col, dd, k0, k1, k2, k3, k5, hC, hbm⟩ := T.cls
    have hcl : clsIn K C = some { name := nm, bases := bs, mro := .ref C :: bm, ns := N, qualname := q, hasDict := true, slotNames := sn, subclasses := sub, abstract := ab, collection := col, hasDel := false } := by unfold clsIn; rw [hC]
    have hxC : ∀ b o, K.lookup b = some o → b ≠ x := fun b o e z => by
      have y := kb b o (Mo.kin b o e)
      rw [z] at y
      exact absurd (Nat.lt_of_lt_of_le (Heap.lt_size y) hx0) (Nat.lt_irrefl _)
    have X' : K.In h' := fun b o e => k' b o (hxC b o e) (k b o (kb b o (Mo.kin b o e)))
    refine wpAny_execs_cons (plainObj_wpAny_Assign_Attribute ?_ (hsw _))
    refine ld_k (v := v) hns (l2 x) S.k hfl hfd (ld_k (v := .ref x) hns (l1 x) S.k hself (by decide +kernel) ?_)
    obtain ⟨hh, g, d, tk0, os⟩ := s
    refine set_plain X' (ox := excO C t1) (od := none) ⟨e', rfl, rfl, trivial⟩ T.sa ?_
    refine exc_osa X' e' hcl (show refsVE (.ref C :: bm) = true from hbm) rfl hno (fun h3 tk3 dx k3' dn dne hx3 hn3 => ?_)
    refine wpAny_execs_nil (hq h3 tk3 (some dx) (fun b o hb e => k3' b o hb (k' b o hb e)) ⟨t1, hx3⟩ (.inr ⟨dx, rfl, by simp, ?_, dne, hn3⟩))
    have : h1.objs.size ≤ h'.objs.size := Nat.le_of_lt hns.lt
    exact Nat.le_trans this dn
/-- two fields -/
theorem hinit2 (T : XTxt P K C fI cc cda name qual params [supS M p0 p1 p2 p3 p4, stS f q1 q2 q3 q4, stS f2 q5 q6 q7 q8] scope) (S : SupOk P M qual scope fI cda cc p0 p1 p2 p3 p4) (Mo : L2.Mod K mg base) (kb : Keeps base s.heap) (hr : L2.Room 2 A)
    (hp : (params.posonlyargs ++ params.args).head? = some a0) (ha : a0.arg = "self") (hself : scope.names.lookup ("self" : Str) = some .local) (hfl : scope.names.lookup f = some .local) (hfs : f ≠ "self") (hfd : (f == ("__debug__" : Str)) = false)
    (hfl2 : scope.names.lookup f2 = some .local) (hfs2 : f2 ≠ "self") (hff : f ≠ f2) (hfd2 : (f2 == ("__debug__" : Str)) = false)
    (hno : findIn K (.ref C) f = some none) (hno2 : findIn K (.ref C) f2 = some none)
    (hb : ∀ x kV doc pm an ct s, BindsTo s (fnX name qual params [supS M p0 p1 p2 p3 p4, stS f q1 q2 q3 q4, stS f2 q5 q6 q7 q8] scope [("__class__", cc)] .none kV doc pm an (.ref cda) ct) ⟨[.ref x, v, u], []⟩ [("self", .ref x), (f, v), (f2, u)])
    (hsw : ∀ L, swapsWith (.Name f q3) (some (.Attribute (.Name "self" q1) f q2)) q4.line (ksEnv qual scope L fI (.ref cda) cc) = pure false)
    (hsw2 : ∀ L, swapsWith (.Name f2 q7) (some (.Attribute (.Name "self" q5) f2 q6)) q8.line (ksEnv qual scope L fI (.ref cda) cc) = pure false)
    (hM : ∀ x h1, Keeps s.heap h1 → Msg P w M qual scope fI cda cc (fun y => [(f2, u), (f, v), (("self" : Str), Value.ref x)].lookup y) h1) : HInit P w A s C fI [v, u] [(f2, u), (f, v)] := by
  intro A' R' h1 x t0 eA k hx0 hx hq
  subst eA
  have b0 : (("self" : Str) == f) = false := by simpa using fun e => hfs e.symm
  have b1 : (("self" : Str) == f2) = false := by simpa using fun e => hfs2 e.symm
  have b2 : (f == f2) = false := by simpa using hff
  have l1 : ∀ x : Addr, [(f2, u), (f, v), (("self" : Str), Value.ref x)].lookup ("self" : Str) = some (.ref x) := fun x => by simp [List.lookup, b0, b1]
  have l2 : ∀ x : Addr, [(f2, u), (f, v), (("self" : Str), Value.ref x)].lookup f = some v := fun x => by simp [List.lookup, b2]
  have l3 : ∀ x : Addr, [(f2, u), (f, v), (("self" : Str), Value.ref x)].lookup f2 = some u := fun x => by simp [List.lookup]
  refine init_go (s := { s with heap := h1 }) T S Mo (fun b o e => k b o (kb b o e)) hx (hr.make C [v, u] []) hp (by rw [ha]; exact hself) (by rw [ha]; exact l1 x) (fun kV doc pm an ct => hb x kV doc pm an ct _) (fun y hy => ?_) (hM x h1 k) ?_
  · simp only [List.mem_cons, List.not_mem_nil, or_false] at hy
    rcases hy with rfl | rfl | rfl
    · exact hself
    · exact hfl
    · exact hfl2
  · intro A'' E' h' t' t1 k' e' hns
    obtain ⟨nm, q, N, bs, bm, sn, sub, ab, col, dd, k0, k1, k2, k3, k5, hC, hbm⟩ := T.cls
    have hcl : clsIn K C = some { name := nm, bases := bs, mro := .ref C :: bm, ns := N, qualname := q, hasDict := true, slotNames := sn, subclasses := sub, abstract := ab, collection := col, hasDel := false } := by unfold clsIn; rw [hC]
    have hxC : ∀ b o, K.lookup b = some o → b ≠ x := fun b o e z => by
      have y := kb b o (Mo.kin b o e)
      rw [z] at y
      exact absurd (Nat.lt_of_lt_of_le (Heap.lt_size y) hx0) (Nat.lt_irrefl _)
    have X' : K.In h' := fun b o e => k' b o (hxC b o e) (k b o (kb b o (Mo.kin b o e)))
    refine wpAny_execs_cons (plainObj_wpAny_Assign_Attribute ?_ (hsw _))
    refine ld_k (v := v) hns (l2 x) S.k hfl hfd (ld_k (v := .ref x) hns (l1 x) S.k hself (by decide +kernel) ?_)
    obtain ⟨hh, g, d, tk0, os⟩ := s
    refine set_plain X' (ox := excO C t1) (od := none) ⟨e', rfl, rfl, trivial⟩ T.sa ?_
    refine exc_osa X' e' hcl (show refsVE (.ref C :: bm) = true from hbm) rfl hno (fun h3 tk3 dx k3' dn dne hx3 hn3 => ?_)
    have hLx : h1.objs.size ≠ x := Nat.ne_of_gt (Heap.lt_size hx)
    have hns3 : h3.Ns h1.objs.size _ := get_upd_ne k3' hLx hns
    have X3 : K.In h3 := fun b o e => k3' b o (hxC b o e) (X' b o e)
    refine wpAny_execs_cons (plainObj_wpAny_Assign_Attribute ?_ (hsw2 _))
    refine ld_k (v := u) hns3 (l3 x) S.k hfl2 hfd2 (ld_k (v := .ref x) hns3 (l1 x) S.k hself (by decide +kernel) ?_)
    have hw : Within (mOf [(f, v)]) [f] := fun y hy => by
      by_cases e : y = f
      · simp [e]
      · simp [mOf, e] at hy
    obtain ⟨oD, _, _, hoD, _, _⟩ := hn3.count hw
    refine set_plain X3 (ox := { cls := .ref C, dict := some dx, data := .fields #[.ref t1, .none, .none, .none, .bool false, .none] }) (od := some oD) ⟨hx3, rfl, rfl, hoD⟩ T.sa ?_
    refine PySem.OEX.osa_old X3 hx3 hn3 hw (by show 1 ≤ 1000; decide) hcl (show refsVE (.ref C :: bm) = true from hbm) rfl hno2 (fun h4 tk4 k4' hn4 => ?_)
    have sz : h1.objs.size ≤ dx := Nat.le_trans (Nat.le_of_lt hns.lt) dn
    refine wpAny_execs_nil (hq h4 tk4 (some dx) (fun b o hb e => k4' b o (fun z => ?_) (k3' b o hb (k' b o hb e))) ⟨t1, k4' x _ (Ne.symm dne) hx3⟩ (.inr ⟨dx, rfl, by simp, sz, dne, hn4⟩))
    rw [z] at e
    exact absurd (Nat.lt_of_lt_of_le (Heap.lt_size e) sz) (Nat.lt_irrefl _)
end
end

/-! the messages -/
section
variable {P : Program} {w : World} {qual : Str} {scope : Scope} {fI cda cc : Addr} {m : Str → Option Value} {h0 : Heap}
/-- a part of a message: some text of at most n signs -/
def Part (P : Program) (w : World) (e : Expr) (qual : Str) (scope : Scope) (fI cda cc : Addr) (m : Str → Option Value) (h0 : Heap) (n : Nat) : Prop :=
  ∀ (A : Around) (E : Value → Shared → Prop) (L : Addr) (s : Shared) (QQ : Value → Shared → Prop), L2.Room 0 A → s.heap.Ns L m → Keeps h0 s.heap →
    (∀ z tk t2, z.length ≤ n → QQ (.str z tk) { s with toks := t2 }) → wpAny (model P w) A (eval e (ksEnv qual scope L fI (.ref cda) cc)) QQ E s
theorem part_const {x : Str} {j : Nat} {pos : Pos} {n : Nat} (h : x.length ≤ n) : Part P w (.Constant (.str x) j pos) qual scope fI cda cc m h0 n :=
  fun _ _ _ _ _ _ _ _ q => Calls.Constant_str (q _ _ _ h)
/-- {f}: a text, a small int or None -/
theorem part_fmt {f : Str} {p1 p2 : Pos} {v : Value} {n : Nat} (hk : scope.kind = .function) (hl : scope.names.lookup f = some .local) (hd : (f == ("__debug__" : Str)) = false) (hv : m f = some v)
    (h : (∃ x t, v = .str x t ∧ x.length ≤ n ∧ x.length ≤ sizeLine) ∨ (∃ i t, v = .int i t ∧ i.natAbs.log2 < 1920 ∧ (toString i : Str).length ≤ n) ∨ (v = .none ∧ 4 ≤ n)) : Part P w (.FormattedValue (.Name f p1) (-1) none p2) qual scope fI cda cc m h0 n := by
  intro A E L s QQ hr hns hk0 q
  refine wpAny_FormattedValue_plain (wpAny_Name (wpAny_loadName_local (v := v) hk hl hns hv ?_) hd)
  rcases h with ⟨x, t, rfl, h1, h2⟩ | ⟨i, t, rfl, h1, h2⟩ | ⟨rfl, h1⟩
  · exact wpAny_formatField_str (q _ _ s.toks h1) (q _ _ _ h1) h2
  · exact wpAny_formatField_int h1 (q _ _ _ h2)
  · exact wpAny_formatField_none (q _ _ _ h1)
theorem msg_const {x : Str} {j : Nat} {pos : Pos} : Msg P w (.Constant (.str x) j pos) qual scope fI cda cc m h0 :=
  fun _ _ _ _ _ _ _ _ _ _ _ _ q => Calls.Constant_str (q _ _ _ _ fun _ _ e => e)
/-- the parts joined -/
theorem parts_join {n : Nat} {A : Around} {E : Value → Shared → Prop} {L : Addr} (hr : L2.Room 0 A) : ∀ (es : List Expr) (acc : Str) (s : Shared) (QQ : Value → Shared → Prop), (∀ e ∈ es, Part P w e qual scope fI cda cc m h0 n) → acc.length + es.length * n ≤ sizeLine → s.heap.Ns L m → Keeps h0 s.heap →
    (∀ z tk t2, QQ (.str z tk) { s with toks := t2 }) → wpAny (model P w) A (joinParts acc (evalEach es (ksEnv qual scope L fI (.ref cda) cc))) QQ E s
  | [], acc, s, QQ, _, hz, _, _, q => by
    have e0 : evalEach [] (ksEnv qual scope L fI (.ref cda) cc) = [] := by first | rfl | simp [evalEach]
    rw [e0]
    exact joinParts_nil (q _ _ _) (by omega)
  | e :: es, acc, s, QQ, he, hz, hns, hk0, q => by
    have e0 : evalEach (e :: es) (ksEnv qual scope L fI (.ref cda) cc) = eval e (ksEnv qual scope L fI (.ref cda) cc) :: evalEach es (ksEnv qual scope L fI (.ref cda) cc) := by first | rfl | simp [evalEach]
    rw [e0]
    have hz' : acc.length + (es.length * n + n) ≤ sizeLine := by rw [List.length_cons, Nat.succ_mul] at hz; exact hz
    refine joinParts_cons (he e List.mem_cons_self A E L s _ hr hns hk0 fun z tk t2 hzl => ⟨by rw [strLen_append]; omega, ?_⟩)
    exact parts_join hr es (acc ++ z) { s with toks := t2 } QQ (fun e' h' => he e' (List.mem_cons_of_mem _ h')) (by rw [strLen_append]; omega) hns hk0 fun z tk t3 => q z tk t3
theorem msg_join {e1 e2 : Expr} {es : List Expr} {pos : Pos} {n : Nat} (h : ∀ e ∈ e1 :: e2 :: es, Part P w e qual scope fI cda cc m h0 n) (hz : (es.length + 2) * n ≤ sizeLine) : Msg P w (.JoinedStr (e1 :: e2 :: es) pos) qual scope fI cda cc m h0 := by
  intro A E L h1 g d t1 os QQ hr hns hk q
  have z0 : Str.empty.length = 0 := rfl
  exact JoinedStr_many (parts_join (n := n) hr (e1 :: e2 :: es) Str.empty ⟨h1, g, d, t1, os⟩ QQ h (by rw [z0]; simpa using hz) hns hk fun z tk t2 => q z tk h1 t2 fun _ _ e => e)
end
end Cw
namespace L2
open PySem PySem.Spec PyProof.Rows
section
variable {X : Cx}
theorem relO_mOf : ∀ {fs : List (Str × V)} {us : List (Str × Value)}, Paired (fun (p : Str × V) (q : Str × Value) => p.1 = q.1 ∧ RelV p.2 q.2) fs us → ∀ y, RelO (fs.lookup y) (Cw.mOf us y)
  | _, _, .nil, y => True.intro
  | (f, v) :: r, (f2, u) :: r2, .cons ⟨e, rv⟩ t, y => by
    have e' : f = f2 := e
    subst e'
    exact relO_put rv (fun g => relO_mOf t g) y
/-- the reading of C(..): C an own exception class with super().__init__(..) and the fields nf -/
def tMkX (C : Addr) (nf : List Str) (ok : List V → Hp → Prop) (ta : TA) : St → Hp → XK → Prop := fun σ H Q => ta σ H fun vs H1 => vs.length = nf.length ∧ ok vs H1 ∧
  (nf = [] → Q (.ref C) none H1) ∧ (nf ≠ [] → ∀ d, H1 d = none → Q (.ref C) (some d) (upd H1 d (.xd (nf.zip vs).reverse)))
theorem zip_rel : ∀ {nf : List Str} {vs : List V} {us : List Value}, Vals vs us → Paired (fun (p : Str × V) (q : Str × Value) => p.1 = q.1 ∧ RelV p.2 q.2) (nf.zip vs) (nf.zip us)
  | [], _, _, _ => .nil
  | _ :: _, _, _, .nil => .nil
  | _ :: _, _, _, .cons r t => .cons ⟨rfl, r⟩ (zip_rel t)
theorem pair_rev {α β : Type} {F : α → β → Prop} : ∀ {l1 : List α} {l2 : List β}, Paired F l1 l2 → Paired F l1.reverse l2.reverse
  | _, _, .nil => .nil
  | _, _, .cons r t => by
    rw [List.reverse_cons, List.reverse_cons]
    exact pair_app (pair_rev t) (.cons r .nil)
where pair_app : ∀ {l1 : List α} {l2 : List β} {m1 : List α} {m2 : List β}, Paired F l1 l2 → Paired F m1 m2 → Paired F (l1 ++ m1) (l2 ++ m2)
  | _, _, _, _, .nil, s => s
  | _, _, _, _, .cons r t, s => .cons r (pair_app t s)
/-- behind BaseException.__new__ and __init__ -/
theorem pmk_end {C fI cc cda : Addr} {name qual : Str} {params : Arguments} {body : List Stmt} {scope : Scope} {nf : List Str} {ok : List V → Hp → Prop}
    (T : Cw.XTxt X.prog X.K C fI cc cda name qual params body scope) {pins : List (Addr × Obj)} {σ : St} {H1 : Hp} {Q : XK} {s : Shared} {vs : List V} {us : List Value}
    (I1 : Inv X pins σ H1 s) (r1 : Vals vs us) (hn : vs.length = nf.length) (hz : nf.length ≤ 10) (hi : Cw.HInit X.prog X.w X.A s C fI us (nf.zip us).reverse)
    (q0 : nf = [] → Q (.ref C) none H1) (q1 : nf ≠ [] → ∀ d, H1 d = none → Q (.ref C) (some d) (upd H1 d (.xd (nf.zip vs).reverse))) :
    wpAny (model X.prog X.w) X.A (call (.ref C) us) (MkP X pins σ Q) X.xe s := by
  have hl : us.length = nf.length := (Paired.length r1).symm.trans hn
  refine wpAny_call (Cw.made_of (A := X.A) T I1.ok.mod I1.bk (by omega) hi fun h' tk' e dd M => ?_)
  · obtain ⟨hp, g, dr, tk, os⟩ := s
    show MkP X pins σ Q (.ref e) ⟨h', g, dr, tk', os⟩
    obtain ⟨oe, fv, hoe, hc, hd, hdat, h1⟩ := M.obj
    obtain ⟨G', g1, g2⟩ := restrict h' fun b => decide (b ≠ e)
    have gk : ∀ b, b ≠ e → G'.get? b = h'.get? b := fun b hb => g1 b (decide_eq_true hb)
    have ge : G'.get? e = none := g2 e (by simp)
    have old : ∀ b o, hp.get? b = some o → G'.get? b = some o := fun b o q => (gk b (Nat.ne_of_lt (Nat.lt_of_lt_of_le (Heap.lt_size q) M.new))).trans (M.keep b o q)
    have back : ∀ b o, G'.get? b = some o → h'.get? b = some o := fun b o q => by
      by_cases hb : b = e
      · rw [hb, ge] at q; cases q
      · exact (gk b hb).symm.trans q
    have hes : H1 e = none := I1.hok.fresh M.new
    rcases M.dic with ⟨hdd, hfs⟩ | ⟨dx, hdd, hfs, dnew, dne, hns⟩
    · have en : nf = [] := by
        cases nf with
        | nil => rfl
        | cons a r =>
          cases us with
          | nil => simp at hl
          | cons u ur => simp at hfs
      have J : Inv X pins σ H1 ⟨G', g, dr, tk', os⟩ := I1.kept (t' := tk') old
      exact ⟨e, oe, fv, ⟨G', g, dr, tk', os⟩, _, .ref C, none, rfl, J, back, ge, hoe, ⟨hc, hd.trans hdd⟩, hdat, h1, hes, rfl, I1.bare, raises_own T.exC T.tyC, q0 en⟩
    · have hdn : H1 dx = none := I1.hok.fresh dnew
      by_cases en : nf = []
      · subst en
        exact absurd rfl hfs
      · have ob : ObjOk X.prog X.w (upd H1 dx (.xd (nf.zip vs).reverse)) G' dx (.xd (nf.zip vs).reverse) :=
          ⟨_, hns.at (fun o q => (gk dx dne).trans q), relO_mOf (pair_rev (zip_rel r1))⟩
        have J : Inv X pins σ (upd H1 dx (.xd (nf.zip vs).reverse)) ⟨G', g, dr, tk', os⟩ := I1.laid (t' := tk') old dnew ob
        refine ⟨e, oe, fv, ⟨G', g, dr, tk', os⟩, _, .ref C, some dx, rfl, J, back, ge, hoe, ⟨hc, hd.trans hdd⟩, hdat, h1, ?_, rfl, I1.bare, raises_own T.exC T.tyC, q1 en dx hdn⟩
        rw [upd_ne (Ne.symm dne)]
        exact hes

/-- what the making of a C asks, whatever stands around -/
def XCls (P : Program) (w : World) (K : PySem.W.Frag) (mg : Str → Option Value) (base : Heap) (C fI : Addr) (nf : List Str) (ok : List V → Hp → Prop) : Prop :=
  ∀ (A : Around) (s : Shared) (us : List Value) (vs : List V) (H : Hp), Room 2 A → HOk P w H s.heap → Mod K mg base → Cw.Keeps base s.heap → Vals vs us → vs.length = nf.length → ok vs H → Cw.HInit P w A s C fI us (nf.zip us).reverse
variable {e : Expr} {es : List Expr} {ta : TA} {p pos : Pos} {C fI cc cda : Addr} {x name qual : Str} {params : Arguments} {body : List Stmt} {scope : Scope} {nf : List Str} {ok : List V → Hp → Prop}
/-- C(e, ..) -/
theorem pmk_x (T : Cw.XTxt X.prog X.K C fI cc cda name qual params body scope) (hc : XCls X.prog X.w X.K X.mg X.base C fI nf ok) (hz : nf.length ≤ 10) (hr : Room 2 X.A) (hm : X.mg x = some (.ref C)) (hg : Gl X x) (ha : PA X (e :: es) ta)
    (hdb : (x == ("__debug__" : Str)) = false := by decide) (he : starEach (e :: es) X.env = (false, eval e X.env) :: starEach es X.env := by rfl) (hpl : (backTo pos (starEach es X.env)).any (·.1) = false := by rfl) :
    PMk X (.Call (.Name x p) (e :: es) [] pos) (tMkX C nf ok ta) := by
  intro pins s σ H Q I h
  refine wpAny_Call_Name_kw (ld_glob I hg hm ?_ hdb)
  refine PySem.W.callWith_K (h₀ := X.base) I.ok.mod.kin T.kC (thn (ha.run pos pins s σ H _ I h) fun us s1 ⟨vs, H1, I1, r1, hn, hok, q0, q1⟩ => ⟨I1.kIn, ?_⟩) he hpl
  exact pmk_end (ok := ok) T I1 r1 hn hz (hc X.A s1 us vs H1 hr I1.hok I1.ok.mod I1.bk r1 hn hok) q0 q1
/-- C() -/
theorem pmk_x0 (T : Cw.XTxt X.prog X.K C fI cc cda name qual params body scope) (hc : XCls X.prog X.w X.K X.mg X.base C fI [] ok) (hr : Room 2 X.A) (hm : X.mg x = some (.ref C)) (hg : Gl X x) (hdb : (x == ("__debug__" : Str)) = false := by decide) :
    PMk X (.Call (.Name x p) [] [] pos) (tMkX C [] ok tNil) := by
  intro pins s σ H Q I h
  obtain ⟨_, hok, q0, q1⟩ := h
  refine wpAny_Call_Name_kw (ld_glob I hg hm ?_ hdb)
  exact PySem.W.callWith_K0 I.kIn T.kC (pmk_end (nf := []) (ok := ok) (us := []) T I .nil rfl (Nat.zero_le _) (hc X.A s [] [] H hr I.hok I.ok.mod I.bk .nil rfl hok) q0 q1)
end
section
/-- isinstance(e, c), e the error that the suite holds, of the class at D, with its own dict -/
def rIsX (K : PySem.W.Frag) (D a : Addr) (cls : Value) (d : Option Addr) : List V → Hp → VK → Prop := fun xs H Q => cls = .ref D ∧ (∃ dd fs, d = some dd ∧ H dd = some (.xd fs)) ∧
  ∃ (c : V) (cv : Value) (b : Bool), xs = [.ref a, c] ∧ (∀ u, RelV c u → u = cv) ∧ PySem.W.kitOne K (.ref D) cv = some b ∧ Q (.bl b) H
theorem call_isX {X : Cx} {a D : Addr} {oe : Obj} {cls : Value} {d : Option Addr} {pn : List (Addr × Obj)} (C : ExcC X.K D) (hz : Zc cls d oe) (hf : ∃ vs, oe.data = .fields vs) :
    CallR (X.suite a ((a, oe) :: pn)) (.builtin "isinstance") (rIsX X.K D a cls d) := by
  intro pins s σ H xs us Q I r h
  obtain ⟨ec, ⟨dd, fs, ed, hdd⟩, c, cv, b, rfl, hcv, e, q⟩ := h
  subst ec ed
  cases r with
  | cons rx rr =>
    cases rr with
    | cons rt rr =>
      cases rr
      cases rx
      have ec := hcv _ rt
      subst ec
      obtain ⟨hget, _⟩ := I.pin (a, oe) (List.mem_append.mpr (.inl List.mem_cons_self))
      obtain ⟨vs, hv⟩ := hf
      obtain ⟨mA, ⟨od, _, _, hod, _⟩, _⟩ := (I.hok dd _ hdd : ObjOk X.prog X.w H s.heap dd (.xd fs))
      have J : PySem.W.InstAt s.heap a oe D (some od) := ⟨hget, hz.1, by unfold PySem.W.notCls; rw [hv], by rw [hz.2]; exact hod⟩
      have hcl : (PySem.W.clsIn X.K D).isSome = true := by
        obtain ⟨cd, hc, _⟩ := PySem.W.any_some C.hd
        rw [hc]; rfl
      exact PySem.W.kia_one (PySem.W.kitx_exc hcl C.hg C.hk C.hs C.ha C.hn C.ht C.hm) I.kIn J e (fun z => nomatch z) fun tk => ⟨.bl b, H, I.kept (t' := tk) fun _ _ z => z, rfl, q⟩
end
end L2

namespace L2
open PySem PySem.Spec PyProof.Rows
section
variable {K : PySem.W.Frag} {H H' : Hp}
theorem same_new {p : Addr} {o : HO} (h : H p = none) : Same H (upd H p o) := fun b u q => by rw [upd_ne (ne_of_none q h)]; exact q
theorem Same.tup {a : Addr} {xs : List V} (e : Same H H') (h : SqT K H a xs) : SqT K H' a xs := by
  rcases h with (h | ⟨o, h⟩) | h
  · exact .inl (.inl (e _ _ h))
  · exact .inl (.inr ⟨o, e _ _ h⟩)
  · exact .inr h
mutual
theorem Dp.same (e : Same H H') : ∀ {v : V} {d : PyData}, Dp K H v d → Dp K H' v d
  | _, _, .non => .non
  | _, _, .bl b => .bl b
  | _, _, .int i => .int i
  | _, _, .str x => .str x
  | _, _, .lst h r => .lst (e.seq h) (DpAll.same e r)
  | _, _, .tup h r => .tup (e.tup h) (DpAll.same e r)
theorem DpAll.same (e : Same H H') : ∀ {vs : List V} {ds : List PyData}, DpAll K H vs ds → DpAll K H' vs ds
  | _, _, .nil => .nil
  | _, _, .cons h r => .cons (Dp.same e h) (DpAll.same e r)
end
/-- all but the list at r is kept -/
def But (r : Addr) (H H' : Hp) : Prop := ∀ b o, b ≠ r → H b = some o → H' b = some o
theorem But.refl (r : Addr) (H : Hp) : But r H H := fun _ _ _ e => e
theorem But.trans {r : Addr} {H H1 H2 : Hp} (a : But r H H1) (b : But r H1 H2) : But r H H2 := fun c o n e => b c o n (a c o n e)
theorem Same.but {r : Addr} (e : Same H H') : But r H H' := fun b o _ h => e b o h
theorem But.upd {r : Addr} {o : HO} (e : But r H H') : But r H (upd H' r o) := fun b u n h => by rw [upd_ne n]; exact e b u n h
theorem But.seq {r a : Addr} {xs : List V} (e : But r H H') (h : SqL K H a xs) (n : a ≠ r) : SqL K H' a xs := by
  rcases h with (h | ⟨o, h⟩) | h
  · exact .inl (.inl (e _ _ n h))
  · exact .inl (.inr ⟨o, e _ _ n h⟩)
  · exact .inr h
theorem dall_len : ∀ {vs : List V} {ds : List PyData}, DpAll K H vs ds → vs.length = ds.length
  | _, _, .nil => rfl
  | _, _, .cons _ r => by rw [List.length_cons, List.length_cons, dall_len r]
theorem dall_app : ∀ {vs ws : List V} {ds es : List PyData}, DpAll K H vs ds → DpAll K H ws es → DpAll K H (vs ++ ws) (ds ++ es)
  | _, _, _, _, .nil, s => s
  | _, _, _, _, .cons h r, s => .cons h (dall_app r s)
theorem dall_get : ∀ {vs : List V} {ds : List PyData} {i : Nat} {v : V}, DpAll K H vs ds → vs[i]? = some v → ∃ d, ds[i]? = some d ∧ Dp K H v d
  | _, _, 0, v, .cons h _, e => ⟨_, rfl, by cases e; exact h⟩
  | _, _, i + 1, v, .cons _ r, e => by
    obtain ⟨d, h1, h2⟩ := dall_get (i := i) (v := v) r (by simpa using e)
    exact ⟨d, by simpa using h1, h2⟩
theorem dp_tup {v : V} {ds : List PyData} (h : Dp K H v (.tuple ds)) : ∃ a xs, v = .ref a ∧ SqT K H a xs ∧ DpAll K H xs ds := by
  cases h with
  | tup h r => exact ⟨_, _, rfl, h, r⟩
theorem dp_str {v : V} {x : Str} (h : Dp K H v (.str x)) : v = .str x := by
  cases h
  rfl
end
end L2

namespace L2
open PySem PySem.Spec PyProof.Rows
/-! values that never change: None, bools, ints, texts and tuples of such -/
mutual
inductive Im (K : PySem.W.Frag) (H : Hp) : V → PyData → Prop
  | non : Im K H .non .none
  | bl (b : Bool) : Im K H (.bl b) (.bool b)
  | int (i : Int) : Im K H (.int i) (.int i)
  | str (x : Str) : Im K H (.str x) (.str x)
  | tup {a : Addr} {xs : List V} {ds : List PyData} : SqT K H a xs → Ims K H xs ds → Im K H (.ref a) (.tuple ds)
inductive Ims (K : PySem.W.Frag) (H : Hp) : List V → List PyData → Prop
  | nil : Ims K H [] []
  | cons {v : V} {vs : List V} {d : PyData} {ds : List PyData} : Im K H v d → Ims K H vs ds → Ims K H (v :: vs) (d :: ds)
end
/-- what was a tuple is one -/
structure Tk (H H' : Hp) : Prop where
  tup : ∀ b xs, H b = some (.tup xs) → H' b = some (.tup xs)
  frz : ∀ b o u, H b = some (.frz o u) → H' b = some (.frz o u)
section
variable {K : PySem.W.Frag} {H H' H2 : Hp}
theorem Tk.refl (H : Hp) : Tk H H := ⟨fun _ _ e => e, fun _ _ _ e => e⟩
theorem Tk.trans (a : Tk H H') (b : Tk H' H2) : Tk H H2 := ⟨fun c x e => b.tup c x (a.tup c x e), fun c o u e => b.frz c o u (a.frz c o u e)⟩
theorem Same.tk (e : Same H H') : Tk H H' := ⟨fun b _ h => e b _ h, fun b _ _ h => e b _ h⟩
theorem But.tk {r : Addr} {ys : List V} (e : But r H H') (h : H r = some (.lst ys)) : Tk H H' :=
  ⟨fun b _ g => e b _ (fun z => by rw [z, h] at g; cases g) g, fun b _ _ g => e b _ (fun z => by rw [z, h] at g; cases g) g⟩
theorem Tk.sq (e : Tk H H') {a : Addr} {xs : List V} (h : SqT K H a xs) : SqT K H' a xs := by
  rcases h with (h | ⟨o, h⟩) | h
  · exact .inl (.inl (e.tup _ _ h))
  · exact .inl (.inr ⟨o, e.frz _ _ _ h⟩)
  · exact .inr h
mutual
theorem Im.tk (e : Tk H H') : ∀ {v : V} {d : PyData}, Im K H v d → Im K H' v d
  | _, _, .non => .non
  | _, _, .bl b => .bl b
  | _, _, .int i => .int i
  | _, _, .str x => .str x
  | _, _, .tup h r => .tup (e.sq h) (Ims.tk e r)
theorem Ims.tk (e : Tk H H') : ∀ {vs : List V} {ds : List PyData}, Ims K H vs ds → Ims K H' vs ds
  | _, _, .nil => .nil
  | _, _, .cons h r => .cons (Im.tk e h) (Ims.tk e r)
end
mutual
theorem Im.dp : ∀ {v : V} {d : PyData}, Im K H v d → Dp K H v d
  | _, _, .non => .non
  | _, _, .bl b => .bl b
  | _, _, .int i => .int i
  | _, _, .str x => .str x
  | _, _, .tup h r => .tup h (Ims.dp r)
theorem Ims.dp : ∀ {vs : List V} {ds : List PyData}, Ims K H vs ds → DpAll K H vs ds
  | _, _, .nil => .nil
  | _, _, .cons h r => .cons (Im.dp h) (Ims.dp r)
end
theorem Im.same (e : Same H H') {v : V} {d : PyData} (h : Im K H v d) : Im K H' v d := h.tk e.tk
theorem Ims.same (e : Same H H') {v : List V} {d : List PyData} (h : Ims K H v d) : Ims K H' v d := h.tk e.tk
theorem Ims.len : ∀ {vs : List V} {ds : List PyData}, Ims K H vs ds → vs.length = ds.length
  | _, _, .nil => rfl
  | _, _, .cons _ r => by rw [List.length_cons, List.length_cons, Ims.len r]
theorem Ims.app : ∀ {vs ws : List V} {ds es : List PyData}, Ims K H vs ds → Ims K H ws es → Ims K H (vs ++ ws) (ds ++ es)
  | _, _, _, _, .nil, s => s
  | _, _, _, _, .cons h r, s => .cons h (Ims.app r s)
theorem Ims.get : ∀ {vs : List V} {ds : List PyData} {i : Nat} {v : V}, Ims K H vs ds → vs[i]? = some v → ∃ d, ds[i]? = some d ∧ Im K H v d
  | _, _, 0, v, .cons h _, e => ⟨_, rfl, by cases e; exact h⟩
  | _, _, i + 1, v, .cons _ r, e => by
    obtain ⟨d, h1, h2⟩ := Ims.get (i := i) (v := v) r (by simpa using e)
    exact ⟨d, by simpa using h1, h2⟩
theorem Im.tupI {v : V} {ds : List PyData} (h : Im K H v (.tuple ds)) : ∃ a xs, v = .ref a ∧ SqT K H a xs ∧ Ims K H xs ds := by
  cases h with
  | tup h r => exact ⟨_, _, rfl, h, r⟩
theorem Im.strI {v : V} {x : Str} (h : Im K H v (.str x)) : v = .str x := by
  cases h
  rfl
theorem Ims.two {vs : List V} {d e : PyData} (h : Ims K H vs [d, e]) : ∃ x y, vs = [x, y] ∧ Im K H x d ∧ Im K H y e := by
  cases h with
  | cons h1 r =>
    cases r with
    | cons h2 r =>
      cases r
      exact ⟨_, _, rfl, h1, h2⟩
/-- a new tuple of such -/
theorem Im.new {p : Addr} {xs : List V} {ds : List PyData} (hp : H p = none) (h : Ims K H xs ds) : Im K (upd H p (.tup xs)) (.ref p) (.tuple ds) :=
  .tup (.inl (.inl upd_same)) (h.same (same_new hp))
end
end L2

namespace Cw
open PySem
/-! texts as lists of codes -/
def S (l : List Nat) : Str := ⟨l.toArray⟩
theorem S_app (l m : List Nat) : S l ++ S m = S (l ++ m) := by
  show Str.append (S l) (S m) = S (l ++ m)
  simp [Str.append, S]
theorem S_len (l : List Nat) : (S l).length = l.length := by simp [S, Str.length]
theorem S_inj {l m : List Nat} (h : S l = S m) : l = m := by
  have := congrArg (fun x : Str => x.cps.toList) h
  simpa [S] using this
theorem S_list (l : List Nat) : (S l).cps.toList = l := by simp [S]
theorem S_cps (x : Str) : S x.cps.toList = x := by cases x; simp [S]
theorem S_a : ("a" : Str) = S [97] := by decide +kernel
theorem S_b : ("b" : Str) = S [98] := by decide +kernel
theorem S_c : ("c" : Str) = S [99] := by decide +kernel
theorem S_nil : ("" : Str) = S [] := by decide +kernel
theorem S_dash : ("-" : Str) = S [45] := by decide +kernel
theorem S_op : ("[" : Str) = S [91] := by decide +kernel
theorem S_cl : ("]" : Str) = S [93] := by decide +kernel

/-- a thing in a folder: none, a file, a folder of what stands under a, b, c -/
inductive Th where
  | non | file | dir (a b c : Th)
  deriving DecidableEq
namespace Th
/-- a folder's depth -/
def dep : Th → Nat
  | dir a b c => max (max (dep a) (dep b)) (dep c) + 1
  | _ => 0
def isDir : Th → Bool
  | dir _ _ _ => true
  | _ => false
def en (n : Nat) : Th → List (Nat × Th)
  | non => []
  | t => [(n, t)]
def ents : Th → List (Nat × Th)
  | dir a b c => en 97 a ++ en 98 b ++ en 99 c
  | _ => []
def eD (n : Nat) (t : Th) (d : PyData) : List PyData := match t with
  | non => []
  | _ => [.tuple [.str (S [n]), d]]
/-- a thing as data -/
def D : Th → PyData
  | non => .none
  | file => .str "file"
  | dir a b c => .tuple (eD 97 a (D a) ++ eD 98 b (D b) ++ eD 99 c (D c))
def xe (n : Nat) (t : Th) (x : List Nat) : List Nat := match t with
  | non => []
  | file => [n, 45]
  | dir _ _ _ => n :: 91 :: (x ++ [93])
/-- a folder's text -/
def tx : Th → List Nat
  | dir a b c => xe 97 a (tx a) ++ xe 98 b (tx b) ++ xe 99 c (tx c)
  | _ => []
def pD (p : Nat × Th) : PyData := .tuple [.str (S [p.1]), D p.2]
def pX (p : Nat × Th) : List Nat := xe p.1 p.2 (tx p.2)
theorem eD_en (n : Nat) (t : Th) : eD n t (D t) = (en n t).map pD := by cases t <;> rfl
theorem D_dir (t : Th) (h : t.isDir = true) : D t = .tuple (t.ents.map pD) := by
  cases t with
  | dir a b c => simp only [D, ents, eD_en, List.map_append]
  | _ => cases h
theorem xe_en (n : Nat) (t : Th) : xe n t (tx t) = (en n t).flatMap pX := by cases t <;> simp [xe, en, pX]
theorem tx_ents (t : Th) : tx t = t.ents.flatMap pX := by
  cases t with
  | dir a b c => simp only [tx, ents, xe_en, List.flatMap_append]
  | _ => rfl
theorem en_mem {n : Nat} {t : Th} {p : Nat × Th} (h : p ∈ en n t) : p = (n, t) ∧ t ≠ non := by
  cases t <;> simp [en] at h <;> simp [h]
theorem ents_mem {t : Th} {p : Nat × Th} (h : p ∈ t.ents) : (p.1 = 97 ∨ p.1 = 98 ∨ p.1 = 99) ∧ p.2 ≠ non ∧ p.2.dep < t.dep := by
  cases t with
  | dir a b c =>
    simp only [ents, List.mem_append] at h
    rcases h with (h | h) | h <;> obtain ⟨rfl, h2⟩ := en_mem h <;> simp only [dep, true_or, or_true, true_and] <;> refine ⟨h2, ?_⟩ <;> omega
  | _ => cases h
theorem dep_pos {t : Th} (h : t.isDir = true) : 1 ≤ t.dep := by
  cases t with
  | dir a b c => simp [dep]
  | _ => cases h
theorem ents_len (t : Th) : t.ents.length ≤ 3 := by
  cases t with
  | dir a b c => cases a <;> cases b <;> cases c <;> simp [ents, en]
  | _ => simp [ents]
end Th
open Th
/-- a thing's data is a file's just if it is one -/
theorem eqv_file (t : Th) (h : t ≠ non) : PyData.eqv (D t) (.str "file") = decide (t = file) := by
  cases t with
  | non => exact absurd rfl h
  | file => decide +kernel
  | dir a b c => rfl
mutual
/-- equality of data is equality, where no number stands -/
def noNum : PyData → Bool
  | .none | .str _ => true
  | .tuple ds => noNums ds
  | .list ds => noNums ds
  | _ => false
def noNums : List PyData → Bool
  | [] => true
  | d :: ds => noNum d && noNums ds
end
mutual
theorem eqv_iff : ∀ (d e : PyData), noNum d = true → (PyData.eqv d e = true ↔ d = e)
  | .none, e, _ => by cases e <;> simp [PyData.eqv]
  | .str x, e, _ => by cases e <;> simp [PyData.eqv]
  | .tuple ds, e, h => by
    cases e with
    | tuple es =>
      have q := eqvs_iff ds es (by simpa [noNum] using h)
      simp only [PyData.eqv, PyData.tuple.injEq]
      exact q
    | _ => simp [PyData.eqv]
  | .list ds, e, h => by
    cases e with
    | list es =>
      have q := eqvs_iff ds es (by simpa [noNum] using h)
      simp only [PyData.eqv, PyData.list.injEq]
      exact q
    | _ => simp [PyData.eqv]
  | .bool _, _, h => by simp [noNum] at h
  | .int _, _, h => by simp [noNum] at h
  | .dict _, _, h => by simp [noNum] at h
theorem eqvs_iff : ∀ (ds es : List PyData), noNums ds = true → (PyData.eqvAll ds es = true ↔ ds = es)
  | [], es, _ => by cases es <;> simp [PyData.eqvAll]
  | d :: ds, es, h => by
    simp only [noNums, Bool.and_eq_true] at h
    cases es with
    | nil => simp [PyData.eqvAll]
    | cons e es =>
      have q1 := eqv_iff d e h.1
      have q2 := eqvs_iff ds es h.2
      simp only [PyData.eqvAll, Bool.and_eq_true, List.cons.injEq]
      rw [q1, q2]
end
theorem noNums_app : ∀ (a b : List PyData), noNums (a ++ b) = (noNums a && noNums b)
  | [], b => by simp [noNums]
  | x :: a, b => by simp [noNums, noNums_app a b, Bool.and_assoc]
theorem noNum_D : ∀ t : Th, noNum (D t) = true
  | non => rfl
  | file => rfl
  | dir a b c => by
    have h : ∀ n t, noNum (D t) = true → noNums (eD n t (D t)) = true := fun n t h => by cases t <;> simp [eD, noNums, noNum] at h ⊢ <;> exact h
    simp [D, noNum, noNums_app, h _ _ (noNum_D a), h _ _ (noNum_D b), h _ _ (noNum_D c)]
theorem lay_str {l : List Nat} (h : ∀ c ∈ l, c < 0x110000) : PyData.canLay0 (.str (S l)) = true := by
  simpa [PyData.canLay0, PyData.strOk, S] using h
theorem layAll_app : ∀ a b : List PyData, PyData.canLayAll0 (a ++ b) = (PyData.canLayAll0 a && PyData.canLayAll0 b)
  | [], b => by simp [PyData.canLayAll0]
  | x :: a, b => by simp [PyData.canLayAll0, layAll_app a b, Bool.and_assoc]
theorem depthAll_app : ∀ a b : List PyData, PyData.depthAll (a ++ b) = max (PyData.depthAll a) (PyData.depthAll b)
  | [], b => by simp [PyData.depthAll]
  | x :: a, b => by simp [PyData.depthAll, depthAll_app a b, Nat.max_assoc]
theorem lay_eD {n : Nat} {t : Th} (hn : n < 0x110000) (h : PyData.canLay0 (D t) = true) : PyData.canLayAll0 (eD n t (D t)) = true := by
  have q : PyData.canLay0 (.str (S [n])) = true := lay_str (by simpa using hn)
  have r : PyData.canLayAll0 [.tuple [.str (S [n]), D t]] = true := by
    simp only [PyData.canLayAll0, PyData.canLay0, h, Bool.and_true]
    simpa only [PyData.canLay0] using q
  cases t with
  | non => rfl
  | file => exact r
  | dir _ _ _ => exact r
theorem lay_D : ∀ t : Th, PyData.canLay0 (D t) = true
  | non => rfl
  | file => by decide +kernel
  | dir a b c => by
    simp [D, PyData.canLay0, layAll_app, lay_eD (n := 97) (by decide) (lay_D a), lay_eD (n := 98) (by decide) (lay_D b), lay_eD (n := 99) (by decide) (lay_D c)]
theorem depth_D : ∀ t : Th, (D t).depth ≤ 2 * t.dep
  | non => Nat.le_refl 0
  | file => Nat.le_refl 0
  | dir a b c => by
    have h : ∀ n t, PyData.depthAll (eD n t (D t)) ≤ (D t).depth + 1 := fun n t => by
      cases t <;> simp [eD, PyData.depthAll, PyData.depth]
    have ha := h 97 a
    have hb := h 98 b
    have hc := h 99 c
    have ia := depth_D a
    have ib := depth_D b
    have ic := depth_D c
    simp only [D, PyData.depth, depthAll_app, Th.dep]
    omega
theorem shaped_D {t : Th} (h : t.dep ≤ 32) : SeqAt.shaped (D t) = true := by
  have := depth_D t
  simp only [SeqAt.shaped, lay_D t, Bool.true_and, decide_eq_true_eq]
  omega
theorem shaped_file : SeqAt.shaped (.str "file") = true := by decide +kernel
end Cw

namespace Cw
open PySem
/-! reading the text of a tree -/
inductive Out (α : Type) where
  | ok (a : α) (rest : List Nat)
  | bad (rest : List Nat)
def isNm (c : Nat) : Bool := c == 97 || c == 98 || c == 99
/-- a folder of these entries -/
def ofE (n : Nat) (es : List (Nat × Th)) : Th := (es.lookup n).getD .non
def ofEs (es : List (Nat × Th)) : Th := .dir (ofE 97 es) (ofE 98 es) (ofE 99 es)
mutual
def pC : Nat → Nat → List Nat → Out (List (Nat × Th))
  | 0, _, l => .bad l
  | f + 1, last, [] => .ok [] []
  | f + 1, last, c :: r =>
    if isNm c = true then
      if c ≤ last then .bad (c :: r) else
        match pT f r with
        | .bad x => .bad x
        | .ok t r' =>
          match pC f c r' with
          | .bad x => .bad x
          | .ok es r'' => .ok ((c, t) :: es) r''
    else .ok [] (c :: r)
def pT : Nat → List Nat → Out Th
  | 0, l => .bad l
  | f + 1, [] => .bad []
  | f + 1, c :: r =>
    if c = 45 then .ok .file r
    else if c = 91 then
      match pC f 0 r with
      | .bad x => .bad x
      | .ok es [] => .bad []
      | .ok es (d :: r') => if d = 93 then .ok (ofEs es) r' else .bad (d :: r')
    else .bad (c :: r)
end
/-- brackets open -/
def bal : List Nat → Int
  | [] => 0
  | c :: r => (if c = 91 then 1 else if c = 93 then -1 else 0) + bal r
theorem bal_app : ∀ a b : List Nat, bal (a ++ b) = bal a + bal b
  | [], b => by simp [bal]
  | c :: a, b => by simp [bal, bal_app a b]; omega
/-- no more than m brackets are ever open -/
def Flat (m : Int) (l : List Nat) : Prop := ∀ i, bal (l.take i) ≤ m
theorem Flat.drop {m : Int} {a b : List Nat} (h : Flat m (a ++ b)) : Flat (m - bal a) b := fun i => by
  have := h (a.length + i)
  rw [List.take_append, List.take_of_length_le (by omega), bal_app] at this
  simp only [Nat.add_sub_cancel_left] at this
  omega
theorem isNm_bal {c : Nat} (h : isNm c = true) : bal [c] = 0 := by
  simp only [isNm, Bool.or_eq_true, beq_iff_eq] at h
  rcases h with (rfl | rfl) | rfl <;> rfl
/-- what is read: ahead of the rest, its brackets closed; names ascend; nothing read is no thing -/
theorem read_spec : ∀ f : Nat, (∀ last l es r, pC f last l = .ok es r → (∃ a, l = a ++ r ∧ bal a = 0) ∧ (r = [] ∨ ∃ c r', r = c :: r' ∧ isNm c = false) ∧ (∀ p ∈ es, isNm p.1 = true ∧ last < p.1 ∧ p.2 ≠ .non) ∧ es.Pairwise (fun p q => p.1 < q.1)) ∧
    (∀ l t r, pT f l = .ok t r → (∃ a, l = a ++ r ∧ bal a = 0 ∧ a ≠ []) ∧ t ≠ .non)
  | 0 => ⟨fun last l es r h => by simp [pC] at h, fun l t r h => by simp [pT] at h⟩
  | f + 1 => by
    obtain ⟨ihC, ihT⟩ := read_spec f
    refine ⟨fun last l es r h => ?_, fun l t r h => ?_⟩
    · cases l with
      | nil =>
        simp only [pC, Out.ok.injEq] at h
        obtain ⟨rfl, rfl⟩ := h
        exact ⟨⟨[], rfl, rfl⟩, .inl rfl, by simp, .nil⟩
      | cons c r0 =>
        simp only [pC] at h
        split at h
        · rename_i hc
          split at h
          · cases h
          · rename_i hlast
            split at h
            · cases h
            · rename_i t r1 hT
              split at h
              · cases h
              · rename_i es' r2 hC
                cases h
                obtain ⟨⟨a1, rfl, b1, _⟩, tn⟩ := ihT _ _ _ hT
                obtain ⟨⟨a2, rfl, b2⟩, e2, h3, h4⟩ := ihC _ _ _ _ hC
                refine ⟨⟨c :: (a1 ++ a2), by simp, ?_⟩, e2, ?_, ?_⟩
                · have := isNm_bal hc
                  simp only [bal, bal_app] at this ⊢
                  omega
                · intro p hp
                  rcases List.mem_cons.mp hp with rfl | hp
                  · exact ⟨hc, by omega, tn⟩
                  · obtain ⟨q1, q2, q3⟩ := h3 p hp
                    exact ⟨q1, by omega, q3⟩
                · exact .cons (fun p hp => (h3 p hp).2.1) h4
        · rename_i hc
          cases h
          exact ⟨⟨[], rfl, rfl⟩, .inr ⟨c, r0, rfl, by simpa using hc⟩, by simp, .nil⟩
    · cases l with
      | nil => simp [pT] at h
      | cons c r0 =>
        simp only [pT] at h
        split at h
        · rename_i hc
          cases h
          subst hc
          exact ⟨⟨[45], rfl, rfl, by simp⟩, by intro z; cases z⟩
        · split at h
          · rename_i hc
            subst hc
            split at h
            · cases h
            · cases h
            · rename_i es d r1 hC
              split at h
              · rename_i hd
                subst hd
                cases h
                obtain ⟨⟨a, rfl, b⟩, _⟩ := ihC _ _ _ _ hC
                refine ⟨⟨91 :: (a ++ [93]), by simp, ?_, by simp⟩, by intro z; cases z⟩
                simp only [bal, bal_app, b]
                rfl
              · cases h
          · cases h
theorem lookup_none_of {n : Nat} : ∀ {es : List (Nat × Th)}, (∀ p ∈ es, n < p.1) → es.lookup n = none
  | [], _ => rfl
  | p :: es, h => by
    have := h p List.mem_cons_self
    have q : (n == p.1) = false := by simp; omega
    simp only [List.lookup, q]
    exact lookup_none_of fun r hr => h r (List.mem_cons_of_mem _ hr)
theorem ents_ofEs {es : List (Nat × Th)} (h1 : ∀ p ∈ es, isNm p.1 = true ∧ p.2 ≠ .non) (h2 : es.Pairwise (fun p q => p.1 < q.1)) : (ofEs es).ents = es := by
  have en1 : ∀ n (t : Th), t ≠ .non → Th.en n t = [(n, t)] := fun n t h => by cases t <;> first | exact absurd rfl h | rfl
  have key : ∀ (n : Nat) (es : List (Nat × Th)), (∀ p ∈ es, n ≤ p.1 ∧ p.2 ≠ .non) → es.Pairwise (fun p q => p.1 < q.1) → ∃ r, es = Th.en n (ofE n es) ++ r ∧ (∀ p ∈ r, n < p.1) ∧ (∀ m, n < m → ofE m es = ofE m r) := by
    intro n es h1 h2
    cases es with
    | nil => exact ⟨[], rfl, by simp, fun m _ => rfl⟩
    | cons p es =>
      obtain ⟨c, t⟩ := p
      have hc := h1 (c, t) List.mem_cons_self
      cases h2 with
      | cons ha hb =>
      by_cases e : c = n
      · subst e
        refine ⟨es, ?_, fun p hp => ha p hp, fun m hm => ?_⟩
        · have : ofE c ((c, t) :: es) = t := by simp [ofE, List.lookup]
          rw [this, en1 c t hc.2]
          rfl
        · have q : (m == c) = false := by simp; omega
          simp [ofE, List.lookup, q]
      · have hlt : n < c := by
          have := hc.1
          dsimp only at this
          omega
        have hall : ∀ q ∈ (c, t) :: es, n < q.1 := fun q hq => by
          rcases List.mem_cons.mp hq with rfl | hq
          · exact hlt
          · have := ha q hq
            dsimp only at this
            omega
        refine ⟨(c, t) :: es, ?_, hall, fun m _ => rfl⟩
        have : ofE n ((c, t) :: es) = .non := by unfold ofE; rw [lookup_none_of hall]; rfl
        rw [this]
        rfl
  have nm : ∀ p ∈ es, (p.1 = 97 ∨ p.1 = 98 ∨ p.1 = 99) := fun p hp => by
    have := (h1 p hp).1
    simpa [isNm, or_assoc] using this
  obtain ⟨r1, e1, g1, k1⟩ := key 97 es (fun p hp => ⟨by rcases nm p hp with h | h | h <;> omega, (h1 p hp).2⟩) h2
  have m1 : ∀ p ∈ r1, p ∈ es := fun p hp => by rw [e1]; exact List.mem_append_right _ hp
  have p1 : r1.Pairwise (fun p q => p.1 < q.1) := by rw [e1] at h2; exact (List.pairwise_append.mp h2).2.1
  obtain ⟨r2, e2, g2, k2⟩ := key 98 r1 (fun p hp => ⟨g1 p hp, (h1 p (m1 p hp)).2⟩) p1
  have m2 : ∀ p ∈ r2, p ∈ r1 := fun p hp => by rw [e2]; exact List.mem_append_right _ hp
  have p2 : r2.Pairwise (fun p q => p.1 < q.1) := by rw [e2] at p1; exact (List.pairwise_append.mp p1).2.1
  obtain ⟨r3, e3, g3, k3⟩ := key 99 r2 (fun p hp => ⟨g2 p hp, (h1 p (m1 p (m2 p hp))).2⟩) p2
  have z3 : r3 = [] := by
    cases r3 with
    | nil => rfl
    | cons p r =>
      have a := g3 p List.mem_cons_self
      have b := nm p (m1 p (m2 p (by rw [e3]; exact List.mem_append_right _ List.mem_cons_self)))
      rcases b with b | b | b <;> omega
  subst z3
  show Th.en 97 (ofE 97 es) ++ Th.en 98 (ofE 98 es) ++ Th.en 99 (ofE 99 es) = es
  rw [k1 98 (by decide), k1 99 (by decide), k2 99 (by decide)]
  conv => rhs; rw [e1, e2, e3]
  simp
/-- the law's own reading: waits, last, pile, what is left; the rest at the first fault -/
def scan : Bool → Nat → List Nat → List Nat → Option (List Nat)
  | w, _, pile, [] => if w = true ∨ pile ≠ [] then some [] else none
  | true, last, pile, c :: r => if c = 45 then scan false last pile r else if c = 91 then scan false 0 (last :: pile) r else some (c :: r)
  | false, last, [], c :: r => if isNm c = true ∧ last < c then scan true c [] r else some (c :: r)
  | false, last, x :: pile, c :: r => if c = 93 then scan false x pile r else if isNm c = true ∧ last < c then scan true c (x :: pile) r else some (c :: r)
theorem scan_nm {last c : Nat} {pile r : List Nat} (h : isNm c = true) : scan false last pile (c :: r) = if last < c then scan true c pile r else some (c :: r) := by
  have n93 : ¬ c = 93 := by rintro rfl; simp [isNm] at h
  cases pile <;> simp [scan, h, n93]
theorem scan_no {last c : Nat} {pile r : List Nat} (h : isNm c = false) (h93 : c ≠ 93) : scan false last pile (c :: r) = some (c :: r) := by
  cases pile <;> simp [scan, h, h93]
theorem scan_read : ∀ f : Nat, (∀ last pile l, l.length < f → match pC f last l with | .bad x => scan false last pile l = some x | .ok es r => ∃ last', scan false last pile l = scan false last' pile r) ∧
    (∀ last pile l, l.length < f → match pT f l with | .bad x => scan true last pile l = some x | .ok t r => scan true last pile l = scan false last pile r)
  | 0 => ⟨fun _ _ _ h => absurd h (Nat.not_lt_zero _), fun _ _ _ h => absurd h (Nat.not_lt_zero _)⟩
  | f + 1 => by
    obtain ⟨ihC, ihT⟩ := scan_read f
    obtain ⟨spC, spT⟩ := read_spec f
    refine ⟨fun last pile l hl => ?_, fun last pile l hl => ?_⟩
    · cases l with
      | nil => simp only [pC]; exact ⟨last, rfl⟩
      | cons c r =>
        have hr : r.length < f := by simpa using hl
        simp only [pC]
        by_cases hc : isNm c = true
        · rw [if_pos hc]
          by_cases hlast : c ≤ last
          · rw [if_pos hlast]
            rw [scan_nm hc, if_neg (by omega)]
          · rw [if_neg hlast]
            have iT := ihT c pile r hr
            rw [scan_nm hc, if_pos (by omega)]
            cases hT : pT f r with
            | bad x =>
              rw [hT] at iT
              exact iT
            | ok t r1 =>
              rw [hT] at iT
              have hr1 : r1.length < f := by
                obtain ⟨⟨a, rfl, _⟩, _⟩ := spT _ _ _ hT
                rw [List.length_append] at hr
                omega
              have iC := ihC c pile r1 hr1
              dsimp only at iT ⊢
              cases hC : pC f c r1 with
              | bad x =>
                rw [hC] at iC
                exact iT.trans iC
              | ok es r2 =>
                rw [hC] at iC
                obtain ⟨last', e⟩ := iC
                exact ⟨last', iT.trans e⟩
        · rw [if_neg hc]
          exact ⟨last, rfl⟩
    · cases l with
      | nil => simp [pT, scan]
      | cons c r =>
        have hr : r.length < f := by simpa using hl
        simp only [pT, scan]
        by_cases h45 : c = 45
        · rw [if_pos h45, if_pos h45]
        · rw [if_neg h45, if_neg h45]
          by_cases h91 : c = 91
          · rw [if_pos h91, if_pos h91]
            have iC := ihC 0 (last :: pile) r hr
            cases hC : pC f 0 r with
            | bad x =>
              rw [hC] at iC
              exact iC
            | ok es r1 =>
              rw [hC] at iC
              obtain ⟨last', e⟩ := iC
              obtain ⟨_, hend, _⟩ := spC _ _ _ _ hC
              cases r1 with
              | nil => rw [e]; simp [scan]
              | cons d r2 =>
                dsimp only
                rcases hend with hend | ⟨c', r', e', hn⟩
                · cases hend
                · cases e'
                  by_cases hd : d = 93
                  · subst hd
                    rw [if_pos rfl, e]
                    simp [scan]
                  · rw [if_neg hd]
                    rw [e]
                    exact scan_no hn hd
          · rw [if_neg h91, if_neg h91]
end Cw

namespace Cw
open PySem
theorem Flat.mono {m n : Int} {l : List Nat} (h : Flat m l) (e : m ≤ n) : Flat n l := fun i => Int.le_trans (h i) e
theorem tx_ofEs {f last : Nat} {l r : List Nat} {es : List (Nat × Th)} (h : pC f last l = .ok es r) : (ofEs es).tx = es.flatMap Th.pX := by
  obtain ⟨_, _, h3, h4⟩ := (read_spec f).1 _ _ _ _ h
  rw [Th.tx_ents, ents_ofEs (fun p hp => ⟨(h3 p hp).1, (h3 p hp).2.2⟩) h4]
theorem dep_ofE {n m : Nat} {es : List (Nat × Th)} (h : ∀ p ∈ es, p.2.dep ≤ m) : (ofE n es).dep ≤ m := by
  unfold ofE
  cases e : es.lookup n with
  | none => exact Nat.zero_le _
  | some t =>
    have : (n, t) ∈ es := by
      induction es with
      | nil => cases e
      | cons p es ih =>
        obtain ⟨a, b⟩ := p
        by_cases q : n = a
        · subst q
          simp [List.lookup] at e
          rw [e]; exact List.mem_cons_self
        · have : (n == a) = false := by simpa using q
          simp only [List.lookup, this] at e
          exact List.mem_cons_of_mem _ (ih (fun p hp => h p (List.mem_cons_of_mem _ hp)) e)
    exact h _ this
theorem read_text : ∀ f : Nat, (∀ last l es r, pC f last l = .ok es r → l = es.flatMap Th.pX ++ r ∧ ∀ m : Nat, Flat m l → ∀ p ∈ es, p.2.dep ≤ m) ∧
    (∀ l t r, pT f l = .ok t r → (∀ n, n :: l = Th.pX (n, t) ++ r) ∧ ∀ m : Nat, Flat m l → t.dep ≤ m)
  | 0 => ⟨fun last l es r h => by simp [pC] at h, fun l t r h => by simp [pT] at h⟩
  | f + 1 => by
    obtain ⟨ihC, ihT⟩ := read_text f
    obtain ⟨spC, spT⟩ := read_spec f
    refine ⟨fun last l es r h => ?_, fun l t r h => ?_⟩
    · cases l with
      | nil =>
        simp only [pC, Out.ok.injEq] at h
        obtain ⟨rfl, rfl⟩ := h
        exact ⟨rfl, by simp⟩
      | cons c r0 =>
        simp only [pC] at h
        split at h
        · rename_i hc
          split at h
          · cases h
          · split at h
            · cases h
            · rename_i t r1 hT
              split at h
              · cases h
              · rename_i es' r2 hC
                cases h
                obtain ⟨e1, d1⟩ := ihT _ _ _ hT
                obtain ⟨e2, d2⟩ := ihC _ _ _ _ hC
                obtain ⟨⟨a1, ea1, b1, _⟩, _⟩ := spT _ _ _ hT
                refine ⟨?_, fun m hF p hp => ?_⟩
                · rw [e1 c, List.flatMap_cons, List.append_assoc, ← e2]
                · have hF0 : Flat m r0 := by
                    have := Flat.drop (a := [c]) (b := r0) hF
                    rw [isNm_bal hc, Int.sub_zero] at this
                    exact this
                  rcases List.mem_cons.mp hp with rfl | hp
                  · exact d1 m hF0
                  · refine d2 m ?_ p hp
                    rw [ea1] at hF0
                    have := Flat.drop hF0
                    rw [b1, Int.sub_zero] at this
                    exact this
        · cases h
          exact ⟨rfl, by simp⟩
    · cases l with
      | nil => simp [pT] at h
      | cons c r0 =>
        simp only [pT] at h
        split at h
        · rename_i hc
          cases h
          subst hc
          exact ⟨fun n => rfl, fun m _ => Nat.zero_le _⟩
        · split at h
          · rename_i hc
            subst hc
            split at h
            · cases h
            · cases h
            · rename_i es d r1 hC
              split at h
              · rename_i hd
                subst hd
                cases h
                obtain ⟨e1, d1⟩ := ihC _ _ _ _ hC
                refine ⟨fun n => ?_, fun m hF => ?_⟩
                · show n :: 91 :: r0 = n :: 91 :: ((ofEs es).tx ++ [93]) ++ r
                  rw [tx_ofEs hC]
                  conv => lhs; rw [e1]
                  simp
                · have hF0 := Flat.drop (a := [91]) (b := r0) hF
                  have e : bal [91] = 1 := rfl
                  rw [e] at hF0
                  have h0 := hF0 0
                  simp only [List.take_zero, bal] at h0
                  obtain ⟨m', rfl⟩ : ∃ m', m = m' + 1 := ⟨m - 1, by omega⟩
                  have d2 := d1 m' (by have q : ((m' + 1 : Nat) : Int) - 1 = (m' : Int) := by omega
                                       rw [q] at hF0; exact hF0)
                  show (max (max (ofE 97 es).dep (ofE 98 es).dep) (ofE 99 es).dep) + 1 ≤ m' + 1
                  have a1 := dep_ofE (n := 97) d2
                  have a2 := dep_ofE (n := 98) d2
                  have a3 := dep_ofE (n := 99) d2
                  omega
              · cases h
          · cases h
/-- the whole: by the law's reading -/
theorem scan_whole {L : List Nat} {m : Nat} (hF : Flat m L) : match scan false 0 [] L with
    | some x => pC (L.length + 1) 0 L = .bad x ∨ ∃ es c r, pC (L.length + 1) 0 L = .ok es (c :: r) ∧ x = c :: r
    | none => ∃ es, pC (L.length + 1) 0 L = .ok es [] ∧ (ofEs es).tx = L ∧ (ofEs es).dep ≤ m + 1 := by
  have h := (scan_read (L.length + 1)).1 0 [] L (Nat.lt_succ_self _)
  cases hC : pC (L.length + 1) 0 L with
  | bad x =>
    rw [hC] at h
    dsimp only at h
    rw [h]
    exact .inl rfl
  | ok es r =>
    rw [hC] at h
    obtain ⟨last', e⟩ := h
    obtain ⟨_, hend, _⟩ := (read_spec _).1 _ _ _ _ hC
    obtain ⟨e1, d1⟩ := (read_text _).1 _ _ _ _ hC
    rw [e]
    cases r with
    | nil =>
      show ∃ es', Out.ok es [] = Out.ok es' [] ∧ _
      refine ⟨es, rfl, ?_, ?_⟩
      · rw [tx_ofEs hC, List.append_nil] at *
        exact e1.symm
      · have d2 := d1 m hF
        show (max (max (ofE 97 es).dep (ofE 98 es).dep) (ofE 99 es).dep) + 1 ≤ m + 1
        have a1 := dep_ofE (n := 97) d2
        have a2 := dep_ofE (n := 98) d2
        have a3 := dep_ofE (n := 99) d2
        omega
    | cons c r =>
      rcases hend with z | ⟨c', r', z, hn⟩
      · cases z
      · cases z
        have : scan false last' [] (c :: r) = some (c :: r) := by simp [scan, hn]
        rw [this]
        exact .inr ⟨es, c, r, rfl, rfl⟩
/-! drawn texts and their turns -/
theorem bal_one (c : Nat) : bal [c] ≤ 1 ∧ -1 ≤ bal [c] := by
  simp only [bal]
  split
  · omega
  · split <;> omega
theorem Flat.cut {m : Int} {l : List Nat} (h : Flat m l) (a : Nat) : Flat m (l.take a) := fun i => by rw [List.take_take]; exact h _
theorem Flat.edit {m : Int} {L : List Nat} (h : Flat m L) {a b : Nat} (X : List Nat) (ha : a ≤ L.length) (hab : a ≤ b) (hb : b ≤ a + 1) (hX : X.length ≤ 1) : Flat (m + 2) (L.take a ++ X ++ L.drop b) := fun i => by
  have hm : (0 : Int) ≤ m := h 0
  have hXb : ∀ j, bal (X.take j) ≤ 1 ∧ -1 ≤ bal (X.take j) := fun j => by
    match X, hX with
    | [], _ => simp [bal]
    | [c], _ =>
      cases j with
      | zero => simp [bal]
      | succ j => simpa using bal_one c
  rw [List.take_append, List.take_append, bal_app, bal_app, List.length_append, List.length_take, Nat.min_eq_left ha]
  by_cases hi : i ≤ a
  · have e1 : i - a = 0 := by omega
    have e2 : i - (a + X.length) = 0 := by omega
    rw [e1, e2, List.take_take]
    have := h (min i a)
    simp only [List.take_zero, bal]
    omega
  · have e1 : (L.take a).take i = L.take a := List.take_of_length_le (by rw [List.length_take]; omega)
    rw [e1]
    have q := hXb (i - a)
    by_cases hj : i - (a + X.length) = 0
    · rw [hj]
      have := h a
      simp only [List.take_zero, bal]
      omega
    · have g := h (b + (i - (a + X.length)))
      have e2 : L.take (b + (i - (a + X.length))) = L.take a ++ (L.drop a).take (b - a) ++ (L.drop b).take (i - (a + X.length)) := by
        have e3 : b = a + (b - a) := by omega
        conv => lhs; rw [e3, Nat.add_assoc, List.take_add]
        rw [List.append_assoc]
        congr 1
        rw [List.take_add, List.drop_drop, ← e3]
      rw [e2, bal_app, bal_app] at g
      have mid : -1 ≤ bal ((L.drop a).take (b - a)) := by
        rcases Nat.eq_or_lt_of_le hab with e | e
        · have : b - a = 0 := by omega
          rw [this]; simp [bal]
        · have : b - a = 1 := by omega
          rw [this]
          cases L.drop a with
          | nil => simp [bal]
          | cons c r => exact (bal_one c).2
      omega
theorem flat_xe {n : Nat} {t : Th} {m : Nat} (hn : isNm n = true) (h : ∀ t', t' = t → t'.isDir = true → Flat ((m : Int) - 1) t.tx ∧ bal t.tx = 0) : Flat m (Th.xe n t t.tx) ∧ bal (Th.xe n t t.tx) = 0 := by
  have b0 : bal [n] = 0 := isNm_bal hn
  have n0 : (if n = 91 then (1 : Int) else if n = 93 then -1 else 0) = 0 := by simpa [bal] using b0
  cases t with
  | non => exact ⟨fun i => by simp [Th.xe, bal], rfl⟩
  | file =>
    refine ⟨fun i => ?_, ?_⟩
    · match i with
      | 0 => simp [bal]
      | 1 => simp only [Th.xe, List.take, bal, n0]; omega
      | i + 2 => simp only [Th.xe, List.take, bal, n0, List.take_nil]; simp
    · simp only [Th.xe, bal, n0]; rfl
  | dir a b c =>
    obtain ⟨h1, h2⟩ := h _ rfl rfl
    have h0 := h1 0
    simp only [List.take_zero, bal] at h0
    refine ⟨fun i => ?_, ?_⟩
    · match i with
      | 0 => simp [bal]
      | 1 => simp only [Th.xe, List.take, bal, n0]; omega
      | i + 2 =>
        simp only [Th.xe, List.take, bal, n0]
        rw [List.take_append, bal_app]
        have g := h1 i
        by_cases z : i ≤ (Th.dir a b c).tx.length
        · have e : i - (Th.dir a b c).tx.length = 0 := by omega
          rw [e]
          simp only [List.take_zero, bal, if_true]
          omega
        · rw [List.take_of_length_le (by omega), h2]
          obtain ⟨j, hj⟩ : ∃ j, i - (Th.dir a b c).tx.length = j + 1 := ⟨i - (Th.dir a b c).tx.length - 1, by omega⟩
          rw [hj]
          simp only [List.take, List.take_nil, bal]
          rw [if_neg (by decide : ¬ (93 : Nat) = 91)]
          simp only [if_true]
          omega
    · simp only [Th.xe, bal, n0, bal_app, h2]
      rfl
theorem Flat.app {m : Int} {a b : List Nat} (ha : Flat m a) (h0 : bal a = 0) (hb : Flat m b) : Flat m (a ++ b) := fun i => by
  rw [List.take_append, bal_app]
  by_cases h : i ≤ a.length
  · have e : i - a.length = 0 := by omega
    rw [e]
    have := ha i
    simp only [List.take_zero, bal]
    omega
  · rw [List.take_of_length_le (by omega), h0, Int.zero_add]
    exact hb _
theorem flat_tx : ∀ (t : Th) (m : Nat), t.dep ≤ m + 1 → Flat m t.tx ∧ bal t.tx = 0
  | .non, m, _ => ⟨fun i => by simp [Th.tx, bal], rfl⟩
  | .file, m, _ => ⟨fun i => by simp [Th.tx, bal], rfl⟩
  | .dir a b c, m, h => by
    have hd : max (max a.dep b.dep) c.dep + 1 ≤ m + 1 := h
    have key : ∀ (t : Th) (n : Nat), isNm n = true → t.dep ≤ m → (∀ k : Nat, t.dep ≤ k + 1 → Flat k t.tx ∧ bal t.tx = 0) → Flat m (Th.xe n t t.tx) ∧ bal (Th.xe n t t.tx) = 0 := fun t n hn hd ih =>
      flat_xe hn fun t' e hdir => by
        subst e
        have := Th.dep_pos hdir
        obtain ⟨m', rfl⟩ : ∃ m', m = m' + 1 := ⟨m - 1, by omega⟩
        have q := ih m' hd
        have e : ((m' + 1 : Nat) : Int) - 1 = (m' : Int) := by omega
        rw [e]
        exact q
    obtain ⟨a1, a2⟩ := key a 97 rfl (by omega) (flat_tx a)
    obtain ⟨b1, b2⟩ := key b 98 rfl (by omega) (flat_tx b)
    obtain ⟨c1, c2⟩ := key c 99 rfl (by omega) (flat_tx c)
    refine ⟨(a1.app a2 b1).app (by rw [bal_app, a2, b2]; rfl) c1, ?_⟩
    show bal (Th.xe 97 a a.tx ++ Th.xe 98 b b.tx ++ Th.xe 99 c c.tx) = 0
    rw [bal_app, bal_app, a2, b2, c2]
    rfl
/-- how long a text may be -/
def bnd : Nat → Nat
  | 0 => 0
  | n + 1 => 3 * (3 + bnd n)
theorem bnd_mono : ∀ {a b : Nat}, a ≤ b → bnd a ≤ bnd b
  | 0, _, _ => Nat.zero_le _
  | a + 1, b + 1, h => by
    have := bnd_mono (a := a) (b := b) (by omega)
    simp only [bnd]
    omega
theorem tx_len : ∀ t : Th, t.tx.length ≤ bnd t.dep
  | .non => Nat.le_refl 0
  | .file => Nat.le_refl 0
  | .dir a b c => by
    have key : ∀ (n : Nat) (t : Th), t.tx.length ≤ bnd t.dep → (Th.xe n t t.tx).length ≤ 3 + bnd t.dep := fun n t h => by
      cases t <;> simp [Th.xe] <;> omega
    have ka := key 97 a (tx_len a)
    have kb := key 98 b (tx_len b)
    have kc := key 99 c (tx_len c)
    have ma : bnd a.dep ≤ bnd (max (max a.dep b.dep) c.dep) := bnd_mono (by omega)
    have mb : bnd b.dep ≤ bnd (max (max a.dep b.dep) c.dep) := bnd_mono (by omega)
    have mc : bnd c.dep ≤ bnd (max (max a.dep b.dep) c.dep) := bnd_mono (by omega)
    show (Th.xe 97 a a.tx ++ Th.xe 98 b b.tx ++ Th.xe 99 c c.tx).length ≤ 3 * (3 + bnd (max (max a.dep b.dep) c.dep))
    rw [List.length_append, List.length_append]
    omega
theorem tx_len5 {t : Th} (h : t.dep ≤ 5) : t.tx.length ≤ 2000 := Nat.le_trans (tx_len t) (Nat.le_trans (bnd_mono h) (by decide))
end Cw

namespace Toy
open PySem L2
def tp (i : Nat) : Stmt := PySem.Challenge.pw_changedwalks_k02_texts_of_trees_refused.main.body.getD i (.Pass ⟨0, 0, 0, 0⟩)
abbrev s_BadText_init : Stmt := inClass (tp 2) 0
abbrev s_write_tree : Stmt := tp 6
abbrev s_Reader_init : Stmt := inClass (tp 7) 0
abbrev s_Reader_sign : Stmt := inClass (tp 7) 1
abbrev s_Reader_thing : Stmt := inClass (tp 7) 2
abbrev s_Reader_content : Stmt := inClass (tp 7) 3
abbrev s_read_tree : Stmt := tp 8
abbrev s_l_draws : Stmt := tp 10
abbrev s_l_pick : Stmt := tp 11
abbrev s_l_tree : Stmt := tp 12
abbrev s_l_text : Stmt := tp 13
abbrev s_l_place : Stmt := tp 14
abbrev s_l_told : Stmt := tp 15
abbrev s_law : Stmt := tp 16
theorem sc_write_tree : FnScope ["tree", "found", "name", "thing"] ["tree"] (defScope s_write_tree) := ⟨rfl, rfl, rfl, by decide +kernel, rfl, by decide +kernel, by decide +kernel⟩
theorem sc_Reader_init : FnScope ["self", "text"] ["self", "text"] (defScope s_Reader_init) := ⟨rfl, rfl, rfl, by decide +kernel, rfl, by decide +kernel, by decide +kernel⟩
theorem sc_Reader_sign : FnScope ["self"] ["self"] (defScope s_Reader_sign) := ⟨rfl, rfl, rfl, by decide +kernel, rfl, by decide +kernel, by decide +kernel⟩
theorem sc_Reader_thing : FnScope ["self", "found"] ["self"] (defScope s_Reader_thing) := ⟨rfl, rfl, rfl, by decide +kernel, rfl, by decide +kernel, by decide +kernel⟩
theorem sc_Reader_content : FnScope ["self", "found", "last", "name"] ["self"] (defScope s_Reader_content) := ⟨rfl, rfl, rfl, by decide +kernel, rfl, by decide +kernel, by decide +kernel⟩
theorem sc_read_tree : FnScope ["text", "reader", "found"] ["text"] (defScope s_read_tree) := ⟨rfl, rfl, rfl, by decide +kernel, rfl, by decide +kernel, by decide +kernel⟩
theorem sc_l_draws : FnScope ["_law_script"] ["_law_script"] (defScope s_l_draws) := ⟨rfl, rfl, rfl, by decide +kernel, rfl, by decide +kernel, by decide +kernel⟩
theorem sc_l_pick : FnScope ["_law_row", "_law_many", "_law_cell", "_law_found"] ["_law_row", "_law_many"] (defScope s_l_pick) := ⟨rfl, rfl, rfl, by decide +kernel, rfl, by decide +kernel, by decide +kernel⟩
theorem sc_l_tree : FnScope ["_law_row", "_law_deep", "_law_found", "_law_name", "_law_kind"] ["_law_row", "_law_deep"] (defScope s_l_tree) := ⟨rfl, rfl, rfl, by decide +kernel, rfl, by decide +kernel, by decide +kernel⟩
theorem sc_l_text : FnScope ["_law_tree_here", "_law_found", "_law_name", "_law_thing"] ["_law_tree_here"] (defScope s_l_text) := ⟨rfl, rfl, rfl, by decide +kernel, rfl, by decide +kernel, by decide +kernel⟩
theorem sc_l_place : FnScope ["_law_text_here", "_law_pile", "_law_last", "_law_waits", "_law_k", "_law_sign"] ["_law_text_here"] (defScope s_l_place) := ⟨rfl, rfl, rfl, by decide +kernel, rfl, by decide +kernel, by decide +kernel⟩
theorem sc_l_told : FnScope ["_law_text_here", "_law_told_here", "e"] ["_law_text_here"] (defScope s_l_told) := ⟨rfl, rfl, rfl, by decide +kernel, rfl, by decide +kernel, by decide +kernel⟩
theorem sc_law : FnScope ["_law_script", "_law_row", "_law_signs", "_law_turn", "_law_text_here", "_law_k", "_law_at", "_law_turn_of", "_law_due"] ["_law_script"] (defScope s_law) := ⟨rfl, rfl, rfl, by decide +kernel, rfl, by decide +kernel, by decide +kernel⟩
structure Tx (P : Program) (K : PySem.W.Frag) (mg : Str → Option Value) where
  n_len : mg "len" = none
  n_int : mg "int" = none
  n_list : mg "list" = none
  n_tuple : mg "tuple" = none
  n_range : mg "range" = none
  n_isinstance : mg "isinstance" = none
  t_FILE : Tok
  m_FILE : mg "FILE" = some (.str "file" t_FILE)
  a_NAMES : Addr
  m_NAMES : mg "NAMES" = some (.ref a_NAMES)
  c_NAMES : ∀ H, SqT K H a_NAMES [.str "a", .str "b", .str "c"]
  C_Reader : Addr
  c_Reader : Cls K C_Reader
  m_Reader : mg "Reader" = some (.ref C_Reader)
  A_Reader_text : NoAttr K C_Reader "text"
  A_Reader_spot : NoAttr K C_Reader "spot"
  f_write_tree : Addr
  d_write_tree : FuncData
  F_write_tree : Fun K "write_tree" "write_tree" s_write_tree f_write_tree d_write_tree
  b_write_tree : Binds K d_write_tree ["tree"] []
  m_write_tree : mg "write_tree" = some (.ref f_write_tree)
  f_Reader_init : Addr
  d_Reader_init : FuncData
  F_Reader_init : Fun K "__init__" "Reader.__init__" s_Reader_init f_Reader_init d_Reader_init
  b_Reader_init : Binds K d_Reader_init ["self", "text"] []
  K_Reader : Mk K C_Reader f_Reader_init
  f_Reader_sign : Addr
  d_Reader_sign : FuncData
  F_Reader_sign : Fun K "sign" "Reader.sign" s_Reader_sign f_Reader_sign d_Reader_sign
  b_Reader_sign : Binds K d_Reader_sign ["self"] []
  M_Reader_sign : Meth K C_Reader "sign" f_Reader_sign
  f_Reader_thing : Addr
  d_Reader_thing : FuncData
  F_Reader_thing : Fun K "thing" "Reader.thing" s_Reader_thing f_Reader_thing d_Reader_thing
  b_Reader_thing : Binds K d_Reader_thing ["self"] []
  M_Reader_thing : Meth K C_Reader "thing" f_Reader_thing
  f_Reader_content : Addr
  d_Reader_content : FuncData
  F_Reader_content : Fun K "content" "Reader.content" s_Reader_content f_Reader_content d_Reader_content
  b_Reader_content : Binds K d_Reader_content ["self"] []
  M_Reader_content : Meth K C_Reader "content" f_Reader_content
  f_read_tree : Addr
  d_read_tree : FuncData
  F_read_tree : Fun K "read_tree" "read_tree" s_read_tree f_read_tree d_read_tree
  b_read_tree : Binds K d_read_tree ["text"] []
  m_read_tree : mg "read_tree" = some (.ref f_read_tree)
  f_l_draws : Addr
  d_l_draws : FuncData
  F_l_draws : Fun K "_law_draws" "_law_draws" s_l_draws f_l_draws d_l_draws
  b_l_draws : Binds K d_l_draws ["_law_script"] []
  m_l_draws : mg "_law_draws" = some (.ref f_l_draws)
  f_l_pick : Addr
  d_l_pick : FuncData
  F_l_pick : Fun K "_law_pick" "_law_pick" s_l_pick f_l_pick d_l_pick
  b_l_pick : Binds K d_l_pick ["_law_row", "_law_many"] []
  m_l_pick : mg "_law_pick" = some (.ref f_l_pick)
  f_l_tree : Addr
  d_l_tree : FuncData
  F_l_tree : Fun K "_law_tree" "_law_tree" s_l_tree f_l_tree d_l_tree
  b_l_tree : Binds K d_l_tree ["_law_row", "_law_deep"] []
  m_l_tree : mg "_law_tree" = some (.ref f_l_tree)
  f_l_text : Addr
  d_l_text : FuncData
  F_l_text : Fun K "_law_text" "_law_text" s_l_text f_l_text d_l_text
  b_l_text : Binds K d_l_text ["_law_tree_here"] []
  m_l_text : mg "_law_text" = some (.ref f_l_text)
  f_l_place : Addr
  d_l_place : FuncData
  F_l_place : Fun K "_law_place" "_law_place" s_l_place f_l_place d_l_place
  b_l_place : Binds K d_l_place ["_law_text_here"] []
  m_l_place : mg "_law_place" = some (.ref f_l_place)
  f_l_told : Addr
  d_l_told : FuncData
  F_l_told : Fun K "_law_told" "_law_told" s_l_told f_l_told d_l_told
  b_l_told : Binds K d_l_told ["_law_text_here"] []
  m_l_told : mg "_law_told" = some (.ref f_l_told)
  f_law : Addr
  d_law : FuncData
  F_law : Fun K "law" "law" s_law f_law d_law
  b_law : Binds K d_law ["_law_script"] []
  m_law : mg "law" = some (.ref f_law)
  C_BadText : Addr
  m_BadText : mg "BadText" = some (.ref C_BadText)
  f_BadText_init : Addr
  cc_BadText : Addr
  cd_BadText : Addr
  X_BadText : Cw.XTxt P K C_BadText f_BadText_init cc_BadText cd_BadText "__init__" "BadText.__init__" (defArgs s_BadText_init) (defBody s_BadText_init) (defScope s_BadText_init)
  tp_BadText : (P.main.scope.names.lookup ("super" : Str)).isSome = false
  E_BadText : ExcC K C_BadText
  Y_BadText : XfC K C_BadText
  te_BadText : PySem.W.exmOne K (.ref C_BadText) (.ref C_BadText) = some true
  A_BadText_place : PySem.W.findIn K (.ref C_BadText) "place" = some none
  C_WalkError : Addr
  m_WalkError : mg "WalkError" = some (.ref C_WalkError)
  kw_BadText : PySem.W.kitOne K (.ref C_BadText) (.ref C_WalkError) = some true
/-! the draws -/
section
variable {P : Program} {w : World} {K : PySem.W.Frag} {mg : Str → Option Value} {base : Heap}
/-- the row of draws: its address, its list's address, the script's ints -/
structure Rw where
  r : Addr
  q : Addr
  ns : List Int
def Row (K : PySem.W.Frag) (H : Hp) (ρ : Rw) : Prop := ∃ (a : Nat) (b c : Int), H ρ.r = some (.lst [.ref ρ.q, .int a, .int b, .int c]) ∧ SqL K H ρ.q (ρ.ns.map V.int) ∧ ρ.q ≠ ρ.r ∧ a ≤ ρ.ns.length ∧ 0 ≤ b
theorem Row.same {H H' : Hp} {ρ : Rw} (h : Row K H ρ) (e : Same H H') : Row K H' ρ := by
  obtain ⟨a, b, c, h1, h2, h3⟩ := h
  exact ⟨a, b, c, e _ _ h1, e.seq h2, h3⟩
theorem Row.lst {H : Hp} {ρ : Rw} (h : Row K H ρ) : ∃ ys, H ρ.r = some (.lst ys) := by
  obtain ⟨a, b, c, h1, _⟩ := h
  exact ⟨_, h1⟩
/-- something else is written that was not there at first -/
theorem Row.mut {H H0 : Hp} {ρ : Rw} {l : Addr} {o : HO} (h : Row K H ρ) (h0 : Row K H0 ρ) (hl : H0 l = none) : Row K (upd H l o) ρ := by
  obtain ⟨a, b, c, h1, h2, h3⟩ := h
  obtain ⟨a0, b0, c0, g1, g2, _⟩ := h0
  refine ⟨a, b, c, by rw [upd_ne (ne_of_none g1 hl)]; exact h1, ?_, h3⟩
  have tr : ∀ u, H0 ρ.q = some u → SqL K (upd H l o) ρ.q (ρ.ns.map V.int) := fun u e => by
    have n : ρ.q ≠ l := ne_of_none e hl
    rcases h2 with (h2 | ⟨u, h2⟩) | h2
    · exact .inl (.inl (by rw [upd_ne n]; exact h2))
    · exact .inl (.inr ⟨u, by rw [upd_ne n]; exact h2⟩)
    · exact .inr h2
  rcases g2 with (g2 | ⟨u, g2⟩) | g2
  · exact tr _ g2
  · exact tr _ g2
  · exact .inr g2
def spDraws (K : PySem.W.Frag) : Sp := fun vs H Q _ => ∃ (a : Addr) (ns : List Int), vs = [.ref a] ∧ SqL K H a (ns.map V.int) ∧ ∀ r q H', Same H H' → H r = none → Row K H' ⟨r, q, ns⟩ → Q (.ref r) H'
def spPick (K : PySem.W.Frag) : Sp := fun vs H Q _ => ∃ (ρ : Rw) (m : Int), vs = [.ref ρ.r, .int m] ∧ 0 < m ∧ m < 1000000 ∧ Row K H ρ ∧ ∀ v H', 0 ≤ v → v < m → Row K H' ρ → But ρ.r H H' → Q (.int v) H'
theorem ok_l_draws (T : Tx P K mg) : FnOk P w K mg base CX0 1 T.f_l_draws T.d_l_draws ["_law_script"] (spDraws K) := by
  refine T.F_l_draws.ok sc_l_draws (fun vs H Q E h => ?_) (fun cdv A outer s H vs Q E hr h => ?_)
  · obtain ⟨a, ns, rfl, _⟩ := h
    rfl
  · obtain ⟨a, ns, rfl, hS, k⟩ := h
    refine ⟨_, (pss_one (ps_ret (pe_lst (pa_cons (pe_callTy call_list_of (by rfl) T.n_list (by decide +kernel) (pa_cons (pv 0) pa_nil)) (pa_cons pe_int (pa_cons pe_int (pa_cons pe_int pa_nil))))))), ?_⟩
    refine ⟨_, rfl, a, _, rfl, .inl hS, fun l hl0 => ⟨(by show 4 ≤ sizeLine; decide), fun r hr0 => ?_⟩⟩
    have n : l ≠ r := ne_of_none upd_same hr0
    have s1 : Same H (upd H l (.lst (ns.map V.int))) := same_new hl0
    refine k r l _ (s1.trans (same_new hr0)) (s1.free hr0) ⟨0, 0, 7, upd_same, SqL.of (by rw [upd_ne n]; exact upd_same), n, Nat.zero_le _, by decide⟩
theorem cmul_r (i : Int) {j : Int} (h : -(2 ^ 64) < j ∧ j < 2 ^ 64) : CMul i j := .inr h
theorem ok_l_pick (T : Tx P K mg) : FnOk P w K mg base CX0 1 T.f_l_pick T.d_l_pick ["_law_row", "_law_many"] (spPick K) := by
  refine T.F_l_pick.ok sc_l_pick (fun vs H Q E h => ?_) (fun cdv A outer s H vs Q E hr h => ?_)
  · obtain ⟨a, ns, rfl, _⟩ := h
    rfl
  · obtain ⟨⟨r, l, ns⟩, m, rfl, hm0, hm1, hrow, k⟩ := h
    refine ⟨_, (Evl.pss_cut (ps_if (pt_cmpR op_eq (pe_ix ix_list (pv 0) pe_int (fun _ _ => rfl)) pe_int (nomark _))
  (pss_one (ps_if (pt_cmpR op_lt (pe_ix ix_list (pv 0) pe_int (fun _ _ => rfl)) (pe_callB call_len_seq (by rfl) T.n_len PySem.boot_len (pa_cons (pe_ix ix_list (pv 0) pe_int (fun _ _ => rfl)) pa_nil)) (nomark _))
  (pss_cons (ps_set (i := 2) sc_l_pick.nd rfl (Or.inl rfl) (pe_ix ix_list (pe_ix ix_list (pv 0) pe_int (fun _ _ => rfl)) (pe_ix ix_list (pv 0) pe_int (fun _ _ => rfl)) (fun _ _ => rfl)))
  (pss_cons (ps_asg (pe_op op_add (pe_ix ix_list (pv 0) pe_int (fun _ _ => rfl)) pe_int) (pg_sub (pv 0) pe_int set_list))
  (pss_one (ps_if (pt_cmpR op_ge (pv 2) (pe_op op_pow pe_int pe_int) (nomark _))
  (pss_one (ps_asg (pv 2) (pg_sub (pv 0) pe_int set_list)))
  (pss_one (ps_asg (pe_op op_mod (pe_callTy call_int1 (by rfl) T.n_int (by decide +kernel) (pa_cons (pe_op op_add (pe_op op_add (pe_op op_mul (pe_ix ix_list (pv 0) pe_int (fun _ _ => rfl)) pe_int) (pe_op op_mul (pv 2) pe_int)) pe_int) pa_nil)) pe_int) (pg_sub (pv 0) pe_int set_list)))))))
  (pss_one (ps_asg (pe_op op_mod (pe_callTy call_int1 (by rfl) T.n_int (by decide +kernel) (pa_cons (pe_op op_add (pe_op op_mul (pe_ix ix_list (pv 0) pe_int (fun _ _ => rfl)) pe_int) pe_int) pa_nil)) pe_int) (pg_sub (pv 0) pe_int set_list)))))
  pss_nil)
  (pss_cons (ps_if (pt_cmpR op_gt (pe_ix ix_list (pv 0) pe_int (fun _ _ => rfl)) pe_int (nomark _))
  (pss_cons (ps_set (i := 3) sc_l_pick.nd rfl (Or.inl rfl) (pe_op op_mod (pe_callTy call_int1 (by rfl) T.n_int (by decide +kernel) (pa_cons (pe_ix ix_list (pv 0) pe_int (fun _ _ => rfl)) pa_nil)) (pv 1)))
  (pss_cons (ps_asg (pe_op op_fdiv (pe_ix ix_list (pv 0) pe_int (fun _ _ => rfl)) (pv 1)) (pg_sub (pv 0) pe_int set_list))
  (pss_one (ps_ret (pv 3)))))
  pss_nil)
  (pss_one (ps_ret (pe_op op_mod (pe_op op_mod (pe_callTy call_int1 (by rfl) T.n_int (by decide +kernel) (pa_cons (pe_op op_mul (pe_ix ix_list (pv 0) pe_int (fun _ _ => rfl)) pe_int) pa_nil)) pe_int) (pv 1)))))), ?_⟩
    refine ⟨fun σ H' => ∃ c, σ = [some (.ref r), some (.int m), c, none] ∧ Row K H' ⟨r, l, ns⟩ ∧ But r H H', ?_, ?_⟩
    · obtain ⟨a, b, c, h1, h2, h3, h4, h5⟩ := id hrow
      dsimp only at h1 h2 h3 h4
      refine ⟨_, rfl, r, _, _, _, rfl, rfl, SqL.of h1, at_of (j := 2) rfl rfl, rfl, _, rfl, ?_⟩
      refine ite2 (fun e => ?_) (fun e => ?_)
      · refine ⟨_, rfl, r, _, _, _, rfl, rfl, SqL.of h1, at_of (j := 1) rfl rfl, _, rfl, r, _, _, _, rfl, rfl, SqL.of h1, at_of (j := 0) rfl rfl, l, _, rfl, .inl h2, _, _, rfl, rfl, _, rfl, ?_⟩
        refine ite2 (fun e2 => ?_) (fun e2 => ?_)
        · have e3 : a < ns.length := by
            have := of_decide_eq_true e2
            rw [List.length_map] at this
            omega
          refine ⟨_, rfl, r, _, _, _, rfl, rfl, SqL.of h1, at_of (j := 0) rfl rfl, _, rfl, r, _, _, _, rfl, rfl, SqL.of h1, at_of (j := 1) rfl rfl, l, _, _, _, rfl, rfl, h2, at_of (j := a) rfl (by rw [List.getElem?_map, List.getElem?_eq_getElem e3]; rfl), ?_⟩
          refine ⟨_, rfl, r, _, _, _, rfl, rfl, SqL.of h1, at_of (j := 1) rfl rfl, _, _, rfl, rfl, _, rfl, r, _, _, 1, rfl, rfl, h1, rfl, ?_⟩
          have hu : (upd H r (.lst ([V.ref l, .int a, .int b, .int c].set 1 (.int ((a : Int) + 1))))) r = some (.lst [.ref l, .int ((a + 1 : Nat) : Int), .int b, .int c]) := upd_same
          have hb1 : But r H (upd H r (.lst ([V.ref l, .int a, .int b, .int c].set 1 (.int ((a : Int) + 1))))) := (But.refl r H).upd
          have hq1 := hb1.seq h2 h3
          refine ⟨_, rfl, _, _, rfl, rfl, ⟨by decide, by decide, by decide⟩, _, _, rfl, rfl, _, rfl, ?_⟩
          refine ite2 (fun e4 => ?_) (fun e4 => ?_)
          · refine ⟨_, rfl, _, rfl, r, _, _, 2, rfl, rfl, hu, rfl, ?_⟩
            refine ⟨_, rfl, ⟨a + 1, _, c, upd_same, (hb1.upd).seq h2 h3, h3, e3, ?_⟩, hb1.upd⟩
            have := of_decide_eq_true e4
            have : (10 : Int) ^ (18 : Int).toNat = 1000000000000000000 := by decide
            omega
          · refine ⟨_, rfl, r, _, _, _, rfl, rfl, SqL.of hu, at_of (j := 3) rfl rfl, _, _, rfl, rfl, cmul_r _ ⟨by decide, by decide⟩, _, rfl, _, _, rfl, rfl, cmul_r _ ⟨by decide, by decide⟩, _, _, rfl, rfl, _, _, rfl, rfl, .inl ⟨_, rfl, ?_⟩⟩
            refine ⟨_, _, rfl, rfl, (by show (0 : Int) < 2147483647; decide), _, rfl, r, _, _, 3, rfl, rfl, hu, rfl, ?_⟩
            exact ⟨_, rfl, ⟨a + 1, b, _, upd_same, (hb1.upd).seq h2 h3, h3, e3, h5⟩, hb1.upd⟩
        · refine ⟨_, rfl, r, _, _, _, rfl, rfl, SqL.of h1, at_of (j := 3) rfl rfl, _, _, rfl, rfl, cmul_r _ ⟨by decide, by decide⟩, _, _, rfl, rfl, .inl ⟨_, rfl, ?_⟩⟩
          refine ⟨_, _, rfl, rfl, (by show (0 : Int) < 2147483647; decide), _, rfl, r, _, _, 3, rfl, rfl, h1, rfl, ?_⟩
          exact ⟨_, rfl, ⟨a, b, _, upd_same, ((But.refl r H).upd).seq h2 h3, h3, h4, h5⟩, (But.refl r H).upd⟩
      · exact ⟨_, rfl, hrow, But.refl r H⟩
    · rintro σ H1 ⟨cell, rfl, ⟨a, b, c, h1, h2, h3, h4, h5⟩, hb⟩
      dsimp only at h1 h2 h3 h4
      refine ⟨_, rfl, r, _, _, _, rfl, rfl, SqL.of h1, at_of (j := 2) rfl rfl, _, _, rfl, rfl, _, rfl, ?_⟩
      refine ite2 (fun e => ?_) (fun e => ?_)
      · refine ⟨_, rfl, r, _, _, _, rfl, rfl, SqL.of h1, at_of (j := 2) rfl rfl, .inl ⟨_, rfl, ?_⟩⟩
        refine ⟨_, rfl, _, _, rfl, rfl, hm0, ?_⟩
        refine ⟨_, rfl, r, _, _, _, rfl, rfl, SqL.of h1, at_of (j := 2) rfl rfl, _, rfl, _, _, rfl, rfl, ⟨hm0, by omega⟩, _, rfl, r, _, _, 2, rfl, rfl, h1, rfl, ?_⟩
        refine ⟨_, rfl, ?_⟩
        exact k _ _ (Int.emod_nonneg _ (by omega)) (Int.emod_lt_of_pos _ hm0) ⟨a, _, c, upd_same, ((But.refl r H1).upd).seq h2 h3, h3, h4, Int.ediv_nonneg h5 (by omega)⟩ hb.upd
      · refine ⟨_, rfl, r, _, _, _, rfl, rfl, SqL.of h1, at_of (j := 3) rfl rfl, _, _, rfl, rfl, cmul_r _ ⟨by decide, by decide⟩, .inl ⟨_, rfl, ?_⟩⟩
        refine ⟨_, _, rfl, rfl, (by show (0 : Int) < 2147483629; decide), _, rfl, _, _, rfl, rfl, hm0, ?_⟩
        exact k _ _ (Int.emod_nonneg _ (by omega)) (Int.emod_lt_of_pos _ hm0) ⟨a, b, c, h1, h2, h3, h4, h5⟩ hb
end
end Toy


namespace Toy
open PySem L2 Cw
theorem take_more {α : Type} : ∀ {l : List α} {i : Nat} {x : α}, l[i]? = some x → l.take (i + 1) = l.take i ++ [x]
  | [], i, x, h => by simp at h
  | a :: l, 0, x, h => by
    have e : a = x := Option.some.inj h
    subst e
    rfl
  | a :: l, i + 1, x, h => by
    have ih := take_more (l := l) (i := i) (x := x) (by simpa using h)
    show a :: l.take (i + 1) = a :: l.take i ++ [x]
    rw [ih]
    rfl
theorem sz1 {n : Nat} (h : n ≤ 1000000) : n ≤ sizeLine := Nat.le_trans h (by decide)
/-- the text of a folder -/
def spText (K : PySem.W.Frag) (n : Nat) : Sp := fun vs H Q _ => ∃ (v : V) (t : Cw.Th), vs = [v] ∧ Im K H v t.D ∧ t.isDir = true ∧ t.dep ≤ n ∧ t.dep ≤ 30 ∧ t.tx.length ≤ 100000 ∧ ∀ H', Same H H' → Q (.str (Cw.S t.tx)) H'
/-! the text of a tree: write_tree -/
section
variable {P : Program} {w : World} {K : PySem.W.Frag} {mg : Str → Option Value} {base : Heap}
theorem ok_write_tree_n {n : Nat} (T : Tx P K mg) (G : FnOk P w K mg base CX0 n T.f_write_tree T.d_write_tree ["tree"] (spText K n)) : FnOk P w K mg base CX0 (n + 1) T.f_write_tree T.d_write_tree ["tree"] (spText K (n + 1)) := by
  refine T.F_write_tree.ok sc_write_tree (fun vs H Q E h => ?_) (fun cdv A outer s H vs Q E hr h => ?_)
  · obtain ⟨v, t, rfl, _⟩ := h
    rfl
  · obtain ⟨v, t, rfl, him, hd, hn, h32, hl, k⟩ := h
    rw [Th.D_dir t hd] at him
    obtain ⟨a, xs, rfl, hS, hx⟩ := him.tupI
    refine ⟨_, (pss_cons (ps_set (i := 1) sc_write_tree.nd rfl (Or.inl rfl) pe_str)
  (pss_cons (ps_for PassesOwn.never rfl (pi_tup (pv 0)) (pg_tup rfl (pgs_cons (pg_name (i := 2) sc_write_tree.nd rfl (Or.inl rfl)) (pgs_cons (pg_name (i := 3) sc_write_tree.nd rfl (Or.inl rfl)) pgs_nil)))
  (pss_one (ps_set (i := 1) sc_write_tree.nd rfl (Or.inl rfl) (pe_op op_add_str (pe_op op_add_str (pv 1) (pv 2)) (pe_ifExp (pt_cmpR (op_eqD hr.units) (pv 3) (pe_glob (v := .str "file") rfl T.m_FILE ⟨_, rfl⟩) (nomark _)) pe_str (pe_op op_add_str (pe_op op_add_str pe_str (pe_call G hr rfl T.m_write_tree T.F_write_tree.kp T.b_write_tree .nil pass0 (pa_cons (pv 3) pa_nil))) pe_str))))))
  (pss_one (ps_ret (pv 1))))), ?_⟩
    refine ⟨_, rfl, a, rfl, ⟨_, hS⟩, for_tup (K := K) (a := a) (xs := xs) (fun i σ H' => ∃ v2 v3, σ = [some (.ref a), some (.str (Cw.S ((t.ents.take i).flatMap Th.pX))), v2, v3] ∧ Same H H')
      ⟨none, none, by show _ = [_, some (V.str (Cw.S [])), _, _]; rw [← Cw.S_nil]; rfl, Same.refl _⟩ (fun i σ H' _ ⟨_, _, _, e⟩ => e.tup hS) ?_ ?_⟩
    · rintro i x σ H' hi ⟨v2, v3, rfl, e⟩
      obtain ⟨d, hd1, hd2⟩ := (hx.same e).get hi
      rw [List.getElem?_map] at hd1
      obtain ⟨⟨m, u⟩, hmu, rfl⟩ := Option.map_eq_some_iff.mp hd1
      obtain ⟨hm, hu0, hud⟩ := Th.ents_mem (List.mem_of_getElem? hmu)
      obtain ⟨q, ys, rfl, hq, hys⟩ := hd2.tupI
      obtain ⟨x, y, rfl, hx1, hy1⟩ := hys.two
      cases hx1.strI
      have hsum : ((t.ents.take (i + 1)).flatMap Th.pX).length ≤ 100000 := by
        refine Nat.le_trans ?_ hl
        rw [Th.tx_ents]
        conv => rhs; rw [← List.take_append_drop (i + 1) t.ents, List.flatMap_append]
        simp
      have htk : (t.ents.take (i + 1)).flatMap Th.pX = (t.ents.take i).flatMap Th.pX ++ Th.pX (m, u) := by
        rw [take_more hmu, List.flatMap_append]
        simp
      rw [htk, List.length_append] at hsum
      have hud : u.dep < t.dep := hud
      refine ⟨q, _, rfl, hq, rfl, _, _, rfl, _, _, rfl, rfl, ?_⟩
      have fin : ∀ (H2 : Hp) (X : Str), Same H' H2 → X = Cw.S ((t.ents.take i).flatMap Th.pX ++ Th.pX (m, u)) → ∃ v2 v3, ([some (.ref a), some (.str X), some (.str (Cw.S [m])), some y] : List (Option V)) = [some (.ref a), some (.str (Cw.S ((t.ents.take (i + 1)).flatMap Th.pX))), v2, v3] ∧ Same H H2 := fun H2 X e2 ez =>
        ⟨some (.str (Cw.S [m])), some y, by rw [htk, ez], e.trans e2⟩
      generalize (t.ents.take i).flatMap Th.pX = A at hsum fin ⊢
      have l1 : (Cw.S A).length + (Cw.S [m]).length ≤ sizeLine := sz1 (by rw [Cw.S_len, Cw.S_len, List.length_singleton]; omega)
      refine ⟨_, rfl, _, rfl, _, _, rfl, rfl, l1, _, rfl, _, _, hy1.dp, .str "file", Cw.shaped_D (by show u.dep ≤ 32; omega), Cw.shaped_file, _, rfl, ?_⟩
      rw [Cw.eqv_file u hu0]
      refine ite2 (fun c => ?_) (fun c => ?_)
      · have cu : u = .file := of_decide_eq_true c
        subst cu
        rw [Cw.S_dash]
        refine ⟨_, _, rfl, rfl, sz1 (by rw [Cw.S_app, Cw.S_len, Cw.S_len, List.length_append, List.length_singleton, List.length_singleton]; omega), ?_⟩
        exact fin H' _ (Same.refl _) (by rw [Cw.S_app, Cw.S_app, List.append_assoc]; rfl)
      · have cu : ¬ u = .file := fun z => c (decide_eq_true z)
        have hdir : u.isDir = true := by
          cases u with
          | non => exact absurd rfl hu0
          | file => exact absurd rfl cu
          | dir _ _ _ => rfl
        have hz : Th.pX (m, u) = m :: 91 :: (Th.tx u ++ [93]) := by
          cases u with
          | non => exact absurd rfl hu0
          | file => exact absurd rfl cu
          | dir _ _ _ => rfl
        rw [hz, List.length_cons, List.length_cons, List.length_append, List.length_singleton] at hsum
        rw [Cw.S_op, Cw.S_cl]
        refine ⟨_, rfl, _, u, rfl, hy1, hdir, by omega, by omega, by omega, fun H2 e2 => ?_⟩
        refine ⟨_, _, rfl, rfl, sz1 (by rw [Cw.S_len, Cw.S_len, List.length_singleton]; omega), ?_⟩
        refine ⟨_, _, rfl, rfl, sz1 (by rw [Cw.S_app, Cw.S_len, Cw.S_len, List.length_append, List.length_singleton, List.length_singleton]; omega), ?_⟩
        refine ⟨_, _, rfl, rfl, sz1 (by rw [Cw.S_app, Cw.S_app, Cw.S_app, Cw.S_len, Cw.S_len, List.length_append, List.length_append, List.length_append, List.length_singleton, List.length_singleton, List.length_singleton]; omega), ?_⟩
        exact fin H2 _ e2 (by rw [Cw.S_app, Cw.S_app, Cw.S_app, Cw.S_app, hz, List.append_assoc, List.append_assoc]; rfl)
    · rintro σ H' ⟨v2, v3, rfl, e⟩
      have hlen : xs.length = t.ents.length := by rw [hx.len, List.length_map]
      rw [hlen, List.take_length, ← Th.tx_ents]
      exact ⟨_, rfl, k H' e⟩
theorem ok_write_tree (T : Tx P K mg) : ∀ n : Nat, FnOk P w K mg base CX0 n T.f_write_tree T.d_write_tree ["tree"] (spText K n)
  | 0 => by
    have no : ∀ vs H Q E, ¬ spText K 0 vs H Q E := fun vs H Q E h => by
      obtain ⟨_, _, _, _, h1, h2, _⟩ := h
      have := Th.dep_pos h1
      omega
    exact ⟨fun vs H Q E h => absurd h (no vs H Q E), fun A outer s H args us vs Q E _ _ _ _ h => absurd h (no vs H Q E)⟩
  | n + 1 => ok_write_tree_n T (ok_write_tree T n)
end
/-! the text of a tree: _law_text -/
section
variable {P : Program} {w : World} {K : PySem.W.Frag} {mg : Str → Option Value} {base : Heap}
theorem ok_l_text_n {n : Nat} (T : Tx P K mg) (G : FnOk P w K mg base CX0 n T.f_l_text T.d_l_text ["_law_tree_here"] (spText K n)) : FnOk P w K mg base CX0 (n + 1) T.f_l_text T.d_l_text ["_law_tree_here"] (spText K (n + 1)) := by
  refine T.F_l_text.ok sc_l_text (fun vs H Q E h => ?_) (fun cdv A outer s H vs Q E hr h => ?_)
  · obtain ⟨v, t, rfl, _⟩ := h
    rfl
  · obtain ⟨v, t, rfl, him, hd, hn, h32, hl, k⟩ := h
    rw [Th.D_dir t hd] at him
    obtain ⟨a, xs, rfl, hS, hx⟩ := him.tupI
    refine ⟨_, (pss_cons (ps_set (i := 1) sc_l_text.nd rfl (Or.inl rfl) pe_str)
  (pss_cons (ps_for PassesOwn.never rfl (pi_tup (pv 0)) (pg_tup rfl (pgs_cons (pg_name (i := 2) sc_l_text.nd rfl (Or.inl rfl)) (pgs_cons (pg_name (i := 3) sc_l_text.nd rfl (Or.inl rfl)) pgs_nil)))
  (pss_one (ps_set (i := 1) sc_l_text.nd rfl (Or.inl rfl) (pe_op op_add_str (pe_op op_add_str (pv 1) (pv 2)) (pe_ifExp (pt_cmpR (op_eqD hr.units) (pv 3) pe_str (nomark _)) pe_str (pe_op op_add_str (pe_op op_add_str pe_str (pe_call G hr rfl T.m_l_text T.F_l_text.kp T.b_l_text .nil pass0 (pa_cons (pv 3) pa_nil))) pe_str))))))
  (pss_one (ps_ret (pv 1))))), ?_⟩
    refine ⟨_, rfl, a, rfl, ⟨_, hS⟩, for_tup (K := K) (a := a) (xs := xs) (fun i σ H' => ∃ v2 v3, σ = [some (.ref a), some (.str (Cw.S ((t.ents.take i).flatMap Th.pX))), v2, v3] ∧ Same H H')
      ⟨none, none, by show _ = [_, some (V.str (Cw.S [])), _, _]; rw [← Cw.S_nil]; rfl, Same.refl _⟩ (fun i σ H' _ ⟨_, _, _, e⟩ => e.tup hS) ?_ ?_⟩
    · rintro i x σ H' hi ⟨v2, v3, rfl, e⟩
      obtain ⟨d, hd1, hd2⟩ := (hx.same e).get hi
      rw [List.getElem?_map] at hd1
      obtain ⟨⟨m, u⟩, hmu, rfl⟩ := Option.map_eq_some_iff.mp hd1
      obtain ⟨hm, hu0, hud⟩ := Th.ents_mem (List.mem_of_getElem? hmu)
      obtain ⟨q, ys, rfl, hq, hys⟩ := hd2.tupI
      obtain ⟨x, y, rfl, hx1, hy1⟩ := hys.two
      cases hx1.strI
      have hsum : ((t.ents.take (i + 1)).flatMap Th.pX).length ≤ 100000 := by
        refine Nat.le_trans ?_ hl
        rw [Th.tx_ents]
        conv => rhs; rw [← List.take_append_drop (i + 1) t.ents, List.flatMap_append]
        simp
      have htk : (t.ents.take (i + 1)).flatMap Th.pX = (t.ents.take i).flatMap Th.pX ++ Th.pX (m, u) := by
        rw [take_more hmu, List.flatMap_append]
        simp
      rw [htk, List.length_append] at hsum
      have hud : u.dep < t.dep := hud
      refine ⟨q, _, rfl, hq, rfl, _, _, rfl, _, _, rfl, rfl, ?_⟩
      have fin : ∀ (H2 : Hp) (X : Str), Same H' H2 → X = Cw.S ((t.ents.take i).flatMap Th.pX ++ Th.pX (m, u)) → ∃ v2 v3, ([some (.ref a), some (.str X), some (.str (Cw.S [m])), some y] : List (Option V)) = [some (.ref a), some (.str (Cw.S ((t.ents.take (i + 1)).flatMap Th.pX))), v2, v3] ∧ Same H H2 := fun H2 X e2 ez =>
        ⟨some (.str (Cw.S [m])), some y, by rw [htk, ez], e.trans e2⟩
      generalize (t.ents.take i).flatMap Th.pX = A at hsum fin ⊢
      have l1 : (Cw.S A).length + (Cw.S [m]).length ≤ sizeLine := sz1 (by rw [Cw.S_len, Cw.S_len, List.length_singleton]; omega)
      refine ⟨_, rfl, _, rfl, _, _, rfl, rfl, l1, _, rfl, _, _, hy1.dp, .str "file", Cw.shaped_D (by show u.dep ≤ 32; omega), Cw.shaped_file, _, rfl, ?_⟩
      rw [Cw.eqv_file u hu0]
      refine ite2 (fun c => ?_) (fun c => ?_)
      · have cu : u = .file := of_decide_eq_true c
        subst cu
        rw [Cw.S_dash]
        refine ⟨_, _, rfl, rfl, sz1 (by rw [Cw.S_app, Cw.S_len, Cw.S_len, List.length_append, List.length_singleton, List.length_singleton]; omega), ?_⟩
        exact fin H' _ (Same.refl _) (by rw [Cw.S_app, Cw.S_app, List.append_assoc]; rfl)
      · have cu : ¬ u = .file := fun z => c (decide_eq_true z)
        have hdir : u.isDir = true := by
          cases u with
          | non => exact absurd rfl hu0
          | file => exact absurd rfl cu
          | dir _ _ _ => rfl
        have hz : Th.pX (m, u) = m :: 91 :: (Th.tx u ++ [93]) := by
          cases u with
          | non => exact absurd rfl hu0
          | file => exact absurd rfl cu
          | dir _ _ _ => rfl
        rw [hz, List.length_cons, List.length_cons, List.length_append, List.length_singleton] at hsum
        rw [Cw.S_op, Cw.S_cl]
        refine ⟨_, rfl, _, u, rfl, hy1, hdir, by omega, by omega, by omega, fun H2 e2 => ?_⟩
        refine ⟨_, _, rfl, rfl, sz1 (by rw [Cw.S_len, Cw.S_len, List.length_singleton]; omega), ?_⟩
        refine ⟨_, _, rfl, rfl, sz1 (by rw [Cw.S_app, Cw.S_len, Cw.S_len, List.length_append, List.length_singleton, List.length_singleton]; omega), ?_⟩
        refine ⟨_, _, rfl, rfl, sz1 (by rw [Cw.S_app, Cw.S_app, Cw.S_app, Cw.S_len, Cw.S_len, List.length_append, List.length_append, List.length_append, List.length_singleton, List.length_singleton, List.length_singleton]; omega), ?_⟩
        exact fin H2 _ e2 (by rw [Cw.S_app, Cw.S_app, Cw.S_app, Cw.S_app, hz, List.append_assoc, List.append_assoc]; rfl)
    · rintro σ H' ⟨v2, v3, rfl, e⟩
      have hlen : xs.length = t.ents.length := by rw [hx.len, List.length_map]
      rw [hlen, List.take_length, ← Th.tx_ents]
      exact ⟨_, rfl, k H' e⟩
theorem ok_l_text (T : Tx P K mg) : ∀ n : Nat, FnOk P w K mg base CX0 n T.f_l_text T.d_l_text ["_law_tree_here"] (spText K n)
  | 0 => by
    have no : ∀ vs H Q E, ¬ spText K 0 vs H Q E := fun vs H Q E h => by
      obtain ⟨_, _, _, _, h1, h2, _⟩ := h
      have := Th.dep_pos h1
      omega
    exact ⟨fun vs H Q E h => absurd h (no vs H Q E), fun A outer s H args us vs Q E _ _ _ _ h => absurd h (no vs H Q E)⟩
  | n + 1 => ok_l_text_n T (ok_l_text T n)
end
end Toy


namespace Toy
open PySem L2 Cw
/-! a drawn tree -/
namespace PD
open Cw
def nms : List Nat := [97, 98, 99]
def pds (ps : List Th) : List PyData := (nms.zip ps).flatMap fun p => Th.eD p.1 p.2 p.2.D
theorem pds_snoc {ps : List Th} {i n : Nat} (hl : ps.length = i) (hn : nms[i]? = some n) (u : Th) : pds (ps ++ [u]) = pds ps ++ Th.eD n u u.D := by
  match i, ps, hl, hn with
  | 0, [], _, hn => cases hn; simp [pds, nms]
  | 1, [a], _, hn => cases hn; simp [pds, nms]
  | 2, [a, b], _, hn => cases hn; simp [pds, nms]
  | i + 3, _, _, hn => simp [nms] at hn
theorem pds_dir (a b c : Th) : PyData.tuple (pds [a, b, c]) = (Th.dir a b c).D := by simp [pds, nms, Th.D]
theorem eD_len (n : Nat) (t : Th) (d : PyData) : (Th.eD n t d).length ≤ 1 := by cases t <;> simp [Th.eD]
theorem pds_len : ∀ ps : List Th, (pds ps).length ≤ 3
  | [] => Nat.zero_le _
  | [a] => by
    show (Th.eD 97 a a.D ++ []).length ≤ 3
    have := eD_len 97 a a.D
    simp only [List.length_append, List.length_nil]
    omega
  | [a, b] => by
    show (Th.eD 97 a a.D ++ (Th.eD 98 b b.D ++ [])).length ≤ 3
    have := eD_len 97 a a.D
    have := eD_len 98 b b.D
    simp only [List.length_append, List.length_nil]
    omega
  | a :: b :: c :: r => by
    show (Th.eD 97 a a.D ++ (Th.eD 98 b b.D ++ (Th.eD 99 c c.D ++ []))).length ≤ 3
    have := eD_len 97 a a.D
    have := eD_len 98 b b.D
    have := eD_len 99 c c.D
    simp only [List.length_append, List.length_nil]
    omega
theorem len3 {ps : List Th} (h : ps.length = 3) : ∃ a b c, ps = [a, b, c] := by
  match ps, h with
  | [a, b, c], _ => exact ⟨a, b, c, rfl⟩
def nmV : List V := [.str "a", .str "b", .str "c"]
theorem nm_at {i : Nat} {x : V} (h : nmV[i]? = some x) : ∃ n, nms[i]? = some n ∧ x = .str (S [n]) := by
  match i, h with
  | 0, h => cases h; exact ⟨97, rfl, by rw [S_a]⟩
  | 1, h => cases h; exact ⟨98, rfl, by rw [S_b]⟩
  | 2, h => cases h; exact ⟨99, rfl, by rw [S_c]⟩
  | i + 3, h => simp [nmV] at h
end PD
section
variable {P : Program} {w : World} {K : PySem.W.Frag} {mg : Str → Option Value} {base : Heap}
theorem tk_updL {H : Hp} {l : Addr} {xs : List V} {o : HO} (h : H l = some (.lst xs)) : Tk H (upd H l o) :=
  ⟨fun b ys e => by rw [upd_ne (ne_of e h (by intro z; cases z))]; exact e, fun b ob u e => by rw [upd_ne (ne_of e h (by intro z; cases z))]; exact e⟩
/-- in a turn of the tree's loop -/
structure TrI (K : PySem.W.Frag) (H : Hp) (ρ : Rw) (l p : Addr) (m : Nat) (ps : List Cw.Th) (H' : Hp) : Prop where
  row : Row K H' ρ
  but : But ρ.r H H'
  lst : ∃ vs, H' l = some (.lst vs) ∧ Ims K H' vs (PD.pds ps)
  nm : H' p = some (.lst PD.nmV)
  dep : ∀ u ∈ ps, u.dep ≤ m
/-- a thing u is appended as (name, y), the heap having grown from H1 to H2 -/
theorem TrI.push {H H1 H2 : Hp} {ρ : Rw} {l p t : Addr} {m i nm : Nat} {ps : List Cw.Th} {y : V} {u : Cw.Th} {vs : List V} (h0 : Row K H ρ) (R : TrI K H ρ l p m ps H1) (hv : H1 l = some (.lst vs)) (hl0 : H l = none) (npl : p ≠ l) (npr : p ≠ ρ.r) (hps : ps.length = i) (hnm : PD.nms[i]? = some nm)
    (hrow2 : Row K H2 ρ) (hb2 : But ρ.r H1 H2) (hy : Im K H2 y u.D) (hu : u ≠ .non) (hud : u.dep ≤ m) (ht : H2 t = none) :
    (upd H2 t (.tup [.str (Cw.S [nm]), y])) l = some (.lst vs) ∧ vs.length < sizeLine ∧ TrI K H ρ l p m (ps ++ [u]) (upd (upd H2 t (.tup [.str (Cw.S [nm]), y])) l (.lst (vs ++ [.ref t]))) := by
  obtain ⟨rys, hr0⟩ := h0.lst
  have nrl : l ≠ ρ.r := Ne.symm (ne_of_none hr0 hl0)
  have hl3 := hb2 _ _ nrl hv
  obtain ⟨ysr, hyr⟩ := R.row.lst
  obtain ⟨vs', hv', him⟩ := R.lst
  have ev : vs' = vs := by
    rw [hv] at hv'
    injection hv' with z
    injection z with z
    exact z.symm
  subst ev
  have ntl : t ≠ l := Ne.symm (ne_of_none hl3 ht)
  have hl4 : upd H2 t (.tup [.str (Cw.S [nm]), y]) l = some (.lst vs') := by rw [upd_ne (Ne.symm ntl)]; exact hl3
  have hsame := same_new (o := .tup [.str (Cw.S [nm]), y]) ht
  have tk3 : Tk H1 (upd H2 t (.tup [.str (Cw.S [nm]), y])) := (hb2.tk hyr).trans hsame.tk
  have tk4 := tk_updL (o := .lst (vs' ++ [.ref t])) hl4
  have hlen : vs'.length < sizeLine := by
    have e := him.len
    have := PD.pds_len ps
    exact small1000 (by omega)
  refine ⟨hl4, hlen, (hrow2.same hsame).mut h0 hl0, ?_, ⟨_, upd_same, ?_⟩, ?_, fun z hz => ?_⟩
  · intro b o hb e
    have nbl : b ≠ l := fun z => by rw [z, hl0] at e; cases e
    have e2 := hb2 _ _ hb (R.but _ _ hb e)
    rw [upd_ne nbl, upd_ne (ne_of_none e2 ht)]
    exact e2
  · rw [PD.pds_snoc hps hnm]
    refine ((him.tk tk3).tk tk4).app ?_
    have : Cw.Th.eD nm u u.D = [.tuple [.str (Cw.S [nm]), u.D]] := by cases u <;> first | exact absurd rfl hu | rfl
    rw [this]
    refine .cons (Im.tk tk4 ?_) .nil
    exact Im.new ht (.cons (.str _) (.cons hy .nil))
  · rw [upd_ne npl]
    have e2 := hb2 _ _ npr R.nm
    rw [upd_ne (ne_of_none e2 ht)]
    exact e2
  · rcases List.mem_append.mp hz with hz | hz
    · exact R.dep z hz
    · rw [List.mem_singleton.mp hz]
      exact hud
/-- nothing is appended -/
theorem TrI.skip {H H1 : Hp} {ρ : Rw} {l p : Addr} {m i nm : Nat} {ps : List Cw.Th} (R : TrI K H ρ l p m ps H1) (hps : ps.length = i) (hnm : PD.nms[i]? = some nm) : TrI K H ρ l p m (ps ++ [.non]) H1 := by
  obtain ⟨vs, h1, h2⟩ := R.lst
  refine ⟨R.row, R.but, ⟨vs, h1, ?_⟩, R.nm, fun z hz => ?_⟩
  · rw [PD.pds_snoc hps hnm]
    simpa [Cw.Th.eD] using h2
  · rcases List.mem_append.mp hz with hz | hz
    · exact R.dep z hz
    · rw [List.mem_singleton.mp hz]
      exact Nat.zero_le _
def spTree (K : PySem.W.Frag) (n : Nat) : Sp := fun vs H Q _ => ∃ (ρ : Rw) (d : Nat), vs = [.ref ρ.r, .int d] ∧ Row K H ρ ∧ d ≤ 4 ∧ 5 ≤ d + n ∧
  ∀ v H' (t : Cw.Th), t.isDir = true → t.dep + d ≤ 5 → Row K H' ρ → But ρ.r H H' → Im K H' v t.D → Q v H'
theorem ok_l_tree_n {n : Nat} (T : Tx P K mg) (G : FnOk P w K mg base CX0 (n + 1) T.f_l_tree T.d_l_tree ["_law_row", "_law_deep"] (spTree K n)) : FnOk P w K mg base CX0 (n + 2) T.f_l_tree T.d_l_tree ["_law_row", "_law_deep"] (spTree K (n + 1)) := by
  refine T.F_l_tree.ok sc_l_tree (fun vs H Q E h => ?_) (fun cdv A outer s H vs Q E hr h => ?_)
  · obtain ⟨ρ, d, rfl, _⟩ := h
    rfl
  · obtain ⟨ρ, d, rfl, hrow, hd4, hdn, k⟩ := h
    have hr1 : Room 1 _ := hr.mono (by omega)
    refine ⟨_, (pss_cons (ps_set (i := 2) sc_l_tree.nd rfl (Or.inl rfl) (pe_lst pa_nil))
  (pss_cons (ps_for PassesOwn.never rfl (pi_list (pe_lst (pa_cons pe_str (pa_cons pe_str (pa_cons pe_str pa_nil))))) (pg_name (i := 3) sc_l_tree.nd rfl (Or.inl rfl))
  (pss_cons (ps_set (i := 4) sc_l_tree.nd rfl (Or.inl rfl) (pe_call (ok_l_pick T) hr1 rfl T.m_l_pick T.F_l_pick.kp T.b_l_pick .nil pass0 (pa_cons (pv 0) (pa_cons pe_int pa_nil))))
  (Evl.pss_cut (ps_if (PW.pt (pw_or (pt_cmpR op_eq (pv 4) pe_int (nomark _)) (pw_or1 (pt_cmpR op_eq (pv 4) pe_int (nomark _)))))
  (pss_one (ps_expr (pe_bm PySem.F.plainAttrs_list PySem.F.slot_list_append PySem.F.type_list_append mt_append (pv 2) (pa_cons (pe_tup (pa_cons (pv 3) (pa_cons pe_str pa_nil))) pa_nil))))
  pss_nil)
  (pss_one (ps_if (PW.pt (pw_and (pt_cmpR op_ge (pv 4) pe_int (nomark _)) (pw_and1 (pt_cmpR op_lt (pv 1) pe_int (nomark _)))))
  (pss_one (ps_expr (pe_bm PySem.F.plainAttrs_list PySem.F.slot_list_append PySem.F.type_list_append mt_append (pv 2) (pa_cons (pe_tup (pa_cons (pv 3) (pa_cons (pe_ifExp (PW.pt (pw_or (pt_cmpR op_lt (pv 1) pe_int (nomark _)) (pw_or1 (pt_cmpR op_eq (pv 4) pe_int (nomark _))))) (pe_call G hr rfl T.m_l_tree T.F_l_tree.kp T.b_l_tree .nil pass0 (pa_cons (pv 0) (pa_cons (pe_op op_add (pv 1) pe_int) pa_nil))) (pe_tup pa_nil)) pa_nil))) pa_nil))))
  pss_nil)))))
  (pss_one (ps_ret (pe_callTy call_tuple_of (by rfl) T.n_tuple (by decide +kernel) (pa_cons (pv 2) pa_nil)))))), ?_⟩
    refine ⟨Nat.zero_le _, fun l hl0 => ?_⟩
    refine ⟨(by show 3 ≤ sizeLine; decide), fun p hp0 => ?_⟩
    obtain ⟨rys, hr0⟩ := hrow.lst
    have nrl : l ≠ ρ.r := Ne.symm (ne_of_none hr0 hl0)
    have hHp : H p = none := (same_new hl0).free hp0
    have npr : p ≠ ρ.r := Ne.symm (ne_of_none hr0 hHp)
    have npl : p ≠ l := Ne.symm (ne_of_none upd_same hp0)
    have s2 : Same H (upd (upd H l (.lst [])) p (.lst PD.nmV)) := (same_new hl0).trans (same_new hp0)
    refine ⟨p, rfl, ⟨_, SqL.of upd_same⟩, for_list (K := K) (a := p) (xs := PD.nmV) (fun i σ H' => ∃ nv kv ps, σ = [some (.ref ρ.r), some (.int d), some (.ref l), nv, kv] ∧ ps.length = i ∧ TrI K H ρ l p (4 - d) ps H')
      ⟨none, none, [], rfl, rfl, ⟨hrow.same s2, s2.but, ⟨[], by rw [upd_ne (Ne.symm npl)]; exact upd_same, .nil⟩, upd_same, by simp⟩⟩ (fun i σ H' _ ⟨_, _, _, _, _, R⟩ => SqL.of R.nm) ?_ ?_⟩
    · rintro i x σ H' hi ⟨nv, kv, ps, rfl, hps, R⟩
      obtain ⟨nm, hnm, rfl⟩ := PD.nm_at hi
      refine ⟨_, rfl, ρ, 5, rfl, by decide, by decide, R.row, fun kd H1 hk0 hk5 hrow1 hb1 => ?_⟩
      obtain ⟨ys1, hy1⟩ := R.row.lst
      obtain ⟨vs, hl1, him1⟩ := R.lst
      have hl2 := hb1 _ _ nrl hl1
      have R1 : TrI K H ρ l p (4 - d) ps H1 := ⟨hrow1, R.but.trans hb1, ⟨vs, hl2, him1.tk (hb1.tk hy1)⟩, hb1 _ _ npr R.nm, R.dep⟩
      refine ⟨fun σ H2 => σ = [some (.ref ρ.r), some (.int d), some (.ref l), some (.str (Cw.S [nm])), some (.int kd)] ∧ ((kd < 3 ∧ ∃ u, TrI K H ρ l p (4 - d) (ps ++ [u]) H2) ∨ (3 ≤ kd ∧ H2 = H1)), ?_, ?_⟩
      · -- a file
        have file : ∀ t, H1 t = none → (upd H1 t (.tup [.str (Cw.S [nm]), .str "file"])) l = some (.lst vs) ∧ vs.length < sizeLine ∧ TrI K H ρ l p (4 - d) (ps ++ [.file]) (upd (upd H1 t (.tup [.str (Cw.S [nm]), .str "file"])) l (.lst (vs ++ [.ref t]))) :=
          fun t ht => R1.push hrow hl2 hl0 npl npr hps hnm hrow1 (But.refl _ _) (.str _) (by intro z; cases z) (Nat.zero_le _) ht
        refine ⟨_, rfl, rfl, _, rfl, ?_⟩
        refine ite2 (fun c => ?_) (fun c => ?_)
        · have c1 : kd = 1 := by simpa using c
          refine ⟨_, rfl, .inl ⟨rfl, _, .inl (.inl hl2)⟩, _, rfl, (by show 2 ≤ sizeLine; decide), fun t ht => ?_⟩
          obtain ⟨f1, f2, f3⟩ := file t ht
          exact ⟨l, _, _, rfl, rfl, f1, f2, rfl, .inl ⟨by omega, _, f3⟩⟩
        · refine ⟨_, rfl, rfl, _, rfl, ?_⟩
          refine ite2 (fun c2 => ?_) (fun c2 => ?_)
          · have c3 : kd = 2 := by simpa using c2
            refine ⟨_, rfl, .inl ⟨rfl, _, .inl (.inl hl2)⟩, _, rfl, (by show 2 ≤ sizeLine; decide), fun t ht => ?_⟩
            obtain ⟨f1, f2, f3⟩ := file t ht
            exact ⟨l, _, _, rfl, rfl, f1, f2, rfl, .inl ⟨by omega, _, f3⟩⟩
          · refine ⟨rfl, ?_⟩
            by_cases h3 : kd < 3
            · exact .inl ⟨h3, _, R1.skip hps hnm⟩
            · exact .inr ⟨by omega, rfl⟩
      · rintro σ H2 ⟨rfl, hH2⟩
        refine ⟨_, rfl, _, _, rfl, rfl, _, rfl, ?_⟩
        refine ite2 (fun c => ?_) (fun c => ?_)
        · have c3 : 3 ≤ kd := of_decide_eq_true c
          have e2 : H2 = H1 := by
            rcases hH2 with ⟨z, _⟩ | ⟨_, z⟩
            · omega
            · exact z
          subst e2
          refine ⟨_, rfl, _, _, rfl, rfl, _, rfl, ?_⟩
          refine ite2 (fun c4 => ?_) (fun c4 => ?_)
          · have d4 : d < 4 := by
              have := of_decide_eq_true c4
              omega
            -- found.append((name, ..))
            refine ⟨_, rfl, .inl ⟨rfl, _, .inl (.inl hl2)⟩, _, rfl, ?_⟩
            have fin : ∀ (y : V) (H3 : Hp) (u : Cw.Th), Row K H3 ρ → But ρ.r H2 H3 → Im K H3 y u.D → u.isDir = true → u.dep ≤ 4 - d → ∀ t, H3 t = none → (upd H3 t (.tup [.str (Cw.S [nm]), y])) l = some (.lst vs) ∧ vs.length < sizeLine ∧ TrI K H ρ l p (4 - d) (ps ++ [u]) (upd (upd H3 t (.tup [.str (Cw.S [nm]), y])) l (.lst (vs ++ [.ref t]))) :=
              fun y H3 u g1 g2 g3 g4 g5 t ht => R1.push hrow hl2 hl0 npl npr hps hnm g1 g2 g3 (by intro z; subst z; cases g4) g5 ht
            have call : ∀ (Q' : V → Hp → Prop), (∀ y H3 u, Row K H3 ρ → But ρ.r H2 H3 → Im K H3 y u.D → Cw.Th.isDir u = true → u.dep ≤ 4 - d → Q' y H3) → spTree K n [.ref ρ.r, .int ((d : Int) + 1)] H2 Q' E0 :=
              fun Q' q => ⟨ρ, d + 1, rfl, hrow1, by omega, by omega, fun v H3 u g1 g2 g3 g4 g5 => q v H3 u g3 g4 g5 g1 (by omega)⟩
            let NX : Hp → Prop := fun H4 => ∃ nv kv ps', ([some (.ref ρ.r), some (.int d), some (.ref l), some (.str (Cw.S [nm])), some (.int kd)] : List (Option V)) = [some (.ref ρ.r), some (.int d), some (.ref l), nv, kv] ∧ ps'.length = i + 1 ∧ TrI K H ρ l p (4 - d) ps' H4
            have mk : ∀ (y : V) (H3 : Hp) (u : Cw.Th), Row K H3 ρ → But ρ.r H2 H3 → Im K H3 y u.D → u.isDir = true → u.dep ≤ 4 - d → (∀ H4, TrI K H ρ l p (4 - d) (ps ++ [u]) H4 → NX H4) →
                [V.str (Cw.S [nm]), y].length ≤ sizeLine ∧ ∀ t, H3 t = none → rAppend (.ref l) [.ref t] (upd H3 t (.tup [.str (Cw.S [nm]), y])) fun _ H4 => NX H4 :=
              fun y H3 u g1 g2 g3 g4 g5 q => ⟨(by show 2 ≤ sizeLine; decide), fun t ht => by
                obtain ⟨f1, f2, f3⟩ := fin y H3 u g1 g2 g3 g4 g5 t ht
                exact ⟨l, _, _, rfl, rfl, f1, f2, q _ f3⟩⟩
            have nx : ∀ u H4, TrI K H ρ l p (4 - d) (ps ++ [u]) H4 → NX H4 :=
              fun u H4 R => ⟨_, _, _, rfl, by rw [List.length_append, hps]; rfl, R⟩
            refine ⟨_, rfl, _, _, rfl, rfl, _, rfl, ?_⟩
            refine ite2 (fun c5 => ?_) (fun c5 => ?_)
            · refine ⟨_, rfl, _, rfl, _, _, rfl, rfl, call _ fun y H3 u g1 g2 g3 g4 g5 => ?_⟩
              exact mk y H3 u g1 g2 g3 g4 g5 (nx u)
            · refine ⟨_, rfl, rfl, _, rfl, ?_⟩
              refine ite2 (fun c6 => ?_) (fun c6 => ?_)
              · refine ⟨_, rfl, _, rfl, _, _, rfl, rfl, call _ fun y H3 u g1 g2 g3 g4 g5 => ?_⟩
                exact mk y H3 u g1 g2 g3 g4 g5 (nx u)
              · refine ⟨Nat.zero_le _, fun e0 he0 => ?_⟩
                have sm := same_new (o := .tup []) he0
                exact mk (.ref e0) _ (.dir .non .non .non) (hrow1.same sm) sm.but (Im.new he0 .nil) rfl (by show 1 ≤ 4 - d; omega) (nx _)
          · exact ⟨_, _, _, rfl, by rw [List.length_append, hps]; rfl, R1.skip hps hnm⟩
        · rcases hH2 with ⟨_, u, R2⟩ | ⟨z, _⟩
          · exact ⟨_, _, _, rfl, by rw [List.length_append, hps]; rfl, R2⟩
          · exact absurd (decide_eq_true z) c
    · rintro σ H' ⟨nv, kv, ps, rfl, hps, R⟩
      obtain ⟨a, b, c, rfl⟩ := PD.len3 hps
      obtain ⟨vs, h1, h2⟩ := R.lst
      refine ⟨_, rfl, l, _, rfl, .inl ⟨SqL.of h1, fun e he => ?_⟩⟩
      have sm := same_new (o := .tup vs) he
      refine k (.ref e) _ (.dir a b c) rfl ?_ (R.row.same sm) (R.but.trans sm.but) ?_
      · have ha := R.dep a (by simp)
        have hb := R.dep b (by simp)
        have hc := R.dep c (by simp)
        show (max (max a.dep b.dep) c.dep + 1) + d ≤ 5
        omega
      · rw [← PD.pds_dir]
        exact Im.new he h2
theorem ok_l_tree (T : Tx P K mg) : ∀ n : Nat, FnOk P w K mg base CX0 (n + 1) T.f_l_tree T.d_l_tree ["_law_row", "_law_deep"] (spTree K n)
  | 0 => by
    have no : ∀ vs H Q E, ¬ spTree K 0 vs H Q E := fun vs H Q E h => by
      obtain ⟨_, _, _, _, h1, h2, _⟩ := h
      omega
    exact ⟨fun vs H Q E h => absurd h (no vs H Q E), fun A outer s H args us vs Q E _ _ _ _ h => absurd h (no vs H Q E)⟩
  | n + 1 => ok_l_tree_n T (ok_l_tree T n)
end
end Toy


namespace Toy
open PySem L2 Cw
/-! the reader of texts of trees -/
section
variable {P : Program} {w : World} {K : PySem.W.Frag} {mg : Str → Option Value} {base : Heap}
open Cw
/-! its attributes -/
theorem ts_ : ¬ (("text" : Str) = "spot") := by decide +kernel
def rdf (L : List Nat) (k : Int) : List (Str × V) := putF "spot" (.int k) (putF "text" (.str (S L)) [])
theorem rdf_eq (L : List Nat) (k : Int) : rdf L k = ([("text", V.str (S L)), ("spot", V.int k)] : List (Str × V)) := by
  show (if ("text" : Str) = "spot" then [(("text" : Str), V.int k)] else (("text" : Str), V.str (S L)) :: putF "spot" (V.int k) []) = ([("text", V.str (S L)), ("spot", V.int k)] : List (Str × V))
  rw [if_neg ts_]
  all_goals rfl
theorem rdf_text (L : List Nat) (k : Int) : (rdf L k).lookup ("text" : Str) = some (.str (S L)) := by
  unfold rdf
  rw [lookup_putF, if_neg ts_, lookup_putF, if_pos rfl]
theorem rdf_spot (L : List Nat) (k : Int) : (rdf L k).lookup ("spot" : Str) = some (.int k) := by
  unfold rdf
  rw [lookup_putF, if_pos rfl]
theorem rdf_no (L : List Nat) (k : Int) {m : Str} (h1 : ¬ m = "spot") (h2 : ¬ m = "text") : (rdf L k).lookup m = none := by
  unfold rdf
  rw [lookup_putF, if_neg h1, lookup_putF, if_neg h2]
  all_goals rfl
theorem rdf_put (L : List Nat) (k j : Int) : putF "spot" (.int j) (rdf L k) = rdf L j := by
  rw [rdf_eq, rdf_eq]
  show (if ("text" : Str) = "spot" then _ else (("text" : Str), V.str (S L)) :: (if ("spot" : Str) = "spot" then [(("spot" : Str), V.int j)] else _)) = ([("text", V.str (S L)), ("spot", V.int j)] : List (Str × V))
  rw [if_neg ts_, if_pos rfl]
/-- a reader of the text L, what is left being l -/
def RdAt (C : Addr) (H : Hp) (p : Addr) (L l : List Nat) : Prop := ∃ dx, H p = some (.ins C dx (rdf L ((L.length - l.length : Nat) : Int))) ∧ ∃ a, L = a ++ l
theorem RdAt.keep {C : Addr} {H H' : Hp} {p : Addr} {L l : List Nat} (h : RdAt C H p L l) (e : H' p = H p) : RdAt C H' p L l := by
  obtain ⟨dx, h1, h2⟩ := h
  exact ⟨dx, e.trans h1, h2⟩
theorem RdAt.step {C : Addr} {H : Hp} {p dx : Addr} {L l : List Nat} {c : Nat} {a : List Nat} (e : L = a ++ (c :: l)) : RdAt C (upd H p (.ins C dx (rdf L (((L.length - (c :: l).length : Nat) : Int) + 1)))) p L l := by
  refine ⟨dx, ?_, a ++ [c], by rw [e]; simp⟩
  rw [upd_same]
  congr 3
  rw [e]
  simp only [List.length_append, List.length_cons]
  omega
def spRInit (C : Addr) : Sp := fun vs H Q _ => ∃ (p dx : Addr) (L : List Nat), vs = [.ref p, .str (S L)] ∧ H p = some (.ins C dx []) ∧ ∀ H', RdAt C H' p L L → But p H H' → Q .non H'
theorem ok_Reader_init (T : Tx P K mg) : FnOk P w K mg base CX0 1 T.f_Reader_init T.d_Reader_init ["self", "text"] (spRInit T.C_Reader) := by
  refine T.F_Reader_init.ok sc_Reader_init (fun vs H Q E h => ?_) (fun cdv A outer s H vs Q E hr h => ?_)
  · obtain ⟨p, dx, L, rfl, _⟩ := h
    rfl
  · obtain ⟨p, dx, L, rfl, hp, k⟩ := h
    refine ⟨_, (pss_cons (ps_fld (pv 0) (pv 1) rfl)
  (pss_one (ps_fld (pv 0) pe_int rfl))), ?_⟩
    refine ⟨_, rfl, _, rfl, p, T.C_Reader, dx, [], rfl, hp, T.c_Reader, T.A_Reader_text, (by show 0 < 1000; decide), _, rfl, p, T.C_Reader, dx, _, rfl, upd_same, T.c_Reader, T.A_Reader_spot, (by show 1 < 1000; decide), ?_⟩
    refine k _ ⟨dx, ?_, [], rfl⟩ fun b o hb e => by rw [upd_ne hb, upd_ne hb]; exact e
    rw [Nat.sub_self]
    exact upd_same
def spSign (C : Addr) : Sp := fun vs H Q _ => ∃ (p : Addr) (L l : List Nat), vs = [.ref p] ∧ RdAt C H p L l ∧ L.length ≤ 100000 ∧ Q (.str (S (l.take 1))) H
theorem cut_one (L l a : List Nat) (e : L = a ++ l) : cutS (S L) (some ((L.length - l.length : Nat) : Int)) (some (((L.length - l.length : Nat) : Int) + 1)) = S (l.take 1) := by
  have hk : L.length - l.length = a.length := by rw [e]; simp
  rw [hk]
  unfold cutS
  have e1 : HT.sIx (S L).length 0 (some ((a.length : Nat) : Int)) = a.length := by
    rw [HT.sIx_nat, S_len, e, List.length_append]; omega
  have e2 : HT.sIx (S L).length (S L).length (some (((a.length : Nat) : Int) + 1)) = min (a.length + 1) L.length := by
    have : (((a.length : Nat) : Int) + 1) = ((a.length + 1 : Nat) : Int) := by omega
    rw [this, HT.sIx_nat, S_len]
  rw [e1, e2, S_list, e, List.drop_left']
  · show S _ = S _
    congr 1
    rw [List.length_append]
    cases l with
    | nil => simp
    | cons c r =>
      have : min (a.length + 1) (a.length + (c :: r).length) - a.length = 1 := by rw [List.length_cons]; omega
      rw [this]
  · rfl
theorem ok_Reader_sign (T : Tx P K mg) : FnOk P w K mg base CX0 1 T.f_Reader_sign T.d_Reader_sign ["self"] (spSign T.C_Reader) := by
  refine T.F_Reader_sign.ok sc_Reader_sign (fun vs H Q E h => ?_) (fun cdv A outer s H vs Q E hr h => ?_)
  · obtain ⟨p, L, l, rfl, _⟩ := h
    rfl
  · obtain ⟨p, L, l, rfl, ⟨dx, h1, a, e⟩, hL, k⟩ := h
    refine ⟨_, (pss_one (ps_ret (pe_slice sl_str (pe_fld (pv 0) rfl) (po_some (pe_fld (pv 0) rfl)) (po_some (pe_op op_add (pe_fld (pv 0) rfl) pe_int))))), ?_⟩
    refine ⟨_, rfl, p, _, dx, _, _, rfl, h1, T.c_Reader, T.A_Reader_text, rdf_text _ _, _, rfl, p, _, dx, _, _, rfl, h1, T.c_Reader, T.A_Reader_spot, rdf_spot _ _, _, rfl,
      _, rfl, p, _, dx, _, _, rfl, h1, T.c_Reader, T.A_Reader_spot, rdf_spot _ _, _, _, rfl, rfl, _, rfl, _, rfl, sz1 (by rw [S_len]; omega), ?_⟩
    rw [cut_one L l a e]
    exact k
end
end Toy


namespace Toy
open PySem L2 Cw
theorem log2_small {i : Int} (h0 : 0 ≤ i) (h : i ≤ 1000000) : i.natAbs.log2 < 1920 := by
  have : i.natAbs < 2 ^ 20 := by omega
  by_cases z : i.natAbs = 0
  · rw [z]; decide
  · have := (Nat.log2_lt z).mpr this
    omega
/-- one small number -/
def okI : List V → Hp → Prop := fun vs _ => ∃ i : Int, vs = [.int i] ∧ 0 ≤ i ∧ i ≤ 1000000
theorem part_int {P : Program} {w : World} {qual : Str} {scope : Scope} {fI cda cc : Addr} {m : Str → Option Value} {h0 : Heap} {f : Str} {p1 p2 : Pos} {i : Int} {t : Tok} (hk : scope.kind = .function) (hl : scope.names.lookup f = some .local) (hd : (f == ("__debug__" : Str)) = false) (hv : m f = some (.int i t))
    (h1 : 0 ≤ i) (h2 : i ≤ 1000000) : Part P w (.FormattedValue (.Name f p1) (-1) none p2) qual scope fI cda cc m h0 2000 :=
  part_fmt hk hl hd hv (.inr (.inl ⟨i, t, rfl, log2_small h1 h2, Nat.le_trans (PyProof.Rows.int_text_len_1921 (log2_small h1 h2)) (by decide)⟩))
section
variable {P : Program} {w : World} {K : PySem.W.Frag} {mg : Str → Option Value} {base : Heap}
open Cw
theorem so_BadText (T : Tx P K mg) : ∃ M p0 p1 p2 p3 p4 q1 q2 q3 q4, defBody s_BadText_init = [supS M p0 p1 p2 p3 p4, stS "place" q1 q2 q3 q4] ∧ SupOk P M "BadText.__init__" (defScope s_BadText_init) T.f_BadText_init T.cd_BadText T.cc_BadText p0 p1 p2 p3 p4 ∧
    (∀ (m : Str → Option Value) (h0 : Heap) (i : Int) (t : Tok), m "place" = some (.int i t) → 0 ≤ i → i ≤ 1000000 → Msg P w M "BadText.__init__" (defScope s_BadText_init) T.f_BadText_init T.cd_BadText T.cc_BadText m h0) ∧
    (∀ L, swapsWith (.Name "place" q3) (some (.Attribute (.Name "self" q1) "place" q2)) q4.line (PySem.W.ksEnv "BadText.__init__" (defScope s_BadText_init) L T.f_BadText_init (.ref T.cd_BadText) T.cc_BadText) = pure false) := by
  refine ⟨_, _, _, _, _, _, _, _, _, _, rfl, ⟨rfl, rfl, rfl, rfl, rfl, T.tp_BadText, by decide +kernel, fun L => ⟨_, rfl⟩, fun L => rfl⟩, fun m h0 i t hm h1 h2 => ?_, fun L => rfl⟩
  refine msg_join (n := 2000) (fun e he => ?_) (by decide)
  rcases List.mem_cons.mp he with rfl | he
  · exact part_const (by decide +kernel)
  rcases List.mem_cons.mp he with rfl | he
  · exact part_int rfl rfl (by decide +kernel) hm h1 h2
  · cases he
theorem xc_BadText (T : Tx P K mg) : XCls P w K mg base T.C_BadText T.f_BadText_init ["place"] okI := by
  intro A s us vs H hr hok Mo kb r hn hok2
  obtain ⟨i, rfl, h1, h2⟩ := hok2
  obtain ⟨u, rfl, t, rfl⟩ := vals1 r
  obtain ⟨M, p0, p1, p2, p3, p4, q1, q2, q3, q4, eb, so, hm, hsw⟩ := so_BadText (w := w) T
  have X := T.X_BadText
  rw [eb] at X
  exact hinit1 X so Mo kb hr rfl rfl rfl rfl (by decide +kernel) (by decide +kernel) T.A_BadText_place (fun x kV doc pm an ct s => .of_eq rfl) hsw (fun x h1' k => hm _ _ i t (by simp [List.lookup]) h1 h2)
end
end Toy


namespace Toy
open PySem L2 Cw
section
variable {P : Program} {w : World} {K : PySem.W.Frag} {mg : Str → Option Value} {base : Heap}
open Cw
theorem D_ofEs {f last : Nat} {l r : List Nat} {es : List (Nat × Th)} (h : pC f last l = .ok es r) : (ofEs es).D = .tuple (es.map Th.pD) := by
  obtain ⟨_, _, h3, h4⟩ := (read_spec f).1 _ _ _ _ h
  have e := ents_ofEs (fun p hp => ⟨(h3 p hp).1, (h3 p hp).2.2⟩) h4
  rw [Th.D_dir _ rfl, e]
theorem strS {a : List Nat} {x : Str} {b : List Nat} (hx : x = S b) : decide (V.str (S a) = V.str x) = decide (a = b) := by
  subst hx
  by_cases h : a = b
  · rw [h]; simp
  · rw [decide_eq_false h, decide_eq_false (fun z => h (S_inj (V.str.inj z)))]
theorem inV_nm (l : List Nat) : inV (.str (S (l.take 1))) [.str "a", .str "b", .str "c"] = (match l with | [] => false | c :: _ => isNm c) := by
  have key : ∀ c : Nat, (("a" : Str) == S [c]) = (c == 97) ∧ (("b" : Str) == S [c]) = (c == 98) ∧ (("c" : Str) == S [c]) = (c == 99) := fun c => by
    rw [S_a, S_b, S_c]
    have k : ∀ a : Nat, (S [a] == S [c]) = (c == a) := fun a => by
      by_cases h : c = a
      · subst h; simp
      · have : S [a] ≠ S [c] := fun z => h (by have := S_inj z; simpa using this.symm)
        rw [beq_eq_false_iff_ne.mpr this, beq_eq_false_iff_ne.mpr h]
    exact ⟨k 97, k 98, k 99⟩
  cases l with
  | nil =>
    show ((("a" : Str) == S []) || ((("b" : Str) == S []) || ((("c" : Str) == S []) || false))) = false
    decide +kernel
  | cons c r =>
    show ((("a" : Str) == S [c]) || ((("b" : Str) == S [c]) || ((("c" : Str) == S [c]) || false))) = isNm c
    rw [(key c).1, (key c).2.1, (key c).2.2]
    simp [isNm, Bool.or_assoc]
def PlaceErr (CE : Addr) (L r : List Nat) (p : Addr) (H : Hp) (E : XK) : Prop := ∀ d H', H' d = some (.xd [("place", .int ((L.length - r.length : Nat) : Int))]) → But p H H' → E (.ref CE) (some d) H'
def spThing (K : PySem.W.Frag) (C CE : Addr) (m : Nat) : Sp := fun vs H Q E => ∃ (p : Addr) (L l : List Nat) (f : Nat), vs = [.ref p] ∧ RdAt C H p L l ∧ Flat ((m : Int) - 1) l ∧ L.length ≤ 100000 ∧ l.length < f ∧
  (match pT f l with
  | .ok t r => ∀ v H', But p H H' → RdAt C H' p L r → Im K H' v t.D → Q v H'
  | .bad r => PlaceErr CE L r p H E)
def spContent (K : PySem.W.Frag) (C CE : Addr) (m : Nat) : Sp := fun vs H Q E => ∃ (p : Addr) (L l : List Nat) (f : Nat), vs = [.ref p] ∧ RdAt C H p L l ∧ Flat ((m : Int) - 1) l ∧ L.length ≤ 100000 ∧ l.length < f ∧
  (match pC f 0 l with
  | .ok es r => ∀ v H', But p H H' → RdAt C H' p L r → Im K H' v (.tuple (es.map Th.pD)) → Q v H'
  | .bad r => PlaceErr CE L r p H E)
theorem ok_thing_n {m n : Nat} (T : Tx P K mg) (hn : 2 ≤ n) (G : FnOk P w K mg base (L2.CX P w) n T.f_Reader_content T.d_Reader_content ["self"] (spContent K T.C_Reader T.C_BadText m)) :
    FnOk P w K mg base (L2.CX P w) (n + 1) T.f_Reader_thing T.d_Reader_thing ["self"] (spThing K T.C_Reader T.C_BadText (m + 1)) := by
  refine T.F_Reader_thing.okX sc_Reader_thing (fun vs H Q E h => ?_) (fun cdv A outer s H vs Q E hr h => ?_)
  · obtain ⟨p, L, l, f, rfl, _⟩ := h
    rfl
  · obtain ⟨p, L, l, f, rfl, hR, hF, hL, hf, k⟩ := h
    have hr1 : Room 1 _ := hr.mono (by omega)
    have hr2 : Room 2 _ := hr.mono (by omega)
    refine ⟨_, (pss_cons (ps_if (pt_cmpR op_eq (pe_meth0 (pv 0) T.c_Reader T.M_Reader_sign (ok_Reader_sign T) hr1 T.b_Reader_sign .nil pass0) pe_str (nomark _))
  (pss_cons (ps_fldaug (pv 0) pe_int in_add)
  (pss_one (ps_ret (pe_glob (v := .str "file") rfl T.m_FILE ⟨_, rfl⟩))))
  pss_nil)
  (pss_cons (ps_if (pt_cmpR op_ne (pe_meth0 (pv 0) T.c_Reader T.M_Reader_sign (ok_Reader_sign T) hr1 T.b_Reader_sign .nil pass0) pe_str (nomark _))
  (pss_one (ps_raise rfl (takes_of rfl rfl rfl rfl) (pmk_x T.X_BadText (xc_BadText T) (by decide) hr2 T.m_BadText rfl (pa_cons (pe_fld (pv 0) rfl) pa_nil))))
  pss_nil)
  (pss_cons (ps_fldaug (pv 0) pe_int in_add)
  (pss_cons (ps_set (i := 1) sc_Reader_thing.nd rfl (Or.inl rfl) (pe_meth0 (pv 0) T.c_Reader T.M_Reader_content G hr T.b_Reader_content .nil (passes_call (takes_of rfl rfl rfl rfl) (fun _ _ _ _ h => h))))
  (pss_cons (ps_if (pt_cmpR op_ne (pe_meth0 (pv 0) T.c_Reader T.M_Reader_sign (ok_Reader_sign T) hr1 T.b_Reader_sign .nil pass0) pe_str (nomark _))
  (pss_one (ps_raise rfl (takes_of rfl rfl rfl rfl) (pmk_x T.X_BadText (xc_BadText T) (by decide) hr2 T.m_BadText rfl (pa_cons (pe_fld (pv 0) rfl) pa_nil))))
  pss_nil)
  (pss_cons (ps_fldaug (pv 0) pe_int in_add)
  (pss_one (ps_ret (pv 1))))))))), ?_⟩
    obtain ⟨dx, h1, a, eL⟩ := id hR
    obtain ⟨f, rfl⟩ : ∃ f', f = f' + 1 := ⟨f - 1, by omega⟩
    have ns : (rdf L ((L.length - l.length : Nat) : Int)).lookup ("sign" : Str) = none := rdf_no _ _ (by decide +kernel) (by decide +kernel)
    have hb : (0 : Int) ≤ ((L.length - l.length : Nat) : Int) ∧ ((L.length - l.length : Nat) : Int) ≤ 1000000 := by omega
    -- if self.sign() == '-'
    refine ⟨_, rfl, p, dx, _, rfl, h1, ns, p, L, l, rfl, hR, hL, rfl, _, rfl, ?_⟩
    rw [strS S_dash]
    refine ite2 (fun c => ?_) (fun c => ?_)
    · obtain ⟨r, rfl⟩ : ∃ r, l = 45 :: r := by
        have e := of_decide_eq_true c
        cases l with
        | nil => cases e
        | cons x r => exact ⟨r, by simp at e; rw [e]⟩
      refine ⟨_, rfl, p, _, dx, _, _, rfl, h1, T.c_Reader, T.A_Reader_spot, rdf_spot _ _, _, _, rfl, rfl, dx, _, h1, (by rw [rdf_eq]; show 2 < 1000; decide), ?_⟩
      simp only [pT, if_true] at k
      rw [rdf_put]
      exact k _ _ (But.upd (But.refl p H)) (RdAt.step eL) (.str _)
    · have n45 : ∀ r, l ≠ 45 :: r := fun r z => c (decide_eq_true (by rw [z]; rfl))
      refine ⟨_, rfl, p, dx, _, rfl, h1, ns, p, L, l, rfl, hR, hL, rfl, _, rfl, ?_⟩
      rw [strS S_op]
      refine ite2 (fun c2 => ?_) (fun c2 => ?_)
      · have n91 : ∀ r, l ≠ 91 :: r := fun r z => by
          subst z
          simp at c2
        refine ⟨_, rfl, p, _, dx, _, _, rfl, h1, T.c_Reader, T.A_Reader_spot, rdf_spot _ _, rfl, ⟨_, rfl, hb.1, hb.2⟩, (fun z => nomatch z), fun _ d hd => ?_⟩
        have kb : pT (f + 1) l = .bad l := by
          cases l with
          | nil => rfl
          | cons x r =>
            have a1 : ¬ x = 45 := fun z => n45 r (by rw [z])
            have a2 : ¬ x = 91 := fun z => n91 r (by rw [z])
            simp [pT, a1, a2]
        rw [kb] at k
        exact k d _ upd_same ((same_new hd).but)
      · obtain ⟨r, rfl⟩ : ∃ r, l = 91 :: r := by
          have e : decide (l.take 1 = [91]) = true := by
            cases q : decide (l.take 1 = [91]) with
            | true => rfl
            | false => rw [q] at c2; exact absurd rfl c2
          have e := of_decide_eq_true e
          cases l with
          | nil => cases e
          | cons x r => exact ⟨r, by simp at e; rw [e]⟩
        refine ⟨_, rfl, p, _, dx, _, _, rfl, h1, T.c_Reader, T.A_Reader_spot, rdf_spot _ _, _, _, rfl, rfl, dx, _, h1, (by rw [rdf_eq]; show 2 < 1000; decide), ?_⟩
        rw [rdf_put]
        have R1 := RdAt.step (C := T.C_Reader) (H := H) (p := p) (dx := dx) eL
        have hb1 : But p H (upd H p (.ins T.C_Reader dx (rdf L (((L.length - (91 :: r).length : Nat) : Int) + 1)))) := But.upd (But.refl p H)
        have hF1 : Flat ((m : Int) - 1) r := by
          have := Flat.drop (a := [91]) (b := r) hF
          have e : ((m + 1 : Nat) : Int) - 1 - bal [91] = (m : Int) - 1 := by show ((m + 1 : Nat) : Int) - 1 - 1 = _; omega
          rw [e] at this
          exact this
        generalize upd H p (.ins T.C_Reader dx (rdf L (((L.length - (91 :: r).length : Nat) : Int) + 1))) = H1 at R1 hb1 ⊢
        obtain ⟨dx1, g1, _⟩ := id R1
        refine ⟨_, rfl, p, dx1, _, rfl, g1, rdf_no _ _ (by decide +kernel) (by decide +kernel), p, L, r, f, rfl, R1, hF1, hL, by simpa using hf, ?_⟩
        cases hC : pC f 0 r with
        | bad x =>
          have kb : pT (f + 1) (91 :: r) = .bad x := by simp [pT, hC]
          rw [kb] at k
          exact fun d H' e1 e2 => k d H' e1 (hb1.trans e2)
        | ok es r1 =>
          intro v H2 hb2 R2 hv
          obtain ⟨dx2, g2, a2, eL2⟩ := id R2
          have hb' : (0 : Int) ≤ ((L.length - r1.length : Nat) : Int) ∧ ((L.length - r1.length : Nat) : Int) ≤ 1000000 := by omega
          refine ⟨_, rfl, p, dx2, _, rfl, g2, rdf_no _ _ (by decide +kernel) (by decide +kernel), p, L, r1, rfl, R2, hL, rfl, _, rfl, ?_⟩
          rw [strS S_cl]
          refine ite2 (fun c3 => ?_) (fun c3 => ?_)
          · refine ⟨_, rfl, p, _, dx2, _, _, rfl, g2, T.c_Reader, T.A_Reader_spot, rdf_spot _ _, rfl, ⟨_, rfl, hb'.1, hb'.2⟩, (fun z => nomatch z), fun _ d hd => ?_⟩
            have kb : pT (f + 1) (91 :: r) = .bad r1 := by
              cases r1 with
              | nil => simp [pT, hC]
              | cons x r2 =>
                have a1 : ¬ x = 93 := fun z => by subst z; simp at c3
                simp [pT, hC, a1]
            rw [kb] at k
            exact k d _ upd_same ((hb1.trans hb2).trans (same_new hd).but)
          · obtain ⟨r2, rfl⟩ : ∃ r2, r1 = 93 :: r2 := by
              have e : decide (r1.take 1 = [93]) = true := by
                cases q : decide (r1.take 1 = [93]) with
                | true => rfl
                | false => rw [q] at c3; exact absurd rfl c3
              have e := of_decide_eq_true e
              cases r1 with
              | nil => cases e
              | cons x r2 => exact ⟨r2, by simp at e; rw [e]⟩
            refine ⟨_, rfl, p, _, dx2, _, _, rfl, g2, T.c_Reader, T.A_Reader_spot, rdf_spot _ _, _, _, rfl, rfl, dx2, _, g2, (by rw [rdf_eq]; show 2 < 1000; decide), ?_⟩
            rw [rdf_put]
            have kb : pT (f + 1) (91 :: r) = .ok (ofEs es) r2 := by simp [pT, hC]
            rw [kb] at k
            refine ⟨_, rfl, k v _ ((hb1.trans hb2).upd) (RdAt.step eL2) ?_⟩
            rw [D_ofEs hC]
            exact hv.tk ⟨fun b xs e => by rw [upd_ne (ne_of e g2 (by intro z; cases z))]; exact e, fun b o u e => by rw [upd_ne (ne_of e g2 (by intro z; cases z))]; exact e⟩
end
end Toy


namespace Toy
open PySem L2 Cw
section
variable {P : Program} {w : World} {K : PySem.W.Frag} {mg : Str → Option Value} {base : Heap}
open Cw
theorem lt_one (a b : Nat) : decide (([a] : List Nat) < [b]) = decide (a < b) := by
  by_cases h : a < b
  · rw [decide_eq_true h]; exact decide_eq_true (List.Lex.rel h)
  · rw [decide_eq_false h]
    refine decide_eq_false fun z => ?_
    cases z with
    | rel z => exact h z
    | cons z => cases z
theorem ok_content_n {m n : Nat} (T : Tx P K mg) (hn : 2 ≤ n) (G : FnOk P w K mg base (L2.CX P w) n T.f_Reader_thing T.d_Reader_thing ["self"] (spThing K T.C_Reader T.C_BadText m)) :
    FnOk P w K mg base (L2.CX P w) (n + 1) T.f_Reader_content T.d_Reader_content ["self"] (spContent K T.C_Reader T.C_BadText m) := by
  refine T.F_Reader_content.okX sc_Reader_content (fun vs H Q E h => ?_) (fun cdv A outer s H vs Q E hr h => ?_)
  · obtain ⟨p, L, l, f, rfl, _⟩ := h
    rfl
  · obtain ⟨p, L, l, f, rfl, hR, hF, hL, hf, k⟩ := h
    have hr1 : Room 1 _ := hr.mono (by omega)
    have hr2 : Room 2 _ := hr.mono (by omega)
    refine ⟨_, (pss_cons (ps_par (i := 1) (j := 2) (by rfl) sc_Reader_content.nd rfl rfl (by decide) rfl rfl (pa_cons (pe_lst pa_nil) (pa_cons pe_str pa_nil)) (by rfl))
  (pss_cons (ps_while (passes_of rfl) (pt_cmpR op_in_seq (pe_meth0 (pv 0) T.c_Reader T.M_Reader_sign (ok_Reader_sign T) hr1 T.b_Reader_sign .nil pass0) (pe_glob (v := .ref T.a_NAMES) rfl T.m_NAMES rfl) (by rfl))
  (pss_cons (ps_set (i := 3) sc_Reader_content.nd rfl (Or.inl rfl) (pe_meth0 (pv 0) T.c_Reader T.M_Reader_sign (ok_Reader_sign T) hr1 T.b_Reader_sign .nil pass0))
  (pss_cons (ps_if (pt_cmpR op_le_str (pv 3) (pv 2) (nomark _))
  (pss_one (ps_raise rfl (takes_of rfl rfl rfl rfl) (pmk_x T.X_BadText (xc_BadText T) (by decide) hr2 T.m_BadText rfl (pa_cons (pe_fld (pv 0) rfl) pa_nil))))
  pss_nil)
  (pss_cons (ps_fldaug (pv 0) pe_int in_add)
  (pss_cons (ps_expr (pe_bm PySem.F.plainAttrs_list PySem.F.slot_list_append PySem.F.type_list_append mt_append (pv 1) (pa_cons (pe_tup (pa_cons (pv 3) (pa_cons (pe_meth0 (pv 0) T.c_Reader T.M_Reader_thing G hr T.b_Reader_thing .nil (passes_call (takes_of rfl rfl rfl rfl) (fun _ _ _ _ h => h))) pa_nil))) pa_nil)))
  (pss_one (ps_set (i := 2) sc_Reader_content.nd rfl (Or.inl rfl) (pv 3))))))))
  (pss_one (ps_ret (pe_callTy call_tuple_of (by rfl) T.n_tuple (by decide +kernel) (pa_cons (pv 1) pa_nil)))))), ?_⟩
    obtain ⟨dx0, h10, _⟩ := id hR
    refine ⟨Nat.zero_le _, fun fl hfl => ⟨_, _, rfl, ?_⟩⟩
    have npf : p ≠ fl := ne_of_none h10 hfl
    have sm := same_new (o := .lst []) hfl
    -- the loop
    refine ⟨fun μ σ H' => ∃ (acc : List (Nat × Th)) (last : Nat) (lt l' : List Nat) (f' : Nat) (vs : List V) (nm : Option V), σ = [some (.ref p), some (.ref fl), some (.str (S lt)), nm] ∧ ((lt = [] ∧ last = 0) ∨ lt = [last]) ∧ l'.length < f' ∧
        pC f 0 l = (match pC f' last l' with | .bad x => .bad x | .ok es r => .ok (acc ++ es) r) ∧ RdAt T.C_Reader H' p L l' ∧ Flat ((m : Int) - 1) l' ∧ H' fl = some (.lst vs) ∧ Ims K H' vs (acc.map Th.pD) ∧ acc.length + l'.length ≤ l.length ∧ But p H H' ∧ μ = l'.length,
      ⟨_, [], 0, [], l, f, [], none, by rw [← S_nil]; rfl, .inl ⟨rfl, rfl⟩, hf, by cases pC f 0 l <;> rfl, hR.keep (upd_ne npf), hF, upd_same, .nil, by simp, sm.but, rfl⟩, ?_⟩
    rintro μ σ H' ⟨acc, last, lt, l', f', vs, nm, rfl, hlt, hf', hpc, hR', hF', hl', him, hsz, hb, rfl⟩
    obtain ⟨dx, h1, a, eL⟩ := id hR'
    have ns : (rdf L ((L.length - l'.length : Nat) : Int)).lookup ("sign" : Str) = none := rdf_no _ _ (by decide +kernel) (by decide +kernel)
    have hb0 : (0 : Int) ≤ ((L.length - l'.length : Nat) : Int) ∧ ((L.length - l'.length : Nat) : Int) ≤ 1000000 := by omega
    refine ⟨_, rfl, p, dx, _, rfl, h1, ns, p, L, l', rfl, hR', hL, T.a_NAMES, _, rfl, .inr (T.c_NAMES _), rfl, rfl, _, rfl, ?_⟩
    show (if (inV (.str (S (l'.take 1))) [.str "a", .str "b", .str "c"]) = true then _ else _)
    rw [inV_nm]
    obtain ⟨f', rfl⟩ : ∃ g, f' = g + 1 := ⟨f' - 1, by omega⟩
    cases l' with
    | nil =>
      refine iteF ?_
      simp only [pC, List.append_nil] at hpc
      rw [hpc] at k
      refine ⟨_, rfl, fl, _, rfl, .inl ⟨SqL.of hl', fun e he => ?_⟩⟩
      have s2 := same_new (o := .tup vs) he
      exact k _ _ (hb.trans s2.but) (hR'.keep (upd_ne (ne_of_none h1 he))) (Im.new he him)
    | cons c r =>
      dsimp only
      refine ite2 (fun hc => ?_) (fun hc => ?_)
      · refine ⟨_, fun σ' H'' q => q, ?_⟩
        refine ⟨_, rfl, p, dx, _, rfl, h1, ns, p, L, c :: r, rfl, hR', hL, ?_⟩
        refine ⟨_, rfl, _, rfl, _, _, rfl, rfl, _, rfl, ?_⟩
        have hle : (!decide ((S lt).cps.toList < (S [c]).cps.toList)) = decide (c ≤ last) := by
          rw [S_list, S_list]
          rcases hlt with ⟨rfl, rfl⟩ | rfl
          · have : c ≠ 0 := by rintro rfl; simp [isNm] at hc
            have e1 : decide (([] : List Nat) < [c]) = true := by simp
            rw [e1, decide_eq_false (by omega)]
            rfl
          · rw [lt_one]
            by_cases h : last < c
            · rw [decide_eq_true h, decide_eq_false (by omega)]; rfl
            · rw [decide_eq_false h, decide_eq_true (by omega)]; rfl
        show (if (!decide ((S lt).cps.toList < (S [c]).cps.toList)) = true then _ else _)
        rw [hle]
        simp only [pC, hc, if_true] at hpc
        refine ite2 (fun hl => ?_) (fun hl => ?_)
        · rw [if_pos (of_decide_eq_true hl)] at hpc
          rw [hpc] at k
          refine ⟨_, rfl, p, _, dx, _, _, rfl, h1, T.c_Reader, T.A_Reader_spot, rdf_spot _ _, rfl, ⟨_, rfl, hb0.1, hb0.2⟩, (fun z => nomatch z), fun _ d hd => ?_⟩
          exact k d _ upd_same (hb.trans (same_new hd).but)
        · rw [if_neg (fun z => hl (decide_eq_true z))] at hpc
          refine ⟨_, rfl, p, _, dx, _, _, rfl, h1, T.c_Reader, T.A_Reader_spot, rdf_spot _ _, _, _, rfl, rfl, dx, _, h1, (by rw [rdf_eq]; show 2 < 1000; decide), ?_⟩
          rw [rdf_put]
          have R1 := RdAt.step (C := T.C_Reader) (H := H') (p := p) (dx := dx) eL
          have tkp : ∀ (H1 : Hp) (C dx : Addr) (fs gs : List (Str × V)), H1 p = some (.ins C dx fs) → Tk H1 (upd H1 p (.ins C dx gs)) := fun H1 C dx fs gs g =>
            ⟨fun b xs e => by rw [upd_ne (ne_of e g (by intro z; cases z))]; exact e, fun b o u e => by rw [upd_ne (ne_of e g (by intro z; cases z))]; exact e⟩
          have hl1 : upd H' p (.ins T.C_Reader dx (rdf L (((L.length - (c :: r).length : Nat) : Int) + 1))) fl = some (.lst vs) := by rw [upd_ne (Ne.symm npf)]; exact hl'
          have him1 := him.tk (tkp H' _ _ _ (rdf L (((L.length - (c :: r).length : Nat) : Int) + 1)) h1)
          have hb1 : But p H (upd H' p (.ins T.C_Reader dx (rdf L (((L.length - (c :: r).length : Nat) : Int) + 1)))) := hb.upd
          generalize upd H' p (.ins T.C_Reader dx (rdf L (((L.length - (c :: r).length : Nat) : Int) + 1))) = H1 at R1 hl1 him1 hb1 ⊢
          obtain ⟨dx1, g1, _⟩ := id R1
          have hF1 : Flat ((m : Int) - 1) r := by
            have := Flat.drop (a := [c]) (b := r) hF'
            rw [isNm_bal hc, Int.sub_zero] at this
            exact this
          refine ⟨_, rfl, .inl ⟨rfl, _, SqL.of hl1⟩, _, rfl, _, rfl, p, dx1, _, rfl, g1, rdf_no _ _ (by decide +kernel) (by decide +kernel), p, L, r, f', rfl, R1, hF1, hL, by simpa using hf', ?_⟩
          cases hT : pT f' r with
          | bad x =>
            rw [hT] at hpc
            rw [hpc] at k
            exact fun d H2 e1 e2 => k d H2 e1 (hb1.trans e2)
          | ok t r1 =>
            rw [hT] at hpc
            dsimp only at hpc
            intro v H2 hb2 R2 hv
            obtain ⟨⟨q1, eq1, bq1, nq1⟩, _⟩ := (read_spec f').2 _ _ _ hT
            have hl2 : H2 fl = some (.lst vs) := hb2 _ _ (Ne.symm npf) hl1
            have tk2 : Tk H1 H2 := ⟨fun b xs e => hb2 b _ (ne_of e g1 (by intro z; cases z)) e, fun b o u e => hb2 b _ (ne_of e g1 (by intro z; cases z)) e⟩
            refine ⟨(by show 2 ≤ sizeLine; decide), fun e he => ?_⟩
            have nfe : fl ≠ e := ne_of_none hl2 he
            have s3 := same_new (o := .tup [.str (S [c]), v]) he
            have hl3 := s3 _ _ hl2
            have vl : vs.length ≤ 100000 := by
              have e1 := him.len
              rw [List.length_map] at e1
              have e2 : L.length = a.length + (c :: r).length := by rw [eL, List.length_append]
              have : l.length ≤ L.length := by
                obtain ⟨_, _, a0, e0⟩ := hR
                rw [e0, List.length_append]; omega
              omega
            refine ⟨fl, _, _, rfl, rfl, hl3, Nat.lt_of_le_of_lt (show vs.length ≤ 100000 from vl) (by decide), ?_⟩
            refine ⟨_, rfl, ?_⟩
            obtain ⟨dx2, g2, _⟩ := id R2
            have npe : p ≠ e := ne_of_none g2 he
            have tk4 := tk_updL (o := .lst (vs ++ [.ref e])) hl3
            refine ⟨r1.length, ?_, acc ++ [(c, t)], c, [c], r1, f', vs ++ [.ref e], _, rfl, .inr rfl, ?_, ?_, ?_, ?_, upd_same, ?_, ?_, ?_, rfl⟩
            · rw [eq1]; simp only [List.length_cons, List.length_append]; omega
            · have : (c :: r).length < f' + 1 := hf'
              rw [eq1] at this
              simp only [List.length_cons, List.length_append] at this
              omega
            · rw [hpc]
              cases pC f' c r1 <;> simp
            · refine R2.keep ?_
              rw [upd_ne npf, upd_ne npe]
            · rw [eq1] at hF1
              have := Flat.drop hF1
              rw [bq1, Int.sub_zero] at this
              exact this
            · rw [List.map_append]
              refine (((him1.tk tk2).same s3).tk tk4).app (.cons (Im.tk tk4 (Im.new he (.cons (.str _) (.cons hv .nil)))) .nil)
            · rw [eq1] at hsz
              simp only [List.length_cons, List.length_append, List.length_nil] at hsz ⊢
              omega
            · intro b o nb eb
              have e1 := hb2 b o nb (hb1 b o nb eb)
              have nbf : b ≠ fl := fun z => by rw [z, hfl] at eb; cases eb
              rw [upd_ne nbf]
              exact s3 _ _ e1
      · have hc' : isNm c = false := by simpa using hc
        simp only [pC, hc', Bool.false_eq_true, if_false, List.append_nil] at hpc
        rw [hpc] at k
        refine ⟨_, rfl, fl, _, rfl, .inl ⟨SqL.of hl', fun e he => ?_⟩⟩
        have s2 := same_new (o := .tup vs) he
        exact k _ _ (hb.trans s2.but) (hR'.keep (upd_ne (ne_of_none h1 he))) (Im.new he him)
theorem ok_content (T : Tx P K mg) : ∀ m : Nat, FnOk P w K mg base (L2.CX P w) (2 * m + 2) T.f_Reader_content T.d_Reader_content ["self"] (spContent K T.C_Reader T.C_BadText m)
  | 0 => by
    have no : ∀ vs H Q E, ¬ spContent K T.C_Reader T.C_BadText 0 vs H Q E := fun vs H Q E h => by
      obtain ⟨_, _, l, _, _, _, h, _⟩ := h
      have := h 0
      simp [bal] at this
    exact ⟨fun vs H Q E h => absurd h (no vs H Q E), fun A outer s H args us vs Q E _ _ _ _ h => absurd h (no vs H Q E)⟩
  | m + 1 => ok_content_n (n := 2 * m + 3) T (by omega) (ok_thing_n (n := 2 * m + 2) T (by omega) (ok_content T m))
end
end Toy


namespace Toy
open PySem L2 Cw
section
variable {P : Program} {w : World} {K : PySem.W.Frag} {mg : Str → Option Value} {base : Heap}
open Cw
def spRead (K : PySem.W.Frag) (CE : Addr) (m : Nat) : Sp := fun vs H Q E => ∃ (L : List Nat), vs = [.str (S L)] ∧ Flat m L ∧ L.length ≤ 100000 ∧
  (match scan false 0 [] L with
  | some x => ∀ d H', H' d = some (.xd [("place", .int ((L.length - x.length : Nat) : Int))]) → Same H H' → E (.ref CE) (some d) H'
  | none => ∀ v H' (t : Th), Same H H' → Im K H' v t.D → t.isDir = true → t.dep ≤ m + 1 → t.tx = L → Q v H')
theorem ok_read_tree (T : Tx P K mg) (m : Nat) : FnOk P w K mg base (L2.CX P w) (2 * m + 5) T.f_read_tree T.d_read_tree ["text"] (spRead K T.C_BadText m) := by
  have G : FnOk P w K mg base (L2.CX P w) (2 * m + 4) T.f_Reader_content T.d_Reader_content ["self"] (spContent K T.C_Reader T.C_BadText (m + 1)) := ok_content T (m + 1)
  refine T.F_read_tree.okX sc_read_tree (fun vs H Q E h => ?_) (fun cdv A outer s H vs Q E hr h => ?_)
  · obtain ⟨L, rfl, _⟩ := h
    rfl
  · obtain ⟨L, rfl, hF, hL, k⟩ := h
    have hr2 : Room 2 _ := hr.mono (by omega)
    refine ⟨_, (pss_cons (ps_set (i := 1) sc_read_tree.nd rfl (Or.inl rfl) (pe_make T.K_Reader (ok_Reader_init T) hr2 rfl T.m_Reader T.b_Reader_init .nil pass0 (pa_cons (pv 0) pa_nil)))
  (pss_cons (ps_set (i := 2) sc_read_tree.nd rfl (Or.inl rfl) (pe_meth0 (pv 1) T.c_Reader T.M_Reader_content G hr T.b_Reader_content .nil (passes_call (takes_of rfl rfl rfl rfl) (fun _ _ _ _ h => h))))
  (pss_cons (ps_if (pt_cmpR op_lt (pe_fld (pv 1) rfl) (pe_callB call_len_str (by rfl) T.n_len PySem.boot_len (pa_cons (pv 0) pa_nil)) (nomark _))
  (pss_one (ps_raise rfl (takes_of rfl rfl rfl rfl) (pmk_x T.X_BadText (xc_BadText T) (by decide) hr2 T.m_BadText rfl (pa_cons (pe_fld (pv 1) rfl) pa_nil))))
  pss_nil)
  (pss_one (ps_ret (pv 2)))))), ?_⟩
    refine ⟨_, rfl, fun x dx nx ndx nex => ?_⟩
    refine ⟨x, dx, L, rfl, upd_same, fun H1 R1 b1 => ⟨rfl, ?_⟩⟩
    have s1 : Same H H1 := fun b o e => by
      have n1 : b ≠ x := ne_of_none e nx
      exact b1 b o n1 (by rw [upd_ne n1, upd_ne (ne_of_none e ndx)]; exact e)
    obtain ⟨dx1, g1, _⟩ := id R1
    have hF' : Flat (((m + 1 : Nat) : Int) - 1) L := by
      have e : ((m + 1 : Nat) : Int) - 1 = (m : Int) := by omega
      rw [e]; exact hF
    refine ⟨_, rfl, x, dx1, _, rfl, g1, rdf_no _ _ (by decide +kernel) (by decide +kernel), x, L, L, L.length + 1, rfl, R1, hF', hL, Nat.lt_succ_self _, ?_⟩
    have hw := scan_whole (m := m) hF
    have sx : ∀ H', But x H1 H' → Same H H' := fun H' b2 b o e => b2 b o (ne_of_none e nx) (s1 b o e)
    cases hs : scan false 0 [] L with
    | some y =>
      rw [hs] at hw k
      dsimp only at hw k
      rcases hw with hw | ⟨es, c, r, hw, rfl⟩
      · rw [hw]
        exact fun d H' e1 e2 => k d H' e1 (sx H' e2)
      · rw [hw]
        intro v H2 b2 R2 hv
        obtain ⟨dx2, g2, a2, eL2⟩ := id R2
        refine ⟨_, rfl, x, _, dx2, _, _, rfl, g2, T.c_Reader, T.A_Reader_spot, rdf_spot _ _, _, rfl, _, rfl, sz1 (by rw [S_len]; omega), _, _, rfl, rfl, _, rfl, ?_⟩
        refine ite2 (fun c1 => ?_) (fun c1 => ?_)
        · refine ⟨_, rfl, x, _, dx2, _, _, rfl, g2, T.c_Reader, T.A_Reader_spot, rdf_spot _ _, rfl, ⟨_, rfl, by omega, by omega⟩, (fun z => nomatch z), fun _ d hd => ?_⟩
          exact k d _ upd_same ((sx H2 b2).trans (same_new hd))
        · refine absurd (decide_eq_true ?_) c1
          rw [S_len]
          have : L.length = a2.length + (c :: r).length := by rw [eL2, List.length_append]
          rw [List.length_cons] at this ⊢
          omega
    | none =>
      rw [hs] at hw k
      obtain ⟨es, hw, htx, hdep⟩ := hw
      rw [hw]
      intro v H2 b2 R2 hv
      obtain ⟨dx2, g2, a2, eL2⟩ := id R2
      refine ⟨_, rfl, x, _, dx2, _, _, rfl, g2, T.c_Reader, T.A_Reader_spot, rdf_spot _ _, _, rfl, _, rfl, sz1 (by rw [S_len]; omega), _, _, rfl, rfl, _, rfl, ?_⟩
      refine ite2 (fun c1 => ?_) (fun c1 => ?_)
      · have := of_decide_eq_true c1
        rw [S_len] at this
        simp at this
      · refine ⟨_, rfl, k v H2 (ofEs es) (sx H2 b2) ?_ rfl hdep htx⟩
        rw [D_ofEs hw]
        exact hv
end
end Toy


namespace Toy
open PySem L2 Cw
section
variable {P : Program} {w : World} {K : PySem.W.Frag} {mg : Str → Option Value} {base : Heap}
open Cw
def nT (n : Nat) : List Nat := if n = 0 then [] else [n]
def pileV (pile : List Nat) : List V := pile.reverse.map fun n => V.str (S (nT n))
def pileD (pile : List Nat) : List PyData := pile.reverse.map fun n => PyData.str (S (nT n))
theorem S1 (c : Nat) : (⟨#[c]⟩ : Str) = S [c] := rfl
theorem beqS (a c : Nat) : (S [a] == S [c]) = (c == a) := by
  by_cases h : c = a
  · subst h; simp
  · have : S [a] ≠ S [c] := fun z => h (by have := S_inj z; simpa using this.symm)
    rw [beq_eq_false_iff_ne.mpr this, beq_eq_false_iff_ne.mpr h]
theorem inV_one (c : Nat) (xs : List Nat) : inV (.str (S [c])) (xs.map fun a => V.str (S [a])) = xs.any fun a => c == a := by
  induction xs with
  | nil => rfl
  | cons a r ih =>
    show ((S [a] == S [c]) || inV (.str (S [c])) (r.map fun a => V.str (S [a]))) = _
    rw [ih, beqS]
    rfl
theorem dall_strs {H : Hp} : ∀ l : List Nat, DpAll K H (l.map fun n => V.str (S (nT n))) (l.map fun n => PyData.str (S (nT n)))
  | [] => .nil
  | _ :: r => .cons (.str _) (dall_strs r)
theorem shaped_pile {pile : List Nat} (h : ∀ x ∈ pile, x < 1000) : SeqAt.shaped (.list (pileD pile)) = true := by
  have l : ∀ q : List Nat, (∀ x ∈ q, x < 1000) → PyData.canLayAll0 (q.map fun n => PyData.str (S (nT n))) = true ∧ PyData.depthAll (q.map fun n => PyData.str (S (nT n))) = 0 := by
    intro q
    induction q with
    | nil => intro _; exact ⟨rfl, rfl⟩
    | cons a r ih =>
      intro h
      obtain ⟨h1, h2⟩ := ih fun x hx => h x (List.mem_cons_of_mem _ hx)
      have ha := h a List.mem_cons_self
      have hs : PyData.canLay0 (.str (S (nT a))) = true := lay_str (fun c hc => by
        unfold nT at hc
        split at hc
        · cases hc
        · have := List.mem_singleton.mp hc; omega)
      refine ⟨?_, ?_⟩
      · show (PyData.canLay0 (.str (S (nT a))) && PyData.canLayAll0 (r.map fun n => PyData.str (S (nT n)))) = true
        rw [hs, h1]; rfl
      · show max (PyData.depth (.str (S (nT a)))) (PyData.depthAll (r.map fun n => PyData.str (S (nT n)))) = 0
        rw [h2]; rfl
  obtain ⟨h1, h2⟩ := l pile.reverse fun x hx => h x (List.mem_reverse.mp hx)
  simp only [SeqAt.shaped, PyData.canLay0, PyData.depth, pileD, h1, h2]
  decide
theorem eqv_pile (pile : List Nat) : PyData.eqv (.list (pileD pile)) (.list []) = decide (pile = []) := by
  unfold pileD
  cases h : pile.reverse with
  | nil =>
    have : pile = [] := by simpa using h
    rw [this]; rfl
  | cons a r =>
    have : pile ≠ [] := by rintro rfl; simp at h
    rw [decide_eq_false this]
    rfl
theorem cut_last (xs : List V) (v : V) : cutV (xs ++ [v]) none (some (-1)) = xs := by
  unfold cutV
  have e2 : HT.sIx (xs ++ [v]).length (xs ++ [v]).length (some (-1)) = xs.length := by
    show (if (-1 : Int) < 0 then ((-1 : Int) + ((xs ++ [v]).length : Int)).toNat else min (-1 : Int).toNat (xs ++ [v]).length) = xs.length
    rw [if_pos (by decide), List.length_append, List.length_singleton]
    omega
  rw [HT.sIx_none, e2]
  simp
def spPlace : Sp := fun vs H Q _ => ∃ (L : List Nat), vs = [.str (S L)] ∧ L.length ≤ 100000 ∧
  ∀ H', Same H H' → Q (match scan false 0 [] L with | some x => .int ((L.length - x.length : Nat) : Int) | none => .non) H'
theorem ok_l_place (T : Tx P K mg) : FnOk P w K mg base CX0 1 T.f_l_place T.d_l_place ["_law_text_here"] spPlace := by
  refine T.F_l_place.ok sc_l_place (fun vs H Q E h => ?_) (fun cdv A outer s H vs Q E hr h => ?_)
  · obtain ⟨L, rfl, _⟩ := h
    rfl
  · obtain ⟨L, rfl, hL, k⟩ := h
    refine ⟨_, (pss_cons (ps_par3 (i := 1) (j := 2) (l := 3) (by rfl) sc_l_place.nd rfl rfl rfl (by decide) (by decide) (by decide) rfl rfl rfl (pa_cons (pe_lst pa_nil) (pa_cons pe_str (pa_cons pe_bl pa_nil))) (by rfl))
  (pss_cons (ps_for PassesOwn.never rfl (pi_range1 rfl T.n_range (pa_cons (pe_callB call_len_str (by rfl) T.n_len PySem.boot_len (pa_cons (pv 0) pa_nil)) pa_nil)) (pg_name (i := 4) sc_l_place.nd rfl (Or.inl rfl))
  (pss_cons (ps_set (i := 5) sc_l_place.nd rfl (Or.inl rfl) (pe_ix ix_str (pv 0) (pv 4) (fun _ _ => rfl)))
  (pss_one (ps_if (pt_val (pv 3))
  (pss_cons (ps_if (pt_cmpR op_notIn_seq (pv 5) (pe_lst (pa_cons pe_str (pa_cons pe_str pa_nil))) (by rfl))
  (pss_one (ps_ret (pv 4)))
  pss_nil)
  (pss_cons (ps_set (i := 3) sc_l_place.nd rfl (Or.inl rfl) pe_bl)
  (pss_one (ps_if (pt_cmpR op_eq (pv 5) pe_str (nomark _))
  (pss_one (ps_par (i := 1) (j := 2) (by rfl) sc_l_place.nd rfl rfl (by decide) rfl rfl (pa_cons (pe_op op_cat (pv 1) (pe_lst (pa_cons (pv 2) pa_nil))) (pa_cons pe_str pa_nil)) (by rfl)))
  pss_nil))))
  (pss_one (ps_if (PW.pt (pw_and (pt_cmpR op_eq (pv 5) pe_str (nomark _)) (pw_and1 (pt_cmpR (op_neD hr.units) (pv 1) (pe_lst pa_nil) (nomark _)))))
  (pss_one (ps_par (i := 1) (j := 2) (by rfl) sc_l_place.nd rfl rfl (by decide) rfl rfl (pa_cons (pe_slice sl_list (pv 1) po_none (po_some (pe_un un_neg pe_int))) (pa_cons (pe_ix ix_list (pv 1) (pe_un un_neg pe_int) (fun _ _ => rfl)) pa_nil)) (by rfl)))
  (pss_one (ps_if (PW.pt (pw_and (pt_cmpR op_in_seq (pv 5) (pe_lst (pa_cons pe_str (pa_cons pe_str (pa_cons pe_str pa_nil)))) (by rfl)) (pw_and1 (pt_cmpR op_gt_str (pv 5) (pv 2) (nomark _)))))
  (pss_one (ps_par (i := 2) (j := 3) (by rfl) sc_l_place.nd rfl rfl (by decide) rfl rfl (pa_cons (pv 5) (pa_cons pe_bl pa_nil)) (by rfl)))
  (pss_one (ps_ret (pv 4)))))))))))
  (pss_one (ps_ret (pe_ifExp (PW.pt (pw_or (pt_val (pv 3)) (pw_or1 (pt_cmpR (op_neD hr.units) (pv 1) (pe_lst pa_nil) (nomark _))))) (pe_callB call_len_str (by rfl) T.n_len PySem.boot_len (pa_cons (pv 0) pa_nil)) pe_non))))), ?_⟩
    refine ⟨Nat.zero_le _, fun p0 hp0 => ⟨_, _, _, rfl, ?_⟩⟩
    refine ⟨_, rfl, _, rfl, sz1 (by rw [S_len]; omega), _, rfl, by rw [S_len]; omega, by rw [S_len]; omega, ?_⟩
    rw [S_len, Int.toNat_natCast]
    refine for_range (lo := 0) (n := L.length) (fun i σ H' => ∃ pl pile last waits kv sv, σ = [some (.str (S L)), some (.ref pl), some (.str (S (nT last))), some (.bl waits), kv, sv] ∧ H' pl = some (.lst (pileV pile)) ∧
      scan false 0 [] L = scan waits last pile (L.drop i) ∧ pile.length ≤ i ∧ (last < 1000 ∧ ∀ x ∈ pile, x < 1000) ∧ Same H H')
      ⟨p0, [], 0, false, none, none, by show _ = [_, _, some (V.str (S [])), _, _, _]; rw [← S_nil]; rfl, upd_same, rfl, Nat.le_refl _, ⟨by decide, by simp⟩, same_new hp0⟩ ?_ ?_
    · rintro i σ H1 hi ⟨pl, pile, last, waits, kv, sv, rfl, hpl, hsc, hpi, ⟨hla, hpa⟩, s1⟩
      obtain ⟨c, r, hd, hc⟩ : ∃ c r, L.drop i = c :: r ∧ L[i]? = some c := by
        refine ⟨L[i], L.drop (i + 1), List.drop_eq_getElem_cons hi, List.getElem?_eq_getElem hi⟩
      have hr1 : L.drop (i + 1) = r := by
        have : L.drop (i + 1) = (L.drop i).drop 1 := by rw [List.drop_drop]
        rw [this, hd]; rfl
      have hlen : L.length = i + (c :: r).length := by
        have := congrArg List.length hd
        rw [List.length_drop] at this
        omega
      rw [hd] at hsc
      have hz : (0 : Int) + (i : Int) = (i : Int) := Int.zero_add _
      rw [hz]
      have ret : scan false 0 [] L = some (c :: r) → ∀ H', Same H H' → Q (.int (i : Int)) H' := fun e H' s => by
        have q := k H' s
        rw [e] at q
        dsimp only at q
        have : L.length - (c :: r).length = i := by omega
        rw [this] at q
        exact q
      refine ⟨_, rfl, _, rfl, _, _, c, rfl, rfl, sz1 (by rw [S_len]; omega), atI_nat (by rw [S_list]; exact hc), ?_⟩
      rw [S1]
      refine ⟨_, rfl, waits, rfl, ?_⟩
      cases waits with
      | true =>
        refine iteT ?_
        simp only [scan] at hsc
        refine ⟨_, rfl, (by show 2 ≤ sizeLine; decide), fun p hp => ?_⟩
        refine ⟨p, _, rfl, .inl (SqL.of upd_same), rfl, rfl, _, rfl, ?_⟩
        have s2 := same_new (o := .lst [.str "-", .str "["]) hp
        show (if (!inV (.str (S [c])) [.str "-", .str "["]) = true then _ else _)
        have e1 : inV (.str (S [c])) [.str "-", .str "["] = (c == 45 || (c == 91 || false)) := by
          rw [S_dash, S_op]; exact inV_one c [45, 91]
        rw [e1]
        refine ite2 (fun h1 => ?_) (fun h1 => ?_)
        · have a1 : ¬ c = 45 := by rintro rfl; simp at h1
          have a2 : ¬ c = 91 := by rintro rfl; simp at h1
          rw [if_neg a1, if_neg a2] at hsc
          exact ⟨_, rfl, ret hsc _ (s1.trans s2)⟩
        · refine ⟨_, rfl, rfl, _, rfl, ?_⟩
          rw [strS (a := [c]) S_op]
          have hpl2 := s2 _ _ hpl
          refine ite2 (fun h2 => ?_) (fun h2 => ?_)
          · have c91 : c = 91 := by simpa using h2
            subst c91
            simp only [(by decide : ¬ (91 : Nat) = 45), if_false, if_true] at hsc
            refine ⟨_, rfl, _, rfl, (by show 1 ≤ sizeLine; decide), fun p2 hp2 => ?_⟩
            have s3 := same_new (o := .lst [.str (S (nT last))]) hp2
            have vl : (pileV pile).length = pile.length := by simp [pileV]
            refine ⟨pl, p2, _, _, rfl, rfl, s3 _ _ hpl2, upd_same, sz1 (by rw [vl, List.length_singleton]; omega), fun p3 hp3 => ?_⟩
            have s4 := same_new (o := .lst (pileV pile ++ [.str (S (nT last))])) hp3
            refine ⟨_, _, rfl, p3, last :: pile, 0, false, _, _, by show _ = [_, _, some (V.str (S [])), _, _, _]; rw [← S_nil]; rfl, ?_, ?_, ?_, ⟨by decide, ?_⟩, ((s1.trans s2).trans s3).trans s4⟩
            · rw [upd_same]; simp [pileV]
            · rw [hr1]; exact hsc
            · rw [List.length_cons]; omega
            · intro x hx
              rcases List.mem_cons.mp hx with rfl | hx
              · exact hla
              · exact hpa x hx
          · have c45 : c = 45 := by
              have n91 : ¬ c = 91 := fun z => h2 (by rw [z]; rfl)
              have : (c == 91) = false := by simpa using n91
              rw [this] at h1
              simpa using h1
            subst c45
            rw [if_pos rfl] at hsc
            exact ⟨pl, pile, last, false, _, _, rfl, hpl2, by rw [hr1]; exact hsc, by omega, ⟨hla, hpa⟩, s1.trans s2⟩
      | false =>
        refine iteF ?_
        refine ⟨_, rfl, rfl, _, rfl, ?_⟩
        rw [strS (a := [c]) S_cl]
        refine ite2 (fun h1 => ?_) (fun h1 => ?_)
        · have c93 : c = 93 := by simpa using h1
          subst c93
          refine ⟨_, rfl, Nat.zero_le _, fun p hp => ?_⟩
          have s2 := same_new (o := .lst []) hp
          refine ⟨.list (pileD pile), .list [], .lst (SqL.of (s2 _ _ hpl)) (dall_strs _), .lst (SqL.of upd_same) .nil, shaped_pile hpa, by decide +kernel, _, rfl, ?_⟩
          rw [eqv_pile]
          refine ite2 (fun h2 => ?_) (fun h2 => ?_)
          · obtain ⟨x, pile', rfl⟩ : ∃ x pile', pile = x :: pile' := by
              cases pile with
              | nil => simp at h2
              | cons x r => exact ⟨x, r, rfl⟩
            have ev : pileV (x :: pile') = pileV pile' ++ [.str (S (nT x))] := by simp [pileV]
            rw [ev] at hpl
            simp only [scan, if_true] at hsc
            refine ⟨_, rfl, _, rfl, _, rfl, pl, _, rfl, SqL.of (s2 _ _ hpl), fun p3 hp3 => ?_⟩
            rw [cut_last]
            have s3 := same_new (o := .lst (pileV pile')) hp3
            refine ⟨_, rfl, _, rfl, pl, _, _, _, rfl, rfl, SqL.of (s3 _ _ (s2 _ _ hpl)), atI_last _ _, ?_⟩
            exact ⟨_, _, rfl, p3, pile', x, false, _, _, rfl, upd_same, by rw [hr1]; exact hsc, by rw [List.length_cons] at hpi; omega, ⟨hpa x List.mem_cons_self, fun y hy => hpa y (List.mem_cons_of_mem _ hy)⟩, (s1.trans s2).trans s3⟩
          · have pn : pile = [] := by
              cases pile with
              | nil => rfl
              | cons x r => simp at h2
            subst pn
            refine ⟨_, rfl, (by show 3 ≤ sizeLine; decide), fun p3 hp3 => ?_⟩
            have s3 := same_new (o := .lst [.str "a", .str "b", .str "c"]) hp3
            refine ⟨p3, _, rfl, .inl (SqL.of upd_same), rfl, rfl, _, rfl, ?_⟩
            have e1 : inV (.str (S [93])) [.str "a", .str "b", .str "c"] = false := by
              rw [S_a, S_b, S_c]; exact inV_one 93 [97, 98, 99]
            show (if (inV (.str (S [93])) [.str "a", .str "b", .str "c"]) = true then _ else _)
            rw [e1]
            refine iteF ?_
            refine ⟨_, rfl, ret (hsc.trans ?_) _ ((s1.trans s2).trans s3)⟩
            simp [scan, isNm]
        · have n93 : ¬ c = 93 := fun z => h1 (by rw [z]; rfl)
          refine ⟨_, rfl, (by show 3 ≤ sizeLine; decide), fun p3 hp3 => ?_⟩
          have s3 := same_new (o := .lst [.str "a", .str "b", .str "c"]) hp3
          refine ⟨p3, _, rfl, .inl (SqL.of upd_same), rfl, rfl, _, rfl, ?_⟩
          have e1 : inV (.str (S [c])) [.str "a", .str "b", .str "c"] = isNm c := by
            rw [S_a, S_b, S_c]
            refine (inV_one c [97, 98, 99]).trans ?_
            simp [isNm, Bool.or_assoc]
          show (if (inV (.str (S [c])) [.str "a", .str "b", .str "c"]) = true then _ else _)
          rw [e1]
          refine ite2 (fun h2 => ?_) (fun h2 => ?_)
          · rw [scan_nm h2] at hsc
            refine ⟨_, rfl, _, rfl, _, _, rfl, rfl, _, rfl, ?_⟩
            have e2 : decide ((S (nT last)).cps.toList < (S [c]).cps.toList) = decide (last < c) := by
              rw [S_list, S_list]
              unfold nT
              split
              · rename_i z
                have : c ≠ 0 := by rintro rfl; simp [isNm] at h2
                rw [decide_eq_true (show ([] : List Nat) < [c] by simp), decide_eq_true (by omega)]
              · exact lt_one _ _
            show (if decide ((S (nT last)).cps.toList < (S [c]).cps.toList) = true then _ else _)
            rw [e2]
            refine ite2 (fun h3 => ?_) (fun h3 => ?_)
            · rw [if_pos (of_decide_eq_true h3)] at hsc
              refine ⟨_, rfl, _, _, rfl, ?_⟩
              have c0 : c ≠ 0 := by rintro rfl; simp [isNm] at h2
              have cl : c < 1000 := by
                simp only [isNm, Bool.or_eq_true, beq_iff_eq] at h2
                omega
              exact ⟨pl, pile, c, true, some (.int (i : Int)), some (.str (S [c])), by simp [nT, c0], s3 _ _ hpl, by rw [hr1]; exact hsc, by omega, ⟨cl, hpa⟩, s1.trans s3⟩
            · rw [if_neg (fun z => h3 (decide_eq_true z))] at hsc
              exact ⟨_, rfl, ret hsc _ (s1.trans s3)⟩
          · exact ⟨_, rfl, ret (hsc.trans (scan_no (by simpa using h2) n93)) _ (s1.trans s3)⟩
    · rintro σ H1 ⟨pl, pile, last, waits, kv, sv, rfl, hpl, hsc, hpi, ⟨hla, hpa⟩, s1⟩
      rw [List.drop_length] at hsc
      simp only [scan] at hsc
      refine ⟨_, rfl, waits, rfl, ?_⟩
      cases waits with
      | true =>
        refine ⟨_, rfl, _, rfl, sz1 (by rw [S_len]; omega), ?_⟩
        have q := k H1 s1
        rw [hsc] at q
        simp only [true_or, if_true, List.length_nil, Nat.sub_zero] at q
        rw [S_len]
        exact q
      | false =>
        refine ⟨_, rfl, Nat.zero_le _, fun p hp => ?_⟩
        have s2 := same_new (o := .lst []) hp
        refine ⟨.list (pileD pile), .list [], .lst (SqL.of (s2 _ _ hpl)) (dall_strs _), .lst (SqL.of upd_same) .nil, shaped_pile hpa, by decide +kernel, _, rfl, ?_⟩
        rw [eqv_pile]
        have q := k _ (s1.trans s2)
        rw [hsc] at q
        by_cases hp0 : pile = []
        · rw [decide_eq_true hp0]
          subst hp0
          show Q V.non _
          simpa using q
        · rw [decide_eq_false hp0]
          simp only [Bool.false_eq_true, false_or, hp0, ne_eq, not_false_eq_true, if_true, List.length_nil, Nat.sub_zero] at q
          refine ⟨_, rfl, _, rfl, sz1 (by rw [S_len]; omega), ?_⟩
          rw [S_len]
          exact q
end
end Toy


namespace Toy
open PySem L2 Cw
section
variable {P : Program} {w : World} {K : PySem.W.Frag} {mg : Str → Option Value} {base : Heap}
open Cw
def dueV (L : List Nat) : V := match scan false 0 [] L with | some x => .int ((L.length - x.length : Nat) : Int) | none => .non
def spTold : Sp := fun vs H Q _ => ∃ (L : List Nat), vs = [.str (S L)] ∧ Flat (8 : Nat) L ∧ L.length ≤ 100000 ∧ ∀ H', Same H H' → Q (dueV L) H'
theorem ok_l_told (T : Tx P K mg) : FnOk P w K mg base CX0 22 T.f_l_told T.d_l_told ["_law_text_here"] spTold := by
  refine T.F_l_told.ok sc_l_told (fun vs H Q E h => ?_) (fun cdv A outer s H vs Q E hr h => ?_)
  · obtain ⟨L, rfl, _⟩ := h
    rfl
  · obtain ⟨L, rfl, hF, hL, k⟩ := h
    refine ⟨_, (pss_cons (ps_set (i := 1) sc_l_told.nd rfl (Or.inl rfl) pe_non)
  (pss_cons (ps_try_as (i := 2) rfl rfl sc_l_told.nd rfl rfl ⟨rfl, by decide, .inl T.m_BadText⟩ takes0 (fun W pn xe tk _ =>
  (pss_one (ps_expr (pe_callS (ok_read_tree T 8) (hr.mono (by decide)) rfl T.m_read_tree T.F_read_tree.kp T.b_read_tree (fun σ => passAt tk σ) (pa_cons (pv 0) pa_nil))))) (fun a oe cls d pn hz hf =>
  (pss_one (ps_set (i := 1) sc_l_told.nd rfl (Or.inl rfl) (pe_ifExp (pt_val (pe_callB (call_isX T.E_BadText hz hf) (by rfl) T.n_isinstance (by decide +kernel) (pa_cons (pv 2) (pa_cons (pe_glob (v := .ref T.C_WalkError) rfl T.m_WalkError rfl) pa_nil)))) (pe_xf T.Y_BadText T.A_BadText_place hz hf (pv 2)) (pe_un un_neg pe_int))))))
  (pss_one (ps_ret (pv 1))))), ?_⟩
    refine ⟨_, rfl, L, rfl, hF, hL, ?_⟩
    unfold dueV at k
    cases hs : scan false 0 [] L with
    | some x =>
      rw [hs] at k
      intro d H1 hd s1
      refine ⟨true, T.te_BadText, (fun _ a ha => ?_), (fun q => nomatch q)⟩
      refine ⟨_, rfl, rfl, ⟨d, _, rfl, hd⟩, _, _, true, rfl, (fun u r => r), T.kw_BadText, true, rfl, ?_⟩
      refine ⟨_, rfl, rfl, rfl, d, _, _, rfl, hd, rfl, ?_⟩
      exact ⟨_, rfl, k H1 s1⟩
    | none =>
      rw [hs] at k
      intro v H1 t s1 _ _ _ _
      exact ⟨_, rfl, k H1 s1⟩
end
end Toy


namespace Toy
open PySem L2 Cw
section
variable {P : Program} {w : World} {K : PySem.W.Frag} {mg : Str → Option Value} {base : Heap}
open Cw
def spLaw (K : PySem.W.Frag) : Sp := fun vs H Q _ => ∃ (a : Addr) (ns : List Int), vs = [.ref a] ∧ SqL K H a (ns.map V.int) ∧ ns.length ≤ 63 ∧ ∀ H', Q (.bl true) H'
def sgn : List Nat := [97, 98, 99, 45, 91, 93, 100, 32, 65, 10, 48]
def sgnV : List V := [.str "a", .str "b", .str "c", .str "-", .str "[", .str "]", .str "d", .str " ", .str "A", .str "\n", .str "0"]
theorem sgn_eq : sgnV = sgn.map fun c => V.str (S [c]) := by
  unfold sgnV
  rw [S_a, S_b, S_c, S_dash, S_op, S_cl, show ("d" : Str) = S [100] by decide +kernel, show (" " : Str) = S [32] by decide +kernel, show ("A" : Str) = S [65] by decide +kernel, show ("\n" : Str) = S [10] by decide +kernel, show ("0" : Str) = S [48] by decide +kernel]
  rfl
theorem sgn_at {v : Int} (h0 : 0 ≤ v) (h1 : v < 11) : ∃ c, atI sgnV v = some (.str (S [c])) := by
  obtain ⟨j, rfl⟩ : ∃ j : Nat, v = (j : Int) := ⟨v.toNat, by omega⟩
  have hj : j < sgn.length := by show j < 11; omega
  refine ⟨sgn[j], atI_nat ?_⟩
  rw [sgn_eq, List.getElem?_map, List.getElem?_eq_getElem hj]
  rfl
theorem cut_to (L : List Nat) (a : Nat) : cutS (S L) none (some (a : Int)) = S (L.take a) := by
  unfold cutS
  rw [HT.sIx_none, HT.sIx_nat, S_len, S_list, List.drop_zero, Nat.sub_zero]
  show S _ = S _
  congr 1
  by_cases h : a ≤ L.length
  · rw [Nat.min_eq_left h]
  · rw [Nat.min_eq_right (by omega), List.take_length, List.take_of_length_le (by omega)]
theorem cut_from (L : List Nat) (a : Nat) : cutS (S L) (some (a : Int)) none = S (L.drop a) := by
  unfold cutS
  rw [HT.sIx_none, HT.sIx_nat, S_len, S_list]
  show S _ = S _
  congr 1
  by_cases h : a ≤ L.length
  · rw [Nat.min_eq_left h, List.take_of_length_le (by rw [List.length_drop]; omega)]
  · rw [Nat.min_eq_right (by omega), List.drop_length, List.drop_eq_nil_of_le (by omega), List.take_nil]
def dueD (L : List Nat) : PyData := match scan false 0 [] L with | some x => .int ((L.length - x.length : Nat) : Int) | none => .none
theorem due_dp {H : Hp} (L : List Nat) : Dp K H (dueV L) (dueD L) := by
  unfold dueV dueD
  cases scan false 0 [] L with
  | some x => exact .int _
  | none => exact .non
theorem due_shaped (L : List Nat) : SeqAt.shaped (dueD L) = true := by
  unfold dueD
  cases scan false 0 [] L with
  | some x => rfl
  | none => rfl
theorem due_eqv (L : List Nat) : PyData.eqv (dueD L) (dueD L) = true := by
  unfold dueD
  cases scan false 0 [] L with
  | some x => simp [PyData.eqv]
  | none => rfl
theorem ok_law (T : Tx P K mg) : FnOk P w K mg base CX0 40 T.f_law T.d_law ["_law_script"] (spLaw K) := by
  refine T.F_law.ok sc_law (fun vs H Q E h => ?_) (fun cdv A outer s H vs Q E hr h => ?_)
  · obtain ⟨a, ns, rfl, _⟩ := h
    rfl
  · obtain ⟨sa, ns, rfl, hS, hlen, k⟩ := h
    refine ⟨_, (pss_cons (ps_set (i := 1) sc_law.nd rfl (Or.inl rfl) (pe_call (ok_l_draws T) (hr.mono (by decide)) rfl T.m_l_draws T.F_l_draws.kp T.b_l_draws .nil pass0 (pa_cons (pv 0) pa_nil)))
  (pss_cons (ps_set (i := 2) sc_law.nd rfl (Or.inl rfl) (pe_lst (pa_cons pe_str (pa_cons pe_str (pa_cons pe_str (pa_cons pe_str (pa_cons pe_str (pa_cons pe_str (pa_cons pe_str (pa_cons pe_str (pa_cons pe_str (pa_cons pe_str (pa_cons pe_str pa_nil)))))))))))))
  (pss_cons (ps_for PassesOwn.never rfl (pi_range1 rfl T.n_range (pa_cons pe_int pa_nil)) (pg_name (i := 3) sc_law.nd rfl (Or.inl rfl))
  (pss_cons (ps_set (i := 4) sc_law.nd rfl (Or.inl rfl) (pe_call (ok_l_text T 5) (hr.mono (by decide)) rfl T.m_l_text T.F_l_text.kp T.b_l_text .nil pass0 (pa_cons (pe_call (ok_l_tree T 5) (hr.mono (by decide)) rfl T.m_l_tree T.F_l_tree.kp T.b_l_tree .nil pass0 (pa_cons (pv 1) (pa_cons pe_int pa_nil))) pa_nil)))
  (pss_cons (ps_for PassesOwn.never rfl (pi_range1 rfl T.n_range (pa_cons (pe_op op_add pe_int (pe_call (ok_l_pick T) (hr.mono (by decide)) rfl T.m_l_pick T.F_l_pick.kp T.b_l_pick .nil pass0 (pa_cons (pv 1) (pa_cons pe_int pa_nil)))) pa_nil)) (pg_name (i := 5) sc_law.nd rfl (Or.inl rfl))
  (pss_cons (ps_par (i := 6) (j := 7) (by rfl) sc_law.nd rfl rfl (by decide) rfl rfl (pa_cons (pe_call (ok_l_pick T) (hr.mono (by decide)) rfl T.m_l_pick T.F_l_pick.kp T.b_l_pick .nil pass0 (pa_cons (pv 1) (pa_cons (pe_op op_add (pe_callB call_len_str (by rfl) T.n_len PySem.boot_len (pa_cons (pv 4) pa_nil)) pe_int) pa_nil))) (pa_cons (pe_call (ok_l_pick T) (hr.mono (by decide)) rfl T.m_l_pick T.F_l_pick.kp T.b_l_pick .nil pass0 (pa_cons (pv 1) (pa_cons pe_int pa_nil))) pa_nil)) (by rfl))
  (pss_one (ps_if (pt_cmpR op_eq (pv 7) pe_int (nomark _))
  (pss_one (ps_set (i := 4) sc_law.nd rfl (Or.inl rfl) (pe_op op_add_str (pe_op op_add_str (pe_slice sl_str (pv 4) po_none (po_some (pv 6))) (pe_ix ix_list (pv 2) (pe_call (ok_l_pick T) (hr.mono (by decide)) rfl T.m_l_pick T.F_l_pick.kp T.b_l_pick .nil pass0 (pa_cons (pv 1) (pa_cons pe_int pa_nil))) (fun _ _ => rfl))) (pe_slice sl_str (pv 4) (po_some (pv 6)) po_none))))
  (pss_one (ps_if (pt_cmpR op_eq (pv 7) pe_int (nomark _))
  (pss_one (ps_set (i := 4) sc_law.nd rfl (Or.inl rfl) (pe_op op_add_str (pe_slice sl_str (pv 4) po_none (po_some (pv 6))) (pe_slice sl_str (pv 4) (po_some (pe_op op_add (pv 6) pe_int)) po_none))))
  (pss_one (ps_if (pt_cmpR op_eq (pv 7) pe_int (nomark _))
  (pss_one (ps_set (i := 4) sc_law.nd rfl (Or.inl rfl) (pe_op op_add_str (pe_op op_add_str (pe_slice sl_str (pv 4) po_none (po_some (pv 6))) (pe_ix ix_list (pv 2) (pe_call (ok_l_pick T) (hr.mono (by decide)) rfl T.m_l_pick T.F_l_pick.kp T.b_l_pick .nil pass0 (pa_cons (pv 1) (pa_cons pe_int pa_nil))) (fun _ _ => rfl))) (pe_slice sl_str (pv 4) (po_some (pe_op op_add (pv 6) pe_int)) po_none))))
  (pss_one (ps_set (i := 4) sc_law.nd rfl (Or.inl rfl) (pe_slice sl_str (pv 4) po_none (po_some (pv 6)))))))))))))
  (pss_cons (ps_set (i := 8) sc_law.nd rfl (Or.inl rfl) (pe_call (ok_l_place T) (hr.mono (by decide)) rfl T.m_l_place T.F_l_place.kp T.b_l_place .nil pass0 (pa_cons (pv 4) pa_nil)))
  (pss_cons (ps_if (pt_cmpR (op_neD hr.units) (pe_call (ok_l_told T) (hr.mono (by decide)) rfl T.m_l_told T.F_l_told.kp T.b_l_told .nil pass0 (pa_cons (pv 4) pa_nil)) (pv 8) (nomark _))
  (pss_one (ps_ret pe_bl))
  pss_nil)
  (pss_one (ps_if (PW.pt (pw_and (pt_cmpR op_isN (pv 8) pe_non (nomark _)) (pw_and1 (pt_cmpR op_ne (pe_call (ok_write_tree T 9) (hr.mono (by decide)) rfl T.m_write_tree T.F_write_tree.kp T.b_write_tree .nil pass0 (pa_cons (pe_call (ok_read_tree T 8) (hr.mono (by decide)) rfl T.m_read_tree T.F_read_tree.kp T.b_read_tree .nil passL (pa_cons (pv 4) pa_nil)) pa_nil)) (pv 4) (nomark _)))))
  (pss_one (ps_ret pe_bl))
  pss_nil)))))))
  (pss_one (ps_ret pe_bl))))), ?_⟩
    refine ⟨_, rfl, sa, ns, rfl, hS, fun r q H1 s1 hr0 hrow => ?_⟩
    refine ⟨(by show 11 ≤ sizeLine; decide), fun sg hsg => ?_⟩
    have s2 := same_new (o := .lst sgnV) hsg
    obtain ⟨rys, hrl⟩ := hrow.lst
    have nsr : sg ≠ r := Ne.symm (ne_of_none hrl hsg)
    refine ⟨10, rfl, by decide, by decide, for_range (lo := 0) (n := 10) (fun i σ H' => ∃ tv xv kv av fv dv, σ = [some (.ref sa), some (.ref r), some (.ref sg), tv, xv, kv, av, fv, dv] ∧ Row K H' ⟨r, q, ns⟩ ∧ H' sg = some (.lst sgnV))
      ⟨_, _, _, _, _, _, rfl, hrow.same s2, upd_same⟩ ?_ ?_⟩
    · rintro i σ H2 hi ⟨tv, xv, kv, av, fv, dv, rfl, hrow2, hsg2⟩
      refine ⟨_, rfl, ⟨r, q, ns⟩, 0, rfl, hrow2, by decide, by decide, fun tr H3 t ht hdt hrow3 hb3 him3 => ?_⟩
      have hl3 := tx_len5 (t := t) (by omega)
      refine ⟨tr, t, rfl, him3, ht, by omega, by omega, by omega, fun H4 s4 => ?_⟩
      have hrow4 := hrow3.same s4
      have hsg4 : H4 sg = some (.lst sgnV) := s4 _ _ (hb3 _ _ nsr hsg2)
      refine ⟨_, rfl, ⟨r, q, ns⟩, 2, rfl, by decide, by decide, hrow4, fun nv H5 n0 n2 hrow5 hb5 => ?_⟩
      have hsg5 := hb5 _ _ nsr hsg4
      obtain ⟨hF0, _⟩ := flat_tx t 4 (by omega)
      refine ⟨_, _, rfl, rfl, _, rfl, by omega, by omega, for_range (lo := 0) (n := ((1 : Int) + nv).toNat) (fun j σ H' => ∃ (L : List Nat) (kv av fv : Option V), σ = [some (.ref sa), some (.ref r), some (.ref sg), some (.int (0 + (i : Int))), some (.str (S L)), kv, av, fv, dv] ∧ Row K H' ⟨r, q, ns⟩ ∧ H' sg = some (.lst sgnV) ∧ Flat (4 + 2 * (j : Int)) L ∧ L.length ≤ 2000 + j)
        ⟨t.tx, kv, av, fv, rfl, hrow5, hsg5, by simpa using hF0, hl3⟩ ?_ ?_⟩
      · rintro j σ H6 hj ⟨L, kv, av, fv, rfl, hrow6, hsg6, hF, hL⟩
        have hj2 : j < 2 := by omega
        have zl : (S L).length = L.length := S_len L
        refine ⟨_, rfl, _, rfl, _, rfl, sz1 (by omega), _, _, rfl, rfl, ⟨r, q, ns⟩, _, rfl, by omega, by omega, hrow6, fun at_ H7 a0 a1 hrow7 hb7 => ?_⟩
        have hsg7 := hb7 _ _ nsr hsg6
        refine ⟨_, rfl, ⟨r, q, ns⟩, 4, rfl, by decide, by decide, hrow7, fun tf H8 t0 t4 hrow8 hb8 => ⟨_, _, rfl, ?_⟩⟩
        have hsg8 := hb8 _ _ nsr hsg7
        rw [zl] at a1
        obtain ⟨a, rfl⟩ : ∃ a : Nat, at_ = (a : Int) := ⟨at_.toNat, by omega⟩
        have ha : a ≤ L.length := by omega
        have e2 : (4 : Int) + 2 * ((j + 1 : Nat) : Int) = (4 + 2 * (j : Int)) + 2 := by omega
        -- the sign drawn
        have done : ∀ (L' : List Nat) (H9 : Hp), Row K H9 ⟨r, q, ns⟩ → H9 sg = some (.lst sgnV) → Flat (4 + 2 * (j : Int) + 2) L' → L'.length ≤ L.length + 1 → ∃ (L'' : List Nat) (kv av fv : Option V), ([some (.ref sa), some (.ref r), some (.ref sg), some (.int (0 + (i : Int))), some (.str (S L')), some (.int (0 + (j : Int))), some (.int (a : Int)), some (.int tf), dv] : List (Option V)) = [some (.ref sa), some (.ref r), some (.ref sg), some (.int (0 + (i : Int))), some (.str (S L'')), kv, av, fv, dv] ∧ Row K H9 ⟨r, q, ns⟩ ∧ H9 sg = some (.lst sgnV) ∧ Flat (4 + 2 * ((j + 1 : Nat) : Int)) L'' ∧ L''.length ≤ 2000 + (j + 1) :=
          fun L' H9 h1 h2 h3 h4 => ⟨L', _, _, _, rfl, h1, h2, by rw [e2]; exact h3, by omega⟩
        refine ⟨_, rfl, rfl, _, rfl, ?_⟩
        refine ite2 (fun c0 => ?_) (fun c0 => ?_)
        · refine ⟨_, rfl, _, rfl, _, rfl, _, rfl, sz1 (by omega), ?_⟩
          rw [cut_to]
          refine ⟨_, rfl, _, rfl, ⟨r, q, ns⟩, 11, rfl, by decide, by decide, hrow8, fun v H9 v0 v11 hrow9 hb9 => ?_⟩
          have hsg9 := hb9 _ _ nsr hsg8
          obtain ⟨c, hc⟩ := sgn_at v0 v11
          refine ⟨sg, _, _, _, rfl, rfl, SqL.of hsg9, hc, ?_⟩
          refine ⟨_, _, rfl, rfl, sz1 (by rw [S_len, S_len, List.length_take, List.length_singleton]; omega), ?_⟩
          rw [S_app]
          refine ⟨_, rfl, _, rfl, _, rfl, _, rfl, sz1 (by omega), ?_⟩
          rw [cut_from]
          refine ⟨_, _, rfl, rfl, sz1 (by rw [S_len, S_len, List.length_append, List.length_take, List.length_singleton, List.length_drop]; omega), ?_⟩
          rw [S_app]
          exact done _ H9 hrow9 hsg9 (hF.edit [c] ha (Nat.le_refl _) (Nat.le_succ _) (by simp)) (by rw [List.length_append, List.length_append, List.length_take, List.length_singleton, List.length_drop]; omega)
        · refine ⟨_, rfl, rfl, _, rfl, ?_⟩
          have ea : ((a : Nat) : Int) + 1 = ((a + 1 : Nat) : Int) := by omega
          refine ite2 (fun c1 => ?_) (fun c1 => ?_)
          · refine ⟨_, rfl, _, rfl, _, rfl, _, rfl, sz1 (by omega), ?_⟩
            rw [cut_to]
            refine ⟨_, rfl, _, rfl, _, _, rfl, rfl, _, rfl, _, rfl, sz1 (by omega), ?_⟩
            rw [ea, cut_from]
            refine ⟨_, _, rfl, rfl, sz1 (by rw [S_len, S_len, List.length_take, List.length_drop]; omega), ?_⟩
            rw [S_app]
            have f := hF.edit [] ha (Nat.le_succ a) (Nat.le_refl _) (by simp)
            rw [List.append_nil] at f
            exact done _ H8 hrow8 hsg8 f (by rw [List.length_append, List.length_take, List.length_drop]; omega)
          · refine ⟨_, rfl, rfl, _, rfl, ?_⟩
            refine ite2 (fun c2 => ?_) (fun c2 => ?_)
            · refine ⟨_, rfl, _, rfl, _, rfl, _, rfl, sz1 (by omega), ?_⟩
              rw [cut_to]
              refine ⟨_, rfl, _, rfl, ⟨r, q, ns⟩, 11, rfl, by decide, by decide, hrow8, fun v H9 v0 v11 hrow9 hb9 => ?_⟩
              have hsg9 := hb9 _ _ nsr hsg8
              obtain ⟨c, hc⟩ := sgn_at v0 v11
              refine ⟨sg, _, _, _, rfl, rfl, SqL.of hsg9, hc, ?_⟩
              refine ⟨_, _, rfl, rfl, sz1 (by rw [S_len, S_len, List.length_take, List.length_singleton]; omega), ?_⟩
              rw [S_app]
              refine ⟨_, rfl, _, rfl, _, _, rfl, rfl, _, rfl, _, rfl, sz1 (by omega), ?_⟩
              rw [ea, cut_from]
              refine ⟨_, _, rfl, rfl, sz1 (by rw [S_len, S_len, List.length_append, List.length_take, List.length_singleton, List.length_drop]; omega), ?_⟩
              rw [S_app]
              exact done _ H9 hrow9 hsg9 (hF.edit [c] ha (Nat.le_succ a) (Nat.le_refl _) (by simp)) (by rw [List.length_append, List.length_append, List.length_take, List.length_singleton, List.length_drop]; omega)
            · refine ⟨_, rfl, _, rfl, _, rfl, _, rfl, sz1 (by omega), ?_⟩
              rw [cut_to]
              exact done _ H8 hrow8 hsg8 ((hF.cut a).mono (by omega)) (by rw [List.length_take]; omega)
      · rintro σ H6 ⟨L, kv, av, fv, rfl, hrow6, hsg6, hF, hL⟩
        have hF8 : Flat (8 : Nat) L := hF.mono (by have : (((1 : Int) + nv).toNat : Int) ≤ 2 := by omega
                                                   omega)
        have hL8 : L.length ≤ 2002 := by omega
        refine ⟨_, rfl, L, rfl, by omega, fun H7 s7 => ?_⟩
        refine ⟨_, rfl, L, rfl, hF8, by omega, fun H8 s8 => ?_⟩
        refine ⟨_, rfl, dueD L, dueD L, due_dp L, due_dp L, due_shaped L, due_shaped L, _, rfl, ?_⟩
        rw [due_eqv]
        refine iteF ?_
        have fin : ∀ H9, Same H6 H9 → ∃ tv xv kv' av' fv' dv', ([some (.ref sa), some (.ref r), some (.ref sg), some (.int (0 + (i : Int))), some (.str (S L)), kv, av, fv, some (dueV L)] : List (Option V)) = [some (.ref sa), some (.ref r), some (.ref sg), tv, xv, kv', av', fv', dv'] ∧ Row K H9 ⟨r, q, ns⟩ ∧ H9 sg = some (.lst sgnV) :=
          fun H9 s => ⟨_, _, _, _, _, _, rfl, hrow6.same s, s _ _ hsg6⟩
        refine ⟨_, rfl, rfl, _, rfl, ?_⟩
        cases hs : scan false 0 [] L with
        | some x =>
          refine iteF ?_
          have f := fin _ (s7.trans s8)
          unfold dueV at f
          rw [hs] at f
          exact f
        | none =>
          refine iteT ?_
          refine ⟨_, rfl, L, rfl, hF8, by omega, ?_⟩
          rw [hs]
          dsimp only
          intro v H9 t9 s9 him9 hd9 hdp9 htx9
          refine ⟨v, t9, rfl, him9, hd9, hdp9, by omega, by rw [htx9]; omega, fun H10 s10 => ?_⟩
          rw [htx9]
          refine ⟨_, rfl, rfl, _, rfl, ?_⟩
          rw [decide_eq_true rfl]
          refine iteF ?_
          have f := fin _ (((s7.trans s8).trans s9).trans s10)
          unfold dueV at f
          rw [hs] at f
          exact f
    · rintro σ H2 ⟨tv, xv, kv, av, fv, dv, rfl, hrow2, hsg2⟩
      exact k _
end
end Toy


namespace Toy
open PySem L2 Cw
theorem all_mk {l : PySem.W.OpenLaw} {w : World} {K : PySem.W.Frag} {h : Heap} {mg : Str → Option Value} {fa : Addr} (X : K.In h) (G : h.Ns mainGlobals mg) (hfa : mg "law" = some (.ref fa))
    {t_FILE : Tok}
    {a_NAMES : Addr}
    {od_NAMES : Option Addr}
    {nn_NAMES : Nat}
    {sl_NAMES : Array (Option Value)}
    {tk0_NAMES tk1_NAMES tk2_NAMES : Tok}
    {C_WalkError : Addr}
    {C_Reader : Addr}
    {f_write_tree : Addr}
    {od_write_tree an_write_tree : Option Addr}
    {sl_write_tree : Array (Option Value)}
    {oc_write_tree kV_write_tree dc_write_tree pm_write_tree cd_write_tree ct_write_tree : Value}
    {f_Reader_init : Addr}
    {od_Reader_init an_Reader_init : Option Addr}
    {sl_Reader_init : Array (Option Value)}
    {oc_Reader_init kV_Reader_init dc_Reader_init pm_Reader_init cd_Reader_init ct_Reader_init : Value}
    {f_Reader_sign : Addr}
    {od_Reader_sign an_Reader_sign : Option Addr}
    {sl_Reader_sign : Array (Option Value)}
    {oc_Reader_sign kV_Reader_sign dc_Reader_sign pm_Reader_sign cd_Reader_sign ct_Reader_sign : Value}
    {f_Reader_thing : Addr}
    {od_Reader_thing an_Reader_thing : Option Addr}
    {sl_Reader_thing : Array (Option Value)}
    {oc_Reader_thing kV_Reader_thing dc_Reader_thing pm_Reader_thing cd_Reader_thing ct_Reader_thing : Value}
    {f_Reader_content : Addr}
    {od_Reader_content an_Reader_content : Option Addr}
    {sl_Reader_content : Array (Option Value)}
    {oc_Reader_content kV_Reader_content dc_Reader_content pm_Reader_content cd_Reader_content ct_Reader_content : Value}
    {f_read_tree : Addr}
    {od_read_tree an_read_tree : Option Addr}
    {sl_read_tree : Array (Option Value)}
    {oc_read_tree kV_read_tree dc_read_tree pm_read_tree cd_read_tree ct_read_tree : Value}
    {f_l_draws : Addr}
    {od_l_draws an_l_draws : Option Addr}
    {sl_l_draws : Array (Option Value)}
    {oc_l_draws kV_l_draws dc_l_draws pm_l_draws cd_l_draws ct_l_draws : Value}
    {f_l_pick : Addr}
    {od_l_pick an_l_pick : Option Addr}
    {sl_l_pick : Array (Option Value)}
    {oc_l_pick kV_l_pick dc_l_pick pm_l_pick cd_l_pick ct_l_pick : Value}
    {f_l_tree : Addr}
    {od_l_tree an_l_tree : Option Addr}
    {sl_l_tree : Array (Option Value)}
    {oc_l_tree kV_l_tree dc_l_tree pm_l_tree cd_l_tree ct_l_tree : Value}
    {f_l_text : Addr}
    {od_l_text an_l_text : Option Addr}
    {sl_l_text : Array (Option Value)}
    {oc_l_text kV_l_text dc_l_text pm_l_text cd_l_text ct_l_text : Value}
    {f_l_place : Addr}
    {od_l_place an_l_place : Option Addr}
    {sl_l_place : Array (Option Value)}
    {oc_l_place kV_l_place dc_l_place pm_l_place cd_l_place ct_l_place : Value}
    {f_l_told : Addr}
    {od_l_told an_l_told : Option Addr}
    {sl_l_told : Array (Option Value)}
    {oc_l_told kV_l_told dc_l_told pm_l_told cd_l_told ct_l_told : Value}
    {f_law : Addr}
    {od_law an_law : Option Addr}
    {sl_law : Array (Option Value)}
    {oc_law kV_law dc_law pm_law cd_law ct_law : Value}
    {C_BadText f_BadText_init cc_BadText cd_BadText N_BadText : Addr}
    {nm_BadText qn_BadText : Str}
    {bs_BadText sb_BadText bm_BadText : List Value}
    {sn_BadText : List Str}
    {ab_BadText : Bool}
    {co_BadText : Option Bool}
    {dd_BadText od_BadText_init an_BadText_init cld_BadText cdd_BadText : Option Addr}
    {k0_BadText k1_BadText k2_BadText k3_BadText k5_BadText : Option Value}
    {oc_BadText_init kV_BadText_init dc_BadText_init pm_BadText_init ct_BadText_init : Value}
    {cl_BadText ccl_BadText : Value}
    {sl_BadText_init csl_BadText ccs_BadText : Array (Option Value)}
    {vs_BadText : Array Value}
    {fi_BadText : Str}
    {tf_BadText : Tok}
    (zn_len : PySem.W.nsIn K mainGlobals "len" = some none)
    (zn_int : PySem.W.nsIn K mainGlobals "int" = some none)
    (zn_list : PySem.W.nsIn K mainGlobals "list" = some none)
    (zn_tuple : PySem.W.nsIn K mainGlobals "tuple" = some none)
    (zn_range : PySem.W.nsIn K mainGlobals "range" = some none)
    (zn_isinstance : PySem.W.nsIn K mainGlobals "isinstance" = some none)
    (gm_FILE : PySem.W.nsIn K mainGlobals "FILE" = some (some (.str "file" t_FILE)))
    (gm_NAMES : PySem.W.nsIn K mainGlobals "NAMES" = some (some (.ref a_NAMES)))
    (lk_NAMES : K.lookup a_NAMES = some ⟨.type "tuple", od_NAMES, .seq #[.str "a" tk0_NAMES, .str "b" tk1_NAMES, .str "c" tk2_NAMES] nn_NAMES, sl_NAMES⟩)
    (gm_WalkError : PySem.W.nsIn K mainGlobals "WalkError" = some (some (.ref C_WalkError)))
    (gm_Reader : PySem.W.nsIn K mainGlobals "Reader" = some (some (.ref C_Reader)))
    (pg_Reader : PySem.W.plainGet K C_Reader Str.empty = true)
    (hd_Reader : PySem.W.hasDictIn K C_Reader = true)
    (po_Reader : PySem.W.plainOver K C_Reader = true)
    (sa_Reader : PySem.W.findIn K (.ref C_Reader) "__setattr__" = some (some (.builtin "object.__setattr__")))
    (mk_Reader : PySem.W.makesIn K C_Reader = true)
    (kc_Reader : PySem.W.keepIn K (.ref C_Reader) = true)
    (na_Reader_text : PySem.W.findIn K (.ref C_Reader) "text" = some none)
    (na_Reader_spot : PySem.W.findIn K (.ref C_Reader) "spot" = some none)
    (gf_write_tree : PySem.W.nsIn K mainGlobals "write_tree" = some (some (.ref f_write_tree)))
    (lf_write_tree : K.lookup f_write_tree = some ⟨oc_write_tree, od_write_tree, .func (PySem.W.fnOf "write_tree" "write_tree" (defArgs s_write_tree) (defBody s_write_tree) (defScope s_write_tree) .none kV_write_tree dc_write_tree pm_write_tree an_write_tree cd_write_tree ct_write_tree), sl_write_tree⟩)
    (cf_write_tree : PySem.W.codeIn K cd_write_tree "write_tree" = true)
    (kf_write_tree : PySem.W.keepIn K (.ref f_write_tree) = true)
    (gf_Reader_init : PySem.W.findIn K (.ref C_Reader) "__init__" = some (some (.ref f_Reader_init)))
    (if_Reader_init : PySem.W.isFn K (.ref f_Reader_init) = true)
    (lf_Reader_init : K.lookup f_Reader_init = some ⟨oc_Reader_init, od_Reader_init, .func (PySem.W.fnOf "__init__" "Reader.__init__" (defArgs s_Reader_init) (defBody s_Reader_init) (defScope s_Reader_init) .none kV_Reader_init dc_Reader_init pm_Reader_init an_Reader_init cd_Reader_init ct_Reader_init), sl_Reader_init⟩)
    (cf_Reader_init : PySem.W.codeIn K cd_Reader_init "Reader.__init__" = true)
    (kf_Reader_init : PySem.W.keepIn K (.ref f_Reader_init) = true)
    (gf_Reader_sign : PySem.W.findIn K (.ref C_Reader) "sign" = some (some (.ref f_Reader_sign)))
    (if_Reader_sign : PySem.W.isFn K (.ref f_Reader_sign) = true)
    (lf_Reader_sign : K.lookup f_Reader_sign = some ⟨oc_Reader_sign, od_Reader_sign, .func (PySem.W.fnOf "sign" "Reader.sign" (defArgs s_Reader_sign) (defBody s_Reader_sign) (defScope s_Reader_sign) .none kV_Reader_sign dc_Reader_sign pm_Reader_sign an_Reader_sign cd_Reader_sign ct_Reader_sign), sl_Reader_sign⟩)
    (cf_Reader_sign : PySem.W.codeIn K cd_Reader_sign "Reader.sign" = true)
    (kf_Reader_sign : PySem.W.keepIn K (.ref f_Reader_sign) = true)
    (gf_Reader_thing : PySem.W.findIn K (.ref C_Reader) "thing" = some (some (.ref f_Reader_thing)))
    (if_Reader_thing : PySem.W.isFn K (.ref f_Reader_thing) = true)
    (lf_Reader_thing : K.lookup f_Reader_thing = some ⟨oc_Reader_thing, od_Reader_thing, .func (PySem.W.fnOf "thing" "Reader.thing" (defArgs s_Reader_thing) (defBody s_Reader_thing) (defScope s_Reader_thing) .none kV_Reader_thing dc_Reader_thing pm_Reader_thing an_Reader_thing cd_Reader_thing ct_Reader_thing), sl_Reader_thing⟩)
    (cf_Reader_thing : PySem.W.codeIn K cd_Reader_thing "Reader.thing" = true)
    (kf_Reader_thing : PySem.W.keepIn K (.ref f_Reader_thing) = true)
    (gf_Reader_content : PySem.W.findIn K (.ref C_Reader) "content" = some (some (.ref f_Reader_content)))
    (if_Reader_content : PySem.W.isFn K (.ref f_Reader_content) = true)
    (lf_Reader_content : K.lookup f_Reader_content = some ⟨oc_Reader_content, od_Reader_content, .func (PySem.W.fnOf "content" "Reader.content" (defArgs s_Reader_content) (defBody s_Reader_content) (defScope s_Reader_content) .none kV_Reader_content dc_Reader_content pm_Reader_content an_Reader_content cd_Reader_content ct_Reader_content), sl_Reader_content⟩)
    (cf_Reader_content : PySem.W.codeIn K cd_Reader_content "Reader.content" = true)
    (kf_Reader_content : PySem.W.keepIn K (.ref f_Reader_content) = true)
    (gf_read_tree : PySem.W.nsIn K mainGlobals "read_tree" = some (some (.ref f_read_tree)))
    (lf_read_tree : K.lookup f_read_tree = some ⟨oc_read_tree, od_read_tree, .func (PySem.W.fnOf "read_tree" "read_tree" (defArgs s_read_tree) (defBody s_read_tree) (defScope s_read_tree) .none kV_read_tree dc_read_tree pm_read_tree an_read_tree cd_read_tree ct_read_tree), sl_read_tree⟩)
    (cf_read_tree : PySem.W.codeIn K cd_read_tree "read_tree" = true)
    (kf_read_tree : PySem.W.keepIn K (.ref f_read_tree) = true)
    (gf_l_draws : PySem.W.nsIn K mainGlobals "_law_draws" = some (some (.ref f_l_draws)))
    (lf_l_draws : K.lookup f_l_draws = some ⟨oc_l_draws, od_l_draws, .func (PySem.W.fnOf "_law_draws" "_law_draws" (defArgs s_l_draws) (defBody s_l_draws) (defScope s_l_draws) .none kV_l_draws dc_l_draws pm_l_draws an_l_draws cd_l_draws ct_l_draws), sl_l_draws⟩)
    (cf_l_draws : PySem.W.codeIn K cd_l_draws "_law_draws" = true)
    (kf_l_draws : PySem.W.keepIn K (.ref f_l_draws) = true)
    (gf_l_pick : PySem.W.nsIn K mainGlobals "_law_pick" = some (some (.ref f_l_pick)))
    (lf_l_pick : K.lookup f_l_pick = some ⟨oc_l_pick, od_l_pick, .func (PySem.W.fnOf "_law_pick" "_law_pick" (defArgs s_l_pick) (defBody s_l_pick) (defScope s_l_pick) .none kV_l_pick dc_l_pick pm_l_pick an_l_pick cd_l_pick ct_l_pick), sl_l_pick⟩)
    (cf_l_pick : PySem.W.codeIn K cd_l_pick "_law_pick" = true)
    (kf_l_pick : PySem.W.keepIn K (.ref f_l_pick) = true)
    (gf_l_tree : PySem.W.nsIn K mainGlobals "_law_tree" = some (some (.ref f_l_tree)))
    (lf_l_tree : K.lookup f_l_tree = some ⟨oc_l_tree, od_l_tree, .func (PySem.W.fnOf "_law_tree" "_law_tree" (defArgs s_l_tree) (defBody s_l_tree) (defScope s_l_tree) .none kV_l_tree dc_l_tree pm_l_tree an_l_tree cd_l_tree ct_l_tree), sl_l_tree⟩)
    (cf_l_tree : PySem.W.codeIn K cd_l_tree "_law_tree" = true)
    (kf_l_tree : PySem.W.keepIn K (.ref f_l_tree) = true)
    (gf_l_text : PySem.W.nsIn K mainGlobals "_law_text" = some (some (.ref f_l_text)))
    (lf_l_text : K.lookup f_l_text = some ⟨oc_l_text, od_l_text, .func (PySem.W.fnOf "_law_text" "_law_text" (defArgs s_l_text) (defBody s_l_text) (defScope s_l_text) .none kV_l_text dc_l_text pm_l_text an_l_text cd_l_text ct_l_text), sl_l_text⟩)
    (cf_l_text : PySem.W.codeIn K cd_l_text "_law_text" = true)
    (kf_l_text : PySem.W.keepIn K (.ref f_l_text) = true)
    (gf_l_place : PySem.W.nsIn K mainGlobals "_law_place" = some (some (.ref f_l_place)))
    (lf_l_place : K.lookup f_l_place = some ⟨oc_l_place, od_l_place, .func (PySem.W.fnOf "_law_place" "_law_place" (defArgs s_l_place) (defBody s_l_place) (defScope s_l_place) .none kV_l_place dc_l_place pm_l_place an_l_place cd_l_place ct_l_place), sl_l_place⟩)
    (cf_l_place : PySem.W.codeIn K cd_l_place "_law_place" = true)
    (kf_l_place : PySem.W.keepIn K (.ref f_l_place) = true)
    (gf_l_told : PySem.W.nsIn K mainGlobals "_law_told" = some (some (.ref f_l_told)))
    (lf_l_told : K.lookup f_l_told = some ⟨oc_l_told, od_l_told, .func (PySem.W.fnOf "_law_told" "_law_told" (defArgs s_l_told) (defBody s_l_told) (defScope s_l_told) .none kV_l_told dc_l_told pm_l_told an_l_told cd_l_told ct_l_told), sl_l_told⟩)
    (cf_l_told : PySem.W.codeIn K cd_l_told "_law_told" = true)
    (kf_l_told : PySem.W.keepIn K (.ref f_l_told) = true)
    (gf_law : PySem.W.nsIn K mainGlobals "law" = some (some (.ref f_law)))
    (lf_law : K.lookup f_law = some ⟨oc_law, od_law, .func (PySem.W.fnOf "law" "law" (defArgs s_law) (defBody s_law) (defScope s_law) .none kV_law dc_law pm_law an_law cd_law ct_law), sl_law⟩)
    (cf_law : PySem.W.codeIn K cd_law "law" = true)
    (kf_law : PySem.W.keepIn K (.ref f_law) = true)
    (gm_BadText : PySem.W.nsIn K mainGlobals "BadText" = some (some (.ref C_BadText)))
    (xl_BadText : K.lookup C_BadText = some (excClassObj nm_BadText qn_BadText C_BadText N_BadText bs_BadText bm_BadText true sn_BadText sb_BadText ab_BadText co_BadText dd_BadText k0_BadText k1_BadText k2_BadText k3_BadText k5_BadText "ValueError.__new__"))
    (rv_BadText : PySem.HandSPX.refsVE bm_BadText = true)
    (sa_BadText : PySem.W.findIn K (.ref C_BadText) "__setattr__" = some (some (.builtin "object.__setattr__")))
    (gi_BadText : PySem.W.findIn K (.ref C_BadText) "__init__" = some (some (.ref f_BadText_init)))
    (ti_BadText : PySem.W.typeIn K (.ref f_BadText_init) = some (.type "function"))
    (kc_BadText : PySem.W.keepIn K (.ref C_BadText) = true)
    (ex_BadText : PySem.W.subIn K (.ref C_BadText) (.type "BaseException") = some true)
    (ve_BadText : PySem.W.subIn K (.ref C_BadText) (.type "ValueError") = some true)
    (ty_BadText : PySem.W.typeIn K (.ref C_BadText) = some (.type "type"))
    (lf_BadText : K.lookup f_BadText_init = some ⟨oc_BadText_init, od_BadText_init, .func (PySem.W.fnX "__init__" "BadText.__init__" (defArgs s_BadText_init) (defBody s_BadText_init) (defScope s_BadText_init) [("__class__", cc_BadText)] .none kV_BadText_init dc_BadText_init pm_BadText_init an_BadText_init (.ref cd_BadText) ct_BadText_init), sl_BadText_init⟩)
    (ce_BadText : K.lookup cc_BadText = some ⟨cl_BadText, cld_BadText, .cell (some (.ref C_BadText)), csl_BadText⟩)
    (co1_BadText : K.lookup cd_BadText = some ⟨ccl_BadText, cdd_BadText, .fields vs_BadText, ccs_BadText⟩)
    (co2_BadText : vs_BadText[2]? = some (.str fi_BadText tf_BadText))
    (co3_BadText : ((l.prog.main.file : Str) == fi_BadText) = true)
    (sp_BadText : PySem.W.ks_superIn K C_BadText C_BadText "__init__" = some (some (.builtin "ValueError.__init__")))
    (th_ : PySem.W.nsIn K cStatics "thirdparty.any" = some none)
    (su_ : PySem.W.nsIn K mainGlobals "super" = some none)
    (tp_ : (l.prog.main.scope.names.lookup ("super" : Str)).isSome = false)
    (cf_BadText : PySem.W.codeIn K (.ref cd_BadText) "BadText.__init__" = true)
    (ga_BadText : PySem.W.findIn K (.ref C_BadText) "__getattribute__" = some (some (.builtin "BaseException.__getattribute__")))
    (gg_BadText : PySem.W.findIn K (.ref C_BadText) "__getattr__" = some none)
    (hd_BadText : PySem.W.hasDictIn K C_BadText = true)
    (ha_BadText : PySem.W.findIn K (.ref C_BadText) "__class__" = some (some (.builtin "object.__class__")))
    (hm_BadText : PySem.W.mroIn K C_BadText (.type "object") = some true)
    (hn_ : PySem.W.specialIn K (.builtin "object.__class__") "__get__" = some (some (.builtin "getset_descriptor.__get__")))
    (ht_ : PySem.W.takesIn K (.builtin "object.__class__") = some true)
    (te_BadText : PySem.W.exmOne K (.ref C_BadText) (.ref C_BadText) = some true)
    (nf_BadText_place : PySem.W.findIn K (.ref C_BadText) "place" = some none)
    (zz_kw_BadText : PySem.W.kitOne K (.ref C_BadText) (.ref C_WalkError) = some true)
    : ∃ fd : FuncData, (∀ (s : Shared) (v : Value), BindsTo s fd ⟨[v], []⟩ [("_law_script", v)]) ∧ ∀ base : Heap, K.In base → base.Ns mainGlobals mg → FnOk l.prog w K mg base CX0 40 fa fd ["_law_script"] (spLaw K) := by
  have e := hfa.symm.trans (PySem.W.mg_of X G gf_law)
  have e2 : fa = f_law := by injection (Option.some.inj e)
  have F_write_tree := fun_mk (st := s_write_tree) lf_write_tree cf_write_tree kf_write_tree
  have b_write_tree := F_write_tree.binds (ps := ["tree"]) fun _ _ _ _ _ _ us hl => match us, hl with | [_], _ => rfl
  have F_Reader_init := fun_mk (st := s_Reader_init) lf_Reader_init cf_Reader_init kf_Reader_init
  have b_Reader_init := F_Reader_init.binds (ps := ["self", "text"]) fun _ _ _ _ _ _ us hl => match us, hl with | [_, _], _ => rfl
  have F_Reader_sign := fun_mk (st := s_Reader_sign) lf_Reader_sign cf_Reader_sign kf_Reader_sign
  have b_Reader_sign := F_Reader_sign.binds (ps := ["self"]) fun _ _ _ _ _ _ us hl => match us, hl with | [_], _ => rfl
  have F_Reader_thing := fun_mk (st := s_Reader_thing) lf_Reader_thing cf_Reader_thing kf_Reader_thing
  have b_Reader_thing := F_Reader_thing.binds (ps := ["self"]) fun _ _ _ _ _ _ us hl => match us, hl with | [_], _ => rfl
  have F_Reader_content := fun_mk (st := s_Reader_content) lf_Reader_content cf_Reader_content kf_Reader_content
  have b_Reader_content := F_Reader_content.binds (ps := ["self"]) fun _ _ _ _ _ _ us hl => match us, hl with | [_], _ => rfl
  have F_read_tree := fun_mk (st := s_read_tree) lf_read_tree cf_read_tree kf_read_tree
  have b_read_tree := F_read_tree.binds (ps := ["text"]) fun _ _ _ _ _ _ us hl => match us, hl with | [_], _ => rfl
  have F_l_draws := fun_mk (st := s_l_draws) lf_l_draws cf_l_draws kf_l_draws
  have b_l_draws := F_l_draws.binds (ps := ["_law_script"]) fun _ _ _ _ _ _ us hl => match us, hl with | [_], _ => rfl
  have F_l_pick := fun_mk (st := s_l_pick) lf_l_pick cf_l_pick kf_l_pick
  have b_l_pick := F_l_pick.binds (ps := ["_law_row", "_law_many"]) fun _ _ _ _ _ _ us hl => match us, hl with | [_, _], _ => rfl
  have F_l_tree := fun_mk (st := s_l_tree) lf_l_tree cf_l_tree kf_l_tree
  have b_l_tree := F_l_tree.binds (ps := ["_law_row", "_law_deep"]) fun _ _ _ _ _ _ us hl => match us, hl with | [_, _], _ => rfl
  have F_l_text := fun_mk (st := s_l_text) lf_l_text cf_l_text kf_l_text
  have b_l_text := F_l_text.binds (ps := ["_law_tree_here"]) fun _ _ _ _ _ _ us hl => match us, hl with | [_], _ => rfl
  have F_l_place := fun_mk (st := s_l_place) lf_l_place cf_l_place kf_l_place
  have b_l_place := F_l_place.binds (ps := ["_law_text_here"]) fun _ _ _ _ _ _ us hl => match us, hl with | [_], _ => rfl
  have F_l_told := fun_mk (st := s_l_told) lf_l_told cf_l_told kf_l_told
  have b_l_told := F_l_told.binds (ps := ["_law_text_here"]) fun _ _ _ _ _ _ us hl => match us, hl with | [_], _ => rfl
  have F_law := fun_mk (st := s_law) lf_law cf_law kf_law
  have b_law := F_law.binds (ps := ["_law_script"]) fun _ _ _ _ _ _ us hl => match us, hl with | [_], _ => rfl
  refine ⟨PySem.W.fnOf "law" "law" (defArgs s_law) (defBody s_law) (defScope s_law) .none kV_law dc_law pm_law an_law cd_law ct_law, fun s v => .of_eq rfl, fun base _ _ => ?_⟩
  rw [e2]
  exact ok_law (w := w) (base := base) (T := {
    n_len := PySem.W.mg_none_of X G zn_len,
    n_int := PySem.W.mg_none_of X G zn_int,
    n_list := PySem.W.mg_none_of X G zn_list,
    n_tuple := PySem.W.mg_none_of X G zn_tuple,
    n_range := PySem.W.mg_none_of X G zn_range,
    n_isinstance := PySem.W.mg_none_of X G zn_isinstance,
    t_FILE := t_FILE,
    m_FILE := PySem.W.mg_of X G gm_FILE,
    a_NAMES := a_NAMES,
    m_NAMES := PySem.W.mg_of X G gm_NAMES,
    c_NAMES := fun H => .inr ⟨_, _, _, lk_NAMES, rfl, rfl, (by show 3 ≤ sizeLine; decide), .cons ⟨_, rfl⟩ (.cons ⟨_, rfl⟩ (.cons ⟨_, rfl⟩ (.nil)))⟩,
    C_WalkError := C_WalkError,
    m_WalkError := PySem.W.mg_of X G gm_WalkError,
    C_Reader := C_Reader,
    c_Reader := ⟨pg_Reader, hd_Reader, po_Reader, sa_Reader⟩,
    m_Reader := PySem.W.mg_of X G gm_Reader,
    A_Reader_text := na_Reader_text,
    A_Reader_spot := na_Reader_spot,
    f_write_tree := f_write_tree,
    d_write_tree := _,
    F_write_tree := F_write_tree,
    b_write_tree := b_write_tree,
    m_write_tree := PySem.W.mg_of X G gf_write_tree,
    f_Reader_init := f_Reader_init,
    d_Reader_init := _,
    F_Reader_init := F_Reader_init,
    b_Reader_init := b_Reader_init,
    K_Reader := ⟨mk_Reader, gf_Reader_init, if_Reader_init, kc_Reader⟩,
    f_Reader_sign := f_Reader_sign,
    d_Reader_sign := _,
    F_Reader_sign := F_Reader_sign,
    b_Reader_sign := b_Reader_sign,
    M_Reader_sign := ⟨gf_Reader_sign, if_Reader_sign, kf_Reader_sign⟩,
    f_Reader_thing := f_Reader_thing,
    d_Reader_thing := _,
    F_Reader_thing := F_Reader_thing,
    b_Reader_thing := b_Reader_thing,
    M_Reader_thing := ⟨gf_Reader_thing, if_Reader_thing, kf_Reader_thing⟩,
    f_Reader_content := f_Reader_content,
    d_Reader_content := _,
    F_Reader_content := F_Reader_content,
    b_Reader_content := b_Reader_content,
    M_Reader_content := ⟨gf_Reader_content, if_Reader_content, kf_Reader_content⟩,
    f_read_tree := f_read_tree,
    d_read_tree := _,
    F_read_tree := F_read_tree,
    b_read_tree := b_read_tree,
    m_read_tree := PySem.W.mg_of X G gf_read_tree,
    f_l_draws := f_l_draws,
    d_l_draws := _,
    F_l_draws := F_l_draws,
    b_l_draws := b_l_draws,
    m_l_draws := PySem.W.mg_of X G gf_l_draws,
    f_l_pick := f_l_pick,
    d_l_pick := _,
    F_l_pick := F_l_pick,
    b_l_pick := b_l_pick,
    m_l_pick := PySem.W.mg_of X G gf_l_pick,
    f_l_tree := f_l_tree,
    d_l_tree := _,
    F_l_tree := F_l_tree,
    b_l_tree := b_l_tree,
    m_l_tree := PySem.W.mg_of X G gf_l_tree,
    f_l_text := f_l_text,
    d_l_text := _,
    F_l_text := F_l_text,
    b_l_text := b_l_text,
    m_l_text := PySem.W.mg_of X G gf_l_text,
    f_l_place := f_l_place,
    d_l_place := _,
    F_l_place := F_l_place,
    b_l_place := b_l_place,
    m_l_place := PySem.W.mg_of X G gf_l_place,
    f_l_told := f_l_told,
    d_l_told := _,
    F_l_told := F_l_told,
    b_l_told := b_l_told,
    m_l_told := PySem.W.mg_of X G gf_l_told,
    f_law := f_law,
    d_law := _,
    F_law := F_law,
    b_law := b_law,
    m_law := PySem.W.mg_of X G gf_law,
    C_BadText := C_BadText,
    m_BadText := PySem.W.mg_of X G gm_BadText,
    f_BadText_init := f_BadText_init,
    cc_BadText := cc_BadText,
    cd_BadText := cd_BadText,
    X_BadText := { cls := ⟨_, _, _, _, _, _, _, _, _, _, _, _, _, _, _, xl_BadText, rv_BadText⟩, sa := sa_BadText, iC := gi_BadText, tI := ti_BadText, kC := kc_BadText, exC := ex_BadText, veC := ve_BadText, tyC := ty_BadText, cell := ⟨_, _, _, ce_BadText⟩, code := ⟨_, _, _, _, _, _, co1_BadText, co2_BadText, co3_BadText⟩, sup := sp_BadText, thr := th_, sun := su_, fn := ⟨_, _, _, _, _, _, _, _, lf_BadText, cf_BadText⟩ },
    tp_BadText := tp_,
    E_BadText := ⟨ga_BadText, gg_BadText, ex_BadText, hd_BadText, ha_BadText, hn_, ht_, hm_BadText⟩,
    Y_BadText := ⟨ga_BadText, gg_BadText, ex_BadText, hd_BadText⟩,
    te_BadText := te_BadText,
    A_BadText_place := nf_BadText_place,
    kw_BadText := zz_kw_BadText })
end Toy
open PySem PySem.W PyProof.Rows in
set_option maxRecDepth 100000 in
set_option maxHeartbeats 0 in
theorem PySem.Challenge.cw_changedwalks_k02_texts_of_trees_refused_holds : PySem.Challenge.rw_changedwalks_k02_texts_of_trees_refused.Holds := by
  w_on; o_law; k_head; (case hw => w_witness2)
  k_fill
  refine L2.walk_ofK (l := PySem.Challenge.rw_changedwalks_k02_texts_of_trees_refused) (n := 63) (k := 40) (x := "_law_script") (CX := L2.CX0) (sp := Toy.spLaw) rfl (by decide) rfl ⟨rfl, by decide, by decide⟩ (fun w h Y => PySem.W.kIn_of Y) ?F (fun K H a ns hl _ hS => ⟨a, ns, rfl, hS, hl, fun _ => rfl⟩) fun _ _ _ _ z => z
  case F =>
    intro w mg fa h KX G hmg
    refine' Toy.all_mk KX G hmg ?zn_len ?zn_int ?zn_list ?zn_tuple ?zn_range ?zn_isinstance ?gm_FILE ?gm_NAMES ?lk_NAMES ?gm_WalkError ?gm_Reader ?pg_Reader ?hd_Reader ?po_Reader ?sa_Reader ?mk_Reader ?kc_Reader ?na_Reader_text ?na_Reader_spot ?gf_write_tree ?lf_write_tree ?cf_write_tree ?kf_write_tree ?gf_Reader_init ?if_Reader_init ?lf_Reader_init ?cf_Reader_init ?kf_Reader_init ?gf_Reader_sign ?if_Reader_sign ?lf_Reader_sign ?cf_Reader_sign ?kf_Reader_sign ?gf_Reader_thing ?if_Reader_thing ?lf_Reader_thing ?cf_Reader_thing ?kf_Reader_thing ?gf_Reader_content ?if_Reader_content ?lf_Reader_content ?cf_Reader_content ?kf_Reader_content ?gf_read_tree ?lf_read_tree ?cf_read_tree ?kf_read_tree ?gf_l_draws ?lf_l_draws ?cf_l_draws ?kf_l_draws ?gf_l_pick ?lf_l_pick ?cf_l_pick ?kf_l_pick ?gf_l_tree ?lf_l_tree ?cf_l_tree ?kf_l_tree ?gf_l_text ?lf_l_text ?cf_l_text ?kf_l_text ?gf_l_place ?lf_l_place ?cf_l_place ?kf_l_place ?gf_l_told ?lf_l_told ?cf_l_told ?kf_l_told ?gf_law ?lf_law ?cf_law ?kf_law ?gm_BadText ?xl_BadText ?rv_BadText ?sa_BadText ?gi_BadText ?ti_BadText ?kc_BadText ?ex_BadText ?ve_BadText ?ty_BadText ?lf_BadText ?ce_BadText ?co1_BadText ?co2_BadText ?co3_BadText ?sp_BadText ?th_ ?su_ ?tp_ ?cf_BadText ?ga_BadText ?gg_BadText ?hd_BadText ?ha_BadText ?hm_BadText ?hn_ ?ht_ ?te_BadText ?nf_BadText_place ?zz_kw_BadText
    (case zn_len => k_is)
    (case zn_int => k_is)
    (case zn_list => k_is)
    (case zn_tuple => k_is)
    (case zn_range => k_is)
    (case zn_isinstance => k_is)
    (case gm_FILE => k_is)
    (case gm_NAMES => k_is)
    (case lk_NAMES => k_is)
    (case gm_WalkError => k_is)
    (case gm_Reader => k_is)
    (case pg_Reader => k_is)
    (case hd_Reader => k_is)
    (case po_Reader => k_is)
    (case sa_Reader => k_is)
    (case mk_Reader => k_is)
    (case kc_Reader => k_is)
    (case na_Reader_text => k_is)
    (case na_Reader_spot => k_is)
    (case gf_write_tree => k_is)
    (case lf_write_tree => k_is)
    (case cf_write_tree => k_is)
    (case kf_write_tree => k_is)
    (case gf_Reader_init => k_is)
    (case if_Reader_init => k_is)
    (case lf_Reader_init => k_is)
    (case cf_Reader_init => k_is)
    (case kf_Reader_init => k_is)
    (case gf_Reader_sign => k_is)
    (case if_Reader_sign => k_is)
    (case lf_Reader_sign => k_is)
    (case cf_Reader_sign => k_is)
    (case kf_Reader_sign => k_is)
    (case gf_Reader_thing => k_is)
    (case if_Reader_thing => k_is)
    (case lf_Reader_thing => k_is)
    (case cf_Reader_thing => k_is)
    (case kf_Reader_thing => k_is)
    (case gf_Reader_content => k_is)
    (case if_Reader_content => k_is)
    (case lf_Reader_content => k_is)
    (case cf_Reader_content => k_is)
    (case kf_Reader_content => k_is)
    (case gf_read_tree => k_is)
    (case lf_read_tree => k_is)
    (case cf_read_tree => k_is)
    (case kf_read_tree => k_is)
    (case gf_l_draws => k_is)
    (case lf_l_draws => k_is)
    (case cf_l_draws => k_is)
    (case kf_l_draws => k_is)
    (case gf_l_pick => k_is)
    (case lf_l_pick => k_is)
    (case cf_l_pick => k_is)
    (case kf_l_pick => k_is)
    (case gf_l_tree => k_is)
    (case lf_l_tree => k_is)
    (case cf_l_tree => k_is)
    (case kf_l_tree => k_is)
    (case gf_l_text => k_is)
    (case lf_l_text => k_is)
    (case cf_l_text => k_is)
    (case kf_l_text => k_is)
    (case gf_l_place => k_is)
    (case lf_l_place => k_is)
    (case cf_l_place => k_is)
    (case kf_l_place => k_is)
    (case gf_l_told => k_is)
    (case lf_l_told => k_is)
    (case cf_l_told => k_is)
    (case kf_l_told => k_is)
    (case gf_law => k_is)
    (case lf_law => k_is)
    (case cf_law => k_is)
    (case kf_law => k_is)
    (case gm_BadText => k_is)
    (case xl_BadText => k_is)
    (case rv_BadText => decide +kernel)
    (case sa_BadText => k_is)
    (case gi_BadText => k_is)
    (case ti_BadText => k_is)
    (case kc_BadText => k_is)
    (case ex_BadText => k_is)
    (case ve_BadText => k_is)
    (case ty_BadText => k_is)
    (case lf_BadText => k_is)
    (case ce_BadText => k_is)
    (case co1_BadText => k_is)
    (case co2_BadText => rfl)
    (case co3_BadText => decide +kernel)
    (case sp_BadText => kernel_rfl)
    (case th_ => k_is)
    (case su_ => k_is)
    (case tp_ => decide +kernel)
    (case cf_BadText => k_is)
    (case ga_BadText => k_is)
    (case gg_BadText => k_is)
    (case hd_BadText => k_is)
    (case ha_BadText => k_is)
    (case hm_BadText => k_is)
    (case hn_ => k_is)
    (case ht_ => k_is)
    (case te_BadText => kernel_rfl)
    (case nf_BadText_place => k_is)
    (case zz_kw_BadText => kernel_rfl)

