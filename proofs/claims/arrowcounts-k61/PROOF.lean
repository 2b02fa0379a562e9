import PyProof.Rows.All
import Wide.All
import OpenK.AllK
import Wide.FinOn
import KE.KExcSuper
import KE.KSuper
import HandS.ForMost
import HandS.Exc
import HandS.ExcInit
import HandS.Walk
import HandS.ExcOwn
import HandS.WordsExc
import HandS.TryOnly
import HandS.IsInst
import HandS.TupAny
import HandS.More
import HandS.Flt
import HandS.Wide
import HandS.Text
import HandS.Ends
import KE.KIsAll
import KE.KTryMore
import HandS.ExcIs
import HandS.ExcField
import KE.RegKSuper
import KE.KExcLine
import KE.RegKIsAll
import PySem.Challenge.RW_arrowcounts_k61_whole_words_of_lines
set_option Elab.async false
set_option linter.all false
set_option maxRecDepth 100000
set_option maxHeartbeats 4000000
/-! An own exception whose `__init__` says `super().__init__(f); self.f = f`, over ValueError, with own classes between. -/
namespace Pk
open PySem PySem.Spec PySem.Calls PyProof.Rows PySem.W PySem.HandSPX L2

/-- the body of such an `__init__` -/
def supBody (fld : Str) (p0 p1 p2 p3 p4 p5 p6 p7 p8 p9 : Pos) : List Stmt :=
  [.Expr (.Call (.Attribute (.Call (.Name "super" p0) [] [] p1) "__init__" p2) [.Name fld p3] [] p4) p5,
   .Assign [.Attribute (.Name "self" p6) fld p7] (.Name fld p8) p9]

/-- what the written part says of the class at C, its `__init__` at fI -/
structure SupTxt (P : Program) (K : Frag) (C fI : Addr) (fld : Str) : Prop where
  cls : ∃ nm q N bs bm sn sub ab col dd k0 k1 k2 k3 k5, K.lookup C = some (excClassObj nm q C N bs bm true sn sub ab col dd k0 k1 k2 k3 k5 "ValueError.__new__") ∧ refsVE bm = true
  sa : findIn K (.ref C) "__setattr__" = some (some (.builtin "object.__setattr__"))
  nof : findIn K (.ref C) fld = some none
  exC : subIn K (.ref C) (.type "BaseException") = some true
  veC : subIn K (.ref C) (.type "ValueError") = some true
  tyC : typeIn K (.ref C) = some (.type "type")
  kC : keepIn K (.ref C) = true
  iC : findIn K (.ref C) "__init__" = some (some (.ref fI))
  tI : typeIn K (.ref fI) = some (.type "function")
  sub : mroIn K C (.ref C) = some true
  sup : ks_superIn K C C "__init__" = some (some (.builtin "ValueError.__init__"))
  ext : excInitIn K C [.type "ValueError", .type "Exception", .type "BaseException", .type "object"] "ValueError.__new__" = true
  stat : nsIn K cStatics "thirdparty.any" = some none
  nsup : nsIn K mainGlobals "super" = some none
  htop : (P.main.scope.names.lookup ("super" : Str)).isSome = false
  fn : ∃ (oc : Value) (od : Option Addr) (osl : Array (Option Value)) (qual : Str) (params : Arguments) (scope : Scope) (dV kV doc pm ct : Value) (an : Option Addr) (cda cc : Addr) (p0 p1 p2 p3 p4 p5 p6 p7 p8 p9 : Pos) (ar : Arg)
      (ccl : Value) (cdd : Option Addr) (vs : Array Value) (ccs : Array (Option Value)) (file : Str) (tf : Tok) (cl : Value) (cld : Option Addr) (csl : Array (Option Value)),
    K.lookup fI = some ⟨oc, od, .func (ksFn "__init__" qual params (supBody fld p0 p1 p2 p3 p4 p5 p6 p7 p8 p9) scope dV kV doc pm an (.ref cda) ct cc), osl⟩ ∧
    codeIn K (.ref cda) qual = true ∧ (params.posonlyargs ++ params.args).head? = some ar ∧ ar.arg = ("self" : Str) ∧
    K.lookup cda = some ⟨ccl, cdd, .fields vs, ccs⟩ ∧ vs[2]? = some (.str file tf) ∧ ((P.main.file : Str) == file) = true ∧
    K.lookup cc = some ⟨cl, cld, .cell (some (.ref C)), csl⟩ ∧
    scope.kind = .function ∧ scope.isCoroutine = false ∧ scope.isGenerator = false ∧ scope.names.lookup ("self" : Str) = some NameKind.local ∧ scope.names.lookup fld = some NameKind.local ∧
    scope.names.lookup ("__class__" : Str) = some NameKind.free ∧ scope.names.lookup ("super" : Str) = some NameKind.globalImplicit ∧ (∀ x ∈ scope.names, x.2 ≠ NameKind.cell) ∧ (p2.endLine == p4.line) = true ∧ fld ≠ ("self" : Str) ∧ (fld == ("__debug__" : Str)) = false ∧
    ∀ (s : Shared) (x u : Value), BindsTo s (ksFn "__init__" qual params (supBody fld p0 p1 p2 p3 p4 p5 p6 p7 p8 p9) scope dV kV doc pm an (.ref cda) ct cc) ⟨[x, u], []⟩ [("self", x), (fld, u)]

section
variable {P : Program} {w : World} {K : Frag} {C fI : Addr} {fld : Str} {mg mb : Str → Option Value}
theorem lkp_cons (f g : Str) (y : Value) (fs : List (Str × Value)) : ((f, y) :: fs).lookup g = if g = f then some y else fs.lookup g := by
  by_cases h : g = f
  · subst h
    simp [List.lookup]
  · have e : (g == f) = false := by simpa using h
    rw [if_neg h]
    simp [List.lookup, e]
/-- a method's call whose form is the plain one -/
theorem mcall_eq {o : Expr} {name : Str} {apos pos : Pos} {args : List Expr} {env : Env} (hf : methodCallForm (args.length + 0) (backTo pos (starEach args env)) (backToKw pos (keywordEach [] env)) = true) (hl : (apos.endLine == pos.line) = true) :
    ∃ pl : Sem Bool, eval (.Call (.Attribute o name apos) args [] pos) env = (do
      let ov ← attributeBase o name env (eval o env)
      standAt apos.atName
      let (f, first) ← holding [ov] (getMethod ov name pl)
      callWith pos f first (backTo pos (starEach args env)) []) := by
  refine ⟨do return (← importBound o env).getD true, ?_⟩
  show (do
    let ov ← attributeBase o name env (eval o env)
    standAt apos.atName
    methodCall o name apos pos env ov (args.length + 0) (backTo pos (starEach args env)) (backToKw pos (keywordEach [] env))) = _
  unfold methodCall calleeOf methodCallPos
  rw [hf, hl]
  rfl
theorem clsIn_of {nm q : Str} {N : Addr} {bs bm sub : List Value} {sn : List Str} {ab : Bool} {col : Option Bool} {dd : Option Addr} {k0 k1 k2 k3 k5 : Option Value}
    (hC : K.lookup C = some (excClassObj nm q C N bs bm true sn sub ab col dd k0 k1 k2 k3 k5 "ValueError.__new__")) :
    clsIn K C = some { name := nm, bases := bs, mro := .ref C :: bm, ns := N, qualname := q, hasDict := true, slotNames := sn, subclasses := sub, abstract := ab, collection := col, hasDel := false } := by
  unfold clsIn
  rw [hC] <;> rfl

/-- the bound wrapper called: the args are laid anew -/
theorem call_wrap {A : Around} {E : Value → Shared → Prop} {h : Heap} {g : Array GenState} {d : Drawn} {t : Nat} {os : OsState} {e u t0 : Addr} {rest : List Value} {Q : Value → Shared → Prop}
    (T : SupTxt P K C fI fld) (X : K.In h) (he : h.get? e = some (excO C t0)) (hu : h.get? u = some (kxs_mw "ValueError.__init__" e)) (hrest : rest.length ≤ sizeLine)
    (hq : ∀ h' t1, (∀ b o, b ≠ e → h.get? b = some o → h'.get? b = some o) → h'.get? e = some (excO C t1) → Q .none ⟨h', g, d, t, os⟩) :
    wpAny (model P w) A (call (.ref u) rest) Q E ⟨h, g, d, t, os⟩ := by
  obtain ⟨nm, q, N, bs, bm, sn, sub, ab, col, dd, k0, k1, k2, k3, k5, hC, hbm⟩ := T.cls
  refine wpAny_call (codeAny_of_tree ?_)
  show wpAny _ A.in1 (callAny (.ref u) ⟨rest, []⟩) _ _ _
  simp only [callAny]
  refine wpAny_bind (wpAny_load hu ?_)
  simp only [kxs_mw, show (Value.type "method-wrapper" == Value.type "method" || Value.type "method-wrapper" == Value.type "builtin_function_or_method" || Value.type "method-wrapper" == Value.type "method-wrapper") = true by decide, if_true]
  refine KFB.if_so (by decide) ?_
  refine wpAny_bind (check_bound_init F.excBase_ValueError.toExcCallFacts (X _ _ hC) he rfl ?_)
  refine wpAny_bind (wpAny_pure (wpAny_pure ?_))
  refine ⟨plainId_quiet F.excBase_ValueError.init.plain _, codeAny_builtin F.excBase_ValueError.initEntry ?_⟩
  exact exc_init_tree (cls := .ref C) (t0 := t0) (dv := none) (c2 := .none) (c3 := .none) (b4 := .bool false) he hrest (fun h' k e' _ => hq h' h.objs.size k e')

/-- `__init__` of the new exception at e, with the value u -/
theorem sup_init {A : Around} {R : Result → Shared → Prop} {h : Heap} {g : Array GenState} {d : Drawn} {t : Nat} {os : OsState} {e t0 : Addr} {u : Value}
    (T : SupTxt P K C fI fld) (X : K.In h) (hroom : A.depth < recursionLimit) (hlim : h.NoLimit) (hG : h.Ns mainGlobals mg) (hB : h.Ns builtinsNs mb) (hbb : ∀ x : Str, x ≠ "__name__" → mb x = bootBuiltins x)
    (he : h.get? e = some (excO C t0)) (hKe : K.lookup e = none)
    (hq : ∀ h' dx t1 tk, (∀ b o, b ≠ e → h.get? b = some o → h'.get? b = some o) → h.objs.size ≤ dx → dx ≠ e → h'.get? e = some ({ cls := .ref C, dict := some dx, data := .fields #[.ref t1, .none, .none, .none, .bool false, .none] } : Obj) →
      h'.Ns1 dx (fun y => if y = fld then some u else none) → R (.ok (.ret .none)) ⟨h', g, d, tk, os⟩) :
    codeAny (model P w) A (.call (.ref fI) ⟨[.ref e, u], []⟩) R ⟨h, g, d, t, os⟩ := by
  obtain ⟨nm, q, N, bs, bm, sn, sub, ab, col, dd, k0, k1, k2, k3, k5, hC, hbm⟩ := id T.cls
  obtain ⟨oc, od, osl, qual, params, scope, dV, kV, doc, pm, ct, an, cda, cc, p0, p1, p2, p3, p4, p5, p6, p7, p8, p9, ar, ccl, cdd, vs, ccs, file, tf, cl, cld, csl, lk, hcd, hp, har, hcode, hvs, hfile, hcell, sk, sco, sge, sself, sfld, scls, ssup, snc, hln, fns, fdb, hbind⟩ := T.fn
  have hcl := clsIn_of hC
  refine ks_codeAny_call_defAt (fd := ksFn "__init__" qual params (supBody fld p0 p1 p2 p3 p4 p5 p6 p7 p8 p9) scope dV kV doc pm an (.ref cda) ct cc) (body := supBody fld p0 p1 p2 p3 p4 p5 p6 p7 p8 p9)
    (binds := [("self", .ref e), (fld, u)]) hroom (X _ _ lk) rfl hlim (codeRec_of X hcd) rfl (hbind _ _ _) snc (fun y hy => ?_) (fun h1 hns hk1 => ?_) sco sge sk
  · rcases List.mem_cons.mp hy with rfl | hy
    · exact sself
    · rcases List.mem_cons.mp hy with rfl | hy
      · exact sfld
      · exact absurd hy List.not_mem_nil
  · have X1 : K.In h1 := X.keeps hk1
    have hC1 := X1 _ _ hC
    have nse : h.objs.size ≠ e := Nat.ne_of_gt (Heap.lt_size he)
    have he1 : h1.get? e = some (excO C t0) := hk1 _ _ he
    have hG1 := hG.keeps hk1
    have hB1 := hB.keeps hk1
    have kself : scope.names.lookup ("self" : Str) = some NameKind.local := sself
    have mself : (fun x => ([("self", Value.ref e), (fld, u)] : List (Str × Value)).reverse.lookup x) ("self" : Str) = some (.ref e) := by
      show ([(fld, u), ("self", Value.ref e)] : List (Str × Value)).lookup ("self" : Str) = _
      rw [lkp_cons, if_neg (fun z => fns z.symm), lkp_cons, if_pos rfl]
    have mfld : (fun x => ([("self", Value.ref e), (fld, u)] : List (Str × Value)).reverse.lookup x) fld = some u := by
      show ([(fld, u), ("self", Value.ref e)] : List (Str × Value)).lookup fld = _
      rw [lkp_cons, if_pos rfl]
    obtain ⟨oD, hD1, hD2⟩ : ∃ oD, h1.get? C = some oD ∧ oD.data = .cls { name := nm, bases := bs, mro := .ref C :: bm, ns := N, qualname := q, hasDict := true, slotNames := sn, subclasses := sub, abstract := ab, collection := col, hasDel := false } :=
      ⟨_, hC1, rfl⟩
    obtain ⟨pl, hev⟩ := mcall_eq (o := .Call (.Name "super" p0) [] [] p1) (name := "__init__") (apos := p2) (pos := p4) (args := [.Name fld p3])
      (env := callEnv (ksFn "__init__" qual params (supBody fld p0 p1 p2 p3 p4 p5 p6 p7 p8 p9) scope dV kV doc pm an (.ref cda) ct cc) h.objs.size fI) rfl hln
    refine ks_wpAt_execs_cons (ks_wpAt_Expr_any (ks_wpAt_MethodCall (pl := pl) ?_ hev) ?_ rfl)
    rotate_left
    · simp [interactive, callEnv, newEnv, sk]
    refine ks_wpAt_super_base (f := fI) (cc := cda) ssup scls (by decide) rfl (X1 _ _ lk) rfl hp rfl (X1 _ _ hcode) rfl hvs hfile T.htop ?_
    refine ks_loadName_global sk ssup (Calls.loadGlobal_builtin hG1 (mg_none_of X1 hG1 T.nsup) hB1 ((hbb _ (by decide +kernel)).trans (by first | boot_by_name | rfl | kernel_rfl)) ⟨rfl, ?_⟩)
    refine wpAny_loadName_free sk scls rfl ⟨_, X1 _ _ hcell, rfl⟩ ?_
    rw [har]
    refine wpAny_loadName_local sk sself hns mself ?_
    refine ks_wpAny_isType_cls hD1 hD2 ⟨rfl, ?_⟩
    refine ks_wpAny_call_super hD1 hD2 he1 rfl (fun c z => by cases z) (looks_mroIn X1 T.sub) (fun h2 e2 k2 => ?_)
    -- super() stands at h1.objs.size
    have X2 : K.In h2 := X1.keeps k2
    have he2 := k2 _ _ he1
    have Ie : InstAt h2 e (excO C t0) C none := ⟨he2, rfl, rfl, trivial⟩
    have hI2 : Looks (model P w) h2 (isInstance (.ref e) (.type "ValueError")) true := Ie.type.andThen (looks_subIn X2 T.veC)
    have hsupm : alongIn K "__init__" (((Value.ref C :: bm).dropWhile (· != .ref C)).drop 1) = some (some (.builtin "ValueError.__init__")) := by
      have z := T.sup
      unfold ks_superIn at z
      rw [hcl] at z
      exact z
    have hmro2 : Looks (model P w) h2 (mroOf (.ref C)) (Value.ref C :: bm) := fun A Q E s k q => wpAny_bind ((looks_clsIn X2 hcl) A _ E s k (wpAny_pure q))
    refine kxs_getMethod kxs_ValueError e2 (looks_opaque X2 T.stat) hmro2 rfl X2 hsupm hI2 (ks_ne X2 Ie hcl) (by decide) ?_
    have hu3 : (h2.push (kxs_mw "ValueError.__init__" e)).get? h2.objs.size = some (kxs_mw "ValueError.__init__" e) := Heap.get?_push_at rfl rfl
    have up3 : ∀ b o, h2.get? b = some o → (h2.push (kxs_mw "ValueError.__init__" e)).get? b = some o := fun b o z => Heap.get?_push_of_some _ z
    have X3 : K.In (h2.push (kxs_mw "ValueError.__init__" e)) := X2.keeps up3
    have he3 := up3 _ _ he2
    have k13 : ∀ b o, h1.get? b = some o → (h2.push (kxs_mw "ValueError.__init__" e)).get? b = some o := fun b o z => up3 b o (k2 b o z)
    have hns3 := hns.keeps k13
    refine kxs_callWith (i := "ValueError.__init__") (x := e) rfl (evalArgs_plain ?_)
    refine Calls.spliced_cons (wpAny_Name (wpAny_loadName_local sk sfld hns3 mfld ?_) fdb)
    refine Calls.spliced_nil ⟨hu3, ?_⟩
    refine call_wrap T X3 he3 hu3 (by show 1 ≤ _; rw [sizeLine_eq]; decide) (fun h4 t1 k4 e4 => ?_)
    -- self.f = f
    have k14 : ∀ b o, b ≠ e → h1.get? b = some o → h4.get? b = some o := fun b o hb z => k4 b o hb (k13 b o z)
    have nLe : h.objs.size ≠ e := Nat.ne_of_gt (Heap.lt_size he)
    have X4 : K.In h4 := fun a o z => k14 a o (fun q => by
      rw [q, hKe] at z
      cases z) (X1 a o z)
    have hns4 : h4.Ns h.objs.size (fun x => ([("self", Value.ref e), (fld, u)] : List (Str × Value)).reverse.lookup x) := by
      obtain ⟨oL, es, ep, hL, r⟩ := hns
      exact ⟨oL, es, ep, k14 _ _ nLe hL, r⟩
    refine wpAt_of_wpAny (wpAny_execs_cons (plainObj_wpAny_Assign_Attribute (wpAny_Name (wpAny_loadName_local sk sfld hns4 mfld (wpAny_Name (wpAny_loadName_local sk sself hns4 mself ?_) (by decide))) fdb) rfl))
    refine set_plain X4 (ox := excO C t1) (od := none) ⟨e4, rfl, rfl, trivial⟩ T.sa ?_
    refine exc_osa X4 e4 hcl (show refsVE (.ref C :: bm) = true from hbm) rfl T.nof (fun h5 tk' dx k5 dn dne e5 hn5 => ?_)
    refine wpAny_execs_nil ?_
    exact hq h5 dx t1 tk' (fun b o hb z => k5 b o hb (k14 b o hb (hk1 b o z))) (Nat.le_trans (Nat.le_of_lt hns4.lt) dn) dne e5 hn5
end

/-- C(e), C's own `__init__` saying super().__init__(f); self.f = f: the new exception's dict holds f -/
def tMkS (C : Addr) (f : Str) (ta : TA) : L2.St → Hp → XK → Prop := fun σ H Q => ta σ H fun vs H1 => ∃ v, vs = [v] ∧ ∀ d, H1 d = none → Q (.ref C) (some d) (upd H1 d (.xd [(f, v)]))
section
variable {X : Cx} {x : Str} {C fI : Addr} {fld : Str} {k : Nat} {e : Expr} {ta : TA} {p pos : Pos}
theorem pmk_sup (T : SupTxt X.prog X.K C fI fld) (hr : Room (k + 1) X.A) (hg : Gl X x) (hm : X.mg x = some (.ref C)) (ha : PA X [e] ta)
    (hdb : (x == ("__debug__" : Str)) = false := by decide) (he : starEach [e] X.env = (false, eval e X.env) :: starEach [] X.env := by rfl) (hpl : (backTo pos (starEach [] X.env)).any (·.1) = false := by rfl) :
    PMk X (.Call (.Name x p) [e] [] pos) (tMkS C fld ta) := by
  intro pins s σ H Q I h
  obtain ⟨nm, q, N, bs, bm, sn, sub, ab, col, dd, k0, k1, k2, k3, k5, hC, hbm⟩ := id T.cls
  refine wpAny_Call_Name_kw (ld_glob I hg hm ?_ hdb)
  refine callWith_K (h₀ := X.base) I.ok.mod.kin T.kC (thn (ha.run pos pins s σ H _ I h) fun us s1 ⟨vs, H1, I1, r1, v, ev, q1⟩ => ⟨I1.kIn, ?_⟩) he hpl
  subst ev
  cases r1 with
  | @cons _ u _ us' rv rn =>
    cases rn
    show wpAny _ _ (call (.ref C) [u]) _ _ _
    obtain ⟨hp, g, dr, tk, os⟩ := s1
    have hn : H1 (hp.objs.size + 1) = none := I1.hok.fresh (Nat.le_succ _)
    have kk : ∀ b o, hp.get? b = some o → ((hp.push (kdv_tup [u])).push (excO C hp.objs.size)).get? b = some o := fun b o z => Heap.get?_push_of_some _ (Heap.get?_push_of_some _ z)
    have hget : ((hp.push (kdv_tup [u])).push (excO C hp.objs.size)).get? (hp.objs.size + 1) = some (excO C hp.objs.size) := by heap_get
    have KX : X.K.In hp := I1.kIn
    have hKe : X.K.lookup (hp.objs.size + 1) = none := by
      cases z : X.K.lookup (hp.objs.size + 1) with
      | none => rfl
      | some o =>
        have y := Heap.lt_size (KX _ _ z)
        exact absurd y (Nat.not_lt_of_le (Nat.le_succ _))
    obtain ⟨mb, hb1, hb2⟩ := I1.mod.blt
    have up : ∀ b o, X.base.get? b = some o → ((hp.push (kdv_tup [u])).push (excO C hp.objs.size)).get? b = some o := fun b o z => kk b o (I1.bk b o z)
    refine wpAny_call (call_own F.excBase_ValueError (fun Y => refsVE_contains Y bm hbm) (KX _ _ hC) (looks_findIn KX T.iC) (fun self => bind_fn KX self T.tI) (by show 1 ≤ _; rw [sizeLine_eq]; decide)
      (sup_init (mg := X.mg) (mb := mb) T (KX.keeps kk) (hr.make C [u] []).depth (I1.mod.nolimit.keeps up) (I1.mod.glob.keeps up) (hb1.keeps up) hb2 hget hKe (fun h' dx t1 tk' k' dn dne ex hns => ?_)))
    refine ⟨rfl, ?_⟩
    have I2 : L2.Inv X pins σ (upd H1 (hp.objs.size + 1) (exo (hp.objs.size + 1) C none)) ⟨(hp.push (kdv_tup [u])).push (excO C hp.objs.size), g, dr, tk, os⟩ :=
      I1.laid (t' := tk) (a := hp.objs.size + 1) (o := exo (hp.objs.size + 1) C none) (h' := (hp.push (kdv_tup [u])).push (excO C hp.objs.size)) kk (Nat.le_succ _) (exo_ok hget)
    have e1 : (upd H1 (hp.objs.size + 1) (exo (hp.objs.size + 1) C none)) (hp.objs.size + 1) = some (exo (hp.objs.size + 1) C none) := upd_same
    have hsz2 : ((hp.push (kdv_tup [u])).push (excO C hp.objs.size)).objs.size = hp.objs.size + 2 := by rw [Heap.size_push, Heap.size_push]
    have hd2 : (upd H1 (hp.objs.size + 1) (exo (hp.objs.size + 1) C none)) dx = none := I2.hok.fresh (by rw [hsz2] at dn; rw [hsz2]; exact dn)
    have hd1 : H1 dx = none := by
      rw [upd_ne dne] at hd2
      exact hd2
    have nd : ∀ {b : Addr} {o : Obj}, ((hp.push (kdv_tup [u])).push (excO C hp.objs.size)).get? b = some o → b ≠ dx := fun {b o} z => Nat.ne_of_lt (Nat.lt_of_lt_of_le (Heap.lt_size z) dn)
    have na : ∀ {b : Addr}, (upd H1 (hp.objs.size + 1) (exo (hp.objs.size + 1) C none)) b = none → b ≠ hp.objs.size + 1 := fun {b} n z => by
      rw [z, e1] at n
      cases n
    have U : Un (frs X.stack) [] (upd H1 (hp.objs.size + 1) (exo (hp.objs.size + 1) C none)) (upd (upd (upd H1 (hp.objs.size + 1) (exo (hp.objs.size + 1) C none)) dx (exd dx [(fld, v)])) (hp.objs.size + 1) (exo (hp.objs.size + 1) C (some dx)))
        ((hp.push (kdv_tup [u])).push (excO C hp.objs.size)) h' := {
      keep := fun b o z n _ _ => k' b o (na n) z
      slot := fun b o z n _ _ => ⟨o.slots, k' b o (na n) z⟩
      free := fun b o z n _ => by
        rw [upd_ne (na n), upd_ne (nd z)]
        exact n
      there := fun b o z _ => by
        by_cases hb : b = hp.objs.size + 1
        · exact ⟨_, by rw [hb]; exact ex⟩
        · exact ⟨o, k' b o hb z⟩
      tups := fun b xs z => by
        rw [upd_ne (at_ne e1 z exo_tup), upd_ne (ne_of_none z hd2)]
        exact z
      frzs := fun b o w z => by
        rw [upd_ne (at_ne e1 z exo_frz), upd_ne (ne_of_none z hd2)]
        exact z
      tbls := fun b ps z => ⟨#[], by
        rw [upd_ne (at_ne e1 z exo_tbl), upd_ne (ne_of_none z hd2), z]
        simp⟩ }
    have hok : HOk X.prog X.w (upd (upd (upd H1 (hp.objs.size + 1) (exo (hp.objs.size + 1) C none)) dx (exd dx [(fld, v)])) (hp.objs.size + 1) (exo (hp.objs.size + 1) C (some dx))) h' := fun b o z => by
      by_cases hb : b = hp.objs.size + 1
      · subst hb
        rw [upd_same] at z
        cases z
        exact exo_ok ex
      · rw [upd_ne hb] at z
        by_cases hbd : b = dx
        · subst hbd
          rw [upd_same] at z
          cases z
          exact exd_ok hns (relO_put (fs := []) rv fun _ => True.intro)
        · rw [upd_ne hbd] at z
          exact (I2.hok b o z).stay (fun c w hc y => k' c w (by
              rcases hc with hc | hc
              · rw [hc]
                exact hb
              · exact at_ne e1 hc exo_own) y)
            (fun c hc => by
              rw [upd_ne (at_ne e1 hc exo_own), upd_ne (ne_of_none hc hd2)]
              exact hc)
            (fun c xs hc => by
              rw [upd_ne (at_ne e1 hc exo_tup), upd_ne (ne_of_none hc hd2)]
              exact hc)
    refine mk_end (raises_own T.exC T.tyC) I1 (Nat.le_succ _) kk U hok rfl I1.bare (a := hp.objs.size + 1) (C := C) (d := dx) (fs := [(fld, v)]) upd_same (by rw [upd_ne dne, upd_same]) hd1 ?_
    have e9 : upd (del (upd (upd (upd H1 (hp.objs.size + 1) (exo (hp.objs.size + 1) C none)) dx (exd dx [(fld, v)])) (hp.objs.size + 1) (exo (hp.objs.size + 1) C (some dx))) (hp.objs.size + 1)) dx (.xd [(fld, v)]) = upd H1 dx (.xd [(fld, v)]) := by
      funext b
      by_cases hbd : b = dx
      · rw [hbd, upd_same, upd_same]
      · rw [upd_ne hbd, upd_ne hbd]
        by_cases hb : b = hp.objs.size + 1
        · rw [hb, del_same, hn]
        · rw [del_ne hb, upd_ne hb, upd_ne hbd, upd_ne hb]
    rw [e9]
    exact q1 dx hd1
end
end Pk
/-! Slots as data: a ghost heap G of what never changes, owned lists, readings by what they come to. -/
namespace Pk
open PySem PySem.Spec L2

/-! ### deep data -/
section
variable {K : PySem.W.Frag} {G G' : Hp}
theorem rd_mono (e : Same G G') {a : Addr} {u : HO} (h : Rd G a u) : Rd G' a u := by
  rcases h with h | ⟨o, h⟩
  · exact .inl (e _ _ h)
  · exact .inr ⟨o, e _ _ h⟩
theorem sqL_mono (e : Same G G') {a : Addr} {xs : List V} (h : SqL K G a xs) : SqL K G' a xs := h.imp (rd_mono e) id
theorem sqT_mono (e : Same G G') {a : Addr} {xs : List V} (h : SqT K G a xs) : SqT K G' a xs := h.imp (rd_mono e) id
mutual
theorem dp_mono (e : Same G G') : ∀ (d : PyData) (v : V), Dp K G v d → Dp K G' v d
  | .none, _, h => by
    cases h
    exact .non
  | .bool b, _, h => by
    cases h
    exact .bl _
  | .int i, _, h => by
    cases h
    exact .int _
  | .str x, _, h => by
    cases h
    exact .str _
  | .list ds, _, h => by
    cases h with
    | lst hq ha => exact .lst (sqL_mono e hq) (dpAll_mono e ds _ ha)
  | .tuple ds, _, h => by
    cases h with
    | tup hq ha => exact .tup (sqT_mono e hq) (dpAll_mono e ds _ ha)
  | .dict _, _, h => by cases h
theorem dpAll_mono (e : Same G G') : ∀ (ds : List PyData) (vs : List V), DpAll K G vs ds → DpAll K G' vs ds
  | [], _, h => by
    cases h
    exact .nil
  | d :: ds, _, h => by
    cases h with
    | cons h1 h2 => exact .cons (dp_mono e d _ h1) (dpAll_mono e ds _ h2)
end
theorem dpAll_len : ∀ {vs : List V} {ds : List PyData}, DpAll K G vs ds → vs.length = ds.length
  | _, _, .nil => rfl
  | _, _, .cons _ h => by rw [List.length_cons, List.length_cons, dpAll_len h]
theorem dpAll_get : ∀ {vs : List V} {ds : List PyData} {i : Nat} {d : PyData}, DpAll K G vs ds → ds[i]? = some d → ∃ v, vs[i]? = some v ∧ Dp K G v d
  | _, _, _, _, .nil, h => by simp at h
  | _, _, 0, _, .cons h1 _, h => by
    simp at h
    subst h
    exact ⟨_, rfl, h1⟩
  | _, _, i + 1, d, .cons _ h2, h => by
    obtain ⟨v, e, q⟩ := dpAll_get (i := i) (d := d) h2 (by simpa using h)
    exact ⟨v, by simpa using e, q⟩
theorem dpAll_getV : ∀ {vs : List V} {ds : List PyData} {i : Nat} {v : V}, DpAll K G vs ds → vs[i]? = some v → ∃ d, ds[i]? = some d ∧ Dp K G v d
  | _, _, _, _, .nil, h => by simp at h
  | _, _, 0, _, .cons h1 _, h => by
    simp at h
    subst h
    exact ⟨_, rfl, h1⟩
  | _, _, i + 1, v, .cons _ h2, h => by
    obtain ⟨d, e, q⟩ := dpAll_getV (i := i) (v := v) h2 (by simpa using h)
    exact ⟨d, by simpa using e, q⟩
theorem dpAll_app : ∀ {vs ws : List V} {ds es : List PyData}, DpAll K G vs ds → DpAll K G ws es → DpAll K G (vs ++ ws) (ds ++ es)
  | _, _, _, _, .nil, h => h
  | _, _, _, _, .cons h1 h2, h => .cons h1 (dpAll_app h2 h)
theorem dpAll_take : ∀ {vs : List V} {ds : List PyData} (n : Nat), DpAll K G vs ds → DpAll K G (vs.take n) (ds.take n)
  | _, _, 0, _ => .nil
  | _, _, _ + 1, .nil => .nil
  | _, _, n + 1, .cons h1 h2 => .cons h1 (dpAll_take n h2)
theorem dpAll_drop : ∀ {vs : List V} {ds : List PyData} (n : Nat), DpAll K G vs ds → DpAll K G (vs.drop n) (ds.drop n)
  | _, _, 0, h => h
  | _, _, _ + 1, .nil => .nil
  | _, _, n + 1, .cons _ h2 => dpAll_drop n h2
theorem dpAll_set : ∀ {vs : List V} {ds : List PyData} {v : V} {d : PyData} (n : Nat), Dp K G v d → DpAll K G vs ds → DpAll K G (vs.set n v) (ds.set n d)
  | _, _, _, _, _, _, .nil => .nil
  | _, _, _, _, 0, q, .cons _ h2 => .cons q h2
  | _, _, _, _, n + 1, q, .cons h1 h2 => .cons h1 (dpAll_set n q h2)
theorem dpAll_one {v : V} {d : PyData} (h : Dp K G v d) : DpAll K G [v] [d] := .cons h .nil
theorem dpAll_map {α : Type} (f : α → V) (g : α → PyData) (h : ∀ a, Dp K G (f a) (g a)) : ∀ l : List α, DpAll K G (l.map f) (l.map g)
  | [] => .nil
  | a :: l => .cons (h a) (dpAll_map f g h l)
/-- plain values: their data tells them -/
theorem dp_int {v : V} {i : Int} (h : Dp K G v (.int i)) : v = .int i := by
  cases h
  rfl
theorem dp_str {v : V} {x : Str} (h : Dp K G v (.str x)) : v = .str x := by
  cases h
  rfl
theorem dp_bool {v : V} {b : Bool} (h : Dp K G v (.bool b)) : v = .bl b := by
  cases h
  rfl
theorem dp_none {v : V} (h : Dp K G v .none) : v = .non := by
  cases h
  rfl
theorem dp_tup {v : V} {ds : List PyData} (h : Dp K G v (.tuple ds)) : ∃ a xs, v = .ref a ∧ SqT K G a xs ∧ DpAll K G xs ds := by
  cases h with
  | tup h1 h2 => exact ⟨_, _, rfl, h1, h2⟩
theorem dp_lst {v : V} {ds : List PyData} (h : Dp K G v (.list ds)) : ∃ a xs, v = .ref a ∧ SqL K G a xs ∧ DpAll K G xs ds := by
  cases h with
  | lst h1 h2 => exact ⟨_, _, rfl, h1, h2⟩
theorem dpAll_ints : ∀ {vs : List V} {ns : List Int}, DpAll K G vs (ns.map .int) → vs = ns.map V.int
  | _, [], h => by
    cases h
    rfl
  | _, n :: ns, h => by
    cases h with
    | cons h1 h2 => rw [dp_int h1, dpAll_ints h2, List.map_cons]
theorem dpAll_strs : ∀ {vs : List V} {ns : List Str}, DpAll K G vs (ns.map .str) → vs = ns.map V.str
  | _, [], h => by
    cases h
    rfl
  | _, n :: ns, h => by
    cases h with
    | cons h1 h2 => rw [dp_str h1, dpAll_strs h2, List.map_cons]
theorem dpAll_bools : ∀ {vs : List V} {ns : List Bool}, DpAll K G vs (ns.map .bool) → vs = ns.map V.bl
  | _, [], h => by
    cases h
    rfl
  | _, n :: ns, h => by
    cases h with
    | cons h1 h2 => rw [dp_bool h1, dpAll_bools h2, List.map_cons]
end

/-! ### what a slot holds, what a frame is -/
/-- un: nothing is known; im d: data that never changes; ls p xs: the list at p, one's own; an p xs: such a list without a slot; vv v: just this value -/
inductive SV where
  | un | im (d : PyData) | ls (p : Addr) (xs : List PyData) | an (p : Addr) (xs : List PyData) | vv (v : V)
abbrev Sts := List SV
/-- the frame: the written part, the ghost heap and the heap at the entry, what is borrowed, how many slots -/
structure Fr where
  K : PySem.W.Frag
  G0 : Hp
  H0 : Hp
  B : List Addr
  n : Nat
/-- one's own list at p -/
structure Own (F : Fr) (G H : Hp) (p : Addr) (xs : List PyData) : Prop where
  at_ : ∃ vs, H p = some (.lst vs) ∧ DpAll F.K G vs xs
  no : G p = none
  mine : F.H0 p = none ∨ p ∈ F.B
def SOk (F : Fr) (G H : Hp) (o : Option (Option V)) : SV → Prop
  | .un => True
  | .im d => ∃ v, o = some (some v) ∧ Dp F.K G v d
  | .ls p xs => o = some (some (.ref p)) ∧ Own F G H p xs
  | .an p xs => Own F G H p xs
  | .vv v => o = some (some v)
def SV.adr : SV → Option Addr
  | .ls p _ => some p
  | .an p _ => some p
  | _ => none
structure Ok (F : Fr) (s : Sts) (σ : L2.St) (G H : Hp) : Prop where
  gg : Same F.G0 G
  gh : Same G H
  hh : ∀ b o, b ∉ F.B → F.H0 b = some o → H b = some o
  fr : ∀ b, G b ≠ none → F.G0 b ≠ none ∨ F.H0 b = none
  bb : ∀ b ∈ F.B, H b ≠ none
  ln : σ.length = F.n
  sl : ∀ (i : Nat) (x : SV), s[i]? = some x → SOk F G H σ[i]? x
  ds : ∀ (i j : Nat) (x y : SV) (p : Addr), s[i]? = some x → s[j]? = some y → x.adr = some p → y.adr = some p → i = j

section
variable {F : Fr} {s : Sts} {σ : L2.St} {G H G' H' : Hp}
theorem Own.lift {p : Addr} {xs : List PyData} (o : Own F G H p xs) (e : Same G G') (h : H' p = H p) (hn : G' p = none) : Own F G' H' p xs := by
  obtain ⟨⟨vs, h1, h2⟩, h3, h4⟩ := o
  exact ⟨⟨vs, h.trans h1, dpAll_mono e _ _ h2⟩, hn, h4⟩
theorem Own.ne {p : Addr} {xs : List PyData} (o : Own F G H p xs) : H p ≠ none := by
  obtain ⟨⟨vs, h1, _⟩, _, _⟩ := o
  rw [h1]
  intro z
  cases z
/-- the state goes on: G grows by what was not there, what is owned stays as it is -/
theorem Ok.go (k : Ok F s σ G H) (e : Same G G') (gh : Same G' H') (hh : ∀ b o, H b = some o → H' b = some o) (fr : ∀ b, G' b ≠ none → G b ≠ none ∨ H b = none) : Ok F s σ G' H' := by
  have nb : ∀ b, H b = none → F.H0 b = none := fun b z => by
    cases q : F.H0 b with
    | none => rfl
    | some o =>
      by_cases hb : b ∈ F.B
      · exact absurd z (k.bb b hb)
      · rw [k.hh b o hb q] at z
        cases z
  have own : ∀ {p : Addr} {xs : List PyData}, Own F G H p xs → Own F G' H' p xs := fun {p xs} o => by
    have hp := o.ne
    obtain ⟨⟨vs, h1, h2⟩, h3, h4⟩ := o
    refine ⟨⟨vs, hh _ _ h1, dpAll_mono e _ _ h2⟩, ?_, h4⟩
    cases q : G' p with
    | none => rfl
    | some u =>
      rcases fr p (by rw [q]; intro z; cases z) with z | z
      · exact absurd h3 z
      · exact absurd z hp
  refine ⟨fun b o z => e b o (k.gg b o z), gh, fun b o hb z => hh b o (k.hh b o hb z), fun b z => ?_, fun b hb z => ?_, k.ln, fun i x hx => ?_, k.ds⟩
  · rcases fr b z with q | q
    · exact k.fr b q
    · exact .inr (nb b q)
  · cases q : H b with
    | none => exact k.bb b hb q
    | some o =>
      rw [hh b o q] at z
      cases z
  · have q := k.sl i x hx
    cases x with
    | un => trivial
    | im d =>
      obtain ⟨v, h1, h2⟩ := q
      exact ⟨v, h1, dp_mono e _ _ h2⟩
    | ls p xs => exact ⟨q.1, own q.2⟩
    | an p xs => exact own q
    | vv v => exact q
theorem Ok.fresh (k : Ok F s σ G H) {p : Addr} (h : H p = none) : G p = none ∧ F.H0 p = none ∧ p ∉ F.B := by
  refine ⟨?_, ?_, fun hb => k.bb p hb h⟩
  · cases q : G p with
    | none => rfl
    | some o =>
      rw [k.gh p o q] at h
      cases h
  · cases q : F.H0 p with
    | none => rfl
    | some o =>
      by_cases hb : p ∈ F.B
      · exact absurd h (k.bb p hb)
      · rw [k.hh p o hb q] at h
        cases h
theorem same_new {H : Hp} {p : Addr} {o : HO} (h : H p = none) : Same H (upd H p o) := fun b u z => by
  rw [upd_ne (ne_of_none z h)]
  exact z
theorem same_upd2 {p : Addr} {o : HO} (e : Same G H) : Same (upd G p o) (upd H p o) := fun b u z => by
  by_cases hb : b = p
  · rw [hb, upd_same] at z ⊢
    exact z
  · rw [upd_ne hb] at z ⊢
    exact e b u z
/-- a new object that never changes -/
theorem Ok.new (k : Ok F s σ G H) {p : Addr} (h : H p = none) (o : HO) : Ok F s σ (upd G p o) (upd H p o) ∧ Same G (upd G p o) := by
  have f := k.fresh h
  refine ⟨k.go (same_new f.1) (same_upd2 k.gh) (same_new h) fun b z => ?_, same_new f.1⟩
  by_cases hb : b = p
  · rw [hb]
    exact .inr h
  · rw [upd_ne hb] at z
    exact .inl z
/-- a new object outside G -/
theorem Ok.newH (k : Ok F s σ G H) {p : Addr} (h : H p = none) (o : HO) : Ok F s σ G (upd H p o) :=
  k.go (Same.refl G) (fun b u z => by rw [upd_ne (ne_of_none z (k.fresh h).1)]; exact k.gh b u z) (same_new h) fun b z => .inl z
theorem getElem?_set_cases {α : Type} {l : List α} {i j : Nat} {a x : α} (h : (l.set i a)[j]? = some x) : (j = i ∧ x = a ∧ i < l.length) ∨ (j ≠ i ∧ l[j]? = some x) := by
  by_cases hj : j = i
  · subst hj
    by_cases hl : j < l.length
    · rw [List.getElem?_set_self hl] at h
      exact .inl ⟨rfl, (Option.some.inj h).symm, hl⟩
    · rw [List.getElem?_eq_none (by rw [List.length_set]; omega)] at h
      cases h
  · rw [List.getElem?_set_ne (Ne.symm hj)] at h
    exact .inr ⟨hj, h⟩
/-- a slot is stored: data -/
theorem Ok.set (k : Ok F s σ G H) {i : Nat} {v : V} {d : PyData} (hi : i < F.n) (h : Dp F.K G v d) : Ok F (s.set i (.im d)) (σ.set i (some v)) G H := by
  refine ⟨k.gg, k.gh, k.hh, k.fr, k.bb, by rw [List.length_set]; exact k.ln, fun j x hx => ?_, fun a b x y p hx hy hp hq => ?_⟩
  · rcases getElem?_set_cases hx with ⟨rfl, rfl, _⟩ | ⟨hj, hx⟩
    · exact ⟨v, List.getElem?_set_self (by rw [k.ln]; exact hi), h⟩
    · rw [List.getElem?_set_ne (Ne.symm hj)]
      exact k.sl j x hx
  · rcases getElem?_set_cases hx with ⟨rfl, rfl, _⟩ | ⟨_, hx⟩
    · cases hp
    · rcases getElem?_set_cases hy with ⟨rfl, rfl, _⟩ | ⟨_, hy⟩
      · cases hq
      · exact k.ds a b x y p hx hy hp hq
theorem Ok.setV (k : Ok F s σ G H) {i : Nat} {v : V} (hi : i < F.n) : Ok F (s.set i (.vv v)) (σ.set i (some v)) G H := by
  refine ⟨k.gg, k.gh, k.hh, k.fr, k.bb, by rw [List.length_set]; exact k.ln, fun j x hx => ?_, fun a b x y p hx hy hp hq => ?_⟩
  · rcases getElem?_set_cases hx with ⟨rfl, rfl, _⟩ | ⟨hj, hx⟩
    · exact List.getElem?_set_self (by rw [k.ln]; exact hi)
    · rw [List.getElem?_set_ne (Ne.symm hj)]
      exact k.sl j x hx
  · rcases getElem?_set_cases hx with ⟨rfl, rfl, _⟩ | ⟨_, hx⟩
    · cases hp
    · rcases getElem?_set_cases hy with ⟨rfl, rfl, _⟩ | ⟨_, hy⟩
      · cases hq
      · exact k.ds a b x y p hx hy hp hq
/-- .. a new list of one's own -/
theorem Ok.setL (k : Ok F s σ G H) {i : Nat} {p : Addr} {vs : List V} {xs : List PyData} (hi : i < F.n) (hp : H p = some (.lst vs)) (hg : G p = none) (h0 : F.H0 p = none) (ha : DpAll F.K G vs xs) (hn : ∀ (j : Nat) (y : SV), s[j]? = some y → y.adr ≠ some p) :
    Ok F (s.set i (.ls p xs)) (σ.set i (some (.ref p))) G H := by
  refine ⟨k.gg, k.gh, k.hh, k.fr, k.bb, by rw [List.length_set]; exact k.ln, fun j x hx => ?_, fun a b x y q hx hy h1 h2 => ?_⟩
  · rcases getElem?_set_cases hx with ⟨rfl, rfl, _⟩ | ⟨hj, hx⟩
    · exact ⟨List.getElem?_set_self (by rw [k.ln]; exact hi), ⟨vs, hp, ha⟩, hg, .inl h0⟩
    · rw [List.getElem?_set_ne (Ne.symm hj)]
      exact k.sl j x hx
  · rcases getElem?_set_cases hx with ⟨rfl, rfl, _⟩ | ⟨_, hx2⟩
    · rcases getElem?_set_cases hy with ⟨rfl, rfl, _⟩ | ⟨_, hy⟩
      · rfl
      · cases h1
        exact absurd h2 (hn b y hy)
    · skip
      rcases getElem?_set_cases hy with ⟨rfl, rfl, _⟩ | ⟨_, hy⟩
      · cases h2
        exact absurd h1 (hn a x hx2)
      · exact k.ds a b x y q hx2 hy h1 h2
theorem Ok.adr_ne (k : Ok F s σ G H) {p : Addr} (h : H p = none) (j : Nat) (y : SV) (hy : s[j]? = some y) : y.adr ≠ some p := fun z => by
  have q := k.sl j y hy
  cases y with
  | ls r xs =>
    cases z
    exact q.2.ne h
  | an r xs =>
    cases z
    exact Own.ne q h
  | un => cases z
  | im d => cases z
  | vv v => cases z
/-- an owned list is written -/
theorem Ok.write (k : Ok F s σ G H) {i : Nat} {x x' : SV} {p : Addr} {xs' : List PyData} {vs' : List V} (hi : s[i]? = some x) (hx : (∃ xs, x = .ls p xs ∧ x' = .ls p xs') ∨ ∃ xs, x = .an p xs ∧ x' = .an p xs') (ha : DpAll F.K G vs' xs') : Ok F (s.set i x') σ G (upd H p (.lst vs')) := by
  have ow : ∃ xs, Own F G H p xs := by
    have q := k.sl i x hi
    rcases hx with ⟨xs, rfl, _⟩ | ⟨xs, rfl, _⟩
    · exact ⟨xs, q.2⟩
    · exact ⟨xs, q⟩
  have ad : x.adr = some p ∧ x'.adr = some p := by
    rcases hx with ⟨xs, rfl, rfl⟩ | ⟨xs, rfl, rfl⟩ <;> exact ⟨rfl, rfl⟩
  obtain ⟨xs, ow⟩ := ow
  have no : Own F G (upd H p (.lst vs')) p xs' := ⟨⟨vs', upd_same, ha⟩, ow.no, ow.mine⟩
  have oth : ∀ {r : Addr} {ys : List PyData}, r ≠ p → Own F G H r ys → Own F G (upd H p (.lst vs')) r ys := fun {r ys} hr o => o.lift (Same.refl G) (upd_ne hr) o.no
  refine ⟨k.gg, fun b u z => ?_, fun b o hb z => ?_, k.fr, fun b hb => ?_, k.ln, fun j y hy => ?_, fun a b y z r hy hz h1 h2 => ?_⟩
  · have hb : b ≠ p := fun e => by
      rw [e, ow.no] at z
      cases z
    rw [upd_ne hb]
    exact k.gh b u z
  · have hbp : b ≠ p := fun e => by
      subst e
      rcases ow.mine with q | q
      · rw [q] at z
        cases z
      · exact hb q
    rw [upd_ne hbp]
    exact k.hh b o hb z
  · by_cases hbp : b = p
    · rw [hbp, upd_same]
      intro z
      cases z
    · rw [upd_ne hbp]
      exact k.bb b hb
  · rcases getElem?_set_cases hy with ⟨rfl, rfl, _⟩ | ⟨hj, hy⟩
    · have q := k.sl j x hi
      rcases hx with ⟨xs, rfl, rfl⟩ | ⟨xs, rfl, rfl⟩
      · exact ⟨q.1, no⟩
      · exact no
    · have q := k.sl j y hy
      cases y with
      | un => trivial
      | im d => exact q
      | vv v => exact q
      | ls r ys =>
        have hr : r ≠ p := fun e => hj (k.ds j i (.ls r ys) x p hy hi (by rw [e]; rfl) ad.1)
        exact ⟨q.1, oth hr q.2⟩
      | an r ys =>
        have hr : r ≠ p := fun e => hj (k.ds j i (.an r ys) x p hy hi (by rw [e]; rfl) ad.1)
        exact oth hr q
  · rcases getElem?_set_cases hy with ⟨rfl, rfl, _⟩ | ⟨n1, hy2⟩
    · rw [ad.2] at h1
      rcases getElem?_set_cases hz with ⟨rfl, rfl, _⟩ | ⟨n2, hz⟩
      · rfl
      · exact k.ds a b x z r hi hz (ad.1.trans h1) h2
    · rcases getElem?_set_cases hz with ⟨rfl, rfl, _⟩ | ⟨n2, hz2⟩
      · rw [ad.2] at h2
        exact k.ds a b y x r hy2 hi h1 (ad.1.trans h2)
      · exact k.ds a b y z r hy2 hz2 h1 h2
/-- an owned list becomes data -/
theorem Ok.freeze (k : Ok F s σ G H) {i : Nat} {p : Addr} {xs : List PyData} (hi : s[i]? = some (.ls p xs)) (hB : p ∉ F.B) : ∃ G', Ok F (s.set i (.im (.list xs))) σ G' H ∧ Same G G' ∧ Dp F.K G' (.ref p) (.list xs) := by
  obtain ⟨hσ, ⟨vs, hp, ha⟩, hg, hm⟩ := k.sl i _ hi
  have h0 : F.H0 p = none := hm.resolve_right hB
  have e : Same G (upd G p (.lst vs)) := same_new hg
  have D : Dp F.K (upd G p (.lst vs)) (.ref p) (.list xs) := .lst (.of upd_same) (dpAll_mono e _ _ ha)
  refine ⟨upd G p (.lst vs), ⟨fun b o z => e b o (k.gg b o z), fun b u z => ?_, k.hh, fun b z => ?_, k.bb, k.ln, fun j y hy => ?_, fun a b y z r hy hz h1 h2 => ?_⟩, e, D⟩
  · by_cases hb : b = p
    · rw [hb, upd_same] at z
      rw [hb, hp]
      exact z
    · rw [upd_ne hb] at z
      exact k.gh b u z
  · by_cases hb : b = p
    · rw [hb]
      exact .inr h0
    · rw [upd_ne hb] at z
      exact k.fr b z
  · rcases getElem?_set_cases hy with ⟨rfl, rfl, _⟩ | ⟨hj, hy⟩
    · exact ⟨_, hσ, D⟩
    · have q := k.sl j y hy
      have oth : ∀ {r : Addr} {ys : List PyData}, r ≠ p → Own F G H r ys → Own F (upd G p (.lst vs)) H r ys := fun {r ys} hr o => o.lift e rfl (by rw [upd_ne hr]; exact o.no)
      cases y with
      | un => trivial
      | im d =>
        obtain ⟨v, h1, h2⟩ := q
        exact ⟨v, h1, dp_mono e _ _ h2⟩
      | vv v => exact q
      | ls r ys =>
        have hr : r ≠ p := fun e => hj (k.ds j i (.ls r ys) (.ls p xs) p hy hi (by rw [e]; rfl) rfl)
        exact ⟨q.1, oth hr q.2⟩
      | an r ys =>
        have hr : r ≠ p := fun e => hj (k.ds j i (.an r ys) (.ls p xs) p hy hi (by rw [e]; rfl) rfl)
        exact oth hr q
  · rcases getElem?_set_cases hy with ⟨rfl, rfl, _⟩ | ⟨_, hy⟩
    · cases h1
    · rcases getElem?_set_cases hz with ⟨rfl, rfl, _⟩ | ⟨_, hz⟩
      · cases h2
      · exact k.ds a b y z r hy hz h1 h2
end
end Pk
/-! What readings come to, over slots as data. -/
namespace Pk
open PySem PySem.Spec L2

/-- G and H grow: new things alone -/
structure Grow (G H G' H' : Hp) : Prop where
  g : Same G G'
  gh : Same G' H'
  h : Same H H'
  fr : ∀ b, G' b ≠ none → G b ≠ none ∨ H b = none
theorem Grow.refl {G H : Hp} (e : Same G H) : Grow G H G H := ⟨Same.refl G, e, Same.refl H, fun _ z => .inl z⟩
theorem Grow.trans {G H G1 H1 G2 H2 : Hp} (a : Grow G H G1 H1) (b : Grow G1 H1 G2 H2) : Grow G H G2 H2 :=
  ⟨a.g.trans b.g, b.gh, a.h.trans b.h, fun c z => by
    rcases b.fr c z with q | q
    · exact a.fr c q
    · exact .inr (a.h.free q)⟩
theorem Grow.new {G H : Hp} (e : Same G H) {p : Addr} (h : H p = none) (o : HO) : Grow G H (upd G p o) (upd H p o) :=
  ⟨same_new (e.free h), same_upd2 e, same_new h, fun b z => by
    by_cases hb : b = p
    · rw [hb]
      exact .inr h
    · rw [upd_ne hb] at z
      exact .inl z⟩
theorem Ok.grow {F : Fr} {s : Sts} {σ : L2.St} {G H G' H' : Hp} (k : Ok F s σ G H) (g : Grow G H G' H') : Ok F s σ G' H' := k.go g.g g.gh g.h g.fr

section
variable (F : Fr)
/-- data | exactly this value | a new list of one's own | a list or tuple that can be read now | arguments | a test -/
def Ev (te : TE) (s : Sts) (d : PyData) (s' : Sts) : Prop := ∀ σ G H, Ok F s σ G H → ∀ Q : VK, (∀ v G' H', Ok F s' σ G' H' → Same G G' → Dp F.K G' v d → Q v H') → te σ H Q
def EvV (te : TE) (s : Sts) (v : V) (s' : Sts) : Prop := ∀ σ G H, Ok F s σ G H → ∀ Q : VK, (∀ G' H', Ok F s' σ G' H' → Same G G' → Q v H') → te σ H Q
structure NewL (s' : Sts) (p : Addr) (vs : List V) (xs : List PyData) (G' H' : Hp) : Prop where
  at_ : H' p = some (.lst vs)
  no : G' p = none
  mine : F.H0 p = none
  nb : p ∉ F.B
  ap : ∀ (j : Nat) (y : SV), s'[j]? = some y → y.adr ≠ some p
  all : DpAll F.K G' vs xs
def EvL (te : TE) (s : Sts) (xs : List PyData) (s' : Sts) : Prop := ∀ σ G H, Ok F s σ G H → ∀ Q : VK, (∀ p vs G' H', Ok F s' σ G' H' → Same G G' → NewL F s' p vs xs G' H' → Q (.ref p) H') → te σ H Q
def EvS (te : TE) (s : Sts) (xs : List PyData) (s' : Sts) : Prop := ∀ σ G H, Ok F s σ G H → ∀ Q : VK, (∀ p vs G' H', Ok F s' σ G' H' → Same G G' → (SqL F.K H' p vs ∨ SqT F.K H' p vs) → DpAll F.K G' vs xs → Q (.ref p) H') → te σ H Q
def EvA (ta : TA) (s : Sts) (ds : List PyData) (s' : Sts) : Prop := ∀ σ G H, Ok F s σ G H → ∀ Q : List V → Hp → Prop, (∀ vs G' H', Ok F s' σ G' H' → Same G G' → DpAll F.K G' vs ds → Q vs H') → ta σ H Q
def EvT (tt : TT) (s : Sts) (b : Bool) (s' : Sts) : Prop := ∀ σ G H, Ok F s σ G H → ∀ Q : Bool → Hp → Prop, (∀ G' H', Ok F s' σ G' H' → Same G G' → Q b H') → tt σ H Q
/-- a two-place operation, a one-place one, a call of a builtin, a subscript, by data -/
def RV (r : R2) (d1 d2 d : PyData) : Prop := ∀ G H x y Q, Same G H → Dp F.K G x d1 → Dp F.K G y d2 → (∀ z G' H', Grow G H G' H' → Dp F.K G' z d → Q z H') → r x y H Q
def RU (r : V → Hp → VK → Prop) (d1 d : PyData) : Prop := ∀ G H x Q, Same G H → Dp F.K G x d1 → (∀ z G' H', Grow G H G' H' → Dp F.K G' z d → Q z H') → r x H Q
def RC (r : List V → Hp → VK → Prop) (ds : List PyData) (d : PyData) : Prop := ∀ G H vs Q, Same G H → DpAll F.K G vs ds → (∀ z G' H', Grow G H G' H' → Dp F.K G' z d → Q z H') → r vs H Q
def RM (T : String) (r : V → List V → Hp → VK → Prop) (d : PyData) (ds : List PyData) (e : PyData) : Prop := ∀ G H x vs Q, Same G H → Dp F.K G x d → DpAll F.K G vs ds → (∀ z G' H', Grow G H G' H' → Dp F.K G' z e → Q z H') → r x vs H Q
end
section
variable {F : Fr} {s s' s1 s2 s3 : Sts} {ta tb te tc : TE} {t u : TT} {d d1 d2 e : PyData} {xs ds : List PyData} {b c : Bool} {i : Nat} {p : Addr} {v : V}
theorem Ev.to (h : Ev F te s d s') (q : d = e) : Ev F te s e s' := q ▸ h
theorem Ev.toS (h : Ev F te s d s1) (q : s1 = s2) : Ev F te s d s2 := q ▸ h
theorem EvT.to (h : EvT F t s b s') (q : b = c) : EvT F t s c s' := q ▸ h

/-! ### names, constants -/
theorem ev_var (h : s[i]? = some (.im d)) : Ev F (tVar i) s d s := fun σ G H k Q q => by
  obtain ⟨v, h1, h2⟩ := k.sl i _ h
  exact ⟨v, h1, q v G H k (Same.refl G) h2⟩
theorem evV_var (h : s[i]? = some (.vv v)) : EvV F (tVar i) s v s := fun σ G H k Q q => ⟨v, k.sl i _ h, q G H k (Same.refl G)⟩
theorem es_var (h : s[i]? = some (.ls p xs)) : EvS F (tVar i) s xs s := fun σ G H k Q q => by
  obtain ⟨h1, ⟨vs, h2, h3⟩, _, _⟩ := k.sl i _ h
  exact ⟨.ref p, h1, q p vs G H k (Same.refl G) (.inl (.of h2)) h3⟩
theorem ev_cI {z : Int} : Ev F (tC (.int z)) s (.int z) s := fun σ G H k Q q => q _ G H k (Same.refl G) (.int z)
theorem ev_cS {z : Str} : Ev F (tC (.str z)) s (.str z) s := fun σ G H k Q q => q _ G H k (Same.refl G) (.str z)
theorem ev_cB {z : Bool} : Ev F (tC (.bl z)) s (.bool z) s := fun σ G H k Q q => q _ G H k (Same.refl G) (.bl z)
theorem ev_cN : Ev F (tC .non) s .none s := fun σ G H k Q q => q _ G H k (Same.refl G) .non
theorem ev_cG (h : ∀ G, Dp F.K G v d) : Ev F (tC v) s d s := fun σ G H k Q q => q _ G H k (Same.refl G) (h G)
theorem evV_c : EvV F (tC v) s v s := fun σ G H k Q q => q G H k (Same.refl G)

/-! ### sequences -/
theorem es_tup (h : Ev F te s (.tuple xs) s') : EvS F te s xs s' := fun σ G H k Q q => h σ G H k _ fun v G' H' k' e' D => by
  obtain ⟨a, vs, rfl, h1, h2⟩ := dp_tup D
  exact q a vs G' H' k' e' (.inr (sqT_mono k'.gh h1)) h2
theorem es_lst (h : Ev F te s (.list xs) s') : EvS F te s xs s' := fun σ G H k Q q => h σ G H k _ fun v G' H' k' e' D => by
  obtain ⟨a, vs, rfl, h1, h2⟩ := dp_lst D
  exact q a vs G' H' k' e' (.inl (sqL_mono k'.gh h1)) h2
theorem es_new (h : EvL F te s xs s') : EvS F te s xs s' := fun σ G H k Q q => h σ G H k _ fun p vs G' H' k' e' n => q p vs G' H' k' e' (.inl (.of n.at_)) n.all
/-- a new list becomes data -/
theorem ev_frz (h : EvL F te s xs s') : Ev F te s (.list xs) s' := fun σ G H k Q q => h σ G H k _ fun p vs G' H' k' e' n => by
  have g : Same G' (upd G' p (.lst vs)) := same_new n.no
  have hh : Same (upd G' p (.lst vs)) H' := fun b u z => by
    by_cases hb : b = p
    · rw [hb, upd_same] at z
      rw [hb, n.at_]
      exact z
    · rw [upd_ne hb] at z
      exact k'.gh b u z
  refine q _ (upd G' p (.lst vs)) H' ⟨fun b o z => g b o (k'.gg b o z), hh, k'.hh, fun b z => ?_, k'.bb, k'.ln, fun j y hy => ?_, k'.ds⟩ (e'.trans g) (.lst (.of upd_same) (dpAll_mono g _ _ n.all))
  · by_cases hb : b = p
    · rw [hb]
      exact .inr n.mine
    · rw [upd_ne hb] at z
      exact k'.fr b z
  · have z := k'.sl j y hy
    have oth : ∀ {r : Addr} {ys : List PyData}, y.adr = some r → Own F G' H' r ys → Own F (upd G' p (.lst vs)) H' r ys := fun {r ys} hr o => o.lift g rfl (by rw [upd_ne (fun q => n.ap j y hy (by rw [hr, q]))]; exact o.no)
    cases y with
    | un => trivial
    | im d =>
      obtain ⟨v, h1, h2⟩ := z
      exact ⟨v, h1, dp_mono g _ _ h2⟩
    | vv v => exact z
    | ls r ys => exact ⟨z.1, oth rfl z.2⟩
    | an r ys => exact oth rfl z

/-! ### operators -/
theorem ev_op {r : R2} (ha : Ev F ta s d1 s1) (hb : Ev F tb s1 d2 s2) (hr : RV F r d1 d2 d) : Ev F (tOp r ta tb) s d s2 := fun σ G H k Q q =>
  ha σ G H k _ fun x G1 H1 k1 e1 D1 => hb σ G1 H1 k1 _ fun y G2 H2 k2 e2 D2 => hr G2 H2 x y Q k2.gh (dp_mono e2 _ _ D1) D2 fun z G3 H3 g D => q z G3 H3 (k2.grow g) ((e1.trans e2).trans g.g) D
theorem ev_un {r : V → Hp → VK → Prop} (ha : Ev F ta s d1 s1) (hr : RU F r d1 d) : Ev F (tUn r ta) s d s1 := fun σ G H k Q q =>
  ha σ G H k _ fun x G1 H1 k1 e1 D1 => hr G1 H1 x Q k1.gh D1 fun z G3 H3 g D => q z G3 H3 (k1.grow g) (e1.trans g.g) D
theorem ev_cb {r : List V → Hp → VK → Prop} {tas : TA} (ha : EvA F tas s ds s1) (hr : RC F r ds d) : Ev F (tCB r tas) s d s1 := fun σ G H k Q q =>
  ha σ G H k _ fun vs G1 H1 k1 e1 D1 => hr G1 H1 vs Q k1.gh D1 fun z G3 H3 g D => q z G3 H3 (k1.grow g) (e1.trans g.g) D
/-- pure operations: the answer hangs on the data alone -/
theorem rv_of {r : R2} (h : ∀ G H x y Q, Dp F.K G x d1 → Dp F.K G y d2 → (∀ z, (∀ G', Dp F.K G' z d) → Q z H) → r x y H Q) : RV F r d1 d2 d := fun G H x y Q e h1 h2 q => h G H x y Q h1 h2 fun z hz => q z G H (Grow.refl e) (hz G)
theorem rv_I0I {g : Int → Int → Int} {m n : Int} : RV F (rI0 fun i j => .int (g i j)) (.int m) (.int n) (.int (g m n)) := rv_of fun G H x y Q h1 h2 q => ⟨m, n, dp_int h1, dp_int h2, q _ fun _ => .int _⟩
theorem rv_I0B {g : Int → Int → Bool} {m n : Int} : RV F (rI0 fun i j => .bl (g i j)) (.int m) (.int n) (.bool (g m n)) := rv_of fun G H x y Q h1 h2 q => ⟨m, n, dp_int h1, dp_int h2, q _ fun _ => .bl _⟩
theorem rv_II {C : Int → Int → Prop} {g : Int → Int → Int} {m n : Int} (hc : C m n) : RV F (rI C fun i j => .int (g i j)) (.int m) (.int n) (.int (g m n)) := rv_of fun G H x y Q h1 h2 q => ⟨m, n, dp_int h1, dp_int h2, hc, q _ fun _ => .int _⟩
theorem rv_addS {x y : Str} (hz : x.length + y.length ≤ sizeLine) : RV F (fun a b H Q => ∃ i j, a = .str i ∧ b = .str j ∧ i.length + j.length ≤ sizeLine ∧ Q (.str (i ++ j)) H) (.str x) (.str y) (.str (x ++ y)) :=
  rv_of fun G H a b Q h1 h2 q => ⟨x, y, dp_str h1, dp_str h2, hz, q _ fun _ => .str _⟩
theorem ru_neg {g : Int → Int} {n : Int} : RU F (rU fun i => .int (g i)) (.int n) (.int (g n)) := fun G H x Q e h q => ⟨n, dp_int h, q _ G H (Grow.refl e) (.int _)⟩
/-- == of data -/
theorem rv_eqD {d1 d2 : PyData} (h1 : SeqAt.shaped d1 = true) (h2 : SeqAt.shaped d2 = true) : RV F (rEqD F.K) d1 d2 (.bool (PyData.eqv d1 d2)) := fun G H x y Q e a b q => ⟨d1, d2, dp_mono e _ _ a, dp_mono e _ _ b, h1, h2, q _ G H (Grow.refl e) (.bl _)⟩
theorem rv_neD {d1 d2 : PyData} (h1 : SeqAt.shaped d1 = true) (h2 : SeqAt.shaped d2 = true) : RV F (rNeD F.K) d1 d2 (.bool (!PyData.eqv d1 d2)) := fun G H x y Q e a b q => ⟨d1, d2, dp_mono e _ _ a, dp_mono e _ _ b, h1, h2, q _ G H (Grow.refl e) (.bl _)⟩
theorem rv_eqI {m n : Int} : RV F rEq (.int m) (.int n) (.bool (decide (m = n))) := rv_of fun G H x y Q h1 h2 q => by
  rw [dp_int h1, dp_int h2]
  refine ⟨rfl, ?_⟩
  rw [show decide (V.int m = V.int n) = decide (m = n) by simp]
  exact q _ fun _ => .bl _
theorem rv_neI {m n : Int} : RV F rNe (.int m) (.int n) (.bool (!decide (m = n))) := rv_of fun G H x y Q h1 h2 q => by
  rw [dp_int h1, dp_int h2]
  refine ⟨rfl, ?_⟩
  rw [show decide (V.int m = V.int n) = decide (m = n) by simp]
  exact q _ fun _ => .bl _
theorem rv_eqS {m n : Str} : RV F rEq (.str m) (.str n) (.bool (decide (m = n))) := rv_of fun G H x y Q h1 h2 q => by
  rw [dp_str h1, dp_str h2]
  refine ⟨rfl, ?_⟩
  rw [show decide (V.str m = V.str n) = decide (m = n) by simp]
  exact q _ fun _ => .bl _
theorem rv_neS {m n : Str} : RV F rNe (.str m) (.str n) (.bool (!decide (m = n))) := rv_of fun G H x y Q h1 h2 q => by
  rw [dp_str h1, dp_str h2]
  refine ⟨rfl, ?_⟩
  rw [show decide (V.str m = V.str n) = decide (m = n) by simp]
  exact q _ fun _ => .bl _
/-- one sign in a text -/
theorem rv_inSign {c : Nat} {z : Str} : RV F (fun x y H Q => ∃ (c : Nat) (z : Str), x = .str ⟨#[c]⟩ ∧ y = .str z ∧ Q (.bl (decide (c ∈ z.cps.toList))) H) (.str ⟨#[c]⟩) (.str z) (.bool (decide (c ∈ z.cps.toList))) :=
  rv_of fun G H x y Q h1 h2 q => ⟨c, z, dp_str h1, dp_str h2, q _ fun _ => .bl _⟩
theorem rv_notInSign {c : Nat} {z : Str} : RV F (fun x y H Q => ∃ (c : Nat) (z : Str), x = .str ⟨#[c]⟩ ∧ y = .str z ∧ Q (.bl (!decide (c ∈ z.cps.toList))) H) (.str ⟨#[c]⟩) (.str z) (.bool (!decide (c ∈ z.cps.toList))) :=
  rv_of fun G H x y Q h1 h2 q => ⟨c, z, dp_str h1, dp_str h2, q _ fun _ => .bl _⟩
/-- a text in a text -/
theorem rv_inStr {x y : Str} : RV F (fun a b H Q => ∃ i j, a = .str i ∧ b = .str j ∧ Q (.bl (!(Builtin.Str.occurrences j i 0 j.length 1).isEmpty)) H) (.str x) (.str y) (.bool (!(Builtin.Str.occurrences y x 0 y.length 1).isEmpty)) :=
  rv_of fun G H a b Q h1 h2 q => ⟨x, y, dp_str h1, dp_str h2, q _ fun _ => .bl _⟩
/-- a text among texts -/
theorem inV_strs (x : Str) : ∀ ys : List Str, inV (.str x) (ys.map V.str) = decide (x ∈ ys)
  | [] => by
    show false = _
    simp
  | y :: ys => by
    show (eqV (.str y) (.str x) || inV (.str x) (ys.map V.str)) = _
    rw [inV_strs x ys]
    show ((y == x) || decide (x ∈ ys)) = _
    by_cases h : y = x
    · simp [h]
    · have h' : ¬ x = y := fun z => h z.symm
      have e : (y == x) = false := by simpa using h
      rw [e]
      simp [h']
theorem flat_strs : ∀ ys : List Str, (ys.map V.str).all flatV = true
  | [] => rfl
  | y :: ys => flat_strs ys
theorem ev_inStrs {x : Str} {ys : List Str} (ha : Ev F ta s (.str x) s1) (hb : EvS F tb s1 (ys.map .str) s2) : Ev F (tOp (rIn F.K false) ta tb) s (.bool (decide (x ∈ ys))) s2 := fun σ G H k Q q =>
  ha σ G H k _ fun a G1 H1 k1 e1 D1 => hb σ G1 H1 k1 _ fun p vs G2 H2 k2 e2 hs hv => by
    have ev := dpAll_strs hv
    subst ev
    rw [dp_str D1]
    refine ⟨p, _, rfl, hs, rfl, flat_strs ys, ?_⟩
    rw [inV_strs]
    exact q _ G2 H2 k2 (e1.trans e2) (.bl _)
theorem ev_notInStrs {x : Str} {ys : List Str} (ha : Ev F ta s (.str x) s1) (hb : EvS F tb s1 (ys.map .str) s2) : Ev F (tOp (rIn F.K true) ta tb) s (.bool (!decide (x ∈ ys))) s2 := fun σ G H k Q q =>
  ha σ G H k _ fun a G1 H1 k1 e1 D1 => hb σ G1 H1 k1 _ fun p vs G2 H2 k2 e2 hs hv => by
    have ev := dpAll_strs hv
    subst ev
    rw [dp_str D1]
    refine ⟨p, _, rfl, hs, rfl, flat_strs ys, ?_⟩
    rw [inV_strs]
    exact q _ G2 H2 k2 (e1.trans e2) (.bl _)

/-! ### subscripts -/
theorem atI_of {α : Type} {l : List α} {z : Int} {j : Nat} {a : α} (hj : z = (j : Int)) (h : l[j]? = some a) : atI l z = some a := by
  rw [hj]
  exact atI_nat h
theorem ev_ix {z : Int} {j : Nat} (ha : EvS F ta s xs s1) (hb : Ev F tb s1 (.int z) s1) (hj : z = (j : Int)) (hx : xs[j]? = some d) (hp : ∀ σ G H, Ok F s1 σ G H → ∀ Q : VK, (∀ G' H', Ok F s1 σ G' H' → Same G G' → Same H H' → Q (.int z) H') → tb σ H Q) : Ev F (tOp (rIx F.K) ta tb) s d s1 := fun σ G H k Q q =>
  ha σ G H k _ fun p vs G1 H1 k1 e1 hs hv => hp σ G1 H1 k1 _ fun G2 H2 k2 e2 eh => by
    obtain ⟨v, h1, h2⟩ := dpAll_get hv hx
    rcases hs with hs | hs
    · exact .inl ⟨p, vs, z, v, rfl, rfl, sqL_mono eh hs, atI_of hj h1, q v G2 H2 k2 (e1.trans e2) (dp_mono e2 _ _ h2)⟩
    · exact .inr (.inl ⟨p, vs, z, v, rfl, rfl, sqT_mono eh hs, atI_of hj h1, q v G2 H2 k2 (e1.trans e2) (dp_mono e2 _ _ h2)⟩)
/-- a text's sign -/
theorem ev_ixS {z : Int} {j : Nat} {x : Str} {c : Nat} (ha : Ev F ta s (.str x) s1) (hb : Ev F tb s1 (.int z) s2) (hj : z = (j : Int)) (hx : x.cps.toList[j]? = some c) (hz : x.length ≤ sizeLine) : Ev F (tOp rIxS ta tb) s (.str ⟨#[c]⟩) s2 := fun σ G H k Q q =>
  ha σ G H k _ fun a G1 H1 k1 e1 D1 => hb σ G1 H1 k1 _ fun y G2 H2 k2 e2 D2 => by
    rw [dp_str D1, dp_int D2]
    exact ⟨x, z, c, rfl, rfl, hz, atI_of hj hx, q _ G2 H2 k2 (e1.trans e2) (.str _)⟩
/-- an item of data by a number -/
theorem ev_ixD {z : Int} {j : Nat} (ha : Ev F ta s e s1) (hb : Ev F tb s1 (.int z) s2) (he : e = .tuple xs ∨ e = .list xs) (hj : z = (j : Int)) (hx : xs[j]? = some d) : Ev F (tOp (rIx F.K) ta tb) s d s2 := fun σ G H k Q q =>
  ha σ G H k _ fun a G1 H1 k1 e1 D1 => hb σ G1 H1 k1 _ fun y G2 H2 k2 e2 D2 => by
    rw [dp_int D2]
    rcases he with rfl | rfl
    · obtain ⟨p, vs, rfl, hs, hv⟩ := dp_tup D1
      obtain ⟨v, h1, h2⟩ := dpAll_get hv hx
      exact .inr (.inl ⟨p, vs, z, v, rfl, rfl, sqT_mono (e2.trans k2.gh) hs, atI_of hj h1, q v G2 H2 k2 (e1.trans e2) (dp_mono e2 _ _ h2)⟩)
    · obtain ⟨p, vs, rfl, hs, hv⟩ := dp_lst D1
      obtain ⟨v, h1, h2⟩ := dpAll_get hv hx
      exact .inl ⟨p, vs, z, v, rfl, rfl, sqL_mono (e2.trans k2.gh) hs, atI_of hj h1, q v G2 H2 k2 (e1.trans e2) (dp_mono e2 _ _ h2)⟩
/-- an item of an owned list, the index plain -/
theorem ev_ixO {z : Int} (hi : s[i]? = some (.ls p xs)) (hb : Ev F tb s (.int z) s1) (hi1 : s1[i]? = some (.ls p xs)) (hj : atI xs z = some d) : Ev F (tOp (rIx F.K) (tVar i) tb) s d s1 := fun σ G H k Q q => by
  obtain ⟨h1, _⟩ := k.sl i _ hi
  refine ⟨.ref p, h1, hb σ G H k _ fun y G2 H2 k2 e2 D2 => ?_⟩
  rw [dp_int D2]
  obtain ⟨_, ⟨vs, h2, h3⟩, _, _⟩ := k2.sl i _ hi1
  unfold atI at hj
  rw [← dpAll_len h3] at hj
  cases q1 : ixN vs.length z with
  | none =>
    rw [q1] at hj
    cases hj
  | some m =>
    rw [q1, Option.bind_some] at hj
    obtain ⟨v, g1, g2⟩ := dpAll_get h3 hj
    refine .inl ⟨p, vs, z, v, rfl, rfl, .of h2, ?_, q v G2 H2 k2 e2 g2⟩
    unfold atI
    rw [q1, Option.bind_some]
    exact g1

/-! ### arguments, displays -/
theorem ea_nil : EvA F tNil s [] s := fun σ G H k Q q => q [] G H k (Same.refl G) .nil
theorem ea_cons {tr : TA} (ha : Ev F ta s d s1) (hr : EvA F tr s1 ds s2) : EvA F (tCons ta tr) s (d :: ds) s2 := fun σ G H k Q q =>
  ha σ G H k _ fun v G1 H1 k1 e1 D1 => hr σ G1 H1 k1 _ fun vs G2 H2 k2 e2 D2 => q (v :: vs) G2 H2 k2 (e1.trans e2) (.cons (dp_mono e2 _ _ D1) D2)
theorem ev_tup {tas : TA} (h : EvA F tas s ds s1) (hz : ds.length ≤ sizeLine) : Ev F (tTup tas) s (.tuple ds) s1 := fun σ G H k Q q =>
  h σ G H k _ fun vs G1 H1 k1 e1 D1 => ⟨by rw [dpAll_len D1]; exact hz, fun p hp => by
    obtain ⟨k2, g⟩ := k1.new hp (.tup vs)
    exact q _ _ _ k2 (e1.trans g) (.tup (.of upd_same) (dpAll_mono g _ _ D1))⟩
theorem el_lst {tas : TA} (h : EvA F tas s ds s1) (hz : ds.length ≤ sizeLine) : EvL F (tLst tas) s ds s1 := fun σ G H k Q q =>
  h σ G H k _ fun vs G1 H1 k1 e1 D1 => ⟨by rw [dpAll_len D1]; exact hz, fun p hp => by
    have f := k1.fresh hp
    exact q p vs G1 _ (k1.newH hp _) e1 ⟨upd_same, f.1, f.2.1, f.2.2, k1.adr_ne hp, D1⟩⟩
theorem ev_lst {tas : TA} (h : EvA F tas s ds s1) (hz : ds.length ≤ sizeLine) : Ev F (tLst tas) s (.list ds) s1 := ev_frz (el_lst h hz)

/-! ### tests -/
theorem et_test (h : Ev F te s (.bool b) s') : EvT F (tTest te) s b s' := fun σ G H k Q q => h σ G H k _ fun v G' H' k' e' D => ⟨b, dp_bool D, q G' H' k' e'⟩
theorem et_B (h : Ev F te s (.bool b) s') : EvT F (tB te) s b s' := fun σ G H k Q q => h σ G H k _ fun v G' H' k' e' D => ⟨b, dp_bool D, q G' H' k' e'⟩
theorem et_and (h1 : EvT F t s b s1) (h2 : b = true → EvT F u s1 c s2) (h3 : b = false → s1 = s2) : EvT F (tAnd t u) s (b && c) s2 := fun σ G H k Q q => h1 σ G H k _ fun G1 H1 k1 e1 => by
  cases b with
  | true =>
    show u σ H1 Q
    exact h2 rfl σ G1 H1 k1 Q fun G2 H2 k2 e2 => q G2 H2 k2 (e1.trans e2)
  | false =>
    show Q false H1
    exact q G1 H1 (h3 rfl ▸ k1) e1
theorem et_or (h1 : EvT F t s b s1) (h2 : b = false → EvT F u s1 c s2) (h3 : b = true → s1 = s2) : EvT F (tOr t u) s (b || c) s2 := fun σ G H k Q q => h1 σ G H k _ fun G1 H1 k1 e1 => by
  cases b with
  | true =>
    show Q true H1
    exact q G1 H1 (h3 rfl ▸ k1) e1
  | false =>
    show u σ H1 Q
    exact h2 rfl σ G1 H1 k1 Q fun G2 H2 k2 e2 => q G2 H2 k2 (e1.trans e2)
theorem et_not (h : EvT F t s b s') : EvT F (tNot t) s (!b) s' := fun σ G H k Q q => h σ G H k _ q
theorem ev_andV (h1 : Ev F ta s (.bool b) s1) (h2 : b = true → Ev F tb s1 (.bool c) s2) (h3 : b = false → s1 = s2) : Ev F (tAndV ta tb) s (.bool (b && c)) s2 := fun σ G H k Q q => h1 σ G H k _ fun v G1 H1 k1 e1 D1 => ⟨b, dp_bool D1, by
  cases b with
  | true =>
    show tb σ H1 Q
    exact h2 rfl σ G1 H1 k1 Q fun w G2 H2 k2 e2 D2 => q w G2 H2 k2 (e1.trans e2) D2
  | false =>
    show Q (.bl false) H1
    exact q _ G1 H1 (h3 rfl ▸ k1) e1 (.bl _)⟩
theorem ev_orV (h1 : Ev F ta s (.bool b) s1) (h2 : b = false → Ev F tb s1 (.bool c) s2) (h3 : b = true → s1 = s2) : Ev F (tOrV ta tb) s (.bool (b || c)) s2 := fun σ G H k Q q => h1 σ G H k _ fun v G1 H1 k1 e1 D1 => ⟨b, dp_bool D1, by
  cases b with
  | true =>
    show Q (.bl true) H1
    exact q _ G1 H1 (h3 rfl ▸ k1) e1 (.bl _)
  | false =>
    show tb σ H1 Q
    exact h2 rfl σ G1 H1 k1 Q fun w G2 H2 k2 e2 D2 => q w G2 H2 k2 (e1.trans e2) D2⟩
theorem ev_notV (h : Ev F te s (.bool b) s') : Ev F (tNotV te) s (.bool (!b)) s' := fun σ G H k Q q => h σ G H k _ fun v G' H' k' e' D => ⟨b, dp_bool D, q _ G' H' k' e' (.bl _)⟩
/-- a if t else b: one side's data each -/
theorem ev_if (h : EvT F t s b s1) (h1 : b = true → Ev F ta s1 d s2) (h2 : b = false → Ev F tb s1 d s2) : Ev F (tIf t ta tb) s d s2 := fun σ G H k Q q => h σ G H k _ fun G1 H1 k1 e1 => by
  cases b with
  | true =>
    show ta σ H1 Q
    exact h1 rfl σ G1 H1 k1 Q fun w G2 H2 k2 e2 D2 => q w G2 H2 k2 (e1.trans e2) D2
  | false =>
    show tb σ H1 Q
    exact h2 rfl σ G1 H1 k1 Q fun w G2 H2 k2 e2 D2 => q w G2 H2 k2 (e1.trans e2) D2
theorem ev_ifE (h : EvT F t s b s1) (h1 : b = true → Ev F ta s1 d1 s2) (h2 : b = false → Ev F tb s1 d2 s2) : Ev F (tIf t ta tb) s (if b then d1 else d2) s2 := ev_if h (fun e => by subst e; exact h1 rfl) (fun e => by subst e; exact h2 rfl)
end

/-! ### what defs promise -/
/-- data in, data out, nothing changed -/
def spP {α : Type} (K : PySem.W.Frag) (A : α → List PyData) (pre : α → Prop) (f : α → PyData) : Sp := fun vs H Q _ => ∃ G a, Same G H ∧ DpAll K G vs (A a) ∧ pre a ∧ ∀ v G' H', Grow G H G' H' → Dp K G' v (f a) → Q v H'
/-- data in, a new list out -/
def spN {α : Type} (K : PySem.W.Frag) (A : α → List PyData) (pre : α → Prop) (f : α → List PyData) : Sp := fun vs H Q _ => ∃ G a, Same G H ∧ DpAll K G vs (A a) ∧ pre a ∧ ∀ p ws G' H', Grow G H G' H' → H p = none → G' p = none → H' p = some (.lst ws) → DpAll K G' ws (f a) → Q (.ref p) H'
/-- the first argument is a list that is changed -/
structure GrowB (p : Addr) (G H G' H' : Hp) : Prop where
  g : Same G G'
  gh : Same G' H'
  h : ∀ b o, b ≠ p → H b = some o → H' b = some o
  fr : ∀ b, G' b ≠ none → G b ≠ none ∨ H b = none
def spT {α : Type} (K : PySem.W.Frag) (T A : α → List PyData) (pre : α → Prop) (f : α → PyData) (T' : α → List PyData) : Sp := fun vs H Q _ => ∃ G a p us ws, vs = .ref p :: ws ∧ Same G H ∧ G p = none ∧ H p = some (.lst us) ∧ DpAll K G us (T a) ∧ DpAll K G ws (A a) ∧ pre a ∧
  ∀ v us' G' H', GrowB p G H G' H' → H' p = some (.lst us') → DpAll K G' us' (T' a) → Dp K G' v (f a) → Q v H'
/-- the first argument is a list that is changed anyhow -/
def spB {α : Type} (K : PySem.W.Frag) (T A : α → List PyData) (pre : α → Prop) (f : α → PyData) : Sp := fun vs H Q _ => ∃ G a p us ws, vs = .ref p :: ws ∧ Same G H ∧ G p = none ∧ H p = some (.lst us) ∧ DpAll K G us (T a) ∧ DpAll K G ws (A a) ∧ pre a ∧
  ∀ v us' xs G' H', GrowB p G H G' H' → H' p = some (.lst us') → DpAll K G' us' xs → Dp K G' v (f a) → Q v H'
/-- data in, data out, or an own error whose dict holds fields -/
def spX {α : Type} (K : PySem.W.Frag) (A : α → List PyData) (pre : α → Prop) (g : α → Except (Addr × List (Str × PyData)) PyData) : Sp := fun vs H Q E => ∃ G a, Same G H ∧ DpAll K G vs (A a) ∧ pre a ∧
  (∀ d, g a = .ok d → ∀ v G' H', Grow G H G' H' → Dp K G' v d → Q v H') ∧
  ∀ C fs, g a = .error (C, fs) → ∀ (dd : Addr) (ws : List (Str × V)) G' H', Grow G H G' H' → H dd = none → G' dd = some (.xd ws) → Paired (fun (w : Str × V) (q : Str × PyData) => w.1 = q.1 ∧ Dp K G' w.2 q.2) ws fs → E (.ref C) (some dd) H'
section
variable {F : Fr} {s s1 s2 : Sts} {α : Type} {ta : TA} {A T T' : α → List PyData} {pre : α → Prop} {f : α → PyData} {E : XK} {i : Nat} {p : Addr} {ds : List PyData}
theorem ev_call (a : α) (h : EvA F ta s ds s1) (hd : ds = A a) (hp : pre a) : Ev F (tCall (spP F.K A pre f) [] E ta) s (f a) s1 := fun σ G H k Q q =>
  h σ G H k _ fun vs G1 H1 k1 e1 D1 => by
    subst hd
    refine ⟨G1, a, k1.gh, ?_, hp, fun v G2 H2 g D => q v G2 H2 (k1.grow g) (e1.trans g.g) D⟩
    rw [List.append_nil]
    exact D1
/-- a call that could raise, and does not -/
theorem ev_callX {g : α → Except (Addr × List (Str × PyData)) PyData} {d : PyData} (a : α) (h : EvA F ta s ds s1) (hd : ds = A a) (hp : pre a) (ho : g a = .ok d) : Ev F (tCall (spX F.K A pre g) [] E ta) s d s1 := fun σ G H k Q q =>
  h σ G H k _ fun vs G1 H1 k1 e1 D1 => by
    subst hd
    refine ⟨G1, a, k1.gh, ?_, hp, fun d' e' v G2 H2 gr D => ?_, fun C fs e' => ?_⟩
    · rw [List.append_nil]
      exact D1
    · rw [ho] at e'
      cases e'
      exact q v G2 H2 (k1.grow gr) (e1.trans gr.g) D
    · rw [ho] at e'
      cases e'
theorem Ok.growBx {σ : L2.St} {G H G' H' : Hp} {us' : List V} {x x' : SV} {xs' : List PyData} (k : Ok F s σ G H) (hi : s[i]? = some x) (hx : (∃ xs, x = .ls p xs ∧ x' = .ls p xs') ∨ ∃ xs, x = .an p xs ∧ x' = .an p xs') (g : GrowB p G H G' H') (hp : H' p = some (.lst us')) (ha : DpAll F.K G' us' xs') : Ok F (s.set i x') σ G' H' := by
  have ow : ∃ xs, Own F G H p xs := by
    have q := k.sl i x hi
    rcases hx with ⟨xs, rfl, _⟩ | ⟨xs, rfl, _⟩
    · exact ⟨xs, q.2⟩
    · exact ⟨xs, q⟩
  obtain ⟨xs, ⟨us, h1, h2⟩, hg, hm⟩ := ow
  have hgp : G' p = none := by
    cases q : G' p with
    | none => rfl
    | some u =>
      rcases g.fr p (by rw [q]; intro z; cases z) with z | z
      · exact absurd hg z
      · rw [h1] at z
        cases z
  have k1 : Ok F s σ G' (upd H' p (.lst us)) := k.go g.g
    (fun b u z => by
      have hb : b ≠ p := fun e => by
        rw [e, hgp] at z
        cases z
      rw [upd_ne hb]
      exact g.gh b u z)
    (fun b o z => by
      by_cases hb : b = p
      · rw [hb] at z ⊢
        rw [upd_same, ← z, h1]
      · rw [upd_ne hb]
        exact g.h b o hb z) g.fr
  have k2 := k1.write (vs' := us') (xs' := xs') (x' := x') hi hx ha
  have e : upd (upd H' p (.lst us)) p (.lst us') = H' := by
    rw [upd_upd]
    funext b
    by_cases hb : b = p
    · rw [hb, upd_same, hp]
    · rw [upd_ne hb]
  rw [e] at k2
  exact k2
theorem Ok.growB {σ : L2.St} {G H G' H' : Hp} {us' : List V} {xs xs' : List PyData} (k : Ok F s σ G H) (hi : s[i]? = some (.ls p xs)) (g : GrowB p G H G' H') (hp : H' p = some (.lst us')) (ha : DpAll F.K G' us' xs') : Ok F (s.set i (.ls p xs')) σ G' H' := k.growBx hi (.inl ⟨xs, rfl, rfl⟩) g hp ha
theorem el_callN {f : α → List PyData} (a : α) (h : EvA F ta s ds s1) (hd : ds = A a) (hp : pre a) : EvL F (tCall (spN F.K A pre f) [] E ta) s (f a) s1 := fun σ G H k Q q =>
  h σ G H k _ fun vs G1 H1 k1 e1 D1 => by
    subst hd
    refine ⟨G1, a, k1.gh, by rw [List.append_nil]; exact D1, hp, fun p ws G' H' g h1 h2 h3 h4 => ?_⟩
    have f := k1.fresh h1
    exact q p ws G' H' (k1.grow g) (e1.trans g.g) ⟨h3, h2, f.2.1, f.2.2, k1.adr_ne h1, h4⟩
theorem ev_callT (a : α) (hi : s[i]? = some (.ls p (T a))) (h : EvA F ta s ds s1) (hd : ds = A a) (hi1 : s1[i]? = some (.ls p (T a))) (hp : pre a) :
    Ev F (tCall (spT F.K T A pre f T') [] E (tCons (tVar i) ta)) s (f a) (s1.set i (.ls p (T' a))) := fun σ G H k Q q => by
  have hv := (k.sl i _ hi).1
  refine ⟨.ref p, hv, h σ G H k _ fun vs G1 H1 k1 e1 D1 => ?_⟩
  obtain ⟨_, ⟨us, h2, h3⟩, hg, hm⟩ := k1.sl i _ hi1
  subst hd
  refine ⟨G1, a, p, us, vs, by rw [List.append_nil], k1.gh, hg, h2, h3, D1, hp, fun v us' G' H' g hp' ha D => ?_⟩
  exact q v G' H' (k1.growB hi1 g hp' ha) (e1.trans g.g) D
end
end Pk
/-! Statements over slots as data; loops; comprehensions. -/
namespace Pk
open PySem PySem.Spec L2

/-- what is returned: data, or a new list of one's own -/
inductive Rt where
  | d (x : PyData) | l (xs : List PyData)
def RtOk (F : Fr) (s' : Sts) (G' H' : Hp) (v : V) : Rt → Prop
  | .d x => Dp F.K G' v x
  | .l xs => ∃ p vs, v = .ref p ∧ NewL F s' p vs xs G' H'
/-- what is wanted behind: next, return, break, continue, an own error; what the context wishes of errors -/
structure Po where
  nx : Sts → Prop
  rt : Rt → Sts → Prop
  bk : Sts → Prop := fun _ => False
  ct : Sts → Prop := fun _ => False
  ex : Addr → List (Str × PyData) → Sts → Prop := fun _ _ _ => False
  wx : WX := fun _ _ _ _ => False
/-- an own error's dict -/
def XdOk (K : PySem.W.Frag) (G : Hp) (dd : Addr) (fs : List (Str × PyData)) : Prop := ∃ ws : List (Str × V), G dd = some (.xd ws) ∧ Paired (fun (w : Str × V) (q : Str × PyData) => w.1 = q.1 ∧ Dp K G w.2 q.2) ws fs
structure Dn (F : Fr) (P : Po) (G : Hp) (D : Ends) : Prop where
  N : ∀ s' σ' G' H', P.nx s' → Ok F s' σ' G' H' → Same G G' → D.nx σ' H'
  R : ∀ d v s' σ' G' H', P.rt d s' → Ok F s' σ' G' H' → Same G G' → RtOk F s' G' H' v d → D.rt v H'
  B : ∀ s' σ' G' H', P.bk s' → Ok F s' σ' G' H' → Same G G' → D.bk σ' H'
  C : ∀ s' σ' G' H', P.ct s' → Ok F s' σ' G' H' → Same G G' → D.ct σ' H'
  X : ∀ c fs s' σ' G' H' dd, P.ex c fs s' → Ok F s' σ' G' H' → Same G G' → XdOk F.K G' dd fs → F.H0 dd = none → P.wx (.ref c) (some dd) σ' H'
theorem Dn.go {F : Fr} {P : Po} {G G' : Hp} {D : Ends} (d : Dn F P G D) (e : Same G G') : Dn F P G' D :=
  ⟨fun a b c d' n kk e' => d.N a b c d' n kk (e.trans e'), fun x a b c d' f r kk e' => d.R x a b c d' f r kk (e.trans e'), fun a b c d' n kk e' => d.B a b c d' n kk (e.trans e'), fun a b c d' n kk e' => d.C a b c d' n kk (e.trans e'), fun a b c d' f g h n kk e' => d.X a b c d' f g h n kk (e.trans e')⟩
section
variable (F : Fr)
def W (t : TS) (s : Sts) (P : Po) : Prop := ∀ σ G H (D : Ends), Ok F s σ G H → Dn F P G D → t D σ H
/-- a target takes data; the slots but vs stay -/
def Tg (vs : List Nat) (g : TG) (d : PyData) (s s' : Sts) : Prop := ∀ σ G H v Q, Ok F s σ G H → Dp F.K G v d → (∀ σ', Ok F s' σ' G H → wipe σ' vs = wipe σ vs → Q σ' H) → g v σ H Q
def Tgs (vs : List Nat) (g : TGs) (ds : List PyData) (s s' : Sts) : Prop := ∀ σ G H ws Q, Ok F s σ G H → DpAll F.K G ws ds → (∀ σ', Ok F s' σ' G H → wipe σ' vs = wipe σ vs → Q σ' H) → g ws σ H Q
/-- what an iterator yields -/
def Yd (G1 : Hp) (H : Hp) (x : V) (H' : Hp) (d : PyData) : Prop :=
  (H' = H ∧ Dp F.K G1 x d) ∨ ∃ T x1 x2 d1 d2, x = .ref T ∧ H T = none ∧ H' = upd H T (.tup [x1, x2]) ∧ d = .tuple [d1, d2] ∧ Dp F.K G1 x1 d1 ∧ Dp F.K G1 x2 d2
structure Wk (J : It) (G1 : Hp) (ds : List PyData) : Prop where
  goes : ∀ i H, i < ds.length → Same G1 H → J.go i H
  stops : ∀ H, Same G1 H → J.stop ds.length H
  yields : ∀ i H x H' d, ds[i]? = some d → Same G1 H → J.yld i H x H' → Yd F G1 H x H' d
def EvI (wi : TI) (s : Sts) (ds : List PyData) (s' : Sts) : Prop := ∀ σ G H, Ok F s σ G H → ∀ R : It → Hp → Prop, (∀ J G' H', Ok F s' σ G' H' → Same G G' → Wk F J G' ds → R J H') → wi σ H R
end

/-! the slots of a block's own names -/
theorem wipe_get (σ : L2.St) (j : Nat) : ∀ vs : List Nat, (wipe σ vs)[j]? = if j ∈ vs ∧ j < σ.length then some none else σ[j]?
  | [] => by simp [wipe]
  | v :: vs => by
    show ((wipe σ vs).set v none)[j]? = _
    rw [List.getElem?_set, wipe_length, wipe_get σ j vs]
    by_cases e : v = j
    · subst e
      rw [if_pos rfl]
      by_cases h : v < σ.length
      · simp [h]
      · simp [h]
    · rw [if_neg e]
      have e' : ¬ j = v := fun z => e z.symm
      simp only [List.mem_cons, e', false_or]
theorem wipe_wipe (σ : L2.St) (vs : List Nat) : wipe (wipe σ vs) vs = wipe σ vs := by
  apply List.ext_getElem?
  intro j
  rw [wipe_get, wipe_length, wipe_get]
  by_cases h : j ∈ vs ∧ j < σ.length
  · rw [if_pos h, if_pos h]
  · rw [if_neg h, if_neg h]
theorem wipe_set {σ : L2.St} {vs : List Nat} {j : Nat} {x : Option V} (hj : j ∈ vs) : wipe (σ.set j x) vs = wipe σ vs := by
  apply List.ext_getElem?
  intro i
  rw [wipe_get, wipe_get, List.length_set]
  by_cases h : i ∈ vs ∧ i < σ.length
  · rw [if_pos h, if_pos h]
  · rw [if_neg h, if_neg h]
    by_cases e : j = i
    · subst e
      have hl : ¬ j < σ.length := fun z => h ⟨hj, z⟩
      rw [List.getElem?_eq_none (by rw [List.length_set]; omega), List.getElem?_eq_none (by omega)]
    · rw [List.getElem?_set_ne e]
def wipeS (s : Sts) : List Nat → Sts
  | [] => s
  | v :: vs => (wipeS s vs).set v .un
section
variable {F : Fr} {s s' s1 s2 : Sts} {t u : TS} {te ta tb : TE} {tc : TT} {P P' : Po} {d : PyData} {xs ds : List PyData} {b : Bool} {i j : Nat} {p : Addr} {g : TG} {vs : List Nat} {wi : TI} {σ : L2.St} {G H : Hp}
theorem Ok.unset (k : Ok F s σ G H) (i : Nat) : Ok F (s.set i .un) (σ.set i none) G H := by
  refine ⟨k.gg, k.gh, k.hh, k.fr, k.bb, by rw [List.length_set]; exact k.ln, fun j x hx => ?_, fun a b x y p hx hy hp hq => ?_⟩
  · rcases getElem?_set_cases hx with ⟨rfl, rfl, _⟩ | ⟨hj, hx⟩
    · trivial
    · rw [List.getElem?_set_ne (Ne.symm hj)]
      exact k.sl j x hx
  · rcases getElem?_set_cases hx with ⟨rfl, rfl, _⟩ | ⟨_, hx⟩
    · cases hp
    · rcases getElem?_set_cases hy with ⟨rfl, rfl, _⟩ | ⟨_, hy⟩
      · cases hq
      · exact k.ds a b x y p hx hy hp hq
theorem Ok.wiped (k : Ok F s σ G H) : ∀ vs : List Nat, Ok F (wipeS s vs) (wipe σ vs) G H
  | [] => k
  | v :: vs => (k.wiped vs).unset v
/-- the same slots, some of them forgotten -/
theorem Ok.of_wiped {σ' : L2.St} (k : Ok F s (wipe σ vs) G H) (hl : σ.length = F.n) (hu : ∀ i ∈ vs, ∀ x, s[i]? = some x → x = .un ∨ ∃ p xs, x = .an p xs) : Ok F s σ G H := by
  refine ⟨k.gg, k.gh, k.hh, k.fr, k.bb, hl, fun j x hx => ?_, k.ds⟩
  have q := k.sl j x hx
  rw [wipe_get] at q
  by_cases h : j ∈ vs ∧ j < σ.length
  · rcases hu j h.1 x hx with rfl | ⟨p, xs, rfl⟩
    · trivial
    · exact q
  · rw [if_neg h] at q
    exact q
/-- less is known of the slots behind a place -/
theorem Ok.left {x : SV} (k : Ok F (s ++ [x]) σ G H) : Ok F s σ G H :=
  ⟨k.gg, k.gh, k.hh, k.fr, k.bb, k.ln, fun j y hy => k.sl j y (by rw [List.getElem?_append_left (List.getElem?_eq_some_iff.mp hy).1]; exact hy),
    fun a b y z p hy hz h1 h2 => k.ds a b y z p (by rw [List.getElem?_append_left (List.getElem?_eq_some_iff.mp hy).1]; exact hy) (by rw [List.getElem?_append_left (List.getElem?_eq_some_iff.mp hz).1]; exact hz) h1 h2⟩
theorem Ok.add {p : Addr} {us : List V} {xs : List PyData} (k : Ok F s σ G H) (hp : H p = some (.lst us)) (hg : G p = none) (h0 : F.H0 p = none) (ha : DpAll F.K G us xs) (hn : ∀ (j : Nat) (y : SV), s[j]? = some y → y.adr ≠ some p) : Ok F (s ++ [.an p xs]) σ G H := by
  have key : ∀ (j : Nat) (y : SV), (s ++ [SV.an p xs])[j]? = some y → s[j]? = some y ∨ (j = s.length ∧ y = .an p xs) := fun j y hy => by
    by_cases hj : j < s.length
    · rw [List.getElem?_append_left hj] at hy
      exact .inl hy
    · rw [List.getElem?_append_right (by omega)] at hy
      by_cases e : j - s.length = 0
      · rw [e] at hy
        exact .inr ⟨by omega, (Option.some.inj hy).symm⟩
      · obtain ⟨m, hm⟩ : ∃ m, j - s.length = m + 1 := ⟨j - s.length - 1, by omega⟩
        rw [hm] at hy
        simp at hy
  refine ⟨k.gg, k.gh, k.hh, k.fr, k.bb, k.ln, fun j y hy => ?_, fun a b y z r hy hz h1 h2 => ?_⟩
  · rcases key j y hy with hy | ⟨rfl, rfl⟩
    · exact k.sl j y hy
    · exact ⟨⟨us, hp, ha⟩, hg, .inl h0⟩
  · rcases key a y hy with hy | ⟨rfl, rfl⟩
    · rcases key b z hz with hz | ⟨rfl, rfl⟩
      · exact k.ds a b y z r hy hz h1 h2
      · cases h2
        exact absurd h1 (hn a y hy)
    · rcases key b z hz with hz | ⟨rfl, rfl⟩
      · cases h1
        exact absurd h2 (hn b z hz)
      · rfl

theorem W.mono (h : W F t s P) (h1 : ∀ s, P.nx s → P'.nx s) (h2 : ∀ d s, P.rt d s → P'.rt d s) (h3 : ∀ s, P.bk s → P'.bk s) (h4 : ∀ s, P.ct s → P'.ct s) (h5 : ∀ c fs s, P.ex c fs s → P'.ex c fs s) (h6 : P.wx = P'.wx) : W F t s P' := fun σ G H D k dn =>
  h σ G H D k ⟨fun s' σ' G' H' n => dn.N s' σ' G' H' (h1 s' n), fun d v s' σ' G' H' r => dn.R d v s' σ' G' H' (h2 d s' r), fun s' σ' G' H' n => dn.B s' σ' G' H' (h3 s' n), fun s' σ' G' H' n => dn.C s' σ' G' H' (h4 s' n), fun c fs s' σ' G' H' dd n => by rw [h6]; exact dn.X c fs s' σ' G' H' dd (h5 c fs s' n)⟩
theorem w_seq (M : Sts → Prop) (h1 : W F t s { P with nx := M }) (h2 : ∀ s', M s' → W F u s' P) : W F (tSeq t u) s P := fun σ G H D k dn =>
  h1 σ G H { D with nx := u D } k ⟨fun s' σ' G' H' m k' e' => h2 s' m σ' G' H' D k' (dn.go e'), dn.R, dn.B, dn.C, dn.X⟩
theorem w_next (h : P.nx s) : W F tNext s P := fun σ G H D k dn => dn.N s σ G H h k (Same.refl G)
theorem w_break (h : P.bk s) : W F tBreak s P := fun σ G H D k dn => dn.B s σ G H h k (Same.refl G)
theorem w_cont (h : P.ct s) : W F tCont s P := fun σ G H D k dn => dn.C s σ G H h k (Same.refl G)
theorem w_ret (h : Ev F te s d s') (r : P.rt (.d d) s') : W F (tRet te) s P := fun σ G H D k dn => h σ G H k _ fun v G' H' k' e' D' => dn.R (.d d) v s' σ G' H' r k' e' D'
theorem w_retL (h : EvL F te s xs s') (r : P.rt (.l xs) s') : W F (tRet te) s P := fun σ G H D k dn => h σ G H k _ fun p vs G' H' k' e' n => dn.R (.l xs) _ s' σ G' H' r k' e' ⟨p, vs, rfl, n⟩
theorem w_retN (r : P.rt (.d .none) s) : W F tRetN s P := fun σ G H D k dn => dn.R (.d .none) .non s σ G H r k (Same.refl G) .non

/-! targets -/
theorem tg_name (hi : i < F.n) (hv : i ∈ vs) : Tg F vs (gName i) d s (s.set i (.im d)) := fun σ G H v Q k D q => q _ (k.set hi D) (wipe_set hv)
theorem tgs_nil : Tgs F vs gNil [] s s := fun σ G H ws Q k D q => by
  cases D
  exact ⟨rfl, q σ k rfl⟩
theorem tgs_cons {gs : TGs} (h1 : Tg F vs g d s s1) (h2 : Tgs F vs gs ds s1 s2) : Tgs F vs (gCons g gs) (d :: ds) s s2 := fun σ G H ws Q k D q => by
  cases D with
  | cons D1 D2 => exact ⟨_, _, rfl, h1 σ G H _ _ k D1 fun σ' k' e1 => h2 σ' G H _ _ k' D2 fun σ2 k2 e2 => q σ2 k2 (e2.trans e1)⟩
theorem tg_tup {gs : TGs} {n : Nat} (hn : ds.length = n) (h : Tgs F vs gs ds s s') : Tg F vs (gTup F.K n gs) (.tuple ds) s s' := fun σ G H v Q k D q => by
  obtain ⟨a, ws, rfl, h1, h2⟩ := dp_tup D
  exact ⟨a, ws, rfl, sqT_mono k.gh h1, by rw [dpAll_len h2]; exact hn, h σ G H _ _ k h2 q⟩

/-! assignments, followed by the rest -/
theorem W.after (h : W F u s P) {G0' : Hp} (σ : L2.St) (G H : Hp) (D : Ends) (k : Ok F s σ G H) (e0 : Same G0' G) (dn : Dn F P G0' D) : u D σ H := h σ G H D k (dn.go e0)
theorem w_tg (h : Ev F te s d s1) (ht : Tg F vs g d s1 s2) (hu : W F u s2 P) : W F (tSeq (tAsg te g) u) s P := fun σ G H D k dn =>
  h σ G H k _ fun v G' H' k' e' D' => ht σ G' H' v _ k' D' fun σ' k2 _ => hu.after σ' G' H' D k2 e' dn
theorem w_tg1 (h : Ev F te s d s1) (ht : Tg F vs g d s1 s2) (hn : P.nx s2) : W F (tAsg te g) s P := fun σ G H D k dn =>
  h σ G H k _ fun v G' H' k' e' D' => ht σ G' H' v _ k' D' fun σ' k2 _ => dn.N s2 σ' G' H' hn k2 e'
theorem w_asg (h : Ev F te s d s1) (hi : i < F.n) (hu : W F u (s1.set i (.im d)) P) : W F (tSeq (tAsg te (gName i)) u) s P := w_tg h (tg_name (vs := [i]) hi (by simp)) hu
theorem w_asg1 (h : Ev F te s d s1) (hi : i < F.n) (hn : P.nx (s1.set i (.im d))) : W F (tAsg te (gName i)) s P := w_tg1 h (tg_name (vs := [i]) hi (by simp)) hn
theorem w_asgL (h : EvL F te s xs s1) (hi : i < F.n) (hu : ∀ p : Addr, p ∉ F.B → W F u (s1.set i (.ls p xs)) P) : W F (tSeq (tAsg te (gName i)) u) s P := fun σ G H D k dn =>
  h σ G H k _ fun p vs G' H' k' e' n => (hu p n.nb).after _ G' H' D (k'.setL hi n.at_ n.no n.mine n.all n.ap) e' dn
/-- a, b = x, y -/
theorem w_par {tas : TA} {d1 d2 : PyData} (h : EvA F tas s [d1, d2] s1) (hi : i < F.n) (hj : j < F.n) (hu : W F u ((s1.set i (.im d1)).set j (.im d2)) P) : W F (tSeq (tPar i j tas) u) s P := fun σ G H D k dn =>
  h σ G H k _ fun ws G' H' k' e' D' => by
    cases D' with
    | cons D1 D2 =>
      cases D2 with
      | cons D2 D3 =>
        cases D3
        exact ⟨_, _, rfl, hu.after _ G' H' D ((k'.set hi D1).set hj D2) e' dn⟩
/-- a, b = [..], y: the first one a new list of one's own -/
theorem w_parL {tl tb : TE} {d2 : PyData} (h : EvL F tl s xs s) (h2 : ∀ p, Ev F tb (s ++ [.an p xs]) d2 (s ++ [.an p xs])) (hi : i < F.n) (hj : j < F.n) (hij : i ≠ j) (hl : F.n ≤ s.length)
    (hu : ∀ p : Addr, p ∉ F.B → W F u ((s.set i (.ls p xs)).set j (.im d2)) P) : W F (tSeq (tPar i j (tCons tl (tCons tb tNil))) u) s P := fun σ G H D k dn =>
  h σ G H k _ fun p vs G' H' k' e' n => h2 p σ G' H' (k'.add n.at_ n.no n.mine n.all n.ap) _ fun v G2 H2 k2 e2 D2 => by
    refine ⟨_, _, rfl, ?_⟩
    have q := k2.sl s.length (.an p xs) (by simp)
    obtain ⟨⟨us, g1, g2⟩, g3, g4⟩ := q
    have ap2 : ∀ (j : Nat) (y : SV), s[j]? = some y → y.adr ≠ some p := fun j y hy z => by
      have h1 := k2.ds j s.length y (.an p xs) p (by rw [List.getElem?_append_left (List.getElem?_eq_some_iff.mp hy).1]; exact hy) (by simp) z rfl
      have h2 := (List.getElem?_eq_some_iff.mp hy).1
      omega
    exact (hu p n.nb).after _ G2 H2 D ((k2.left.setL hi g1 g3 n.mine g2 ap2).set hj D2) (e'.trans e2) dn
theorem w_drop (h : Ev F te s d s1) (hu : W F u s1 P) : W F (tSeq (tDrop te) u) s P := fun σ G H D k dn =>
  h σ G H k _ fun v G' H' k' e' _ => hu.after σ G' H' D k' e' dn
theorem w_drop1 (h : Ev F te s d s1) (hn : P.nx s1) : W F (tDrop te) s P := fun σ G H D k dn => h σ G H k _ fun v G' H' k' e' _ => dn.N s1 σ G' H' hn k' e'
/-- xs.append(e) of an owned list -/
theorem ok_app {xs1 : List PyData} (hi : s[i]? = some (.ls p xs)) (h : Ev F te s d s1) (hi1 : s1[i]? = some (.ls p xs1)) (hz : xs1.length < sizeLine) (σ : L2.St) (G H : Hp) (k : Ok F s σ G H) (Q : VK)
    (q : ∀ G' H', Ok F (s1.set i (.ls p (xs1 ++ [d]))) σ G' H' → Same G G' → Q .non H') : tBM F.K "list" rAppend (tVar i) (tCons te tNil) σ H Q := by
  obtain ⟨h1, ⟨us, h2, h3⟩, _, _⟩ := k.sl i _ hi
  refine ⟨.ref p, h1, .inl ⟨rfl, us, .of h2⟩, h σ G H k _ fun v G' H' k' e' D' => ?_⟩
  obtain ⟨_, ⟨us1, g2, g3⟩, _, _⟩ := k'.sl i _ hi1
  refine ⟨p, us1, v, rfl, rfl, g2, by rw [dpAll_len g3]; exact hz, ?_⟩
  exact q G' _ (k'.write hi1 (.inl ⟨xs1, rfl, rfl⟩) (dpAll_app g3 (dpAll_one D'))) e'
theorem w_app {xs1 : List PyData} (hi : s[i]? = some (.ls p xs)) (h : Ev F te s d s1) (hi1 : s1[i]? = some (.ls p xs1)) (hz : xs1.length < sizeLine) (hu : W F u (s1.set i (.ls p (xs1 ++ [d]))) P) : W F (tSeq (tDrop (tBM F.K "list" rAppend (tVar i) (tCons te tNil))) u) s P := fun σ G H D k dn =>
  ok_app hi h hi1 hz σ G H k _ fun G' H' k' e' => hu.after σ G' H' D k' e' dn
theorem w_app1 {xs1 : List PyData} (hi : s[i]? = some (.ls p xs)) (h : Ev F te s d s1) (hi1 : s1[i]? = some (.ls p xs1)) (hz : xs1.length < sizeLine) (hn : P.nx (s1.set i (.ls p (xs1 ++ [d])))) : W F (tDrop (tBM F.K "list" rAppend (tVar i) (tCons te tNil))) s P := fun σ G H D k dn =>
  ok_app hi h hi1 hz σ G H k _ fun G' H' k' e' => dn.N _ σ G' H' hn k' e'
/-- xs[z] = e of an owned list: e first -/
theorem ok_setL {z : Int} {m : Nat} {xs1 : List PyData} (h : Ev F te s d s1) (hi : s1[i]? = some (.ls p xs)) (hb : Ev F tb s1 (.int z) s2) (hi1 : s2[i]? = some (.ls p xs1)) (hm : ixN xs1.length z = some m) (σ : L2.St) (G H : Hp) (k : Ok F s σ G H) (Q : L2.St → Hp → Prop)
    (q : ∀ G' H', Ok F (s2.set i (.ls p (xs1.set m d))) σ G' H' → Same G G' → Q σ H') : (te σ H fun x H1 => gSub (tVar i) tb rSetL x σ H1 Q) := h σ G H k _ fun v G' H' k' e' D' => by
  obtain ⟨h1, _, _, _⟩ := k'.sl i _ hi
  refine ⟨.ref p, h1, hb σ G' H' k' _ fun y G2 H2 k2 e2 D2 => ?_⟩
  rw [dp_int D2]
  obtain ⟨_, ⟨us1, g2, g3⟩, _, _⟩ := k2.sl i _ hi1
  refine ⟨p, us1, z, m, rfl, rfl, g2, by rw [dpAll_len g3]; exact hm, ?_⟩
  exact q G2 _ (k2.write hi1 (.inl ⟨xs1, rfl, rfl⟩) (dpAll_set m (dp_mono e2 _ _ D') g3)) (e'.trans e2)
theorem w_setL {z : Int} {m : Nat} {xs1 : List PyData} (h : Ev F te s d s1) (hi : s1[i]? = some (.ls p xs)) (hb : Ev F tb s1 (.int z) s2) (hi1 : s2[i]? = some (.ls p xs1)) (hm : ixN xs1.length z = some m) (hu : W F u (s2.set i (.ls p (xs1.set m d))) P) : W F (tSeq (tAsg te (gSub (tVar i) tb rSetL)) u) s P := fun σ G H D k dn =>
  ok_setL h hi hb hi1 hm σ G H k _ fun G' H' k' e' => hu.after σ G' H' D k' e' dn
theorem w_setL1 {z : Int} {m : Nat} {xs1 : List PyData} (h : Ev F te s d s1) (hi : s1[i]? = some (.ls p xs)) (hb : Ev F tb s1 (.int z) s2) (hi1 : s2[i]? = some (.ls p xs1)) (hm : ixN xs1.length z = some m) (hn : P.nx (s2.set i (.ls p (xs1.set m d)))) : W F (tAsg te (gSub (tVar i) tb rSetL)) s P := fun σ G H D k dn =>
  ok_setL h hi hb hi1 hm σ G H k _ fun G' H' k' e' => dn.N _ σ G' H' hn k' e'

/-! if -/
theorem w_if (h : EvT F tc s b s1) (h1 : b = true → W F t s1 P) (h2 : b = false → W F u s1 P) : W F (tIfS tc t u) s P := fun σ G H D k dn => h σ G H k _ fun G' H' k' e' => by
  cases b with
  | true =>
    show t D σ H'
    exact (h1 rfl).after σ G' H' D k' e' dn
  | false =>
    show u D σ H'
    exact (h2 rfl).after σ G' H' D k' e' dn
/-- an if whose one way leaves, or whose way that goes on is the rest -/
theorem w_ifS {r : TS} (h : EvT F tc s b s1) (h1 : b = true → W F (tSeq t r) s1 P) (h2 : b = false → W F (tSeq u r) s1 P) : W F (tSeq (tIfS tc t u) r) s P := fun σ G H D k dn => h σ G H k _ fun G' H' k' e' => by
  cases b with
  | true =>
    show t { D with nx := r D } σ H'
    exact (h1 rfl).after σ G' H' D k' e' dn
  | false =>
    show u { D with nx := r D } σ H'
    exact (h2 rfl).after σ G' H' D k' e' dn
theorem w_skip (h : W F u s P) : W F (tSeq tNext u) s P := h
theorem w_retS (h : Ev F te s d s') (r : P.rt (.d d) s') : W F (tSeq (tRet te) u) s P := fun σ G H D k dn => h σ G H k _ fun v G' H' k' e' D' => dn.R (.d d) v s' σ G' H' r k' e' D'
theorem w_retLS (h : EvL F te s xs s') (r : P.rt (.l xs) s') : W F (tSeq (tRet te) u) s P := fun σ G H D k dn => h σ G H k _ fun p vs G' H' k' e' n => dn.R (.l xs) _ s' σ G' H' r k' e' ⟨p, vs, rfl, n⟩
theorem w_contS (h : P.ct s) : W F (tSeq tCont u) s P := fun σ G H D k dn => dn.C s σ G H h k (Same.refl G)
theorem w_breakS (h : P.bk s) : W F (tSeq tBreak u) s P := fun σ G H D k dn => dn.B s σ G H h k (Same.refl G)
/-- a call that changes its list anyhow, the list a new one without a name -/
theorem ev_callB0 {α : Type} {T : α → List PyData} {pre : α → Prop} {f : α → PyData} {E : XK} {tl : TE} (a : α) (h : EvL F tl s (T a) s1) (hp : pre a) : Ev F (tCall (spB F.K T (fun _ => []) pre f) [] E (tCons tl tNil)) s (f a) s1 := fun σ G H k Q q =>
  h σ G H k _ fun p vs G1 H1 k1 e1 n => by
    refine ⟨G1, a, p, vs, [], rfl, k1.gh, n.no, n.at_, n.all, .nil, hp, fun v us' xs' G' H' g hp' ha D => ?_⟩
    have kA := (k1.add n.at_ n.no n.mine n.all n.ap).growBx (i := s1.length) (x := .an p (T a)) (x' := .an p xs') (by simp) (.inr ⟨_, rfl, rfl⟩) g hp' ha
    rw [List.set_append_right _ _ (Nat.le_refl _), Nat.sub_self] at kA
    exact q v G' H' kA.left (e1.trans g.g) D
/-- an owned list becomes data, from here on -/
theorem w_freeze (hi : s[i]? = some (.ls p xs)) (hB : p ∉ F.B) (h : W F t (s.set i (.im (.list xs))) P) : W F t s P := fun σ G H D k dn => by
  obtain ⟨G', k', e', _⟩ := k.freeze hi hB
  exact h.after σ G' H D k' e' dn
/-- less is told of the slots -/
theorem Ok.weak (k : Ok F s σ G H) (h : ∀ (i : Nat) (x : SV), s'[i]? = some x → s[i]? = some x ∨ x = SV.un) : Ok F s' σ G H := by
  refine ⟨k.gg, k.gh, k.hh, k.fr, k.bb, k.ln, fun j x hx => ?_, fun a b x y p hx hy h1 h2 => ?_⟩
  · rcases h j x hx with q | rfl
    · exact k.sl j x q
    · trivial
  · rcases h a x hx with q | rfl
    · rcases h b y hy with q2 | rfl
      · exact k.ds a b x y p q q2 h1 h2
      · cases h2
    · cases h1
theorem w_weak (h : ∀ (i : Nat) (x : SV), s'[i]? = some x → s[i]? = some x ∨ x = SV.un) (hw : W F t s' P) : W F t s P := fun σ G H D k dn => hw σ G H D (k.weak h) dn

/-! loops -/
theorem yd_ok {G1 H' : Hp} {x : V} (k : Ok F s σ G H) (e : Same G1 G) (y : Yd F G1 H x H' d) : ∃ G', Ok F s σ G' H' ∧ Same G G' ∧ Dp F.K G' x d := by
  rcases y with ⟨rfl, D⟩ | ⟨T, x1, x2, d1, d2, rfl, hT, rfl, rfl, D1, D2⟩
  · exact ⟨G, k, Same.refl G, dp_mono e _ _ D⟩
  · obtain ⟨k', g⟩ := k.new hT (.tup [x1, x2])
    exact ⟨_, k', g, .tup (.of upd_same) (.cons (dp_mono (e.trans g) _ _ D1) (.cons (dp_mono (e.trans g) _ _ D2) .nil))⟩
theorem w_for (hi : EvI F wi s ds s1) (I : Nat → Sts → Prop) (h0 : I 0 s1) (hs : ∀ i d s, ds[i]? = some d → I i s → ∃ s2, Tg F vs g d s s2 ∧ W F tb' s2 { P with nx := I (i + 1), bk := P.nx, ct := I (i + 1) })
    (hd : ∀ s, I ds.length s → P.nx s) : W F (tFor wi g tb') s P := fun σ G H D k dn => hi σ G H k _ fun J G1 H1 k1 e1 wk => by
  refine ⟨fun i m σ' H' => m = ds.length - i ∧ i ≤ ds.length ∧ ∃ s' G', I i s' ∧ Ok F s' σ' G' H' ∧ Same G1 G', ⟨ds.length, by simp, Nat.zero_le _, s1, G1, h0, k1, Same.refl G1⟩, ?_⟩
  rintro i m σ' H' ⟨rfl, hle, s', G', hI, k', e'⟩
  by_cases hlt : i < ds.length
  · refine .inr ⟨wk.goes i H' hlt (e'.trans k'.gh), fun σ2 H2 => ∃ s2 G2, I (i + 1) s2 ∧ Ok F s2 σ2 G2 H2 ∧ Same G1 G2, fun σ2 H2 ⟨s2, G2, h1, h2, h3⟩ => ⟨ds.length - (i + 1), by omega, rfl, hlt, s2, G2, h1, h2, h3⟩, fun x H2 hy => ?_⟩
    obtain ⟨G2, k2, e2, D2⟩ := yd_ok k' e' (wk.yields i H' x H2 ds[i] (by simp [hlt]) (e'.trans k'.gh) hy)
    obtain ⟨s2, ht, hw⟩ := hs i ds[i] s' (by simp [hlt]) hI
    refine ht σ' G2 H2 x _ k2 D2 fun σ3 k3 _ => ?_
    have e3 : Same G1 G2 := e'.trans e2
    exact hw σ3 G2 H2 _ k3 ⟨fun s4 σ4 G4 H4 n k4 e4 => ⟨s4, G4, n, k4, e3.trans e4⟩, (dn.go (e1.trans e3)).R, (dn.go (e1.trans e3)).N, fun s4 σ4 G4 H4 n k4 e4 => ⟨s4, G4, n, k4, e3.trans e4⟩, (dn.go (e1.trans e3)).X⟩
  · have e : i = ds.length := by omega
    subst e
    exact .inl ⟨wk.stops H' (e'.trans k'.gh), dn.N s' σ' G' H' (hd s' hI) k' (e1.trans e')⟩
theorem w_while (I : Nat → Sts → Prop) (m0 : Nat) (h0 : I m0 s)
    (hs : ∀ m s, I m s → ∃ b s2, EvT F tc s b s2 ∧ (b = true → W F t s2 { P with nx := fun s' => ∃ m', m' < m ∧ I m' s', bk := P.nx, ct := fun s' => ∃ m', m' < m ∧ I m' s' }) ∧ (b = false → P.nx s2)) : W F (tWhile tc t) s P := fun σ G H D k dn => by
  refine ⟨fun m σ' H' => ∃ s' G', I m s' ∧ Ok F s' σ' G' H' ∧ Same G G', ⟨m0, s, G, h0, k, Same.refl G⟩, fun m σ' H' ⟨s', G', hI, k', e'⟩ => ?_⟩
  obtain ⟨b, s2, hT, h1, h2⟩ := hs m s' hI
  refine hT σ' G' H' k' _ fun G2 H2 k2 e2 => ?_
  cases b with
  | true =>
    show ∃ N : L2.St → Hp → Prop, _
    refine ⟨fun σ3 H3 => ∃ m', m' < m ∧ ∃ s3 G3, I m' s3 ∧ Ok F s3 σ3 G3 H3 ∧ Same G G3, fun σ3 H3 h => h, ?_⟩
    have e3 : Same G G2 := e'.trans e2
    exact h1 rfl σ' G2 H2 _ k2 ⟨fun s4 σ4 G4 H4 ⟨m', hm, hI'⟩ k4 e4 => ⟨m', hm, s4, G4, hI', k4, e3.trans e4⟩, (dn.go e3).R, (dn.go e3).N, fun s4 σ4 G4 H4 ⟨m', hm, hI'⟩ k4 e4 => ⟨m', hm, s4, G4, hI', k4, e3.trans e4⟩, (dn.go e3).X⟩
  | false =>
    show D.nx σ' H2
    exact dn.N s2 σ' G2 H2 (h2 rfl) k2 (e'.trans e2)

/-! comprehensions -/
theorem wipeS_un (s : Sts) (j : Nat) : ∀ vs : List Nat, j ∈ vs → ∀ x, (wipeS s vs)[j]? = some x → x = .un
  | v :: vs, hj, x, hx => by
    rcases getElem?_set_cases hx with ⟨_, h, _⟩ | ⟨hne, hx⟩
    · exact h
    · rcases List.mem_cons.mp hj with rfl | hj
      · exact absurd rfl hne
      · exact wipeS_un s j vs hj x hx
theorem wipeS_len (s : Sts) : ∀ vs : List Nat, (wipeS s vs).length = s.length
  | [] => rfl
  | v :: vs => by
    show ((wipeS s vs).set v .un).length = _
    rw [List.length_set, wipeS_len s vs]
theorem wipeS_app (s : Sts) (x : SV) : ∀ vs : List Nat, (∀ v ∈ vs, v < s.length) → wipeS (s ++ [x]) vs = wipeS s vs ++ [x]
  | [], _ => rfl
  | v :: vs, h => by
    show (wipeS (s ++ [x]) vs).set v .un = (wipeS s vs).set v .un ++ [x]
    rw [wipeS_app s x vs fun w hw => h w (List.mem_cons_of_mem _ hw), List.set_append_left _ _ (by rw [wipeS_len]; exact h v List.mem_cons_self)]
/-- [e for target in .. if ..]: I by the turn, the slots, what is made so far -/
theorem el_lc {tt : TT} (hi : EvI F wi s ds s1) (hz : ds.length < 100000) (hvs : ∀ v ∈ vs, v < F.n) (I : Nat → Sts → List PyData → Prop) (h0 : I 0 (wipeS s1 vs) []) (hln : ∀ i s acc, I i s acc → F.n ≤ s.length) (hun : ∀ i s acc, I i s acc → ∀ v ∈ vs, ∀ x, s[v]? = some x → x = .un)
    (hs : ∀ i d s acc p, ds[i]? = some d → I i s acc → ∃ s2, Tg F vs g d (s ++ [.an p acc]) s2 ∧ ∃ b s3, EvT F tt s2 b s3 ∧ (b = true → ∃ e s4, Ev F te s3 e (s4 ++ [.an p acc]) ∧ I (i + 1) (wipeS s4 vs) (acc ++ [e]) ∧ F.n ≤ s4.length) ∧
      (b = false → ∃ s4, s3 = s4 ++ [.an p acc] ∧ I (i + 1) (wipeS s4 vs) acc ∧ F.n ≤ s4.length))
    (hd : ∀ s acc, I ds.length s acc → s = s' ∧ acc = xs) (hac : ∀ i s acc, I i s acc → acc.length ≤ i) : EvL F (tLc wi g tt te vs) s xs s' := fun σ G H k Q q => hi σ G H k _ fun J G1 H1 k1 e1 wk => by
  intro Dl hD
  have f1 := k1.fresh hD
  have kD : Ok F (wipeS s1 vs ++ [.an Dl []]) (wipe σ vs) G1 (upd H1 Dl (.lst [])) := ((k1.newH hD (.lst [])).wiped vs).add upd_same f1.1 f1.2.1 .nil (fun j y hy => (k1.wiped vs).adr_ne hD j y hy)
  refine ⟨fun i m H' => m = ds.length - i ∧ i ≤ ds.length ∧ ∃ s' acc G', I i s' acc ∧ Ok F (s' ++ [.an Dl acc]) (wipe σ vs) G' H' ∧ Same G1 G', ⟨ds.length, by simp, Nat.zero_le _, _, [], G1, h0, kD, Same.refl G1⟩, ?_⟩
  rintro i m H' ⟨rfl, hle, s'', acc, G', hI, k', e'⟩
  by_cases hlt : i < ds.length
  · refine .inr ⟨wk.goes i H' hlt (e'.trans k'.gh), fun H2 => ∃ s2 acc2 G2, I (i + 1) s2 acc2 ∧ Ok F (s2 ++ [.an Dl acc2]) (wipe σ vs) G2 H2 ∧ Same G1 G2, fun H2 ⟨s2, acc2, G2, h1, h2, h3⟩ => ⟨ds.length - (i + 1), by omega, rfl, hlt, s2, acc2, G2, h1, h2, h3⟩, fun x H2 hy => ?_⟩
    obtain ⟨G2, k2, e2, D2⟩ := yd_ok k' e' (wk.yields i H' x H2 ds[i] (by simp [hlt]) (e'.trans k'.gh) hy)
    obtain ⟨s2, ht, b, s3, hT, hb1, hb2⟩ := hs i ds[i] s'' acc Dl (by simp [hlt]) hI
    refine ht (wipe σ vs) G2 H2 x _ k2 D2 fun σ3 k3 w3 => ⟨w3.trans (wipe_wipe σ vs), ?_⟩
    rw [wipe_wipe] at w3
    have e3 : Same G1 G2 := e'.trans e2
    refine hT σ3 G2 H2 k3 _ fun G4 H4 k4 e4 => ?_
    have back : ∀ {s4 : Sts} {acc4 : List PyData} {G5 H5 : Hp}, F.n ≤ s4.length → Ok F (s4 ++ [.an Dl acc4]) σ3 G5 H5 → Ok F (wipeS s4 vs ++ [.an Dl acc4]) (wipe σ vs) G5 H5 := fun {s4 acc4 G5 H5} hn k5 => by
      have z := k5.wiped vs
      rw [w3, wipeS_app _ _ _ fun v hv => Nat.lt_of_lt_of_le (hvs v hv) hn] at z
      exact z
    cases b with
    | true =>
      show te σ3 H4 _
      obtain ⟨e, s4, he, hI4, hn4⟩ := hb1 rfl
      refine he σ3 G4 H4 k4 _ fun y G5 H5 k5 e5 D5 => ?_
      obtain ⟨⟨us, g1, g2⟩, g3, g4⟩ := k5.sl s4.length (.an Dl acc) (by simp)
      refine ⟨us, g1, ?_, wipeS s4 vs, acc ++ [e], G5, hI4, ?_, e3.trans (e4.trans e5)⟩
      · rw [dpAll_len g2]
        have := hac i s'' acc hI
        exact Nat.lt_of_lt_of_le (show acc.length < 100000 by omega) (by decide)
      · have z := k5.write (i := s4.length) (x := .an Dl acc) (x' := .an Dl (acc ++ [e])) (by simp) (.inr ⟨acc, rfl, rfl⟩) (dpAll_app g2 (dpAll_one D5))
        rw [List.set_append_right _ _ (Nat.le_refl _), Nat.sub_self] at z
        exact back hn4 z
    | false =>
      obtain ⟨s4, e34, hI4, hn4⟩ := hb2 rfl
      subst e34
      exact ⟨wipeS s4 vs, acc, G4, hI4, back hn4 k4, e3.trans e4⟩
  · have e : i = ds.length := by omega
    subst e
    obtain ⟨es, ea⟩ := hd s'' acc hI
    refine .inl ⟨wk.stops H' (e'.trans k'.gh), ?_⟩
    obtain ⟨⟨us, g1, g2⟩, g3, g4⟩ := k'.sl s''.length (.an Dl acc) (by simp)
    have ap2 : ∀ (j : Nat) (y : SV), s''[j]? = some y → y.adr ≠ some Dl := fun j y hy z => by
      have h1 := k'.ds j s''.length y (.an Dl acc) Dl (by rw [List.getElem?_append_left (List.getElem?_eq_some_iff.mp hy).1]; exact hy) (by simp) z rfl
      have h2 := (List.getElem?_eq_some_iff.mp hy).1
      omega
    have kF : Ok F s'' σ G' H' := k'.left.of_wiped (σ' := σ) k.ln fun v hv x hx => .inl (hun _ _ _ hI v hv x hx)
    subst es ea
    exact q Dl us G' H' kF (e1.trans e') ⟨g1, g3, f1.2.1, f1.2.2, ap2, g2⟩
end
end Pk
/-! Defs that know that no repr runs around them; their calls; the law's own end. -/
namespace Pk
open PySem PySem.Spec PyProof.Rows L2

structure FnG (P : Program) (w : World) (K : PySem.W.Frag) (mg : Str → Option Value) (base : Heap) (k : Nat) (f : Addr) (fd : FuncData) (ps : List Str) (sp : Sp) : Prop where
  len : ∀ vs H Q E, sp vs H Q E → vs.length = ps.length
  run : ∀ (A : Around) (outer : List Env) (s : Shared) (H : Hp) (args : Args) (us : List Value) (vs : List V) (Q : VK) (E : XK), Room k A → A.guards = some [] → Env0 P w K mg base A outer s H → BindsTo s fd args (ps.zip us) → Vals vs us → sp vs H Q E →
    codeAny (model P w) A (.call (.ref f) args) (CR (L2.CX P w) outer P w H s Q E) s
section
variable {P : Program} {w : World} {K : PySem.W.Frag} {mg : Str → Option Value} {base : Heap}
theorem FnG.mono {j k : Nat} {f : Addr} {fd : FuncData} {ps : List Str} {sp : Sp} (F : FnG P w K mg base j f fd ps sp) (h : j ≤ k) : FnG P w K mg base k f fd ps sp :=
  ⟨F.len, fun A outer s H args us vs Q E hr => F.run A outer s H args us vs Q E (hr.mono h)⟩
theorem okG {x qual : Str} {st : Stmt} {f : Addr} {fd : FuncData} {N ps : List Str} {k : Nat} {sp : Sp} (F : Fun K x qual st f fd) (S : FnScope N ps (defScope st)) (len : ∀ vs H Q E, sp vs H Q E → vs.length = ps.length)
    (hbody : ∀ (cdv : Value) (A : Around) (outer : List Env) (s : Shared) (H : Hp) (vs : List V) (Q : VK) (E : XK), Room k (A.deeper (envOfC qual (defScope st) s.heap.objs.size f cdv)) → A.guards = some [] → sp vs H Q E →
      ∃ t, PSs (cxOf (L2.CX P w) P w K mg base N qual (defScope st) f cdv A outer s H E) (defBody st) t ∧ t { nx := fun _ H' => Q .non H', rt := Q } (L2.start N vs) H) : FnG P w K mg base (k + 1) f fd ps sp := by
  obtain ⟨oc, od, kV, doc, pm, an, cdv, ct, osl, rfl, lk, hcd⟩ := F.ex
  refine ⟨len, fun A outer s H args us vs Q E hr hG e0 hb r hsp => ?_⟩
  have hl := len _ _ _ _ hsp
  have KX : K.In s.heap := e0.mod.kin.keeps fun b o e => (e0.bs b o e).1
  have lim : s.heap.NoLimit := e0.mod.nolimit.keeps fun b o e => (e0.bs b o e).1
  have hkind : ∀ y ∈ ps.zip us, (defScope st).names.lookup y.1 = some .local ∨ ((defScope st).names.lookup y.1 = some .cell ∧ ((cellsFrom (s.heap.objs.size + 1) (defScope st).names []).lookup y.1).isSome = true) := fun ⟨n, v⟩ hy =>
    (S.par n (List.of_mem_zip hy).1).imp id fun q => ⟨q, PySem.W.cellsFrom_some _ _ _ (.inl q)⟩
  refine codeAny_call_function hr.depth (KX _ _ lk) rfl S.co S.gen rfl (PySem.W.codeRec_of KX hcd) (hb _ _ _ _ (wpAny_newFunctionEnv_cells S.kind hkind fun env he s1 x => ?_))
  subst he
  refine ⟨lim.keeps x.toInCall.keep, codeAny_func ?_⟩
  obtain ⟨t, ht, hq⟩ := hbody cdv A outer s H vs Q E (hr.deeper _) hG hsp
  refine wpAny_mono (ht.run [] s1 (L2.start N vs) H _ (inv_start S hr.hd e0 hl r x) hq) (fun fl s' hs => ?_) fun e s' hs => hs
  cases fl with
  | ret u =>
    obtain ⟨v, σ', H', J, rv, q⟩ := hs
    exact ⟨v, H', J.os, J.bare, J.base, J.hok, rv, q⟩
  | next =>
    obtain ⟨σ', H', J, q⟩ := hs
    exact ⟨.non, H', J.os, J.bare, J.base, J.hok, rfl, q⟩
  | brk => exact False.elim hs.choose_spec.choose_spec.2
  | cont => exact False.elim hs.choose_spec.choose_spec.2
end

/-! calls -/
section
variable {X : Cx} {k : Nat} {f : Addr} {fd : FuncData} {ps ks : List Str} {sp : Sp} {dvs : List V} {ds : List Value} {E : XK} {x : Str} {p pos : Pos} {e : Expr} {es : List Expr} {t tk : TA} {kws : List Keyword} {g : List Value → List Value → List Value} {gV : List V → List V → List V}
theorem runG {pins : List (Addr × Obj)} {σ : L2.St} {H : Hp} {s : Shared} {Q : VK} {us : List Value} {vs : List V} (F : FnG X.prog X.w X.K X.mg X.base k f fd ps sp) (hr : Room k X.A) (hG : X.A.guards = some []) (hb : Binds X.K fd ps ds) (hd : Vals dvs ds) (hx : Passes (L2.CX X.prog X.w) X E)
    (I : L2.Inv X pins σ H s) (r : Vals vs us) (h : sp (vs ++ dvs) H Q E) : wpAny (model X.prog X.w) X.A (call (.ref f) us) (EP X pins σ Q) X.xe s := by
  have r2 : Vals (vs ++ dvs) (us ++ ds) := r.append hd
  have hl : (us ++ ds).length = ps.length := by rw [← r2.length]; exact F.len _ _ _ _ h
  refine wpAny_call (codeAny_mono (F.run X.A X.stack s H ⟨us, []⟩ (us ++ ds) (vs ++ dvs) Q E hr hG I.env0 (hb s us I.kIn hl) r2 h) fun r s' hq => ?_)
  cases r with
  | error e => exact hx pins σ H s e s' I hq
  | ok fl =>
    cases fl with
    | ret u => exact I.after hq
    | next => exact False.elim hq
    | brk => exact False.elim hq
    | cont => exact False.elim hq
theorem runGK {pins : List (Addr × Obj)} {σ : L2.St} {H : Hp} {s : Shared} {Q : VK} {us ws : List Value} {vs zs : List V} (F : FnG X.prog X.w X.K X.mg X.base k f fd ps sp) (hr : Room k X.A) (hG : X.A.guards = some []) (hb : KBinds X.K fd ps ks g gV) (hx : Passes (L2.CX X.prog X.w) X E)
    (I : L2.Inv X pins σ H s) (r : Vals vs us) (rz : Vals zs ws) (h : sp (gV vs zs) H Q E) : wpAny (model X.prog X.w) X.A (call (.ref f) us (ks.zip ws)) (EP X pins σ Q) X.xe s := by
  have r2 := hb.rel r rz
  have hl : (g us ws).length = ps.length := by rw [← r2.length]; exact F.len _ _ _ _ h
  refine wpAny_call (codeAny_mono (F.run X.A X.stack s H ⟨us, ks.zip ws⟩ (g us ws) (gV vs zs) Q E hr hG I.env0 (hb.to s us ws I.kIn hl) r2 h) fun r s' hq => ?_)
  cases r with
  | error e => exact hx pins σ H s e s' I hq
  | ok fl =>
    cases fl with
    | ret u => exact I.after hq
    | next => exact False.elim hq
    | brk => exact False.elim hq
    | cont => exact False.elim hq
/-- f(e, ..) -/
theorem pe_g (F : FnG X.prog X.w X.K X.mg X.base k f fd ps sp) (hr : Room k X.A) (hG : X.A.guards = some []) (hg : Gl X x) (hm : X.mg x = some (.ref f)) (hk : PySem.W.keepIn X.K (.ref f) = true) (hb : Binds X.K fd ps ds) (hd : Vals dvs ds) (hx : Passes (L2.CX X.prog X.w) X E)
    (ha : PA X (e :: es) t) (hdb : (x == ("__debug__" : Str)) = false := by decide) (he : starEach (e :: es) X.env = (false, eval e X.env) :: starEach es X.env := by rfl) (hpl : (backTo pos (starEach es X.env)).any (·.1) = false := by rfl) :
    PE X (.Call (.Name x p) (e :: es) [] pos) (tCall sp dvs E t) := by
  refine ⟨fun pins s σ H Q I h => ?_⟩
  refine wpAny_Call_Name_kw (ld_glob I hg hm ?_ hdb)
  exact PySem.W.callWith_K (h₀ := X.base) I.ok.mod.kin hk (thn (ha.run pos pins s σ H _ I h) fun us s1 ⟨vs, H1, I1, r, q⟩ => ⟨I1.kIn, runG F hr hG hb hd hx I1 r q⟩) he hpl
/-- f() -/
theorem pe_g0 (F : FnG X.prog X.w X.K X.mg X.base k f fd ps sp) (hr : Room k X.A) (hG : X.A.guards = some []) (hg : Gl X x) (hm : X.mg x = some (.ref f)) (hk : PySem.W.keepIn X.K (.ref f) = true) (hb : Binds X.K fd ps ds) (hd : Vals dvs ds) (hx : Passes (L2.CX X.prog X.w) X E)
    (hdb : (x == ("__debug__" : Str)) = false := by decide) : PE X (.Call (.Name x p) [] [] pos) (tCall sp dvs E tNil) := by
  refine ⟨fun pins s σ H Q I h => ?_⟩
  refine wpAny_Call_Name_kw (ld_glob I hg hm ?_ hdb)
  exact PySem.W.callWith_K0 I.kIn hk (runG (us := []) (vs := []) F hr hG hb hd hx I .nil h)
/-- f(e, .., k = v, ..) -/
theorem pe_gK (F : FnG X.prog X.w X.K X.mg X.base k f fd ps sp) (hr : Room k X.A) (hG : X.A.guards = some []) (hg : Gl X x) (hm : X.mg x = some (.ref f)) (hk : PySem.W.keepIn X.K (.ref f) = true) (hb : KBinds X.K fd ps ks g gV) (hx : Passes (L2.CX X.prog X.w) X E)
    (ha : PA X (e :: es) t) (hkw : PK X kws tk) (hall : (backToKw pos (keywordEach kws X.env)).all (·.1.isSome) = true := by rfl) (hks : (backToKw pos (keywordEach kws X.env)).filterMap (·.1) = ks := by rfl)
    (hdb : (x == ("__debug__" : Str)) = false := by decide) (he : starEach (e :: es) X.env = (false, eval e X.env) :: starEach es X.env := by rfl)
    (hpl : ((backTo pos (starEach (e :: es) X.env)).any (·.1) || (backToKw pos (keywordEach kws X.env)).any (·.1.isNone)) = false := by rfl) :
    PE X (.Call (.Name x p) (e :: es) kws pos) (tCallK sp gV E t tk) := by
  refine ⟨fun pins s σ H Q I h => ?_⟩
  refine wpAny_Call_Name_kw (ld_glob I hg hm ?_ hdb)
  refine PySem.W.callWith_KW (h₀ := X.base) I.ok.mod.kin hk hall (thn (ha.run pos pins s σ H _ I h) fun us s1 ⟨vs, H1, I1, r, q⟩ => ?_) hpl he
  refine thn (hkw.run pos pins s1 σ H1 _ I1 q) fun ws s2 ⟨zs, H2, I2, rz, q2⟩ => ⟨I2.kIn, ?_⟩
  rw [hks]
  exact runGK F hr hG hb hx I2 r rz q2
/-- f(k = v, ..) -/
theorem pe_gK0 (F : FnG X.prog X.w X.K X.mg X.base k f fd ps sp) (hr : Room k X.A) (hG : X.A.guards = some []) (hg : Gl X x) (hm : X.mg x = some (.ref f)) (hk : PySem.W.keepIn X.K (.ref f) = true) (hb : KBinds X.K fd ps ks g gV) (hx : Passes (L2.CX X.prog X.w) X E)
    (hkw : PK X kws tk) (hall : (backToKw pos (keywordEach kws X.env)).all (·.1.isSome) = true := by rfl) (hks : (backToKw pos (keywordEach kws X.env)).filterMap (·.1) = ks := by rfl)
    (hdb : (x == ("__debug__" : Str)) = false := by decide) (hpl : ((backTo pos (starEach [] X.env)).any (·.1) || (backToKw pos (keywordEach kws X.env)).any (·.1.isNone)) = false := by rfl) :
    PE X (.Call (.Name x p) [] kws pos) (tCallK sp gV E tNil tk) := by
  refine ⟨fun pins s σ H Q I h => ?_⟩
  refine wpAny_Call_Name_kw (ld_glob I hg hm ?_ hdb)
  refine PySem.W.callWith_KW0 (h₀ := X.base) I.ok.mod.kin hk hall (thn (hkw.run pos pins s σ H _ I h) fun ws s2 ⟨zs, H2, I2, rz, q2⟩ => ⟨I2.kIn, ?_⟩) hpl
  rw [hks]
  exact runGK (us := []) (vs := []) F hr hG hb hx I2 .nil rz q2
end

/-! ### a promise from the body's reading over data -/
section
variable {K : PySem.W.Frag} {G H : Hp}
theorem start_ok {vs : List V} {ds : List PyData} {N : List Str} {B : List Addr} (h : DpAll K G vs ds) (e : Same G H) (hl : ds.length ≤ N.length) (hB : ∀ b ∈ B, H b ≠ none) : Ok ⟨K, G, H, B, N.length⟩ (ds.map .im) (L2.start N vs) G H := by
  have lv := dpAll_len h
  refine ⟨Same.refl G, e, fun _ _ _ z => z, fun b z => .inl z, hB, ?_, fun i x hx => ?_, fun i j x y p hx hy h1 h2 => ?_⟩
  · unfold L2.start
    show _ = N.length
    rw [List.length_append, List.length_map, List.length_replicate]
    omega
  · rw [List.getElem?_map] at hx
    cases q : ds[i]? with
    | none =>
      rw [q] at hx
      cases hx
    | some d =>
      rw [q] at hx
      cases hx
      obtain ⟨v, h1, h2⟩ := dpAll_get h q
      refine ⟨v, ?_, h2⟩
      unfold L2.start
      have hi := (List.getElem?_eq_some_iff.mp h1).1
      rw [List.getElem?_append_left (by rw [List.length_map]; exact hi), List.getElem?_map, h1]
      rfl
  · rw [List.getElem?_map] at hx
    cases q : ds[i]? with
    | none =>
      rw [q] at hx
      cases hx
    | some d =>
      rw [q] at hx
      cases hx
      cases h1
end
/-- the slots at the entry: the arguments, then nothing -/
def s0 (ds : List PyData) (m : Nat) : Sts := ds.map .im ++ List.replicate m .un
theorem s0_weak {ds : List PyData} {m : Nat} {F : Fr} {σ : L2.St} {G H : Hp} (k : Ok F (ds.map .im) σ G H) : Ok F (s0 ds m) σ G H :=
  k.weak fun i x hx => by
    unfold s0 at hx
    by_cases hi : i < (ds.map SV.im).length
    · rw [List.getElem?_append_left hi] at hx
      exact .inl hx
    · rw [List.getElem?_append_right (by omega), List.getElem?_replicate] at hx
      split at hx
      · cases hx
        exact .inr rfl
      · cases hx
section
variable {P : Program} {w : World} {K : PySem.W.Frag} {mg : Str → Option Value} {base : Heap} {α : Type}
theorem Ok.grown {G H G' H' : Hp} {n : Nat} {s' : Sts} {σ' : L2.St} (k : Ok ⟨K, G, H, [], n⟩ s' σ' G' H') : Grow G H G' H' := ⟨k.gg, k.gh, fun b o z => k.hh b o (fun y => absurd y List.not_mem_nil) z, k.fr⟩
theorem Ok.grownB {G H G' H' : Hp} {n : Nat} {p : Addr} {s' : Sts} {σ' : L2.St} (k : Ok ⟨K, G, H, [p], n⟩ s' σ' G' H') : GrowB p G H G' H' := ⟨k.gg, k.gh, fun b o hb z => k.hh b o (fun y => hb (List.mem_singleton.mp y)) z, k.fr⟩
theorem start_le {N ps : List Str} {sc : Scope} {n : Nat} (S : FnScope N ps sc) (h : n = ps.length) : n ≤ N.length := by
  have := congrArg List.length S.pre
  rw [List.length_take] at this
  omega
/-- data in, data out -/
theorem okP {x qual : Str} {st : Stmt} {f : Addr} {fd : FuncData} {N ps : List Str} {k : Nat} {A : α → List PyData} {pre : α → Prop} {fn : α → PyData} (F : Fun K x qual st f fd) (S : FnScope N ps (defScope st)) (hA : ∀ a, (A a).length = ps.length)
    (hbody : ∀ (cdv : Value) (Ar : Around) (outer : List Env) (s : Shared) (H : Hp) (E : XK), Room k (Ar.deeper (envOfC qual (defScope st) s.heap.objs.size f cdv)) → Ar.guards = some [] →
      ∃ t, PSs (cxOf (L2.CX P w) P w K mg base N qual (defScope st) f cdv Ar outer s H E) (defBody st) t ∧
        ∀ (a : α) (G0 : Hp), pre a → W ⟨K, G0, H, [], N.length⟩ t (s0 (A a) (N.length - ps.length)) { nx := fun _ => fn a = .none, rt := fun d _ => d = .d (fn a) }) : FnG P w K mg base (k + 1) f fd ps (spP K A pre fn) := by
  refine okG F S (fun vs H Q E h => ?_) (fun cdv Ar outer s H vs Q E hr hG h => ?_)
  · obtain ⟨G, a, _, h, _⟩ := h
    rw [dpAll_len h, hA]
  · obtain ⟨t, ht, hw⟩ := hbody cdv Ar outer s H E hr hG
    refine ⟨t, ht, ?_⟩
    obtain ⟨G, a, e, h, hp, q⟩ := h
    have k0 : Ok ⟨K, G, H, [], N.length⟩ (A a |>.map .im) (L2.start N vs) G H := start_ok h e (start_le S (hA a)) (fun b hb => absurd hb List.not_mem_nil)
    refine hw a G hp (L2.start N vs) G H _ (s0_weak k0) ⟨fun s' σ' G' H' n k' e' => ?_, fun d v s' σ' G' H' r k' e' D => ?_, fun _ _ _ _ z => z.elim, fun _ _ _ _ z => z.elim, fun _ _ _ _ _ _ _ z => z.elim⟩
    · refine q .non G' H' k'.grown ?_
      rw [n]
      exact .non
    · subst r
      exact q v G' H' k'.grown D
/-- data in, a new list out -/
theorem okN {x qual : Str} {st : Stmt} {f : Addr} {fd : FuncData} {N ps : List Str} {k : Nat} {A : α → List PyData} {pre : α → Prop} {fn : α → List PyData} (F : Fun K x qual st f fd) (S : FnScope N ps (defScope st)) (hA : ∀ a, (A a).length = ps.length)
    (hbody : ∀ (cdv : Value) (Ar : Around) (outer : List Env) (s : Shared) (H : Hp) (E : XK), Room k (Ar.deeper (envOfC qual (defScope st) s.heap.objs.size f cdv)) → Ar.guards = some [] →
      ∃ t, PSs (cxOf (L2.CX P w) P w K mg base N qual (defScope st) f cdv Ar outer s H E) (defBody st) t ∧
        ∀ (a : α) (G0 : Hp), pre a → W ⟨K, G0, H, [], N.length⟩ t (s0 (A a) (N.length - ps.length)) { nx := fun _ => False, rt := fun d _ => d = .l (fn a) }) : FnG P w K mg base (k + 1) f fd ps (spN K A pre fn) := by
  refine okG F S (fun vs H Q E h => ?_) (fun cdv Ar outer s H vs Q E hr hG h => ?_)
  · obtain ⟨G, a, _, h, _⟩ := h
    rw [dpAll_len h, hA]
  · obtain ⟨t, ht, hw⟩ := hbody cdv Ar outer s H E hr hG
    refine ⟨t, ht, ?_⟩
    obtain ⟨G, a, e, h, hp, q⟩ := h
    have k0 : Ok ⟨K, G, H, [], N.length⟩ (A a |>.map .im) (L2.start N vs) G H := start_ok h e (start_le S (hA a)) (fun b hb => absurd hb List.not_mem_nil)
    refine hw a G hp (L2.start N vs) G H _ (s0_weak k0) ⟨fun s' σ' G' H' z => z.elim, fun d v s' σ' G' H' r k' e' D => ?_, fun _ _ _ _ z => z.elim, fun _ _ _ _ z => z.elim, fun _ _ _ _ _ _ _ z => z.elim⟩
    subst r
    obtain ⟨p, vs', rfl, n⟩ := D
    exact q p vs' G' H' k'.grown n.mine n.no n.at_ n.all
theorem startB_ok {G H : Hp} {N : List Str} {m : Nat} {p : Addr} {us ws : List V} {xs ds : List PyData} (e : Same G H) (hg : G p = none) (hp : H p = some (.lst us)) (hT : DpAll K G us xs) (h : DpAll K G ws ds) (hl : ds.length + 1 ≤ N.length) :
    Ok ⟨K, G, H, [p], N.length⟩ (.ls p xs :: s0 ds m) (L2.start N (.ref p :: ws)) G H := by
  have lw := dpAll_len h
  have ln : (L2.start N (V.ref p :: ws)).length = N.length := by
    unfold L2.start
    rw [List.length_append, List.length_map, List.length_replicate, List.length_cons]
    omega
  have ent : ∀ (i : Nat) (d : PyData), ds[i]? = some d → ∃ v, (L2.start N (V.ref p :: ws))[i + 1]? = some (some v) ∧ Dp K G v d := fun i d hd => by
    obtain ⟨v, h1, h2⟩ := dpAll_get h hd
    refine ⟨v, ?_, h2⟩
    unfold L2.start
    have hi := (List.getElem?_eq_some_iff.mp h1).1
    rw [List.getElem?_append_left (by rw [List.length_map, List.length_cons]; omega), List.map_cons, List.getElem?_cons_succ, List.getElem?_map, h1]
    rfl
  have key : ∀ (i : Nat) (x : SV), (SV.ls p (xs) :: s0 ds m)[i]? = some x → (i = 0 ∧ x = .ls p (xs)) ∨ x = .un ∨ ∃ j d, i = j + 1 ∧ x = .im d ∧ ds[j]? = some d := fun i x hx => by
    cases i with
    | zero => exact .inl ⟨rfl, (Option.some.inj hx).symm⟩
    | succ j =>
      rw [List.getElem?_cons_succ] at hx
      unfold s0 at hx
      by_cases hj : j < (ds.map SV.im).length
      · rw [List.getElem?_append_left hj, List.getElem?_map] at hx
        cases q1 : ds[j]? with
        | none =>
          rw [q1] at hx
          cases hx
        | some d =>
          rw [q1] at hx
          cases hx
          exact .inr (.inr ⟨j, d, rfl, rfl, q1⟩)
      · rw [List.getElem?_append_right (by omega), List.getElem?_replicate] at hx
        split at hx
        · cases hx
          exact .inr (.inl rfl)
        · cases hx
  refine ⟨Same.refl G, e, fun _ _ _ z => z, fun b z => .inl z, fun b hb => ?_, ln, fun i x hx => ?_, fun i j x y r hx hy h1 h2 => ?_⟩
  · rw [List.mem_singleton.mp hb, hp]
    intro z
    cases z
  · rcases key i x hx with ⟨rfl, rfl⟩ | rfl | ⟨j, d, rfl, rfl, hd⟩
    · exact ⟨rfl, ⟨us, hp, hT⟩, hg, .inr (List.mem_singleton.mpr rfl)⟩
    · trivial
    · exact ent j d hd
  · rcases key i x hx with ⟨rfl, rfl⟩ | rfl | ⟨_, d, rfl, rfl, hd⟩
    · rcases key j y hy with ⟨rfl, rfl⟩ | rfl | ⟨_, d, rfl, rfl, hd⟩
      · rfl
      · cases h2
      · cases h2
    · cases h1
    · cases h1
/-- the first argument a list that is changed -/
theorem okT {x qual : Str} {st : Stmt} {f : Addr} {fd : FuncData} {N ps : List Str} {k : Nat} {T A T' : α → List PyData} {pre : α → Prop} {fn : α → PyData} (F : Fun K x qual st f fd) (S : FnScope N ps (defScope st)) (hA : ∀ a, (A a).length + 1 = ps.length)
    (hbody : ∀ (cdv : Value) (Ar : Around) (outer : List Env) (s : Shared) (H : Hp) (E : XK), Room k (Ar.deeper (envOfC qual (defScope st) s.heap.objs.size f cdv)) → Ar.guards = some [] →
      ∃ t, PSs (cxOf (L2.CX P w) P w K mg base N qual (defScope st) f cdv Ar outer s H E) (defBody st) t ∧
        ∀ (a : α) (G0 : Hp) (p : Addr), pre a → W ⟨K, G0, H, [p], N.length⟩ t (.ls p (T a) :: s0 (A a) (N.length - ps.length)) { nx := fun s' => fn a = .none ∧ s'[0]? = some (.ls p (T' a)), rt := fun d s' => d = .d (fn a) ∧ s'[0]? = some (.ls p (T' a)) }) :
    FnG P w K mg base (k + 1) f fd ps (spT K T A pre fn T') := by
  refine okG F S (fun vs H Q E h => ?_) (fun cdv Ar outer s H vs Q E hr hG h => ?_)
  · obtain ⟨G, a, p, us, ws, rfl, _, _, _, _, h, _⟩ := h
    rw [List.length_cons, dpAll_len h, hA]
  · obtain ⟨t, ht, hw⟩ := hbody cdv Ar outer s H E hr hG
    refine ⟨t, ht, ?_⟩
    obtain ⟨G, a, p, us, ws, rfl, e, hg, hp, hT, h, hpre, q⟩ := h
    have hl : (A a).length + 1 ≤ N.length := start_le S (hA a)
    have k0 := startB_ok (m := N.length - ps.length) e hg hp hT h hl
    have fin : ∀ {s' : Sts} {σ' : L2.St} {G' H' : Hp} {v : V}, s'[0]? = some (.ls p (T' a)) → Ok ⟨K, G, H, [p], N.length⟩ s' σ' G' H' → Dp K G' v (fn a) → Q v H' := fun {s' σ' G' H' v} hs k' D => by
      obtain ⟨_, ⟨us', h1, h2⟩, _, _⟩ := k'.sl 0 _ hs
      exact q v us' G' H' k'.grownB h1 h2 D
    refine hw a G p hpre (L2.start N (.ref p :: ws)) G H _ k0 ⟨fun s' σ' G' H' n k' e' => ?_, fun d v s' σ' G' H' r k' e' D => ?_, fun _ _ _ _ z => z.elim, fun _ _ _ _ z => z.elim, fun _ _ _ _ _ _ _ z => z.elim⟩
    · refine fin n.2 k' ?_
      rw [n.1]
      exact .non
    · obtain ⟨rfl, r⟩ := r
      exact fin r k' D
/-- the first argument a list that is changed anyhow -/
theorem okB {x qual : Str} {st : Stmt} {f : Addr} {fd : FuncData} {N ps : List Str} {k : Nat} {T A : α → List PyData} {pre : α → Prop} {fn : α → PyData} (F : Fun K x qual st f fd) (S : FnScope N ps (defScope st)) (hA : ∀ a, (A a).length + 1 = ps.length)
    (hbody : ∀ (cdv : Value) (Ar : Around) (outer : List Env) (s : Shared) (H : Hp) (E : XK), Room k (Ar.deeper (envOfC qual (defScope st) s.heap.objs.size f cdv)) → Ar.guards = some [] →
      ∃ t, PSs (cxOf (L2.CX P w) P w K mg base N qual (defScope st) f cdv Ar outer s H E) (defBody st) t ∧
        ∀ (a : α) (G0 : Hp) (p : Addr), pre a → W ⟨K, G0, H, [p], N.length⟩ t (.ls p (T a) :: s0 (A a) (N.length - ps.length)) { nx := fun s' => fn a = .none ∧ (∃ xs, s'[0]? = some (.ls p xs)), rt := fun d s' => d = .d (fn a) ∧ ∃ xs, s'[0]? = some (.ls p xs) }) :
    FnG P w K mg base (k + 1) f fd ps (spB K T A pre fn) := by
  refine okG F S (fun vs H Q E h => ?_) (fun cdv Ar outer s H vs Q E hr hG h => ?_)
  · obtain ⟨G, a, p, us, ws, rfl, _, _, _, _, h, _⟩ := h
    rw [List.length_cons, dpAll_len h, hA]
  · obtain ⟨t, ht, hw⟩ := hbody cdv Ar outer s H E hr hG
    refine ⟨t, ht, ?_⟩
    obtain ⟨G, a, p, us, ws, rfl, e, hg, hp, hT, h, hpre, q⟩ := h
    have hl : (A a).length + 1 ≤ N.length := start_le S (hA a)
    have k0 := startB_ok (m := N.length - ps.length) e hg hp hT h hl
    have fin : ∀ {s' : Sts} {σ' : L2.St} {G' H' : Hp} {v : V}, (∃ xs, s'[0]? = some (.ls p xs)) → Ok ⟨K, G, H, [p], N.length⟩ s' σ' G' H' → Dp K G' v (fn a) → Q v H' := fun {s' σ' G' H' v} hs k' D => by
      obtain ⟨xs, hs⟩ := hs
      obtain ⟨_, ⟨us', h1, h2⟩, _, _⟩ := k'.sl 0 _ hs
      exact q v us' xs G' H' k'.grownB h1 h2 D
    refine hw a G p hpre (L2.start N (.ref p :: ws)) G H _ k0 ⟨fun s' σ' G' H' n k' e' => ?_, fun d v s' σ' G' H' r k' e' D => ?_, fun _ _ _ _ z => z.elim, fun _ _ _ _ z => z.elim, fun _ _ _ _ _ _ _ z => z.elim⟩
    · refine fin n.2 k' ?_
      rw [n.1]
      exact .non
    · obtain ⟨rfl, r⟩ := r
      exact fin r k' D
/-- a def that may raise own errors -/
theorem okX {x qual : Str} {st : Stmt} {f : Addr} {fd : FuncData} {N ps : List Str} {k : Nat} {A : α → List PyData} {pre : α → Prop} {g : α → Except (Addr × List (Str × PyData)) PyData} (F : Fun K x qual st f fd) (S : FnScope N ps (defScope st)) (hA : ∀ a, (A a).length = ps.length)
    (hbody : ∀ (cdv : Value) (Ar : Around) (outer : List Env) (s : Shared) (H : Hp) (E : XK), Room k (Ar.deeper (envOfC qual (defScope st) s.heap.objs.size f cdv)) → Ar.guards = some [] →
      ∃ t, PSs (cxOf (L2.CX P w) P w K mg base N qual (defScope st) f cdv Ar outer s H E) (defBody st) t ∧
        ∀ (a : α) (G0 : Hp), pre a → W ⟨K, G0, H, [], N.length⟩ t (s0 (A a) (N.length - ps.length)) { nx := fun _ => g a = .ok .none, rt := fun d _ => ∃ x, d = .d x ∧ g a = .ok x, ex := fun C fs _ => g a = .error (C, fs), wx := fun cls d _ H' => E cls d H' }) : FnG P w K mg base (k + 1) f fd ps (spX K A pre g) := by
  refine okG F S (fun vs H Q E h => ?_) (fun cdv Ar outer s H vs Q E hr hG h => ?_)
  · obtain ⟨G, a, _, h, _⟩ := h
    rw [dpAll_len h, hA]
  · obtain ⟨t, ht, hw⟩ := hbody cdv Ar outer s H E hr hG
    refine ⟨t, ht, ?_⟩
    obtain ⟨G, a, e, h, hp, q, qe⟩ := h
    have k0 : Ok ⟨K, G, H, [], N.length⟩ (A a |>.map .im) (L2.start N vs) G H := start_ok h e (start_le S (hA a)) (fun b hb => absurd hb List.not_mem_nil)
    refine hw a G hp (L2.start N vs) G H _ (s0_weak k0) ⟨fun s' σ' G' H' n k' e' => ?_, fun d v s' σ' G' H' r k' e' D => ?_, fun _ _ _ _ z => z.elim, fun _ _ _ _ z => z.elim, fun C fs s' σ' G' H' dd x k' e' hx h0 => ?_⟩
    · exact q .none n .non G' H' k'.grown .non
    · obtain ⟨x, rfl, r⟩ := r
      exact q x r v G' H' k'.grown D
    · obtain ⟨ws, h1, h2⟩ := hx
      exact qe C fs x dd ws G' H' k'.grown h0 h1 h2
end
/-- raise C(e), C an own error of one field -/
theorem w_raise {F : Fr} {C : Addr} {fld : Str} {te : TE} {s s1 : Sts} {d : PyData} {Wx : WX} {P : Po} (h : Ev F te s d s1) (hx : P.ex C [(fld, d)] s1) (hw : P.wx = Wx := by rfl) :
    W F (fun _ σ H => tMkS C fld (tCons te tNil) σ H fun cls dd H' => Wx cls dd σ H') s P := fun σ G H D k dn =>
  h σ G H k _ fun v G' H' k' e' D' => ⟨v, rfl, fun dd hd => by
    have f := k'.fresh hd
    obtain ⟨k2, e2⟩ := k'.new hd (.xd [(fld, v)])
    have := dn.X C _ s1 σ _ _ dd hx k2 (e'.trans e2) ⟨_, upd_same, .cons ⟨rfl, dp_mono e2 _ _ D'⟩ .nil⟩ f.2.1
    rw [hw] at this
    exact this⟩
end Pk
/-! Operators, builtins and iterators over data. -/
namespace Pk
open PySem PySem.Spec PyProof.Rows L2

/-! ### repr of data -/
def shS : PyData → Nat
  | .none => 4
  | .bool _ => 5
  | .int _ => 1921
  | .str x => 10 * x.length + 2
  | .list xs => shSA xs + 3
  | .tuple xs => shSA xs + 3
  | .dict _ => 0
where shSA : List PyData → Nat
  | [] => 0
  | x :: xs => shS x + 2 + shSA xs
theorem piled_shown : ∀ xs : List PyData, (∀ x ∈ xs, x.shown.length ≤ shS x) → piled (PyData.shownAll xs) ≤ shS.shSA xs
  | [], _ => by rw [PyData.shownAll_nil]; exact Nat.zero_le _
  | x :: xs, h => by
    rw [PyData.shownAll_cons, piled_cons]
    have h1 := h x List.mem_cons_self
    have h2 := piled_shown xs fun y hy => h y (List.mem_cons_of_mem _ hy)
    show _ ≤ shS x + 2 + shS.shSA xs
    omega
theorem listText_le (ts : List Str) : (listText ts).length ≤ piled ts + 2 := by
  rw [listText_eq_join, strLen_append, strLen_append]
  have e1 : ((("[" : String) : Str)).length = 1 := rfl
  have e2 : ((("]" : String) : Str)).length = 1 := rfl
  rw [e1, e2]
  by_cases h : ts = []
  · subst h
    decide +kernel
  · have := join_length_add ts h
    omega
theorem tupleText_le (ts : List Str) : (tupleText ts).length ≤ piled ts + 3 := by
  have e3 : (((if ts.length == 1 then ",)" else ")" : String) : Str)).length ≤ 2 := by split <;> decide +kernel
  have e1 : ((("(" : String) : Str)).length = 1 := rfl
  unfold tupleText
  rw [strLen_append, strLen_append, e1]
  by_cases h : ts = []
  · subst h
    decide +kernel
  · have := join_length_add ts h
    omega
mutual
theorem shown_le : ∀ d : PyData, d.canLay0 = true → d.showable = true → d.shown.length ≤ shS d
  | .none, _, _ => by rw [PyData.shown_none]; decide +kernel
  | .bool b, _, _ => by
    rw [PyData.shown_bool]
    cases b <;> decide +kernel
  | .int i, _, h => by
    rw [PyData.shown_int]
    have h' : i.natAbs.log2 < 1920 := by
      unfold PyData.showable at h
      exact of_decide_eq_true h
    exact int_text_len_1921 h'
  | .str x, h, _ => by
    rw [PyData.shown_str]
    have h' : PyData.strOk x = true := h
    refine StrLaws.reprText_len x fun c hc => ?_
    unfold PyData.strOk at h'
    have := (Array.all_eq_true_iff_forall_mem.mp h') c (Array.mem_toList_iff.mp hc)
    have := of_decide_eq_true this
    omega
  | .list xs, h, h2 => by
    have e : (PyData.list xs).shown = listText (PyData.shownAll xs) := by simp only [PyData.shown]
    rw [e]
    have h3 := piled_shown xs (shownAll_le xs h h2)
    have := listText_le (PyData.shownAll xs)
    show _ ≤ shS.shSA xs + 3
    omega
  | .tuple xs, h, h2 => by
    have e : (PyData.tuple xs).shown = tupleText (PyData.shownAll xs) := by simp only [PyData.shown]
    rw [e]
    have h3 := piled_shown xs (shownAll_le xs h h2)
    have := tupleText_le (PyData.shownAll xs)
    show _ ≤ shS.shSA xs + 3
    omega
  | .dict _, h, _ => by cases h
theorem shownAll_le : ∀ xs : List PyData, PyData.canLayAll0 xs = true → PyData.showableAll xs = true → ∀ x ∈ xs, x.shown.length ≤ shS x
  | [], _, _, x, hx => absurd hx List.not_mem_nil
  | y :: ys, h, h2, x, hx => by
    unfold PyData.canLayAll0 at h
    unfold PyData.showableAll at h2
    have a := Bool.and_eq_true_iff.mp h
    have b := Bool.and_eq_true_iff.mp h2
    rcases List.mem_cons.mp hx with e | hx
    · rw [e]
      exact shown_le y a.1 b.1
    · exact shownAll_le ys a.2 b.2 x hx
end
mutual
theorem noDict : ∀ d : PyData, d.canLay0 = true → d.hasDict = false
  | .none, _ => by simp only [PyData.hasDict]
  | .bool _, _ => by simp only [PyData.hasDict]
  | .int _, _ => by simp only [PyData.hasDict]
  | .str _, _ => by simp only [PyData.hasDict]
  | .list xs, h => by
    simp only [PyData.hasDict]
    exact noDictAll xs h
  | .tuple xs, h => by
    simp only [PyData.hasDict]
    exact noDictAll xs h
  | .dict _, h => by cases h
theorem noDictAll : ∀ xs : List PyData, PyData.canLayAll0 xs = true → PyData.hasDictAll xs = false
  | [], _ => by simp only [PyData.hasDictAll]
  | x :: xs, h => by
    have a := Bool.and_eq_true_iff.mp h
    simp only [PyData.hasDictAll, noDict x a.1, noDictAll xs a.2, Bool.or_self]
end
/-- what repr can show here: laid flat enough, ints of fewer than 1920 bits, not too long -/
def reprOk (d : PyData) : Bool := SeqAt.shaped d && d.showable && decide (shS d ≤ 16000000)
def rRepr (K : PySem.W.Frag) : List V → Hp → VK → Prop := fun xs H Q => ∃ v d, xs = [v] ∧ Dp K H v d ∧ reprOk d = true ∧ Q (.str d.shown) H
theorem call_repr {X : Cx} {k : Nat} (hr : Room k X.A) (hG : X.A.guards = some []) : CallR X (.builtin "repr") (rRepr X.K) := by
  intro pins s σ H xs us Q I r h
  obtain ⟨v, d, rfl, D, ok, q⟩ := h
  obtain ⟨u, rfl, rv⟩ := vals1 r
  unfold reprOk at ok
  have ok1 := Bool.and_eq_true_iff.mp ok
  have ok2 := Bool.and_eq_true_iff.mp ok1.1
  have hsz := of_decide_eq_true ok1.2
  have lay := SeqAt.canLay_of_shaped ok2.1
  have hl := shown_le d lay ok2.2
  have hz : d.shown.length ≤ sizeLine := by
    rw [sizeLine_eq]
    omega
  obtain ⟨as, R⟩ := Dp.reads I d v u D rv
  have fin : ∀ tk, EP X pins σ Q (.str d.shown tk) { s with toks := tk + 1 } := fun tk => ⟨.str _, H, I.tok _, ⟨_, rfl⟩, q⟩
  cases d with
  | none =>
    cases R
    rw [PyData.shown_none] at q
    exact PySem.P.repr_of_none ⟨.str _, H, I.tok _, ⟨_, rfl⟩, q⟩
  | bool b =>
    cases R
    rw [PyData.shown_bool] at q
    refine PySem.P.repr_of_bool ⟨.str _, H, I.tok _, ⟨_, rfl⟩, ?_⟩
    cases b <;> exact q
  | int i =>
    cases R
    have h' : i.natAbs.log2 < 1920 := by
      have z := ok2.2
      unfold PyData.showable at z
      exact of_decide_eq_true z
    rw [PyData.shown_int] at q
    exact PySem.P.repr_of_int h' ⟨.str _, H, I.tok _, ⟨_, rfl⟩, q⟩
  | str x =>
    cases R
    rw [PyData.shown_str] at q hz
    exact PySem.P.repr_of_str ⟨.str _, H, I.tok _, ⟨_, rfl⟩, q⟩ hz
  | list ds =>
    obtain ⟨a, _, rfl, _⟩ := dp_lst D
    cases rv
    refine repr_of_reads' R ok2.2 (fun z => by rw [noDict _ lay] at z; cases z) hG ?_ (fun _ _ e => e) (fun h' u tk hk => ?_) hz
    · have := SeqAt.depth_of_shaped ok2.1
      have := hr.un
      omega
    · exact ⟨.str _, H, I.kept (t' := tk) hk, ⟨_, rfl⟩, q⟩
  | tuple ds =>
    obtain ⟨a, _, rfl, _⟩ := dp_tup D
    cases rv
    refine repr_of_reads' R ok2.2 (fun z => by rw [noDict _ lay] at z; cases z) hG ?_ (fun _ _ e => e) (fun h' u tk hk => ?_) hz
    · have := SeqAt.depth_of_shaped ok2.1
      have := hr.un
      omega
    · exact ⟨.str _, H, I.kept (t' := tk) hk, ⟨_, rfl⟩, q⟩
  | dict _ => cases D
section
variable {F : Fr}
theorem rc_repr {d : PyData} (h : reprOk d = true) : RC F (rRepr F.K) [d] (.str d.shown) := fun G H vs Q e D q => by
  cases D with
  | cons D1 D2 =>
    cases D2
    exact ⟨_, d, rfl, dp_mono e _ _ D1, h, q _ G H (Grow.refl e) (.str _)⟩
end

/-! ### text * int, list(text) -/
def Str.rep (x : Str) (n : Nat) : Str := ⟨(List.replicate n x.cps).foldl (· ++ ·) #[]⟩
def rMulS : R2 := fun a b H Q => ∃ (x : Str) (n : Int), a = .str x ∧ b = .int n ∧ 0 ≤ n ∧ n ≤ 1000 ∧ x.length ≤ 1000 ∧ Q (.str ⟨(List.replicate n.toNat x.cps).foldl (· ++ ·) #[]⟩) H
theorem fold_one (a : Array Nat) : (List.replicate 1 a).foldl (· ++ ·) #[] = a := by simp
theorem fold_emp : ∀ n : Nat, (List.replicate n (#[] : Array Nat)).foldl (· ++ ·) #[] = #[]
  | 0 => rfl
  | n + 1 => by
    rw [List.replicate_succ, List.foldl_cons]
    simpa using fold_emp n
theorem rep_size (a : Array Nat) : ∀ (n : Nat) (acc : Array Nat), ((List.replicate n a).foldl (· ++ ·) acc).size = acc.size + n * a.size
  | 0, acc => by simp
  | n + 1, acc => by
    rw [List.replicate_succ, List.foldl_cons, rep_size a n, Array.size_append, Nat.succ_mul]
    omega
theorem op_mulS {X : Cx} : OpR X (binaryOp .Mult) rMulS := by
  intro pins s σ H x y v u Q I rx ry h
  obtain ⟨x, n, rfl, rfl, h0, h1, h2, q⟩ := h
  obtain ⟨t, rfl⟩ := rx
  obtain ⟨t', rfl⟩ := ry
  refine PySem.P.mul_str ?_ (fun hn _ => ?_) (fun hn _ => ?_) ?_
  · rw [decide_eq_false (by omega), decide_eq_false (by omega)]
    rfl
  · intro z
    have e : (2 ^ 63 - 1 : Int) / n ≥ (2 ^ 63 - 1) / 1000 := by
      apply Int.le_ediv_of_mul_le (by omega)
      have : (2 ^ 63 - 1 : Int) / 1000 * n ≤ (2 ^ 63 - 1 : Int) / 1000 * 1000 := Int.mul_le_mul_of_nonneg_left (by omega) (by decide)
      have e2 : (2 ^ 63 - 1 : Int) / 1000 * 1000 ≤ 2 ^ 63 - 1 := by decide
      omega
    have e3 : (2 ^ 63 - 1 : Int) / 1000 ≥ 1000 := by decide
    omega
  · have hm : x.length * n.toNat ≤ 1000 * 1000 := Nat.mul_le_mul h2 (by omega)
    show decide (_ > _) = false
    apply decide_eq_false
    have : (1000 : Nat) * 1000 ≤ 16777216 := by decide
    intro z
    have z2 : x.length * n.toNat > sizeLine := z
    rw [sizeLine_eq] at z2
    omega
  · by_cases hn : n < 1
    · rw [if_pos hn]
      have e : n.toNat = 0 := by omega
      rw [e] at q
      exact ⟨by decide, .str _, H, I.tok _, ⟨_, rfl⟩, q⟩
    · rw [if_neg hn]
      by_cases hb : (n == 1 || x.length == 0) = true
      · rw [if_pos hb]
        have e : (⟨(List.replicate n.toNat x.cps).foldl (· ++ ·) #[]⟩ : Str) = x := by
          rcases Bool.or_eq_true_iff.mp hb with z | z
          · have z1 : n = 1 := by simpa using z
            subst z1
            show (⟨(List.replicate 1 x.cps).foldl (· ++ ·) #[]⟩ : Str) = x
            rw [fold_one]
          · have z1 : x.length = 0 := by simpa using z
            have z2 : x.cps = #[] := Array.eq_empty_of_size_eq_zero z1
            rw [z2, fold_emp, ← z2]
        rw [e] at q
        exact ⟨.str _, H, I, ⟨_, rfl⟩, q⟩
      · rw [if_neg hb]
        refine ⟨?_, .str _, H, I.tok _, ⟨_, rfl⟩, q⟩
        have e := rep_size x.cps n.toNat #[]
        show ((List.replicate n.toNat x.cps).foldl (· ++ ·) #[]).size ≤ sizeLine
        rw [e]
        have hm : n.toNat * x.cps.size ≤ 1000 * 1000 := Nat.mul_le_mul (by omega) h2
        rw [sizeLine_eq]
        show (#[] : Array Nat).size + _ ≤ _
        have : (#[] : Array Nat).size = 0 := rfl
        omega
/-- a text so many times -/
def repS (x : Str) (n : Int) : Str := ⟨(List.replicate n.toNat x.cps).foldl (· ++ ·) #[]⟩
theorem repS_list (x : Str) (n : Int) : (repS x n).cps.toList = (List.replicate n.toNat x.cps.toList).flatten := by
  have key : ∀ (m : Nat) (acc : Array Nat), ((List.replicate m x.cps).foldl (· ++ ·) acc).toList = acc.toList ++ (List.replicate m x.cps.toList).flatten := by
    intro m
    induction m with
    | zero => intro acc; simp
    | succ m ih =>
      intro acc
      rw [List.replicate_succ, List.foldl_cons, ih, List.replicate_succ, List.flatten_cons, Array.toList_append, List.append_assoc]
  unfold repS
  rw [key]
  rfl
def rMulA : R2 := fun x y H Q => rI CMul (fun i j => .int (i * j)) x y H Q ∨ rMulS x y H Q
theorem op_mulA {X : Cx} : OpR X (binaryOp .Mult) rMulA := OpR.or op_mul op_mulS
def rAddS' : R2 := fun x y H Q => ∃ i j, x = .str i ∧ y = .str j ∧ i.length + j.length ≤ sizeLine ∧ Q (.str (i ++ j)) H
def rAddA (K : PySem.W.Frag) : R2 := fun x y H Q => (rI0 fun i j => .int (i + j)) x y H Q ∨ rAddS' x y H Q ∨ rCat x y H Q ∨ rCatT K x y H Q
theorem op_addA {X : Cx} : OpR X (binaryOp .Add) (rAddA X.K) := OpR.or op_add (OpR.or op_add_str (OpR.or op_cat op_catT))
def rInSign : R2 := fun x y H Q => ∃ (c : Nat) (z : Str), x = .str ⟨#[c]⟩ ∧ y = .str z ∧ Q (.bl (decide (c ∈ z.cps.toList))) H
def rInStr : R2 := fun x y H Q => ∃ i j, x = .str i ∧ y = .str j ∧ Q (.bl (!(Builtin.Str.occurrences j i 0 j.length 1).isEmpty)) H
def rInA (K : PySem.W.Frag) : R2 := fun x y H Q => rInSign x y H Q ∨ rInStr x y H Q ∨ rIn K false x y H Q
theorem op_inA {X : Cx} : OpR X (compareOp .In) (rInA X.K) := OpR.or op_in_sign (OpR.or op_in_str op_in_seq)
def rNotInSign : R2 := fun x y H Q => ∃ (c : Nat) (z : Str), x = .str ⟨#[c]⟩ ∧ y = .str z ∧ Q (.bl (!decide (c ∈ z.cps.toList))) H
def rNotInStr : R2 := fun x y H Q => ∃ i j, x = .str i ∧ y = .str j ∧ Q (.bl (!(!(Builtin.Str.occurrences j i 0 j.length 1).isEmpty))) H
def rNotInA (K : PySem.W.Frag) : R2 := fun x y H Q => rNotInSign x y H Q ∨ rNotInStr x y H Q ∨ rIn K true x y H Q
theorem op_notInA {X : Cx} : OpR X (compareOp .NotIn) (rNotInA X.K) := OpR.or op_notIn_sign (OpR.or op_notin_str op_notIn_seq)
def rEqA (K : PySem.W.Frag) : R2 := fun x y H Q => rEq x y H Q ∨ rEqD K x y H Q
theorem op_eqA {X : Cx} (hu : X.A.units + 64 < cLine) : OpR X (compareOp .Eq) (rEqA X.K) := OpR.or op_eq (op_eqD hu)
def rNeA (K : PySem.W.Frag) : R2 := fun x y H Q => rNe x y H Q ∨ rNeD K x y H Q
theorem op_neA {X : Cx} (hu : X.A.units + 64 < cLine) : OpR X (compareOp .NotEq) (rNeA X.K) := OpR.or op_ne (op_neD hu)
def rSlAll (K : PySem.W.Frag) : V → Option Int → Option Int → Hp → VK → Prop := fun x lo hi H Q => rSlL K x lo hi H Q ∨ rSlA K x lo hi H Q ∨ rSlS x lo hi H Q
theorem sl_all {X : Cx} : SlR X (rSlAll X.K) := SlR.or sl_list (SlR.or sl_tupA sl_str)
/-- list(a text) -/
def signV (z : Str) : List V := z.cps.toList.map fun c => .str ⟨#[c]⟩
def rListStr : List V → Hp → VK → Prop := fun xs H Q => ∃ z : Str, xs = [.str z] ∧ z.length ≤ sizeLine ∧ ∀ l, H l = none → Q (.ref l) (upd H l (.lst (signV z)))
theorem vals_signs {its : List Value} {cs : List Nat} (hl : its.length = cs.length) (h : ∀ (j : Nat) (v : Value), its[j]? = some v → ∃ c u, cs[j]? = some c ∧ v = .str ⟨#[c]⟩ u) : Vals (cs.map fun c => V.str ⟨#[c]⟩) its := by
  induction cs generalizing its with
  | nil =>
    cases its with
    | nil => exact .nil
    | cons => cases hl
  | cons c cs ih =>
    cases its with
    | nil => cases hl
    | cons v vs =>
      obtain ⟨c', u, e1, e2⟩ := h 0 v rfl
      cases e1
      refine .cons ⟨u, e2⟩ (ih (by simpa using hl) fun j w hw => ?_)
      exact h (j + 1) w (by simpa using hw)
theorem call_listStr {X : Cx} (hc : X.calm = true) : CallR X (.type "list") rListStr := by
  intro pins s σ H xs us Q I r h
  obtain ⟨z, rfl, hz, q⟩ := h
  obtain ⟨u, rfl, t, rfl⟩ := vals1 r
  refine call_list_str (I.ok.hd hc) z t (fun h' tk acc' c' hk hS hacc => ?_) hz
  have hp : H s.heap.objs.size = none := I.hok.fresh (Nat.le_refl _)
  have rv : Vals (signV z) acc'.toList := vals_signs (by simp [hacc.1]) fun j v hv => by
    obtain ⟨c, u, e1, e2⟩ := hacc.2 j v (by simpa using hv)
    exact ⟨c, u, by simpa using e1, e2⟩
  refine ⟨.ref s.heap.objs.size, upd H s.heap.objs.size (.lst (signV z)), I.laid (t' := tk) hk (Nat.le_refl _) ⟨?_, acc'.toList, c', rv, by simpa using hS⟩, rfl, q _ hp⟩
  unfold signV
  rw [List.length_map]
  have e : z.cps.toList.length = z.length := by
    rw [Array.length_toList]
    rfl
  rw [e]
  exact hz
def rListA (K : PySem.W.Frag) : List V → Hp → VK → Prop := fun xs H Q => (∃ p ys, xs = [.ref p] ∧ (SqL K H p ys ∨ SqT K H p ys) ∧ ∀ l, H l = none → Q (.ref l) (upd H l (.lst ys))) ∨ rListStr xs H Q
theorem call_listA {X : Cx} (hc : X.calm = true) : CallR X (.type "list") (rListA X.K) := CallR.or call_list_of (call_listStr hc)
def rTupleA (K : PySem.W.Frag) : List V → Hp → VK → Prop := fun xs H Q => ∃ p ys, xs = [.ref p] ∧ ((SqL K H p ys ∧ ∀ l, H l = none → Q (.ref l) (upd H l (.tup ys))) ∨ (SqT K H p ys ∧ Q (.ref p) H))
theorem call_tupleA {X : Cx} : CallR X (.type "tuple") (rTupleA X.K) := call_tuple_of
def rLenA (K : PySem.W.Frag) : List V → Hp → VK → Prop := fun xs H Q => ∃ x n, xs = [x] ∧ LenV K x H n ∧ Q (.int n) H
theorem call_lenA {X : Cx} : CallR X (.builtin "len") (rLenA X.K) := call_len
def rIntA : List V → Hp → VK → Prop := fun xs H Q => (∃ i, xs = [.int i] ∧ Q (.int i) H) ∨ ∃ k, xs = [.bl k] ∧ Q (.int (if k then 1 else 0)) H
theorem call_intA {X : Cx} : CallR X (.type "int") rIntA := call_int1
def rAbsA : List V → Hp → VK → Prop := fun xs H Q => ∃ i, xs = [.int i] ∧ Q (.int (if i < 0 then -i else i)) H
theorem call_absA {X : Cx} : CallR X (.builtin "abs") rAbsA := call_abs
def rMax2A : List V → Hp → VK → Prop := fun xs H Q => ∃ i j, xs = [.int i, .int j] ∧ Q (.int (if j > i then j else i)) H
theorem call_max2A {X : Cx} (hc : X.calm = true) : CallR X (.builtin "max") rMax2A := call_max2 hc
def rMin2A : List V → Hp → VK → Prop := fun xs H Q => ∃ i j, xs = [.int i, .int j] ∧ Q (.int (if j < i then j else i)) H
theorem call_min2A {X : Cx} (hc : X.calm = true) : CallR X (.builtin "min") rMin2A := call_min2 hc
def rJoinA (K : PySem.W.Frag) : V → List V → Hp → VK → Prop := fun x xs H Q => ∃ a p, ∃ ys : List Str, x = .str a ∧ xs = [.ref p] ∧ (SqL K H p (ys.map V.str) ∨ SqT K H p (ys.map V.str)) ∧ (ys.map (·.length)).sum + ys.length * a.length ≤ 16777216 ∧ Q (.str (Txt.join a ys)) H
theorem mt_joinA {X : Cx} : MtR X "str.join" (rJoinA X.K) := mt_join
def rSplitA : V → List V → Hp → VK → Prop := fun x xs H Q => ∃ a b, x = .str a ∧ xs = [.str b] ∧ (b.length == 0) = false ∧ a.length + 2 ≤ sizeLine ∧ rNewStrs (Txt.split a b) H Q
theorem mt_splitA {X : Cx} : MtR X "str.split" rSplitA := mt_split

section
variable {F : Fr} {s s' s1 s2 : Sts} {ta tb te : TE} {d : PyData} {xs ds ys : List PyData} {i : Nat} {p : Addr}
/-- a list (no tuple) that can be read now -/
def EvQ (F : Fr) (te : TE) (s : Sts) (xs : List PyData) (s' : Sts) : Prop := ∀ σ G H, Ok F s σ G H → ∀ Q : VK, (∀ p vs G' H', Ok F s' σ G' H' → Same G G' → SqL F.K H' p vs → DpAll F.K G' vs xs → Q (.ref p) H') → te σ H Q
theorem EvQ.toS (h : EvQ F te s xs s') : EvS F te s xs s' := fun σ G H k Q q => h σ G H k Q fun p vs G' H' k' e' hs hv => q p vs G' H' k' e' (.inl hs) hv
theorem eq_var (h : s[i]? = some (.ls p xs)) : EvQ F (tVar i) s xs s := fun σ G H k Q q => by
  obtain ⟨h1, ⟨vs, h2, h3⟩, _, _⟩ := k.sl i _ h
  exact ⟨.ref p, h1, q p vs G H k (Same.refl G) (.of h2) h3⟩
theorem eq_lst (h : Ev F te s (.list xs) s') : EvQ F te s xs s' := fun σ G H k Q q => h σ G H k _ fun v G' H' k' e' D => by
  obtain ⟨a, vs, rfl, h1, h2⟩ := dp_lst D
  exact q a vs G' H' k' e' (sqL_mono k'.gh h1) h2
theorem eq_new (h : EvL F te s xs s') : EvQ F te s xs s' := fun σ G H k Q q => h σ G H k _ fun p vs G' H' k' e' n => q p vs G' H' k' e' (.of n.at_) n.all

/-! operators -/
theorem rv_addI {m n : Int} : RV F (rAddA F.K) (.int m) (.int n) (.int (m + n)) := fun G H x y Q e h1 h2 q => .inl (rv_I0I (g := fun i j => i + j) G H x y Q e h1 h2 q)
theorem rv_addT {x y : Str} (hz : x.length + y.length ≤ sizeLine) : RV F (rAddA F.K) (.str x) (.str y) (.str (x ++ y)) := fun G H a b Q e h1 h2 q => .inr (.inl (rv_addS hz G H a b Q e h1 h2 q))
theorem rv_subI {m n : Int} : RV F (rI0 fun i j => .int (i - j)) (.int m) (.int n) (.int (m - n)) := rv_I0I (g := fun i j => i - j)
theorem rv_mulI {m n : Int} (h : CMul m n) : RV F rMulA (.int m) (.int n) (.int (m * n)) := fun G H x y Q e h1 h2 q => .inl (rv_II (g := fun i j => i * j) h G H x y Q e h1 h2 q)
theorem rv_mulS {x : Str} {n : Int} (h0 : 0 ≤ n) (h1 : n ≤ 1000) (h2 : x.length ≤ 1000) : RV F rMulA (.str x) (.int n) (.str (repS x n)) := fun G H a b Q e g1 g2 q => .inr ⟨x, n, dp_str g1, dp_int g2, h0, h1, h2, q _ G H (Grow.refl e) (.str _)⟩
theorem rv_modI {m n : Int} (h : 0 < n) : RV F (rI (fun _ j => 0 < j) fun i j => .int (i % j)) (.int m) (.int n) (.int (m % n)) := rv_II (C := fun _ j => 0 < j) (g := fun i j => i % j) h
theorem rv_divI {m n : Int} (h : CDiv m n) : RV F (rI CDiv fun i j => .int (i / j)) (.int m) (.int n) (.int (m / n)) := rv_II (g := fun i j => i / j) h
theorem rv_powI {m n : Int} (h : CPow m n) : RV F (rI CPow fun i j => .int (i ^ j.toNat)) (.int m) (.int n) (.int (m ^ n.toNat)) := rv_II (g := fun i j => i ^ j.toNat) h
theorem rv_ltI {m n : Int} : RV F (rI0 fun i j => .bl (decide (i < j))) (.int m) (.int n) (.bool (decide (m < n))) := rv_I0B (g := fun i j => decide (i < j))
theorem rv_leI {m n : Int} : RV F (rI0 fun i j => .bl (decide (i ≤ j))) (.int m) (.int n) (.bool (decide (m ≤ n))) := rv_I0B (g := fun i j => decide (i ≤ j))
theorem rv_gtI {m n : Int} : RV F (rI0 fun i j => .bl (decide (j < i))) (.int m) (.int n) (.bool (decide (n < m))) := rv_I0B (g := fun i j => decide (j < i))
theorem rv_geI {m n : Int} : RV F (rI0 fun i j => .bl (decide (j ≤ i))) (.int m) (.int n) (.bool (decide (n ≤ m))) := rv_I0B (g := fun i j => decide (j ≤ i))
theorem rv_eqDI {m n : Int} : RV F (rEqA F.K) (.int m) (.int n) (.bool (decide (m = n))) := fun G H x y Q e h1 h2 q => .inl (rv_eqI G H x y Q e h1 h2 q)
theorem rv_neDI {m n : Int} : RV F (rNeA F.K) (.int m) (.int n) (.bool (!decide (m = n))) := fun G H x y Q e h1 h2 q => .inl (rv_neI G H x y Q e h1 h2 q)
theorem rv_eqDS {m n : Str} : RV F (rEqA F.K) (.str m) (.str n) (.bool (decide (m = n))) := fun G H x y Q e h1 h2 q => .inl (rv_eqS G H x y Q e h1 h2 q)
theorem rv_neDS {m n : Str} : RV F (rNeA F.K) (.str m) (.str n) (.bool (!decide (m = n))) := fun G H x y Q e h1 h2 q => .inl (rv_neS G H x y Q e h1 h2 q)
theorem rv_eqDD {d1 d2 : PyData} (h1 : SeqAt.shaped d1 = true) (h2 : SeqAt.shaped d2 = true) : RV F (rEqA F.K) d1 d2 (.bool (PyData.eqv d1 d2)) := fun G H x y Q e g1 g2 q => .inr (rv_eqD h1 h2 G H x y Q e g1 g2 q)
theorem rv_neDD {d1 d2 : PyData} (h1 : SeqAt.shaped d1 = true) (h2 : SeqAt.shaped d2 = true) : RV F (rNeA F.K) d1 d2 (.bool (!PyData.eqv d1 d2)) := fun G H x y Q e g1 g2 q => .inr (rv_neD h1 h2 G H x y Q e g1 g2 q)
theorem rv_inS1 {c : Nat} {z : Str} : RV F (rInA F.K) (.str ⟨#[c]⟩) (.str z) (.bool (decide (c ∈ z.cps.toList))) := fun G H x y Q e h1 h2 q => .inl (rv_inSign G H x y Q e h1 h2 q)
theorem rv_notInS1 {c : Nat} {z : Str} : RV F (rNotInA F.K) (.str ⟨#[c]⟩) (.str z) (.bool (!decide (c ∈ z.cps.toList))) := fun G H x y Q e h1 h2 q => .inl (rv_notInSign G H x y Q e h1 h2 q)
def hasS (y x : Str) : Bool := !(Builtin.Str.occurrences y x 0 y.length 1).isEmpty
theorem rv_inT {x y : Str} : RV F (rInA F.K) (.str x) (.str y) (.bool (hasS y x)) := fun G H a b Q e h1 h2 q => .inr (.inl (rv_inStr G H a b Q e h1 h2 q))
theorem ev_inSs {x : Str} {ws : List Str} (ha : Ev F ta s (.str x) s1) (hb : EvS F tb s1 (ws.map .str) s2) : Ev F (tOp (rInA F.K) ta tb) s (.bool (decide (x ∈ ws))) s2 := fun σ G H k Q q =>
  ha σ G H k _ fun a G1 H1 k1 e1 D1 => hb σ G1 H1 k1 _ fun p vs G2 H2 k2 e2 hs hv => by
    have ev := dpAll_strs hv
    subst ev
    rw [dp_str D1]
    refine .inr (.inr ⟨p, _, rfl, hs, rfl, flat_strs ws, ?_⟩)
    rw [inV_strs]
    exact q _ G2 H2 k2 (e1.trans e2) (.bl _)

/-! slices -/
def EvO (F : Fr) (to : TO) (s : Sts) (o : Option Int) : Prop := ∀ σ G H, Ok F s σ G H → ∀ Q : Option Int → Hp → Prop, (∀ G' H', Ok F s σ G' H' → Same G G' → Q o H') → to σ H Q
theorem eo_none : EvO F tNoPart s none := fun σ G H k Q q => q G H k (Same.refl G)
theorem eo_some {n : Int} (h : Ev F te s (.int n) s) : EvO F (tPart te) s (some n) := fun σ G H k Q q => h σ G H k _ fun v G' H' k' e' D => ⟨n, dp_int D, q G' H' k' e'⟩
def cutD {α : Type} (xs : List α) (lo hi : Option Int) : List α := (xs.drop (HT.sIx xs.length 0 lo)).take (HT.sIx xs.length xs.length hi - HT.sIx xs.length 0 lo)
theorem ev_slS {x : Str} {lo hi : Option Int} {tl th : TO} (h : Ev F te s (.str x) s1) (hl : EvO F tl s1 lo) (hh : EvO F th s1 hi) (hz : x.length ≤ sizeLine) : Ev F (tSl (rSlAll F.K) te tl th) s (.str (cutS x lo hi)) s1 := fun σ G H k Q q =>
  h σ G H k _ fun v G1 H1 k1 e1 D1 => hl σ G1 H1 k1 _ fun G2 H2 k2 e2 => hh σ G2 H2 k2 _ fun G3 H3 k3 e3 => by
    rw [dp_str D1]
    exact .inr (.inr ⟨x, rfl, hz, q _ G3 H3 k3 (e1.trans (e2.trans e3)) (.str _)⟩)
theorem dpAll_cut {K : PySem.W.Frag} {G : Hp} {vs : List V} {lo hi : Option Int} (h : DpAll K G vs xs) : DpAll K G (cutV vs lo hi) (cutD xs lo hi) := by
  unfold cutV cutD
  rw [dpAll_len h]
  exact dpAll_take _ (dpAll_drop _ h)
theorem el_slL {lo hi : Option Int} {tl th : TO} (h : Ev F te s (.list xs) s1) (hl : EvO F tl s1 lo) (hh : EvO F th s1 hi) : EvL F (tSl (rSlAll F.K) te tl th) s (cutD xs lo hi) s1 := fun σ G H k Q q =>
  h σ G H k _ fun v G1 H1 k1 e1 D1 => hl σ G1 H1 k1 _ fun G2 H2 k2 e2 => hh σ G2 H2 k2 _ fun G3 H3 k3 e3 => by
    obtain ⟨a, vs, rfl, h1, h2⟩ := dp_lst D1
    refine .inl ⟨a, vs, rfl, sqL_mono ((e2.trans e3).trans k3.gh) h1, fun p hp => ?_⟩
    have f := k3.fresh hp
    exact q p _ G3 _ (k3.newH hp _) (e1.trans (e2.trans e3)) ⟨upd_same, f.1, f.2.1, f.2.2, k3.adr_ne hp, dpAll_cut (dpAll_mono (e2.trans e3) _ _ h2)⟩

/-! calls of builtins -/
theorem ev_lenT (h : Ev F te s d s1) (hd : d = .tuple xs ∨ d = .list xs) : Ev F (tCB (rLenA F.K) (tCons te tNil)) s (.int xs.length) s1 := fun σ G H k Q q => h σ G H k _ fun v G1 H1 k1 e1 D1 => by
  rcases hd with rfl | rfl
  · obtain ⟨a, vs, rfl, h1, h2⟩ := dp_tup D1
    exact ⟨.ref a, xs.length, rfl, .inr ⟨vs, sqT_mono k1.gh h1, (dpAll_len h2).symm⟩, q _ G1 H1 k1 e1 (.int _)⟩
  · obtain ⟨a, vs, rfl, h1, h2⟩ := dp_lst D1
    exact ⟨.ref a, xs.length, rfl, .inl ⟨vs, sqL_mono k1.gh h1, (dpAll_len h2).symm⟩, q _ G1 H1 k1 e1 (.int _)⟩
theorem ev_lenS {x : Str} (h : Ev F te s (.str x) s1) (hz : x.length ≤ sizeLine) : Ev F (tCB (rLenA F.K) (tCons te tNil)) s (.int x.length) s1 := fun σ G H k Q q => h σ G H k _ fun v G1 H1 k1 e1 D1 => by
  rw [dp_str D1]
  exact ⟨.str x, x.length, rfl, ⟨hz, rfl⟩, q _ G1 H1 k1 e1 (.int _)⟩
theorem ev_lenQ (h : EvS F te s xs s1) : Ev F (tCB (rLenA F.K) (tCons te tNil)) s (.int xs.length) s1 := fun σ G H k Q q => h σ G H k _ fun p vs G1 H1 k1 e1 hs hv => by
  refine ⟨.ref p, xs.length, rfl, ?_, q _ G1 H1 k1 e1 (.int _)⟩
  rcases hs with hs | hs
  · exact .inl ⟨vs, hs, (dpAll_len hv).symm⟩
  · exact .inr ⟨vs, hs, (dpAll_len hv).symm⟩
theorem rc_int {n : Int} : RC F rIntA [.int n] (.int n) := fun G H vs Q e D q => by
  cases D with
  | cons D1 D2 =>
    cases D2
    rw [dp_int D1]
    exact .inl ⟨n, rfl, q _ G H (Grow.refl e) (.int _)⟩
theorem rc_intB {b : Bool} : RC F rIntA [.bool b] (.int (if b then 1 else 0)) := fun G H vs Q e D q => by
  cases D with
  | cons D1 D2 =>
    cases D2
    rw [dp_bool D1]
    exact .inr ⟨b, rfl, q _ G H (Grow.refl e) (.int _)⟩
theorem rc_abs {n : Int} : RC F rAbsA [.int n] (.int n.natAbs) := fun G H vs Q e D q => by
  cases D with
  | cons D1 D2 =>
    cases D2
    rw [dp_int D1]
    refine ⟨n, rfl, ?_⟩
    have e2 : (if n < 0 then -n else n) = (n.natAbs : Int) := by split <;> omega
    rw [e2]
    exact q _ G H (Grow.refl e) (.int _)
theorem rc_max2 {m n : Int} : RC F rMax2A [.int m, .int n] (.int (max m n)) := fun G H vs Q e D q => by
  cases D with
  | cons D1 D2 =>
    cases D2 with
    | cons D2 D3 =>
      cases D3
      rw [dp_int D1, dp_int D2]
      refine ⟨m, n, rfl, ?_⟩
      have e2 : (if n > m then n else m) = max m n := by split <;> omega
      rw [e2]
      exact q _ G H (Grow.refl e) (.int _)
theorem rc_min2 {m n : Int} : RC F rMin2A [.int m, .int n] (.int (min m n)) := fun G H vs Q e D q => by
  cases D with
  | cons D1 D2 =>
    cases D2 with
    | cons D2 D3 =>
      cases D3
      rw [dp_int D1, dp_int D2]
      refine ⟨m, n, rfl, ?_⟩
      have e2 : (if n < m then n else m) = min m n := by split <;> omega
      rw [e2]
      exact q _ G H (Grow.refl e) (.int _)
theorem rc_max3 {m n o : Int} : RC F (rNuC3 nuMax3) [.int m, .int n, .int o] (.int (max (max m n) o)) := fun G H vs Q e D q => by
  cases D with
  | cons D1 D2 =>
    cases D2 with
    | cons D2 D3 =>
      cases D3 with
      | cons D3 D4 =>
        cases D4
        rw [dp_int D1, dp_int D2, dp_int D3]
        refine ⟨.int m, .int n, .int o, .int (max (max m n) o), rfl, ?_, q _ G H (Grow.refl e) (.int _)⟩
        have two : ∀ a b : Int, nuMax2 (.int a) (.int b) = some (.int (max a b)) := fun a b => by
          show some (if decide (a < b) = true then V.int b else V.int a) = _
          by_cases h : a < b
          · rw [decide_eq_true h, if_pos rfl]
            congr 2
            omega
          · rw [decide_eq_false h, if_neg Bool.false_ne_true]
            congr 2
            omega
        unfold nuMax3
        rw [two, Option.bind_some, two]
/-- tuple(..) -/
theorem ev_tupleQ (h : EvQ F te s xs s1) : Ev F (tCB (rTupleA F.K) (tCons te tNil)) s (.tuple xs) s1 := fun σ G H k Q q => h σ G H k _ fun p vs G1 H1 k1 e1 hs hv => by
  refine ⟨p, vs, rfl, .inl ⟨hs, fun l hl => ?_⟩⟩
  obtain ⟨k2, g⟩ := k1.new hl (.tup vs)
  exact q _ _ _ k2 (e1.trans g) (.tup (.of upd_same) (dpAll_mono g _ _ hv))
theorem ev_tupleT (h : Ev F te s (.tuple xs) s1) : Ev F (tCB (rTupleA F.K) (tCons te tNil)) s (.tuple xs) s1 := fun σ G H k Q q => h σ G H k _ fun v G1 H1 k1 e1 D => by
  obtain ⟨a, vs, rfl, h1, h2⟩ := dp_tup D
  exact ⟨a, vs, rfl, .inr ⟨sqT_mono k1.gh h1, q _ G1 H1 k1 e1 (.tup h1 h2)⟩⟩
/-- list(..) -/
theorem el_listS (h : EvS F te s xs s1) : EvL F (tCB (rListA F.K) (tCons te tNil)) s xs s1 := fun σ G H k Q q => h σ G H k _ fun p vs G1 H1 k1 e1 hs hv => by
  refine .inl ⟨p, vs, rfl, hs, fun l hl => ?_⟩
  have f := k1.fresh hl
  exact q l _ G1 _ (k1.newH hl _) e1 ⟨upd_same, f.1, f.2.1, f.2.2, k1.adr_ne hl, hv⟩
def signD (z : Str) : List PyData := z.cps.toList.map fun c => .str ⟨#[c]⟩
theorem dpAll_signs {K : PySem.W.Frag} {G : Hp} (z : Str) : DpAll K G (signV z) (signD z) := dpAll_map _ _ (fun _ => .str _) _
theorem el_listStr {z : Str} (h : Ev F te s (.str z) s1) (hz : z.length ≤ sizeLine) : EvL F (tCB (rListA F.K) (tCons te tNil)) s (signD z) s1 := fun σ G H k Q q => h σ G H k _ fun v G1 H1 k1 e1 D => by
  rw [dp_str D]
  refine .inr ⟨z, rfl, hz, fun l hl => ?_⟩
  have f := k1.fresh hl
  exact q l _ G1 _ (k1.newH hl _) e1 ⟨upd_same, f.1, f.2.1, f.2.2, k1.adr_ne hl, dpAll_signs z⟩
theorem ev_all {bs : List Bool} (h : EvQ F te s (bs.map .bool) s1) : Ev F (tCB (rAll F.K) (tCons te tNil)) s (.bool (bs.all id)) s1 := fun σ G H k Q q => h σ G H k _ fun p vs G1 H1 k1 e1 hs hv => by
  have e := dpAll_bools hv
  subst e
  exact ⟨p, bs, rfl, hs, q _ G1 H1 k1 e1 (.bl _)⟩
theorem ev_any {bs : List Bool} (h : EvQ F te s (bs.map .bool) s1) : Ev F (tCB (rAny F.K) (tCons te tNil)) s (.bool (bs.any id)) s1 := fun σ G H k Q q => h σ G H k _ fun p vs G1 H1 k1 e1 hs hv => by
  have e := dpAll_bools hv
  subst e
  exact ⟨p, bs, rfl, hs, q _ G1 H1 k1 e1 (.bl _)⟩
/-- sep.join(texts) -/
theorem ev_join {a : Str} {ws : List Str} (ha : Ev F ta s (.str a) s1) (hb : EvS F tb s1 (ws.map .str) s2) (hz : (ws.map (·.length)).sum + ws.length * a.length ≤ 16777216) : Ev F (tBM F.K "str" (rJoinA F.K) ta (tCons tb tNil)) s (.str (Txt.join a ws)) s2 := fun σ G H k Q q =>
  ha σ G H k _ fun v G1 H1 k1 e1 D1 => by
    rw [dp_str D1]
    refine ⟨rfl, hb σ G1 H1 k1 _ fun p vs G2 H2 k2 e2 hs hv => ?_⟩
    have e := dpAll_strs hv
    subst e
    exact ⟨a, p, ws, rfl, rfl, hs, hz, q _ G2 H2 k2 (e1.trans e2) (.str _)⟩
theorem el_split {a b : Str} (ha : Ev F ta s (.str a) s1) (hb : Ev F tb s1 (.str b) s2) (h0 : (b.length == 0) = false) (hz : a.length + 2 ≤ sizeLine) : EvL F (tBM F.K "str" rSplitA ta (tCons tb tNil)) s ((Txt.split a b).map .str) s2 := fun σ G H k Q q =>
  ha σ G H k _ fun v G1 H1 k1 e1 D1 => by
    rw [dp_str D1]
    refine ⟨rfl, hb σ G1 H1 k1 _ fun w G2 H2 k2 e2 D2 => ?_⟩
    rw [dp_str D2]
    refine ⟨a, b, rfl, rfl, h0, hz, fun p hp => ?_⟩
    have f := k2.fresh hp
    exact q p _ G2 _ (k2.newH hp _) (e1.trans e2) ⟨upd_same, f.1, f.2.1, f.2.2, k2.adr_ne hp, dpAll_map _ _ (fun _ => .str _) _⟩
/-- an owned list + a new list -/
theorem el_cat (hi : s[i]? = some (.ls p xs)) (hb : EvL F tb s ys s) (hz : xs.length + ys.length ≤ sizeLine) : EvL F (tOp (rAddA F.K) (tVar i) tb) s (xs ++ ys) s := fun σ G H k Q q => by
  obtain ⟨h1, _⟩ := k.sl i _ hi
  refine ⟨.ref p, h1, hb σ G H k _ fun r ws G2 H2 k2 e2 n => ?_⟩
  obtain ⟨_, ⟨us, g1, g2⟩, _, _⟩ := k2.sl i _ hi
  refine .inr (.inr (.inl ⟨p, r, us, ws, rfl, rfl, g1, n.at_, by rw [dpAll_len g2, dpAll_len n.all]; exact hz, fun l hl => ?_⟩))
  have f := k2.fresh hl
  exact q l _ G2 _ (k2.newH hl _) e2 ⟨upd_same, f.1, f.2.1, f.2.2, k2.adr_ne hl, dpAll_app g2 n.all⟩
/-- isinstance(x, T), T a built-in type -/
def tyD : PyData → String
  | .none => "NoneType"
  | .bool _ => "bool"
  | .int _ => "int"
  | .str _ => "str"
  | .list _ => "list"
  | .tuple _ => "tuple"
  | .dict _ => "dict"
theorem tyX_of {K : PySem.W.Frag} {G H : Hp} {v : V} (e : Same G H) (h : Dp K G v d) : TyX K H v (.type (tyD d)) := by
  cases h with
  | non => exact .base .non
  | bl b => exact .base (.bl b)
  | int z => exact .base (.int z)
  | str z => exact .base (.str z)
  | lst h1 h2 =>
    rcases h1 with (h1 | ⟨o, h1⟩) | ⟨o, its, n, h1, h3, _⟩
    · exact .base (.lst (e _ _ h1))
    · exact .base (.frz (e _ _ h1))
    · exact .kList h1 h3
  | tup h1 h2 =>
    rcases h1 with (h1 | ⟨o, h1⟩) | ⟨o, its, n, h1, h3, _⟩
    · exact .base (.tup (e _ _ h1))
    · exact .fTuple (e _ _ h1)
    · exact .kTuple h1 h3
theorem ev_isi {T : String} {b : Bool} (h : Ev F te s d s1) (hk : kitB (tyD d) T = some b) : Ev F (tCB (rIsi F.K) (tCons te (tCons (tC (.ty T)) tNil))) s (.bool b) s1 := fun σ G H k Q q => h σ G H k _ fun v G1 H1 k1 e1 D =>
  ⟨v, .ty T, .type (tyD d), .type T, b, rfl, .ty T, tyX_of k1.gh D, kit_ty hk, q _ G1 H1 k1 e1 (.bl _)⟩

/-! iterators -/
theorem ei_tup (h : Ev F te s (.tuple ds) s1) : EvI F (iTup F.K te) s ds s1 := fun σ G H k R q => h σ G H k _ fun v G1 H1 k1 e1 D => by
  obtain ⟨a, vs, rfl, h1, h2⟩ := dp_tup D
  have lv := dpAll_len h2
  refine ⟨a, rfl, ⟨vs, sqT_mono k1.gh h1⟩, q _ G1 H1 k1 e1 ⟨fun i H hi e => ?_, fun H e => ?_, fun i H x H' d hd e y => ?_⟩⟩
  · rw [← lv] at hi
    exact ⟨vs, vs[i], sqT_mono e h1, by simp [hi]⟩
  · exact ⟨vs, sqT_mono e h1, by omega⟩
  · obtain ⟨w, g1, g2⟩ := dpAll_get h2 hd
    have := y.2 vs (sqT_mono e h1)
    rw [g1] at this
    cases this
    exact .inl ⟨y.1, g2⟩
theorem ei_lst (h : Ev F te s (.list ds) s1) : EvI F (iList F.K te) s ds s1 := fun σ G H k R q => h σ G H k _ fun v G1 H1 k1 e1 D => by
  obtain ⟨a, vs, rfl, h1, h2⟩ := dp_lst D
  have lv := dpAll_len h2
  refine ⟨a, rfl, ⟨vs, sqL_mono k1.gh h1⟩, q _ G1 H1 k1 e1 ⟨fun i H hi e => ?_, fun H e => ?_, fun i H x H' d hd e y => ?_⟩⟩
  · rw [← lv] at hi
    exact ⟨vs, vs[i], sqL_mono e h1, by simp [hi]⟩
  · exact ⟨vs, sqL_mono e h1, by omega⟩
  · obtain ⟨w, g1, g2⟩ := dpAll_get h2 hd
    have := y.2 vs (sqL_mono e h1)
    rw [g1] at this
    cases this
    exact .inl ⟨y.1, g2⟩
theorem ei_str {z : Str} (h : Ev F te s (.str z) s1) : EvI F (iStr te) s (signD z) s1 := fun σ G H k R q => h σ G H k _ fun v G1 H1 k1 e1 D => by
  have lz : (signD z).length = z.cps.size := by
    unfold signD
    rw [List.length_map]
    simp
  refine ⟨z, dp_str D, q _ G1 H1 k1 e1 ⟨fun i H hi e => ?_, fun H e => ?_, fun i H x H' d hd e y => ?_⟩⟩
  · rw [lz] at hi
    exact hi
  · rw [lz]
    exact Nat.le_refl _
  · obtain ⟨e1, c, e2, e3⟩ := y
    subst e3
    refine .inl ⟨e1, ?_⟩
    unfold signD at hd
    rw [List.getElem?_map] at hd
    have : z.cps.toList[i]? = some c := by simpa using e2
    rw [this] at hd
    cases hd
    exact .str _
def rangeD (lo : Int) (n : Nat) : List PyData := (List.range n).map fun (i : Nat) => .int (lo + (i : Int))
theorem rangeD_len (lo : Int) (n : Nat) : (rangeD lo n).length = n := by
  unfold rangeD
  rw [List.length_map, List.length_range]
theorem wk_range {G1 : Hp} {lo : Int} {n : Nat} : Wk F (Itr lo n) G1 (rangeD lo n) := by
  refine ⟨fun i H hi e => ?_, fun H e => ?_, fun i H x H' d hd e y => ?_⟩
  · rw [rangeD_len] at hi
    exact hi
  · rw [rangeD_len]
    exact Nat.le_refl _
  · obtain ⟨e1, e2⟩ := y
    subst e2
    unfold rangeD at hd
    rw [List.getElem?_map] at hd
    cases q : (List.range n)[i]? with
    | none =>
      rw [q] at hd
      cases hd
    | some m =>
      rw [q] at hd
      cases hd
      have hm := List.getElem?_eq_some_iff.mp q
      obtain ⟨h1, h2⟩ := hm
      rw [List.getElem_range] at h2
      subst h2
      exact .inl ⟨e1, .int _⟩
theorem ei_rng1 {tas : TA} {n : Int} (h : EvA F tas s [.int n] s1) (h1 : -(2 ^ 62) ≤ n) (h2 : n < 2 ^ 62) : EvI F (iRng1 tas) s (rangeD 0 n.toNat) s1 := fun σ G H k R q => h σ G H k _ fun vs G1 H1 k1 e1 D => by
  cases D with
  | cons D1 D2 =>
    cases D2
    rw [dp_int D1]
    exact ⟨n, rfl, h1, h2, q _ G1 H1 k1 e1 wk_range⟩
theorem ei_rng2 {tas : TA} {m n : Int} (h : EvA F tas s [.int m, .int n] s1) (hb : -(2 ^ 62) ≤ m ∧ m < 2 ^ 62 ∧ -(2 ^ 62) ≤ n ∧ n < 2 ^ 62) : EvI F (iRng2 tas) s (rangeD m (n - m).toNat) s1 := fun σ G H k R q => h σ G H k _ fun vs G1 H1 k1 e1 D => by
  cases D with
  | cons D1 D2 =>
    cases D2 with
    | cons D2 D3 =>
      cases D3
      rw [dp_int D1, dp_int D2]
      exact ⟨m, n, rfl, hb, q _ G1 H1 k1 e1 wk_range⟩
def enumD (xs : List PyData) : List PyData := xs.mapIdx fun i d => .tuple [.int (i : Nat), d]
theorem ei_enum {tas : TA} (h : EvA F tas s [.list ds] s1) : EvI F (iEnum F.K tas) s (enumD ds) s1 := fun σ G H k R q => h σ G H k _ fun vs G1 H1 k1 e1 D => by
  cases D with
  | cons D1 D2 =>
    cases D2
    obtain ⟨a, ws, rfl, h1, h2⟩ := dp_lst D1
    have lv := dpAll_len h2
    have le : (enumD ds).length = ds.length := by
      unfold enumD
      rw [List.length_mapIdx]
    refine ⟨a, ws, rfl, sqL_mono k1.gh h1, q _ G1 H1 k1 e1 ⟨fun i H hi e => ?_, fun H e => ?_, fun i H x H' d hd e y => ?_⟩⟩
    · rw [le, ← lv] at hi
      exact ⟨ws, ws[i], sqL_mono e h1, by simp [hi]⟩
    · exact ⟨ws, sqL_mono e h1, by omega⟩
    · obtain ⟨T, x', e1, e2, e3, e4⟩ := y
      unfold enumD at hd
      rw [List.getElem?_mapIdx] at hd
      cases q1 : ds[i]? with
      | none =>
        rw [q1] at hd
        cases hd
      | some d' =>
        rw [q1] at hd
        cases hd
        obtain ⟨w, g1, g2⟩ := dpAll_get h2 q1
        have := e4 ws (sqL_mono e h1)
        rw [g1] at this
        cases this
        exact .inr ⟨T, _, _, _, _, e1, e2, e3, rfl, .int _, g2⟩
end
end Pk
/-! The law's own end: no repr runs around the law's call. -/
namespace Pk
open PySem PySem.Spec PyProof.Rows L2

theorem cx_never {P : Program} {w : World} {H : Hp} {s : Shared} {e : Value} {s' : Shared} : ¬ L2.CX P w [] H s (fun _ _ _ => False) e s' := fun h => by
  obtain ⟨_, _, _, _, _, _, _, _, _, _, _, _, z⟩ := h
  exact z.elim
theorem callG {P : Program} {w : World} {K : PySem.W.Frag} {mg mb : Str → Option Value} {k : Nat} {fa a : Addr} {fd : FuncData} {x : Str} {sp : Sp} {s₁ : Shared} {vs : List Value} {ns : List Int}
    (KX : K.In s₁.heap) (hns : s₁.heap.Ns mainGlobals mg) (hb : s₁.heap.Ns builtinsNs mb) (hbb : ∀ x : Str, x ≠ "__name__" → mb x = bootBuiltins x) (hlim : s₁.heap.NoLimit) (hg : s₁.gens = #[])
    (ha : s₁.heap.get? a = some { cls := .type "list", data := .seq vs.toArray }) (hi : IntsAre vs ns) (hl : ns.length ≤ sizeLine) (hr : Room k callerA)
    (F : ∀ base : Heap, K.In base → base.Ns mainGlobals mg → FnG P w K mg base k fa fd [x] sp) (hbind : ∀ (s : Shared) (u : Value), BindsTo s fd ⟨[u], []⟩ [(x, u)])
    (hsp : ∀ H : Hp, SqL K H a (ns.map V.int) → sp [.ref a] H (fun v _ => v = .bl true) fun _ _ _ => False) :
    codeAny (model P w) callerA (.call (.ref fa) ⟨[.ref a], []⟩) (fun r s' => r = .ok (.ret (.bool true)) ∧ OldK s₁.heap s'.heap ∧ s'.os = s₁.os ∧ AllBare s'.gens) s₁ := by
  have rv := vals_ints hi
  have lenV := hi.length
  have go : ∀ H : Hp, (∀ b, H b = none ∨ ∃ o xs, H b = some (.frz o (.lst xs))) → SqL K H a (ns.map V.int) → HOk P w H s₁.heap → (∀ b, H b ≠ none → b = a ∧ K.lookup a = none) →
      codeAny (model P w) callerA (.call (.ref fa) ⟨[.ref a], []⟩) (fun r s' => r = .ok (.ret (.bool true)) ∧ OldK s₁.heap s'.heap ∧ s'.os = s₁.os ∧ AllBare s'.gens) s₁ := by
    intro H hO hS hok hA
    have dct : ∀ {b : Addr} {o : Obj} {es : Array DictEntry} {ep : Nat}, s₁.heap.get? b = some o → o.data = .dict es ep → H b = none := fun {b o es ep} e d => by
      cases q : H b with
      | none => rfl
      | some u =>
        have z := (hA b (by rw [q]; intro y; cases y)).1
        rw [z, ha] at e
        cases e
        have d' : Data.seq vs.toArray _ = Data.dict es ep := d
        cases d'
    have ns' : ∀ {b : Addr} {m : Str → Option Value}, s₁.heap.Ns b m → (hidT s₁.heap H).Ns b m := fun {b m} ⟨o, es, ep, e, d, r⟩ => ⟨o, es, ep, hidT_get e (dct e d), d, r⟩
    have hKb : K.In (hidT s₁.heap H) := fun b o e => hidT_get (KX b o e) (by
      cases q : H b with
      | none => rfl
      | some u =>
        have z := hA b (by rw [q]; intro y; cases y)
        rw [z.1, z.2] at e
        cases e)
    have hM : Mod K mg (hidT s₁.heap H) := ⟨hKb, ns' hns, ⟨mb, ns' hb, hbb⟩, let ⟨mc, h1, h2⟩ := hlim; ⟨mc, ns' h1, h2⟩⟩
    have e0 : Env0 P w K mg (hidT s₁.heap H) callerA [] s₁ H := ⟨rfl, hM, fun b o e => of_hidT e, Nat.le_of_eq (hidT_size _ _), trivial, fun b hb => absurd (show b ∈ ([] : List Addr) from hb) (by simp), hok, .of_eq hg⟩
    refine codeAny_mono ((F _ hKb (ns' hns)).run callerA [] s₁ H ⟨[.ref a], []⟩ [.ref a] [.ref a] _ _ hr rfl e0 (hbind s₁ (.ref a)) (.cons rfl .nil) (hsp H hS)) fun r s' h => ?_
    cases r with
    | error e => exact (cx_never h).elim
    | ok fl =>
      cases fl with
      | next => exact False.elim h
      | brk => exact False.elim h
      | cont => exact False.elim h
      | ret u =>
        obtain ⟨v, H', os, bare, un, hok', r', q⟩ := h
        have q' : v = .bl true := q
        subst q'
        obtain rfl : u = Value.bool true := r'
        refine ⟨rfl, OldK.of_keep fun b o e => ?_, os, bare⟩
        rcases hO b with z | ⟨ob, xs, z⟩
        · exact un.keep b o e z (fun y => absurd (show b ∈ ([] : List Addr) from y) (by simp)) (by simp)
        · obtain ⟨e1, _⟩ := hok b _ z
          obtain ⟨e2, _⟩ := hok' b _ (un.frzs b ob _ z)
          rw [e] at e1
          cases e1
          exact e2
  cases hk : K.lookup a with
  | some o =>
    have e := KX a o hk
    rw [ha] at e
    cases e
    exact go (fun _ => none) (fun _ => .inl rfl) (.inr ⟨_, vs.toArray, _, hk, rfl, rfl, rfl, by rw [List.size_toArray, lenV]; exact hl, by simpa using rv⟩) (fun b u z => by cases z) fun b z => absurd rfl z
  | none =>
    refine go (fun b => if b = a then some (.frz { cls := .type "list", data := .seq vs.toArray } (.lst (ns.map V.int))) else none) (fun b => ?_) (.inl (.inr ⟨_, if_pos rfl⟩)) (fun b u z => ?_) fun b z => ?_
    · by_cases hb : b = a
      · exact .inr ⟨_, _, if_pos hb⟩
      · exact .inl (if_neg hb)
    · by_cases hb : b = a
      · have z' := (if_pos hb).symm.trans z
        cases z'
        subst hb
        exact ⟨ha, by rw [List.length_map]; exact hl, vs, _, rv, ha⟩
      · have z' := (if_neg hb).symm.trans z
        cases z'
    · by_cases hb : b = a
      · exact ⟨hb, hk⟩
      · exact absurd (if_neg hb) z
/-- the goal that k_head leaves: the law's def promises True for every list of at most n ints -/
def spL (K : PySem.W.Frag) (n : Nat) : Sp := fun vs H Q _ => ∃ (a : Addr) (ns : List Int), vs = [.ref a] ∧ SqL K H a (ns.map V.int) ∧ ns.length ≤ n ∧ ∀ H', Q (.bl true) H'
theorem walkG {l : PySem.W.OpenLaw} {n k : Nat} {q : Program} {loose : List Str} {XP : (Str → Option Value) → Heap → Prop} {YP : World → Heap → Prop} {d : DefRec} {K : Params → PySem.W.Frag} {x : Str}
    (hn : l.most = some n) (hn2 : n ≤ sizeLine) (hdf : d.params.defaults = []) (hr : Room k callerA) (hY : ∀ (w : World) (h : Heap), YP w h → (K w.params).In h)
    (F : ∀ (w : World) (mg : Str → Option Value) (fa : Addr) (h : Heap), (K w.params).In h → h.Ns mainGlobals mg → mg d.name = some (.ref fa) →
      ∃ fd : FuncData, (∀ (s : Shared) (u : Value), BindsTo s fd ⟨[u], []⟩ [(x, u)]) ∧
        ∀ base : Heap, (K w.params).In base → base.Ns mainGlobals mg → FnG l.prog w (K w.params) mg base k fa fd [x] (spL (K w.params) n)) :
    PySem.W.WalkO q loose XP YP l.row.toRowW d [] (fun f vs => PySem.call f vs) := by
  refine Att.attach_call hn hdf fun w s₀ s₁ mg mb fa o pm cd doc a vs ns G Y ho hd hcd hmg hobj hints hlen hg => ?_
  have KX := hY w _ Y
  obtain ⟨fd, hb, hF⟩ := F w mg fa _ KX G.T.g hmg
  exact callG KX G.T.g G.T.b G.T.builtins G.T.nolimit hg hobj hints (Nat.le_trans hlen hn2) hr hF hb fun H hS => ⟨a, ns, rfl, hS, hlen, fun _ => rfl⟩
end Pk
/-! isinstance of a caught error of an own class, whose dict is there. -/
namespace Pk
open PySem PySem.Spec PySem.Calls PyProof.Rows PySem.W
section
variable {prog : Program} {w : World} {A : Around} {E : Value → Shared → Prop} {s : Shared} {K : Frag} {x D : Addr} {ox : Obj} {od : Option Obj}
theorem findObj_dataD {C : Addr} {name : Str} {a g : Value} (hc : (clsIn K C).isSome = true) (ha : findIn K (.ref C) name = some (some a)) (hg : specialIn K a "__get__" = some (some g)) (ht : takesIn K a = some true) : findObj K C od name = some (.bind g a) := by
  obtain ⟨cd, hc⟩ := Option.isSome_iff_exists.mp hc
  unfold findObj
  rw [hc, Option.bind_some, ha, Option.bind_some]
  simp [hg, ht]
theorem kin_classD {Q : Option Value → Shared → Prop} (hga : findIn K (.ref D) "__getattribute__" = some (some (.builtin "BaseException.__getattribute__"))) (hgt : findIn K (.ref D) "__getattr__" = some none) (hsub : subIn K (.ref D) (.type "BaseException") = some true)
    (hdct : hasDictIn K D = true) (ha : findIn K (.ref D) "__class__" = some (some (.builtin "object.__class__")))
    (hn : specialIn K (.builtin "object.__class__") "__get__" = some (some (.builtin "getset_descriptor.__get__"))) (htk : takesIn K (.builtin "object.__class__") = some true) (hm : mroIn K D (.type "object") = some true)
    (X : K.In s.heap) (I : InstAt s.heap x ox D od) (h : Q (some (.ref D)) { s with toks := s.toks + 1 }) : wpAny (model prog w) A (getAttr? (.ref x) "__class__") Q E s := by
  have hf : findObj K D od "__class__" = some (.bind (.builtin "getset_descriptor.__get__") (.builtin "object.__class__")) := findObj_dataD (by obtain ⟨cd, hc, _⟩ := any_some hdct; rw [hc]; rfl) ha hn htk
  obtain ⟨hp, g, d, t, os⟩ := s
  have L0 := I.type (M := model prog w)
  have L1 := looks_findIn (M := model prog w) X hga
  have L2 := looks_findIn (M := model prog w) X hgt
  have L3 := looks_find (M := model prog w) X I hf
  have sub : Looks (model prog w) hp (isInstance (.ref x) (.type "BaseException")) true := L0.andThen (looks_subIn X hsub)
  have hx0 : (false && onTheHeap (Value.builtin "BaseException.__getattribute__")) = false := rfl
  have hx2 : (Value.builtin "BaseException.__getattribute__" == Value.builtin "object.__getattribute__") = false := by decide +kernel
  have hx1 : (onTheHeap (Value.ref D) && Value.builtin "BaseException.__getattribute__" == Value.builtin "object.__getattribute__") = false := by rw [hx2]; rfl
  unfold getAttr? getAttrBy? getAttrBy
  refine wpAny_bind (wpAny_mkText (wpAny_bind (wpAny_attempt (wpAny_holding (wpAny_bind (L0.at (wpAny_bind (L1.at ?_))))))))
  show wpAny _ _ (if (onTheHeap (Value.ref D) && Value.builtin "BaseException.__getattribute__" == Value.builtin "object.__getattribute__") = true then _ else _) _ _ _
  rw [hx1, if_neg Bool.false_ne_true]
  unfold getAttrByItsOwn hookBefore
  refine wpAny_bind ?_
  rw [if_pos (show onTheHeap (Value.ref D) = true from rfl)]
  refine L2.at ?_
  refine wpAny_bind (wpAny_attempt (wpAny_holding ?_))
  unfold callGetattribute
  rw [hx0, if_neg Bool.false_ne_true]
  unfold boundAndCalled
  rw [PySem.F.excAttr_ValueError.ga.bind (.ref x)]
  refine wpAny_bind (wpAny_pure ?_)
  show wpAny _ _ (call (.builtin "BaseException.__getattribute__") [.ref x, .str "__class__" t]) _ _ _
  refine wpAny_call (codeAny_call_builtin PySem.F.excAttr_ValueError.ga.plain PySem.F.entry_bexc_ga ?_)
  refine @check_slot (model prog w) _ _ ⟨hp, g, d, t + 1, os⟩ "BaseException.__getattribute__" "BaseException" "__getattribute__" (.ref x) [.str "__class__" t] [] _ (by decide +kernel) (by decide +kernel) sub (PySem.F.args_bexc_ga (.ref x) (.str "__class__" t)) ?_
  unfold Builtin.«object.__getattribute__»
  refine wpAny_bind (wpAny_of_eq (a := ((Value.ref x : Value), [Value.str "__class__" t])) (by first | rfl | (simp only [slotArgs]; rfl)) ?_)
  refine wpAny_bind (wpAny_pure (wpAny_bind (L0.at (wpAny_bind (L3.at ?_)))))
  show wpAny _ _ (holding [Value.builtin "object.__class__"] (call (.builtin "getset_descriptor.__get__") [.builtin "object.__class__", .ref x, .ref D]) >>= ret) _ _ _
  refine wpAny_bind (wpAny_holding (wpAny_call (class_get (s := ⟨hp, g, d, t + 1, os⟩) (ox := ox) (od := od) X I hm ?_)))
  refine wpAny_pure ?_
  show wpAny _ _ (handedOut (.ref D)) _ _ _
  rw [handedOut_of (v := .ref D) rfl]
  first
    | exact wpAny_pure (wpAny_pure h)
    | exact wpAny_pure h
    | exact wpAny_pure (wpAny_bind (wpAny_pure (wpAny_pure h)))
theorem kitx_excD (hga : findIn K (.ref D) "__getattribute__" = some (some (.builtin "BaseException.__getattribute__"))) (hgt : findIn K (.ref D) "__getattr__" = some none) (hsub : subIn K (.ref D) (.type "BaseException") = some true) (hdct : hasDictIn K D = true) (ha : findIn K (.ref D) "__class__" = some (some (.builtin "object.__class__")))
    (hn : specialIn K (.builtin "object.__class__") "__get__" = some (some (.builtin "getset_descriptor.__get__"))) (htk : takesIn K (.builtin "object.__class__") = some true) (hm : mroIn K D (.type "object") = some true) :
    KitX K (.ref x) (.ref D) (fun h => InstAt h x ox D od) where
  ty := fun _ _ _ I => I.type
  it := fun _ _ X _ => by
    obtain ⟨cdD, hcD, _⟩ := any_some hdct
    unfold clsIn at hcD
    split at hcD
    · rename_i c' d' cd' sl' ho
      intro A' Q' E' s' k q
      unfold isType loadHead
      exact wpAny_bind (wpAny_loadPart (k _ _ (X _ _ ho)) (wpAny_pure q))
    · cases hcD
  ne := fun h tp dd its n sl X htp => by
    obtain ⟨cdD, hcD, _⟩ := any_some hdct
    refine Bool.eq_false_iff.mpr fun q => ?_
    have e : D = tp := Value.ref.inj (beq_iff_eq.mp q)
    subst e
    unfold clsIn at hcD
    split at hcD
    · rename_i c' d' cd' sl' ho
      have z := (X _ _ ho).symm.trans htp
      cases z
    · cases hcD
  ca := fun X I k => kin_classD hga hgt hsub hdct ha hn htk hm X I k
end
end Pk
/-! try, except over slots as data; calls that may raise within. -/
namespace Pk
open PySem PySem.Spec PyProof.Rows L2

/-! ### the caught error in its suite -/
/-- isinstance(e, c): e the caught error, cls its class, d its dict -/
def rIsX (K : PySem.W.Frag) (a : Addr) (cls : Value) (d : Option Addr) : List V → Hp → VK → Prop := fun xs H Q =>
  ∃ (c : V) (cv : Value) (b : Bool) (D dd : Addr) (fs : List (Str × V)), xs = [.ref a, c] ∧ (∀ u, RelV c u → u = cv) ∧ cls = .ref D ∧ d = some dd ∧ ExcC K D ∧ PySem.W.kitOne K (.ref D) cv = some b ∧ H dd = some (.xd fs) ∧ Q (.bl b) H
theorem call_isX {X : Cx} {a : Addr} {oe : Obj} {cls : Value} {d : Option Addr} {pn : List (Addr × Obj)} (hz : Zc cls d oe) (hf : ∃ vs, oe.data = .fields vs) : CallR (X.suite a ((a, oe) :: pn)) (.builtin "isinstance") (rIsX X.K a cls d) := by
  intro pins s σ H xs us Q I r h
  obtain ⟨c, cv, b, D, dd, fs, rfl, hcv, rfl, rfl, C, e, hx, q⟩ := h
  cases r with
  | cons rx rr =>
    cases rr with
    | cons rt rr =>
      cases rr
      cases rx
      have ec := hcv _ rt
      subst ec
      obtain ⟨hget, _⟩ := I.pin (a, oe) (List.mem_append.mpr (.inl List.mem_cons_self))
      obtain ⟨vs, hv⟩ := hf
      obtain ⟨mA, hns, hr⟩ := (I.hok dd _ hx : ObjOk X.prog X.w H s.heap dd (.xd fs))
      obtain ⟨od, ho, hl⟩ := lookIn_ns hns
      have J : PySem.W.InstAt s.heap a oe D (some od) := by
        obtain ⟨oc, od', oda, osl⟩ := oe
        obtain ⟨h1, h2⟩ := hz
        dsimp only at h1 h2 hv
        subst h1 h2 hv
        exact ⟨hget, rfl, rfl, ho⟩
      exact PySem.W.kia_one (Pk.kitx_excD C.hg C.hk C.hs C.hd C.ha C.hn C.ht C.hm) I.kIn J e (fun z => nomatch z) fun tk => ⟨.bl b, H, I.kept (t' := tk) fun _ _ z => z, rfl, q⟩
/-- e.f of the caught error, whatever own class it is of -/
def tXg (K : PySem.W.Frag) (a : Addr) (cls : Value) (d : Option Addr) (n : Str) (te : TE) : TE := fun σ H Q => te σ H fun x H1 => x = .ref a ∧ ∃ (C dd : Addr) (fs : List (Str × V)) (v : V), cls = .ref C ∧ d = some dd ∧ XfC K C ∧ PySem.W.findIn K (.ref C) n = some none ∧ H1 dd = some (.xd fs) ∧ fs.lookup n = some v ∧ Q v H1
theorem pe_xg {X : Cx} {a : Addr} {oe : Obj} {cls : Value} {d : Option Addr} {pn : List (Addr × Obj)} {e : Expr} {te : TE} {pos : Pos} {n : Str}
    (hz : Zc cls d oe) (hf : ∃ vs, oe.data = .fields vs) (he : PE (X.suite a ((a, oe) :: pn)) e te) (hb : attributeBase e n X.env (eval e X.env) = eval e X.env := by rfl) :
    PE (X.suite a ((a, oe) :: pn)) (.Attribute e n pos) (tXg X.K a cls d n te) := by
  refine ⟨fun pins s σ H Q I h => ?_⟩
  refine attr_of hb (thn (he.run pins s σ H _ I h) fun u s1 hh => ?_)
  obtain ⟨x, H1, I1, rx, ex, C, dd, fs, v, ec, ed, T, hno, ea, l, q⟩ := hh
  subst ex
  obtain rfl : u = Value.ref a := rx
  subst ec
  subst ed
  obtain ⟨ha, _⟩ := I1.pin (a, oe) (List.mem_append_left _ List.mem_cons_self)
  obtain ⟨vs, hd⟩ := hf
  obtain ⟨mA, hns, hr⟩ := (I1.hok dd _ ea : ObjOk X.prog X.w H1 s1.heap dd (.xd fs))
  obtain ⟨od, ho, hl⟩ := lookIn_ns hns
  obtain ⟨u, hu, ru⟩ := RelO.some_of (v := v) (o := mA n) (by rw [← l]; exact hr n)
  have J : PySem.W.InstAt s1.heap a oe C (some od) := ⟨ha, hz.1, by unfold PySem.W.notCls; rw [hd] <;> rfl, by rw [hz.2]; exact ho⟩
  exact HandSPX.exc_get I1.kIn J T.ga T.gg T.exC (PySem.W.findObj_own T.hdC hno rfl (by rw [hl, hu])) (handed_of ru) ⟨v, H1, I1.tok _, ru, q⟩

/-! ### calls whose errors the context takes, with the slots -/
section
variable {X : Cx} {k : Nat} {f : Addr} {fd : FuncData} {ps ks : List Str} {sp : Sp} {E : L2.St → XK} {x : Str} {p pos : Pos} {e : Expr} {es : List Expr} {t tk : TA} {kws : List Keyword} {g : List Value → List Value → List Value} {gV : List V → List V → List V}
theorem runGS {pins : List (Addr × Obj)} {σ : L2.St} {H : Hp} {s : Shared} {Q : VK} {us : List Value} {vs : List V} (F : FnG X.prog X.w X.K X.mg X.base k f fd ps sp) (hr : Room k X.A) (hG : X.A.guards = some []) (hb : Binds X.K fd ps []) (hx : PassesAt (L2.CX X.prog X.w) X σ (E σ))
    (I : L2.Inv X pins σ H s) (r : Vals vs us) (h : sp vs H Q (E σ)) : wpAny (model X.prog X.w) X.A (call (.ref f) us) (EP X pins σ Q) X.xe s := by
  have hl : us.length = ps.length := by rw [← r.length]; exact F.len _ _ _ _ h
  have b := hb s us I.kIn (by rw [List.append_nil]; exact hl)
  rw [List.append_nil] at b
  refine wpAny_call (codeAny_mono (F.run X.A X.stack s H ⟨us, []⟩ us vs Q (E σ) hr hG I.env0 b r h) fun r s' hq => ?_)
  cases r with
  | error e => exact hx pins H s e s' I hq
  | ok fl =>
    cases fl with
    | ret u => exact I.after hq
    | next => exact False.elim hq
    | brk => exact False.elim hq
    | cont => exact False.elim hq
theorem runGKS {pins : List (Addr × Obj)} {σ : L2.St} {H : Hp} {s : Shared} {Q : VK} {us ws : List Value} {vs zs : List V} (F : FnG X.prog X.w X.K X.mg X.base k f fd ps sp) (hr : Room k X.A) (hG : X.A.guards = some []) (hb : KBinds X.K fd ps ks g gV) (hx : PassesAt (L2.CX X.prog X.w) X σ (E σ))
    (I : L2.Inv X pins σ H s) (r : Vals vs us) (rz : Vals zs ws) (h : sp (gV vs zs) H Q (E σ)) : wpAny (model X.prog X.w) X.A (call (.ref f) us (ks.zip ws)) (EP X pins σ Q) X.xe s := by
  have r2 := hb.rel r rz
  have hl : (g us ws).length = ps.length := by rw [← r2.length]; exact F.len _ _ _ _ h
  refine wpAny_call (codeAny_mono (F.run X.A X.stack s H ⟨us, ks.zip ws⟩ (g us ws) (gV vs zs) Q (E σ) hr hG I.env0 (hb.to s us ws I.kIn hl) r2 h) fun r s' hq => ?_)
  cases r with
  | error e => exact hx pins H s e s' I hq
  | ok fl =>
    cases fl with
    | ret u => exact I.after hq
    | next => exact False.elim hq
    | brk => exact False.elim hq
    | cont => exact False.elim hq
theorem pe_gS (F : FnG X.prog X.w X.K X.mg X.base k f fd ps sp) (hr : Room k X.A) (hG : X.A.guards = some []) (hg : Gl X x) (hm : X.mg x = some (.ref f)) (hk : PySem.W.keepIn X.K (.ref f) = true) (hb : Binds X.K fd ps []) (hx : ∀ σ, PassesAt (L2.CX X.prog X.w) X σ (E σ))
    (ha : PA X (e :: es) t) (hdb : (x == ("__debug__" : Str)) = false := by decide) (he : starEach (e :: es) X.env = (false, eval e X.env) :: starEach es X.env := by rfl) (hpl : (backTo pos (starEach es X.env)).any (·.1) = false := by rfl) :
    PE X (.Call (.Name x p) (e :: es) [] pos) (tCallS sp E t) := by
  refine ⟨fun pins s σ H Q I h => ?_⟩
  refine wpAny_Call_Name_kw (ld_glob I hg hm ?_ hdb)
  exact PySem.W.callWith_K (h₀ := X.base) I.ok.mod.kin hk (thn (ha.run pos pins s σ H _ I h) fun us s1 ⟨vs, H1, I1, r, q⟩ => ⟨I1.kIn, runGS F hr hG hb (hx σ) I1 r q⟩) he hpl
def tCallKS0 (sp : Sp) (gV : List V → List V → List V) (E : L2.St → XK) (tk : TA) : TE := fun σ H Q => tk σ H fun zs H2 => sp (gV [] zs) H2 Q (E σ)
theorem pe_gKS0 (F : FnG X.prog X.w X.K X.mg X.base k f fd ps sp) (hr : Room k X.A) (hG : X.A.guards = some []) (hg : Gl X x) (hm : X.mg x = some (.ref f)) (hk : PySem.W.keepIn X.K (.ref f) = true) (hb : KBinds X.K fd ps ks g gV) (hx : ∀ σ, PassesAt (L2.CX X.prog X.w) X σ (E σ))
    (hkw : PK X kws tk) (hall : (backToKw pos (keywordEach kws X.env)).all (·.1.isSome) = true := by rfl) (hks : (backToKw pos (keywordEach kws X.env)).filterMap (·.1) = ks := by rfl)
    (hdb : (x == ("__debug__" : Str)) = false := by decide) (hpl : ((backTo pos (starEach [] X.env)).any (·.1) || (backToKw pos (keywordEach kws X.env)).any (·.1.isNone)) = false := by rfl) :
    PE X (.Call (.Name x p) [] kws pos) (tCallKS0 sp gV E tk) := by
  refine ⟨fun pins s σ H Q I h => ?_⟩
  refine wpAny_Call_Name_kw (ld_glob I hg hm ?_ hdb)
  refine PySem.W.callWith_KW0 (h₀ := X.base) I.ok.mod.kin hk hall (thn (hkw.run pos pins s σ H _ I h) fun ws s2 ⟨zs, H2, I2, rz, q2⟩ => ⟨I2.kIn, ?_⟩) hpl
  rw [hks]
  exact runGKS (us := []) (vs := []) F hr hG hb (hx σ) I2 .nil rz q2
/-- a constant of the top -/
theorem pe_gc {v : V} (hg : Gl X x) (h : ∃ u, X.mg x = some u ∧ RelV v u) (hd : (x == ("__debug__" : Str)) = false := by decide) : PE X (.Name x pos) (tC v) := by
  obtain ⟨u, h1, h2⟩ := h
  exact pe_glob hg h1 h2 hd
end
theorem FnG.imp {P : Program} {w : World} {K : PySem.W.Frag} {mg : Str → Option Value} {base : Heap} {k : Nat} {f : Addr} {fd : FuncData} {ps : List Str} {sp sp' : Sp} (F : FnG P w K mg base k f fd ps sp) (h : ∀ vs H Q E, sp' vs H Q E → sp vs H Q E) : FnG P w K mg base k f fd ps sp' :=
  ⟨fun vs H Q E q => F.len vs H Q E (h _ _ _ _ q), fun A outer s H args us vs Q E hr hG e0 hb r q => F.run A outer s H args us vs Q E hr hG e0 hb r (h _ _ _ _ q)⟩
/-- the law's def, promised over data, promised to the end -/
theorem FnG.end {P : Program} {w : World} {K : PySem.W.Frag} {mg : Str → Option Value} {base : Heap} {k n : Nat} {f : Addr} {fd : FuncData} {x : Str} {pre : List Int → Prop} {fn : List Int → PyData} (F : FnG P w K mg base k f fd [x] (spP K (fun ns : List Int => [.list (ns.map .int)]) pre fn))
    (hp : ∀ ns : List Int, ns.length ≤ n → pre ns) (hf : ∀ ns : List Int, ns.length ≤ n → fn ns = .bool true) : FnG P w K mg base k f fd [x] (spL K n) := F.imp fun vs H Q E ⟨a, ns, e, hs, hl, q⟩ => by
  subst e
  refine ⟨H, ns, Same.refl H, .cons (.lst hs (dpAll_map _ _ (fun _ => .int _) _)) .nil, hp ns hl, fun v G' H' g D => ?_⟩
  rw [hf ns hl] at D
  rw [dp_bool D]
  exact q H'

/-! ### readings that may raise -/
section
variable (F : Fr)
def EvW (Wx : WX) (te : TE) (s : Sts) (r : Except (Addr × List (Str × PyData)) PyData) (s' se : Sts) : Prop := ∀ σ G H, Ok F s σ G H → ∀ Q : VK, (∀ d, r = .ok d → ∀ v G' H', Ok F s' σ G' H' → Same G G' → Dp F.K G' v d → Q v H') →
  (∀ C fs, r = .error (C, fs) → ∀ dd G' H', Ok F se σ G' H' → Same G G' → XdOk F.K G' dd fs → F.H0 dd = none → Wx (.ref C) (some dd) σ H') → te σ H Q
end
section
variable {F : Fr} {Wx : WX} {te ta tb : TE} {tt : TT} {s s' s1 s2 se : Sts} {d : PyData} {ds : List PyData} {r : Except (Addr × List (Str × PyData)) PyData} {b : Bool} {u : TS} {P : Po} {α : Type} {A : α → List PyData} {pre : α → Prop} {g : α → Except (Addr × List (Str × PyData)) PyData} {i : Nat} {a : Addr}
theorem ew_ok (h : Ev F te s d s') : EvW F Wx te s (.ok d) s' se := fun σ G H k Q q _ => h σ G H k Q fun v G' H' k' e' D => q d rfl v G' H' k' e' D
theorem spX_at {vs : List V} {G0 G H : Hp} {σ : L2.St} {Q : VK} {E : XK} (x : α) (k : Ok F s σ G H) (e0 : Same G0 G) (hp : pre x) (h : DpAll F.K G vs (A x)) (q : ∀ d, g x = .ok d → ∀ v G' H', Ok F s σ G' H' → Same G0 G' → Dp F.K G' v d → Q v H')
    (qe : ∀ C fs, g x = .error (C, fs) → ∀ dd G' H', Ok F s σ G' H' → Same G0 G' → XdOk F.K G' dd fs → F.H0 dd = none → E (.ref C) (some dd) H') : spX F.K A pre g vs H Q E :=
  ⟨G, x, k.gh, h, hp, fun d e v G' H' gr D => q d e v G' H' (k.grow gr) (e0.trans gr.g) D, fun C fs e dd ws G' H' gr h0 h1 h2 => qe C fs e dd G' H' (k.grow gr) (e0.trans gr.g) ⟨ws, h1, h2⟩ (k.fresh h0).2.1⟩
theorem ew_callS {ta : TA} (x : α) (h : EvA F ta s ds s1) (hd : ds = A x) (hp : pre x) : EvW F Wx (tCallS (spX F.K A pre g) (WE Wx) ta) s (g x) s1 s1 := fun σ G H k Q q qe => h σ G H k _ fun vs G1 H1 k1 e1 D1 => by
  subst hd
  exact spX_at x k1 e1 hp D1 q qe
theorem ew_callKS {tk : TA} {gV : List V → List V → List V} (x : α) (h : EvA F tk s [d] s1) (hd : [d] = A x) (hp : pre x) (hg : ∀ z, gV [] [z] = [z] := by exact fun _ => rfl) : EvW F Wx (tCallKS0 (spX F.K A pre g) gV (WE Wx) tk) s (g x) s1 s1 := fun σ G H k Q q qe => h σ G H k _ fun vs G1 H1 k1 e1 D1 => by
  cases D1 with
  | cons D1 D2 =>
    cases D2
    rw [hg]
    refine spX_at x k1 e1 hp ?_ q qe
    rw [← hd]
    exact .cons D1 .nil
theorem ew_if (h : EvT F tt s b s1) (h1 : b = true → EvW F Wx ta s1 r s2 se) (h2 : b = false → EvW F Wx tb s1 r s2 se) : EvW F Wx (tIf tt ta tb) s r s2 se := fun σ G H k Q q qe => h σ G H k _ fun G1 H1 k1 e1 => by
  cases b with
  | true =>
    show ta σ H1 Q
    exact h1 rfl σ G1 H1 k1 Q (fun d e v G' H' k' e' => q d e v G' H' k' (e1.trans e')) fun C fs e dd G' H' k' e' => qe C fs e dd G' H' k' (e1.trans e')
  | false =>
    show tb σ H1 Q
    exact h2 rfl σ G1 H1 k1 Q (fun d e v G' H' k' e' => q d e v G' H' k' (e1.trans e')) fun C fs e dd G' H' k' e' => qe C fs e dd G' H' k' (e1.trans e')
theorem ew_lst1 (h : EvW F Wx te s r s1 se) : EvW F Wx (tLst (tCons te tNil)) s (r.map fun d => .list [d]) s1 se := fun σ G H k Q q qe => h σ G H k _ (fun d e v G1 H1 k1 e1 D => ⟨by rw [sizeLine_eq]; simp, fun p hp => by
    obtain ⟨k2, g⟩ := k1.new hp (.lst [v])
    exact q (.list [d]) (by rw [e]; rfl) _ _ _ k2 (e1.trans g) (.lst (.of upd_same) (.cons (dp_mono g _ _ D) .nil))⟩) fun C fs e => qe C fs (by rw [e]; rfl)
theorem w_retW (h : EvW F Wx te s r s1 se) (h1 : ∀ d, r = .ok d → P.rt (.d d) s1) (h2 : ∀ C fs, r = .error (C, fs) → P.ex C fs se) (hw : P.wx = Wx := by rfl) : W F (tRet te) s P := fun σ G H D k dn =>
  h σ G H k _ (fun d e v G' H' k' e' D' => dn.R (.d d) v s1 σ G' H' (h1 d e) k' e' D') fun C fs e dd G' H' k' e' x h0 => by
    have := dn.X C fs se σ G' H' dd (h2 C fs e) k' e' x h0
    rw [hw] at this
    exact this
theorem w_retWS (h : EvW F Wx te s r s1 se) (h1 : ∀ d, r = .ok d → P.rt (.d d) s1) (h2 : ∀ C fs, r = .error (C, fs) → P.ex C fs se) (hw : P.wx = Wx := by rfl) : W F (tSeq (tRet te) u) s P := fun σ G H D k dn =>
  h σ G H k _ (fun d e v G' H' k' e' D' => dn.R (.d d) v s1 σ G' H' (h1 d e) k' e' D') fun C fs e dd G' H' k' e' x h0 => by
    have := dn.X C fs se σ G' H' dd (h2 C fs e) k' e' x h0
    rw [hw] at this
    exact this
theorem w_asgW (h : EvW F Wx te s r s1 se) (hi : i < F.n) (h1 : ∀ d, r = .ok d → W F u (s1.set i (.im d)) P) (h2 : ∀ C fs, r = .error (C, fs) → P.ex C fs se) (hw : P.wx = Wx := by rfl) : W F (tSeq (tAsg te (gName i)) u) s P := fun σ G H D k dn =>
  h σ G H k _ (fun d e v G' H' k' e' D' => (h1 d e).after _ G' H' D (k'.set hi D') e' dn) fun C fs e dd G' H' k' e' x h0 => by
    have := dn.X C fs se σ G' H' dd (h2 C fs e) k' e' x h0
    rw [hw] at this
    exact this

/-! ### try: .. except c as n: .. -/
theorem Ok.base {σ : L2.St} {G H : Hp} (k : Ok F s σ G H) : Ok { F with G0 := G } s σ G H := by
  refine ⟨Same.refl G, k.gh, k.hh, fun b z => .inl z, k.bb, k.ln, fun j y hy => ?_, k.ds⟩
  have z := k.sl j y hy
  cases y with
  | un => trivial
  | im d => exact z
  | vv v => exact z
  | ls r ys => exact ⟨z.1, z.2.at_, z.2.no, z.2.mine⟩
  | an r ys =>
    have z' : Own F G H r ys := z
    exact ⟨z'.at_, z'.no, z'.mine⟩
theorem Ok.unbase {σ σ1 : L2.St} {G H G1 H1 : Hp} (k1 : Ok F s1 σ1 G1 H1) (k : Ok { F with G0 := G1 } s σ G H) : Ok F s σ G H ∧ Same G1 G := by
  refine ⟨⟨k1.gg.trans k.gg, k.gh, k.hh, fun b z => (k.fr b z).elim (fun q => k1.fr b q) .inr, k.bb, k.ln, fun j y hy => ?_, k.ds⟩, k.gg⟩
  have z := k.sl j y hy
  cases y with
  | un => trivial
  | im d => exact z
  | vv v => exact z
  | ls r ys => exact ⟨z.1, z.2.at_, z.2.no, z.2.mine⟩
  | an r ys =>
    have z' : Own { F with G0 := G1 } G H r ys := z
    exact ⟨z'.at_, z'.no, z'.mine⟩
/-- try .. except c as n ..: as the walk tells it -/
def tTry (K : PySem.W.Frag) (c : Value) (i : Nat) (ts : Addr → Value → Option Addr → TS) (Wout : WX) (tb : WX → TS) : TS := fun D σ H => tb (wAs K c i ts Wout D) D σ H
theorem ps_tryA {X : Cx} {x n : Str} {c : Value} {i : Nat} {body suite : List Stmt} {b₀ : Stmt} {np pos pos' : Pos} {tb : WX → TS} {ts : Addr → Value → Option Addr → TS} {Wout : WX} (hs : X.stack = X.env :: X.outer) (hf : X.env.frame = some X.env.locals) (hN : X.N.Nodup) (hi : X.N[i]? = some n) (hln : X.env.kindOf n = some .local) (hc : Names X x c) (tk : Takes X Wout)
    (hb : ∀ (W : WX) (pn : List (Addr × Obj)) (xe : Value → Shared → Prop), Takes (X.tr pn xe) W → PassesOwn (model X.prog X.w) X.A X.env xe → PSs (X.tr pn xe) body (tb W))
    (hsu : ∀ (a : Addr) (oe : Obj) (cls : Value) (d : Option Addr) (pn : List (Addr × Obj)), Zc cls d oe → (∃ vs, oe.data = .fields vs) → PSs (X.suite a ((a, oe) :: pn)) (b₀ :: suite) (ts a cls d)) :
    PS X (.Try body [.ExceptHandler (some (.Name x np)) (some n) (b₀ :: suite) pos'] [] [] pos) (tTry X.K c i ts Wout tb) := ps_try_as hs hf hN hi hln hc tk hb hsu
/-- what is asked of a class whose errors are caught -/
structure CatchTxt (K : PySem.W.Frag) (B C : Addr) (fld : Str) : Prop where
  ex : PySem.W.exmOne K (.ref C) (.ref B) = some true
  is : ExcC K C
  xf : XfC K C
  fi : PySem.W.findIn K (.ref C) fld = some none
theorem w_try {tb : WX → TS} {ts : Addr → Value → Option Addr → TS} {c : Value} {Wout : WX} (X : Addr → List (Str × PyData) → Sts → Prop) (hi : i < F.n) (hb : ∀ Wx : WX, W F (tb Wx) s { P with ex := X, wx := Wx })
    (hs : ∀ C fs s', X C fs s' → ∃ b, PySem.W.exmOne F.K (.ref C) c = some b ∧ (b = false → P.ex C fs s' ∧ P.wx = Wout) ∧
      (b = true → ∀ a dd G1, XdOk F.K G1 dd fs → W { F with G0 := G1 } (ts a (.ref C) (some dd)) (s'.set i (.vv (.ref a))) { nx := fun s => P.nx (s.set i .un), rt := P.rt, bk := fun s => P.bk (s.set i .un), ct := fun s => P.ct (s.set i .un) })) :
    W F (tTry F.K c i ts Wout tb) s P := fun σ G H D k dn => hb _ σ G H D k ⟨dn.N, dn.R, dn.B, dn.C, fun C fs s' σ' G' H' dd x k' e' hx h0 => by
  obtain ⟨b, h1, hf, ht⟩ := hs C fs s' x
  refine ⟨b, h1, fun e a ha => ?_, fun e => ?_⟩
  · refine ht e a dd G' hx (σ'.set i (some (.ref a))) G' H' _ (k'.base.setV hi) ⟨fun s2 σ2 G2 H2 n k2 e2 => ?_, fun d v s2 σ2 G2 H2 r k2 e2 D2 => ?_, fun s2 σ2 G2 H2 n k2 e2 => ?_, fun s2 σ2 G2 H2 n k2 e2 => ?_, fun _ _ _ _ _ _ _ z => z.elim⟩
    · obtain ⟨k3, e3⟩ := k'.unbase k2
      exact dn.N _ _ G2 H2 n (k3.unset i) (e'.trans e3)
    · obtain ⟨k3, e3⟩ := k'.unbase k2
      refine dn.R d v s2 σ2 G2 H2 r k3 (e'.trans e3) ?_
      cases d with
      | d x => exact D2
      | l xs =>
        obtain ⟨p, vs, e, n⟩ := D2
        exact ⟨p, vs, e, n.at_, n.no, n.mine, n.nb, n.ap, n.all⟩
    · obtain ⟨k3, e3⟩ := k'.unbase k2
      exact dn.B _ _ G2 H2 n (k3.unset i) (e'.trans e3)
    · obtain ⟨k3, e3⟩ := k'.unbase k2
      exact dn.C _ _ G2 H2 n (k3.unset i) (e'.trans e3)
  · have := dn.X C fs s' σ' G' H' dd (hf e).1 k' e' hx h0
    rw [(hf e).2] at this
    exact this⟩
/-- in the suite -/
theorem paired_lookup {K : PySem.W.Frag} {G : Hp} {n : Str} : ∀ {ws : List (Str × V)} {fs : List (Str × PyData)}, Paired (fun (w : Str × V) (q : Str × PyData) => w.1 = q.1 ∧ Dp K G w.2 q.2) ws fs → fs.lookup n = some d → ∃ v, ws.lookup n = some v ∧ Dp K G v d
  | _, _, .nil, h => by simp at h
  | (n1, v1) :: ws, (n2, d2) :: fs, .cons ⟨e, D⟩ r, h => by
    have e' : n1 = n2 := e
    subst e'
    rw [List.lookup_cons] at h ⊢
    cases q : n == n1 with
    | true =>
      rw [q] at h
      cases h
      exact ⟨v1, rfl, D⟩
    | false =>
      rw [q] at h
      exact paired_lookup r h
theorem ev_isX {C dd : Addr} {fs : List (Str × PyData)} {cv : Addr} (hx : XdOk F.K F.G0 dd fs) (hi : s[i]? = some (.vv (.ref a))) (hc : ExcC F.K C) (hk : PySem.W.kitOne F.K (.ref C) (.ref cv) = some b) :
    Ev F (tCB (rIsX F.K a (.ref C) (some dd)) (tCons (tVar i) (tCons (tC (.ref cv)) tNil))) s (.bool b) s := fun σ G H k Q q => by
  obtain ⟨ws, h1, _⟩ := hx
  exact ⟨.ref a, k.sl i _ hi, .ref cv, .ref cv, b, C, dd, ws, rfl, fun u r => r, rfl, rfl, hc, hk, k.gh _ _ (k.gg _ _ h1), q _ G H k (Same.refl G) (.bl b)⟩
theorem ev_xg {C dd : Addr} {fs : List (Str × PyData)} {n : Str} (hx : XdOk F.K F.G0 dd fs) (hi : s[i]? = some (.vv (.ref a))) (hc : XfC F.K C) (hn : PySem.W.findIn F.K (.ref C) n = some none) (hl : fs.lookup n = some d) :
    Ev F (tXg F.K a (.ref C) (some dd) n (tVar i)) s d s := fun σ G H k Q q => by
  obtain ⟨ws, h1, h2⟩ := hx
  obtain ⟨v, h3, h4⟩ := paired_lookup h2 hl
  exact ⟨.ref a, k.sl i _ hi, rfl, C, dd, ws, v, rfl, rfl, hc, hn, k.gh _ _ (k.gg _ _ h1), h3, q v G H k (Same.refl G) (dp_mono k.gg _ _ h4)⟩
end
end Pk
/-! Rules by data that a walk can take one after the other. -/
namespace Pk
open PySem PySem.Spec PyProof.Rows L2
section
variable {F : Fr} {s s' s1 s2 : Sts} {ta tb te : TE} {tt : TT} {tas : TA} {d d1 d2 : PyData} {xs ds ys : List PyData} {i : Nat} {p : Addr} {b : Bool} {P : Po} {t u r : TS}
/-! in -/
theorem rv_inSeq {x : Str} {ws : List Str} (h : d = .tuple (ws.map .str) ∨ d = .list (ws.map .str)) : RV F (rInA F.K) (.str x) d (.bool (decide (x ∈ ws))) := fun G H a v Q e h1 h2 q => by
  have key : ∀ (p : Addr) (vs : List V), (SqL F.K H p vs ∨ SqT F.K H p vs) → DpAll F.K G vs (ws.map .str) → rInA F.K (.str x) (.ref p) H Q := fun p vs hs hv => by
    have ev := dpAll_strs hv
    subst ev
    refine .inr (.inr ⟨p, _, rfl, hs, rfl, flat_strs ws, ?_⟩)
    rw [inV_strs]
    exact q _ G H (Grow.refl e) (.bl _)
  rw [dp_str h1]
  rcases h with rfl | rfl
  · obtain ⟨p, vs, rfl, g1, g2⟩ := dp_tup h2
    exact key p vs (.inr (sqT_mono e g1)) g2
  · obtain ⟨p, vs, rfl, g1, g2⟩ := dp_lst h2
    exact key p vs (.inl (sqL_mono e g1)) g2
theorem rv_inTup {x : Str} {ws : List Str} : RV F (rInA F.K) (.str x) (.tuple (ws.map .str)) (.bool (decide (x ∈ ws))) := rv_inSeq (.inl rfl)
theorem rv_inLst {x : Str} {ws : List Str} : RV F (rInA F.K) (.str x) (.list (ws.map .str)) (.bool (decide (x ∈ ws))) := rv_inSeq (.inr rfl)
/-- the first sign of a text in a text -/
theorem rv_inC {x z : Str} {c : Nat} (h : x = ⟨#[c]⟩) : RV F (rInA F.K) (.str x) (.str z) (.bool (decide (c ∈ z.cps.toList))) := h ▸ rv_inS1
theorem rv_notInC {x z : Str} {c : Nat} (h : x = ⟨#[c]⟩) : RV F (rNotInA F.K) (.str x) (.str z) (.bool (!decide (c ∈ z.cps.toList))) := h ▸ rv_notInS1
/-! subscripts -/
def signAt (x : Str) (z : Int) : Nat := x.cps.toList.getD z.toNat 0
theorem ixN_nn {n : Nat} {z : Int} (h0 : 0 ≤ z) (h1 : z < n) : ixN n z = some z.toNat := by
  unfold ixN
  rw [if_pos h0, if_pos h1]
theorem atI_nn {α : Type} {l : List α} {z : Int} {a : α} (h0 : 0 ≤ z) (h1 : z < l.length) (h : l[z.toNat]? = some a) : atI l z = some a := by
  unfold atI
  rw [ixN_nn h0 h1]
  exact h
theorem getD_some {α : Type} {l : List α} {n : Nat} {a : α} (h : n < l.length) : l[n]? = some (l.getD n a) := by
  rw [List.getD_eq_getElem?_getD, List.getElem?_eq_getElem h]
  rfl
theorem str_len (x : Str) : x.cps.toList.length = x.length := by
  rw [Array.length_toList]
  rfl
theorem rv_ixS {x : Str} {z : Int} (h0 : 0 ≤ z) (h1 : z < x.length) (hz : x.length ≤ sizeLine) : RV F (rIx F.K) (.str x) (.int z) (.str ⟨#[signAt x z]⟩) := fun G H a b Q e g1 g2 q => by
  rw [dp_str g1, dp_int g2]
  have h1' : z < x.cps.toList.length := by rw [str_len]; exact h1
  exact .inr (.inr ⟨x, z, signAt x z, rfl, rfl, hz, atI_nn h0 h1' (getD_some (by omega)), q _ G H (Grow.refl e) (.str _)⟩)
theorem rv_ixSeq {z : Int} (h : d = .tuple xs ∨ d = .list xs) (h0 : 0 ≤ z) (h1 : z < xs.length) : RV F (rIx F.K) d (.int z) (xs.getD z.toNat .none) := fun G H a b Q e g1 g2 q => by
  rw [dp_int g2]
  have hx : xs[z.toNat]? = some (xs.getD z.toNat .none) := getD_some (by omega)
  rcases h with rfl | rfl
  · obtain ⟨p, vs, rfl, k1, k2⟩ := dp_tup g1
    obtain ⟨v, hv, D⟩ := dpAll_get k2 hx
    exact .inr (.inl ⟨p, vs, z, v, rfl, rfl, sqT_mono e k1, atI_nn h0 (by rw [dpAll_len k2]; exact h1) hv, q v G H (Grow.refl e) D⟩)
  · obtain ⟨p, vs, rfl, k1, k2⟩ := dp_lst g1
    obtain ⟨v, hv, D⟩ := dpAll_get k2 hx
    exact .inl ⟨p, vs, z, v, rfl, rfl, sqL_mono e k1, atI_nn h0 (by rw [dpAll_len k2]; exact h1) hv, q v G H (Grow.refl e) D⟩
theorem RV.to {op : R2} (h : RV F op d1 d2 d) {d' : PyData} (e : d = d') : RV F op d1 d2 d' := e ▸ h
theorem getD_map {α β : Type} (f : α → β) (l : List α) (n : Nat) (a : α) (b : β) (h : n < l.length) : (l.map f).getD n b = f (l.getD n a) := by
  rw [List.getD_eq_getElem?_getD, List.getD_eq_getElem?_getD, List.getElem?_map, List.getElem?_eq_getElem h]
  rfl
theorem rv_ixStrs {z : Int} {ws : List Str} (h : d = .tuple (ws.map .str) ∨ d = .list (ws.map .str)) (h0 : 0 ≤ z) (h1 : z < ws.length) : RV F (rIx F.K) d (.int z) (.str (ws.getD z.toNat ⟨#[]⟩)) :=
  (rv_ixSeq h h0 (by rw [List.length_map]; exact h1)).to (getD_map _ _ _ _ _ (by omega))
theorem rv_ixInts {z : Int} {ws : List Int} (h : d = .tuple (ws.map .int) ∨ d = .list (ws.map .int)) (h0 : 0 ≤ z) (h1 : z < ws.length) : RV F (rIx F.K) d (.int z) (.int (ws.getD z.toNat 0)) :=
  (rv_ixSeq h h0 (by rw [List.length_map]; exact h1)).to (getD_map _ _ _ _ _ (by omega))
/-! len -/
theorem rc_lenS {x : Str} (hz : x.length ≤ sizeLine) : RC F (rLenA F.K) [.str x] (.int x.length) := fun G H vs Q e D q => by
  cases D with
  | cons D1 D2 =>
    cases D2
    rw [dp_str D1]
    exact ⟨.str x, x.length, rfl, ⟨hz, rfl⟩, q _ G H (Grow.refl e) (.int _)⟩
theorem rc_lenQ (h : d = .tuple xs ∨ d = .list xs) : RC F (rLenA F.K) [d] (.int xs.length) := fun G H vs Q e D q => by
  cases D with
  | cons D1 D2 =>
    cases D2
    rcases h with rfl | rfl
    · obtain ⟨a, ws, rfl, h1, h2⟩ := dp_tup D1
      exact ⟨.ref a, xs.length, rfl, .inr ⟨ws, sqT_mono e h1, (dpAll_len h2).symm⟩, q _ G H (Grow.refl e) (.int _)⟩
    · obtain ⟨a, ws, rfl, h1, h2⟩ := dp_lst D1
      exact ⟨.ref a, xs.length, rfl, .inl ⟨ws, sqL_mono e h1, (dpAll_len h2).symm⟩, q _ G H (Grow.refl e) (.int _)⟩
/-! a if t else b -/
theorem ite_int {m n : Int} : (if b then PyData.int m else .int n) = .int (if b then m else n) := by cases b <;> rfl
theorem ite_str {m n : Str} : (if b then PyData.str m else .str n) = .str (if b then m else n) := by cases b <;> rfl
theorem ite_bool {m n : Bool} : (if b then PyData.bool m else .bool n) = .bool (if b then m else n) := by cases b <;> rfl
theorem ev_ifX (h : EvT F tt s b s1) (h1 : b = true → Ev F ta s1 d1 s2) (h2 : b = false → Ev F tb s1 d2 s2) (hd : (if b then d1 else d2) = d) : Ev F (tIf tt ta tb) s d s2 := hd ▸ ev_ifE h h1 h2
/-- pure text, made one sign longer.. -/
theorem repS_len (x : Str) (n : Int) : (repS x n).length = n.toNat * x.length := by
  show (repS x n).cps.size = _
  rw [← Array.length_toList, repS_list]
  simp
  rfl
theorem app_len (x y : Str) : (x ++ y).length = x.length + y.length := strLen_append x y
end
end Pk
/-! Comprehensions that change no slot; texts as lists of signs. -/
namespace Pk
open PySem PySem.Spec PyProof.Rows L2
section
variable {F : Fr} {s s' s1 s2 : Sts} {ta tb te : TE} {tt : TT} {tas : TA} {d : PyData} {v : Nat} {p : Addr} {wi : TI} {α : Type} {xs : List α} {g h : α → PyData}
theorem set_app_lt {α : Type} (l : List α) (y x : α) (v : Nat) (hv : v < l.length) : (l ++ [y]).set v x = l.set v x ++ [y] := List.set_append_left _ _ hv
theorem el_map (hi : EvI F wi s (xs.map g) s1) (hz : xs.length < 100000) (hv : v < F.n) (hn : F.n ≤ s1.length) (he : ∀ a ∈ xs, ∀ (p : Addr) (acc : List PyData), Ev F te (s1.set v (.im (g a)) ++ [.an p acc]) (h a) (s1.set v (.im (g a)) ++ [.an p acc])) :
    EvL F (tLc wi (gName v) tYes te [v]) s (xs.map h) (s1.set v .un) := by
  refine el_lc (vs := [v]) hi (by rw [List.length_map]; exact hz) (fun w hw => by rw [List.mem_singleton.mp hw]; exact hv) (fun i s acc => s = s1.set v .un ∧ acc = (xs.take i).map h) ⟨rfl, rfl⟩ (fun i s acc q => by rw [q.1, List.length_set]; exact hn)
    (fun i s acc q w hw x hx => ?_) (fun i d s acc p hd q => ?_) (fun s acc q => ⟨q.1, by rw [q.2, List.length_map, List.take_length]⟩) (fun i s acc q => by rw [q.2, List.length_map, List.length_take]; omega)
  · rw [List.mem_singleton.mp hw, q.1] at hx
    rcases getElem?_set_cases hx with ⟨_, e, _⟩ | ⟨e, _⟩
    · exact e
    · exact absurd rfl e
  · obtain ⟨rfl, rfl⟩ := q
    rw [List.getElem?_map] at hd
    cases ha : xs[i]? with
    | none =>
      rw [ha] at hd
      cases hd
    | some a =>
      rw [ha] at hd
      cases hd
      have hv1 : v < s1.length := Nat.lt_of_lt_of_le hv hn
      have e1 : (s1.set v SV.un ++ [SV.an p ((xs.take i).map h)]).set v (.im (g a)) = s1.set v (.im (g a)) ++ [.an p ((xs.take i).map h)] := by
        rw [set_app_lt _ _ _ _ (by rw [List.length_set]; exact hv1), List.set_set]
      refine ⟨_, tg_name hv (by simp), true, s1.set v (.im (g a)) ++ [.an p ((xs.take i).map h)], ?_, fun _ => ⟨h a, s1.set v (.im (g a)), he a (List.mem_of_getElem? ha) p _, ?_, by rw [List.length_set]; exact hn⟩, fun z => by cases z⟩
      · rw [e1]
        exact fun σ G H k Q q => q G H k (Same.refl G)
      · refine ⟨?_, ?_⟩
        · show (s1.set v (.im (g a))).set v .un = _
          rw [List.set_set]
        · rw [List.take_succ, ha]
          simp
theorem ei_strM {z : Str} (h : Ev F te s (.str z) s1) : EvI F (iStr te) s (z.cps.toList.map fun c => .str ⟨#[c]⟩) s1 := ei_str h
theorem w_assoc {a b c : TS} {P : Po} (h : W F (tSeq a (tSeq b c)) s P) : W F (tSeq (tSeq a b) c) s P := h
theorem ev_allMap {q : α → Bool} (hi : EvI F wi s (xs.map g) s1) (hz : xs.length < 100000) (hv : v < F.n) (hn : F.n ≤ s1.length) (he : ∀ a ∈ xs, ∀ (p : Addr) (acc : List PyData), Ev F te (s1.set v (.im (g a)) ++ [.an p acc]) (.bool (q a)) (s1.set v (.im (g a)) ++ [.an p acc])) :
    Ev F (tCB (rAll F.K) (tCons (tLc wi (gName v) tYes te [v]) tNil)) s (.bool (xs.all q)) (s1.set v .un) := by
  have z := el_map (h := fun a => .bool (q a)) hi hz hv hn he
  have e : xs.map (fun a => PyData.bool (q a)) = (xs.map q).map .bool := by rw [List.map_map]; rfl
  rw [e] at z
  have w := ev_all (eq_new z)
  rwa [List.all_map] at w
theorem ev_anyMap {q : α → Bool} (hi : EvI F wi s (xs.map g) s1) (hz : xs.length < 100000) (hv : v < F.n) (hn : F.n ≤ s1.length) (he : ∀ a ∈ xs, ∀ (p : Addr) (acc : List PyData), Ev F te (s1.set v (.im (g a)) ++ [.an p acc]) (.bool (q a)) (s1.set v (.im (g a)) ++ [.an p acc])) :
    Ev F (tCB (rAny F.K) (tCons (tLc wi (gName v) tYes te [v]) tNil)) s (.bool (xs.any q)) (s1.set v .un) := by
  have z := el_map (h := fun a => .bool (q a)) hi hz hv hn he
  have e : xs.map (fun a => PyData.bool (q a)) = (xs.map q).map .bool := by rw [List.map_map]; rfl
  rw [e] at z
  have w := ev_any (eq_new z)
  rwa [List.any_map] at w
end
theorem rangeD_get {lo : Int} {n i : Nat} {d : PyData} (h : (rangeD lo n)[i]? = some d) : i < n ∧ d = .int (lo + (i : Int)) := by
  have hi : i < n := by
    have := (List.getElem?_eq_some_iff.mp h).1
    rwa [rangeD_len] at this
  refine ⟨hi, ?_⟩
  unfold rangeD at h
  rw [List.getElem?_map, List.getElem?_range hi] at h
  exact (Option.some.inj h).symm
theorem enumD_len (xs : List PyData) : (enumD xs).length = xs.length := by
  unfold enumD
  rw [List.length_mapIdx]
theorem enumD_get {xs : List PyData} {i : Nat} {d : PyData} (h : (enumD xs)[i]? = some d) : ∃ e, xs[i]? = some e ∧ d = .tuple [.int (i : Nat), e] := by
  unfold enumD at h
  rw [List.getElem?_mapIdx] at h
  cases q : xs[i]? with
  | none =>
    rw [q] at h
    cases h
  | some e =>
    rw [q] at h
    exact ⟨e, rfl, (Option.some.inj h).symm⟩
theorem relS {x : Str} {t : Tok} : RelV (.str x) (.str x t) := ⟨t, rfl⟩
theorem relI {i : Int} {t : Tok} : RelV (.int i) (.int i t) := ⟨t, rfl⟩
/-! texts -/
def mkS (l : List Nat) : Str := ⟨l.toArray⟩
theorem mkS_list (l : List Nat) : (mkS l).cps.toList = l := by simp [mkS]
theorem mkS_of (x : Str) : mkS x.cps.toList = x := by cases x; simp [mkS]
theorem mkS_len (l : List Nat) : (mkS l).length = l.length := by
  rw [← str_len, mkS_list]
theorem mkS_app (l m : List Nat) : mkS l ++ mkS m = mkS (l ++ m) := by
  show Str.mk ((mkS l).cps ++ (mkS m).cps) = _
  simp [mkS]
theorem app_list (x y : Str) : (x ++ y).cps.toList = x.cps.toList ++ y.cps.toList := by
  show (x.cps ++ y.cps).toList = _
  simp
theorem str_ext {x y : Str} (h : x.cps.toList = y.cps.toList) : x = y := by rw [← mkS_of x, ← mkS_of y, h]
theorem sign_mk (c : Nat) : (⟨#[c]⟩ : Str) = mkS [c] := rfl
theorem strOk_iff (x : Str) : PyData.strOk x = true ↔ ∀ c ∈ x.cps.toList, c < 1114112 := by
  unfold PyData.strOk
  rw [Array.all_eq_true_iff_forall_mem]
  constructor
  · intro h c hc
    have := h c (Array.mem_toList_iff.mp hc)
    simpa using this
  · intro h c hc
    have := h c (Array.mem_toList_iff.mpr hc)
    simpa using this
theorem cut_mk {x : Str} {a k : Int} (h0 : 0 ≤ a) (h1 : 0 ≤ k) (ha : a ≤ x.length) : cutS x (some a) (some (a + k)) = mkS ((x.cps.toList.drop a.toNat).take k.toNat) := by
  apply str_ext
  rw [mkS_list]
  unfold cutS
  have e1 : HT.sIx x.length 0 (some a) = a.toNat := by
    show (if a < 0 then _ else min a.toNat x.length) = _
    rw [if_neg (by omega)]
    omega
  have e2 : HT.sIx x.length x.length (some (a + k)) = min (a + k).toNat x.length := by
    show (if a + k < 0 then _ else min (a + k).toNat x.length) = _
    rw [if_neg (by omega)]
  rw [e1, e2]
  show List.take _ _ = _
  rw [List.take_eq_take_iff, List.length_drop, str_len]
  omega
end Pk
namespace K61
open PySem PySem.Spec PyProof.Rows L2 Pk
def gk_word_kind_word {α : Type} : List α → List α → List α
  | [], [w0] => [w0]
  | _, _ => []
def gk_words_line {α : Type} : List α → List α → List α
  | [], [w0] => [w0]
  | _, _ => []
def topS (i : Nat) : Stmt := PySem.Challenge.pw_arrowcounts_k61_whole_words_of_lines.main.body.getD i (.Pass ⟨0, 0, 0, 0⟩)
abbrev s_run_length : Stmt := topS 20
abbrev s_words_of : Stmt := topS 21
abbrev s_is_of : Stmt := topS 22
abbrev s_is_numeral : Stmt := topS 23
abbrev s_is_letter : Stmt := topS 24
abbrev s_is_end : Stmt := topS 25
abbrev s_kind_of_word : Stmt := topS 26
abbrev s_words : Stmt := topS 27
abbrev s_word_kind : Stmt := topS 28
abbrev s__law_tray : Stmt := topS 30
abbrev s__law_pebble : Stmt := topS 31
abbrev s__law_any : Stmt := topS 32
abbrev s__law_language : Stmt := topS 33
abbrev s__law_kind : Stmt := topS 34
abbrev s__law_cut : Stmt := topS 35
abbrev s__law_same : Stmt := topS 36
abbrev s__law_heard : Stmt := topS 37
abbrev s__law_told_kind : Stmt := topS 38
abbrev s__law_dealt_word : Stmt := topS 39
abbrev s__law_is_right : Stmt := topS 40
abbrev s_law : Stmt := topS 41
abbrev s_InvalidText__init : Stmt := inClass (topS 2) 0
abbrev s_InvalidLine__init : Stmt := inClass (topS 3) 0
theorem sc_run_length : FnScope ["line", "at", "signs", "many"] ["line", "at", "signs"] (defScope s_run_length) := ⟨rfl, rfl, rfl, by decide +kernel, rfl, by decide +kernel, by decide +kernel⟩
theorem sc_words_of : FnScope ["line", "found", "at", "size"] ["line"] (defScope s_words_of) := ⟨rfl, rfl, rfl, by decide +kernel, rfl, by decide +kernel, by decide +kernel⟩
theorem sc_is_of : FnScope ["word", "signs", "sign"] ["word", "signs"] (defScope s_is_of) := ⟨rfl, rfl, rfl, by decide +kernel, rfl, by decide +kernel, by decide +kernel⟩
theorem sc_is_numeral : FnScope ["word"] ["word"] (defScope s_is_numeral) := ⟨rfl, rfl, rfl, by decide +kernel, rfl, by decide +kernel, by decide +kernel⟩
theorem sc_is_letter : FnScope ["value"] ["value"] (defScope s_is_letter) := ⟨rfl, rfl, rfl, by decide +kernel, rfl, by decide +kernel, by decide +kernel⟩
theorem sc_is_end : FnScope ["value"] ["value"] (defScope s_is_end) := ⟨rfl, rfl, rfl, by decide +kernel, rfl, by decide +kernel, by decide +kernel⟩
theorem sc_kind_of_word : FnScope ["word"] ["word"] (defScope s_kind_of_word) := ⟨rfl, rfl, rfl, by decide +kernel, rfl, by decide +kernel, by decide +kernel⟩
theorem sc_words : FnScope ["line"] ["line"] (defScope s_words) := ⟨rfl, rfl, rfl, by decide +kernel, rfl, by decide +kernel, by decide +kernel⟩
theorem sc_word_kind : FnScope ["word"] ["word"] (defScope s_word_kind) := ⟨rfl, rfl, rfl, by decide +kernel, rfl, by decide +kernel, by decide +kernel⟩
theorem sc__law_tray : FnScope ["script", "lap", "some", "heap", "sift", "own", "place", "each"] ["script", "lap"] (defScope s__law_tray) := ⟨rfl, rfl, rfl, by decide +kernel, rfl, by decide +kernel, by decide +kernel⟩
theorem sc__law_pebble : FnScope ["tray", "many", "found"] ["tray", "many"] (defScope s__law_pebble) := ⟨rfl, rfl, rfl, by decide +kernel, rfl, by decide +kernel, by decide +kernel⟩
theorem sc__law_any : FnScope ["tray", "some"] ["tray", "some"] (defScope s__law_any) := ⟨rfl, rfl, rfl, by decide +kernel, rfl, by decide +kernel, by decide +kernel⟩
theorem sc__law_language : FnScope [] [] (defScope s__law_language) := ⟨rfl, rfl, rfl, by decide +kernel, rfl, by decide +kernel, by decide +kernel⟩
theorem sc__law_kind : FnScope ["word", "fine", "sign"] ["word"] (defScope s__law_kind) := ⟨rfl, rfl, rfl, by decide +kernel, rfl, by decide +kernel, by decide +kernel⟩
theorem sc__law_cut : FnScope ["line", "sign", "found", "last", "sort"] ["line"] (defScope s__law_cut) := ⟨rfl, rfl, rfl, by decide +kernel, rfl, by decide +kernel, by decide +kernel⟩
theorem sc__law_same : FnScope ["one", "two"] ["one", "two"] (defScope s__law_same) := ⟨rfl, rfl, rfl, by decide +kernel, rfl, by decide +kernel, by decide +kernel⟩
theorem sc__law_heard : FnScope ["way", "value", "is_named", "e", "is_own"] ["way", "value", "is_named"] (defScope s__law_heard) := ⟨rfl, rfl, rfl, by decide +kernel, rfl, by decide +kernel, by decide +kernel⟩
theorem sc__law_told_kind : FnScope ["word"] ["word"] (defScope s__law_told_kind) := ⟨rfl, rfl, rfl, by decide +kernel, rfl, by decide +kernel, by decide +kernel⟩
theorem sc__law_dealt_word : FnScope ["tray", "face", "k"] ["tray"] (defScope s__law_dealt_word) := ⟨rfl, rfl, rfl, by decide +kernel, rfl, by decide +kernel, by decide +kernel⟩
theorem sc__law_is_right : FnScope ["tray", "lap", "line", "due", "heard", "word", "odd", "parts"] ["tray"] (defScope s__law_is_right) := ⟨rfl, rfl, rfl, by decide +kernel, rfl, by decide +kernel, by decide +kernel⟩
theorem sc_law : FnScope ["script", "told", "due", "some", "kinds", "word", "lap"] ["script"] (defScope s_law) := ⟨rfl, rfl, rfl, by decide +kernel, rfl, by decide +kernel, by decide +kernel⟩
/-- where things stand -/
structure Ad where
  A_run_length : Addr
  D_run_length : FuncData
  A_words_of : Addr
  D_words_of : FuncData
  A_is_of : Addr
  D_is_of : FuncData
  A_is_numeral : Addr
  D_is_numeral : FuncData
  A_is_letter : Addr
  D_is_letter : FuncData
  A_is_end : Addr
  D_is_end : FuncData
  A_kind_of_word : Addr
  D_kind_of_word : FuncData
  A_words : Addr
  D_words : FuncData
  A_word_kind : Addr
  D_word_kind : FuncData
  A__law_tray : Addr
  D__law_tray : FuncData
  A__law_pebble : Addr
  D__law_pebble : FuncData
  A__law_any : Addr
  D__law_any : FuncData
  A__law_language : Addr
  D__law_language : FuncData
  A__law_kind : Addr
  D__law_kind : FuncData
  A__law_cut : Addr
  D__law_cut : FuncData
  A__law_same : Addr
  D__law_same : FuncData
  A__law_heard : Addr
  D__law_heard : FuncData
  A__law_told_kind : Addr
  D__law_told_kind : FuncData
  A__law_dealt_word : Addr
  D__law_dealt_word : FuncData
  A__law_is_right : Addr
  D__law_is_right : FuncData
  A_law : Addr
  D_law : FuncData
  C_ArrowError : Addr
  C_InvalidText : Addr
  I_InvalidText : Addr
  C_InvalidLine : Addr
  I_InvalidLine : Addr
  K_SIGNS : Addr
  K_OWN_WORDS : Addr
/-- what the top has written -/
structure Tx (P : Program) (K : PySem.W.Frag) (mg : Str → Option Value) (V : Ad) : Prop where
  n_abs : mg "abs" = none
  n_all : mg "all" = none
  n_any : mg "any" = none
  n_enumerate : mg "enumerate" = none
  n_int : mg "int" = none
  n_isinstance : mg "isinstance" = none
  n_len : mg "len" = none
  n_list : mg "list" = none
  n_max : mg "max" = none
  n_min : mg "min" = none
  n_range : mg "range" = none
  n_repr : mg "repr" = none
  n_str : mg "str" = none
  n_tuple : mg "tuple" = none
  g_run_length : mg "run_length" = some (.ref V.A_run_length)
  F_run_length : Fun K "run_length" "run_length" s_run_length V.A_run_length V.D_run_length
  b_run_length : Binds K V.D_run_length ["line", "at", "signs"] []
  g_words_of : mg "words_of" = some (.ref V.A_words_of)
  F_words_of : Fun K "words_of" "words_of" s_words_of V.A_words_of V.D_words_of
  b_words_of : Binds K V.D_words_of ["line"] []
  g_is_of : mg "is_of" = some (.ref V.A_is_of)
  F_is_of : Fun K "is_of" "is_of" s_is_of V.A_is_of V.D_is_of
  b_is_of : Binds K V.D_is_of ["word", "signs"] []
  g_is_numeral : mg "is_numeral" = some (.ref V.A_is_numeral)
  F_is_numeral : Fun K "is_numeral" "is_numeral" s_is_numeral V.A_is_numeral V.D_is_numeral
  b_is_numeral : Binds K V.D_is_numeral ["word"] []
  g_is_letter : mg "is_letter" = some (.ref V.A_is_letter)
  F_is_letter : Fun K "is_letter" "is_letter" s_is_letter V.A_is_letter V.D_is_letter
  b_is_letter : Binds K V.D_is_letter ["value"] []
  g_is_end : mg "is_end" = some (.ref V.A_is_end)
  F_is_end : Fun K "is_end" "is_end" s_is_end V.A_is_end V.D_is_end
  b_is_end : Binds K V.D_is_end ["value"] []
  g_kind_of_word : mg "kind_of_word" = some (.ref V.A_kind_of_word)
  F_kind_of_word : Fun K "kind_of_word" "kind_of_word" s_kind_of_word V.A_kind_of_word V.D_kind_of_word
  b_kind_of_word : Binds K V.D_kind_of_word ["word"] []
  g_words : mg "words" = some (.ref V.A_words)
  F_words : Fun K "words" "words" s_words V.A_words V.D_words
  b_words : Binds K V.D_words ["line"] []
  g_word_kind : mg "word_kind" = some (.ref V.A_word_kind)
  F_word_kind : Fun K "word_kind" "word_kind" s_word_kind V.A_word_kind V.D_word_kind
  b_word_kind : Binds K V.D_word_kind ["word"] []
  g__law_tray : mg "_law_tray" = some (.ref V.A__law_tray)
  F__law_tray : Fun K "_law_tray" "_law_tray" s__law_tray V.A__law_tray V.D__law_tray
  b__law_tray : Binds K V.D__law_tray ["script", "lap"] []
  g__law_pebble : mg "_law_pebble" = some (.ref V.A__law_pebble)
  F__law_pebble : Fun K "_law_pebble" "_law_pebble" s__law_pebble V.A__law_pebble V.D__law_pebble
  b__law_pebble : Binds K V.D__law_pebble ["tray", "many"] []
  g__law_any : mg "_law_any" = some (.ref V.A__law_any)
  F__law_any : Fun K "_law_any" "_law_any" s__law_any V.A__law_any V.D__law_any
  b__law_any : Binds K V.D__law_any ["tray", "some"] []
  g__law_language : mg "_law_language" = some (.ref V.A__law_language)
  F__law_language : Fun K "_law_language" "_law_language" s__law_language V.A__law_language V.D__law_language
  b__law_language : Binds K V.D__law_language [] []
  g__law_kind : mg "_law_kind" = some (.ref V.A__law_kind)
  F__law_kind : Fun K "_law_kind" "_law_kind" s__law_kind V.A__law_kind V.D__law_kind
  b__law_kind : Binds K V.D__law_kind ["word"] []
  g__law_cut : mg "_law_cut" = some (.ref V.A__law_cut)
  F__law_cut : Fun K "_law_cut" "_law_cut" s__law_cut V.A__law_cut V.D__law_cut
  b__law_cut : Binds K V.D__law_cut ["line"] []
  g__law_same : mg "_law_same" = some (.ref V.A__law_same)
  F__law_same : Fun K "_law_same" "_law_same" s__law_same V.A__law_same V.D__law_same
  b__law_same : Binds K V.D__law_same ["one", "two"] []
  g__law_heard : mg "_law_heard" = some (.ref V.A__law_heard)
  F__law_heard : Fun K "_law_heard" "_law_heard" s__law_heard V.A__law_heard V.D__law_heard
  b__law_heard : Binds K V.D__law_heard ["way", "value", "is_named"] []
  g__law_told_kind : mg "_law_told_kind" = some (.ref V.A__law_told_kind)
  F__law_told_kind : Fun K "_law_told_kind" "_law_told_kind" s__law_told_kind V.A__law_told_kind V.D__law_told_kind
  b__law_told_kind : Binds K V.D__law_told_kind ["word"] []
  g__law_dealt_word : mg "_law_dealt_word" = some (.ref V.A__law_dealt_word)
  F__law_dealt_word : Fun K "_law_dealt_word" "_law_dealt_word" s__law_dealt_word V.A__law_dealt_word V.D__law_dealt_word
  b__law_dealt_word : Binds K V.D__law_dealt_word ["tray"] []
  g__law_is_right : mg "_law_is_right" = some (.ref V.A__law_is_right)
  F__law_is_right : Fun K "_law_is_right" "_law_is_right" s__law_is_right V.A__law_is_right V.D__law_is_right
  b__law_is_right : Binds K V.D__law_is_right ["tray"] []
  g_law : mg "law" = some (.ref V.A_law)
  F_law : Fun K "law" "law" s_law V.A_law V.D_law
  b_law : Binds K V.D_law ["script"] []
  kb_word_kind_word : KBinds K V.D_word_kind ["word"] ["word"] (gk_word_kind_word) (gk_word_kind_word)
  kb_words_line : KBinds K V.D_words ["line"] ["line"] (gk_words_line) (gk_words_line)
  g_ArrowError : mg "ArrowError" = some (.ref V.C_ArrowError)
  g_InvalidText : mg "InvalidText" = some (.ref V.C_InvalidText)
  x_InvalidText : SupTxt P K V.C_InvalidText V.I_InvalidText "given"
  g_InvalidLine : mg "InvalidLine" = some (.ref V.C_InvalidLine)
  x_InvalidLine : SupTxt P K V.C_InvalidLine V.I_InvalidLine "given"
  h_InvalidText : CatchTxt K V.C_ArrowError V.C_InvalidText "given"
  kt_InvalidText_InvalidText : PySem.W.kitOne K (.ref V.C_InvalidText) (.ref V.C_InvalidText) = some true
  kt_InvalidText_InvalidLine : PySem.W.kitOne K (.ref V.C_InvalidText) (.ref V.C_InvalidLine) = some false
  h_InvalidLine : CatchTxt K V.C_ArrowError V.C_InvalidLine "given"
  kt_InvalidLine_InvalidText : PySem.W.kitOne K (.ref V.C_InvalidLine) (.ref V.C_InvalidText) = some false
  kt_InvalidLine_InvalidLine : PySem.W.kitOne K (.ref V.C_InvalidLine) (.ref V.C_InvalidLine) = some true
  c_END : ∃ u, mg "END" = some u ∧ RelV (.str "\n") u
  c_BLANK : ∃ u, mg "BLANK" = some u ∧ RelV (.str " ") u
  c_FIGURES : ∃ u, mg "FIGURES" = some u ∧ RelV (.str "0123456789") u
  c_SMALL : ∃ u, mg "SMALL" = some u ∧ RelV (.str "abcdefghijklmnopqrstuvwxyz") u
  c_ARROW_LETTERS : ∃ u, mg "ARROW_LETTERS" = some u ∧ RelV (.str "abcdefgh") u
  c_ROLE_LETTERS : ∃ u, mg "ROLE_LETTERS" = some u ∧ RelV (.str "uo") u
  c_SIGNS : ∃ u, mg "SIGNS" = some u ∧ RelV (.ref V.K_SIGNS) u
  d_SIGNS : ∀ G, Dp K G (.ref V.K_SIGNS) (.tuple [(.str "("), (.str ")"), (.str ":"), (.str "|"), (.str "+"), (.str "-"), (.str "*"), (.str "="), (.str ",")])
  c_OWN_WORDS : ∃ u, mg "OWN_WORDS" = some u ∧ RelV (.ref V.K_OWN_WORDS) u
  d_OWN_WORDS : ∀ G, Dp K G (.ref V.K_OWN_WORDS) (.tuple [(.str "ground"), (.str "line"), (.str "ring"), (.str "drawing"), (.str "pattern"), (.str "let"), (.str "is"), (.str "kept"), (.str "by"), (.str "one"), (.str "two"), (.str "three"), (.str "same"), (.str "nought"), (.str "adds"), (.str "count"), (.str "in"), (.str "flat"), (.str "back"), (.str "mirror"), (.str "over")])
  c_LETTER : ∃ u, mg "LETTER" = some u ∧ RelV (.str "letter") u
  c_ROLED : ∃ u, mg "ROLED" = some u ∧ RelV (.str "end") u
  c_NAME : ∃ u, mg "NAME" = some u ∧ RelV (.str "name") u
  c_NUMERAL : ∃ u, mg "NUMERAL" = some u ∧ RelV (.str "numeral") u
  c_NO_KIND : ∃ u, mg "NO_KIND" = some u ∧ RelV (.str "none") u
  c_LONGEST_NAME : ∃ u, mg "LONGEST_NAME" = some u ∧ RelV (.int 8) u
  c_LONGEST_NUMERAL : ∃ u, mg "LONGEST_NUMERAL" = some u ∧ RelV (.int 3) u
end K61
namespace K61
open PySem PySem.Spec PyProof.Rows L2 Pk
local macro_rules | `(tactic| walk_at "lt") => `(tactic| first | decide | (dsimp only; decide) | (dsimp only [List.length]; decide) | (dsimp only [List.set, List.length]; decide))
local macro_rules | `(tactic| walk_at "ev1") => `(tactic| first
  | with_reducible exact ev_cI | with_reducible exact ev_cS | with_reducible exact ev_cB | with_reducible exact ev_cN | with_reducible exact ea_nil
  | ((with_reducible apply ev_var); exact rfl)
  | ((with_reducible apply ev_cG); assumption)
  | with_reducible apply ea_cons
  | with_reducible apply ev_op
  | with_reducible exact rv_addI | with_reducible exact rv_subI | with_reducible exact rv_ltI | with_reducible exact rv_leI | with_reducible exact rv_gtI | with_reducible exact rv_geI | with_reducible exact rv_eqDI | with_reducible exact rv_neDI
  | with_reducible exact rv_eqDS | with_reducible exact rv_neDS | with_reducible exact rv_inS1 | with_reducible exact rv_notInS1 | with_reducible exact rv_inTup | with_reducible exact rv_inLst
  | with_reducible apply rv_addT | with_reducible apply rv_ixS
  | with_reducible apply et_and | with_reducible apply et_or | with_reducible apply et_not | with_reducible apply et_test | with_reducible apply et_B
  | with_reducible apply ev_andV | with_reducible apply ev_orV | with_reducible apply ev_notV
  | ((with_reducible apply ev_lenQ); (with_reducible apply eq_var); exact rfl)
  | with_reducible apply ev_anyMap | with_reducible apply ev_allMap | with_reducible apply ei_strM
  | with_reducible apply ev_isi
  | (show kitB _ _ = some _; exact rfl)
  | with_reducible apply ev_cb
  | with_reducible apply rc_lenS | with_reducible exact rc_int | with_reducible exact rc_intB | with_reducible exact rc_abs | with_reducible exact rc_max2 | with_reducible exact rc_max3 | with_reducible exact rc_min2
  | with_reducible apply ev_slS | with_reducible exact eo_none | with_reducible apply eo_some
  | with_reducible apply ev_ifX | exact Pk.ite_int | exact Pk.ite_str | exact Pk.ite_bool
  | walk_at "call" | with_reducible apply ev_tup | with_reducible apply ev_lst
  | ((with_reducible show _ < Fr.n _); walk_at "lt") | ((with_reducible show Fr.n _ ≤ List.length _); walk_at "lt")
  | ((with_reducible intro _); first | exact rfl | skip) | fail)
local macro_rules | `(tactic| walk_at "call") => `(tactic| fail)
local macro_rules | `(tactic| walk_at "sd") => `(tactic| first | assumption | omega | (rw [sizeLine_eq]; omega) | (rw [str_len]; omega) | (dsimp only [List.length]; decide) | (simp only [decide_eq_true_eq, decide_eq_false_iff_not] at *; first | omega | (rw [sizeLine_eq]; omega)))
local macro_rules | `(tactic| walk_at "ev") => `(tactic| focus (repeat' (walk_at "ev1")))
local macro_rules | `(tactic| walk_at "w1") => `(tactic| first
  | with_reducible apply w_asg | with_reducible apply w_par | with_reducible apply w_ret | with_reducible apply w_asg1 | with_reducible apply w_retS | with_reducible apply w_skip | with_reducible apply w_ifS | with_reducible apply w_assoc
  | ((with_reducible show _ < Fr.n _); walk_at "lt") | ((with_reducible show Fr.n _ ≤ List.length _); walk_at "lt") | fail)
local macro_rules | `(tactic| walk_at "wk") => `(tactic| focus (repeat' (first | walk_at "w1" | walk_at "ev1")))
local macro_rules | `(tactic| walk_at "st") => `(tactic| dsimp only [cxOf, L2.Cx.nox, s0, List.map, List.length, List.replicate, List.cons_append, List.nil_append, Nat.reduceAdd, Nat.reduceSub, Nat.reduceMul, Nat.succ_eq_add_one, List.replicate_succ, List.replicate_zero, List.append_eq, List.append])
section
variable {P : Program} {w : World} {K : PySem.W.Frag} {mg : Str → Option Value} {base : Heap} {V : Ad}
theorem tw_iff {α : Type} (p : α → Bool) (z : α) : ∀ (l : List α) (k : Nat), k ≤ (l.takeWhile p).length → (k < (l.takeWhile p).length ↔ k < l.length ∧ p (l.getD k z) = true)
  | [], k, h => by simp
  | c :: l, k, h => by
    rw [List.takeWhile_cons] at h ⊢
    by_cases hc : p c = true
    · rw [if_pos hc] at h ⊢
      cases k with
      | zero => simp [hc]
      | succ k =>
        have := tw_iff p z l k (by simpa using h)
        simpa using this
    · rw [if_neg hc] at h ⊢
      have e : k = 0 := by simpa using h
      subst e
      simp [hc]
def runI (x : Str) (a : Int) (z : Str) : Int := ((x.cps.toList.drop a.toNat).takeWhile (fun c => decide (c ∈ z.cps.toList))).length
abbrev aRun : Str × Int × Str → List PyData := fun a => [.str a.1, .int a.2.1, .str a.2.2]
def pRun : Str × Int × Str → Prop := fun a => 0 ≤ a.2.1 ∧ a.2.1 ≤ a.1.length ∧ a.1.length ≤ 10000
abbrev sRun (K : PySem.W.Frag) : Sp := spP K aRun pRun fun a => .int (runI a.1 a.2.1 a.2.2)
theorem run_iff {x z : Str} {a : Int} {k : Nat} (h1 : 0 ≤ a) (h2 : a ≤ x.length) (h : (k : Int) ≤ runI x a z) : (k : Int) < runI x a z ↔ a + k < x.length ∧ signAt x (a + k) ∈ z.cps.toList := by
  unfold runI at h ⊢
  have := tw_iff (fun c => decide (c ∈ z.cps.toList)) 0 (x.cps.toList.drop a.toNat) k (by omega)
  have e : (x.cps.toList.drop a.toNat).getD k 0 = signAt x (a + k) := by
    unfold signAt
    rw [List.getD_eq_getElem?_getD, List.getD_eq_getElem?_getD, List.getElem?_drop]
    congr 2
    congr 1
    omega
  rw [e, List.length_drop, str_len] at this
  constructor
  · intro q
    have := this.mp (by omega)
    exact ⟨by omega, by simpa using this.2⟩
  · intro q
    have := this.mpr ⟨by omega, by simpa using q.2⟩
    omega
theorem ok_run_length (T : Tx P K mg V) : FnG P w K mg base 1 V.A_run_length V.D_run_length ["line", "at", "signs"] (sRun K) := by
  refine okP T.F_run_length sc_run_length (fun a => rfl) (fun cdv Ar outer s H E hr hG => ⟨_, PSs.nox ((pss_cons (ps_set (i := 3) sc_run_length.nd rfl (.inl rfl) pe_int)
      (pss_cons (ps_while PassesOwn.never (PW.pt (pw_and (pt_cmpR op_lt (pe_op op_addA (pv 1) (pv 3)) (pe_callB call_lenA (by rfl) T.n_len (by decide +kernel) (pa_cons (pv 0) pa_nil)) (nomark _)) (pw_and1 (pt_cmpR op_inA (pe_ix ix_seq (pv 0) (pe_op op_addA (pv 1) (pv 3)) (fun _ _ => rfl)) (pv 2) (by rfl))))) (pss_one (ps_set (i := 3) sc_run_length.nd rfl (.inl rfl) (pe_op op_addA (pv 3) pe_int))))
      (pss_one (ps_ret (pv 3)))))), ?_⟩)
  rintro ⟨x, a, z⟩ G0 ⟨h1, h2, h3⟩
  walk_at "st"
  dsimp only at h1 h2 h3
  refine w_asg ev_cI (by walk_at "lt") ?_
  refine w_seq (fun s' => s' = [SV.im (PyData.str x), SV.im (PyData.int a), SV.im (PyData.str z), .im (.int (runI x a z))])
    (w_while (fun m s' => ∃ k : Nat, (k : Int) ≤ runI x a z ∧ m = (runI x a z).toNat - k ∧ s' = [SV.im (PyData.str x), SV.im (PyData.int a), SV.im (PyData.str z), .im (.int k)]) _ ⟨0, by unfold runI; omega, rfl, rfl⟩ ?_) ?_
  · rintro m _ ⟨k, hk, rfl, rfl⟩
    have hi := run_iff h1 h2 hk
    refine ⟨decide ((k : Int) < runI x a z), [SV.im (PyData.str x), SV.im (PyData.int a), SV.im (PyData.str z), .im (.int k)], ?_, fun hb => ?_, fun hb => ?_⟩
    apply EvT.to
    walk_at "ev"
    all_goals try walk_at "sd"
    · rw [Bool.eq_iff_iff]
      simp only [Bool.and_eq_true, decide_eq_true_eq]
      exact hi.symm
    · have hb := of_decide_eq_true hb
      refine w_asg1 (ev_op (ev_var rfl) ev_cI rv_addI) (by walk_at "lt") ⟨_, ?_, k + 1, ?_, rfl, ?_⟩
      · omega
      · omega
      · rfl
    · have hb := of_decide_eq_false hb
      have e : (k : Int) = runI x a z := by omega
      rw [e]
  · rintro _ rfl
    exact w_ret (ev_var rfl) rfl
section
variable {F : Fr} {s s1 : Sts} {ta : TA} {E : XK}
theorem c_run {x z : Str} {a : Int} (h : EvA F ta s [.str x, .int a, .str z] s1) (h1 : 0 ≤ a) (h2 : a ≤ x.length) (h3 : x.length ≤ 10000) : Ev F (tCall (sRun F.K) [] E ta) s (.int (runI x a z)) s1 := ev_call (x, a, z) h rfl ⟨h1, h2, h3⟩
end
local macro_rules | `(tactic| walk_at "call") => `(tactic| with_reducible apply c_run)

def SM : List Nat := ("abcdefghijklmnopqrstuvwxyz" : Str).cps.toList
def FG : List Nat := ("0123456789" : Str).cps.toList
def runL (l z : List Nat) : Nat := (l.takeWhile (fun c => decide (c ∈ z))).length
def stepN (l : List Nat) : Nat := max 1 (max (runL l SM) (runL l FG))
def wordsF : Nat → List Nat → List (List Nat)
  | 0, _ => []
  | _ + 1, [] => []
  | n + 1, c :: l => (if c = 32 then [] else [(c :: l).take (stepN (c :: l))]) ++ wordsF n ((c :: l).drop (stepN (c :: l)))
theorem stepN_pos (l : List Nat) : 1 ≤ stepN l := Nat.le_max_left _ _
theorem runL_le (l z : List Nat) : runL l z ≤ l.length := by
  unfold runL
  exact (List.takeWhile_sublist _).length_le
theorem stepN_le (c : Nat) (l : List Nat) : stepN (c :: l) ≤ (c :: l).length := by
  unfold stepN
  have h1 := runL_le (c :: l) SM
  have h2 := runL_le (c :: l) FG
  have h3 : 1 ≤ (c :: l).length := by simp
  omega
/-- more fuel changes nothing -/
theorem wordsF_fuel : ∀ (n m : Nat) (l : List Nat), l.length ≤ n → l.length ≤ m → wordsF n l = wordsF m l
  | 0, 0, l, _, _ => rfl
  | 0, m + 1, l, h, _ => by
    have e : l = [] := List.eq_nil_of_length_eq_zero (by omega)
    subst e
    rfl
  | n + 1, 0, l, _, h => by
    have e : l = [] := List.eq_nil_of_length_eq_zero (by omega)
    subst e
    rfl
  | n + 1, m + 1, [], _, _ => rfl
  | n + 1, m + 1, c :: l, h1, h2 => by
    have p := stepN_pos (c :: l)
    show _ ++ wordsF n _ = _ ++ wordsF m _
    rw [wordsF_fuel n m _ (by rw [List.length_drop]; omega) (by rw [List.length_drop]; omega)]
def wordsL (l : List Nat) : List (List Nat) := wordsF l.length l
theorem wordsL_cons (c : Nat) (l : List Nat) : wordsL (c :: l) = (if c = 32 then [] else [(c :: l).take (stepN (c :: l))]) ++ wordsL ((c :: l).drop (stepN (c :: l))) := by
  have p := stepN_pos (c :: l)
  show _ ++ wordsF l.length _ = _
  rw [wordsF_fuel l.length ((c :: l).drop (stepN (c :: l))).length _ (by rw [List.length_drop, List.length_cons]; omega) (Nat.le_refl _)]
  rfl
def wordsS (x : Str) : List Str := (wordsL x.cps.toList).map mkS
def goodS (x : Str) : Prop := PyData.strOk x = true ∧ x.length ≤ 10000
abbrev sWordsOf (K : PySem.W.Frag) : Sp := spP K (fun x : Str => [.str x]) goodS fun x => .tuple ((wordsS x).map .str)
theorem run_step {x : Str} {a : Nat} : max (max 1 (runI x a "abcdefghijklmnopqrstuvwxyz")) (runI x a "0123456789") = (stepN (x.cps.toList.drop a) : Nat) := by
  unfold runI stepN runL SM FG
  rw [Int.toNat_natCast]
  omega
theorem strOk_sign {x : Str} {a : Int} (h : PyData.strOk x = true) (h0 : 0 ≤ a) (h1 : a < x.length) : PyData.strOk ⟨#[signAt x a]⟩ = true := by
  rw [strOk_iff] at h ⊢
  intro c hc
  have e : c = signAt x a := by simpa using hc
  subst e
  refine h _ ?_
  unfold signAt
  rw [List.getD_eq_getElem?_getD, List.getElem?_eq_getElem (by rw [str_len]; omega)]
  exact List.getElem_mem _
theorem ok_words_of (T : Tx P K mg V) : FnG P w K mg base 2 V.A_words_of V.D_words_of ["line"] (sWordsOf K) := by
  have G_run_length := ok_run_length (w := w) (base := base) T
  refine okP T.F_words_of sc_words_of (fun a => rfl) (fun cdv Ar outer s H E hr hG => ⟨_, PSs.nox ((pss_cons (ps_par (i := 1) (j := 2) rfl sc_words_of.nd rfl rfl (by decide) rfl rfl (pa_cons (pe_lst pa_nil) (pa_cons pe_int pa_nil)) (by rfl))
      (pss_cons (ps_while PassesOwn.never (pt_cmpR op_lt (pv 2) (pe_callB call_lenA (by rfl) T.n_len (by decide +kernel) (pa_cons (pv 0) pa_nil)) (nomark _)) (pss_cons (ps_set (i := 3) sc_words_of.nd rfl (.inl rfl) (pe_callB (call_max3Nu rfl) (by rfl) T.n_max (by decide +kernel) (pa_cons pe_int (pa_cons (pe_g (E := E0) G_run_length (hr.mono (by decide)) hG (by rfl) T.g_run_length T.F_run_length.kp T.b_run_length .nil passL (pa_cons (pv 0) (pa_cons (pv 2) (pa_cons (pe_gc (by rfl) T.c_SMALL) pa_nil)))) (pa_cons (pe_g (E := E0) G_run_length (hr.mono (by decide)) hG (by rfl) T.g_run_length T.F_run_length.kp T.b_run_length .nil passL (pa_cons (pv 0) (pa_cons (pv 2) (pa_cons (pe_gc (by rfl) T.c_FIGURES) pa_nil)))) pa_nil)))))
      (pss_cons (ps_if (pt_cmpR (op_neA hr.units) (pe_ix ix_seq (pv 0) (pv 2) (fun _ _ => rfl)) (pe_gc (by rfl) T.c_BLANK) (nomark _)) (pss_one (ps_expr (pe_bm PySem.F.plainAttrs_list PySem.F.slot_list_append PySem.F.type_list_append mt_append (pv 1) (pa_cons (pe_slice sl_all (pv 0) (po_some (pv 2)) (po_some (pe_op op_addA (pv 2) (pv 3)))) pa_nil)))) pss_nil)
      (pss_one (ps_set (i := 2) sc_words_of.nd rfl (.inl rfl) (pe_op op_addA (pv 2) (pv 3)))))))
      (pss_one (ps_ret (pe_callTy call_tupleA (by rfl) T.n_tuple (by decide +kernel) (pa_cons (pv 1) pa_nil))))))), ?_⟩)
  rintro x G0 ⟨h1, h2⟩
  walk_at "st"
  refine w_parL (el_lst ea_nil (by decide)) (fun p => ev_cI) (by walk_at "lt") (by walk_at "lt") (by decide) (by walk_at "lt") fun p hp => ?_
  refine w_seq (fun s' => ∃ q r : SV, s' = [SV.im (PyData.str x), SV.ls p ((wordsS x).map .str), q, r])
    (w_while (fun m s' => ∃ (ws : List (List Nat)) (a : Nat) (r : SV), a ≤ x.length ∧ ws.length ≤ a ∧ ws ++ wordsL (x.cps.toList.drop a) = wordsL x.cps.toList ∧ m = x.length - a ∧
      s' = [SV.im (PyData.str x), SV.ls p ((ws.map mkS).map .str), .im (.int a), r]) _ ⟨[], 0, .un, by omega, by simp, by simp, rfl, rfl⟩ ?_) ?_
  · rintro m _ ⟨ws, a, r, ha, hl, hw, rfl, rfl⟩
    refine ⟨decide (a < x.length), [SV.im (PyData.str x), SV.ls p ((ws.map mkS).map .str), .im (.int a), r], ?_, fun hb => ?_, fun hb => ?_⟩
    apply EvT.to
    walk_at "ev"
    all_goals try walk_at "sd"
    · simp
    · have hb := of_decide_eq_true hb
      apply w_asg
      walk_at "ev"
      all_goals try walk_at "sd"
      rw [show ("abcdefghijklmnopqrstuvwxyz" : Str) = Str.ofString "abcdefghijklmnopqrstuvwxyz" from rfl] at *
      have hd : x.cps.toList.drop a = signAt x a :: x.cps.toList.drop (a + 1) := by
        rw [List.drop_eq_getElem_cons (by rw [str_len]; exact hb)]
        congr 1
        unfold signAt
        rw [Int.toNat_natCast, List.getD_eq_getElem?_getD, List.getElem?_eq_getElem (by rw [str_len]; exact hb)]
        rfl
      have hs := run_step (x := x) (a := a)
      have hp1 := stepN_pos (x.cps.toList.drop a)
      have hp2 : stepN (x.cps.toList.drop a) ≤ x.length - a := by
        have := stepN_le (signAt x a) (x.cps.toList.drop (a + 1))
        rw [← hd, List.length_drop, str_len] at this
        exact this
      have hc := wordsL_cons (signAt x a) (x.cps.toList.drop (a + 1))
      rw [← hd, List.drop_drop] at hc
      rw [show (Str.ofString "abcdefghijklmnopqrstuvwxyz") = ("abcdefghijklmnopqrstuvwxyz" : Str) from rfl, show (Str.ofString "0123456789") = ("0123456789" : Str) from rfl, hs]
      generalize stepN (x.cps.toList.drop a) = n at *
      dsimp only [List.set]
      by_cases h32 : signAt x a = 32
      · refine w_ifS (b := false) (EvT.to (et_test (ev_op (ev_op (ev_var rfl) (ev_var rfl) (rv_ixS (by omega) (by omega) (by rw [sizeLine_eq]; omega))) ev_cS rv_neDS)) ?_) (fun z => by cases z) fun _ => w_skip ?_
        · rw [h32]
          decide +kernel
        · refine w_asg1 (ev_op (ev_var rfl) (ev_var rfl) rv_addI) (by walk_at "lt") ⟨_, ?_, ws, a + n, .im (.int n), by omega, by omega, ?_, rfl, ?_⟩
          · omega
          · rw [if_pos h32, List.nil_append] at hc
            rw [← hc]
            exact hw
          · dsimp only [List.set]
            rw [Int.natCast_add]
      · refine w_ifS (b := true) (EvT.to (et_test (ev_op (ev_op (ev_var rfl) (ev_var rfl) (rv_ixS (by omega) (by omega) (by rw [sizeLine_eq]; omega))) ev_cS rv_neDS)) ?_) (fun _ => ?_) fun z => by cases z
        · have e : ¬ (⟨#[signAt x a]⟩ : Str) = " " := fun z => h32 (by
            have z2 : (⟨#[signAt x a]⟩ : Str) = ⟨#[32]⟩ := z
            injection z2 with z3
            injection z3 with z4
            injection z4)
          simp [e]
        · refine w_app rfl (ev_slS (ev_var rfl) (eo_some (ev_var rfl)) (eo_some (ev_op (ev_var rfl) (ev_var rfl) rv_addI)) (by rw [sizeLine_eq]; omega)) rfl (by rw [List.length_map, List.length_map, sizeLine_eq]; omega) ?_
          rw [cut_mk (by omega) (by omega) (by omega), Int.toNat_natCast, Int.toNat_natCast]
          dsimp only [List.set]
          refine w_asg1 (ev_op (ev_var rfl) (ev_var rfl) rv_addI) (by walk_at "lt") ⟨_, ?_, ws ++ [(x.cps.toList.drop a).take n], a + n, .im (.int n), by omega, by simp; omega, ?_, rfl, ?_⟩
          · omega
          · rw [if_neg h32] at hc
            rw [List.append_assoc, ← hc]
            exact hw
          · dsimp only [List.set]
            rw [Int.natCast_add, List.map_append, List.map_append]
            rfl
    · have hb := of_decide_eq_false hb
      have e : a = x.length := by omega
      subst e
      rw [List.drop_eq_nil_of_le (by rw [str_len]; omega)] at hw
      have e2 : wordsL [] = [] := rfl
      rw [e2, List.append_nil] at hw
      subst hw
      exact ⟨_, _, rfl⟩
  · rintro _ ⟨q, r, rfl⟩
    exact w_ret (ev_tupleQ (eq_var rfl)) rfl
section
variable {F : Fr} {s s1 : Sts} {ta : TA} {E : XK}
theorem c_words_of {x : Str} (h : EvA F ta s [.str x] s1) (h1 : goodS x) : Ev F (tCall (sWordsOf F.K) [] E ta) s (.tuple ((wordsS x).map .str)) s1 := ev_call x h rfl h1
end
local macro_rules | `(tactic| walk_at "call") => `(tactic| with_reducible apply c_words_of)
def isOf (x z : Str) : Bool := !decide (x = "") && x.cps.toList.all fun c => decide (c ∈ z.cps.toList)
abbrev sIsOf (K : PySem.W.Frag) : Sp := spP K (fun a : Str × Str => [.str a.1, .str a.2]) (fun a => goodS a.1) fun a => .bool (isOf a.1 a.2)
theorem list_size (x : Str) (h : x.length ≤ 10000) : x.cps.toList.length < 100000 := by rw [str_len]; omega
theorem ok_is_of (T : Tx P K mg V) : FnG P w K mg base 1 V.A_is_of V.D_is_of ["word", "signs"] (sIsOf K) := by
  refine okP T.F_is_of sc_is_of (fun a => rfl) (fun cdv Ar outer s H E hr hG => ⟨_, PSs.nox ((pss_one (ps_ret (pe_and (pe_cmpR (op_neA hr.units) (pv 0) pe_str (nomark _)) (pe_one (pe_callB (cr_all rfl) (by rfl) T.n_all (by decide +kernel) (pa_cons (pe_lc (own := [("sign", 2)]) rfl sc_is_of.nd (pi_str (pv 0)) (blkOk_by (N := ["word", "signs", "sign"]) (sc := defScope s_is_of) (by decide +kernel)) (fun _ _ _ _ _ => pg_name (i := 2) sc_is_of.nd rfl (.inl rfl) (.inr rfl)) (fun _ _ _ _ _ => pts_nil) (fun _ _ _ _ _ => (pe_cmpR (op_inA : OpR _ _ (rInA K)) (pv 2) (pv 1) (by rfl)))) pa_nil))))))), ?_⟩)
  rintro ⟨x, z⟩ G0 ⟨h1, h2⟩
  walk_at "st"
  refine w_ret (ev_andV (ev_op (ev_var rfl) ev_cS rv_neDS) (fun _ => ev_allMap (q := fun c => decide (c ∈ z.cps.toList)) (ei_str (ev_var rfl)) (list_size x h2) (by walk_at "lt") (by walk_at "lt") fun c hc p acc => ?_) (fun _ => rfl)) ?_
  · exact ev_op (ev_var rfl) (ev_var rfl) rv_inS1
  · rfl
section
variable {F : Fr} {s s1 : Sts} {ta : TA} {E : XK}
theorem c_is_of {x z : Str} (h : EvA F ta s [.str x, .str z] s1) (h1 : goodS x) : Ev F (tCall (sIsOf F.K) [] E ta) s (.bool (isOf x z)) s1 := ev_call (x, z) h rfl h1
end
local macro_rules | `(tactic| walk_at "call") => `(tactic| with_reducible apply c_is_of)
def isNum (x : Str) : Bool := isOf x "0123456789" && (decide ((x.length : Int) ≤ 3) && (decide (x = "0") || !decide ((⟨#[signAt x 0]⟩ : Str) = "0")))
abbrev sIsNum (K : PySem.W.Frag) : Sp := spP K (fun x : Str => [.str x]) goodS fun x => .bool (isNum x)
theorem len_pos {x : Str} (h : ¬ x = "") : 0 < x.length := by
  rcases Nat.eq_zero_or_pos x.length with z | z
  · exact absurd (by
      have z2 : x.cps = #[] := Array.eq_empty_of_size_eq_zero z
      cases x
      dsimp only at z2
      subst z2
      rfl) h
  · exact z
theorem isOf_pos {x z : Str} (h : isOf x z = true) : 0 < x.length := by
  unfold isOf at h
  exact len_pos (by simpa using (Bool.and_eq_true_iff.mp h).1)
theorem ok_is_numeral (T : Tx P K mg V) : FnG P w K mg base 2 V.A_is_numeral V.D_is_numeral ["word"] (sIsNum K) := by
  have G_is_of := ok_is_of (w := w) (base := base) T
  refine okP T.F_is_numeral sc_is_numeral (fun a => rfl) (fun cdv Ar outer s H E hr hG => ⟨_, PSs.nox ((pss_one (ps_ret (pe_and (pe_g (E := E0) G_is_of (hr.mono (by decide)) hG (by rfl) T.g_is_of T.F_is_of.kp T.b_is_of .nil passL (pa_cons (pv 0) (pa_cons (pe_gc (by rfl) T.c_FIGURES) pa_nil))) (pe_and (pe_cmpR op_le (pe_callB call_lenA (by rfl) T.n_len (by decide +kernel) (pa_cons (pv 0) pa_nil)) (pe_gc (by rfl) T.c_LONGEST_NUMERAL) (nomark _)) (pe_one (pe_or (pe_cmpR (op_eqA hr.units) (pv 0) pe_str (nomark _)) (pe_one (pe_cmpR (op_neA hr.units) (pe_ix ix_seq (pv 0) pe_int (fun _ _ => rfl)) pe_str (nomark _)))))))))), ?_⟩)
  rintro x G0 ⟨h1, h2⟩
  walk_at "st"
  walk_at "wk"
  all_goals try walk_at "sd"
  · exact ⟨h1, h2⟩
  · rename_i q _ _
    have := isOf_pos q
    omega
  · rfl
section
variable {F : Fr} {s s1 : Sts} {ta : TA} {E : XK}
theorem c_is_num {x : Str} (h : EvA F ta s [.str x] s1) (h1 : goodS x) : Ev F (tCall (sIsNum F.K) [] E ta) s (.bool (isNum x)) s1 := ev_call x h rfl h1
end
local macro_rules | `(tactic| walk_at "call") => `(tactic| with_reducible apply c_is_num)
end
end K61
namespace K61
open PySem PySem.Spec PyProof.Rows L2 Pk
local macro_rules | `(tactic| walk_at "lt") => `(tactic| first | decide | (dsimp only; decide) | (dsimp only [List.length]; decide) | (dsimp only [List.set, List.length]; decide))
local macro_rules | `(tactic| walk_at "ev1") => `(tactic| first
  | with_reducible exact ev_cI | with_reducible exact ev_cS | with_reducible exact ev_cB | with_reducible exact ev_cN | with_reducible exact ea_nil
  | ((with_reducible apply ev_var); exact rfl)
  | ((with_reducible apply ev_cG); assumption)
  | with_reducible apply ea_cons
  | with_reducible apply ev_op
  | with_reducible exact rv_addI | with_reducible exact rv_subI | with_reducible exact rv_ltI | with_reducible exact rv_leI | with_reducible exact rv_gtI | with_reducible exact rv_geI | with_reducible exact rv_eqDI | with_reducible exact rv_neDI
  | with_reducible exact rv_eqDS | with_reducible exact rv_neDS | with_reducible exact rv_inS1 | with_reducible exact rv_notInS1 | with_reducible exact rv_inTup | with_reducible exact rv_inLst
  | with_reducible apply rv_addT | with_reducible apply rv_ixS
  | with_reducible apply et_and | with_reducible apply et_or | with_reducible apply et_not | with_reducible apply et_test | with_reducible apply et_B
  | with_reducible apply ev_andV | with_reducible apply ev_orV | with_reducible apply ev_notV
  | ((with_reducible apply ev_lenQ); (with_reducible apply eq_var); exact rfl)
  | with_reducible apply ev_anyMap | with_reducible apply ev_allMap | with_reducible apply ei_strM
  | with_reducible apply ev_isi
  | (show kitB _ _ = some _; exact rfl)
  | with_reducible apply ev_cb
  | with_reducible apply rc_lenS | with_reducible exact rc_int | with_reducible exact rc_intB | with_reducible exact rc_abs | with_reducible exact rc_max2 | with_reducible exact rc_max3 | with_reducible exact rc_min2
  | with_reducible apply ev_slS | with_reducible exact eo_none | with_reducible apply eo_some
  | with_reducible apply ev_ifX | exact Pk.ite_int | exact Pk.ite_str | exact Pk.ite_bool
  | walk_at "call" | with_reducible apply ev_tup | with_reducible apply ev_lst
  | ((with_reducible show _ < Fr.n _); walk_at "lt") | ((with_reducible show Fr.n _ ≤ List.length _); walk_at "lt")
  | ((with_reducible intro _); first | exact rfl | skip) | fail)
local macro_rules | `(tactic| walk_at "call") => `(tactic| fail)
local macro_rules | `(tactic| walk_at "sd") => `(tactic| first | assumption | omega | (rw [sizeLine_eq]; omega) | (rw [str_len]; omega) | (dsimp only [List.length]; decide) | (simp only [decide_eq_true_eq, decide_eq_false_iff_not] at *; first | omega | (rw [sizeLine_eq]; omega)))
local macro_rules | `(tactic| walk_at "ev") => `(tactic| focus (repeat' (walk_at "ev1")))
local macro_rules | `(tactic| walk_at "w1") => `(tactic| first
  | with_reducible apply w_asg | with_reducible apply w_par | with_reducible apply w_ret | with_reducible apply w_asg1 | with_reducible apply w_retS | with_reducible apply w_skip | with_reducible apply w_ifS | with_reducible apply w_assoc
  | ((with_reducible show _ < Fr.n _); walk_at "lt") | ((with_reducible show Fr.n _ ≤ List.length _); walk_at "lt") | fail)
local macro_rules | `(tactic| walk_at "wk") => `(tactic| focus (repeat' (first | walk_at "w1" | walk_at "ev1")))
local macro_rules | `(tactic| walk_at "st") => `(tactic| dsimp only [cxOf, L2.Cx.nox, s0, List.map, List.length, List.replicate, List.cons_append, List.nil_append, Nat.reduceAdd, Nat.reduceSub, Nat.reduceMul, Nat.succ_eq_add_one, List.replicate_succ, List.replicate_zero, List.append_eq, List.append])
local macro_rules | `(tactic| walk_at "call") => `(tactic| first | with_reducible apply c_words_of | with_reducible apply c_is_of | with_reducible apply c_is_num)
section
variable {P : Program} {w : World} {K : PySem.W.Frag} {mg : Str → Option Value} {base : Heap} {V : Ad}
def isLet (x : Str) : Bool := decide ((x.length : Int) = 1) && decide (signAt x 0 ∈ ("abcdefgh" : Str).cps.toList)
abbrev sIsLet (K : PySem.W.Frag) : Sp := spP K (fun x : Str => [.str x]) goodS fun x => .bool (isLet x)
theorem len_one {x : Str} (h : (x.length : Int) = 1) : x = ⟨#[signAt x 0]⟩ := by
  apply str_ext
  unfold signAt
  have hl : x.cps.toList.length = 1 := by rw [str_len]; omega
  generalize x.cps.toList = l at *
  match l, hl with
  | [c], _ => rfl
theorem ok_is_letter (T : Tx P K mg V) : FnG P w K mg base 1 V.A_is_letter V.D_is_letter ["value"] (sIsLet K) := by
  refine okP T.F_is_letter sc_is_letter (fun a => rfl) (fun cdv Ar outer s H E hr hG => ⟨_, PSs.nox ((pss_one (ps_ret (pe_and (pe_callB call_isi (by rfl) T.n_isinstance (by decide +kernel) (pa_cons (pv 0) (pa_cons (pe_bltn (v := .ty "str") (u := .type "str") (by rfl) T.n_str (by decide +kernel) rfl) pa_nil))) (pe_and (pe_cmpR (op_eqA hr.units) (pe_callB call_lenA (by rfl) T.n_len (by decide +kernel) (pa_cons (pv 0) pa_nil)) pe_int (nomark _)) (pe_one (pe_cmpR op_inA (pv 0) (pe_gc (by rfl) T.c_ARROW_LETTERS) (by rfl)))))))), ?_⟩)
  rintro x G0 ⟨h1, h2⟩
  walk_at "st"
  walk_at "wk"
  all_goals try walk_at "sd"
  · exact rv_inC (len_one (of_decide_eq_true (by assumption)))
  · rfl
section
variable {F : Fr} {s s1 : Sts} {ta : TA} {E : XK}
theorem c_is_let {x : Str} (h : EvA F ta s [.str x] s1) (h1 : goodS x) : Ev F (tCall (sIsLet F.K) [] E ta) s (.bool (isLet x)) s1 := ev_call x h rfl h1
end
local macro_rules | `(tactic| walk_at "call") => `(tactic| with_reducible apply c_is_let)
def isEnd (x : Str) : Bool := decide ((x.length : Int) = 2) && (decide (signAt x 0 ∈ ("uo" : Str).cps.toList) && decide (signAt x 1 ∈ ("abcdefgh" : Str).cps.toList))
abbrev sIsEnd (K : PySem.W.Frag) : Sp := spP K (fun x : Str => [.str x]) goodS fun x => .bool (isEnd x)
theorem ok_is_end (T : Tx P K mg V) : FnG P w K mg base 1 V.A_is_end V.D_is_end ["value"] (sIsEnd K) := by
  refine okP T.F_is_end sc_is_end (fun a => rfl) (fun cdv Ar outer s H E hr hG => ⟨_, PSs.nox ((pss_one (ps_ret (pe_and (pe_callB call_isi (by rfl) T.n_isinstance (by decide +kernel) (pa_cons (pv 0) (pa_cons (pe_bltn (v := .ty "str") (u := .type "str") (by rfl) T.n_str (by decide +kernel) rfl) pa_nil))) (pe_and (pe_cmpR (op_eqA hr.units) (pe_callB call_lenA (by rfl) T.n_len (by decide +kernel) (pa_cons (pv 0) pa_nil)) pe_int (nomark _)) (pe_and (pe_cmpR op_inA (pe_ix ix_seq (pv 0) pe_int (fun _ _ => rfl)) (pe_gc (by rfl) T.c_ROLE_LETTERS) (by rfl)) (pe_one (pe_cmpR op_inA (pe_ix ix_seq (pv 0) pe_int (fun _ _ => rfl)) (pe_gc (by rfl) T.c_ARROW_LETTERS) (by rfl))))))))), ?_⟩)
  rintro x G0 ⟨h1, h2⟩
  walk_at "st"
  walk_at "wk"
  all_goals try walk_at "sd"
  rfl
section
variable {F : Fr} {s s1 : Sts} {ta : TA} {E : XK}
theorem c_is_end {x : Str} (h : EvA F ta s [.str x] s1) (h1 : goodS x) : Ev F (tCall (sIsEnd F.K) [] E ta) s (.bool (isEnd x)) s1 := ev_call x h rfl h1
end
local macro_rules | `(tactic| walk_at "call") => `(tactic| with_reducible apply c_is_end)
def signsW : List Str := ["(", ")", ":", "|", "+", "-", "*", "=", ","]
def ownW : List Str := ["ground", "line", "ring", "drawing", "pattern", "let", "is", "kept", "by", "one", "two", "three", "same", "nought", "adds", "count", "in", "flat", "back", "mirror", "over"]
def kindS (x : Str) : Str := if decide (x ∈ signsW) || decide (x ∈ ownW) then x else if isLet x || isEnd x then (if isLet x then "letter" else "end") else if isOf x "abcdefghijklmnopqrstuvwxyz" && decide ((x.length : Int) ≤ 8) then "name" else if isNum x then "numeral" else "none"
abbrev sKind (K : PySem.W.Frag) : Sp := spP K (fun x : Str => [.str x]) goodS fun x => .str (kindS x)
theorem ok_kind_of_word (T : Tx P K mg V) : FnG P w K mg base 3 V.A_kind_of_word V.D_kind_of_word ["word"] (sKind K) := by
  have G_is_letter := ok_is_letter (w := w) (base := base) T
  have G_is_end := ok_is_end (w := w) (base := base) T
  have G_is_of := ok_is_of (w := w) (base := base) T
  have G_is_numeral := ok_is_numeral (w := w) (base := base) T
  refine okP T.F_kind_of_word sc_kind_of_word (fun a => rfl) (fun cdv Ar outer s H E hr hG => ⟨_, PSs.nox ((pss_cons (ps_if (PW.pt (pw_or (pt_cmpR op_inA (pv 0) (pe_gc (by rfl) T.c_SIGNS) (by rfl)) (pw_or1 (pt_cmpR op_inA (pv 0) (pe_gc (by rfl) T.c_OWN_WORDS) (by rfl))))) (pss_one (ps_ret (pv 0))) pss_nil)
      (pss_cons (ps_if (PW.pt (pw_or (pt_val (pe_g (E := E0) G_is_letter (hr.mono (by decide)) hG (by rfl) T.g_is_letter T.F_is_letter.kp T.b_is_letter .nil passL (pa_cons (pv 0) pa_nil))) (pw_or1 (pt_val (pe_g (E := E0) G_is_end (hr.mono (by decide)) hG (by rfl) T.g_is_end T.F_is_end.kp T.b_is_end .nil passL (pa_cons (pv 0) pa_nil)))))) (pss_one (ps_ret (pe_ifExp (pt_val (pe_g (E := E0) G_is_letter (hr.mono (by decide)) hG (by rfl) T.g_is_letter T.F_is_letter.kp T.b_is_letter .nil passL (pa_cons (pv 0) pa_nil))) (pe_gc (by rfl) T.c_LETTER) (pe_gc (by rfl) T.c_ROLED)))) pss_nil)
      (pss_cons (ps_if (PW.pt (pw_and (pt_val (pe_g (E := E0) G_is_of (hr.mono (by decide)) hG (by rfl) T.g_is_of T.F_is_of.kp T.b_is_of .nil passL (pa_cons (pv 0) (pa_cons (pe_gc (by rfl) T.c_SMALL) pa_nil)))) (pw_and1 (pt_cmpR op_le (pe_callB call_lenA (by rfl) T.n_len (by decide +kernel) (pa_cons (pv 0) pa_nil)) (pe_gc (by rfl) T.c_LONGEST_NAME) (nomark _))))) (pss_one (ps_ret (pe_gc (by rfl) T.c_NAME))) pss_nil)
      (pss_one (ps_ret (pe_ifExp (pt_val (pe_g (E := E0) G_is_numeral (hr.mono (by decide)) hG (by rfl) T.g_is_numeral T.F_is_numeral.kp T.b_is_numeral .nil passL (pa_cons (pv 0) pa_nil))) (pe_gc (by rfl) T.c_NUMERAL) (pe_gc (by rfl) T.c_NO_KIND)))))))), ?_⟩)
  rintro x G0 hg
  have hS : ∀ G, Dp K G (.ref V.K_SIGNS) (.tuple (signsW.map .str)) := T.d_SIGNS
  have hO : ∀ G, Dp K G (.ref V.K_OWN_WORDS) (.tuple (ownW.map .str)) := T.d_OWN_WORDS
  walk_at "st"
  walk_at "wk"
  all_goals try walk_at "sd"
  all_goals try exact hg.1
  all_goals try (have := hg.2; rw [sizeLine_eq]; omega)
  all_goals (show Rt.d (.str _) = Rt.d (.str _); unfold kindS; simp only [*]; rfl)
section
variable {F : Fr} {s s1 : Sts} {ta : TA} {E : XK}
theorem c_kind {x : Str} (h : EvA F ta s [.str x] s1) (h1 : goodS x) : Ev F (tCall (sKind F.K) [] E ta) s (.str (kindS x)) s1 := ev_call x h rfl h1
end
local macro_rules | `(tactic| walk_at "call") => `(tactic| with_reducible apply c_kind)
def wordsX (V : Ad) : PyData → Except (Addr × List (Str × PyData)) PyData
  | .str x => if decide (10 ∈ x.cps.toList) then .error (V.C_InvalidLine, [("given", .str x)]) else .ok (.tuple ((wordsS x).map .str))
  | d => .error (V.C_InvalidLine, [("given", d)])
def goodD (d : PyData) : Prop := ∀ x, d = .str x → goodS x
abbrev sWords (K : PySem.W.Frag) (V : Ad) : Sp := spX K (fun d : PyData => [d]) goodD (wordsX V)
theorem ok_words (T : Tx P K mg V) : FnG P w K mg base 3 V.A_words V.D_words ["line"] (sWords K V) := by
  have G_words_of := ok_words_of (w := w) (base := base) T
  refine okX T.F_words sc_words (fun a => rfl) (fun cdv Ar outer s H E hr hG => ⟨_, (pss_cons (ps_if (PW.pt (pw_or (pt_not (pt_val (pe_callB call_isi (by rfl) T.n_isinstance (by decide +kernel) (pa_cons (pv 0) (pa_cons (pe_bltn (v := .ty "str") (u := .type "str") (by rfl) T.n_str (by decide +kernel) rfl) pa_nil))))) (pw_or1 (pt_cmpR op_inA (pe_gc (by rfl) T.c_END) (pv 0) (by rfl))))) (pss_one (ps_raise rfl (takes_of rfl rfl rfl rfl) (pmk_sup T.x_InvalidLine hr (by rfl) T.g_InvalidLine (pa_cons (pv 0) pa_nil)))) pss_nil)
      (pss_one (ps_ret (pe_g (E := E0) G_words_of (hr.mono (by decide)) hG (by rfl) T.g_words_of T.F_words_of.kp T.b_words_of .nil passL (pa_cons (pv 0) pa_nil))))), ?_⟩)
  rintro d G0 hg
  walk_at "st"
  by_cases hs : ∃ x, d = .str x
  · obtain ⟨x, rfl⟩ := hs
    have hg' := hg x rfl
    refine w_ifS (b := decide (10 ∈ x.cps.toList)) (EvT.to (et_or (et_not (et_B (ev_isi (ev_var rfl) rfl))) (fun _ => et_test (ev_op ev_cS (ev_var rfl) (rv_inC (c := 10) rfl))) (fun _ => rfl)) rfl) (fun h => ?_) (fun h => w_skip ?_)
    · exact w_seq (fun _ => False) (w_raise (ev_var rfl) (by show wordsX V _ = _; unfold wordsX; dsimp only; rw [if_pos h])) (fun _ z => z.elim)
    · refine w_ret (c_words_of (ea_cons (ev_var rfl) ea_nil) hg') ⟨_, rfl, ?_⟩
      show wordsX V _ = _
      unfold wordsX
      dsimp only
      rw [if_neg (by rw [h]; exact Bool.false_ne_true)]
  · have hk : kitB (tyD d) "str" = some false := by
      cases d <;> first | rfl | exact absurd ⟨_, rfl⟩ hs
    refine w_ifS (b := true) (EvT.to (et_or (c := true) (et_not (et_B (ev_isi (ev_var rfl) hk))) (fun z => by cases z) (fun _ => rfl)) rfl) (fun h => ?_) (fun h => by cases h)
    refine w_seq (fun _ => False) (w_raise (ev_var rfl) ?_) (fun _ z => z.elim)
    show wordsX V _ = _
    unfold wordsX
    cases d <;> first | rfl | exact absurd ⟨_, rfl⟩ hs
def kindX (V : Ad) : PyData → Except (Addr × List (Str × PyData)) PyData
  | .str x => .ok (.str (kindS x))
  | d => .error (V.C_InvalidText, [("given", d)])
abbrev sWordKind (K : PySem.W.Frag) (V : Ad) : Sp := spX K (fun d : PyData => [d]) goodD (kindX V)
theorem ok_word_kind (T : Tx P K mg V) : FnG P w K mg base 4 V.A_word_kind V.D_word_kind ["word"] (sWordKind K V) := by
  have G_kind_of_word := ok_kind_of_word (w := w) (base := base) T
  refine okX T.F_word_kind sc_word_kind (fun a => rfl) (fun cdv Ar outer s H E hr hG => ⟨_, (pss_cons (ps_if (pt_not (pt_val (pe_callB call_isi (by rfl) T.n_isinstance (by decide +kernel) (pa_cons (pv 0) (pa_cons (pe_bltn (v := .ty "str") (u := .type "str") (by rfl) T.n_str (by decide +kernel) rfl) pa_nil))))) (pss_one (ps_raise rfl (takes_of rfl rfl rfl rfl) (pmk_sup T.x_InvalidText hr (by rfl) T.g_InvalidText (pa_cons (pv 0) pa_nil)))) pss_nil)
      (pss_one (ps_ret (pe_g (E := E0) G_kind_of_word (hr.mono (by decide)) hG (by rfl) T.g_kind_of_word T.F_kind_of_word.kp T.b_kind_of_word .nil passL (pa_cons (pv 0) pa_nil))))), ?_⟩)
  rintro d G0 hg
  walk_at "st"
  by_cases hs : ∃ x, d = .str x
  · obtain ⟨x, rfl⟩ := hs
    have hg' := hg x rfl
    refine w_ifS (b := false) (EvT.to (et_not (et_B (ev_isi (ev_var rfl) rfl))) rfl) (fun h => by cases h) (fun h => w_skip ?_)
    exact w_ret (c_kind (ea_cons (ev_var rfl) ea_nil) hg') ⟨_, rfl, rfl⟩
  · have hk : kitB (tyD d) "str" = some false := by
      cases d <;> first | rfl | exact absurd ⟨_, rfl⟩ hs
    refine w_ifS (b := true) (EvT.to (et_not (et_B (ev_isi (ev_var rfl) hk))) rfl) (fun h => ?_) (fun h => by cases h)
    refine w_seq (fun _ => False) (w_raise (ev_var rfl) ?_) (fun _ z => z.elim)
    show kindX V _ = _
    unfold kindX
    cases d <;> first | rfl | exact absurd ⟨_, rfl⟩ hs
end
end K61
namespace K61
open PySem PySem.Spec PyProof.Rows L2 Pk
local macro_rules | `(tactic| walk_at "lt") => `(tactic| first | decide | (dsimp only; decide) | (dsimp only [List.length]; decide) | (dsimp only [List.set, List.length]; decide))
local macro_rules | `(tactic| walk_at "ev1") => `(tactic| first
  | with_reducible exact ev_cI | with_reducible exact ev_cS | with_reducible exact ev_cB | with_reducible exact ev_cN | with_reducible exact ea_nil
  | ((with_reducible apply ev_var); exact rfl)
  | ((with_reducible apply ev_cG); assumption)
  | with_reducible apply ea_cons
  | with_reducible apply ev_op
  | with_reducible exact rv_addI | with_reducible exact rv_subI | with_reducible exact rv_ltI | with_reducible exact rv_leI | with_reducible exact rv_gtI | with_reducible exact rv_geI | with_reducible exact rv_eqDI | with_reducible exact rv_neDI
  | with_reducible exact rv_eqDS | with_reducible exact rv_neDS | with_reducible exact rv_inS1 | with_reducible exact rv_notInS1 | with_reducible exact rv_inTup | with_reducible exact rv_inLst
  | with_reducible apply rv_addT | with_reducible apply rv_ixS
  | with_reducible apply et_and | with_reducible apply et_or | with_reducible apply et_not | with_reducible apply et_test | with_reducible apply et_B
  | with_reducible apply ev_andV | with_reducible apply ev_orV | with_reducible apply ev_notV
  | ((with_reducible apply ev_lenQ); (with_reducible apply eq_var); exact rfl)
  | with_reducible apply ev_anyMap | with_reducible apply ev_allMap | with_reducible apply ei_strM
  | with_reducible apply ev_isi
  | (show kitB _ _ = some _; exact rfl)
  | with_reducible apply ev_cb
  | with_reducible apply rc_lenS | with_reducible exact rc_int | with_reducible exact rc_intB | with_reducible exact rc_abs | with_reducible exact rc_max2 | with_reducible exact rc_max3 | with_reducible exact rc_min2
  | with_reducible apply ev_slS | with_reducible exact eo_none | with_reducible apply eo_some
  | with_reducible apply ev_ifX | exact Pk.ite_int | exact Pk.ite_str | exact Pk.ite_bool
  | walk_at "call" | with_reducible apply ev_tup | with_reducible apply ev_lst
  | ((with_reducible show _ < Fr.n _); walk_at "lt") | ((with_reducible show Fr.n _ ≤ List.length _); walk_at "lt")
  | ((with_reducible intro _); first | exact rfl | skip) | fail)
local macro_rules | `(tactic| walk_at "call") => `(tactic| fail)
local macro_rules | `(tactic| walk_at "sd") => `(tactic| first | assumption | omega | (rw [sizeLine_eq]; omega) | (rw [str_len]; omega) | (dsimp only [List.length]; decide) | (simp only [decide_eq_true_eq, decide_eq_false_iff_not] at *; first | omega | (rw [sizeLine_eq]; omega)))
local macro_rules | `(tactic| walk_at "ev") => `(tactic| focus (repeat' (walk_at "ev1")))
local macro_rules | `(tactic| walk_at "w1") => `(tactic| first
  | with_reducible apply w_asg | with_reducible apply w_par | with_reducible apply w_ret | with_reducible apply w_asg1 | with_reducible apply w_retS | with_reducible apply w_skip | with_reducible apply w_ifS | with_reducible apply w_assoc
  | ((with_reducible show _ < Fr.n _); walk_at "lt") | ((with_reducible show Fr.n _ ≤ List.length _); walk_at "lt") | fail)
local macro_rules | `(tactic| walk_at "wk") => `(tactic| focus (repeat' (first | walk_at "w1" | walk_at "ev1")))
local macro_rules | `(tactic| walk_at "st") => `(tactic| dsimp only [cxOf, L2.Cx.nox, s0, List.map, List.length, List.replicate, List.cons_append, List.nil_append, Nat.reduceAdd, Nat.reduceSub, Nat.reduceMul, Nat.succ_eq_add_one, List.replicate_succ, List.replicate_zero, List.append_eq, List.append])
local macro_rules | `(tactic| walk_at "call") => `(tactic| first | with_reducible apply c_words_of | with_reducible apply c_is_of | with_reducible apply c_is_num)
section
variable {P : Program} {w : World} {K : PySem.W.Frag} {mg : Str → Option Value} {base : Heap} {V : Ad}
/-! the law's own dealing -/
abbrev Tray := Int × Int × Int
def trD (t : Tray) : List PyData := [.int t.1, .int t.2.1, .int t.2.2]
def pebH (t : Tray) : Int := (t.2.1 * 40692 + 1301 * (t.2.2 + 1)) % 2147483399
def pebV (t : Tray) (m : Int) : Int := if 0 < t.1 then t.1 % m else pebH t / 109 % m
def pebT (t : Tray) (m : Int) : Tray := if 0 < t.1 then (t.1 / m, t.2.1, t.2.2) else (t.1, pebH t, t.2.2 + 1)
abbrev sPeb (K : PySem.W.Frag) : Sp := spT K (fun a : Tray × Int => trD a.1) (fun a => [.int a.2]) (fun a => 0 < a.2 ∧ a.2 < 1073741824) (fun a => .int (pebV a.1 a.2)) (fun a => trD (pebT a.1 a.2))
theorem ok_peb (T : Tx P K mg V) : FnG P w K mg base 1 V.A__law_pebble V.D__law_pebble ["tray", "many"] (sPeb K) := by
  refine okT T.F__law_pebble sc__law_pebble (fun a => rfl) (fun cdv Ar outer s H E hr hG => ⟨_, PSs.nox ((pss_cons (ps_if (pt_cmpR op_gt (pe_ix ix_seq (pv 0) pe_int (fun _ _ => rfl)) pe_int (nomark _)) (pss_cons (ps_set (i := 2) sc__law_pebble.nd rfl (.inl rfl) (pe_op op_mod (pe_callTy call_intA (by rfl) T.n_int (by decide +kernel) (pa_cons (pe_ix ix_seq (pv 0) pe_int (fun _ _ => rfl)) pa_nil)) (pv 1)))
      (pss_cons (ps_asg (pe_op op_fdiv (pe_ix ix_seq (pv 0) pe_int (fun _ _ => rfl)) (pv 1)) (pg_sub (pv 0) pe_int set_list))
      (pss_one (ps_ret (pv 2))))) pss_nil)
      (pss_cons (ps_asg (pe_op op_addA (pe_ix ix_seq (pv 0) pe_int (fun _ _ => rfl)) pe_int) (pg_sub (pv 0) pe_int set_list))
      (pss_cons (ps_asg (pe_op op_mod (pe_callTy call_intA (by rfl) T.n_int (by decide +kernel) (pa_cons (pe_op op_addA (pe_op op_mulA (pe_ix ix_seq (pv 0) pe_int (fun _ _ => rfl)) pe_int) (pe_op op_mulA pe_int (pe_ix ix_seq (pv 0) pe_int (fun _ _ => rfl)))) pa_nil)) pe_int) (pg_sub (pv 0) pe_int set_list))
      (pss_one (ps_ret (pe_op op_mod (pe_callTy call_intA (by rfl) T.n_int (by decide +kernel) (pa_cons (pe_op op_fdiv (pe_ix ix_seq (pv 0) pe_int (fun _ _ => rfl)) pe_int) pa_nil)) (pv 1)))))))), ?_⟩)
  rintro ⟨t, m⟩ G0 p ⟨h0, h1⟩
  walk_at "st"
  dsimp only at h0 h1
  have i0 : ∀ z : Int, 0 < z → CDiv z m := fun z hz => ⟨h0, h1⟩
  by_cases ht : 0 < t.1
  · have e1 : pebV t m = t.1 % m := if_pos ht
    have e2 : pebT t m = (t.1 / m, t.2.1, t.2.2) := if_pos ht
    rw [e1, e2]
    refine w_ifS (b := true) (EvT.to (et_test (ev_op (ev_ixO rfl ev_cI rfl (d := .int t.1) rfl) ev_cI rv_gtI)) (decide_eq_true ht)) (fun _ => ?_) (fun z => by cases z)
    refine w_asg (ev_op (ev_cb (ea_cons (ev_ixO rfl ev_cI rfl (d := .int t.1) rfl) ea_nil) rc_int) (ev_var rfl) (rv_modI h0)) (by walk_at "lt") ?_
    refine w_setL (ev_op (ev_ixO rfl ev_cI rfl (d := .int t.1) rfl) (ev_var rfl) (rv_divI ⟨h0, h1⟩)) rfl ev_cI rfl rfl ?_
    exact w_ret (ev_var rfl) ⟨rfl, rfl⟩
  · have e1 : pebV t m = pebH t / 109 % m := if_neg ht
    have e2 : pebT t m = (t.1, pebH t, t.2.2 + 1) := if_neg ht
    rw [e1, e2]
    refine w_ifS (b := false) (EvT.to (et_test (ev_op (ev_ixO rfl ev_cI rfl (d := .int t.1) rfl) ev_cI rv_gtI)) (decide_eq_false ht)) (fun z => by cases z) (fun _ => w_skip ?_)
    refine w_setL (ev_op (ev_ixO rfl ev_cI rfl (d := .int t.2.2) rfl) ev_cI rv_addI) rfl ev_cI rfl rfl ?_
    refine w_setL (ev_op (ev_cb (ea_cons (ev_op (ev_op (ev_ixO rfl ev_cI rfl (d := .int t.2.1) rfl) ev_cI (rv_mulI (.inr (by decide)))) (ev_op ev_cI (ev_ixO rfl ev_cI rfl (d := .int (t.2.2 + 1)) rfl) (rv_mulI (.inl (by decide)))) rv_addI) ea_nil) rc_int) ev_cI (rv_modI (by decide))) rfl ev_cI rfl rfl ?_
    exact w_ret (ev_op (ev_cb (ea_cons (ev_op (ev_ixO rfl ev_cI rfl (d := .int (pebH t)) rfl) ev_cI (rv_divI ⟨by decide, by decide⟩)) ea_nil) rc_int) (ev_var rfl) (rv_modI h0)) ⟨rfl, rfl⟩
section
variable {F : Fr} {s s1 : Sts} {ta : TA} {E : XK} {i : Nat} {p : Addr}
theorem c_peb {t : Tray} {m : Int} (hi : s[i]? = some (.ls p (trD t))) (h : EvA F ta s [.int m] s1) (hi1 : s1[i]? = some (.ls p (trD t))) (h0 : 0 < m) (h1 : m < 1073741824) : Ev F (tCall (sPeb F.K) [] E (tCons (tVar i) ta)) s (.int (pebV t m)) (s1.set i (.ls p (trD (pebT t m)))) :=
  ev_callT (a := (t, m)) hi h rfl hi1 ⟨h0, h1⟩
end
theorem pebV_lt (t : Tray) {m : Int} (h : 0 < m) : 0 ≤ pebV t m ∧ pebV t m < m := by
  unfold pebV
  split
  · exact ⟨Int.emod_nonneg _ (by omega), Int.emod_lt_of_pos _ h⟩
  · exact ⟨Int.emod_nonneg _ (by omega), Int.emod_lt_of_pos _ h⟩
/-- one of some texts -/
def seqD (b : Bool) (ws : List Str) : PyData := if b then .tuple (ws.map .str) else .list (ws.map .str)
def anyV (t : Tray) (ws : List Str) : Str := ws.getD (pebV t ws.length).toNat ⟨#[]⟩
abbrev sAny (K : PySem.W.Frag) : Sp := spT K (fun a : Tray × Bool × List Str => trD a.1) (fun a => [seqD a.2.1 a.2.2]) (fun a => 0 < a.2.2.length ∧ a.2.2.length < 1000) (fun a => .str (anyV a.1 a.2.2)) (fun a => trD (pebT a.1 a.2.2.length))
theorem seqD_or (b : Bool) (ws : List Str) : seqD b ws = .tuple (ws.map .str) ∨ seqD b ws = .list (ws.map .str) := by
  cases b
  · exact .inr rfl
  · exact .inl rfl
theorem ok_any (T : Tx P K mg V) : FnG P w K mg base 2 V.A__law_any V.D__law_any ["tray", "some"] (sAny K) := by
  have ok__law_pebble := @ok_peb
  have G__law_pebble := ok__law_pebble (w := w) (base := base) T
  refine okT T.F__law_any sc__law_any (fun a => rfl) (fun cdv Ar outer s H E hr hG => ⟨_, PSs.nox ((pss_one (ps_ret (pe_ix ix_seq (pv 1) (pe_g (E := E0) G__law_pebble (hr.mono (by decide)) hG (by rfl) T.g__law_pebble T.F__law_pebble.kp T.b__law_pebble .nil passL (pa_cons (pv 0) (pa_cons (pe_callB call_lenA (by rfl) T.n_len (by decide +kernel) (pa_cons (pv 1) pa_nil)) pa_nil))) (fun _ _ => rfl))))), ?_⟩)
  rintro ⟨t, b, ws⟩ G0 p ⟨h0, h1⟩
  walk_at "st"
  dsimp only at h0 h1
  have hl : (ws.map PyData.str).length = ws.length := List.length_map _
  have hp := pebV_lt t (m := (ws.length : Int)) (by omega)
  have e := c_peb (F := ⟨K, G0, H, [p], 2⟩) (s := [SV.ls p (trD t), .im (seqD b ws)]) (i := 0) (E := E0) (t := t) (m := ((ws.map PyData.str).length : Int)) rfl (ea_cons (ev_cb (ea_cons (ev_var (i := 1) rfl) ea_nil) (rc_lenQ (seqD_or b ws))) ea_nil) rfl (by omega) (by omega)
  rw [hl] at e
  exact w_ret (ev_op (ev_var rfl) e (rv_ixStrs (seqD_or b ws) hp.1 hp.2)) ⟨rfl, rfl⟩
section
variable {F : Fr} {s s1 : Sts} {ta : TA} {E : XK} {i : Nat} {p : Addr}
theorem c_any {t : Tray} {b : Bool} {ws : List Str} (hi : s[i]? = some (.ls p (trD t))) (h : EvA F ta s [seqD b ws] s1) (hi1 : s1[i]? = some (.ls p (trD t))) (h0 : 0 < ws.length) (h1 : ws.length < 1000) : Ev F (tCall (sAny F.K) [] E (tCons (tVar i) ta)) s (.str (anyV t ws)) (s1.set i (.ls p (trD (pebT t ws.length)))) :=
  ev_callT (a := (t, b, ws)) hi h rfl hi1 ⟨h0, h1⟩
end
/-- the language's own words -/
def langW : List Str := Txt.split "ground line ring drawing pattern let is kept by one two three same nought adds count in flat back mirror over" " "
abbrev sLang (K : PySem.W.Frag) : Sp := spP K (fun _ : Unit => []) (fun _ => True) fun _ => .list (langW.map .str)
theorem ok_lang (T : Tx P K mg V) : FnG P w K mg base 1 V.A__law_language V.D__law_language [] (sLang K) := by
  refine okP T.F__law_language sc__law_language (fun a => rfl) (fun cdv Ar outer s H E hr hG => ⟨_, PSs.nox ((pss_one (ps_ret (pe_bm PySem.F.plainAttrs_str PySem.F.slot_str_split PySem.F.type_str_split mt_splitA pe_str (pa_cons pe_str pa_nil))))), ?_⟩)
  rintro ⟨⟩ G0 _
  walk_at "st"
  exact w_ret (ev_frz (el_split ev_cS ev_cS (by decide +kernel) (by decide +kernel))) rfl
section
variable {F : Fr} {s s1 : Sts} {ta : TA} {E : XK}
theorem c_lang : Ev F (tCall (sLang F.K) [] E tNil) s (.list (langW.map .str)) s := ev_call () ea_nil rfl trivial
end
theorem langW_eq : langW = ownW := by decide +kernel
end
end K61
namespace K61
open PySem PySem.Spec PyProof.Rows L2 Pk
local macro_rules | `(tactic| walk_at "lt") => `(tactic| first | decide | (dsimp only; decide) | (dsimp only [List.length]; decide) | (dsimp only [List.set, List.length]; decide))
local macro_rules | `(tactic| walk_at "ev1") => `(tactic| first
  | with_reducible exact ev_cI | with_reducible exact ev_cS | with_reducible exact ev_cB | with_reducible exact ev_cN | with_reducible exact ea_nil
  | ((with_reducible apply ev_var); exact rfl)
  | ((with_reducible apply ev_cG); assumption)
  | with_reducible apply ea_cons
  | with_reducible apply ev_op
  | with_reducible exact rv_addI | with_reducible exact rv_subI | with_reducible exact rv_ltI | with_reducible exact rv_leI | with_reducible exact rv_gtI | with_reducible exact rv_geI | with_reducible exact rv_eqDI | with_reducible exact rv_neDI
  | with_reducible exact rv_eqDS | with_reducible exact rv_neDS | with_reducible exact rv_inS1 | with_reducible exact rv_notInS1 | with_reducible exact rv_inTup | with_reducible exact rv_inLst
  | with_reducible apply rv_addT | with_reducible apply rv_ixS
  | with_reducible apply et_and | with_reducible apply et_or | with_reducible apply et_not | with_reducible apply et_test | with_reducible apply et_B
  | with_reducible apply ev_andV | with_reducible apply ev_orV | with_reducible apply ev_notV
  | ((with_reducible apply ev_lenQ); (with_reducible apply eq_var); exact rfl)
  | with_reducible apply ev_anyMap | with_reducible apply ev_allMap | with_reducible apply ei_strM
  | with_reducible apply ev_isi
  | (show kitB _ _ = some _; exact rfl)
  | with_reducible apply ev_cb
  | with_reducible apply rc_lenS | with_reducible exact rc_int | with_reducible exact rc_intB | with_reducible exact rc_abs | with_reducible exact rc_max2 | with_reducible exact rc_max3 | with_reducible exact rc_min2
  | with_reducible apply ev_slS | with_reducible exact eo_none | with_reducible apply eo_some
  | with_reducible apply ev_ifX | exact Pk.ite_int | exact Pk.ite_str | exact Pk.ite_bool
  | walk_at "call" | with_reducible apply ev_tup | with_reducible apply ev_lst
  | ((with_reducible show _ < Fr.n _); walk_at "lt") | ((with_reducible show Fr.n _ ≤ List.length _); walk_at "lt")
  | ((with_reducible intro _); first | exact rfl | skip) | fail)
local macro_rules | `(tactic| walk_at "call") => `(tactic| fail)
local macro_rules | `(tactic| walk_at "sd") => `(tactic| first | assumption | omega | (rw [sizeLine_eq]; omega) | (rw [str_len]; omega) | (dsimp only [List.length]; decide) | (simp only [decide_eq_true_eq, decide_eq_false_iff_not] at *; first | omega | (rw [sizeLine_eq]; omega)))
local macro_rules | `(tactic| walk_at "ev") => `(tactic| focus (repeat' (walk_at "ev1")))
local macro_rules | `(tactic| walk_at "w1") => `(tactic| first
  | with_reducible apply w_asg | with_reducible apply w_par | with_reducible apply w_ret | with_reducible apply w_asg1 | with_reducible apply w_retS | with_reducible apply w_skip | with_reducible apply w_ifS | with_reducible apply w_assoc
  | ((with_reducible show _ < Fr.n _); walk_at "lt") | ((with_reducible show Fr.n _ ≤ List.length _); walk_at "lt") | fail)
local macro_rules | `(tactic| walk_at "wk") => `(tactic| focus (repeat' (first | walk_at "w1" | walk_at "ev1")))
local macro_rules | `(tactic| walk_at "st") => `(tactic| dsimp only [cxOf, L2.Cx.nox, s0, List.map, List.length, List.replicate, List.cons_append, List.nil_append, Nat.reduceAdd, Nat.reduceSub, Nat.reduceMul, Nat.succ_eq_add_one, List.replicate_succ, List.replicate_zero, List.append_eq, List.append])
section
variable {P : Program} {w : World} {K : PySem.W.Frag} {mg : Str → Option Value} {base : Heap} {V : Ad}
theorem cutD_take {α : Type} (xs : List α) : Pk.cutD xs none (some 30) = xs.take 30 := by
  unfold Pk.cutD
  have e1 : HT.sIx xs.length 0 none = 0 := rfl
  have e2 : HT.sIx xs.length xs.length (some 30) = min 30 xs.length := by
    show (if (30 : Int) < 0 then ((30 : Int) + (xs.length : Int)).toNat else min (30 : Int).toNat xs.length) = _
    rw [if_neg (by decide)]
    rfl
  rw [e1, e2, List.drop_zero, Nat.sub_zero]
  show List.take _ _ = List.take _ _
  rw [List.take_eq_take_iff]
  omega
def stepH (h : Int) (i : Nat) (z : Int) : Int := ((h + (z.natAbs : Int) % 999953 + 11 * (if decide (z < 0) then 1 else 0)) * 48683 + (i : Int)) % 2147483543
def heapAt (zs : List Int) (h : Int) : Nat → Int
  | 0 => h
  | i + 1 => stepH (heapAt zs h i) i (zs.getD i 0)
def stepS (lap : Int) (h : Int) (i : Nat) : Int := (h * (h % 99971 + 8 * lap + 7) + 503 * (i : Int)) % 2147483543
def siftAt (lap h : Int) : Nat → Int
  | 0 => h
  | i + 1 => stepS lap (siftAt lap h i) i
def ownV (zs : List Int) (lap : Int) : Int := if decide (lap < zs.length) then zs.getD lap.toNat 0 else 0
def trayF (ns : List Int) (lap : Int) : Tray := ((if decide (ownV (ns.take 30) lap < 0) || decide (10 ^ (6 : Int).toNat < ownV (ns.take 30) lap) then ((ownV (ns.take 30) lap).natAbs : Int) % 10 ^ (60 : Int).toNat else 0),
  siftAt lap (heapAt (ns.take 30) (47 + 29 * lap) (ns.take 30).length) 4 + 11, 0)
abbrev sTray (K : PySem.W.Frag) : Sp := spN K (fun a : List Int × Int => [.list (a.1.map .int), .int a.2]) (fun a => a.1.length ≤ 1000 ∧ 0 ≤ a.2 ∧ a.2 ≤ 1000) fun a => trD (trayF a.1 a.2)
theorem ok_tray (T : Tx P K mg V) : FnG P w K mg base 1 V.A__law_tray V.D__law_tray ["script", "lap"] (sTray K) := by
  refine okN T.F__law_tray sc__law_tray (fun a => rfl) (fun cdv Ar outer s H E hr hG => ⟨_, PSs.nox ((pss_cons (ps_setLc (i := 2) (own := [("each", 7)]) rfl sc__law_tray.nd rfl rfl (sw_true rfl rfl rfl (by decide +kernel)) (pi_list (pe_slice sl_all (pv 0) po_none (po_some pe_int))) (blkOk_by (N := ["script", "lap", "some", "heap", "sift", "own", "place", "each"]) (sc := defScope s__law_tray) (by decide +kernel)) (fun _ _ _ _ _ => pg_name (i := 7) sc__law_tray.nd rfl (.inl rfl) (.inr rfl)) (fun _ _ _ _ _ => pts_nil) (fun _ _ _ _ _ => (pe_callTy call_intA (by rfl) T.n_int (by decide +kernel) (pa_cons (pv 7) pa_nil))))
      (pss_cons (ps_set (i := 3) sc__law_tray.nd rfl (.inl rfl) (pe_op op_addA pe_int (pe_op op_mulA pe_int (pv 1))))
      (pss_cons (ps_for PassesOwn.never rfl (pi_enum (by rfl) T.n_enumerate (pa_cons (pv 2) pa_nil)) (pg_tup rfl (pgs_cons (pg_name (i := 6) sc__law_tray.nd rfl (.inl rfl)) (pgs_cons (pg_name (i := 7) sc__law_tray.nd rfl (.inl rfl)) pgs_nil))) (pss_one (ps_set (i := 3) sc__law_tray.nd rfl (.inl rfl) (pe_op op_mod (pe_callTy call_intA (by rfl) T.n_int (by decide +kernel) (pa_cons (pe_op op_addA (pe_op op_mulA (pe_op op_addA (pe_op op_addA (pv 3) (pe_op op_mod (pe_callTy call_intA (by rfl) T.n_int (by decide +kernel) (pa_cons (pe_callB call_absA (by rfl) T.n_abs (by decide +kernel) (pa_cons (pv 7) pa_nil)) pa_nil)) pe_int)) (pe_op op_mulA pe_int (pe_callTy call_intA (by rfl) T.n_int (by decide +kernel) (pa_cons (pe_cmpR op_lt (pv 7) pe_int (nomark _)) pa_nil)))) pe_int) (pv 6)) pa_nil)) pe_int))))
      (pss_cons (ps_for PassesOwn.never rfl (pi_range1 (by rfl) T.n_range (pa_cons pe_int pa_nil)) (pg_name (i := 4) sc__law_tray.nd rfl (.inl rfl)) (pss_one (ps_set (i := 3) sc__law_tray.nd rfl (.inl rfl) (pe_op op_mod (pe_callTy call_intA (by rfl) T.n_int (by decide +kernel) (pa_cons (pe_op op_addA (pe_op op_mulA (pv 3) (pe_op op_addA (pe_op op_addA (pe_op op_mod (pe_callTy call_intA (by rfl) T.n_int (by decide +kernel) (pa_cons (pv 3) pa_nil)) pe_int) (pe_op op_mulA pe_int (pv 1))) pe_int)) (pe_op op_mulA pe_int (pv 4))) pa_nil)) pe_int))))
      (pss_cons (ps_set (i := 5) sc__law_tray.nd rfl (.inl rfl) (pe_ifExp (pt_cmpR op_lt (pv 1) (pe_callB call_lenA (by rfl) T.n_len (by decide +kernel) (pa_cons (pv 2) pa_nil)) (nomark _)) (pe_ix ix_seq (pv 2) (pv 1) (fun _ _ => rfl)) pe_int))
      (pss_one (ps_ret (pe_lst (pa_cons (pe_ifExp (PW.pt (pw_or (pt_cmpR op_lt (pv 5) pe_int (nomark _)) (pw_or1 (pt_cmpR op_gt (pv 5) (pe_op op_pow pe_int pe_int) (nomark _))))) (pe_op op_mod (pe_callTy call_intA (by rfl) T.n_int (by decide +kernel) (pa_cons (pe_callB call_absA (by rfl) T.n_abs (by decide +kernel) (pa_cons (pv 5) pa_nil)) pa_nil)) (pe_op op_pow pe_int pe_int)) pe_int) (pa_cons (pe_op op_addA (pv 3) pe_int) (pa_cons pe_int pa_nil)))))))))))), ?_⟩)
  rintro ⟨ns, lap⟩ G0 ⟨h0, h1, h2⟩
  walk_at "st"
  dsimp only at h0 h1 h2
  have hz : (ns.take 30).length ≤ 30 := by rw [List.length_take]; omega
  have hs : Ev ⟨K, G0, H, [], 8⟩ (tSl (rSlAll K) (tVar 0) tNoPart (tPart (tC (L2.V.int 30)))) [SV.im (.list (ns.map .int)), SV.im (.int lap), .un, .un, .un, .un, .un, .un] (.list ((ns.take 30).map .int)) [SV.im (.list (ns.map .int)), SV.im (.int lap), .un, .un, .un, .un, .un, .un] := by
    have z := ev_frz (F := ⟨K, G0, H, [], 8⟩) (el_slL (tl := tNoPart) (th := tPart (tC (L2.V.int 30))) (ev_var (s := [SV.im (.list (ns.map .int)), SV.im (.int lap), .un, .un, .un, .un, .un, .un]) (i := 0) rfl) eo_none (eo_some ev_cI))
    rw [cutD_take, ← List.map_take] at z
    exact z
  have hl := el_map (F := ⟨K, G0, H, [], 8⟩) (v := 7) (te := tCB rIntA (tCons (tVar 7) tNil)) (xs := ns.take 30) (g := .int) (h := .int) (ei_lst hs) (by omega) (by walk_at "lt") (by walk_at "lt") (fun a ha p acc => ev_cb (ea_cons (ev_var rfl) ea_nil) rc_int)
  generalize hz0 : ns.take 30 = zs at *
  refine w_asg (ev_frz hl) (by walk_at "lt") ?_
  dsimp only [List.set]
  refine w_asg (ev_op ev_cI (ev_op ev_cI (ev_var rfl) (rv_mulI (.inl (by decide)))) rv_addI) (by walk_at "lt") ?_
  dsimp only [List.set]
  refine w_seq (fun s' => ∃ q4 q5 q6 q7 : SV, s' = [SV.im (.list (ns.map .int)), SV.im (.int lap), .im (.list (zs.map .int)), .im (.int (heapAt zs (47 + 29 * lap) zs.length)), q4, q5, q6, q7])
    (w_for (vs := [6, 7]) (ei_enum (ea_cons (ev_var rfl) ea_nil)) (fun i s' => ∃ q4 q5 q6 q7 : SV, s' = [SV.im (.list (ns.map .int)), SV.im (.int lap), .im (.list (zs.map .int)), .im (.int (heapAt zs (47 + 29 * lap) i)), q4, q5, q6, q7]) ⟨_, _, _, _, rfl⟩ (fun i d s' hd hI => ?_) (fun s' hI => ?_)) ?_
  · obtain ⟨q4, q5, q6, q7, rfl⟩ := hI
    have hi : i < zs.length := by
      have := (List.getElem?_eq_some_iff.mp hd).1
      unfold enumD at this
      rw [List.length_mapIdx, List.length_map] at this
      exact this
    have e : d = .tuple [.int (i : Nat), .int (zs.getD i 0)] := by
      unfold enumD at hd
      rw [List.getElem?_mapIdx, List.getElem?_map, getD_some (a := 0) hi] at hd
      cases hd
      rfl
    subst e
    refine ⟨_, tg_tup rfl (tgs_cons (tg_name (by walk_at "lt") (by simp)) (tgs_cons (tg_name (by walk_at "lt") (by simp)) tgs_nil)), ?_⟩
    dsimp only [List.set]
    refine w_asg1 (ev_op (ev_cb (ea_cons (ev_op (ev_op (ev_op (ev_op (ev_var rfl) (ev_op (ev_cb (ea_cons (ev_cb (ea_cons (ev_var rfl) ea_nil) rc_abs) ea_nil) rc_int) ev_cI (rv_modI (by decide))) rv_addI)
      (ev_op ev_cI (ev_cb (ea_cons (ev_op (ev_var rfl) ev_cI rv_ltI) ea_nil) rc_intB) (rv_mulI (.inl (by decide)))) rv_addI) ev_cI (rv_mulI (.inr (by decide)))) (ev_var rfl) rv_addI) ea_nil) rc_int) ev_cI (rv_modI (by decide))) (by walk_at "lt") ⟨_, _, _, _, rfl⟩
  · obtain ⟨q4, q5, q6, q7, rfl⟩ := hI
    refine ⟨q4, q5, q6, q7, ?_⟩
    unfold enumD
    rw [List.length_mapIdx, List.length_map]
  · rintro _ ⟨q4, q5, q6, q7, rfl⟩
    generalize hh : heapAt zs (47 + 29 * lap) zs.length = hp
    refine w_seq (fun s' => ∃ q4 q5 q6 q7 : SV, s' = [SV.im (.list (ns.map .int)), SV.im (.int lap), .im (.list (zs.map .int)), .im (.int (siftAt lap hp 4)), q4, q5, q6, q7])
      (w_for (vs := [4]) (ei_rng1 (ea_cons ev_cI ea_nil) (by decide) (by decide)) (fun i s' => ∃ q4 q5 q6 q7 : SV, s' = [SV.im (.list (ns.map .int)), SV.im (.int lap), .im (.list (zs.map .int)), .im (.int (siftAt lap hp i)), q4, q5, q6, q7]) ⟨_, _, _, _, rfl⟩ (fun i d s' hd hI => ?_) (fun s' hI => ?_)) ?_
    · obtain ⟨q4, q5, q6, q7, rfl⟩ := hI
      obtain ⟨hi, e⟩ := rangeD_get hd
      rw [Int.zero_add] at e
      subst e
      refine ⟨_, tg_name (by walk_at "lt") (by simp), ?_⟩
      dsimp only [List.set]
      have hm : -(2 ^ 64) < siftAt lap hp i % 99971 + 8 * lap + 7 ∧ siftAt lap hp i % 99971 + 8 * lap + 7 < 2 ^ 64 := by
        have h3 := Int.emod_nonneg (siftAt lap hp i) (show (99971 : Int) ≠ 0 by decide)
        have h4 := Int.emod_lt_of_pos (siftAt lap hp i) (show (0 : Int) < 99971 by decide)
        omega
      refine w_asg1 (ev_op (ev_cb (ea_cons (ev_op (ev_op (ev_var rfl) (ev_op (ev_op (ev_op (ev_cb (ea_cons (ev_var rfl) ea_nil) rc_int) ev_cI (rv_modI (by decide))) (ev_op ev_cI (ev_var rfl) (rv_mulI (.inl (by decide)))) rv_addI) ev_cI rv_addI) (rv_mulI (.inr hm)))
        (ev_op ev_cI (ev_var rfl) (rv_mulI (.inl (by decide)))) rv_addI) ea_nil) rc_int) ev_cI (rv_modI (by decide))) (by walk_at "lt") ⟨_, _, _, _, rfl⟩
    · obtain ⟨q4, q5, q6, q7, rfl⟩ := hI
      exact ⟨q4, q5, q6, q7, rfl⟩
    · rintro _ ⟨q4, q5, q6, q7, rfl⟩
      refine w_asg (d := .int (ownV zs lap)) (ev_ifX (et_test (ev_op (ev_var rfl) (ev_cb (ea_cons (ev_var rfl) ea_nil) (rc_lenQ (.inr rfl))) rv_ltI)) (fun hb => ev_op (ev_var rfl) (ev_var rfl) (rv_ixInts (.inr rfl) h1 ?_)) (fun _ => ev_cI) ?_) (by walk_at "lt") ?_
      · have := of_decide_eq_true hb
        rw [List.length_map] at this
        exact this
      · rw [List.length_map]
        exact Pk.ite_int
      · dsimp only [List.set]
        refine w_retL (el_lst (ea_cons (ev_ifX (et_or (et_test (ev_op (ev_var rfl) ev_cI rv_ltI)) (fun _ => et_test (ev_op (ev_var rfl) (ev_op ev_cI ev_cI (rv_powI ⟨by decide, by decide, by decide⟩)) rv_gtI)) (fun _ => rfl)) (fun _ => ev_op (ev_cb (ea_cons (ev_cb (ea_cons (ev_var rfl) ea_nil) rc_abs) ea_nil) rc_int) (ev_op ev_cI ev_cI (rv_powI ⟨by decide, by decide, by decide⟩)) (rv_modI (by decide))) (fun _ => ev_cI) Pk.ite_int)
          (ea_cons (ev_op (ev_var rfl) ev_cI rv_addI) (ea_cons ev_cI ea_nil))) (by walk_at "lt")) ?_
        subst hh hz0
        rfl
end
end K61
namespace K61
open PySem PySem.Spec PyProof.Rows L2 Pk
local macro_rules | `(tactic| walk_at "lt") => `(tactic| first | decide | (dsimp only; decide) | (dsimp only [List.length]; decide) | (dsimp only [List.set, List.length]; decide))
local macro_rules | `(tactic| walk_at "ev1") => `(tactic| first
  | with_reducible exact ev_cI | with_reducible exact ev_cS | with_reducible exact ev_cB | with_reducible exact ev_cN | with_reducible exact ea_nil
  | ((with_reducible apply ev_var); exact rfl)
  | ((with_reducible apply ev_cG); assumption)
  | with_reducible apply ea_cons
  | with_reducible apply ev_op
  | with_reducible exact rv_addI | with_reducible exact rv_subI | with_reducible exact rv_ltI | with_reducible exact rv_leI | with_reducible exact rv_gtI | with_reducible exact rv_geI | with_reducible exact rv_eqDI | with_reducible exact rv_neDI
  | with_reducible exact rv_eqDS | with_reducible exact rv_neDS | with_reducible exact rv_inS1 | with_reducible exact rv_notInS1 | with_reducible exact rv_inTup | with_reducible exact rv_inLst
  | with_reducible apply rv_addT | with_reducible apply rv_ixS
  | with_reducible apply et_and | with_reducible apply et_or | with_reducible apply et_not | with_reducible apply et_test | with_reducible apply et_B
  | with_reducible apply ev_andV | with_reducible apply ev_orV | with_reducible apply ev_notV
  | ((with_reducible apply ev_lenQ); (with_reducible apply eq_var); exact rfl)
  | with_reducible apply ev_anyMap | with_reducible apply ev_allMap | with_reducible apply ei_strM
  | with_reducible apply ev_isi
  | (show kitB _ _ = some _; exact rfl)
  | with_reducible apply ev_cb
  | with_reducible apply rc_lenS | with_reducible exact rc_int | with_reducible exact rc_intB | with_reducible exact rc_abs | with_reducible exact rc_max2 | with_reducible exact rc_max3 | with_reducible exact rc_min2
  | with_reducible apply ev_slS | with_reducible exact eo_none | with_reducible apply eo_some
  | with_reducible apply ev_ifX | exact Pk.ite_int | exact Pk.ite_str | exact Pk.ite_bool
  | walk_at "call" | with_reducible apply ev_tup | with_reducible apply ev_lst
  | ((with_reducible show _ < Fr.n _); walk_at "lt") | ((with_reducible show Fr.n _ ≤ List.length _); walk_at "lt")
  | ((with_reducible intro _); first | exact rfl | skip) | fail)
local macro_rules | `(tactic| walk_at "call") => `(tactic| fail)
local macro_rules | `(tactic| walk_at "sd") => `(tactic| first | assumption | omega | (rw [sizeLine_eq]; omega) | (rw [str_len]; omega) | (dsimp only [List.length]; decide) | (simp only [decide_eq_true_eq, decide_eq_false_iff_not] at *; first | omega | (rw [sizeLine_eq]; omega)))
local macro_rules | `(tactic| walk_at "ev") => `(tactic| focus (repeat' (walk_at "ev1")))
local macro_rules | `(tactic| walk_at "w1") => `(tactic| first
  | with_reducible apply w_asg | with_reducible apply w_par | with_reducible apply w_ret | with_reducible apply w_asg1 | with_reducible apply w_retS | with_reducible apply w_skip | with_reducible apply w_ifS | with_reducible apply w_assoc
  | ((with_reducible show _ < Fr.n _); walk_at "lt") | ((with_reducible show Fr.n _ ≤ List.length _); walk_at "lt") | fail)
local macro_rules | `(tactic| walk_at "wk") => `(tactic| focus (repeat' (first | walk_at "w1" | walk_at "ev1")))
local macro_rules | `(tactic| walk_at "st") => `(tactic| dsimp only [cxOf, L2.Cx.nox, s0, List.map, List.length, List.replicate, List.cons_append, List.nil_append, Nat.reduceAdd, Nat.reduceSub, Nat.reduceMul, Nat.succ_eq_add_one, List.replicate_succ, List.replicate_zero, List.append_eq, List.append])
local macro_rules | `(tactic| walk_at "call") => `(tactic| first | with_reducible exact c_lang | exact rv_inC (len_one (of_decide_eq_true (by assumption))) | with_reducible exact rv_inT)
section
variable {P : Program} {w : World} {K : PySem.W.Frag} {mg : Str → Option Value} {base : Heap} {V : Ad}
def fineB (x : Str) : Bool := !decide (x = "") && (decide ((x.length : Int) ≤ 3) && !(x.cps.toList.any fun c => !decide (c ∈ ("0123456789" : Str).cps.toList)))
def lawKind (x : Str) : Str :=
  if decide (x ∈ langW) || (decide ((x.length : Int) = 1) && decide (signAt x 0 ∈ ("():|+-*=," : Str).cps.toList)) then x
  else if !decide (x = "") && !(x.cps.toList.any fun c => !decide (c ∈ ("abcdefghijklmnopqrstuvwxyz" : Str).cps.toList)) then
    if hasS "abcdefgh" x && decide ((x.length : Int) = 1) then "letter"
    else if decide ((x.length : Int) = 2) && (decide (signAt x 0 ∈ ("ou" : Str).cps.toList) && decide (signAt x 1 ∈ ("abcdefgh" : Str).cps.toList)) then "end"
    else if decide ((x.length : Int) ≤ 8) then "name" else "of none"
  else if fineB x && (decide (x = "0") || !decide ((⟨#[signAt x 0]⟩ : Str) = "0")) then "numeral" else "of none"
abbrev sLKind (K : PySem.W.Frag) : Sp := spP K (fun x : Str => [.str x]) goodS fun x => .str (lawKind x)
theorem ok_lkind (T : Tx P K mg V) : FnG P w K mg base 2 V.A__law_kind V.D__law_kind ["word"] (sLKind K) := by
  have ok__law_language := @ok_lang
  have G__law_language := ok__law_language (w := w) (base := base) T
  refine okP T.F__law_kind sc__law_kind (fun a => rfl) (fun cdv Ar outer s H E hr hG => ⟨_, PSs.nox ((pss_cons (ps_if (PW.pt (pw_or (pt_cmpR op_inA (pv 0) (pe_g0 (E := E0) G__law_language (hr.mono (by decide)) hG (by rfl) T.g__law_language T.F__law_language.kp T.b__law_language .nil passL) (by rfl)) (pw_or1 (PW.pt (pw_and (pt_cmpR (op_eqA hr.units) (pe_callB call_lenA (by rfl) T.n_len (by decide +kernel) (pa_cons (pv 0) pa_nil)) pe_int (nomark _)) (pw_and1 (pt_cmpR op_inA (pv 0) pe_str (by rfl)))))))) (pss_one (ps_ret (pv 0))) pss_nil)
      (pss_cons (ps_if (PW.pt (pw_and (pt_cmpR (op_neA hr.units) (pv 0) pe_str (nomark _)) (pw_and1 (pt_not (pt_val (pe_callB (cr_any rfl) (by rfl) T.n_any (by decide +kernel) (pa_cons (pe_lc (own := [("sign", 2)]) rfl sc__law_kind.nd (pi_str (pv 0)) (blkOk_by (N := ["word", "fine", "sign"]) (sc := defScope s__law_kind) (by decide +kernel)) (fun _ _ _ _ _ => pg_name (i := 2) sc__law_kind.nd rfl (.inl rfl) (.inr rfl)) (fun _ _ _ _ _ => pts_nil) (fun _ _ _ _ _ => (pe_cmpR (op_notInA : OpR _ _ (rNotInA K)) (pv 2) pe_str (by rfl)))) pa_nil))))))) (pss_cons (ps_if (PW.pt (pw_and (pt_cmpR op_inA (pv 0) pe_str (by rfl)) (pw_and1 (pt_cmpR (op_eqA hr.units) (pe_callB call_lenA (by rfl) T.n_len (by decide +kernel) (pa_cons (pv 0) pa_nil)) pe_int (nomark _))))) (pss_one (ps_ret pe_str)) pss_nil)
      (pss_cons (ps_if (PW.pt (pw_and (pt_cmpR (op_eqA hr.units) (pe_callB call_lenA (by rfl) T.n_len (by decide +kernel) (pa_cons (pv 0) pa_nil)) pe_int (nomark _)) (pw_and (pt_cmpR op_inA (pe_ix ix_seq (pv 0) pe_int (fun _ _ => rfl)) pe_str (by rfl)) (pw_and1 (pt_cmpR op_inA (pe_ix ix_seq (pv 0) pe_int (fun _ _ => rfl)) pe_str (by rfl)))))) (pss_one (ps_ret pe_str)) pss_nil)
      (pss_one (ps_ret (pe_ifExp (pt_cmpR op_le (pe_callB call_lenA (by rfl) T.n_len (by decide +kernel) (pa_cons (pv 0) pa_nil)) pe_int (nomark _)) pe_str pe_str))))) pss_nil)
      (pss_cons (ps_set (i := 1) sc__law_kind.nd rfl (.inl rfl) (pe_and (pe_cmpR (op_neA hr.units) (pv 0) pe_str (nomark _)) (pe_and (pe_cmpR op_le (pe_callB call_lenA (by rfl) T.n_len (by decide +kernel) (pa_cons (pv 0) pa_nil)) pe_int (nomark _)) (pe_one (pe_not (pe_callB (cr_any rfl) (by rfl) T.n_any (by decide +kernel) (pa_cons (pe_lc (own := [("sign", 2)]) rfl sc__law_kind.nd (pi_str (pv 0)) (blkOk_by (N := ["word", "fine", "sign"]) (sc := defScope s__law_kind) (by decide +kernel)) (fun _ _ _ _ _ => pg_name (i := 2) sc__law_kind.nd rfl (.inl rfl) (.inr rfl)) (fun _ _ _ _ _ => pts_nil) (fun _ _ _ _ _ => (pe_cmpR (op_notInA : OpR _ _ (rNotInA K)) (pv 2) pe_str (by rfl)))) pa_nil)))))))
      (pss_one (ps_ret (pe_ifExp (PW.pt (pw_and (pt_val (pv 1)) (pw_and1 (PW.pt (pw_or (pt_cmpR (op_eqA hr.units) (pv 0) pe_str (nomark _)) (pw_or1 (pt_cmpR (op_neA hr.units) (pe_ix ix_seq (pv 0) pe_int (fun _ _ => rfl)) pe_str (nomark _)))))))) pe_str pe_str))))))), ?_⟩)
  rintro x G0 ⟨h1, h2⟩
  walk_at "st"
  walk_at "wk"
  all_goals try walk_at "sd"
  all_goals try (show Rt.d (.str _) = Rt.d (.str _); unfold lawKind fineB; simp only [*]; rfl)
  rename_i q _
  have := len_pos (x := x) (by simpa using (Bool.and_eq_true_iff.mp q).1)
  omega
section
variable {F : Fr} {s s1 : Sts} {ta : TA} {E : XK}
theorem c_lkind {x : Str} (h : EvA F ta s [.str x] s1) (h1 : goodS x) : Ev F (tCall (sLKind F.K) [] E ta) s (.str (lawKind x)) s1 := ev_call x h rfl h1
end
local macro_rules | `(tactic| walk_at "call") => `(tactic| with_reducible apply c_lkind)
def toldK (x : Str) : Str := if decide (lawKind x = "of none") then "none" else lawKind x
abbrev sTold (K : PySem.W.Frag) : Sp := spP K (fun x : Str => [.str x]) goodS fun x => .str (toldK x)
theorem ok_told (T : Tx P K mg V) : FnG P w K mg base 3 V.A__law_told_kind V.D__law_told_kind ["word"] (sTold K) := by
  have ok__law_kind := @ok_lkind
  have G__law_kind := ok__law_kind (w := w) (base := base) T
  refine okP T.F__law_told_kind sc__law_told_kind (fun a => rfl) (fun cdv Ar outer s H E hr hG => ⟨_, PSs.nox ((pss_one (ps_ret (pe_ifExp (pt_cmpR (op_eqA hr.units) (pe_g (E := E0) G__law_kind (hr.mono (by decide)) hG (by rfl) T.g__law_kind T.F__law_kind.kp T.b__law_kind .nil passL (pa_cons (pv 0) pa_nil)) pe_str (nomark _)) pe_str (pe_g (E := E0) G__law_kind (hr.mono (by decide)) hG (by rfl) T.g__law_kind T.F__law_kind.kp T.b__law_kind .nil passL (pa_cons (pv 0) pa_nil)))))), ?_⟩)
  rintro x G0 hg
  walk_at "st"
  walk_at "wk"
  all_goals try walk_at "sd"
  rfl
section
variable {F : Fr} {s s1 : Sts} {ta : TA} {E : XK}
theorem c_told {x : Str} (h : EvA F ta s [.str x] s1) (h1 : goodS x) : Ev F (tCall (sTold F.K) [] E ta) s (.str (toldK x)) s1 := ev_call x h rfl h1
end
/-! the law's cut -/
def sortS (c : Nat) : Str := if decide (c ∈ ("abcdefghijklmnopqrstuvwxyz" : Str).cps.toList) then "a" else if decide (c ∈ ("0123456789" : Str).cps.toList) then "0" else ""
abbrev Cst := List (List Nat) × Str
def stepC (st : Cst) (c : Nat) : Cst :=
  (if !decide (sortS c = "") && decide (sortS c = st.2) then st.1.set (st.1.length - 1) (st.1.getD (st.1.length - 1) [] ++ [c]) else if !decide ((⟨#[c]⟩ : Str) = " ") then st.1 ++ [[c]] else st.1, sortS c)
def cutAt (l : List Nat) (i : Nat) : Cst := (l.take i).foldl stepC ([], "")
theorem cutAt_succ (l : List Nat) (i : Nat) (c : Nat) (h : l[i]? = some c) : cutAt l (i + 1) = stepC (cutAt l i) c := by
  unfold cutAt
  rw [List.take_succ, h]
  simp
structure CutOk (st : Cst) (i : Nat) : Prop where
  ln : st.1.length ≤ i
  ws : ∀ w ∈ st.1, w.length ≤ i
  ne : ¬ st.2 = "" → 0 < st.1.length
theorem cutOk (l : List Nat) : ∀ i, i ≤ l.length → CutOk (cutAt l i) i
  | 0, _ => ⟨Nat.zero_le _, fun w hw => absurd hw List.not_mem_nil, fun h => absurd rfl h⟩
  | i + 1, hi => by
    have o := cutOk l i (by omega)
    rw [cutAt_succ l i _ (getD_some (a := 0) hi)]
    generalize l.getD i 0 = c
    generalize cutAt l i = st at o
    unfold stepC
    by_cases hb : (!decide (sortS c = "") && decide (sortS c = st.2)) = true
    · rw [if_pos hb]
      have b := Bool.and_eq_true_iff.mp hb
      have e : sortS c = st.2 := of_decide_eq_true b.2
      have n : ¬ st.2 = "" := by
        rw [← e]
        simpa using b.1
      have p := o.ne n
      refine ⟨by rw [List.length_set]; have := o.ln; omega, fun w hw => ?_, fun _ => by rw [List.length_set]; exact p⟩
      rcases List.mem_or_eq_of_mem_set hw with h | h
      · have := o.ws w h
        omega
      · subst h
        have := o.ws (st.1.getD (st.1.length - 1) []) (by
          rw [List.getD_eq_getElem?_getD, List.getElem?_eq_getElem (by omega)]
          exact List.getElem_mem _)
        rw [List.length_append]
        show _ + 1 ≤ _
        omega
    · rw [if_neg hb]
      by_cases h32 : (!decide ((⟨#[c]⟩ : Str) = " ")) = true
      · rw [if_pos h32]
        refine ⟨by rw [List.length_append]; have := o.ln; show _ + 1 ≤ _; omega, fun w hw => ?_, fun _ => by rw [List.length_append]; show 0 < _ + 1; omega⟩
        rcases List.mem_append.mp hw with h | h
        · have := o.ws w h
          omega
        · rw [List.mem_singleton.mp h]
          show 1 ≤ _
          omega
      · rw [if_neg h32]
        refine ⟨by have := o.ln; show st.1.length ≤ _; omega, fun w hw => by have := o.ws w hw; omega, fun hn => ?_⟩
        exfalso
        have e : (⟨#[c]⟩ : Str) = ⟨#[32]⟩ := by
          have z : (⟨#[c]⟩ : Str) = " " := by simpa using h32
          exact z
        injection e with e
        injection e with e
        injection e with e
        subst e
        exact hn (show sortS 32 = "" by decide +kernel)
def cutW (x : Str) : List Str := (cutAt x.cps.toList x.cps.toList.length).1.map mkS
abbrev sCut (K : PySem.W.Frag) : Sp := spP K (fun x : Str => [.str x]) goodS fun x => .list ((cutW x).map .str)
def cutD' (ws : List (List Nat)) : List PyData := (ws.map mkS).map .str
theorem cutD'_get (ws : List (List Nat)) (h : 0 < ws.length) : atI (cutD' ws) (-1) = some (.str (mkS (ws.getD (ws.length - 1) []))) := by
  unfold atI ixN cutD'
  rw [if_neg (by decide), List.length_map, List.length_map, if_pos (by omega)]
  show ((ws.map mkS).map PyData.str)[(-1 + (ws.length : Int)).toNat]? = _
  rw [show (-1 + (ws.length : Int)).toNat = ws.length - 1 by omega, List.getElem?_map, List.getElem?_map, getD_some (a := []) (show ws.length - 1 < ws.length by omega)]
  rfl
theorem cutD'_set (ws : List (List Nat)) (i : Nat) (w : List Nat) : (cutD' ws).set i (.str (mkS w)) = cutD' (ws.set i w) := by
  unfold cutD'
  rw [List.map_set, List.map_set]
theorem cutD'_len (ws : List (List Nat)) : (cutD' ws).length = ws.length := by
  unfold cutD'
  rw [List.length_map, List.length_map]
theorem ok_cut (T : Tx P K mg V) : FnG P w K mg base 1 V.A__law_cut V.D__law_cut ["line"] (sCut K) := by
  refine okP T.F__law_cut sc__law_cut (fun a => rfl) (fun cdv Ar outer s H E hr hG => ⟨_, PSs.nox ((pss_cons (ps_par (i := 2) (j := 3) rfl sc__law_cut.nd rfl rfl (by decide) rfl rfl (pa_cons (pe_lst pa_nil) (pa_cons pe_str pa_nil)) (by rfl))
      (pss_cons (ps_for PassesOwn.never rfl (pi_str (pv 0)) (pg_name (i := 1) sc__law_cut.nd rfl (.inl rfl)) (pss_cons (ps_set (i := 4) sc__law_cut.nd rfl (.inl rfl) (pe_ifExp (pt_cmpR op_inA (pv 1) pe_str (by rfl)) pe_str (pe_ifExp (pt_cmpR op_inA (pv 1) pe_str (by rfl)) pe_str pe_str)))
      (pss_cons (ps_if (PW.pt (pw_and (pt_cmpR (op_neA hr.units) (pv 4) pe_str (nomark _)) (pw_and1 (pt_cmpR (op_eqA hr.units) (pv 4) (pv 3) (nomark _))))) (pss_one (ps_asg (pe_op op_addA (pe_ix ix_seq (pv 2) (pe_un un_neg pe_int) (fun _ _ => rfl)) (pv 1)) (pg_sub (pv 2) (pe_un un_neg pe_int) set_list))) (pss_one (ps_if (pt_cmpR (op_neA hr.units) (pv 1) pe_str (nomark _)) (pss_one (ps_expr (pe_bm PySem.F.plainAttrs_list PySem.F.slot_list_append PySem.F.type_list_append mt_append (pv 2) (pa_cons (pv 1) pa_nil)))) pss_nil)))
      (pss_one (ps_set (i := 3) sc__law_cut.nd rfl (.inl rfl) (pv 4))))))
      (pss_one (ps_ret (pv 2)))))), ?_⟩)
  rintro x G0 ⟨h1, h2⟩
  walk_at "st"
  have hx := str_len x
  refine w_parL (el_lst ea_nil (by walk_at "lt")) (fun p => ev_cS) (by walk_at "lt") (by walk_at "lt") (by decide) (by walk_at "lt") fun p hp => ?_
  dsimp only [List.set]
  refine w_seq (fun s' => ∃ q1 q4 : SV, s' = [SV.im (.str x), q1, .ls p (cutD' (cutAt x.cps.toList x.cps.toList.length).1), .im (.str (cutAt x.cps.toList x.cps.toList.length).2), q4])
    (w_for (vs := [1]) (ei_strM (ev_var rfl)) (fun i s' => ∃ q1 q4 : SV, s' = [SV.im (.str x), q1, .ls p (cutD' (cutAt x.cps.toList i).1), .im (.str (cutAt x.cps.toList i).2), q4]) ⟨_, _, rfl⟩ (fun i d s' hd hI => ?_) (fun s' hI => ?_)) ?_
  · obtain ⟨q1, q4, rfl⟩ := hI
    rw [List.getElem?_map] at hd
    cases hc : x.cps.toList[i]? with
    | none =>
      rw [hc] at hd
      cases hd
    | some c =>
      rw [hc] at hd
      cases hd
      have hi : i < x.cps.toList.length := (List.getElem?_eq_some_iff.mp hc).1
      have o := cutOk x.cps.toList i (by omega)
      have hs := cutAt_succ _ _ _ hc
      generalize cutAt x.cps.toList i = st at *
      rw [hs]
      have l1 := o.ln
      refine ⟨_, tg_name (by walk_at "lt") (by simp), ?_⟩
      dsimp only [List.set]
      refine w_asg (d := .str (sortS c)) (ev_ifX (et_test (ev_op (ev_var rfl) ev_cS rv_inS1)) (fun _ => ev_cS) (fun _ => ev_ifX (et_test (ev_op (ev_var rfl) ev_cS rv_inS1)) (fun _ => ev_cS) (fun _ => ev_cS) Pk.ite_str) Pk.ite_str) (by walk_at "lt") ?_
      dsimp only [List.set]
      refine w_ifS (et_and (et_test (ev_op (ev_var rfl) ev_cS rv_neDS)) (fun _ => et_test (ev_op (ev_var rfl) (ev_var rfl) rv_eqDS)) (fun _ => rfl)) (fun hb => ?_) (fun hb => ?_)
      · have b := Bool.and_eq_true_iff.mp hb
        have e : sortS c = st.2 := of_decide_eq_true b.2
        have n : ¬ st.2 = "" := by
          rw [← e]
          simpa using b.1
        have p1 := o.ne n
        have l2 := o.ws (st.1.getD (st.1.length - 1) []) (by
          rw [List.getD_eq_getElem?_getD, List.getElem?_eq_getElem (by omega)]
          exact List.getElem_mem _)
        have hz : (mkS (st.1.getD (st.1.length - 1) [])).length + (⟨#[c]⟩ : Str).length ≤ sizeLine := by
          rw [mkS_len, sizeLine_eq]
          show _ + 1 ≤ _
          omega
        have hm : ixN (cutD' st.1).length (-1) = some (st.1.length - 1) := by
          unfold ixN
          rw [if_neg (by decide), cutD'_len, if_pos (by omega)]
          congr 1
          omega
        refine w_setL (ev_op (ev_ixO rfl (ev_un ev_cI ru_neg) rfl (cutD'_get st.1 p1)) (ev_var rfl) (rv_addT hz)) rfl (ev_un ev_cI ru_neg) rfl hm ?_
        rw [sign_mk, mkS_app, cutD'_set]
        refine w_asg1 (ev_var rfl) (by walk_at "lt") ⟨.im (.str (mkS [c])), .im (.str (sortS c)), ?_⟩
        unfold stepC
        rw [if_pos hb]
        rfl
      · have step1 : ∀ b : Bool, (!decide ((⟨#[c]⟩ : Str) = " ")) = b → stepC st c = (if b then st.1 ++ [[c]] else st.1, sortS c) := fun b e => by
          unfold stepC
          rw [if_neg (by rw [hb]; exact Bool.false_ne_true), e]
        refine w_ifS (et_test (ev_op (ev_var rfl) ev_cS rv_neDS)) (fun h32 => ?_) (fun h32 => w_skip ?_)
        · refine w_app rfl (ev_var rfl) rfl (by rw [cutD'_len, sizeLine_eq]; omega) ?_
          dsimp only [List.set]
          refine w_asg1 (ev_var rfl) (by walk_at "lt") ⟨.im (.str ⟨#[c]⟩), .im (.str (sortS c)), ?_⟩
          rw [step1 true h32]
          dsimp only [List.set]
          unfold cutD'
          rw [if_pos rfl, List.map_append, List.map_append]
          rfl
        · refine w_asg1 (ev_var rfl) (by walk_at "lt") ⟨.im (.str ⟨#[c]⟩), .im (.str (sortS c)), ?_⟩
          rw [step1 false h32]
          rfl
  · obtain ⟨q1, q4, rfl⟩ := hI
    rw [List.length_map]
    exact ⟨q1, q4, rfl⟩
  · rintro _ ⟨q1, q4, rfl⟩
    exact w_freeze (i := 2) rfl hp (w_ret (ev_var rfl) rfl)
section
variable {F : Fr} {s s1 : Sts} {ta : TA} {E : XK}
theorem c_cut {x : Str} (h : EvA F ta s [.str x] s1) (h1 : goodS x) : Ev F (tCall (sCut F.K) [] E ta) s (.list ((cutW x).map .str)) s1 := ev_call x h rfl h1
end
end
end K61
namespace K61
open PySem PySem.Spec PyProof.Rows L2 Pk
local macro_rules | `(tactic| walk_at "lt") => `(tactic| first | decide | (dsimp only; decide) | (dsimp only [List.length]; decide) | (dsimp only [List.set, List.length]; decide))
local macro_rules | `(tactic| walk_at "ev1") => `(tactic| first
  | with_reducible exact ev_cI | with_reducible exact ev_cS | with_reducible exact ev_cB | with_reducible exact ev_cN | with_reducible exact ea_nil
  | ((with_reducible apply ev_var); exact rfl)
  | ((with_reducible apply ev_cG); assumption)
  | with_reducible apply ea_cons
  | with_reducible apply ev_op
  | with_reducible exact rv_addI | with_reducible exact rv_subI | with_reducible exact rv_ltI | with_reducible exact rv_leI | with_reducible exact rv_gtI | with_reducible exact rv_geI | with_reducible exact rv_eqDI | with_reducible exact rv_neDI
  | with_reducible exact rv_eqDS | with_reducible exact rv_neDS | with_reducible exact rv_inS1 | with_reducible exact rv_notInS1 | with_reducible exact rv_inTup | with_reducible exact rv_inLst
  | with_reducible apply rv_addT | with_reducible apply rv_ixS
  | with_reducible apply et_and | with_reducible apply et_or | with_reducible apply et_not | with_reducible apply et_test | with_reducible apply et_B
  | with_reducible apply ev_andV | with_reducible apply ev_orV | with_reducible apply ev_notV
  | ((with_reducible apply ev_lenQ); (with_reducible apply eq_var); exact rfl)
  | with_reducible apply ev_anyMap | with_reducible apply ev_allMap | with_reducible apply ei_strM
  | with_reducible apply ev_isi
  | (show kitB _ _ = some _; exact rfl)
  | with_reducible apply ev_cb
  | with_reducible apply rc_lenS | with_reducible exact rc_int | with_reducible exact rc_intB | with_reducible exact rc_abs | with_reducible exact rc_max2 | with_reducible exact rc_max3 | with_reducible exact rc_min2
  | with_reducible apply ev_slS | with_reducible exact eo_none | with_reducible apply eo_some
  | with_reducible apply ev_ifX | exact Pk.ite_int | exact Pk.ite_str | exact Pk.ite_bool
  | walk_at "call" | with_reducible apply ev_tup | with_reducible apply ev_lst
  | ((with_reducible show _ < Fr.n _); walk_at "lt") | ((with_reducible show Fr.n _ ≤ List.length _); walk_at "lt")
  | ((with_reducible intro _); first | exact rfl | skip) | fail)
local macro_rules | `(tactic| walk_at "call") => `(tactic| fail)
local macro_rules | `(tactic| walk_at "sd") => `(tactic| first | assumption | omega | (rw [sizeLine_eq]; omega) | (rw [str_len]; omega) | (dsimp only [List.length]; decide) | (simp only [decide_eq_true_eq, decide_eq_false_iff_not] at *; first | omega | (rw [sizeLine_eq]; omega)))
local macro_rules | `(tactic| walk_at "ev") => `(tactic| focus (repeat' (walk_at "ev1")))
local macro_rules | `(tactic| walk_at "w1") => `(tactic| first
  | with_reducible apply w_asg | with_reducible apply w_par | with_reducible apply w_ret | with_reducible apply w_asg1 | with_reducible apply w_retS | with_reducible apply w_skip | with_reducible apply w_ifS | with_reducible apply w_assoc
  | ((with_reducible show _ < Fr.n _); walk_at "lt") | ((with_reducible show Fr.n _ ≤ List.length _); walk_at "lt") | fail)
local macro_rules | `(tactic| walk_at "wk") => `(tactic| focus (repeat' (first | walk_at "w1" | walk_at "ev1")))
local macro_rules | `(tactic| walk_at "st") => `(tactic| dsimp only [cxOf, L2.Cx.nox, s0, List.map, List.length, List.replicate, List.cons_append, List.nil_append, Nat.reduceAdd, Nat.reduceSub, Nat.reduceMul, Nat.succ_eq_add_one, List.replicate_succ, List.replicate_zero, List.append_eq, List.append])
section
variable {P : Program} {w : World} {K : PySem.W.Frag} {mg : Str → Option Value} {base : Heap} {V : Ad}
abbrev sSame (K : PySem.W.Frag) : Sp := spP K (fun d : PyData => [d, d]) (fun d => reprOk d = true) fun _ => .bool true
theorem reprOk_shaped {d : PyData} (h : reprOk d = true) : SeqAt.shaped d = true := by
  unfold reprOk at h
  exact (Bool.and_eq_true_iff.mp (Bool.and_eq_true_iff.mp h).1).1
theorem eqv_ok {d : PyData} (h : reprOk d = true) : PyData.eqv d d = true := PySem.SeqAt.eqv_refl d (SeqAt.canLay_of_shaped (reprOk_shaped h))
theorem ok_same (T : Tx P K mg V) : FnG P w K mg base 1 V.A__law_same V.D__law_same ["one", "two"] (sSame K) := by
  refine okP T.F__law_same sc__law_same (fun a => rfl) (fun cdv Ar outer s H E hr hG => ⟨_, PSs.nox ((pss_one (ps_ret (pe_and (pe_cmpR (op_eqA hr.units) (pe_callB (call_repr hr hG) (by rfl) T.n_repr (by decide +kernel) (pa_cons (pv 0) pa_nil)) (pe_callB (call_repr hr hG) (by rfl) T.n_repr (by decide +kernel) (pa_cons (pv 1) pa_nil)) (nomark _)) (pe_one (pe_cmpR (op_eqA hr.units) (pv 0) (pv 1) (nomark _))))))), ?_⟩)
  rintro d G0 hd
  walk_at "st"
  refine w_ret (ev_andV (ev_op (ev_cb (ea_cons (ev_var rfl) ea_nil) (rc_repr hd)) (ev_cb (ea_cons (ev_var rfl) ea_nil) (rc_repr hd)) rv_eqDS) (fun _ => ev_op (ev_var rfl) (ev_var rfl) (rv_eqDD (reprOk_shaped hd) (reprOk_shaped hd))) (fun _ => rfl)) ?_
  rw [eqv_ok hd]
  simp
section
variable {F : Fr} {s s1 : Sts} {ta : TA} {E : XK}
theorem c_same {d : PyData} (h : EvA F ta s [d, d] s1) (h1 : reprOk d = true) : Ev F (tCall (sSame F.K) [] E ta) s (.bool true) s1 := ev_call d h rfl h1
end
def heardD (way : Int) (d : PyData) : PyData :=
  if way = 0 then (match d with
    | .str x => if decide (10 ∈ x.cps.toList) then .tuple [.str "refused", d] else .list [.tuple ((wordsS x).map .str)]
    | _ => .tuple [.str "refused", d])
  else match d with
    | .str x => .list [.str (kindS x)]
    | _ => .tuple [.str "refused", d]
abbrev sHeard (K : PySem.W.Frag) : Sp := spP K (fun a : Int × PyData × Bool => [.int a.1, a.2.1, .bool a.2.2]) (fun a => goodD a.2.1 ∧ (a.1 = 0 ∨ a.1 = 1)) fun a => heardD a.1 a.2.1
theorem ok_heard (T : Tx P K mg V) : FnG P w K mg base 5 V.A__law_heard V.D__law_heard ["way", "value", "is_named"] (sHeard K) := by
  have G_word_kind := ok_word_kind (w := w) (base := base) T
  have G_words := ok_words (w := w) (base := base) T
  refine okP T.F__law_heard sc__law_heard (fun a => rfl) (fun cdv Ar outer s H E hr hG => ⟨_, (pss_one (ps_tryA (i := 3) (c := .ref V.C_ArrowError) rfl rfl sc__law_heard.nd rfl rfl ⟨by rfl, by decide, .inl T.g_ArrowError⟩ (takes_of rfl rfl rfl rfl) (fun W pn xe tk po => (pss_cons (ps_if (pt_cmpR ((op_eqA hr.units) : OpR _ _ (rEqA K)) (pv 0) pe_int (nomark _)) (pss_one (ps_ret (pe_lst (pa_cons (pe_ifExp (pt_val (pv 2)) (pe_gKS0 (E := WE W) G_words (hr.mono (by decide)) hG (by rfl) T.g_words T.F_words.kp T.kb_words_line (fun σ => passAt tk σ) (pk_cons (pv 1) pk_nil)) (pe_gS (E := WE W) G_words (hr.mono (by decide)) hG (by rfl) T.g_words T.F_words.kp T.b_words (fun σ => passAt tk σ) (pa_cons (pv 1) pa_nil))) pa_nil)))) pss_nil)
      (pss_one (ps_ret (pe_lst (pa_cons (pe_ifExp (pt_val (pv 2)) (pe_gKS0 (E := WE W) G_word_kind (hr.mono (by decide)) hG (by rfl) T.g_word_kind T.F_word_kind.kp T.kb_word_kind_word (fun σ => passAt tk σ) (pk_cons (pv 1) pk_nil)) (pe_gS (E := WE W) G_word_kind (hr.mono (by decide)) hG (by rfl) T.g_word_kind T.F_word_kind.kp T.b_word_kind (fun σ => passAt tk σ) (pa_cons (pv 1) pa_nil))) pa_nil)))))) (fun a oe cls d pn hz hf => (pss_cons (ps_set (i := 4) sc__law_heard.nd rfl (.inl rfl) (pe_ifExp (pt_cmpR ((op_eqA hr.units) : OpR _ _ (rEqA K)) (pv 0) pe_int (nomark _)) (pe_callB (call_isX hz hf : CallR _ _ (rIsX K a cls d)) (by rfl) T.n_isinstance (by decide +kernel) (pa_cons (pv 3) (pa_cons (pe_glob (v := .ref V.C_InvalidLine) (by rfl) T.g_InvalidLine rfl) pa_nil))) (pe_callB (call_isX hz hf : CallR _ _ (rIsX K a cls d)) (by rfl) T.n_isinstance (by decide +kernel) (pa_cons (pv 3) (pa_cons (pe_glob (v := .ref V.C_InvalidText) (by rfl) T.g_InvalidText rfl) pa_nil)))))
      (pss_one (ps_ret (pe_ifExp (pt_val (pv 4)) (pe_tup (pa_cons pe_str (pa_cons (show PE _ _ (tXg K a cls d _ _) from pe_xg hz hf (pv 3)) pa_nil))) (pe_tup (pa_cons pe_str pa_nil))))))))), ?_⟩)
  rintro ⟨way, d, nm⟩ G0 ⟨hd, hw⟩
  walk_at "st"
  dsimp only at hd hw
  have hk : ∀ {s : Sts}, True := fun {s} => trivial
  refine w_try (fun C fs s' => s' = [SV.im (PyData.int way), SV.im d, SV.im (PyData.bool nm), SV.un, SV.un] ∧ fs = [(("given" : Str), d)] ∧ heardD way d = .tuple [.str "refused", d] ∧ C = if way = 0 then V.C_InvalidLine else V.C_InvalidText) (by walk_at "lt") (fun Wx => ?_) ?_
  · refine w_ifS (b := decide (way = 0)) (et_test (ev_op (ev_var rfl) ev_cI rv_eqDI)) (fun hb => ?_) (fun hb => w_skip ?_)
    · have e0 := of_decide_eq_true hb
      subst e0
      refine w_retWS (r := (wordsX V d).map fun d => .list [d]) (s1 := [SV.im (PyData.int 0), SV.im d, SV.im (PyData.bool nm), SV.un, SV.un]) (se := [SV.im (PyData.int 0), SV.im d, SV.im (PyData.bool nm), SV.un, SV.un]) (ew_lst1 (ew_if (et_B (ev_var rfl)) (fun _ => ew_callKS d (ea_cons (ev_var rfl) ea_nil) rfl hd) (fun _ => ew_callS d (ea_cons (ev_var rfl) ea_nil) rfl hd))) (fun r hr => ?_) (fun C fs hr => ?_)
      · show Rt.d r = Rt.d (heardD 0 d)
        unfold heardD
        rw [if_pos rfl]
        cases d with
        | str x =>
          dsimp only [wordsX] at hr ⊢
          by_cases hx : decide (10 ∈ x.cps.toList) = true
          · rw [if_pos hx] at hr
            cases hr
          · rw [if_neg hx] at hr ⊢
            cases hr
            rfl
        | _ => cases hr
      · have key : ∀ {y : PyData}, wordsX V d = .error (V.C_InvalidLine, [(("given" : Str), d)]) → heardD 0 d = .tuple [.str "refused", d] → (Except.map (fun d => PyData.list [d]) (wordsX V d)) = .error (C, fs) → fs = [(("given" : Str), d)] ∧ heardD 0 d = .tuple [.str "refused", d] ∧ C = if (0 : Int) = 0 then V.C_InvalidLine else V.C_InvalidText := fun {y} h1 h2 h3 => by
          rw [h1] at h3
          cases h3
          exact ⟨rfl, h2, rfl⟩
        refine ⟨rfl, ?_⟩
        cases d with
        | str x =>
          by_cases hx : decide (10 ∈ x.cps.toList) = true
          · exact key (y := .none) (if_pos hx) (if_pos hx) hr
          · dsimp only [wordsX] at hr
            rw [if_neg hx] at hr
            cases hr
        | _ => exact key (y := .none) rfl rfl hr
    · have e1 : way = 1 := hw.resolve_left (of_decide_eq_false hb)
      subst e1
      refine w_retW (r := (kindX V d).map fun d => .list [d]) (s1 := [SV.im (PyData.int 1), SV.im d, SV.im (PyData.bool nm), SV.un, SV.un]) (se := [SV.im (PyData.int 1), SV.im d, SV.im (PyData.bool nm), SV.un, SV.un]) (ew_lst1 (ew_if (et_B (ev_var rfl)) (fun _ => ew_callKS d (ea_cons (ev_var rfl) ea_nil) rfl hd) (fun _ => ew_callS d (ea_cons (ev_var rfl) ea_nil) rfl hd))) (fun r hr => ?_) (fun C fs hr => ?_)
      · show Rt.d r = Rt.d (heardD 1 d)
        cases d with
        | str x =>
          cases hr
          rfl
        | _ => cases hr
      · refine ⟨rfl, ?_⟩
        cases d with
        | str x => cases hr
        | _ =>
          cases hr
          exact ⟨rfl, rfl, rfl⟩
  · rintro C fs _ ⟨rfl, rfl, hh, hC⟩
    refine ⟨true, ?_, fun z => by (cases z), fun _ a dd G1 hx => ?_⟩
    · rcases hw with rfl | rfl
      · subst hC
        exact T.h_InvalidLine.ex
      · subst hC
        exact T.h_InvalidText.ex
    · rcases hw with rfl | rfl
      · subst hC
        refine w_asg (d := .bool true) (ev_if (b := true) (EvT.to (et_test (ev_op (ev_var rfl) ev_cI rv_eqDI)) rfl) (fun _ => ev_isX hx rfl T.h_InvalidLine.is T.kt_InvalidLine_InvalidLine) (fun z => by cases z)) (by walk_at "lt") ?_
        refine w_ret (ev_if (b := true) (et_B (ev_var rfl)) (fun _ => ev_tup (ea_cons ev_cS (ea_cons (ev_xg hx rfl T.h_InvalidLine.xf T.h_InvalidLine.fi rfl) ea_nil)) (by walk_at "lt")) (fun z => by cases z)) ?_
        rw [hh]
      · subst hC
        refine w_asg (d := .bool true) (ev_if (b := false) (EvT.to (et_test (ev_op (ev_var rfl) ev_cI rv_eqDI)) rfl) (fun z => by cases z) (fun _ => ev_isX hx rfl T.h_InvalidText.is T.kt_InvalidText_InvalidText)) (by walk_at "lt") ?_
        refine w_ret (ev_if (b := true) (et_B (ev_var rfl)) (fun _ => ev_tup (ea_cons ev_cS (ea_cons (ev_xg hx rfl T.h_InvalidText.xf T.h_InvalidText.fi rfl) ea_nil)) (by walk_at "lt")) (fun z => by cases z)) ?_
        rw [hh]
section
variable {F : Fr} {s s1 : Sts} {ta : TA} {E : XK}
theorem c_heard {way : Int} {d : PyData} {b : Bool} (h : EvA F ta s [.int way, d, .bool b] s1) (h1 : goodD d) (h2 : way = 0 ∨ way = 1) : Ev F (tCall (sHeard F.K) [] E ta) s (heardD way d) s1 := ev_call (way, d, b) h rfl ⟨h1, h2⟩
end
end
end K61
namespace K61
open PySem PySem.Spec PyProof.Rows L2 Pk
/-! ## the plain law -/
/-! the sorts of signs -/
def srt (c : Nat) : Nat := if c ∈ SM then 1 else if c ∈ FG then 2 else 0
theorem sm_rng (c : Nat) : c ∈ SM ↔ 97 ≤ c ∧ c ≤ 122 := by
  have h : SM = (List.range 26).map (· + 97) := by decide +kernel
  rw [h]
  simp only [List.mem_map, List.mem_range]
  constructor
  · rintro ⟨a, h1, rfl⟩
    omega
  · intro h
    exact ⟨c - 97, by omega, by omega⟩
theorem fg_rng (c : Nat) : c ∈ FG ↔ 48 ≤ c ∧ c ≤ 57 := by
  have h : FG = (List.range 10).map (· + 48) := by decide +kernel
  rw [h]
  simp only [List.mem_map, List.mem_range]
  constructor
  · rintro ⟨a, h1, rfl⟩
    omega
  · intro h
    exact ⟨c - 48, by omega, by omega⟩
def nm : Nat → Str
  | 0 => ""
  | 1 => "a"
  | _ => "0"
theorem sortS_srt (c : Nat) : sortS c = nm (srt c) := by
  unfold sortS srt
  by_cases h1 : c ∈ SM
  · rw [if_pos (decide_eq_true (show c ∈ ("abcdefghijklmnopqrstuvwxyz" : Str).cps.toList from h1)), if_pos h1]
    rfl
  · rw [if_neg (by rw [decide_eq_false (show ¬ c ∈ ("abcdefghijklmnopqrstuvwxyz" : Str).cps.toList from h1)]; exact Bool.false_ne_true), if_neg h1]
    by_cases h2 : c ∈ FG
    · rw [if_pos (decide_eq_true (show c ∈ ("0123456789" : Str).cps.toList from h2)), if_pos h2]
      rfl
    · rw [if_neg (by rw [decide_eq_false (show ¬ c ∈ ("0123456789" : Str).cps.toList from h2)]; exact Bool.false_ne_true), if_neg h2]
      rfl
theorem srt_le (c : Nat) : srt c ≤ 2 := by
  unfold srt
  split
  · omega
  · split <;> omega
theorem srt_32 : srt 32 = 0 := by decide +kernel
theorem srt_one {c : Nat} : srt c = 1 ↔ c ∈ SM := by
  unfold srt
  by_cases h : c ∈ SM
  · simp [h]
  · rw [if_neg h]
    constructor
    · intro z
      split at z <;> omega
    · intro z
      exact absurd z h
theorem srt_two {c : Nat} : srt c = 2 ↔ c ∈ FG := by
  unfold srt
  by_cases h : c ∈ SM
  · rw [if_pos h]
    constructor
    · intro z
      omega
    · intro z
      rw [sm_rng] at h
      rw [fg_rng] at z
      omega
  · rw [if_neg h]
    by_cases h2 : c ∈ FG
    · simp [h2]
    · rw [if_neg h2]
      constructor
      · intro z
        omega
      · intro z
        exact absurd z h2
theorem nm_inj {i j : Nat} (hi : i ≤ 2) (hj : j ≤ 2) (h : nm i = nm j) : i = j := by
  have a : i = 0 ∨ i = 1 ∨ i = 2 := by omega
  have b : j = 0 ∨ j = 1 ∨ j = 2 := by omega
  rcases a with rfl | rfl | rfl <;> rcases b with rfl | rfl | rfl <;> first | rfl | exact absurd h (by decide +kernel)
theorem nm_zero {i : Nat} (hi : i ≤ 2) (h : nm i = "") : i = 0 := nm_inj hi (by omega) (h.trans rfl)
/-- the signs of a sort ahead -/
def runS (s : Nat) (l : List Nat) : List Nat := l.takeWhile fun c => decide (srt c = s)
def dropS (s : Nat) (l : List Nat) : List Nat := l.dropWhile fun c => decide (srt c = s)
theorem stepN_run (c : Nat) (l : List Nat) : stepN (c :: l) = if srt c = 0 then 1 else 1 + (runS (srt c) l).length := by
  have e1 : ∀ m : List Nat, runL m SM = (runS 1 m).length := fun m => by
    unfold runL runS
    congr 2
    funext x
    exact decide_eq_decide.mpr srt_one.symm
  have e2 : ∀ m : List Nat, runL m FG = (runS 2 m).length := fun m => by
    unfold runL runS
    congr 2
    funext x
    exact decide_eq_decide.mpr srt_two.symm
  have cons : ∀ s : Nat, runS s (c :: l) = if srt c = s then c :: runS s l else [] := fun s => by
    unfold runS
    rw [List.takeWhile_cons]
    by_cases h : srt c = s
    · rw [if_pos (decide_eq_true h), if_pos h]
    · rw [if_neg (by rw [decide_eq_false h]; exact Bool.false_ne_true), if_neg h]
  unfold stepN
  rw [e1, e2, cons, cons]
  have hs := srt_le c
  by_cases h0 : srt c = 0
  · rw [if_neg (by omega), if_neg (by omega), if_pos h0]
    rfl
  · by_cases h1 : srt c = 1
    · rw [if_pos h1, if_neg (by omega), if_neg h0, h1]
      show max 1 (max ((runS 1 l).length + 1) 0) = _
      omega
    · have h2 : srt c = 2 := by omega
      rw [if_neg (by omega), if_pos h2, if_neg h0, h2]
      show max 1 (max 0 ((runS 2 l).length + 1)) = _
      omega
theorem run_app (s : Nat) (l : List Nat) : l = runS s l ++ dropS s l := (List.takeWhile_append_dropWhile).symm
theorem take_run (s : Nat) (l : List Nat) : l.take (runS s l).length = runS s l := by
  have h := List.take_left (l₁ := runS s l) (l₂ := dropS s l)
  rwa [← run_app] at h
theorem drop_run (s : Nat) (l : List Nat) : l.drop (runS s l).length = dropS s l := by
  have h := List.drop_left (l₁ := runS s l) (l₂ := dropS s l)
  rwa [← run_app] at h
theorem run_mem {s c : Nat} : ∀ {l : List Nat}, c ∈ runS s l → srt c = s
  | [], h => absurd h List.not_mem_nil
  | d :: l, h => by
    unfold runS at h
    rw [List.takeWhile_cons] at h
    by_cases hd : srt d = s
    · rw [if_pos (decide_eq_true hd)] at h
      rcases List.mem_cons.mp h with e | h
      · rw [e]
        exact hd
      · exact run_mem (l := l) h
    · rw [if_neg (by rw [decide_eq_false hd]; exact Bool.false_ne_true)] at h
      exact absurd h List.not_mem_nil
theorem drop_len (s : Nat) (l : List Nat) : (dropS s l).length ≤ l.length := (List.dropWhile_sublist _).length_le
theorem drop_head {s : Nat} {l : List Nat} {c : Nat} {m : List Nat} (h : dropS s l = c :: m) : srt c ≠ s := by
  intro z
  have := List.head?_dropWhile_not (fun c => decide (srt c = s)) l
  unfold dropS at h
  rw [h] at this
  simp [z] at this
theorem wl0 {c : Nat} {l : List Nat} (h : srt c = 0) : wordsL (c :: l) = (if c = 32 then [] else [[c]]) ++ wordsL l := by
  rw [wordsL_cons, stepN_run, if_pos h]
  rfl
theorem wl1 {c : Nat} {l : List Nat} (h : srt c ≠ 0) : wordsL (c :: l) = (c :: runS (srt c) l) :: wordsL (dropS (srt c) l) := by
  have h32 : c ≠ 32 := fun z => by
    subst z
    exact h srt_32
  rw [wordsL_cons, stepN_run, if_neg h, if_neg h32]
  rw [Nat.add_comm 1]
  show [c :: l.take (runS (srt c) l).length] ++ wordsL (l.drop (runS (srt c) l).length) = _
  rw [take_run, drop_run]
  rfl
/-- the law's cut, a run of one sort -/
theorem cutB {s : Nat} (h0 : s ≠ 0) (h2 : s ≤ 2) : ∀ (l : List Nat) (fs : List (List Nat)) (w : List Nat), l.foldl stepC (fs ++ [w], nm s) = (dropS s l).foldl stepC (fs ++ [w ++ runS s l], nm s)
  | [], fs, w => by
    show (fs ++ [w], nm s) = (fs ++ [w ++ []], nm s)
    rw [List.append_nil]
  | c :: l, fs, w => by
    by_cases h : srt c = s
    · have e1 : runS s (c :: l) = c :: runS s l := by
        unfold runS
        rw [List.takeWhile_cons, if_pos (decide_eq_true h)]
      have e2 : dropS s (c :: l) = dropS s l := by
        unfold dropS
        rw [List.dropWhile_cons, if_pos (decide_eq_true h)]
      have e3 : stepC (fs ++ [w], nm s) c = (fs ++ [w ++ [c]], nm s) := by
        unfold stepC
        rw [sortS_srt, h]
        have n : ¬ nm s = "" := fun z => h0 (nm_zero h2 z)
        rw [if_pos (by simp [n])]
        congr 1
        have hl : (fs ++ [w]).length - 1 = fs.length := by simp
        rw [hl, List.set_append_right _ _ (Nat.le_refl _), Nat.sub_self]
        have hg : (fs ++ [w]).getD fs.length [] = w := by
          rw [List.getD_eq_getElem?_getD, List.getElem?_append_right (Nat.le_refl _), Nat.sub_self]
          rfl
        rw [hg]
        rfl
      rw [List.foldl_cons, e3, e1, e2, cutB h0 h2 l fs (w ++ [c]), List.append_assoc]
      rfl
    · have e1 : runS s (c :: l) = [] := by
        unfold runS
        rw [List.takeWhile_cons, if_neg (by rw [decide_eq_false h]; exact Bool.false_ne_true)]
      have e2 : dropS s (c :: l) = c :: l := by
        unfold dropS
        rw [List.dropWhile_cons, if_neg (by rw [decide_eq_false h]; exact Bool.false_ne_true)]
      rw [e1, e2, List.append_nil]
theorem one_eq {c d : Nat} : (⟨#[c]⟩ : Str) = ⟨#[d]⟩ ↔ c = d := by
  constructor
  · intro e
    injection e with e
    injection e with e
    injection e with e
  · intro e
    rw [e]
theorem cutA : ∀ (n : Nat) (l : List Nat), l.length ≤ n → ∀ (fs : List (List Nat)) (s : Nat), s ≤ 2 → (s ≠ 0 → ∀ c m, l = c :: m → srt c ≠ s) → (l.foldl stepC (fs, nm s)).1 = fs ++ wordsL l
  | _, [], _, fs, s, _, _ => (List.append_nil fs).symm
  | 0, c :: l, h, _, _, _, _ => by simp at h
  | n + 1, c :: l, h, fs, s, hs, hd => by
    have hl : l.length ≤ n := by simpa using h
    have hc := srt_le c
    have e : stepC (fs, nm s) c = (if c = 32 then fs else fs ++ [[c]], nm (srt c)) := by
      unfold stepC
      rw [sortS_srt]
      have nb : ¬ (!decide (nm (srt c) = "") && decide (nm (srt c) = nm s)) = true := fun z => by
        have z1 := Bool.and_eq_true_iff.mp z
        have e1 : srt c = s := nm_inj hc hs (of_decide_eq_true z1.2)
        have n0 : s ≠ 0 := fun q => by
          rw [e1, q] at z1
          simp [nm] at z1
        exact hd n0 c l rfl e1
      rw [if_neg nb]
      congr 1
      by_cases h32 : c = 32
      · subst h32
        rfl
      · have n32 : ¬ (⟨#[c]⟩ : Str) = " " := fun z => h32 (one_eq.mp z)
        rw [if_pos (by simp [n32]), if_neg h32]
    rw [List.foldl_cons, e]
    by_cases h0 : srt c = 0
    · rw [h0, wl0 h0]
      have := cutA n l hl (if c = 32 then fs else fs ++ [[c]]) 0 (by omega) (fun z => absurd rfl z)
      rw [this]
      by_cases h32 : c = 32
      · rw [if_pos h32, if_pos h32]
        rfl
      · rw [if_neg h32, if_neg h32, List.append_assoc]
    · have h32 : c ≠ 32 := fun z => by
        subst z
        exact h0 srt_32
      rw [if_neg h32, cutB h0 hc l fs [c], wl1 h0]
      have := cutA n (dropS (srt c) l) (by have := drop_len (srt c) l; omega) (fs ++ [[c] ++ runS (srt c) l]) (srt c) hc (fun _ d m e => drop_head e)
      rw [this, List.append_assoc]
      rfl
theorem cut_words (x : Str) : cutW x = wordsS x := by
  unfold cutW wordsS cutAt
  rw [List.take_length]
  have := cutA x.cps.toList.length x.cps.toList (Nat.le_refl _) [] 0 (by omega) (fun z => absurd rfl z)
  rw [List.nil_append] at this
  exact congrArg _ this
/-! words: one odd sign, or a run of one sort -/
def Wordy (w : List Nat) : Prop := (∃ c, w = [c] ∧ srt c = 0 ∧ c ≠ 32) ∨ ∃ s c m, w = c :: m ∧ s ≠ 0 ∧ srt c = s ∧ ∀ d ∈ m, srt d = s
theorem words_wordy : ∀ (n : Nat) (l : List Nat), l.length ≤ n → ∀ w ∈ wordsL l, Wordy w ∧ ∀ c ∈ w, c ∈ l
  | _, [], _, w, hw => absurd hw List.not_mem_nil
  | 0, c :: l, h, _, _ => by simp at h
  | n + 1, c :: l, h, w, hw => by
    have hl : l.length ≤ n := by simpa using h
    by_cases h0 : srt c = 0
    · rw [wl0 h0] at hw
      rcases List.mem_append.mp hw with q | q
      · by_cases h32 : c = 32
        · rw [if_pos h32] at q
          exact absurd q List.not_mem_nil
        · rw [if_neg h32] at q
          have e := List.mem_singleton.mp q
          subst e
          exact ⟨.inl ⟨c, rfl, h0, h32⟩, fun d hd => by rw [List.mem_singleton.mp hd]; exact List.mem_cons_self⟩
      · have := words_wordy n l hl w q
        exact ⟨this.1, fun d hd => List.mem_cons_of_mem _ (this.2 d hd)⟩
    · rw [wl1 h0] at hw
      rcases List.mem_cons.mp hw with e | q
      · subst e
        refine ⟨.inr ⟨srt c, c, _, rfl, h0, rfl, fun d hd => run_mem hd⟩, fun d hd => ?_⟩
        rcases List.mem_cons.mp hd with e | hd
        · rw [e]
          exact List.mem_cons_self
        · exact List.mem_cons_of_mem _ ((List.takeWhile_sublist _).subset hd)
      · have := words_wordy n _ (by have := drop_len (srt c) l; omega) w q
        exact ⟨this.1, fun d hd => List.mem_cons_of_mem _ ((List.dropWhile_sublist _).subset (this.2 d hd))⟩
theorem wl_word {w t : List Nat} (hw : Wordy w) (ht : t = [] ∨ ∃ m, t = 32 :: m) : wordsL (w ++ t) = w :: wordsL t := by
  rcases hw with ⟨c, rfl, h0, h32⟩ | ⟨s, c, m, rfl, h0, hc, hm⟩
  · show wordsL (c :: t) = _
    rw [wl0 h0, if_neg h32]
    rfl
  · subst hc
    show wordsL (c :: (m ++ t)) = _
    have ht' : runS (srt c) t = [] := by
      rcases ht with rfl | ⟨k, rfl⟩
      · rfl
      · unfold runS
        rw [List.takeWhile_cons, if_neg (by rw [decide_eq_false (by rw [srt_32]; exact fun z => h0 z.symm)]; exact Bool.false_ne_true)]
    have e1 : runS (srt c) (m ++ t) = m := by
      unfold runS at ht' ⊢
      rw [List.takeWhile_append_of_pos (fun d hd => decide_eq_true (hm d hd)), ht', List.append_nil]
    have e2 : dropS (srt c) (m ++ t) = t := by
      have h := run_app (srt c) (m ++ t)
      rw [e1] at h
      exact (List.append_cancel_left h).symm
    rw [wl1 h0, e1, e2]
def joinL : List (List Nat) → List Nat
  | [] => []
  | [w] => w
  | w :: v :: ws => w ++ 32 :: joinL (v :: ws)
theorem words_join : ∀ ws : List (List Nat), (∀ w ∈ ws, Wordy w) → wordsL (joinL ws) = ws
  | [], _ => rfl
  | [w], h => by
    have := wl_word (t := []) (h w List.mem_cons_self) (.inl rfl)
    rw [List.append_nil] at this
    exact this
  | w :: v :: ws, h => by
    show wordsL (w ++ 32 :: joinL (v :: ws)) = _
    rw [wl_word (h w List.mem_cons_self) (.inr ⟨_, rfl⟩), wl0 srt_32, if_pos rfl, List.nil_append, words_join (v :: ws) fun u hu => h u (List.mem_cons_of_mem _ hu)]
/-- the words put together: all but the blanks -/
theorem words_flat : ∀ (n : Nat) (l : List Nat), l.length ≤ n → (wordsL l).flatten = l.filter (fun c => !decide (c = 32))
  | _, [], _ => rfl
  | 0, c :: l, h => by simp at h
  | n + 1, c :: l, h => by
    have hl : l.length ≤ n := by simpa using h
    by_cases h0 : srt c = 0
    · rw [wl0 h0, List.flatten_append, words_flat n l hl]
      by_cases h32 : c = 32
      · rw [if_pos h32, List.filter_cons_of_neg (by simp [h32])]
        rfl
      · rw [if_neg h32, List.filter_cons_of_pos (by simp [h32])]
        rfl
    · have h32 : c ≠ 32 := fun z => by
        subst z
        exact h0 srt_32
      rw [wl1 h0, List.flatten_cons, words_flat n _ (by have := drop_len (srt c) l; omega), List.filter_cons_of_pos (by simp [h32])]
      have hr : (runS (srt c) l).filter (fun c => !decide (c = 32)) = runS (srt c) l := by
        rw [List.filter_eq_self]
        intro d hd
        have := run_mem hd
        have n32 : d ≠ 32 := fun z => by
          subst z
          rw [srt_32] at this
          exact h0 this.symm
        simp [n32]
      conv => rhs; rw [run_app (srt c) l, List.filter_append, hr]
      rfl
/-! kinds -/
theorem any_not {α : Type} (p : α → Bool) : ∀ l : List α, (!(l.any fun c => !p c)) = l.all p
  | [] => rfl
  | c :: l => by
    rw [List.any_cons, List.all_cons, ← any_not p l]
    cases p c <;> simp
theorem has_one : ∀ c ∈ SM, hasS "abcdefgh" ⟨#[c]⟩ = decide (c ∈ ("abcdefgh" : Str).cps.toList) := by decide +kernel
theorem signs_iff (x : Str) : decide (x ∈ signsW) = (decide ((x.length : Int) = 1) && decide (signAt x 0 ∈ ("():|+-*=," : Str).cps.toList)) := by
  rw [Bool.eq_iff_iff]
  simp only [Bool.and_eq_true, decide_eq_true_eq]
  constructor
  · intro h
    have : ∀ y ∈ signsW, ((y.length : Int) = 1 ∧ signAt y 0 ∈ ("():|+-*=," : Str).cps.toList) := by decide +kernel
    exact this x h
  · rintro ⟨h1, h2⟩
    rw [len_one h1]
    generalize signAt x 0 = c at h2
    have : ∀ c ∈ ("():|+-*=," : Str).cps.toList, (⟨#[c]⟩ : Str) ∈ signsW := by decide +kernel
    exact this c h2
theorem sm_eq : ("abcdefghijklmnopqrstuvwxyz" : Str).cps.toList = SM := rfl
theorem fg_eq : ("0123456789" : Str).cps.toList = FG := rfl
theorem all_small {x : Str} (h : x.cps.toList.all (fun c => decide (c ∈ SM)) = true) {i : Int} (h0 : 0 ≤ i) (h1 : i < x.length) : signAt x i ∈ SM := by
  unfold signAt
  have hi : i.toNat < x.cps.toList.length := by rw [str_len]; omega
  rw [List.getD_eq_getElem?_getD, List.getElem?_eq_getElem hi]
  exact of_decide_eq_true (List.all_eq_true.mp h _ (List.getElem_mem hi))
theorem kinds_same (x : Str) : kindS x = toldK x := by
  unfold toldK kindS lawKind
  rw [langW_eq, ← signs_iff]
  have hown : ¬ ("of none" : Str) ∈ ownW := by decide +kernel
  have hsig : ¬ ("of none" : Str) ∈ signsW := by decide +kernel
  by_cases hA : (decide (x ∈ signsW) || decide (x ∈ ownW)) = true
  · have hB : (decide (x ∈ ownW) || decide (x ∈ signsW)) = true := by rw [Bool.or_comm]; exact hA
    rw [if_pos hA, if_pos hB]
    have n : ¬ x = "of none" := fun z => by
      subst z
      simp [hown, hsig] at hA
    rw [if_neg (by rw [decide_eq_false n]; exact Bool.false_ne_true)]
  · have hB : ¬ (decide (x ∈ ownW) || decide (x ∈ signsW)) = true := by rw [Bool.or_comm]; exact hA
    rw [if_neg hA, if_neg hB]
    have e1 : (!decide (x = "") && !(x.cps.toList.any fun c => !decide (c ∈ ("abcdefghijklmnopqrstuvwxyz" : Str).cps.toList))) = isOf x "abcdefghijklmnopqrstuvwxyz" := by
      unfold isOf
      rw [any_not (fun c => decide (c ∈ ("abcdefghijklmnopqrstuvwxyz" : Str).cps.toList))]
    have e2 : (fineB x && (decide (x = "0") || !decide ((⟨#[signAt x 0]⟩ : Str) = "0"))) = isNum x := by
      unfold fineB isNum isOf
      rw [any_not (fun c => decide (c ∈ ("0123456789" : Str).cps.toList))]
      cases decide (x = "") <;> cases decide ((x.length : Int) ≤ 3) <;> simp
    rw [e1, e2]
    by_cases hS : isOf x "abcdefghijklmnopqrstuvwxyz" = true
    · rw [if_pos hS, hS, Bool.true_and]
      have hp := isOf_pos hS
      have hall : x.cps.toList.all (fun c => decide (c ∈ SM)) = true := by
        unfold isOf at hS
        exact (Bool.and_eq_true_iff.mp hS).2
      have h0 := all_small hall (i := 0) (by omega) (by omega)
      have e3 : (hasS "abcdefgh" x && decide ((x.length : Int) = 1)) = isLet x := by
        unfold isLet
        by_cases h1 : (x.length : Int) = 1
        · have hx := len_one h1
          have hh := has_one (signAt x 0) h0
          rw [← hx] at hh
          rw [hh, Bool.and_comm]
        · rw [decide_eq_false h1, Bool.and_false, Bool.false_and]
      have e4 : (decide ((x.length : Int) = 2) && (decide (signAt x 0 ∈ ("ou" : Str).cps.toList) && decide (signAt x 1 ∈ ("abcdefgh" : Str).cps.toList))) = isEnd x := by
        unfold isEnd
        congr 2
        exact decide_eq_decide.mpr (by
          show signAt x 0 ∈ [111, 117] ↔ signAt x 0 ∈ [117, 111]
          simp only [List.mem_cons, List.not_mem_nil, or_false]
          exact Or.comm)
      have e5 : isNum x = false := by
        unfold isNum
        have : isOf x "0123456789" = false := by
          rw [Bool.eq_false_iff]
          intro z
          unfold isOf at z
          have z2 := (Bool.and_eq_true_iff.mp z).2
          have hi : (0 : Int).toNat < x.cps.toList.length := by rw [str_len]; show 0 < x.length; omega
          have z3 : signAt x 0 ∈ FG := by
            unfold signAt
            rw [List.getD_eq_getElem?_getD, List.getElem?_eq_getElem hi]
            exact of_decide_eq_true (List.all_eq_true.mp z2 _ (List.getElem_mem hi))
          rw [sm_rng] at h0
          rw [fg_rng] at z3
          omega
        rw [this]
        rfl
      rw [e3, e4, e5]
      cases isLet x <;> cases isEnd x <;> cases decide ((x.length : Int) ≤ 8) <;> decide +kernel
    · have hS' : isOf x "abcdefghijklmnopqrstuvwxyz" = false := by simpa using hS
      rw [if_neg hS, hS', Bool.false_and]
      have let0 : isLet x = false := by
        rw [Bool.eq_false_iff]
        intro z
        unfold isLet at z
        have z1 := Bool.and_eq_true_iff.mp z
        have hx := len_one (of_decide_eq_true z1.1)
        have hm := of_decide_eq_true z1.2
        apply hS
        rw [hx]
        generalize signAt x 0 = c at hm
        have : ∀ c ∈ ("abcdefgh" : Str).cps.toList, isOf ⟨#[c]⟩ "abcdefghijklmnopqrstuvwxyz" = true := by decide +kernel
        exact this c hm
      have end0 : isEnd x = false := by
        rw [Bool.eq_false_iff]
        intro z
        unfold isEnd at z
        have z1 := Bool.and_eq_true_iff.mp z
        have z2 := Bool.and_eq_true_iff.mp z1.2
        have h1 := of_decide_eq_true z1.1
        have h2 := of_decide_eq_true z2.1
        have h3 := of_decide_eq_true z2.2
        apply hS
        have hx : x = ⟨#[signAt x 0, signAt x 1]⟩ := by
          apply str_ext
          unfold signAt
          have hl : x.cps.toList.length = 2 := by rw [str_len]; omega
          generalize x.cps.toList = l at *
          match l, hl with
          | [c, d], _ => rfl
        rw [hx]
        generalize signAt x 0 = c at h2
        generalize signAt x 1 = d at h3
        have : ∀ c ∈ ("uo" : Str).cps.toList, ∀ d ∈ ("abcdefgh" : Str).cps.toList, isOf ⟨#[c, d]⟩ "abcdefghijklmnopqrstuvwxyz" = true := by decide +kernel
        exact this c h2 d h3
      rw [let0, end0]
      cases isNum x <;> decide +kernel
end K61
namespace K61
open PySem PySem.Spec PyProof.Rows L2 Pk
local macro_rules | `(tactic| walk_at "lt") => `(tactic| first | decide | (dsimp only; decide) | (dsimp only [List.length]; decide) | (dsimp only [List.set, List.length]; decide))
local macro_rules | `(tactic| walk_at "ev1") => `(tactic| first
  | with_reducible exact ev_cI | with_reducible exact ev_cS | with_reducible exact ev_cB | with_reducible exact ev_cN | with_reducible exact ea_nil
  | ((with_reducible apply ev_var); exact rfl)
  | ((with_reducible apply ev_cG); assumption)
  | with_reducible apply ea_cons
  | with_reducible apply ev_op
  | with_reducible exact rv_addI | with_reducible exact rv_subI | with_reducible exact rv_ltI | with_reducible exact rv_leI | with_reducible exact rv_gtI | with_reducible exact rv_geI | with_reducible exact rv_eqDI | with_reducible exact rv_neDI
  | with_reducible exact rv_eqDS | with_reducible exact rv_neDS | with_reducible exact rv_inS1 | with_reducible exact rv_notInS1 | with_reducible exact rv_inTup | with_reducible exact rv_inLst
  | with_reducible apply rv_addT | with_reducible apply rv_ixS
  | with_reducible apply et_and | with_reducible apply et_or | with_reducible apply et_not | with_reducible apply et_test | with_reducible apply et_B
  | with_reducible apply ev_andV | with_reducible apply ev_orV | with_reducible apply ev_notV
  | ((with_reducible apply ev_lenQ); (with_reducible apply eq_var); exact rfl)
  | with_reducible apply ev_anyMap | with_reducible apply ev_allMap | with_reducible apply ei_strM
  | with_reducible apply ev_isi
  | (show kitB _ _ = some _; exact rfl)
  | with_reducible apply ev_cb
  | with_reducible apply rc_lenS | with_reducible exact rc_int | with_reducible exact rc_intB | with_reducible exact rc_abs | with_reducible exact rc_max2 | with_reducible exact rc_max3 | with_reducible exact rc_min2
  | with_reducible apply ev_slS | with_reducible exact eo_none | with_reducible apply eo_some
  | with_reducible apply ev_ifX | exact Pk.ite_int | exact Pk.ite_str | exact Pk.ite_bool
  | walk_at "call" | with_reducible apply ev_tup | with_reducible apply ev_lst
  | ((with_reducible show _ < Fr.n _); walk_at "lt") | ((with_reducible show Fr.n _ ≤ List.length _); walk_at "lt")
  | ((with_reducible intro _); first | exact rfl | skip) | fail)
local macro_rules | `(tactic| walk_at "call") => `(tactic| fail)
local macro_rules | `(tactic| walk_at "sd") => `(tactic| first | assumption | omega | (rw [sizeLine_eq]; omega) | (rw [str_len]; omega) | (dsimp only [List.length]; decide) | (simp only [decide_eq_true_eq, decide_eq_false_iff_not] at *; first | omega | (rw [sizeLine_eq]; omega)))
local macro_rules | `(tactic| walk_at "ev") => `(tactic| focus (repeat' (walk_at "ev1")))
local macro_rules | `(tactic| walk_at "w1") => `(tactic| first
  | with_reducible apply w_asg | with_reducible apply w_par | with_reducible apply w_ret | with_reducible apply w_asg1 | with_reducible apply w_retS | with_reducible apply w_skip | with_reducible apply w_ifS | with_reducible apply w_assoc
  | ((with_reducible show _ < Fr.n _); walk_at "lt") | ((with_reducible show Fr.n _ ≤ List.length _); walk_at "lt") | fail)
local macro_rules | `(tactic| walk_at "wk") => `(tactic| focus (repeat' (first | walk_at "w1" | walk_at "ev1")))
local macro_rules | `(tactic| walk_at "st") => `(tactic| dsimp only [cxOf, L2.Cx.nox, s0, List.map, List.length, List.replicate, List.cons_append, List.nil_append, Nat.reduceAdd, Nat.reduceSub, Nat.reduceMul, Nat.succ_eq_add_one, List.replicate_succ, List.replicate_zero, List.append_eq, List.append])
section
variable {P : Program} {w : World} {K : PySem.W.Frag} {mg : Str → Option Value} {base : Heap} {V : Ad}
theorem join_cons (a x y : Str) (ws : List Str) : Txt.join a (x :: y :: ws) = x ++ a ++ Txt.join a (y :: ws) := by
  unfold Txt.join
  rw [PySem.StrLaws.glued_eq_join, PySem.StrLaws.glued_eq_join]
  rfl
theorem join_emp : ∀ ws : List Str, (Txt.join "" ws).cps.toList = (ws.map (·.cps.toList)).flatten
  | [] => rfl
  | [x] => by
    show x.cps.toList = [x.cps.toList].flatten
    simp
  | x :: y :: ws => by
    have e : (("" : Str)).cps.toList = [] := rfl
    rw [join_cons, app_list, app_list, join_emp (y :: ws), e, List.append_nil]
    simp only [List.map_cons, List.flatten_cons]
theorem join_bl : ∀ ws : List (List Nat), (Txt.join " " (ws.map mkS)).cps.toList = joinL ws
  | [] => rfl
  | [w] => mkS_list w
  | w :: v :: ws => by
    show (Txt.join " " (mkS w :: mkS v :: ws.map mkS)).cps.toList = _
    rw [join_cons, app_list, app_list, mkS_list]
    have := join_bl (v :: ws)
    rw [List.map_cons] at this
    rw [this]
    have e : ((" " : Str)).cps.toList = [32] := rfl
    rw [e, List.append_assoc]
    rfl
/-! dealt words -/
def wdB (x : Str) : Bool := decide (x.length ≤ 12) && x.cps.toList.all fun c => decide (33 ≤ c) && decide (c < 127)
def signL (z : Str) : List Str := z.cps.toList.map fun c => ⟨#[c]⟩
theorem signL_D (z : Str) : signD z = (signL z).map .str := by
  unfold signD signL
  rw [List.map_map]
  rfl
def trN (t : Tray) (m : Int) : Nat → Tray
  | 0 => t
  | i + 1 => pebT (trN t m i) m
def letL (z : Str) (t : Tray) (m : Int) (n : Nat) : List Str := (List.range n).map fun i => ⟨#[signAt z (pebV (trN t m i) m)]⟩
def dealF (t : Tray) : Str × Tray :=
  if decide (pebV t 9 = 0) then (anyV (pebT t 9) langW, pebT (pebT t 9) langW.length)
  else if decide (pebV t 9 = 1) then (anyV (pebT t 9) (signL "():|+-*=,"), pebT (pebT t 9) (signL "():|+-*=,").length)
  else if decide (pebV t 9 = 2) then (anyV (pebT t 9) ["o", "u", ""] ++ anyV (pebT (pebT t 9) 3) (signL "abcdefghijou"), pebT (pebT (pebT t 9) 3) (signL "abcdefghijou").length)
  else if decide (pebV t 9 < 6) then (Txt.join "" (letL "abcdefghijklmnopqrstuvwxyz" (pebT (pebT t 9) 10) 26 (1 + pebV (pebT t 9) 10).toNat), trN (pebT (pebT t 9) 10) 26 (1 + pebV (pebT t 9) 10).toNat)
  else if decide (pebV t 9 < 8) then (Txt.join "" (letL "0123456789" (pebT (pebT t 9) 4) 10 (1 + pebV (pebT t 9) 4).toNat), trN (pebT (pebT t 9) 4) 10 (1 + pebV (pebT t 9) 4).toNat)
  else (anyV (pebT t 9) (signL "ABZ!?;._#&/<>[]{}~"), pebT (pebT t 9) (signL "ABZ!?;._#&/<>[]{}~").length)
abbrev sDeal (K : PySem.W.Frag) : Sp := spT K (fun t : Tray => trD t) (fun _ => []) (fun _ => True) (fun t => .str (dealF t).1) (fun t => trD (dealF t).2)
theorem letL_len (z : Str) (t : Tray) (m : Int) (n : Nat) : (letL z t m n).length = n := by
  unfold letL
  rw [List.length_map, List.length_range]
/-- signs dealt one by one -/
theorem el_let {F : Fr} {s : Sts} {p : Addr} {t : Tray} {q1 : SV} {wi : TI} {z : Str} {m : Int} {n : Nat} (hn : F.n = 3) (hi : EvI F wi s (rangeD 0 n) [.ls p (trD t), q1, .un]) (hz : n < 1000) (h0 : 0 < m) (h1 : m ≤ z.length) (h2 : z.length ≤ 1000) :
    EvL F (tLc wi (gName 2) tYes (tOp (rIx F.K) (tC (.str z)) (tCall (sPeb F.K) [] E0 (tCons (tVar 0) (tCons (tC (.int m)) tNil)))) [2]) s ((letL z t m n).map .str) [.ls p (trD (trN t m n)), q1, .un] := by
  refine el_lc (vs := [2]) hi (by rw [rangeD_len]; omega) (fun v hv => by rw [List.mem_singleton.mp hv, hn]; decide) (fun i s acc => s = [.ls p (trD (trN t m i)), q1, .un] ∧ acc = (letL z t m i).map .str) ⟨rfl, rfl⟩ (fun i s acc q => by rw [q.1, hn]; exact Nat.le_refl _)
    (fun i s acc q v hv x hx => ?_) (fun i d s acc r hd q => ?_) (fun s acc q => ?_) (fun i s acc q => by rw [q.2, List.length_map, letL_len]; exact Nat.le_refl _)
  · rw [List.mem_singleton.mp hv, q.1] at hx
    exact (Option.some.inj hx).symm
  · obtain ⟨rfl, rfl⟩ := q
    have hb := pebV_lt (trN t m i) h0
    refine ⟨_, tg_name (by rw [hn]; decide) (by simp), true, [.ls p (trD (trN t m i)), q1, .im d, .an r ((letL z t m i).map .str)], fun σ G H k Q q => q G H k (Same.refl G), fun _ => ⟨.str ⟨#[signAt z (pebV (trN t m i) m)]⟩, [.ls p (trD (trN t m (i + 1))), q1, .im d], ?_, ⟨rfl, ?_⟩, by rw [hn]; exact Nat.le_refl _⟩, fun z => by cases z⟩
    · exact ev_op ev_cS (c_peb rfl (ea_cons ev_cI ea_nil) rfl h0 (by omega)) (rv_ixS hb.1 (by omega) (by rw [sizeLine_eq]; omega))
    · unfold letL
      rw [List.range_succ, List.map_append, List.map_append]
      rfl
  · rw [rangeD_len] at q
    exact q
theorem join_ok {z : Str} {t : Tray} {m : Int} {n : Nat} (h : n ≤ 20) : ((letL z t m n).map (·.length)).sum + (letL z t m n).length * (("" : Str)).length ≤ 16777216 := by
  have e : (letL z t m n).map (·.length) = List.replicate n 1 := by
    unfold letL
    rw [List.map_map]
    refine List.eq_replicate_iff.mpr ⟨by rw [List.length_map, List.length_range], fun b hb => ?_⟩
    obtain ⟨i, _, rfl⟩ := List.mem_map.mp hb
    rfl
  have e2 : (("" : Str)).length = 0 := rfl
  rw [e, e2, List.sum_replicate_nat]
  omega
/-- dealt words are words of seen signs -/
theorem wd_any {t : Tray} {ws : List Str} (h : ws.all wdB = true) (h0 : 0 < ws.length) : wdB (anyV t ws) = true := by
  have hb := pebV_lt t (m := (ws.length : Int)) (by omega)
  unfold anyV
  rw [List.getD_eq_getElem?_getD, List.getElem?_eq_getElem (by omega)]
  exact List.all_eq_true.mp h _ (List.getElem_mem _)
theorem wd_iff (x : Str) : wdB x = true ↔ x.length ≤ 12 ∧ ∀ c ∈ x.cps.toList, 33 ≤ c ∧ c < 127 := by
  unfold wdB
  rw [Bool.and_eq_true, List.all_eq_true]
  simp only [Bool.and_eq_true, decide_eq_true_eq]
theorem ok_deal (T : Tx P K mg V) : FnG P w K mg base 3 V.A__law_dealt_word V.D__law_dealt_word ["tray"] (sDeal K) := by
  have ok__law_language := @ok_lang
  have ok__law_pebble := @ok_peb
  have ok__law_any := @ok_any
  have G__law_pebble := ok__law_pebble (w := w) (base := base) T
  have G__law_any := ok__law_any (w := w) (base := base) T
  have G__law_language := ok__law_language (w := w) (base := base) T
  refine okT T.F__law_dealt_word sc__law_dealt_word (fun a => rfl) (fun cdv Ar outer s H E hr hG => ⟨_, PSs.nox ((pss_cons (ps_set (i := 1) sc__law_dealt_word.nd rfl (.inl rfl) (pe_g (E := E0) G__law_pebble (hr.mono (by decide)) hG (by rfl) T.g__law_pebble T.F__law_pebble.kp T.b__law_pebble .nil passL (pa_cons (pv 0) (pa_cons pe_int pa_nil))))
      (pss_cons (ps_if (pt_cmpR (op_eqA hr.units) (pv 1) pe_int (nomark _)) (pss_one (ps_ret (pe_g (E := E0) G__law_any (hr.mono (by decide)) hG (by rfl) T.g__law_any T.F__law_any.kp T.b__law_any .nil passL (pa_cons (pv 0) (pa_cons (pe_g0 (E := E0) G__law_language (hr.mono (by decide)) hG (by rfl) T.g__law_language T.F__law_language.kp T.b__law_language .nil passL) pa_nil))))) pss_nil)
      (pss_cons (ps_if (pt_cmpR (op_eqA hr.units) (pv 1) pe_int (nomark _)) (pss_one (ps_ret (pe_g (E := E0) G__law_any (hr.mono (by decide)) hG (by rfl) T.g__law_any T.F__law_any.kp T.b__law_any .nil passL (pa_cons (pv 0) (pa_cons (pe_callTy (call_listA rfl) (by rfl) T.n_list (by decide +kernel) (pa_cons pe_str pa_nil)) pa_nil))))) pss_nil)
      (pss_cons (ps_if (pt_cmpR (op_eqA hr.units) (pv 1) pe_int (nomark _)) (pss_one (ps_ret (pe_op op_addA (pe_g (E := E0) G__law_any (hr.mono (by decide)) hG (by rfl) T.g__law_any T.F__law_any.kp T.b__law_any .nil passL (pa_cons (pv 0) (pa_cons (pe_tup (pa_cons pe_str (pa_cons pe_str (pa_cons pe_str pa_nil)))) pa_nil))) (pe_g (E := E0) G__law_any (hr.mono (by decide)) hG (by rfl) T.g__law_any T.F__law_any.kp T.b__law_any .nil passL (pa_cons (pv 0) (pa_cons (pe_callTy (call_listA rfl) (by rfl) T.n_list (by decide +kernel) (pa_cons pe_str pa_nil)) pa_nil)))))) pss_nil)
      (pss_cons (ps_if (pt_cmpR op_lt (pv 1) pe_int (nomark _)) (pss_one (ps_ret (pe_bm PySem.F.plainAttrs_str PySem.F.slot_str_join PySem.F.type_str_join mt_joinA pe_str (pa_cons (pe_lc (own := [("k", 2)]) rfl sc__law_dealt_word.nd (pi_range1 (by rfl) T.n_range (pa_cons (pe_op op_addA pe_int (pe_g (E := E0) G__law_pebble (hr.mono (by decide)) hG (by rfl) T.g__law_pebble T.F__law_pebble.kp T.b__law_pebble .nil passL (pa_cons (pv 0) (pa_cons pe_int pa_nil)))) pa_nil)) (blkOk_by (N := ["tray", "face", "k"]) (sc := defScope s__law_dealt_word) (by decide +kernel)) (fun _ _ _ _ _ => pg_name (i := 2) sc__law_dealt_word.nd rfl (.inl rfl) (.inr rfl)) (fun _ _ _ _ _ => pts_nil) (fun _ _ _ _ _ => (pe_ix (ix_seq : IxR _ (rIx K)) pe_str (pe_g (E := E0) G__law_pebble (hr.mono (by decide)) hG (by rfl) T.g__law_pebble T.F__law_pebble.kp T.b__law_pebble .nil passL (pa_cons (pv 0) (pa_cons pe_int pa_nil))) (fun _ _ => rfl)))) pa_nil)))) pss_nil)
      (pss_cons (ps_if (pt_cmpR op_lt (pv 1) pe_int (nomark _)) (pss_one (ps_ret (pe_bm PySem.F.plainAttrs_str PySem.F.slot_str_join PySem.F.type_str_join mt_joinA pe_str (pa_cons (pe_lc (own := [("k", 2)]) rfl sc__law_dealt_word.nd (pi_range1 (by rfl) T.n_range (pa_cons (pe_op op_addA pe_int (pe_g (E := E0) G__law_pebble (hr.mono (by decide)) hG (by rfl) T.g__law_pebble T.F__law_pebble.kp T.b__law_pebble .nil passL (pa_cons (pv 0) (pa_cons pe_int pa_nil)))) pa_nil)) (blkOk_by (N := ["tray", "face", "k"]) (sc := defScope s__law_dealt_word) (by decide +kernel)) (fun _ _ _ _ _ => pg_name (i := 2) sc__law_dealt_word.nd rfl (.inl rfl) (.inr rfl)) (fun _ _ _ _ _ => pts_nil) (fun _ _ _ _ _ => (pe_ix (ix_seq : IxR _ (rIx K)) pe_str (pe_g (E := E0) G__law_pebble (hr.mono (by decide)) hG (by rfl) T.g__law_pebble T.F__law_pebble.kp T.b__law_pebble .nil passL (pa_cons (pv 0) (pa_cons pe_int pa_nil))) (fun _ _ => rfl)))) pa_nil)))) pss_nil)
      (pss_one (ps_ret (pe_g (E := E0) G__law_any (hr.mono (by decide)) hG (by rfl) T.g__law_any T.F__law_any.kp T.b__law_any .nil passL (pa_cons (pv 0) (pa_cons (pe_callTy (call_listA rfl) (by rfl) T.n_list (by decide +kernel) (pa_cons pe_str pa_nil)) pa_nil)))))))))))), ?_⟩)
  rintro t G0 p _
  walk_at "st"
  have hb := pebV_lt t (m := 9) (by decide)
  refine w_asg (c_peb rfl (ea_cons ev_cI ea_nil) rfl (by decide) (by decide)) (by walk_at "lt") ?_
  dsimp only [List.set]
  unfold dealF
  generalize pebV t 9 = f at *
  generalize pebT t 9 = t1
  have lst : ∀ {z : Str} {s : Sts}, z.length ≤ 1000 → Ev ⟨K, G0, H, [p], 3⟩ (tCB (rListA K) (tCons (tC (.str z)) tNil)) s (seqD false (signL z)) s := fun {z s} h => Ev.to (ev_frz (el_listStr ev_cS (by rw [sizeLine_eq]; omega))) (by rw [signL_D]; rfl)
  refine w_ifS (et_test (ev_op (ev_var rfl) ev_cI rv_eqDI)) (fun hb => ?_) (fun hb => w_skip ?_)
  · rw [if_pos hb]
    exact w_retS (c_any (b := false) (ws := langW) rfl (ea_cons c_lang ea_nil) rfl (by decide +kernel) (by decide +kernel)) ⟨rfl, rfl⟩
  rw [if_neg (by rw [hb]; exact Bool.false_ne_true)]
  refine w_ifS (et_test (ev_op (ev_var rfl) ev_cI rv_eqDI)) (fun hb => ?_) (fun hb => w_skip ?_)
  · rw [if_pos hb]
    exact w_retS (c_any rfl (ea_cons (lst (by decide +kernel)) ea_nil) rfl (by decide +kernel) (by decide +kernel)) ⟨rfl, rfl⟩
  rw [if_neg (by rw [hb]; exact Bool.false_ne_true)]
  refine w_ifS (et_test (ev_op (ev_var rfl) ev_cI rv_eqDI)) (fun hb => ?_) (fun hb => w_skip ?_)
  · rw [if_pos hb]
    refine w_retS (ev_op (c_any (b := true) (ws := ["o", "u", ""]) rfl (ea_cons (ev_tup (ea_cons ev_cS (ea_cons ev_cS (ea_cons ev_cS ea_nil))) (by walk_at "lt")) ea_nil) rfl (by decide +kernel) (by decide +kernel))
      (c_any (t := pebT t1 3) rfl (ea_cons (lst (by decide +kernel)) ea_nil) rfl (by decide +kernel) (by decide +kernel)) (rv_addT ?_)) ⟨rfl, rfl⟩
    have a1 := ((wd_iff _).mp (wd_any (t := t1) (ws := ["o", "u", ""]) (by decide +kernel) (by decide +kernel))).1
    have a2 := ((wd_iff _).mp (wd_any (t := pebT t1 3) (ws := signL "abcdefghijou") (by decide +kernel) (by decide +kernel))).1
    rw [sizeLine_eq]
    omega
  rw [if_neg (by rw [hb]; exact Bool.false_ne_true)]
  have b10 := pebV_lt t1 (m := 10) (by decide)
  have b4 := pebV_lt t1 (m := 4) (by decide)
  refine w_ifS (et_test (ev_op (ev_var rfl) ev_cI rv_ltI)) (fun hb => ?_) (fun hb => w_skip ?_)
  · rw [if_pos hb]
    exact w_retS (ev_join ev_cS (es_new (el_let (q1 := .im (.int f)) rfl (ei_rng1 (ea_cons (ev_op ev_cI (c_peb (t := t1) rfl (ea_cons ev_cI ea_nil) rfl (by decide) (by decide)) rv_addI) ea_nil) (by omega) (by omega)) (by omega) (by decide) (by decide +kernel) (by decide +kernel))) (join_ok (by omega))) ⟨rfl, rfl⟩
  rw [if_neg (by rw [hb]; exact Bool.false_ne_true)]
  refine w_ifS (et_test (ev_op (ev_var rfl) ev_cI rv_ltI)) (fun hb => ?_) (fun hb => w_skip ?_)
  · rw [if_pos hb]
    exact w_retS (ev_join ev_cS (es_new (el_let (q1 := .im (.int f)) rfl (ei_rng1 (ea_cons (ev_op ev_cI (c_peb (t := t1) rfl (ea_cons ev_cI ea_nil) rfl (by decide) (by decide)) rv_addI) ea_nil) (by omega) (by omega)) (by omega) (by decide) (by decide +kernel) (by decide +kernel))) (join_ok (by omega))) ⟨rfl, rfl⟩
  rw [if_neg (by rw [hb]; exact Bool.false_ne_true)]
  exact w_ret (c_any rfl (ea_cons (lst (by decide +kernel)) ea_nil) rfl (by decide +kernel) (by decide +kernel)) ⟨rfl, rfl⟩
section
variable {F : Fr} {s s1 : Sts} {E : XK} {i : Nat} {p : Addr}
theorem c_deal {t : Tray} (hi : s[i]? = some (.ls p (trD t))) : Ev F (tCall (sDeal F.K) [] E (tCons (tVar i) tNil)) s (.str (dealF t).1) (s.set i (.ls p (trD (dealF t).2))) := ev_callT (a := t) hi ea_nil rfl hi trivial
end
theorem wd_let {z : Str} {t : Tray} {m : Int} {n : Nat} (h0 : 0 < m) (h1 : m ≤ z.length) (hz : ∀ c ∈ z.cps.toList, 33 ≤ c ∧ c < 127) (hn : n ≤ 12) : wdB (Txt.join "" (letL z t m n)) = true := by
  rw [wd_iff]
  have e : (Txt.join "" (letL z t m n)).cps.toList = (List.range n).map fun i => signAt z (pebV (trN t m i) m) := by
    rw [join_emp]
    unfold letL
    rw [List.map_map]
    generalize List.range n = l
    induction l with
    | nil => rfl
    | cons a l ih =>
      rw [List.map_cons, List.flatten_cons, ih, List.map_cons]
      rfl
  refine ⟨by rw [← str_len, e, List.length_map, List.length_range]; exact hn, fun c hc => ?_⟩
  rw [e] at hc
  obtain ⟨i, _, rfl⟩ := List.mem_map.mp hc
  have hb := pebV_lt (trN t m i) h0
  refine hz _ ?_
  unfold signAt
  have hl := str_len z
  rw [List.getD_eq_getElem?_getD, List.getElem?_eq_getElem (by omega)]
  exact List.getElem_mem _
theorem wd_deal (t : Tray) : wdB (dealF t).1 = true := by
  unfold dealF
  have b10 := pebV_lt (pebT t 9) (m := 10) (by decide)
  have b4 := pebV_lt (pebT t 9) (m := 4) (by decide)
  split
  · exact wd_any (by decide +kernel) (by decide +kernel)
  split
  · exact wd_any (by decide +kernel) (by decide +kernel)
  split
  · have h1 : (anyV (pebT t 9) ["o", "u", ""]).length ≤ 1 ∧ ∀ c ∈ (anyV (pebT t 9) ["o", "u", ""]).cps.toList, 33 ≤ c ∧ c < 127 := by
      have hb := pebV_lt (pebT t 9) (m := ((["o", "u", ""] : List Str).length : Int)) (by decide)
      have : ∀ y ∈ (["o", "u", ""] : List Str), y.length ≤ 1 ∧ ∀ c ∈ y.cps.toList, 33 ≤ c ∧ c < 127 := by decide +kernel
      refine this _ ?_
      unfold anyV
      rw [List.getD_eq_getElem?_getD, List.getElem?_eq_getElem (by omega)]
      exact List.getElem_mem _
    have h2 : (anyV (pebT (pebT t 9) 3) (signL "abcdefghijou")).length ≤ 1 ∧ ∀ c ∈ (anyV (pebT (pebT t 9) 3) (signL "abcdefghijou")).cps.toList, 33 ≤ c ∧ c < 127 := by
      have hb := pebV_lt (pebT (pebT t 9) 3) (m := ((signL "abcdefghijou").length : Int)) (by decide +kernel)
      have : ∀ y ∈ (signL "abcdefghijou"), y.length ≤ 1 ∧ ∀ c ∈ y.cps.toList, 33 ≤ c ∧ c < 127 := by decide +kernel
      refine this _ ?_
      unfold anyV
      rw [List.getD_eq_getElem?_getD, List.getElem?_eq_getElem (by omega)]
      exact List.getElem_mem _
    rw [wd_iff]
    refine ⟨by rw [app_len]; omega, fun c hc => ?_⟩
    rw [app_list] at hc
    rcases List.mem_append.mp hc with h | h
    · exact h1.2 c h
    · exact h2.2 c h
  split
  · exact wd_let (by decide) (by decide +kernel) (by decide +kernel) (by omega)
  split
  · exact wd_let (by decide) (by decide +kernel) (by decide +kernel) (by omega)
  · exact wd_any (by decide +kernel) (by decide +kernel)
end
end K61
namespace K61
open PySem PySem.Spec PyProof.Rows L2 Pk
local macro_rules | `(tactic| walk_at "lt") => `(tactic| first | decide | (dsimp only; decide) | (dsimp only [List.length]; decide) | (dsimp only [List.set, List.length]; decide))
local macro_rules | `(tactic| walk_at "ev1") => `(tactic| first
  | with_reducible exact ev_cI | with_reducible exact ev_cS | with_reducible exact ev_cB | with_reducible exact ev_cN | with_reducible exact ea_nil
  | ((with_reducible apply ev_var); exact rfl)
  | ((with_reducible apply ev_cG); assumption)
  | with_reducible apply ea_cons
  | with_reducible apply ev_op
  | with_reducible exact rv_addI | with_reducible exact rv_subI | with_reducible exact rv_ltI | with_reducible exact rv_leI | with_reducible exact rv_gtI | with_reducible exact rv_geI | with_reducible exact rv_eqDI | with_reducible exact rv_neDI
  | with_reducible exact rv_eqDS | with_reducible exact rv_neDS | with_reducible exact rv_inS1 | with_reducible exact rv_notInS1 | with_reducible exact rv_inTup | with_reducible exact rv_inLst
  | with_reducible apply rv_addT | with_reducible apply rv_ixS
  | with_reducible apply et_and | with_reducible apply et_or | with_reducible apply et_not | with_reducible apply et_test | with_reducible apply et_B
  | with_reducible apply ev_andV | with_reducible apply ev_orV | with_reducible apply ev_notV
  | ((with_reducible apply ev_lenQ); (with_reducible apply eq_var); exact rfl)
  | with_reducible apply ev_anyMap | with_reducible apply ev_allMap | with_reducible apply ei_strM
  | with_reducible apply ev_isi
  | (show kitB _ _ = some _; exact rfl)
  | with_reducible apply ev_cb
  | with_reducible apply rc_lenS | with_reducible exact rc_int | with_reducible exact rc_intB | with_reducible exact rc_abs | with_reducible exact rc_max2 | with_reducible exact rc_max3 | with_reducible exact rc_min2
  | with_reducible apply ev_slS | with_reducible exact eo_none | with_reducible apply eo_some
  | with_reducible apply ev_ifX | exact Pk.ite_int | exact Pk.ite_str | exact Pk.ite_bool
  | walk_at "call" | with_reducible apply ev_tup | with_reducible apply ev_lst
  | ((with_reducible show _ < Fr.n _); walk_at "lt") | ((with_reducible show Fr.n _ ≤ List.length _); walk_at "lt")
  | ((with_reducible intro _); first | exact rfl | skip) | fail)
local macro_rules | `(tactic| walk_at "call") => `(tactic| fail)
local macro_rules | `(tactic| walk_at "sd") => `(tactic| first | assumption | omega | (rw [sizeLine_eq]; omega) | (rw [str_len]; omega) | (dsimp only [List.length]; decide) | (simp only [decide_eq_true_eq, decide_eq_false_iff_not] at *; first | omega | (rw [sizeLine_eq]; omega)))
local macro_rules | `(tactic| walk_at "ev") => `(tactic| focus (repeat' (walk_at "ev1")))
local macro_rules | `(tactic| walk_at "w1") => `(tactic| first
  | with_reducible apply w_asg | with_reducible apply w_par | with_reducible apply w_ret | with_reducible apply w_asg1 | with_reducible apply w_retS | with_reducible apply w_skip | with_reducible apply w_ifS | with_reducible apply w_assoc
  | ((with_reducible show _ < Fr.n _); walk_at "lt") | ((with_reducible show Fr.n _ ≤ List.length _); walk_at "lt") | fail)
local macro_rules | `(tactic| walk_at "wk") => `(tactic| focus (repeat' (first | walk_at "w1" | walk_at "ev1")))
local macro_rules | `(tactic| walk_at "st") => `(tactic| dsimp only [cxOf, L2.Cx.nox, s0, List.map, List.length, List.replicate, List.cons_append, List.nil_append, Nat.reduceAdd, Nat.reduceSub, Nat.reduceMul, Nat.succ_eq_add_one, List.replicate_succ, List.replicate_zero, List.append_eq, List.append])
section
variable {P : Program} {w : World} {K : PySem.W.Frag} {mg : Str → Option Value} {base : Heap} {V : Ad}
/-! what repr shows -/
theorem reprOk_of {d : PyData} (h1 : d.canLay0 = true) (h2 : d.showable = true) (h3 : d.depth ≤ 64) (h4 : shS d ≤ 16000000) : reprOk d = true := by
  unfold reprOk SeqAt.shaped
  rw [h1, h2, decide_eq_true h3, decide_eq_true h4]
  rfl
def sumL (ws : List Str) : Nat := (ws.map (·.length)).sum
theorem lay_strs : ∀ ws : List Str, (∀ w ∈ ws, PyData.strOk w = true) → PyData.canLayAll0 (ws.map .str) = true
  | [], _ => rfl
  | w :: ws, h => by
    show (PyData.strOk w && PyData.canLayAll0 (ws.map .str)) = true
    rw [h w List.mem_cons_self, lay_strs ws fun v hv => h v (List.mem_cons_of_mem _ hv)]
    rfl
theorem show_strs : ∀ ws : List Str, PyData.showableAll (ws.map .str) = true
  | [] => by simp only [List.map_nil, PyData.showableAll]
  | w :: ws => by simp only [List.map_cons, PyData.showableAll, PyData.showable, show_strs ws, Bool.and_self]
theorem depth_strs : ∀ ws : List Str, PyData.depthAll (ws.map .str) = 0
  | [] => by simp only [List.map_nil, PyData.depthAll]
  | w :: ws => by simp only [List.map_cons, PyData.depthAll, PyData.depth, depth_strs ws, Nat.max_self]
theorem sh_strs : ∀ ws : List Str, shS.shSA (ws.map .str) = 10 * sumL ws + 4 * ws.length
  | [] => rfl
  | w :: ws => by
    have := sh_strs ws
    show 10 * w.length + 2 + 2 + shS.shSA (ws.map .str) = 10 * sumL (w :: ws) + 4 * (ws.length + 1)
    have e : sumL (w :: ws) = w.length + sumL ws := by unfold sumL; simp
    rw [this, e]
    omega
theorem ok_two {ws : List Str} (h : ∀ w ∈ ws, PyData.strOk w = true) (hs : 10 * sumL ws + 4 * ws.length ≤ 1000000) : reprOk (.tuple [.list [.tuple (ws.map .str)], .list [.tuple (ws.map .str)]]) = true := by
  refine reprOk_of ?_ ?_ ?_ ?_
  · simp only [PyData.canLay0, PyData.canLayAll0, lay_strs ws h, Bool.and_self]
  · simp only [PyData.showable, PyData.showableAll, show_strs ws, Bool.and_self]
  · simp only [PyData.depth, PyData.depthAll, depth_strs ws]
    decide
  · have e := sh_strs ws
    show shS.shSA (ws.map .str) + 3 + 2 + 0 + 3 + 2 + (shS.shSA (ws.map .str) + 3 + 2 + 0 + 3 + 2 + 0) + 3 ≤ _
    omega
theorem ok_one {w : Str} (h : PyData.strOk w = true) (hs : w.length ≤ 100000) : reprOk (.list [.str w]) = true := by
  refine reprOk_of ?_ ?_ ?_ ?_
  · simp only [PyData.canLay0, PyData.canLayAll0, h, Bool.and_self]
  · simp only [PyData.showable, PyData.showableAll, Bool.and_self]
  · simp only [PyData.depth, PyData.depthAll]
    decide
  · show 10 * w.length + 2 + 2 + 0 + 3 ≤ _
    omega
theorem ok_ref {d : PyData} (h : d.canLay0 = true) (h2 : d.showable = true) (h3 : d.depth ≤ 60) (h4 : shS d ≤ 1000000) : reprOk (.tuple [.str "refused", d]) = true := by
  refine reprOk_of ?_ ?_ ?_ ?_
  · have e : PyData.strOk "refused" = true := by decide +kernel
    simp only [PyData.canLay0, PyData.canLayAll0, e, h, Bool.and_self]
  · simp only [PyData.showable, PyData.showableAll, h2, Bool.and_self]
  · simp only [PyData.depth, PyData.depthAll]
    omega
  · show 10 * 7 + 2 + 2 + (shS d + 2 + 0) + 3 ≤ _
    omega
/-! lines -/
structure Ln (x : Str) (n : Nat) : Prop where
  cs : ∀ c ∈ x.cps.toList, 32 ≤ c ∧ c < 127
  ln : x.length ≤ n
theorem Ln.ok {x : Str} {n : Nat} (h : Ln x n) : PyData.strOk x = true := (strOk_iff x).mpr fun c hc => by have := h.cs c hc; omega
theorem Ln.good {x : Str} {n : Nat} (h : Ln x n) (hn : n ≤ 10000) : goodS x := ⟨h.ok, Nat.le_trans h.ln hn⟩
theorem Ln.app {x y : Str} {m n : Nat} (h : Ln x m) (g : Ln y n) : Ln (x ++ y) (m + n) :=
  ⟨fun c hc => by
    rw [app_list] at hc
    exact (List.mem_append.mp hc).elim (h.cs c) (g.cs c), by rw [app_len]; have := h.ln; have := g.ln; omega⟩
theorem repS_bl (k : Int) : (repS " " k).cps.toList = List.replicate k.toNat 32 := by
  rw [repS_list]
  have e : ((" " : Str)).cps.toList = [32] := rfl
  rw [e]
  generalize k.toNat = n
  induction n with
  | zero => rfl
  | succ n ih =>
    rw [List.replicate_succ, List.flatten_cons, ih, List.replicate_succ]
    rfl
theorem Ln.bl {k : Int} {n : Nat} (h : k.toNat ≤ n) : Ln (repS " " k) n :=
  ⟨fun c hc => by
    rw [repS_bl] at hc
    rw [(List.mem_replicate.mp hc).2]
    omega, by rw [← str_len, repS_bl, List.length_replicate]; exact h⟩
def nb (x : Str) : List Nat := x.cps.toList.filter fun c => !decide (c = 32)
theorem nb_app (x y : Str) : nb (x ++ y) = nb x ++ nb y := by
  unfold nb
  rw [app_list, List.filter_append]
theorem nb_bl (k : Int) : nb (repS " " k) = [] := by
  unfold nb
  rw [repS_bl]
  generalize k.toNat = n
  induction n with
  | zero => rfl
  | succ n ih =>
    rw [List.replicate_succ, List.filter_cons_of_neg (by simp)]
    exact ih
theorem nb_wd {x : Str} (h : wdB x = true) : nb x = x.cps.toList := by
  unfold nb
  rw [List.filter_eq_self]
  intro c hc
  have := ((wd_iff x).mp h).2 c hc
  have n : ¬ c = 32 := by omega
  simp [n]
theorem Ln.wd {x : Str} (h : wdB x = true) : Ln x 12 := ⟨fun c hc => by have := ((wd_iff x).mp h).2 c hc; omega, ((wd_iff x).mp h).1⟩
/-- the words of a line -/
theorem words_list (x : Str) : (wordsS x).map (·.cps.toList) = wordsL x.cps.toList := by
  unfold wordsS
  rw [List.map_map]
  have : ∀ l : List (List Nat), l.map ((fun y : Str => y.cps.toList) ∘ mkS) = l := fun l => by
    induction l with
    | nil => rfl
    | cons a l ih =>
      rw [List.map_cons, ih]
      exact congrArg (· :: l) (mkS_list a)
  exact this _
theorem words_nb (x : Str) : ((wordsS x).map (·.cps.toList)).flatten = nb x := by
  rw [words_list]
  exact words_flat _ _ (Nat.le_refl _)
theorem sumL_flat (ws : List Str) : sumL ws = ((ws.map (·.cps.toList)).flatten).length := by
  unfold sumL
  rw [List.length_flatten, List.map_map]
  congr 1
theorem words_sum (x : Str) : sumL (wordsS x) ≤ x.length := by
  rw [sumL_flat, words_nb, ← str_len]
  exact List.length_filter_le _ _
theorem words_num (x : Str) : (wordsS x).length ≤ x.length := by
  rw [← cut_words]
  unfold cutW
  rw [List.length_map, ← str_len]
  exact (cutOk x.cps.toList _ (Nat.le_refl _)).ln
theorem mem_sum : ∀ (l : List Nat) (a : Nat), a ∈ l → a ≤ l.sum
  | [], a, h => absurd h List.not_mem_nil
  | b :: l, a, h => by
    rw [List.sum_cons]
    rcases List.mem_cons.mp h with rfl | h
    · omega
    · have := mem_sum l a h
      omega
theorem words_ln {x : Str} {n : Nat} (h : Ln x n) {w : Str} (hw : w ∈ wordsS x) : Ln w n := by
  unfold wordsS at hw
  obtain ⟨l, hl, rfl⟩ := List.mem_map.mp hw
  have h1 := (words_wordy _ _ (Nat.le_refl _) l hl).2
  refine ⟨fun c hc => h.cs c (h1 c (by rw [mkS_list] at hc; exact hc)), ?_⟩
  have h2 : (mkS l).length ≤ sumL (wordsS x) := by
    unfold sumL
    exact mem_sum _ _ (List.mem_map.mpr ⟨mkS l, hw, rfl⟩)
  have := words_sum x
  have := h.ln
  omega
theorem join_words (x : Str) : wordsS (Txt.join " " (wordsS x)) = wordsS x := by
  unfold wordsS
  rw [join_bl, words_join _ fun w hw => (words_wordy _ _ (Nat.le_refl _) w hw).1]
theorem join_cs : ∀ (ws : List Str), (∀ w ∈ ws, ∀ c ∈ w.cps.toList, 32 ≤ c ∧ c < 127) → ∀ c ∈ (Txt.join " " ws).cps.toList, 32 ≤ c ∧ c < 127
  | [], _, c, hc => absurd hc List.not_mem_nil
  | [w], h, c, hc => h w List.mem_cons_self c hc
  | w :: v :: ws, h, c, hc => by
    rw [join_cons, app_list, app_list] at hc
    rcases List.mem_append.mp hc with hc | hc
    · rcases List.mem_append.mp hc with hc | hc
      · exact h w List.mem_cons_self c hc
      · have e : c = 32 := List.mem_singleton.mp hc
        omega
    · exact join_cs (v :: ws) (fun u hu => h u (List.mem_cons_of_mem _ hu)) c hc
theorem join_len : ∀ (ws : List Str), (Txt.join " " ws).length ≤ sumL ws + ws.length
  | [] => by decide +kernel
  | [w] => by
    show w.length ≤ sumL [w] + 1
    unfold sumL
    simp
  | w :: v :: ws => by
    have := join_len (v :: ws)
    rw [join_cons, app_len, app_len]
    have e : sumL (w :: v :: ws) = w.length + sumL (v :: ws) := by unfold sumL; simp
    have e1 : ((" " : Str)).length = 1 := rfl
    rw [e, e1]
    show _ ≤ _ + ((v :: ws).length + 1)
    omega
theorem join_ln {x : Str} {n : Nat} (h : Ln x n) : Ln (Txt.join " " (wordsS x)) (2 * n) :=
  ⟨join_cs _ fun w hw => (words_ln h hw).cs, by
    have := join_len (wordsS x)
    have := words_sum x
    have := words_num x
    have := h.ln
    omega⟩
theorem Ln.end_ {x : Str} {n : Nat} (h : Ln x n) : decide (10 ∈ x.cps.toList) = false := decide_eq_false fun z => by have := h.cs 10 z; omega
theorem heard_line {x : Str} {n : Nat} (h : Ln x n) : heardD 0 (.str x) = .list [.tuple ((wordsS x).map .str)] := by
  unfold heardD
  rw [if_pos rfl]
  dsimp only
  rw [if_neg (by rw [h.end_]; exact Bool.false_ne_true)]
theorem heard_word (x : Str) : heardD 1 (.str x) = .list [.str (toldK x)] := by
  rw [← kinds_same]
  rfl
theorem kind_ok {x : Str} (h : goodS x) : PyData.strOk (toldK x) = true ∧ (toldK x).length ≤ 10000 := by
  rw [← kinds_same]
  unfold kindS
  split
  · exact h
  split
  · split <;> exact ⟨by decide +kernel, by decide +kernel⟩
  split
  · exact ⟨by decide +kernel, by decide +kernel⟩
  split <;> exact ⟨by decide +kernel, by decide +kernel⟩
/-- what is refused -/
structure Odd (way : Int) (d : PyData) : Prop where
  good : goodD d
  hd : heardD way d = .tuple [.str "refused", d]
  ok : reprOk (.tuple [.str "refused", d]) = true
abbrev sRight (K : PySem.W.Frag) : Sp := spB K (fun t : Tray => trD t) (fun _ => []) (fun _ => True) (fun _ => .bool true)
theorem ok_right (T : Tx P K mg V) : FnG P w K mg base 6 V.A__law_is_right V.D__law_is_right ["tray"] (sRight K) := by
  have ok__law_pebble := @ok_peb
  have ok__law_dealt_word := @ok_deal
  have ok__law_cut := @ok_cut
  have ok__law_heard := @ok_heard
  have ok__law_same := @ok_same
  have ok__law_told_kind := @ok_told
  have G__law_heard := ok__law_heard (w := w) (base := base) T
  have G__law_pebble := ok__law_pebble (w := w) (base := base) T
  have G__law_dealt_word := ok__law_dealt_word (w := w) (base := base) T
  have G__law_cut := ok__law_cut (w := w) (base := base) T
  have G__law_same := ok__law_same (w := w) (base := base) T
  have G__law_told_kind := ok__law_told_kind (w := w) (base := base) T
  refine okB T.F__law_is_right sc__law_is_right (fun a => rfl) (fun cdv Ar outer s H E hr hG => ⟨_, PSs.nox ((pss_cons (ps_par (i := 7) (j := 2) rfl sc__law_is_right.nd rfl rfl (by decide) rfl rfl (pa_cons (pe_lst pa_nil) (pa_cons pe_str pa_nil)) (by rfl))
      (pss_cons (ps_for PassesOwn.never rfl (pi_range1 (by rfl) T.n_range (pa_cons (pe_g (E := E0) G__law_pebble (hr.mono (by decide)) hG (by rfl) T.g__law_pebble T.F__law_pebble.kp T.b__law_pebble .nil passL (pa_cons (pv 0) (pa_cons pe_int pa_nil))) pa_nil)) (pg_name (i := 1) sc__law_is_right.nd rfl (.inl rfl)) (pss_cons (ps_set (i := 5) sc__law_is_right.nd rfl (.inl rfl) (pe_g (E := E0) G__law_dealt_word (hr.mono (by decide)) hG (by rfl) T.g__law_dealt_word T.F__law_dealt_word.kp T.b__law_dealt_word .nil passL (pa_cons (pv 0) pa_nil)))
      (pss_cons (ps_expr (pe_bm PySem.F.plainAttrs_list PySem.F.slot_list_append PySem.F.type_list_append mt_append (pv 7) (pa_cons (pv 5) pa_nil)))
      (pss_one (ps_set (i := 2) sc__law_is_right.nd rfl (.inl rfl) (pe_op op_addA (pe_op op_addA (pv 2) (pv 5)) (pe_op op_mulA pe_str (pe_g (E := E0) G__law_pebble (hr.mono (by decide)) hG (by rfl) T.g__law_pebble T.F__law_pebble.kp T.b__law_pebble .nil passL (pa_cons (pv 0) (pa_cons pe_int pa_nil))))))))))
      (pss_cons (ps_set (i := 2) sc__law_is_right.nd rfl (.inl rfl) (pe_op op_addA (pe_op op_mulA pe_str (pe_g (E := E0) G__law_pebble (hr.mono (by decide)) hG (by rfl) T.g__law_pebble T.F__law_pebble.kp T.b__law_pebble .nil passL (pa_cons (pv 0) (pa_cons pe_int pa_nil)))) (pv 2)))
      (pss_cons (ps_set (i := 3) sc__law_is_right.nd rfl (.inl rfl) (pe_callTy call_tupleA (by rfl) T.n_tuple (by decide +kernel) (pa_cons (pe_g (E := E0) G__law_cut (hr.mono (by decide)) hG (by rfl) T.g__law_cut T.F__law_cut.kp T.b__law_cut .nil passL (pa_cons (pv 2) pa_nil)) pa_nil)))
      (pss_cons (ps_set (i := 4) sc__law_is_right.nd rfl (.inl rfl) (pe_g (E := E0) G__law_heard (hr.mono (by decide)) hG (by rfl) T.g__law_heard T.F__law_heard.kp T.b__law_heard .nil passL (pa_cons pe_int (pa_cons (pv 2) (pa_cons (pe_cmpR (op_eqA hr.units) (pe_g (E := E0) G__law_pebble (hr.mono (by decide)) hG (by rfl) T.g__law_pebble T.F__law_pebble.kp T.b__law_pebble .nil passL (pa_cons (pv 0) (pa_cons pe_int pa_nil))) pe_int (nomark _)) pa_nil)))))
      (pss_cons (ps_if (PW.pt (pw_or (pt_not (pt_val (pe_g (E := E0) G__law_same (hr.mono (by decide)) hG (by rfl) T.g__law_same T.F__law_same.kp T.b__law_same .nil passL (pa_cons (pe_tup (pa_cons (pv 4) (pa_cons (pe_g (E := E0) G__law_heard (hr.mono (by decide)) hG (by rfl) T.g__law_heard T.F__law_heard.kp T.b__law_heard .nil passL (pa_cons pe_int (pa_cons (pe_bm PySem.F.plainAttrs_str PySem.F.slot_str_join PySem.F.type_str_join mt_joinA pe_str (pa_cons (pv 3) pa_nil)) (pa_cons pe_bl pa_nil)))) pa_nil))) (pa_cons (pe_tup (pa_cons (pe_lst (pa_cons (pv 3) pa_nil)) (pa_cons (pe_lst (pa_cons (pv 3) pa_nil)) pa_nil))) pa_nil))))) (pw_or1 (pt_cmpR (op_neA hr.units) (pe_bm PySem.F.plainAttrs_str PySem.F.slot_str_join PySem.F.type_str_join mt_joinA pe_str (pa_cons (pv 3) pa_nil)) (pe_bm PySem.F.plainAttrs_str PySem.F.slot_str_join PySem.F.type_str_join mt_joinA pe_str (pa_cons (pv 7) pa_nil)) (nomark _))))) (pss_one (ps_ret pe_bl)) pss_nil)
      (pss_cons (ps_for PassesOwn.never rfl (pi_list (pe_op op_addA (pv 7) (pe_callTy (call_listA rfl) (by rfl) T.n_list (by decide +kernel) (pa_cons (pv 3) pa_nil)))) (pg_name (i := 5) sc__law_is_right.nd rfl (.inl rfl)) (pss_one (ps_if (pt_not (pt_val (pe_g (E := E0) G__law_same (hr.mono (by decide)) hG (by rfl) T.g__law_same T.F__law_same.kp T.b__law_same .nil passL (pa_cons (pe_g (E := E0) G__law_heard (hr.mono (by decide)) hG (by rfl) T.g__law_heard T.F__law_heard.kp T.b__law_heard .nil passL (pa_cons pe_int (pa_cons (pv 5) (pa_cons (pe_cmpR (op_eqA hr.units) (pe_g (E := E0) G__law_pebble (hr.mono (by decide)) hG (by rfl) T.g__law_pebble T.F__law_pebble.kp T.b__law_pebble .nil passL (pa_cons (pv 0) (pa_cons pe_int pa_nil))) pe_int (nomark _)) pa_nil)))) (pa_cons (pe_lst (pa_cons (pe_g (E := E0) G__law_told_kind (hr.mono (by decide)) hG (by rfl) T.g__law_told_kind T.F__law_told_kind.kp T.b__law_told_kind .nil passL (pa_cons (pv 5) pa_nil)) pa_nil)) pa_nil))))) (pss_one (ps_ret pe_bl)) pss_nil)))
      (pss_cons (ps_for PassesOwn.never rfl (pi_tup (pe_tup (pa_cons pe_non (pa_cons pe_int (pa_cons (pe_lst pa_nil) (pa_cons (pe_tup (pa_cons (pv 2) pa_nil)) (pa_cons (pe_op op_addA (pv 2) pe_str) (pa_cons (pe_op op_addA pe_str (pv 2)) (pa_cons pe_bl pa_nil))))))))) (pg_name (i := 6) sc__law_is_right.nd rfl (.inl rfl)) (pss_one (ps_if (pt_not (pt_val (pe_g (E := E0) G__law_same (hr.mono (by decide)) hG (by rfl) T.g__law_same T.F__law_same.kp T.b__law_same .nil passL (pa_cons (pe_g (E := E0) G__law_heard (hr.mono (by decide)) hG (by rfl) T.g__law_heard T.F__law_heard.kp T.b__law_heard .nil passL (pa_cons pe_int (pa_cons (pv 6) (pa_cons (pe_cmpR (op_eqA hr.units) (pe_g (E := E0) G__law_pebble (hr.mono (by decide)) hG (by rfl) T.g__law_pebble T.F__law_pebble.kp T.b__law_pebble .nil passL (pa_cons (pv 0) (pa_cons pe_int pa_nil))) pe_int (nomark _)) pa_nil)))) (pa_cons (pe_tup (pa_cons pe_str (pa_cons (pv 6) pa_nil))) pa_nil))))) (pss_one (ps_ret pe_bl)) pss_nil)))
      (pss_one (ps_ret (pe_not (pe_callB (cr_any rfl) (by rfl) T.n_any (by decide +kernel) (pa_cons (pe_lc (own := [("odd", 6)]) rfl sc__law_is_right.nd (pi_tup (pe_tup (pa_cons pe_non (pa_cons pe_int (pa_cons (pe_lst pa_nil) (pa_cons (pe_tup (pa_cons pe_str pa_nil)) (pa_cons pe_bl pa_nil))))))) (blkOk_by (N := ["tray", "lap", "line", "due", "heard", "word", "odd", "parts"]) (sc := defScope s__law_is_right) (by decide +kernel)) (fun _ _ _ _ _ => pg_name (i := 6) sc__law_is_right.nd rfl (.inl rfl) (.inr rfl)) (fun _ _ _ _ _ => pts_nil) (fun _ _ _ _ _ => (pe_not (pe_g (E := E0) G__law_same (hr.mono (by decide)) hG (by rfl) T.g__law_same T.F__law_same.kp T.b__law_same .nil passL (pa_cons (pe_g (E := E0) G__law_heard (hr.mono (by decide)) hG (by rfl) T.g__law_heard T.F__law_heard.kp T.b__law_heard .nil passL (pa_cons pe_int (pa_cons (pv 6) (pa_cons (pe_cmpR ((op_eqA hr.units) : OpR _ _ (rEqA K)) (pe_g (E := E0) G__law_pebble (hr.mono (by decide)) hG (by rfl) T.g__law_pebble T.F__law_pebble.kp T.b__law_pebble .nil passL (pa_cons (pv 0) (pa_cons pe_int pa_nil))) pe_int (nomark _)) pa_nil)))) (pa_cons (pe_tup (pa_cons pe_str (pa_cons (pv 6) pa_nil))) pa_nil)))))) pa_nil)))))))))))))), ?_⟩)
  rintro t G0 p _
  walk_at "st"
  have flip : ∀ {s : Sts} {t : Tray}, s[0]? = some (.ls p (trD t)) → Ev ⟨K, G0, H, [p], 8⟩ (tOp (rEqA K) (tCall (sPeb K) [] E0 (tCons (tVar 0) (tCons (tC (.int 2)) tNil))) (tC (.int 0))) s (.bool (decide (pebV t 2 = 0))) (s.set 0 (.ls p (trD (pebT t 2)))) := fun {s t} h =>
    ev_op (c_peb h (ea_cons ev_cI ea_nil) h (by decide) (by decide)) ev_cI rv_eqDI
  refine w_parL (el_lst ea_nil (by walk_at "lt")) (fun p => ev_cS) (by walk_at "lt") (by walk_at "lt") (by decide) (by walk_at "lt") fun r hr => ?_
  dsimp only [List.set]
  have b20 := pebV_lt t (m := 20) (by decide)
  refine w_seq (fun s' => ∃ (t : Tray) (ws : List Str) (x : Str) (q1 q5 : SV), s' = [.ls p (trD t), q1, .im (.str x), .un, .un, q5, .un, .ls r (ws.map .str)] ∧ Ln x 280 ∧ ws.length ≤ 20 ∧ (∀ w ∈ ws, wdB w = true) ∧ nb x = (ws.map (·.cps.toList)).flatten)
    (w_for (vs := [1]) (ei_rng1 (ea_cons (c_peb rfl (ea_cons ev_cI ea_nil) rfl (by decide) (by decide)) ea_nil) (by omega) (by omega)) (fun i s' => ∃ (t : Tray) (ws : List Str) (x : Str) (q1 q5 : SV), s' = [.ls p (trD t), q1, .im (.str x), .un, .un, q5, .un, .ls r (ws.map .str)] ∧ Ln x (14 * i) ∧ ws.length = i ∧ (∀ w ∈ ws, wdB w = true) ∧ nb x = (ws.map (·.cps.toList)).flatten)
      ⟨pebT t 20, [], "", .un, .un, rfl, ⟨fun c hc => absurd hc List.not_mem_nil, Nat.le_refl _⟩, rfl, fun w hw => absurd hw List.not_mem_nil, rfl⟩ (fun i d s' hd hI => ?_) (fun s' hI => ?_)) ?_
  · obtain ⟨t1, ws, x, q1, q5, rfl, hx, hl, hw, hn⟩ := hI
    obtain ⟨hi, rfl⟩ := rangeD_get hd
    have h3 := pebV_lt (dealF t1).2 (m := 3) (by decide)
    have hwd := wd_deal t1
    have lw := Ln.wd hwd
    refine ⟨_, tg_name (by walk_at "lt") (by simp), ?_⟩
    dsimp only [List.set]
    refine w_asg (c_deal rfl) (by walk_at "lt") ?_
    dsimp only [List.set]
    refine w_app rfl (ev_var rfl) rfl (by rw [List.length_map, sizeLine_eq]; omega) ?_
    dsimp only [List.set]
    refine w_asg1 (ev_op (ev_op (ev_var rfl) (ev_var rfl) (rv_addT ?_)) (ev_op ev_cS (c_peb (t := (dealF t1).2) rfl (ea_cons ev_cI ea_nil) rfl (by decide) (by decide)) (rv_mulS h3.1 (by omega) (by decide +kernel))) (rv_addT ?_)) (by walk_at "lt")
      ⟨pebT (dealF t1).2 3, ws ++ [(dealF t1).1], x ++ (dealF t1).1 ++ repS " " (pebV (dealF t1).2 3), .im (.int (0 + (i : Int))), .im (.str (dealF t1).1), ?_, ?_, ?_, ?_, ?_⟩
    · have := hx.ln
      have := lw.ln
      rw [sizeLine_eq]
      omega
    · have := hx.ln
      have := lw.ln
      have := (Ln.bl (k := pebV (dealF t1).2 3) (n := 2) (by omega)).ln
      rw [app_len, sizeLine_eq]
      omega
    · rw [List.map_append]
      rfl
    · have := (hx.app lw).app (Ln.bl (k := pebV (dealF t1).2 3) (n := 2) (by omega))
      exact ⟨this.cs, by have := this.ln; omega⟩
    · rw [List.length_append]
      show ws.length + 1 = _
      omega
    · intro w hw'
      rcases List.mem_append.mp hw' with h | h
      · exact hw w h
      · rw [List.mem_singleton.mp h]
        exact hwd
    · rw [nb_app, nb_app, nb_bl, List.append_nil, hn, nb_wd hwd, List.map_append, List.flatten_append]
      simp
  · obtain ⟨t1, ws, x, q1, q5, rfl, hx, hl, hw, hn⟩ := hI
    rw [rangeD_len] at hx hl
    exact ⟨t1, ws, x, q1, q5, rfl, ⟨hx.cs, by have := hx.ln; omega⟩, by omega, hw, hn⟩
  rintro _ ⟨t1, ws, x0, q1, q5, rfl, hx0, hl, hw, hn0⟩
  have b2 := pebV_lt t1 (m := 2) (by decide)
  have lb := Ln.bl (k := pebV t1 2) (n := 1) (by omega)
  refine w_asg (ev_op (ev_op ev_cS (c_peb (t := t1) rfl (ea_cons ev_cI ea_nil) rfl (by decide) (by decide)) (rv_mulS b2.1 (by omega) (by decide +kernel))) (ev_var rfl) (rv_addT (by have := hx0.ln; have := lb.ln; rw [sizeLine_eq]; omega))) (by walk_at "lt") ?_
  have hx := lb.app hx0
  have hn : nb (repS " " (pebV t1 2) ++ x0) = (ws.map (·.cps.toList)).flatten := by rw [nb_app, nb_bl, hn0]; rfl
  generalize repS " " (pebV t1 2) ++ x0 = x at *
  generalize pebT t1 2 = t2
  dsimp only [List.set]
  have hg := hx.good (by omega)
  have hcut := c_cut (F := ⟨K, G0, H, [p], 8⟩) (s := [SV.ls p (trD t2), q1, .im (.str x), .un, .un, q5, .un, .ls r (ws.map .str)]) (E := E0) (ta := tCons (tVar 2) tNil) (ea_cons (ev_var rfl) ea_nil) hg
  rw [cut_words] at hcut
  refine w_asg (ev_tupleQ (eq_lst hcut)) (by walk_at "lt") ?_
  dsimp only [List.set]
  refine w_asg (c_heard (ea_cons ev_cI (ea_cons (ev_var rfl) (ea_cons (flip rfl) ea_nil))) (fun y e => by cases e; exact hg) (.inl rfl)) (by walk_at "lt") ?_
  rw [heard_line hx]
  dsimp only [List.set]
  generalize pebT t2 2 = t3
  have lj := join_ln hx
  have s1 : sumL (wordsS x) ≤ 281 := Nat.le_trans (words_sum x) hx.ln
  have s2 : (wordsS x).length ≤ 281 := Nat.le_trans (words_num x) hx.ln
  have s3 : sumL ws ≤ 281 := by
    rw [sumL_flat, ← hn]
    have := hx.ln
    have := List.length_filter_le (fun c => !decide (c = 32)) x.cps.toList
    rw [str_len] at this
    unfold nb
    omega
  have e0 : (("" : Str)).length = 0 := rfl
  have e1 : ((" " : Str)).length = 1 := rfl
  have eqj : Txt.join "" (wordsS x) = Txt.join "" ws := str_ext (by rw [join_emp, join_emp, words_nb, hn])
  have hok : ∀ w ∈ wordsS x, PyData.strOk w = true := fun w h => (words_ln hx h).ok
  have szB : ((wordsS x).map (·.length)).sum + (wordsS x).length * ((" " : Str)).length ≤ 16777216 := by
    have : ((wordsS x).map (·.length)).sum = sumL (wordsS x) := rfl
    rw [this, e1]
    omega
  have szE : ((wordsS x).map (·.length)).sum + (wordsS x).length * (("" : Str)).length ≤ 16777216 := by
    have : ((wordsS x).map (·.length)).sum = sumL (wordsS x) := rfl
    rw [this, e0]
    omega
  have szP : (ws.map (·.length)).sum + ws.length * (("" : Str)).length ≤ 16777216 := by
    have : (ws.map (·.length)).sum = sumL ws := rfl
    rw [this, e0]
    omega
  have hj : heardD 0 (.str (Txt.join " " (wordsS x))) = .list [.tuple ((wordsS x).map .str)] := by rw [heard_line lj, join_words]
  refine w_ifS (b := false) (EvT.to (et_or (et_not (et_B (c_same (d := .tuple [.list [.tuple ((wordsS x).map .str)], .list [.tuple ((wordsS x).map .str)]])
      (ea_cons (ev_tup (ea_cons (ev_var rfl) (ea_cons (Ev.to (c_heard (ea_cons ev_cI (ea_cons (ev_join ev_cS (es_tup (ev_var rfl)) szB) (ea_cons ev_cB ea_nil))) (fun y e => by cases e; exact lj.good (by omega)) (.inl rfl)) hj) ea_nil)) (by walk_at "lt"))
        (ea_cons (ev_tup (ea_cons (ev_lst (ea_cons (ev_var rfl) ea_nil) (by walk_at "lt")) (ea_cons (ev_lst (ea_cons (ev_var rfl) ea_nil) (by walk_at "lt")) ea_nil)) (by walk_at "lt")) ea_nil)) (ok_two hok (by omega)))))
    (fun _ => et_test (ev_op (ev_join ev_cS (es_tup (ev_var rfl)) szE) (ev_join ev_cS (es_var rfl) szP) rv_neDS)) (fun _ => rfl)) (by rw [eqj]; simp)) (fun z => by cases z) (fun _ => w_skip ?_)
  -- each word's kind
  have hall : ∀ w ∈ ws ++ wordsS x, goodS w := fun w h => by
    rcases List.mem_append.mp h with h | h
    · exact (Ln.wd (hw w h)).good (by omega)
    · exact (words_ln hx h).good (by omega)
  refine w_seq (fun s' => ∃ (t : Tray) (q5 : SV), s' = [.ls p (trD t), q1, .im (.str x), .im (.tuple ((wordsS x).map .str)), .im (.list [.tuple ((wordsS x).map .str)]), q5, .un, .ls r (ws.map .str)])
    (w_for (vs := [5]) (ei_lst (ev_frz (el_cat rfl (el_listS (es_tup (ev_var rfl))) (by rw [List.length_map, List.length_map, sizeLine_eq]; omega))))
      (fun i s' => ∃ (t : Tray) (q5 : SV), s' = [.ls p (trD t), q1, .im (.str x), .im (.tuple ((wordsS x).map .str)), .im (.list [.tuple ((wordsS x).map .str)]), q5, .un, .ls r (ws.map .str)]) ⟨t3, q5, rfl⟩ (fun i d s' hd hI => ?_) (fun s' hI => hI)) ?_
  · obtain ⟨t4, q5', rfl⟩ := hI
    rw [← List.map_append, List.getElem?_map] at hd
    cases hc : (ws ++ wordsS x)[i]? with
    | none =>
      rw [hc] at hd
      cases hd
    | some v =>
      rw [hc] at hd
      cases hd
      have gv := hall v (List.mem_of_getElem? hc)
      have kv := kind_ok gv
      refine ⟨_, tg_name (by walk_at "lt") (by simp), ?_⟩
      dsimp only [List.set]
      refine w_if (b := false) (EvT.to (et_not (et_B (c_same (d := .list [.str (toldK v)]) (ea_cons (Ev.to (c_heard (ea_cons ev_cI (ea_cons (ev_var rfl) (ea_cons (flip rfl) ea_nil))) (fun y e => by cases e; exact gv) (.inr rfl)) (heard_word v))
        (ea_cons (ev_lst (ea_cons (c_told (ea_cons (ev_var rfl) ea_nil) gv) ea_nil) (by walk_at "lt")) ea_nil)) (ok_one kv.1 (by omega))))) rfl) (fun z => by cases z) (fun _ => w_next ⟨pebT t4 2, .im (.str v), rfl⟩)
  rintro _ ⟨t5, q5', rfl⟩
  -- what is refused
  have bad : ∀ y : Str, 10 ∈ y.cps.toList → PyData.strOk y = true → y.length ≤ 10000 → Odd 0 (.str y) := fun y h1 h2 h3 =>
    ⟨fun z e => by cases e; exact ⟨h2, h3⟩, by unfold heardD; rw [if_pos rfl]; dsimp only; rw [if_pos (decide_eq_true h1)], ok_ref h2 (by simp only [PyData.showable]) (by simp only [PyData.depth]; decide) (by show 10 * y.length + 2 ≤ _; omega)⟩
  have e10 : (("\n" : Str)).cps.toList = [10] := rfl
  have l10 : (("\n" : Str)).length = 1 := rfl
  have lx := hx.ln
  have ok1 : PyData.strOk (x ++ "\n") = true := (strOk_iff _).mpr fun c hc => by
    rw [app_list, e10] at hc
    rcases List.mem_append.mp hc with h | h
    · have := hx.cs c h
      omega
    · rw [List.mem_singleton.mp h]
      decide
  have ok2 : PyData.strOk ("\n" ++ x) = true := (strOk_iff _).mpr fun c hc => by
    rw [app_list, e10] at hc
    rcases List.mem_append.mp hc with h | h
    · rw [List.mem_singleton.mp h]
      decide
    · have := hx.cs c h
      omega
  have o1 : Odd 0 .none := ⟨fun z e => (by cases e), rfl, ok_ref rfl (by simp only [PyData.showable]) (by simp only [PyData.depth]; decide) (by decide +kernel)⟩
  have o2 : Odd 0 (.int 0) := ⟨fun z e => (by cases e), rfl, ok_ref rfl (by decide +kernel) (by simp only [PyData.depth]; decide) (by decide +kernel)⟩
  have o3 : Odd 0 (.list []) := ⟨fun z e => (by cases e), rfl, ok_ref rfl (by decide +kernel) (by decide +kernel) (by decide +kernel)⟩
  have o4 : Odd 0 (.tuple [.str x]) := ⟨fun z e => (by cases e), rfl, ok_ref (by simp only [PyData.canLay0, PyData.canLayAll0, hg.1, Bool.and_self]) (by simp only [PyData.showable, PyData.showableAll, Bool.and_self]) (by simp only [PyData.depth, PyData.depthAll]; decide) (by show 10 * x.length + 2 + 2 + 0 + 3 ≤ _; omega)⟩
  have o5 := bad (x ++ "\n") (by rw [app_list, e10]; simp) ok1 (by rw [app_len, l10]; omega)
  have o6 := bad ("\n" ++ x) (by rw [app_list, e10]; simp) ok2 (by rw [app_len, l10]; omega)
  have o7 : Odd 0 (.bool true) := ⟨fun z e => (by cases e), rfl, ok_ref rfl (by decide +kernel) (by decide +kernel) (by decide +kernel)⟩
  have odds : ∀ d ∈ [PyData.none, .int 0, .list [], .tuple [.str x], .str (x ++ "\n"), .str ("\n" ++ x), .bool true], Odd 0 d := fun d hd => by
    simp only [List.mem_cons, List.not_mem_nil, or_false] at hd
    rcases hd with rfl | rfl | rfl | rfl | rfl | rfl | rfl <;> assumption
  refine w_seq (fun s' => ∃ (t : Tray) (q6 : SV), s' = [.ls p (trD t), q1, .im (.str x), .im (.tuple ((wordsS x).map .str)), .im (.list [.tuple ((wordsS x).map .str)]), q5', q6, .ls r (ws.map .str)])
    (w_for (vs := [6]) (ei_tup (ds := [PyData.none, .int 0, .list [], .tuple [.str x], .str (x ++ "\n"), .str ("\n" ++ x), .bool true]) (ev_tup (ea_cons ev_cN (ea_cons ev_cI (ea_cons (ev_lst ea_nil (by walk_at "lt")) (ea_cons (ev_tup (ea_cons (ev_var rfl) ea_nil) (by walk_at "lt"))
        (ea_cons (ev_op (ev_var rfl) ev_cS (rv_addT (by rw [l10, sizeLine_eq]; omega))) (ea_cons (ev_op ev_cS (ev_var rfl) (rv_addT (by rw [l10, sizeLine_eq]; omega))) (ea_cons ev_cB ea_nil))))))) (by walk_at "lt")))
      (fun i s' => ∃ (t : Tray) (q6 : SV), s' = [.ls p (trD t), q1, .im (.str x), .im (.tuple ((wordsS x).map .str)), .im (.list [.tuple ((wordsS x).map .str)]), q5', q6, .ls r (ws.map .str)]) ⟨t5, .un, rfl⟩ (fun i d s' hd hI => ?_) (fun s' hI => hI)) ?_
  · obtain ⟨t6, q6, rfl⟩ := hI
    have od := odds d (List.mem_of_getElem? hd)
    refine ⟨_, tg_name (by walk_at "lt") (by simp), ?_⟩
    dsimp only [List.set]
    refine w_if (b := false) (EvT.to (et_not (et_B (c_same (d := .tuple [.str "refused", d]) (ea_cons (Ev.to (c_heard (ea_cons ev_cI (ea_cons (ev_var rfl) (ea_cons (flip rfl) ea_nil))) od.good (.inl rfl)) od.hd)
      (ea_cons (ev_tup (ea_cons ev_cS (ea_cons (ev_var rfl) ea_nil)) (by walk_at "lt")) ea_nil)) od.ok))) rfl) (fun z => by cases z) (fun _ => w_next ⟨pebT t6 2, .im d, rfl⟩)
  rintro _ ⟨t7, q6, rfl⟩
  have p1 : Odd 1 .none := ⟨fun z e => (by cases e), rfl, ok_ref rfl (by simp only [PyData.showable]) (by simp only [PyData.depth]; decide) (by decide +kernel)⟩
  have p2 : Odd 1 (.int 7) := ⟨fun z e => (by cases e), rfl, ok_ref rfl (by decide +kernel) (by simp only [PyData.depth]; decide) (by decide +kernel)⟩
  have p3 : Odd 1 (.list []) := ⟨fun z e => (by cases e), rfl, ok_ref rfl (by decide +kernel) (by decide +kernel) (by decide +kernel)⟩
  have p4 : Odd 1 (.tuple [.str "oa"]) := ⟨fun z e => (by cases e), rfl, ok_ref (by decide +kernel) (by decide +kernel) (by decide +kernel) (by decide +kernel)⟩
  have p5 : Odd 1 (.bool true) := ⟨fun z e => (by cases e), rfl, ok_ref rfl (by decide +kernel) (by decide +kernel) (by decide +kernel)⟩
  have odd1 : ∀ d ∈ [PyData.none, .int 7, .list [], .tuple [.str "oa"], .bool true], Odd 1 d := fun d hd => by
    simp only [List.mem_cons, List.not_mem_nil, or_false] at hd
    rcases hd with rfl | rfl | rfl | rfl | rfl <;> assumption
  let S : Tray → SV → Sts := fun t q => [.ls p (trD t), q1, .im (.str x), .im (.tuple ((wordsS x).map .str)), .im (.list [.tuple ((wordsS x).map .str)]), q5', q, .ls r (ws.map .str)]
  have any0 := el_lc (F := ⟨K, G0, H, [p], 8⟩) (vs := [6]) (g := gName 6) (tt := tYes) (s := S t7 q6) (s' := S (trN t7 2 5) .un) (xs := (List.replicate 5 false).map .bool)
    (te := tNotV (tCall (sSame K) [] E0 (tCons (tCall (sHeard K) [] E0 (tCons (tC (.int 1)) (tCons (tVar 6) (tCons (tOp (rEqA K) (tCall (sPeb K) [] E0 (tCons (tVar 0) (tCons (tC (.int 2)) tNil))) (tC (.int 0))) tNil)))) (tCons (tTup (tCons (tC (.str "refused")) (tCons (tVar 6) tNil))) tNil))))
    (ei_tup (ds := [PyData.none, .int 7, .list [], .tuple [.str "oa"], .bool true]) (ev_tup (ea_cons ev_cN (ea_cons ev_cI (ea_cons (ev_lst ea_nil (by walk_at "lt")) (ea_cons (ev_tup (ea_cons ev_cS ea_nil) (by walk_at "lt")) (ea_cons ev_cB ea_nil))))) (by walk_at "lt")))
    (by decide) (fun v hv => by rw [List.mem_singleton.mp hv]; walk_at "lt") (fun i s acc => s = S (trN t7 2 i) .un ∧ acc = (List.replicate i false).map .bool) ⟨rfl, rfl⟩ (fun i s acc q => by rw [q.1]; exact Nat.le_refl _) (fun i s acc q v hv y hy => ?_) (fun i d s acc a hd q => ?_) (fun s acc q => q) (fun i s acc q => by rw [q.2, List.length_map, List.length_replicate]; exact Nat.le_refl _)
  · exact w_ret (ev_notV (ev_any (eq_new any0))) ⟨rfl, _, rfl⟩
  · rw [List.mem_singleton.mp hv, q.1] at hy
    exact (Option.some.inj hy).symm
  · obtain ⟨rfl, rfl⟩ := q
    have od := odd1 d (List.mem_of_getElem? hd)
    refine ⟨_, tg_name (by walk_at "lt") (by simp), true, S (trN t7 2 i) (.im d) ++ [.an a ((List.replicate i false).map .bool)], fun σ G H k Q q => q G H k (Same.refl G), fun _ => ⟨.bool false, S (trN t7 2 (i + 1)) (.im d), ?_, ⟨rfl, ?_⟩, Nat.le_refl _⟩, fun z => by cases z⟩
    · refine Ev.to (ev_notV (c_same (d := .tuple [.str "refused", d]) (ea_cons (Ev.to (c_heard (ea_cons ev_cI (ea_cons (ev_var rfl) (ea_cons (flip (t := trN t7 2 i) rfl) ea_nil))) od.good (.inr rfl)) od.hd) (ea_cons (ev_tup (ea_cons ev_cS (ea_cons (ev_var rfl) ea_nil)) (by walk_at "lt")) ea_nil)) od.ok)) rfl
    · rw [List.replicate_succ', List.map_append]
      rfl
section
variable {F : Fr} {s s1 : Sts} {E : XK} {tl : TE}
theorem c_right {t : Tray} (h : EvL F tl s (trD t) s1) : Ev F (tCall (sRight F.K) [] E (tCons tl tNil)) s (.bool true) s1 := ev_callB0 t h trivial
end
end
end K61
namespace K61
open PySem PySem.Spec PyProof.Rows L2 Pk
local macro_rules | `(tactic| walk_at "lt") => `(tactic| first | decide | (dsimp only; decide) | (dsimp only [List.length]; decide) | (dsimp only [List.set, List.length]; decide))
local macro_rules | `(tactic| walk_at "ev1") => `(tactic| first
  | with_reducible exact ev_cI | with_reducible exact ev_cS | with_reducible exact ev_cB | with_reducible exact ev_cN | with_reducible exact ea_nil
  | ((with_reducible apply ev_var); exact rfl)
  | ((with_reducible apply ev_cG); assumption)
  | with_reducible apply ea_cons
  | with_reducible apply ev_op
  | with_reducible exact rv_addI | with_reducible exact rv_subI | with_reducible exact rv_ltI | with_reducible exact rv_leI | with_reducible exact rv_gtI | with_reducible exact rv_geI | with_reducible exact rv_eqDI | with_reducible exact rv_neDI
  | with_reducible exact rv_eqDS | with_reducible exact rv_neDS | with_reducible exact rv_inS1 | with_reducible exact rv_notInS1 | with_reducible exact rv_inTup | with_reducible exact rv_inLst
  | with_reducible apply rv_addT | with_reducible apply rv_ixS
  | with_reducible apply et_and | with_reducible apply et_or | with_reducible apply et_not | with_reducible apply et_test | with_reducible apply et_B
  | with_reducible apply ev_andV | with_reducible apply ev_orV | with_reducible apply ev_notV
  | ((with_reducible apply ev_lenQ); (with_reducible apply eq_var); exact rfl)
  | with_reducible apply ev_anyMap | with_reducible apply ev_allMap | with_reducible apply ei_strM
  | with_reducible apply ev_isi
  | (show kitB _ _ = some _; exact rfl)
  | with_reducible apply ev_cb
  | with_reducible apply rc_lenS | with_reducible exact rc_int | with_reducible exact rc_intB | with_reducible exact rc_abs | with_reducible exact rc_max2 | with_reducible exact rc_max3 | with_reducible exact rc_min2
  | with_reducible apply ev_slS | with_reducible exact eo_none | with_reducible apply eo_some
  | with_reducible apply ev_ifX | exact Pk.ite_int | exact Pk.ite_str | exact Pk.ite_bool
  | walk_at "call" | with_reducible apply ev_tup | with_reducible apply ev_lst
  | ((with_reducible show _ < Fr.n _); walk_at "lt") | ((with_reducible show Fr.n _ ≤ List.length _); walk_at "lt")
  | ((with_reducible intro _); first | exact rfl | skip) | fail)
local macro_rules | `(tactic| walk_at "call") => `(tactic| fail)
local macro_rules | `(tactic| walk_at "sd") => `(tactic| first | assumption | omega | (rw [sizeLine_eq]; omega) | (rw [str_len]; omega) | (dsimp only [List.length]; decide) | (simp only [decide_eq_true_eq, decide_eq_false_iff_not] at *; first | omega | (rw [sizeLine_eq]; omega)))
local macro_rules | `(tactic| walk_at "ev") => `(tactic| focus (repeat' (walk_at "ev1")))
local macro_rules | `(tactic| walk_at "w1") => `(tactic| first
  | with_reducible apply w_asg | with_reducible apply w_par | with_reducible apply w_ret | with_reducible apply w_asg1 | with_reducible apply w_retS | with_reducible apply w_skip | with_reducible apply w_ifS | with_reducible apply w_assoc
  | ((with_reducible show _ < Fr.n _); walk_at "lt") | ((with_reducible show Fr.n _ ≤ List.length _); walk_at "lt") | fail)
local macro_rules | `(tactic| walk_at "wk") => `(tactic| focus (repeat' (first | walk_at "w1" | walk_at "ev1")))
local macro_rules | `(tactic| walk_at "st") => `(tactic| dsimp only [cxOf, L2.Cx.nox, s0, List.map, List.length, List.replicate, List.cons_append, List.nil_append, Nat.reduceAdd, Nat.reduceSub, Nat.reduceMul, Nat.succ_eq_add_one, List.replicate_succ, List.replicate_zero, List.append_eq, List.append])
section
variable {P : Program} {w : World} {K : PySem.W.Frag} {mg : Str → Option Value} {base : Heap} {V : Ad}
def dueW : List (List Str) := [["pattern", "v", "ua", "ob", "|", "oa", "ub", ":", "*", "a", "-", "b"], ["count", "v", "*", "v", "in", "t", "is", "-", "12"], [], ["oaub", "q", "1", "x", "007"]]
def dueD : PyData := .tuple (dueW.map fun ws => .tuple (ws.map .str))
def someW : List Str := ["a", "h", "i", "oa", "uh", "oi", "ou", "o", "kept", "keep", "0", "00", "999", "1000", "abcdefgh", "abcdefghi", ",", "!", "", "over", "Over", "oab"]
def kindW : List Str := ["letter", "letter", "name", "end", "end", "name", "name", "name", "kept", "name", "numeral", "none", "numeral", "none", "name", "none", ",", "none", "none", "over"]
def kindsD : PyData := .list ((kindW ++ (["none", "name"] : List Str)).map .str)
theorem some_kinds : someW.map kindS = kindW ++ (["none", "name"] : List Str) := by decide +kernel
theorem kinds_ok : reprOk kindsD = true := by decide +kernel
theorem some_ok : ∀ w ∈ someW, PyData.strOk w = true ∧ w.length ≤ 10000 := by decide +kernel
theorem due_ok : reprOk dueD = true := by decide +kernel
abbrev sLaw (K : PySem.W.Frag) : Sp := spP K (fun ns : List Int => [.list (ns.map .int)]) (fun ns => ns.length ≤ 1000) (fun _ => .bool true)
theorem ok_law (T : Tx P K mg V) : FnG P w K mg base 7 V.A_law V.D_law ["script"] (sLaw K) := by
  have ok__law_tray := @ok_tray
  have ok__law_same := @ok_same
  have ok__law_is_right := @ok_right
  have G_words := ok_words (w := w) (base := base) T
  have G__law_same := ok__law_same (w := w) (base := base) T
  have G_word_kind := ok_word_kind (w := w) (base := base) T
  have G__law_is_right := ok__law_is_right (w := w) (base := base) T
  have G__law_tray := ok__law_tray (w := w) (base := base) T
  refine okP T.F_law sc_law (fun a => rfl) (fun cdv Ar outer s H E hr hG => ⟨_, PSs.nox ((pss_cons (ps_set (i := 1) sc_law.nd rfl (.inl rfl) (pe_tup (pa_cons (pe_g (E := E0) G_words (hr.mono (by decide)) hG (by rfl) T.g_words T.F_words.kp T.b_words .nil passL (pa_cons pe_str pa_nil)) (pa_cons (pe_g (E := E0) G_words (hr.mono (by decide)) hG (by rfl) T.g_words T.F_words.kp T.b_words .nil passL (pa_cons pe_str pa_nil)) (pa_cons (pe_g (E := E0) G_words (hr.mono (by decide)) hG (by rfl) T.g_words T.F_words.kp T.b_words .nil passL (pa_cons pe_str pa_nil)) (pa_cons (pe_g (E := E0) G_words (hr.mono (by decide)) hG (by rfl) T.g_words T.F_words.kp T.b_words .nil passL (pa_cons pe_str pa_nil)) pa_nil))))))
      (pss_cons (ps_set (i := 2) sc_law.nd rfl (.inl rfl) (pe_tup (pa_cons (pe_tup (pa_cons pe_str (pa_cons pe_str (pa_cons pe_str (pa_cons pe_str (pa_cons pe_str (pa_cons pe_str (pa_cons pe_str (pa_cons pe_str (pa_cons pe_str (pa_cons pe_str (pa_cons pe_str (pa_cons pe_str pa_nil))))))))))))) (pa_cons (pe_tup (pa_cons pe_str (pa_cons pe_str (pa_cons pe_str (pa_cons pe_str (pa_cons pe_str (pa_cons pe_str (pa_cons pe_str (pa_cons pe_str (pa_cons pe_str pa_nil)))))))))) (pa_cons (pe_tup pa_nil) (pa_cons (pe_tup (pa_cons pe_str (pa_cons pe_str (pa_cons pe_str (pa_cons pe_str (pa_cons pe_str pa_nil)))))) pa_nil))))))
      (pss_cons (ps_set (i := 3) sc_law.nd rfl (.inl rfl) (pe_tup (pa_cons pe_str (pa_cons pe_str (pa_cons pe_str (pa_cons pe_str (pa_cons pe_str (pa_cons pe_str (pa_cons pe_str (pa_cons pe_str (pa_cons pe_str (pa_cons pe_str (pa_cons pe_str (pa_cons pe_str (pa_cons pe_str (pa_cons pe_str (pa_cons pe_str (pa_cons pe_str (pa_cons pe_str (pa_cons pe_str (pa_cons pe_str (pa_cons pe_str (pa_cons pe_str (pa_cons pe_str pa_nil))))))))))))))))))))))))
      (pss_cons (ps_set (i := 4) sc_law.nd rfl (.inl rfl) (pe_lst (pa_cons pe_str (pa_cons pe_str (pa_cons pe_str (pa_cons pe_str (pa_cons pe_str (pa_cons pe_str (pa_cons pe_str (pa_cons pe_str (pa_cons pe_str (pa_cons pe_str (pa_cons pe_str (pa_cons pe_str (pa_cons pe_str (pa_cons pe_str (pa_cons pe_str (pa_cons pe_str (pa_cons pe_str (pa_cons pe_str (pa_cons pe_str (pa_cons pe_str pa_nil))))))))))))))))))))))
      (pss_cons (ps_set (i := 4) sc_law.nd rfl (.inl rfl) (pe_op op_addA (pv 4) (pe_lst (pa_cons pe_str (pa_cons pe_str pa_nil)))))
      (pss_cons (ps_if (PW.pt (pw_or (pt_not (pt_val (pe_g (E := E0) G__law_same (hr.mono (by decide)) hG (by rfl) T.g__law_same T.F__law_same.kp T.b__law_same .nil passL (pa_cons (pv 1) (pa_cons (pv 2) pa_nil))))) (pw_or1 (pt_cmpR (op_neA hr.units) (pe_lc (own := [("word", 5)]) rfl sc_law.nd (pi_tup (pv 3)) (blkOk_by (N := ["script", "told", "due", "some", "kinds", "word", "lap"]) (sc := defScope s_law) (by decide +kernel)) (fun _ _ _ _ _ => pg_name (i := 5) sc_law.nd rfl (.inl rfl) (.inr rfl)) (fun _ _ _ _ _ => pts_nil) (fun _ _ _ _ _ => (pe_g (E := E0) G_word_kind (hr.mono (by decide)) hG (by rfl) T.g_word_kind T.F_word_kind.kp T.b_word_kind .nil passL (pa_cons (pv 5) pa_nil)))) (pv 4) (nomark _))))) (pss_one (ps_ret pe_bl)) pss_nil)
      (pss_one (ps_ret (pe_not (pe_callB (cr_any rfl) (by rfl) T.n_any (by decide +kernel) (pa_cons (pe_lc (own := [("lap", 6)]) rfl sc_law.nd (pi_range1 (by rfl) T.n_range (pa_cons (pe_callB (call_max2A rfl) (by rfl) T.n_max (by decide +kernel) (pa_cons pe_int (pa_cons (pe_callB (call_min2A rfl) (by rfl) T.n_min (by decide +kernel) (pa_cons pe_int (pa_cons (pe_callB call_lenA (by rfl) T.n_len (by decide +kernel) (pa_cons (pv 0) pa_nil)) pa_nil))) pa_nil))) pa_nil)) (blkOk_by (N := ["script", "told", "due", "some", "kinds", "word", "lap"]) (sc := defScope s_law) (by decide +kernel)) (fun _ _ _ _ _ => pg_name (i := 6) sc_law.nd rfl (.inl rfl) (.inr rfl)) (fun _ _ _ _ _ => pts_nil) (fun _ _ _ _ _ => (pe_not (pe_g (E := E0) G__law_is_right (hr.mono (by decide)) hG (by rfl) T.g__law_is_right T.F__law_is_right.kp T.b__law_is_right .nil passL (pa_cons (pe_g (E := E0) G__law_tray (hr.mono (by decide)) hG (by rfl) T.g__law_tray T.F__law_tray.kp T.b__law_tray .nil passL (pa_cons (pv 0) (pa_cons (pv 6) pa_nil))) pa_nil))))) pa_nil)))))))))))), ?_⟩)
  rintro ns G0 hns
  walk_at "st"
  have told : ∀ {s : Sts} {x : Str} {ws : List Str}, goodS x → decide (10 ∈ x.cps.toList) = false → wordsS x = ws → Ev ⟨K, G0, H, [], 7⟩ (tCall (sWords K V) [] E0 (tCons (tC (.str x)) tNil)) s (.tuple (ws.map .str)) s := fun {s x ws} h1 h2 h3 =>
    ev_callX (.str x) (ea_cons ev_cS ea_nil) rfl (fun y e => by cases e; exact h1) (by unfold wordsX; dsimp only; rw [if_neg (by rw [h2]; exact Bool.false_ne_true), h3])
  refine w_asg (d := dueD) (ev_tup (ea_cons (told (by constructor <;> decide +kernel) (by decide +kernel) (by decide +kernel)) (ea_cons (told (by constructor <;> decide +kernel) (by decide +kernel) (by decide +kernel)) (ea_cons (told (by constructor <;> decide +kernel) (by decide +kernel) (by decide +kernel)) (ea_cons (told (by constructor <;> decide +kernel) (by decide +kernel) (by decide +kernel)) ea_nil)))) (by walk_at "lt")) (by walk_at "lt") ?_
  dsimp only [List.set]
  apply w_asg (d := dueD)
  · show Ev _ _ _ (.tuple [.tuple [.str "pattern", .str "v", .str "ua", .str "ob", .str "|", .str "oa", .str "ub", .str ":", .str "*", .str "a", .str "-", .str "b"], .tuple [.str "count", .str "v", .str "*", .str "v", .str "in", .str "t", .str "is", .str "-", .str "12"], .tuple [], .tuple [.str "oaub", .str "q", .str "1", .str "x", .str "007"]]) _
    walk_at "ev"
    all_goals walk_at "sd"
  · walk_at "lt"
  dsimp only [List.set]
  apply w_asg (d := .tuple (someW.map .str))
  · show Ev _ _ _ (.tuple [.str "a", .str "h", .str "i", .str "oa", .str "uh", .str "oi", .str "ou", .str "o", .str "kept", .str "keep", .str "0", .str "00", .str "999", .str "1000", .str "abcdefgh", .str "abcdefghi", .str ",", .str "!", .str "", .str "over", .str "Over", .str "oab"]) _
    walk_at "ev"
    all_goals walk_at "sd"
  · walk_at "lt"
  dsimp only [List.set]
  apply w_asgL (xs := kindW.map .str)
  · apply el_lst
    · show EvA _ _ _ [.str "letter", .str "letter", .str "name", .str "end", .str "end", .str "name", .str "name", .str "name", .str "kept", .str "name", .str "numeral", .str "none", .str "numeral", .str "none", .str "name", .str "none", .str ",", .str "none", .str "none", .str "over"] _
      walk_at "ev"
    · walk_at "lt"
  · walk_at "lt"
  intro p hp
  dsimp only [List.set]
  refine w_asgL (el_cat rfl (el_lst (ea_cons ev_cS (ea_cons ev_cS ea_nil)) (by walk_at "lt")) (by decide +kernel)) (by walk_at "lt") fun p2 hp2 => ?_
  refine w_freeze (i := 4) rfl hp2 ?_
  dsimp only [List.set]
  have hm := el_map (F := ⟨K, G0, H, [], 7⟩) (s := [SV.im (.list (ns.map .int)), SV.im dueD, SV.im dueD, SV.im (.tuple (someW.map .str)), .im (.list (kindW.map .str ++ [.str "none", .str "name"])), .un, .un]) (v := 5) (te := tCall (sWordKind K V) [] E0 (tCons (tVar 5) tNil)) (xs := someW) (g := .str) (h := fun w => .str (kindS w)) (wi := iTup K (tVar 3)) (ei_tup (ev_var rfl)) (by decide) (by walk_at "lt") (by walk_at "lt")
    (fun w hw p acc => ev_callX (.str w) (ea_cons (ev_var rfl) ea_nil) rfl (fun y e => by cases e; exact some_ok w hw) rfl)
  have e : (someW.map fun w => PyData.str (kindS w)) = (kindW ++ (["none", "name"] : List Str)).map .str := by
    rw [← some_kinds, List.map_map]
    rfl
  rw [e] at hm
  refine w_ifS (b := false) (EvT.to (et_or (et_not (et_B (c_same (d := dueD) (ea_cons (ev_var rfl) (ea_cons (ev_var rfl) ea_nil)) due_ok))) (fun _ => et_test (ev_op (d1 := kindsD) (d2 := kindsD) (ev_frz hm) (ev_var rfl) (rv_neDD (reprOk_shaped kinds_ok) (reprOk_shaped kinds_ok)))) (fun _ => rfl)) (by rw [eqv_ok kinds_ok]; rfl)) (fun z => by cases z) (fun _ => w_skip ?_)
  refine w_ret (ev_notV (ev_anyMap (q := fun _ => false) (g := fun i : Nat => .int (0 + (i : Int))) (xs := List.range (max 6 (min 12 (ns.map PyData.int).length) : Int).toNat) (ei_rng1 (ea_cons (ev_cb (ea_cons ev_cI (ea_cons (ev_cb (ea_cons ev_cI (ea_cons (ev_cb (ea_cons (ev_var rfl) ea_nil) (rc_lenQ (.inr rfl))) ea_nil)) rc_min2) ea_nil)) rc_max2) ea_nil) (by omega) (by omega))
    (by rw [List.length_range]; omega) (by walk_at "lt") (by walk_at "lt") fun i hi p acc => ?_)) ?_
  · have hi := List.mem_range.mp hi
    exact Ev.to (ev_notV (c_right (t := trayF ns (0 + (i : Int))) (el_callN (A := fun a : List Int × Int => [.list (a.1.map .int), .int a.2]) (ns, 0 + (i : Int)) (ea_cons (ev_var rfl) (ea_cons (ev_var rfl) ea_nil)) rfl ⟨hns, by show 0 ≤ 0 + (i : Int); omega, by show 0 + (i : Int) ≤ 1000; omega⟩))) rfl
  · simp
end
end K61
namespace K61
open PySem PySem.Spec PyProof.Rows L2 Pk
theorem end_law {P : Program} {w : World} {K : PySem.W.Frag} {mg : Str → Option Value} {base : Heap} {V : Ad} (T : Tx P K mg V) : FnG P w K mg base 7 V.A_law V.D_law ["script"] (spL K 63) :=
  (ok_law (w := w) (base := base) T).end (fun ns h => by omega) (fun ns h => rfl)
theorem all_mk {l : PySem.W.OpenLaw} {w : World} {K : PySem.W.Frag} {h : Heap} {mg : Str → Option Value} {fa : Addr} (X : K.In h) (G : h.Ns mainGlobals mg) (hfa : mg "law" = some (.ref fa))
    {f_run_length : Addr} {od_run_length an_run_length : Option Addr} {sl_run_length : Array (Option Value)} {oc_run_length kV_run_length dc_run_length pm_run_length cd_run_length ct_run_length : Value}
    {f_words_of : Addr} {od_words_of an_words_of : Option Addr} {sl_words_of : Array (Option Value)} {oc_words_of kV_words_of dc_words_of pm_words_of cd_words_of ct_words_of : Value}
    {f_is_of : Addr} {od_is_of an_is_of : Option Addr} {sl_is_of : Array (Option Value)} {oc_is_of kV_is_of dc_is_of pm_is_of cd_is_of ct_is_of : Value}
    {f_is_numeral : Addr} {od_is_numeral an_is_numeral : Option Addr} {sl_is_numeral : Array (Option Value)} {oc_is_numeral kV_is_numeral dc_is_numeral pm_is_numeral cd_is_numeral ct_is_numeral : Value}
    {f_is_letter : Addr} {od_is_letter an_is_letter : Option Addr} {sl_is_letter : Array (Option Value)} {oc_is_letter kV_is_letter dc_is_letter pm_is_letter cd_is_letter ct_is_letter : Value}
    {f_is_end : Addr} {od_is_end an_is_end : Option Addr} {sl_is_end : Array (Option Value)} {oc_is_end kV_is_end dc_is_end pm_is_end cd_is_end ct_is_end : Value}
    {f_kind_of_word : Addr} {od_kind_of_word an_kind_of_word : Option Addr} {sl_kind_of_word : Array (Option Value)} {oc_kind_of_word kV_kind_of_word dc_kind_of_word pm_kind_of_word cd_kind_of_word ct_kind_of_word : Value}
    {f_words : Addr} {od_words an_words : Option Addr} {sl_words : Array (Option Value)} {oc_words kV_words dc_words pm_words cd_words ct_words : Value}
    {f_word_kind : Addr} {od_word_kind an_word_kind : Option Addr} {sl_word_kind : Array (Option Value)} {oc_word_kind kV_word_kind dc_word_kind pm_word_kind cd_word_kind ct_word_kind : Value}
    {f__law_tray : Addr} {od__law_tray an__law_tray : Option Addr} {sl__law_tray : Array (Option Value)} {oc__law_tray kV__law_tray dc__law_tray pm__law_tray cd__law_tray ct__law_tray : Value}
    {f__law_pebble : Addr} {od__law_pebble an__law_pebble : Option Addr} {sl__law_pebble : Array (Option Value)} {oc__law_pebble kV__law_pebble dc__law_pebble pm__law_pebble cd__law_pebble ct__law_pebble : Value}
    {f__law_any : Addr} {od__law_any an__law_any : Option Addr} {sl__law_any : Array (Option Value)} {oc__law_any kV__law_any dc__law_any pm__law_any cd__law_any ct__law_any : Value}
    {f__law_language : Addr} {od__law_language an__law_language : Option Addr} {sl__law_language : Array (Option Value)} {oc__law_language kV__law_language dc__law_language pm__law_language cd__law_language ct__law_language : Value}
    {f__law_kind : Addr} {od__law_kind an__law_kind : Option Addr} {sl__law_kind : Array (Option Value)} {oc__law_kind kV__law_kind dc__law_kind pm__law_kind cd__law_kind ct__law_kind : Value}
    {f__law_cut : Addr} {od__law_cut an__law_cut : Option Addr} {sl__law_cut : Array (Option Value)} {oc__law_cut kV__law_cut dc__law_cut pm__law_cut cd__law_cut ct__law_cut : Value}
    {f__law_same : Addr} {od__law_same an__law_same : Option Addr} {sl__law_same : Array (Option Value)} {oc__law_same kV__law_same dc__law_same pm__law_same cd__law_same ct__law_same : Value}
    {f__law_heard : Addr} {od__law_heard an__law_heard : Option Addr} {sl__law_heard : Array (Option Value)} {oc__law_heard kV__law_heard dc__law_heard pm__law_heard cd__law_heard ct__law_heard : Value}
    {f__law_told_kind : Addr} {od__law_told_kind an__law_told_kind : Option Addr} {sl__law_told_kind : Array (Option Value)} {oc__law_told_kind kV__law_told_kind dc__law_told_kind pm__law_told_kind cd__law_told_kind ct__law_told_kind : Value}
    {f__law_dealt_word : Addr} {od__law_dealt_word an__law_dealt_word : Option Addr} {sl__law_dealt_word : Array (Option Value)} {oc__law_dealt_word kV__law_dealt_word dc__law_dealt_word pm__law_dealt_word cd__law_dealt_word ct__law_dealt_word : Value}
    {f__law_is_right : Addr} {od__law_is_right an__law_is_right : Option Addr} {sl__law_is_right : Array (Option Value)} {oc__law_is_right kV__law_is_right dc__law_is_right pm__law_is_right cd__law_is_right ct__law_is_right : Value}
    {f_law : Addr} {od_law an_law : Option Addr} {sl_law : Array (Option Value)} {oc_law kV_law dc_law pm_law cd_law ct_law : Value}
    {C_ArrowError : Addr}
    {C_InvalidText : Addr}
    {I_InvalidText N_InvalidText cda_InvalidText cc_InvalidText : Addr} {nm_InvalidText q_InvalidText ql_InvalidText fl_InvalidText : Str} {bs_InvalidText bm_InvalidText sub_InvalidText : List Value} {sn_InvalidText : List Str} {ab_InvalidText : Bool} {col_InvalidText : Option Bool} {dd_InvalidText oD_InvalidText oAn_InvalidText ccd_InvalidText cld_InvalidText : Option Addr} {m0_InvalidText m1_InvalidText m2_InvalidText m3_InvalidText m5_InvalidText : Option Value} {oC_InvalidText dV_InvalidText oK_InvalidText doc_InvalidText pm_InvalidText ct_InvalidText ccl_InvalidText cl_InvalidText : Value} {osl_InvalidText ccs_InvalidText' csl_InvalidText' : Array (Option Value)}
    {vs_InvalidText : Array Value} {par_InvalidText : Arguments} {sco_InvalidText : Scope} {p0_InvalidText p1_InvalidText p2_InvalidText p3_InvalidText p4_InvalidText p5_InvalidText p6_InvalidText p7_InvalidText p8_InvalidText p9_InvalidText : Pos} {ar_InvalidText : Arg} {tf_InvalidText : Tok}
    {C_InvalidLine : Addr}
    {I_InvalidLine N_InvalidLine cda_InvalidLine cc_InvalidLine : Addr} {nm_InvalidLine q_InvalidLine ql_InvalidLine fl_InvalidLine : Str} {bs_InvalidLine bm_InvalidLine sub_InvalidLine : List Value} {sn_InvalidLine : List Str} {ab_InvalidLine : Bool} {col_InvalidLine : Option Bool} {dd_InvalidLine oD_InvalidLine oAn_InvalidLine ccd_InvalidLine cld_InvalidLine : Option Addr} {m0_InvalidLine m1_InvalidLine m2_InvalidLine m3_InvalidLine m5_InvalidLine : Option Value} {oC_InvalidLine dV_InvalidLine oK_InvalidLine doc_InvalidLine pm_InvalidLine ct_InvalidLine ccl_InvalidLine cl_InvalidLine : Value} {osl_InvalidLine ccs_InvalidLine' csl_InvalidLine' : Array (Option Value)}
    {vs_InvalidLine : Array Value} {par_InvalidLine : Arguments} {sco_InvalidLine : Scope} {p0_InvalidLine p1_InvalidLine p2_InvalidLine p3_InvalidLine p4_InvalidLine p5_InvalidLine p6_InvalidLine p7_InvalidLine p8_InvalidLine p9_InvalidLine : Pos} {ar_InvalidLine : Arg} {tf_InvalidLine : Tok}
    {t_END : Tok}
    {t_BLANK : Tok}
    {t_FIGURES : Tok}
    {t_SMALL : Tok}
    {t_ARROW_LETTERS : Tok}
    {t_ROLE_LETTERS : Tok}
    {K_SIGNS : Addr} {zd_SIGNS : Option Addr} {zs_SIGNS : Array (Option Value)} {zn_SIGNS : Nat} {t_SIGNS_0 t_SIGNS_1 t_SIGNS_2 t_SIGNS_3 t_SIGNS_4 t_SIGNS_5 t_SIGNS_6 t_SIGNS_7 t_SIGNS_8 : Tok}
    {K_OWN_WORDS : Addr} {zd_OWN_WORDS : Option Addr} {zs_OWN_WORDS : Array (Option Value)} {zn_OWN_WORDS : Nat} {t_OWN_WORDS_0 t_OWN_WORDS_1 t_OWN_WORDS_2 t_OWN_WORDS_3 t_OWN_WORDS_4 t_OWN_WORDS_5 t_OWN_WORDS_6 t_OWN_WORDS_7 t_OWN_WORDS_8 t_OWN_WORDS_9 t_OWN_WORDS_10 t_OWN_WORDS_11 t_OWN_WORDS_12 t_OWN_WORDS_13 t_OWN_WORDS_14 t_OWN_WORDS_15 t_OWN_WORDS_16 t_OWN_WORDS_17 t_OWN_WORDS_18 t_OWN_WORDS_19 t_OWN_WORDS_20 : Tok}
    {t_LETTER : Tok}
    {t_ROLED : Tok}
    {t_NAME : Tok}
    {t_NUMERAL : Tok}
    {t_NO_KIND : Tok}
    {t_LONGEST_NAME : Tok}
    {t_LONGEST_NUMERAL : Tok}
    (a_run_length : PySem.W.nsIn K mainGlobals "run_length" = some (some (.ref f_run_length)))
    (l_run_length : K.lookup f_run_length = some ⟨oc_run_length, od_run_length, .func (PySem.W.fnOf "run_length" "run_length" (defArgs s_run_length) (defBody s_run_length) (defScope s_run_length) .none kV_run_length dc_run_length pm_run_length an_run_length cd_run_length ct_run_length), sl_run_length⟩)
    (c_run_length : PySem.W.codeIn K cd_run_length "run_length" = true)
    (k_run_length : PySem.W.keepIn K (.ref f_run_length) = true)
    (a_words_of : PySem.W.nsIn K mainGlobals "words_of" = some (some (.ref f_words_of)))
    (l_words_of : K.lookup f_words_of = some ⟨oc_words_of, od_words_of, .func (PySem.W.fnOf "words_of" "words_of" (defArgs s_words_of) (defBody s_words_of) (defScope s_words_of) .none kV_words_of dc_words_of pm_words_of an_words_of cd_words_of ct_words_of), sl_words_of⟩)
    (c_words_of : PySem.W.codeIn K cd_words_of "words_of" = true)
    (k_words_of : PySem.W.keepIn K (.ref f_words_of) = true)
    (a_is_of : PySem.W.nsIn K mainGlobals "is_of" = some (some (.ref f_is_of)))
    (l_is_of : K.lookup f_is_of = some ⟨oc_is_of, od_is_of, .func (PySem.W.fnOf "is_of" "is_of" (defArgs s_is_of) (defBody s_is_of) (defScope s_is_of) .none kV_is_of dc_is_of pm_is_of an_is_of cd_is_of ct_is_of), sl_is_of⟩)
    (c_is_of : PySem.W.codeIn K cd_is_of "is_of" = true)
    (k_is_of : PySem.W.keepIn K (.ref f_is_of) = true)
    (a_is_numeral : PySem.W.nsIn K mainGlobals "is_numeral" = some (some (.ref f_is_numeral)))
    (l_is_numeral : K.lookup f_is_numeral = some ⟨oc_is_numeral, od_is_numeral, .func (PySem.W.fnOf "is_numeral" "is_numeral" (defArgs s_is_numeral) (defBody s_is_numeral) (defScope s_is_numeral) .none kV_is_numeral dc_is_numeral pm_is_numeral an_is_numeral cd_is_numeral ct_is_numeral), sl_is_numeral⟩)
    (c_is_numeral : PySem.W.codeIn K cd_is_numeral "is_numeral" = true)
    (k_is_numeral : PySem.W.keepIn K (.ref f_is_numeral) = true)
    (a_is_letter : PySem.W.nsIn K mainGlobals "is_letter" = some (some (.ref f_is_letter)))
    (l_is_letter : K.lookup f_is_letter = some ⟨oc_is_letter, od_is_letter, .func (PySem.W.fnOf "is_letter" "is_letter" (defArgs s_is_letter) (defBody s_is_letter) (defScope s_is_letter) .none kV_is_letter dc_is_letter pm_is_letter an_is_letter cd_is_letter ct_is_letter), sl_is_letter⟩)
    (c_is_letter : PySem.W.codeIn K cd_is_letter "is_letter" = true)
    (k_is_letter : PySem.W.keepIn K (.ref f_is_letter) = true)
    (a_is_end : PySem.W.nsIn K mainGlobals "is_end" = some (some (.ref f_is_end)))
    (l_is_end : K.lookup f_is_end = some ⟨oc_is_end, od_is_end, .func (PySem.W.fnOf "is_end" "is_end" (defArgs s_is_end) (defBody s_is_end) (defScope s_is_end) .none kV_is_end dc_is_end pm_is_end an_is_end cd_is_end ct_is_end), sl_is_end⟩)
    (c_is_end : PySem.W.codeIn K cd_is_end "is_end" = true)
    (k_is_end : PySem.W.keepIn K (.ref f_is_end) = true)
    (a_kind_of_word : PySem.W.nsIn K mainGlobals "kind_of_word" = some (some (.ref f_kind_of_word)))
    (l_kind_of_word : K.lookup f_kind_of_word = some ⟨oc_kind_of_word, od_kind_of_word, .func (PySem.W.fnOf "kind_of_word" "kind_of_word" (defArgs s_kind_of_word) (defBody s_kind_of_word) (defScope s_kind_of_word) .none kV_kind_of_word dc_kind_of_word pm_kind_of_word an_kind_of_word cd_kind_of_word ct_kind_of_word), sl_kind_of_word⟩)
    (c_kind_of_word : PySem.W.codeIn K cd_kind_of_word "kind_of_word" = true)
    (k_kind_of_word : PySem.W.keepIn K (.ref f_kind_of_word) = true)
    (a_words : PySem.W.nsIn K mainGlobals "words" = some (some (.ref f_words)))
    (l_words : K.lookup f_words = some ⟨oc_words, od_words, .func (PySem.W.fnOf "words" "words" (defArgs s_words) (defBody s_words) (defScope s_words) .none kV_words dc_words pm_words an_words cd_words ct_words), sl_words⟩)
    (c_words : PySem.W.codeIn K cd_words "words" = true)
    (k_words : PySem.W.keepIn K (.ref f_words) = true)
    (a_word_kind : PySem.W.nsIn K mainGlobals "word_kind" = some (some (.ref f_word_kind)))
    (l_word_kind : K.lookup f_word_kind = some ⟨oc_word_kind, od_word_kind, .func (PySem.W.fnOf "word_kind" "word_kind" (defArgs s_word_kind) (defBody s_word_kind) (defScope s_word_kind) .none kV_word_kind dc_word_kind pm_word_kind an_word_kind cd_word_kind ct_word_kind), sl_word_kind⟩)
    (c_word_kind : PySem.W.codeIn K cd_word_kind "word_kind" = true)
    (k_word_kind : PySem.W.keepIn K (.ref f_word_kind) = true)
    (a__law_tray : PySem.W.nsIn K mainGlobals "_law_tray" = some (some (.ref f__law_tray)))
    (l__law_tray : K.lookup f__law_tray = some ⟨oc__law_tray, od__law_tray, .func (PySem.W.fnOf "_law_tray" "_law_tray" (defArgs s__law_tray) (defBody s__law_tray) (defScope s__law_tray) .none kV__law_tray dc__law_tray pm__law_tray an__law_tray cd__law_tray ct__law_tray), sl__law_tray⟩)
    (c__law_tray : PySem.W.codeIn K cd__law_tray "_law_tray" = true)
    (k__law_tray : PySem.W.keepIn K (.ref f__law_tray) = true)
    (a__law_pebble : PySem.W.nsIn K mainGlobals "_law_pebble" = some (some (.ref f__law_pebble)))
    (l__law_pebble : K.lookup f__law_pebble = some ⟨oc__law_pebble, od__law_pebble, .func (PySem.W.fnOf "_law_pebble" "_law_pebble" (defArgs s__law_pebble) (defBody s__law_pebble) (defScope s__law_pebble) .none kV__law_pebble dc__law_pebble pm__law_pebble an__law_pebble cd__law_pebble ct__law_pebble), sl__law_pebble⟩)
    (c__law_pebble : PySem.W.codeIn K cd__law_pebble "_law_pebble" = true)
    (k__law_pebble : PySem.W.keepIn K (.ref f__law_pebble) = true)
    (a__law_any : PySem.W.nsIn K mainGlobals "_law_any" = some (some (.ref f__law_any)))
    (l__law_any : K.lookup f__law_any = some ⟨oc__law_any, od__law_any, .func (PySem.W.fnOf "_law_any" "_law_any" (defArgs s__law_any) (defBody s__law_any) (defScope s__law_any) .none kV__law_any dc__law_any pm__law_any an__law_any cd__law_any ct__law_any), sl__law_any⟩)
    (c__law_any : PySem.W.codeIn K cd__law_any "_law_any" = true)
    (k__law_any : PySem.W.keepIn K (.ref f__law_any) = true)
    (a__law_language : PySem.W.nsIn K mainGlobals "_law_language" = some (some (.ref f__law_language)))
    (l__law_language : K.lookup f__law_language = some ⟨oc__law_language, od__law_language, .func (PySem.W.fnOf "_law_language" "_law_language" (defArgs s__law_language) (defBody s__law_language) (defScope s__law_language) .none kV__law_language dc__law_language pm__law_language an__law_language cd__law_language ct__law_language), sl__law_language⟩)
    (c__law_language : PySem.W.codeIn K cd__law_language "_law_language" = true)
    (k__law_language : PySem.W.keepIn K (.ref f__law_language) = true)
    (a__law_kind : PySem.W.nsIn K mainGlobals "_law_kind" = some (some (.ref f__law_kind)))
    (l__law_kind : K.lookup f__law_kind = some ⟨oc__law_kind, od__law_kind, .func (PySem.W.fnOf "_law_kind" "_law_kind" (defArgs s__law_kind) (defBody s__law_kind) (defScope s__law_kind) .none kV__law_kind dc__law_kind pm__law_kind an__law_kind cd__law_kind ct__law_kind), sl__law_kind⟩)
    (c__law_kind : PySem.W.codeIn K cd__law_kind "_law_kind" = true)
    (k__law_kind : PySem.W.keepIn K (.ref f__law_kind) = true)
    (a__law_cut : PySem.W.nsIn K mainGlobals "_law_cut" = some (some (.ref f__law_cut)))
    (l__law_cut : K.lookup f__law_cut = some ⟨oc__law_cut, od__law_cut, .func (PySem.W.fnOf "_law_cut" "_law_cut" (defArgs s__law_cut) (defBody s__law_cut) (defScope s__law_cut) .none kV__law_cut dc__law_cut pm__law_cut an__law_cut cd__law_cut ct__law_cut), sl__law_cut⟩)
    (c__law_cut : PySem.W.codeIn K cd__law_cut "_law_cut" = true)
    (k__law_cut : PySem.W.keepIn K (.ref f__law_cut) = true)
    (a__law_same : PySem.W.nsIn K mainGlobals "_law_same" = some (some (.ref f__law_same)))
    (l__law_same : K.lookup f__law_same = some ⟨oc__law_same, od__law_same, .func (PySem.W.fnOf "_law_same" "_law_same" (defArgs s__law_same) (defBody s__law_same) (defScope s__law_same) .none kV__law_same dc__law_same pm__law_same an__law_same cd__law_same ct__law_same), sl__law_same⟩)
    (c__law_same : PySem.W.codeIn K cd__law_same "_law_same" = true)
    (k__law_same : PySem.W.keepIn K (.ref f__law_same) = true)
    (a__law_heard : PySem.W.nsIn K mainGlobals "_law_heard" = some (some (.ref f__law_heard)))
    (l__law_heard : K.lookup f__law_heard = some ⟨oc__law_heard, od__law_heard, .func (PySem.W.fnOf "_law_heard" "_law_heard" (defArgs s__law_heard) (defBody s__law_heard) (defScope s__law_heard) .none kV__law_heard dc__law_heard pm__law_heard an__law_heard cd__law_heard ct__law_heard), sl__law_heard⟩)
    (c__law_heard : PySem.W.codeIn K cd__law_heard "_law_heard" = true)
    (k__law_heard : PySem.W.keepIn K (.ref f__law_heard) = true)
    (a__law_told_kind : PySem.W.nsIn K mainGlobals "_law_told_kind" = some (some (.ref f__law_told_kind)))
    (l__law_told_kind : K.lookup f__law_told_kind = some ⟨oc__law_told_kind, od__law_told_kind, .func (PySem.W.fnOf "_law_told_kind" "_law_told_kind" (defArgs s__law_told_kind) (defBody s__law_told_kind) (defScope s__law_told_kind) .none kV__law_told_kind dc__law_told_kind pm__law_told_kind an__law_told_kind cd__law_told_kind ct__law_told_kind), sl__law_told_kind⟩)
    (c__law_told_kind : PySem.W.codeIn K cd__law_told_kind "_law_told_kind" = true)
    (k__law_told_kind : PySem.W.keepIn K (.ref f__law_told_kind) = true)
    (a__law_dealt_word : PySem.W.nsIn K mainGlobals "_law_dealt_word" = some (some (.ref f__law_dealt_word)))
    (l__law_dealt_word : K.lookup f__law_dealt_word = some ⟨oc__law_dealt_word, od__law_dealt_word, .func (PySem.W.fnOf "_law_dealt_word" "_law_dealt_word" (defArgs s__law_dealt_word) (defBody s__law_dealt_word) (defScope s__law_dealt_word) .none kV__law_dealt_word dc__law_dealt_word pm__law_dealt_word an__law_dealt_word cd__law_dealt_word ct__law_dealt_word), sl__law_dealt_word⟩)
    (c__law_dealt_word : PySem.W.codeIn K cd__law_dealt_word "_law_dealt_word" = true)
    (k__law_dealt_word : PySem.W.keepIn K (.ref f__law_dealt_word) = true)
    (a__law_is_right : PySem.W.nsIn K mainGlobals "_law_is_right" = some (some (.ref f__law_is_right)))
    (l__law_is_right : K.lookup f__law_is_right = some ⟨oc__law_is_right, od__law_is_right, .func (PySem.W.fnOf "_law_is_right" "_law_is_right" (defArgs s__law_is_right) (defBody s__law_is_right) (defScope s__law_is_right) .none kV__law_is_right dc__law_is_right pm__law_is_right an__law_is_right cd__law_is_right ct__law_is_right), sl__law_is_right⟩)
    (c__law_is_right : PySem.W.codeIn K cd__law_is_right "_law_is_right" = true)
    (k__law_is_right : PySem.W.keepIn K (.ref f__law_is_right) = true)
    (a_law : PySem.W.nsIn K mainGlobals "law" = some (some (.ref f_law)))
    (l_law : K.lookup f_law = some ⟨oc_law, od_law, .func (PySem.W.fnOf "law" "law" (defArgs s_law) (defBody s_law) (defScope s_law) .none kV_law dc_law pm_law an_law cd_law ct_law), sl_law⟩)
    (c_law : PySem.W.codeIn K cd_law "law" = true)
    (k_law : PySem.W.keepIn K (.ref f_law) = true)
    (n_abs : PySem.W.nsIn K mainGlobals "abs" = some none)
    (n_all : PySem.W.nsIn K mainGlobals "all" = some none)
    (n_any : PySem.W.nsIn K mainGlobals "any" = some none)
    (n_enumerate : PySem.W.nsIn K mainGlobals "enumerate" = some none)
    (n_int : PySem.W.nsIn K mainGlobals "int" = some none)
    (n_isinstance : PySem.W.nsIn K mainGlobals "isinstance" = some none)
    (n_len : PySem.W.nsIn K mainGlobals "len" = some none)
    (n_list : PySem.W.nsIn K mainGlobals "list" = some none)
    (n_max : PySem.W.nsIn K mainGlobals "max" = some none)
    (n_min : PySem.W.nsIn K mainGlobals "min" = some none)
    (n_range : PySem.W.nsIn K mainGlobals "range" = some none)
    (n_repr : PySem.W.nsIn K mainGlobals "repr" = some none)
    (n_str : PySem.W.nsIn K mainGlobals "str" = some none)
    (n_tuple : PySem.W.nsIn K mainGlobals "tuple" = some none)
    (aC_ArrowError : PySem.W.nsIn K mainGlobals "ArrowError" = some (some (.ref C_ArrowError)))
    (aC_InvalidText : PySem.W.nsIn K mainGlobals "InvalidText" = some (some (.ref C_InvalidText)))
    (xL_InvalidText : K.lookup C_InvalidText = some (excClassObj nm_InvalidText q_InvalidText C_InvalidText N_InvalidText bs_InvalidText bm_InvalidText true sn_InvalidText sub_InvalidText ab_InvalidText col_InvalidText dd_InvalidText m0_InvalidText m1_InvalidText m2_InvalidText m3_InvalidText m5_InvalidText "ValueError.__new__"))
    (rv_InvalidText : PySem.HandSPX.refsVE bm_InvalidText = true)
    (sa_InvalidText : PySem.W.findIn K (.ref C_InvalidText) "__setattr__" = some (some (.builtin "object.__setattr__")))
    (nof_InvalidText : PySem.W.findIn K (.ref C_InvalidText) "given" = some none)
    (exC_InvalidText : PySem.W.subIn K (.ref C_InvalidText) (.type "BaseException") = some true)
    (veC_InvalidText : PySem.W.subIn K (.ref C_InvalidText) (.type "ValueError") = some true)
    (tyC_InvalidText : PySem.W.typeIn K (.ref C_InvalidText) = some (.type "type"))
    (kC_InvalidText : PySem.W.keepIn K (.ref C_InvalidText) = true)
    (iC_InvalidText : PySem.W.findIn K (.ref C_InvalidText) "__init__" = some (some (.ref I_InvalidText)))
    (tI_InvalidText : PySem.W.typeIn K (.ref I_InvalidText) = some (.type "function"))
    (sub_InvalidText' : PySem.W.mroIn K C_InvalidText (.ref C_InvalidText) = some true)
    (sup_InvalidText : PySem.W.ks_superIn K C_InvalidText C_InvalidText "__init__" = some (some (.builtin "ValueError.__init__")))
    (ext_InvalidText : PySem.W.excInitIn K C_InvalidText [.type "ValueError", .type "Exception", .type "BaseException", .type "object"] "ValueError.__new__" = true)
    (lI_InvalidText : K.lookup I_InvalidText = some ⟨oC_InvalidText, oD_InvalidText, .func (PySem.W.ksFn "__init__" ql_InvalidText par_InvalidText (supBody "given" p0_InvalidText p1_InvalidText p2_InvalidText p3_InvalidText p4_InvalidText p5_InvalidText p6_InvalidText p7_InvalidText p8_InvalidText p9_InvalidText) sco_InvalidText dV_InvalidText oK_InvalidText doc_InvalidText pm_InvalidText oAn_InvalidText (.ref cda_InvalidText) ct_InvalidText cc_InvalidText), osl_InvalidText⟩)
    (cI_InvalidText : PySem.W.codeIn K (.ref cda_InvalidText) ql_InvalidText = true)
    (hA_InvalidText : (par_InvalidText.posonlyargs ++ par_InvalidText.args).head? = some ar_InvalidText)
    (hS_InvalidText : ar_InvalidText.arg = ("self" : Str))
    (lD_InvalidText : K.lookup cda_InvalidText = some ⟨ccl_InvalidText, ccd_InvalidText, .fields vs_InvalidText, ccs_InvalidText'⟩)
    (hF_InvalidText : vs_InvalidText[2]? = some (.str fl_InvalidText tf_InvalidText))
    (hM_InvalidText : ((l.prog.main.file : Str) == fl_InvalidText) = true)
    (lC_InvalidText : K.lookup cc_InvalidText = some ⟨cl_InvalidText, cld_InvalidText, .cell (some (.ref C_InvalidText)), csl_InvalidText'⟩)
    (h1_InvalidText : sco_InvalidText.kind = .function)
    (h2_InvalidText : sco_InvalidText.isCoroutine = false)
    (h3_InvalidText : sco_InvalidText.isGenerator = false)
    (h4_InvalidText : sco_InvalidText.names.lookup ("self" : Str) = some NameKind.local)
    (h5_InvalidText : sco_InvalidText.names.lookup ("given" : Str) = some NameKind.local)
    (h6_InvalidText : sco_InvalidText.names.lookup ("__class__" : Str) = some NameKind.free)
    (h7_InvalidText : sco_InvalidText.names.lookup ("super" : Str) = some NameKind.globalImplicit)
    (h8_InvalidText : ∀ x ∈ sco_InvalidText.names, x.2 ≠ NameKind.cell)
    (h9_InvalidText : (p2_InvalidText.endLine == p4_InvalidText.line) = true)
    (hB_InvalidText : ∀ (s : Shared) (x u : Value), BindsTo s (PySem.W.ksFn "__init__" ql_InvalidText par_InvalidText (supBody "given" p0_InvalidText p1_InvalidText p2_InvalidText p3_InvalidText p4_InvalidText p5_InvalidText p6_InvalidText p7_InvalidText p8_InvalidText p9_InvalidText) sco_InvalidText dV_InvalidText oK_InvalidText doc_InvalidText pm_InvalidText oAn_InvalidText (.ref cda_InvalidText) ct_InvalidText cc_InvalidText) ⟨[x, u], []⟩ [("self", x), ("given", u)])
    (aC_InvalidLine : PySem.W.nsIn K mainGlobals "InvalidLine" = some (some (.ref C_InvalidLine)))
    (xL_InvalidLine : K.lookup C_InvalidLine = some (excClassObj nm_InvalidLine q_InvalidLine C_InvalidLine N_InvalidLine bs_InvalidLine bm_InvalidLine true sn_InvalidLine sub_InvalidLine ab_InvalidLine col_InvalidLine dd_InvalidLine m0_InvalidLine m1_InvalidLine m2_InvalidLine m3_InvalidLine m5_InvalidLine "ValueError.__new__"))
    (rv_InvalidLine : PySem.HandSPX.refsVE bm_InvalidLine = true)
    (sa_InvalidLine : PySem.W.findIn K (.ref C_InvalidLine) "__setattr__" = some (some (.builtin "object.__setattr__")))
    (nof_InvalidLine : PySem.W.findIn K (.ref C_InvalidLine) "given" = some none)
    (exC_InvalidLine : PySem.W.subIn K (.ref C_InvalidLine) (.type "BaseException") = some true)
    (veC_InvalidLine : PySem.W.subIn K (.ref C_InvalidLine) (.type "ValueError") = some true)
    (tyC_InvalidLine : PySem.W.typeIn K (.ref C_InvalidLine) = some (.type "type"))
    (kC_InvalidLine : PySem.W.keepIn K (.ref C_InvalidLine) = true)
    (iC_InvalidLine : PySem.W.findIn K (.ref C_InvalidLine) "__init__" = some (some (.ref I_InvalidLine)))
    (tI_InvalidLine : PySem.W.typeIn K (.ref I_InvalidLine) = some (.type "function"))
    (sub_InvalidLine' : PySem.W.mroIn K C_InvalidLine (.ref C_InvalidLine) = some true)
    (sup_InvalidLine : PySem.W.ks_superIn K C_InvalidLine C_InvalidLine "__init__" = some (some (.builtin "ValueError.__init__")))
    (ext_InvalidLine : PySem.W.excInitIn K C_InvalidLine [.type "ValueError", .type "Exception", .type "BaseException", .type "object"] "ValueError.__new__" = true)
    (lI_InvalidLine : K.lookup I_InvalidLine = some ⟨oC_InvalidLine, oD_InvalidLine, .func (PySem.W.ksFn "__init__" ql_InvalidLine par_InvalidLine (supBody "given" p0_InvalidLine p1_InvalidLine p2_InvalidLine p3_InvalidLine p4_InvalidLine p5_InvalidLine p6_InvalidLine p7_InvalidLine p8_InvalidLine p9_InvalidLine) sco_InvalidLine dV_InvalidLine oK_InvalidLine doc_InvalidLine pm_InvalidLine oAn_InvalidLine (.ref cda_InvalidLine) ct_InvalidLine cc_InvalidLine), osl_InvalidLine⟩)
    (cI_InvalidLine : PySem.W.codeIn K (.ref cda_InvalidLine) ql_InvalidLine = true)
    (hA_InvalidLine : (par_InvalidLine.posonlyargs ++ par_InvalidLine.args).head? = some ar_InvalidLine)
    (hS_InvalidLine : ar_InvalidLine.arg = ("self" : Str))
    (lD_InvalidLine : K.lookup cda_InvalidLine = some ⟨ccl_InvalidLine, ccd_InvalidLine, .fields vs_InvalidLine, ccs_InvalidLine'⟩)
    (hF_InvalidLine : vs_InvalidLine[2]? = some (.str fl_InvalidLine tf_InvalidLine))
    (hM_InvalidLine : ((l.prog.main.file : Str) == fl_InvalidLine) = true)
    (lC_InvalidLine : K.lookup cc_InvalidLine = some ⟨cl_InvalidLine, cld_InvalidLine, .cell (some (.ref C_InvalidLine)), csl_InvalidLine'⟩)
    (h1_InvalidLine : sco_InvalidLine.kind = .function)
    (h2_InvalidLine : sco_InvalidLine.isCoroutine = false)
    (h3_InvalidLine : sco_InvalidLine.isGenerator = false)
    (h4_InvalidLine : sco_InvalidLine.names.lookup ("self" : Str) = some NameKind.local)
    (h5_InvalidLine : sco_InvalidLine.names.lookup ("given" : Str) = some NameKind.local)
    (h6_InvalidLine : sco_InvalidLine.names.lookup ("__class__" : Str) = some NameKind.free)
    (h7_InvalidLine : sco_InvalidLine.names.lookup ("super" : Str) = some NameKind.globalImplicit)
    (h8_InvalidLine : ∀ x ∈ sco_InvalidLine.names, x.2 ≠ NameKind.cell)
    (h9_InvalidLine : (p2_InvalidLine.endLine == p4_InvalidLine.line) = true)
    (hB_InvalidLine : ∀ (s : Shared) (x u : Value), BindsTo s (PySem.W.ksFn "__init__" ql_InvalidLine par_InvalidLine (supBody "given" p0_InvalidLine p1_InvalidLine p2_InvalidLine p3_InvalidLine p4_InvalidLine p5_InvalidLine p6_InvalidLine p7_InvalidLine p8_InvalidLine p9_InvalidLine) sco_InvalidLine dV_InvalidLine oK_InvalidLine doc_InvalidLine pm_InvalidLine oAn_InvalidLine (.ref cda_InvalidLine) ct_InvalidLine cc_InvalidLine) ⟨[x, u], []⟩ [("self", x), ("given", u)])
    (x_stat : PySem.W.nsIn K cStatics "thirdparty.any" = some none)
    (x_nsup : PySem.W.nsIn K mainGlobals "super" = some none)
    (x_htop : (l.prog.main.scope.names.lookup ("super" : Str)).isSome = false)
    (exB : PySem.W.subIn K (.ref C_ArrowError) (.type "BaseException") = some true)
    (hdB : PySem.W.hasDictIn K C_ArrowError = true)
    (tyB : PySem.W.typeIn K (.ref C_ArrowError) = some (.type "type"))
    (osn : PySem.W.specialIn K (.builtin "object.__class__") "__get__" = some (some (.builtin "getset_descriptor.__get__")))
    (otk : PySem.W.takesIn K (.builtin "object.__class__") = some true)
    (cb_InvalidText : PySem.W.subIn K (.ref C_InvalidText) (.ref C_ArrowError) = some true)
    (ga_InvalidText : PySem.W.findIn K (.ref C_InvalidText) "__getattribute__" = some (some (.builtin "BaseException.__getattribute__")))
    (gg_InvalidText : PySem.W.findIn K (.ref C_InvalidText) "__getattr__" = some none)
    (hd_InvalidText : PySem.W.hasDictIn K C_InvalidText = true)
    (gc_InvalidText : PySem.W.findIn K (.ref C_InvalidText) "__class__" = some (some (.builtin "object.__class__")))
    (mo_InvalidText : PySem.W.mroIn K C_InvalidText (.type "object") = some true)
    (kt_InvalidText_InvalidText : PySem.W.kitOne K (.ref C_InvalidText) (.ref C_InvalidText) = some true)
    (kt_InvalidText_InvalidLine : PySem.W.kitOne K (.ref C_InvalidText) (.ref C_InvalidLine) = some false)
    (cb_InvalidLine : PySem.W.subIn K (.ref C_InvalidLine) (.ref C_ArrowError) = some true)
    (ga_InvalidLine : PySem.W.findIn K (.ref C_InvalidLine) "__getattribute__" = some (some (.builtin "BaseException.__getattribute__")))
    (gg_InvalidLine : PySem.W.findIn K (.ref C_InvalidLine) "__getattr__" = some none)
    (hd_InvalidLine : PySem.W.hasDictIn K C_InvalidLine = true)
    (gc_InvalidLine : PySem.W.findIn K (.ref C_InvalidLine) "__class__" = some (some (.builtin "object.__class__")))
    (mo_InvalidLine : PySem.W.mroIn K C_InvalidLine (.type "object") = some true)
    (kt_InvalidLine_InvalidText : PySem.W.kitOne K (.ref C_InvalidLine) (.ref C_InvalidText) = some false)
    (kt_InvalidLine_InvalidLine : PySem.W.kitOne K (.ref C_InvalidLine) (.ref C_InvalidLine) = some true)
    (z_END : PySem.W.nsIn K mainGlobals "END" = some (some (.str "\n" t_END)))
    (z_BLANK : PySem.W.nsIn K mainGlobals "BLANK" = some (some (.str " " t_BLANK)))
    (z_FIGURES : PySem.W.nsIn K mainGlobals "FIGURES" = some (some (.str "0123456789" t_FIGURES)))
    (z_SMALL : PySem.W.nsIn K mainGlobals "SMALL" = some (some (.str "abcdefghijklmnopqrstuvwxyz" t_SMALL)))
    (z_ARROW_LETTERS : PySem.W.nsIn K mainGlobals "ARROW_LETTERS" = some (some (.str "abcdefgh" t_ARROW_LETTERS)))
    (z_ROLE_LETTERS : PySem.W.nsIn K mainGlobals "ROLE_LETTERS" = some (some (.str "uo" t_ROLE_LETTERS)))
    (z_SIGNS : PySem.W.nsIn K mainGlobals "SIGNS" = some (some (.ref K_SIGNS)))
    (zl_SIGNS : K.lookup K_SIGNS = some ⟨.type "tuple", zd_SIGNS, .seq #[(.str "(" t_SIGNS_0), (.str ")" t_SIGNS_1), (.str ":" t_SIGNS_2), (.str "|" t_SIGNS_3), (.str "+" t_SIGNS_4), (.str "-" t_SIGNS_5), (.str "*" t_SIGNS_6), (.str "=" t_SIGNS_7), (.str "," t_SIGNS_8)] zn_SIGNS, zs_SIGNS⟩)
    (z_OWN_WORDS : PySem.W.nsIn K mainGlobals "OWN_WORDS" = some (some (.ref K_OWN_WORDS)))
    (zl_OWN_WORDS : K.lookup K_OWN_WORDS = some ⟨.type "tuple", zd_OWN_WORDS, .seq #[(.str "ground" t_OWN_WORDS_0), (.str "line" t_OWN_WORDS_1), (.str "ring" t_OWN_WORDS_2), (.str "drawing" t_OWN_WORDS_3), (.str "pattern" t_OWN_WORDS_4), (.str "let" t_OWN_WORDS_5), (.str "is" t_OWN_WORDS_6), (.str "kept" t_OWN_WORDS_7), (.str "by" t_OWN_WORDS_8), (.str "one" t_OWN_WORDS_9), (.str "two" t_OWN_WORDS_10), (.str "three" t_OWN_WORDS_11), (.str "same" t_OWN_WORDS_12), (.str "nought" t_OWN_WORDS_13), (.str "adds" t_OWN_WORDS_14), (.str "count" t_OWN_WORDS_15), (.str "in" t_OWN_WORDS_16), (.str "flat" t_OWN_WORDS_17), (.str "back" t_OWN_WORDS_18), (.str "mirror" t_OWN_WORDS_19), (.str "over" t_OWN_WORDS_20)] zn_OWN_WORDS, zs_OWN_WORDS⟩)
    (z_LETTER : PySem.W.nsIn K mainGlobals "LETTER" = some (some (.str "letter" t_LETTER)))
    (z_ROLED : PySem.W.nsIn K mainGlobals "ROLED" = some (some (.str "end" t_ROLED)))
    (z_NAME : PySem.W.nsIn K mainGlobals "NAME" = some (some (.str "name" t_NAME)))
    (z_NUMERAL : PySem.W.nsIn K mainGlobals "NUMERAL" = some (some (.str "numeral" t_NUMERAL)))
    (z_NO_KIND : PySem.W.nsIn K mainGlobals "NO_KIND" = some (some (.str "none" t_NO_KIND)))
    (z_LONGEST_NAME : PySem.W.nsIn K mainGlobals "LONGEST_NAME" = some (some (.int 8 t_LONGEST_NAME)))
    (z_LONGEST_NUMERAL : PySem.W.nsIn K mainGlobals "LONGEST_NUMERAL" = some (some (.int 3 t_LONGEST_NUMERAL))) :
    ∃ fd : FuncData, (∀ (s : Shared) (u : Value), BindsTo s fd ⟨[u], []⟩ [("script", u)]) ∧ ∀ base : Heap, K.In base → base.Ns mainGlobals mg → FnG l.prog w K mg base 7 fa fd ["script"] (spL K 63) := by
  have e : f_law = fa := Value.ref.inj (Option.some.inj ((PySem.W.mg_of X G a_law).symm.trans hfa))
  subst e
  have F_run_length := fun_mk (st := s_run_length) l_run_length c_run_length k_run_length
  have F_words_of := fun_mk (st := s_words_of) l_words_of c_words_of k_words_of
  have F_is_of := fun_mk (st := s_is_of) l_is_of c_is_of k_is_of
  have F_is_numeral := fun_mk (st := s_is_numeral) l_is_numeral c_is_numeral k_is_numeral
  have F_is_letter := fun_mk (st := s_is_letter) l_is_letter c_is_letter k_is_letter
  have F_is_end := fun_mk (st := s_is_end) l_is_end c_is_end k_is_end
  have F_kind_of_word := fun_mk (st := s_kind_of_word) l_kind_of_word c_kind_of_word k_kind_of_word
  have F_words := fun_mk (st := s_words) l_words c_words k_words
  have F_word_kind := fun_mk (st := s_word_kind) l_word_kind c_word_kind k_word_kind
  have F__law_tray := fun_mk (st := s__law_tray) l__law_tray c__law_tray k__law_tray
  have F__law_pebble := fun_mk (st := s__law_pebble) l__law_pebble c__law_pebble k__law_pebble
  have F__law_any := fun_mk (st := s__law_any) l__law_any c__law_any k__law_any
  have F__law_language := fun_mk (st := s__law_language) l__law_language c__law_language k__law_language
  have F__law_kind := fun_mk (st := s__law_kind) l__law_kind c__law_kind k__law_kind
  have F__law_cut := fun_mk (st := s__law_cut) l__law_cut c__law_cut k__law_cut
  have F__law_same := fun_mk (st := s__law_same) l__law_same c__law_same k__law_same
  have F__law_heard := fun_mk (st := s__law_heard) l__law_heard c__law_heard k__law_heard
  have F__law_told_kind := fun_mk (st := s__law_told_kind) l__law_told_kind c__law_told_kind k__law_told_kind
  have F__law_dealt_word := fun_mk (st := s__law_dealt_word) l__law_dealt_word c__law_dealt_word k__law_dealt_word
  have F__law_is_right := fun_mk (st := s__law_is_right) l__law_is_right c__law_is_right k__law_is_right
  have F_law := fun_mk (st := s_law) l_law c_law k_law
  let V : Ad := { A_run_length := f_run_length, D_run_length := PySem.W.fnOf "run_length" "run_length" (defArgs s_run_length) (defBody s_run_length) (defScope s_run_length) .none kV_run_length dc_run_length pm_run_length an_run_length cd_run_length ct_run_length, A_words_of := f_words_of, D_words_of := PySem.W.fnOf "words_of" "words_of" (defArgs s_words_of) (defBody s_words_of) (defScope s_words_of) .none kV_words_of dc_words_of pm_words_of an_words_of cd_words_of ct_words_of, A_is_of := f_is_of, D_is_of := PySem.W.fnOf "is_of" "is_of" (defArgs s_is_of) (defBody s_is_of) (defScope s_is_of) .none kV_is_of dc_is_of pm_is_of an_is_of cd_is_of ct_is_of, A_is_numeral := f_is_numeral, D_is_numeral := PySem.W.fnOf "is_numeral" "is_numeral" (defArgs s_is_numeral) (defBody s_is_numeral) (defScope s_is_numeral) .none kV_is_numeral dc_is_numeral pm_is_numeral an_is_numeral cd_is_numeral ct_is_numeral, A_is_letter := f_is_letter, D_is_letter := PySem.W.fnOf "is_letter" "is_letter" (defArgs s_is_letter) (defBody s_is_letter) (defScope s_is_letter) .none kV_is_letter dc_is_letter pm_is_letter an_is_letter cd_is_letter ct_is_letter, A_is_end := f_is_end, D_is_end := PySem.W.fnOf "is_end" "is_end" (defArgs s_is_end) (defBody s_is_end) (defScope s_is_end) .none kV_is_end dc_is_end pm_is_end an_is_end cd_is_end ct_is_end, A_kind_of_word := f_kind_of_word, D_kind_of_word := PySem.W.fnOf "kind_of_word" "kind_of_word" (defArgs s_kind_of_word) (defBody s_kind_of_word) (defScope s_kind_of_word) .none kV_kind_of_word dc_kind_of_word pm_kind_of_word an_kind_of_word cd_kind_of_word ct_kind_of_word, A_words := f_words, D_words := PySem.W.fnOf "words" "words" (defArgs s_words) (defBody s_words) (defScope s_words) .none kV_words dc_words pm_words an_words cd_words ct_words, A_word_kind := f_word_kind, D_word_kind := PySem.W.fnOf "word_kind" "word_kind" (defArgs s_word_kind) (defBody s_word_kind) (defScope s_word_kind) .none kV_word_kind dc_word_kind pm_word_kind an_word_kind cd_word_kind ct_word_kind, A__law_tray := f__law_tray, D__law_tray := PySem.W.fnOf "_law_tray" "_law_tray" (defArgs s__law_tray) (defBody s__law_tray) (defScope s__law_tray) .none kV__law_tray dc__law_tray pm__law_tray an__law_tray cd__law_tray ct__law_tray, A__law_pebble := f__law_pebble, D__law_pebble := PySem.W.fnOf "_law_pebble" "_law_pebble" (defArgs s__law_pebble) (defBody s__law_pebble) (defScope s__law_pebble) .none kV__law_pebble dc__law_pebble pm__law_pebble an__law_pebble cd__law_pebble ct__law_pebble, A__law_any := f__law_any, D__law_any := PySem.W.fnOf "_law_any" "_law_any" (defArgs s__law_any) (defBody s__law_any) (defScope s__law_any) .none kV__law_any dc__law_any pm__law_any an__law_any cd__law_any ct__law_any, A__law_language := f__law_language, D__law_language := PySem.W.fnOf "_law_language" "_law_language" (defArgs s__law_language) (defBody s__law_language) (defScope s__law_language) .none kV__law_language dc__law_language pm__law_language an__law_language cd__law_language ct__law_language, A__law_kind := f__law_kind, D__law_kind := PySem.W.fnOf "_law_kind" "_law_kind" (defArgs s__law_kind) (defBody s__law_kind) (defScope s__law_kind) .none kV__law_kind dc__law_kind pm__law_kind an__law_kind cd__law_kind ct__law_kind, A__law_cut := f__law_cut, D__law_cut := PySem.W.fnOf "_law_cut" "_law_cut" (defArgs s__law_cut) (defBody s__law_cut) (defScope s__law_cut) .none kV__law_cut dc__law_cut pm__law_cut an__law_cut cd__law_cut ct__law_cut, A__law_same := f__law_same, D__law_same := PySem.W.fnOf "_law_same" "_law_same" (defArgs s__law_same) (defBody s__law_same) (defScope s__law_same) .none kV__law_same dc__law_same pm__law_same an__law_same cd__law_same ct__law_same, A__law_heard := f__law_heard, D__law_heard := PySem.W.fnOf "_law_heard" "_law_heard" (defArgs s__law_heard) (defBody s__law_heard) (defScope s__law_heard) .none kV__law_heard dc__law_heard pm__law_heard an__law_heard cd__law_heard ct__law_heard, A__law_told_kind := f__law_told_kind, D__law_told_kind := PySem.W.fnOf "_law_told_kind" "_law_told_kind" (defArgs s__law_told_kind) (defBody s__law_told_kind) (defScope s__law_told_kind) .none kV__law_told_kind dc__law_told_kind pm__law_told_kind an__law_told_kind cd__law_told_kind ct__law_told_kind, A__law_dealt_word := f__law_dealt_word, D__law_dealt_word := PySem.W.fnOf "_law_dealt_word" "_law_dealt_word" (defArgs s__law_dealt_word) (defBody s__law_dealt_word) (defScope s__law_dealt_word) .none kV__law_dealt_word dc__law_dealt_word pm__law_dealt_word an__law_dealt_word cd__law_dealt_word ct__law_dealt_word, A__law_is_right := f__law_is_right, D__law_is_right := PySem.W.fnOf "_law_is_right" "_law_is_right" (defArgs s__law_is_right) (defBody s__law_is_right) (defScope s__law_is_right) .none kV__law_is_right dc__law_is_right pm__law_is_right an__law_is_right cd__law_is_right ct__law_is_right, A_law := f_law, D_law := PySem.W.fnOf "law" "law" (defArgs s_law) (defBody s_law) (defScope s_law) .none kV_law dc_law pm_law an_law cd_law ct_law, C_ArrowError := C_ArrowError, C_InvalidText := C_InvalidText, I_InvalidText := I_InvalidText, C_InvalidLine := C_InvalidLine, I_InvalidLine := I_InvalidLine, K_SIGNS := K_SIGNS, K_OWN_WORDS := K_OWN_WORDS }
  have T : Tx l.prog K mg V := {
    g_run_length := PySem.W.mg_of X G a_run_length,
    F_run_length := F_run_length,
    b_run_length := F_run_length.binds (ps := ["line", "at", "signs"]) fun _ _ _ _ _ _ us hl => match us, hl with | [_, _, _], _ => rfl,
    g_words_of := PySem.W.mg_of X G a_words_of,
    F_words_of := F_words_of,
    b_words_of := F_words_of.binds (ps := ["line"]) fun _ _ _ _ _ _ us hl => match us, hl with | [_], _ => rfl,
    g_is_of := PySem.W.mg_of X G a_is_of,
    F_is_of := F_is_of,
    b_is_of := F_is_of.binds (ps := ["word", "signs"]) fun _ _ _ _ _ _ us hl => match us, hl with | [_, _], _ => rfl,
    g_is_numeral := PySem.W.mg_of X G a_is_numeral,
    F_is_numeral := F_is_numeral,
    b_is_numeral := F_is_numeral.binds (ps := ["word"]) fun _ _ _ _ _ _ us hl => match us, hl with | [_], _ => rfl,
    g_is_letter := PySem.W.mg_of X G a_is_letter,
    F_is_letter := F_is_letter,
    b_is_letter := F_is_letter.binds (ps := ["value"]) fun _ _ _ _ _ _ us hl => match us, hl with | [_], _ => rfl,
    g_is_end := PySem.W.mg_of X G a_is_end,
    F_is_end := F_is_end,
    b_is_end := F_is_end.binds (ps := ["value"]) fun _ _ _ _ _ _ us hl => match us, hl with | [_], _ => rfl,
    g_kind_of_word := PySem.W.mg_of X G a_kind_of_word,
    F_kind_of_word := F_kind_of_word,
    b_kind_of_word := F_kind_of_word.binds (ps := ["word"]) fun _ _ _ _ _ _ us hl => match us, hl with | [_], _ => rfl,
    g_words := PySem.W.mg_of X G a_words,
    F_words := F_words,
    b_words := F_words.binds (ps := ["line"]) fun _ _ _ _ _ _ us hl => match us, hl with | [_], _ => rfl,
    g_word_kind := PySem.W.mg_of X G a_word_kind,
    F_word_kind := F_word_kind,
    b_word_kind := F_word_kind.binds (ps := ["word"]) fun _ _ _ _ _ _ us hl => match us, hl with | [_], _ => rfl,
    g__law_tray := PySem.W.mg_of X G a__law_tray,
    F__law_tray := F__law_tray,
    b__law_tray := F__law_tray.binds (ps := ["script", "lap"]) fun _ _ _ _ _ _ us hl => match us, hl with | [_, _], _ => rfl,
    g__law_pebble := PySem.W.mg_of X G a__law_pebble,
    F__law_pebble := F__law_pebble,
    b__law_pebble := F__law_pebble.binds (ps := ["tray", "many"]) fun _ _ _ _ _ _ us hl => match us, hl with | [_, _], _ => rfl,
    g__law_any := PySem.W.mg_of X G a__law_any,
    F__law_any := F__law_any,
    b__law_any := F__law_any.binds (ps := ["tray", "some"]) fun _ _ _ _ _ _ us hl => match us, hl with | [_, _], _ => rfl,
    g__law_language := PySem.W.mg_of X G a__law_language,
    F__law_language := F__law_language,
    b__law_language := F__law_language.binds (ps := []) fun _ _ _ _ _ _ us hl => match us, hl with | [], _ => rfl,
    g__law_kind := PySem.W.mg_of X G a__law_kind,
    F__law_kind := F__law_kind,
    b__law_kind := F__law_kind.binds (ps := ["word"]) fun _ _ _ _ _ _ us hl => match us, hl with | [_], _ => rfl,
    g__law_cut := PySem.W.mg_of X G a__law_cut,
    F__law_cut := F__law_cut,
    b__law_cut := F__law_cut.binds (ps := ["line"]) fun _ _ _ _ _ _ us hl => match us, hl with | [_], _ => rfl,
    g__law_same := PySem.W.mg_of X G a__law_same,
    F__law_same := F__law_same,
    b__law_same := F__law_same.binds (ps := ["one", "two"]) fun _ _ _ _ _ _ us hl => match us, hl with | [_, _], _ => rfl,
    g__law_heard := PySem.W.mg_of X G a__law_heard,
    F__law_heard := F__law_heard,
    b__law_heard := F__law_heard.binds (ps := ["way", "value", "is_named"]) fun _ _ _ _ _ _ us hl => match us, hl with | [_, _, _], _ => rfl,
    g__law_told_kind := PySem.W.mg_of X G a__law_told_kind,
    F__law_told_kind := F__law_told_kind,
    b__law_told_kind := F__law_told_kind.binds (ps := ["word"]) fun _ _ _ _ _ _ us hl => match us, hl with | [_], _ => rfl,
    g__law_dealt_word := PySem.W.mg_of X G a__law_dealt_word,
    F__law_dealt_word := F__law_dealt_word,
    b__law_dealt_word := F__law_dealt_word.binds (ps := ["tray"]) fun _ _ _ _ _ _ us hl => match us, hl with | [_], _ => rfl,
    g__law_is_right := PySem.W.mg_of X G a__law_is_right,
    F__law_is_right := F__law_is_right,
    b__law_is_right := F__law_is_right.binds (ps := ["tray"]) fun _ _ _ _ _ _ us hl => match us, hl with | [_], _ => rfl,
    g_law := PySem.W.mg_of X G a_law,
    F_law := F_law,
    b_law := F_law.binds (ps := ["script"]) fun _ _ _ _ _ _ us hl => match us, hl with | [_], _ => rfl,
    n_abs := PySem.W.mg_none_of X G n_abs,
    n_all := PySem.W.mg_none_of X G n_all,
    n_any := PySem.W.mg_none_of X G n_any,
    n_enumerate := PySem.W.mg_none_of X G n_enumerate,
    n_int := PySem.W.mg_none_of X G n_int,
    n_isinstance := PySem.W.mg_none_of X G n_isinstance,
    n_len := PySem.W.mg_none_of X G n_len,
    n_list := PySem.W.mg_none_of X G n_list,
    n_max := PySem.W.mg_none_of X G n_max,
    n_min := PySem.W.mg_none_of X G n_min,
    n_range := PySem.W.mg_none_of X G n_range,
    n_repr := PySem.W.mg_none_of X G n_repr,
    n_str := PySem.W.mg_none_of X G n_str,
    n_tuple := PySem.W.mg_none_of X G n_tuple,
    kb_word_kind_word := ⟨fun s us ws _ hl => by rcases us with _ | ⟨u, us⟩ <;> rcases ws with _ | ⟨w0, _ | ⟨w1, ws⟩⟩ <;> first | exact .of_eq rfl | exact absurd hl (by simp [gk_word_kind_word]), fun {vs us zs ws} h1 h2 => by
      cases h1 with
      | nil =>
        cases h2 with
        | nil => exact .nil
        | cons a h2 =>
          cases h2 with
          | nil => exact .cons a .nil
          | cons b h2 => exact .nil
      | cons a h1 => exact .nil⟩,
    kb_words_line := ⟨fun s us ws _ hl => by rcases us with _ | ⟨u, us⟩ <;> rcases ws with _ | ⟨w0, _ | ⟨w1, ws⟩⟩ <;> first | exact .of_eq rfl | exact absurd hl (by simp [gk_words_line]), fun {vs us zs ws} h1 h2 => by
      cases h1 with
      | nil =>
        cases h2 with
        | nil => exact .nil
        | cons a h2 =>
          cases h2 with
          | nil => exact .cons a .nil
          | cons b h2 => exact .nil
      | cons a h1 => exact .nil⟩,
    g_ArrowError := PySem.W.mg_of X G aC_ArrowError,
    g_InvalidText := PySem.W.mg_of X G aC_InvalidText,
    x_InvalidText := { cls := ⟨_, _, _, _, _, _, _, _, _, _, _, _, _, _, _, xL_InvalidText, rv_InvalidText⟩, sa := sa_InvalidText, nof := nof_InvalidText, exC := exC_InvalidText, veC := veC_InvalidText, tyC := tyC_InvalidText, kC := kC_InvalidText, iC := iC_InvalidText, tI := tI_InvalidText, sub := sub_InvalidText', sup := sup_InvalidText, ext := ext_InvalidText, stat := x_stat, nsup := x_nsup, htop := x_htop, fn := ⟨_, _, _, _, _, _, _, _, _, _, _, _, _, _, _, _, _, _, _, _, _, _, _, _, _, _, _, _, _, _, _, _, _, _, lI_InvalidText, cI_InvalidText, hA_InvalidText, hS_InvalidText, lD_InvalidText, hF_InvalidText, hM_InvalidText, lC_InvalidText, h1_InvalidText, h2_InvalidText, h3_InvalidText, h4_InvalidText, h5_InvalidText, h6_InvalidText, h7_InvalidText, h8_InvalidText, h9_InvalidText, by decide +kernel, by decide +kernel, hB_InvalidText⟩ },
    g_InvalidLine := PySem.W.mg_of X G aC_InvalidLine,
    x_InvalidLine := { cls := ⟨_, _, _, _, _, _, _, _, _, _, _, _, _, _, _, xL_InvalidLine, rv_InvalidLine⟩, sa := sa_InvalidLine, nof := nof_InvalidLine, exC := exC_InvalidLine, veC := veC_InvalidLine, tyC := tyC_InvalidLine, kC := kC_InvalidLine, iC := iC_InvalidLine, tI := tI_InvalidLine, sub := sub_InvalidLine', sup := sup_InvalidLine, ext := ext_InvalidLine, stat := x_stat, nsup := x_nsup, htop := x_htop, fn := ⟨_, _, _, _, _, _, _, _, _, _, _, _, _, _, _, _, _, _, _, _, _, _, _, _, _, _, _, _, _, _, _, _, _, _, lI_InvalidLine, cI_InvalidLine, hA_InvalidLine, hS_InvalidLine, lD_InvalidLine, hF_InvalidLine, hM_InvalidLine, lC_InvalidLine, h1_InvalidLine, h2_InvalidLine, h3_InvalidLine, h4_InvalidLine, h5_InvalidLine, h6_InvalidLine, h7_InvalidLine, h8_InvalidLine, h9_InvalidLine, by decide +kernel, by decide +kernel, hB_InvalidLine⟩ },
    h_InvalidText := ⟨PySem.W.exm_ref exB hdB tyB cb_InvalidText, ⟨ga_InvalidText, gg_InvalidText, exC_InvalidText, hd_InvalidText, gc_InvalidText, osn, otk, mo_InvalidText⟩, ⟨ga_InvalidText, gg_InvalidText, exC_InvalidText, hd_InvalidText⟩, nof_InvalidText⟩,
    kt_InvalidText_InvalidText := kt_InvalidText_InvalidText,
    kt_InvalidText_InvalidLine := kt_InvalidText_InvalidLine,
    h_InvalidLine := ⟨PySem.W.exm_ref exB hdB tyB cb_InvalidLine, ⟨ga_InvalidLine, gg_InvalidLine, exC_InvalidLine, hd_InvalidLine, gc_InvalidLine, osn, otk, mo_InvalidLine⟩, ⟨ga_InvalidLine, gg_InvalidLine, exC_InvalidLine, hd_InvalidLine⟩, nof_InvalidLine⟩,
    kt_InvalidLine_InvalidText := kt_InvalidLine_InvalidText,
    kt_InvalidLine_InvalidLine := kt_InvalidLine_InvalidLine,
    c_END := ⟨_, PySem.W.mg_of X G z_END, ⟨_, rfl⟩⟩,
    c_BLANK := ⟨_, PySem.W.mg_of X G z_BLANK, ⟨_, rfl⟩⟩,
    c_FIGURES := ⟨_, PySem.W.mg_of X G z_FIGURES, ⟨_, rfl⟩⟩,
    c_SMALL := ⟨_, PySem.W.mg_of X G z_SMALL, ⟨_, rfl⟩⟩,
    c_ARROW_LETTERS := ⟨_, PySem.W.mg_of X G z_ARROW_LETTERS, ⟨_, rfl⟩⟩,
    c_ROLE_LETTERS := ⟨_, PySem.W.mg_of X G z_ROLE_LETTERS, ⟨_, rfl⟩⟩,
    c_SIGNS := ⟨_, PySem.W.mg_of X G z_SIGNS, rfl⟩,
    d_SIGNS := fun G => .tup (.inr ⟨_, _, _, zl_SIGNS, rfl, rfl, (show (9 : Nat) ≤ sizeLine by decide), (.cons relS (.cons relS (.cons relS (.cons relS (.cons relS (.cons relS (.cons relS (.cons relS (.cons relS .nil)))))))))⟩) (.cons (.str _) (.cons (.str _) (.cons (.str _) (.cons (.str _) (.cons (.str _) (.cons (.str _) (.cons (.str _) (.cons (.str _) (.cons (.str _) .nil))))))))),
    c_OWN_WORDS := ⟨_, PySem.W.mg_of X G z_OWN_WORDS, rfl⟩,
    d_OWN_WORDS := fun G => .tup (.inr ⟨_, _, _, zl_OWN_WORDS, rfl, rfl, (show (21 : Nat) ≤ sizeLine by decide), (.cons relS (.cons relS (.cons relS (.cons relS (.cons relS (.cons relS (.cons relS (.cons relS (.cons relS (.cons relS (.cons relS (.cons relS (.cons relS (.cons relS (.cons relS (.cons relS (.cons relS (.cons relS (.cons relS (.cons relS (.cons relS .nil)))))))))))))))))))))⟩) (.cons (.str _) (.cons (.str _) (.cons (.str _) (.cons (.str _) (.cons (.str _) (.cons (.str _) (.cons (.str _) (.cons (.str _) (.cons (.str _) (.cons (.str _) (.cons (.str _) (.cons (.str _) (.cons (.str _) (.cons (.str _) (.cons (.str _) (.cons (.str _) (.cons (.str _) (.cons (.str _) (.cons (.str _) (.cons (.str _) (.cons (.str _) .nil))))))))))))))))))))),
    c_LETTER := ⟨_, PySem.W.mg_of X G z_LETTER, ⟨_, rfl⟩⟩,
    c_ROLED := ⟨_, PySem.W.mg_of X G z_ROLED, ⟨_, rfl⟩⟩,
    c_NAME := ⟨_, PySem.W.mg_of X G z_NAME, ⟨_, rfl⟩⟩,
    c_NUMERAL := ⟨_, PySem.W.mg_of X G z_NUMERAL, ⟨_, rfl⟩⟩,
    c_NO_KIND := ⟨_, PySem.W.mg_of X G z_NO_KIND, ⟨_, rfl⟩⟩,
    c_LONGEST_NAME := ⟨_, PySem.W.mg_of X G z_LONGEST_NAME, ⟨_, rfl⟩⟩,
    c_LONGEST_NUMERAL := ⟨_, PySem.W.mg_of X G z_LONGEST_NUMERAL, ⟨_, rfl⟩⟩ }
  exact ⟨_, fun s u => .of_eq rfl, fun base _ _ => end_law T⟩
end K61
open PySem PySem.W PyProof.Rows
set_option maxRecDepth 100000 in
set_option maxHeartbeats 0 in
theorem PySem.Challenge.cw_arrowcounts_k61_whole_words_of_lines_holds : PySem.Challenge.rw_arrowcounts_k61_whole_words_of_lines.Holds := by
  w_on; o_law; k_head; (case hw => w_witness2)
  k_fill
  refine Pk.walkG (l := PySem.Challenge.rw_arrowcounts_k61_whole_words_of_lines) (n := 63) (k := 7) (x := "script") rfl (by decide) rfl ⟨rfl, by decide, by decide⟩ (fun w h Y => PySem.W.kIn_of Y) ?F
  case F =>
    intro w mg fa h KX G hmg
    refine' K61.all_mk KX G hmg ?a_run_length ?l_run_length ?c_run_length ?k_run_length ?a_words_of ?l_words_of ?c_words_of ?k_words_of ?a_is_of ?l_is_of ?c_is_of ?k_is_of ?a_is_numeral ?l_is_numeral ?c_is_numeral ?k_is_numeral ?a_is_letter ?l_is_letter ?c_is_letter ?k_is_letter ?a_is_end ?l_is_end ?c_is_end ?k_is_end ?a_kind_of_word ?l_kind_of_word ?c_kind_of_word ?k_kind_of_word ?a_words ?l_words ?c_words ?k_words ?a_word_kind ?l_word_kind ?c_word_kind ?k_word_kind ?a__law_tray ?l__law_tray ?c__law_tray ?k__law_tray ?a__law_pebble ?l__law_pebble ?c__law_pebble ?k__law_pebble ?a__law_any ?l__law_any ?c__law_any ?k__law_any ?a__law_language ?l__law_language ?c__law_language ?k__law_language ?a__law_kind ?l__law_kind ?c__law_kind ?k__law_kind ?a__law_cut ?l__law_cut ?c__law_cut ?k__law_cut ?a__law_same ?l__law_same ?c__law_same ?k__law_same ?a__law_heard ?l__law_heard ?c__law_heard ?k__law_heard ?a__law_told_kind ?l__law_told_kind ?c__law_told_kind ?k__law_told_kind ?a__law_dealt_word ?l__law_dealt_word ?c__law_dealt_word ?k__law_dealt_word ?a__law_is_right ?l__law_is_right ?c__law_is_right ?k__law_is_right ?a_law ?l_law ?c_law ?k_law ?n_abs ?n_all ?n_any ?n_enumerate ?n_int ?n_isinstance ?n_len ?n_list ?n_max ?n_min ?n_range ?n_repr ?n_str ?n_tuple ?aC_ArrowError ?aC_InvalidText ?xL_InvalidText ?rv_InvalidText ?sa_InvalidText ?nof_InvalidText ?exC_InvalidText ?veC_InvalidText ?tyC_InvalidText ?kC_InvalidText ?iC_InvalidText ?tI_InvalidText ?sub_InvalidText' ?sup_InvalidText ?ext_InvalidText ?lI_InvalidText ?cI_InvalidText ?hA_InvalidText ?hS_InvalidText ?lD_InvalidText ?hF_InvalidText ?hM_InvalidText ?lC_InvalidText ?h1_InvalidText ?h2_InvalidText ?h3_InvalidText ?h4_InvalidText ?h5_InvalidText ?h6_InvalidText ?h7_InvalidText ?h8_InvalidText ?h9_InvalidText ?hB_InvalidText ?aC_InvalidLine ?xL_InvalidLine ?rv_InvalidLine ?sa_InvalidLine ?nof_InvalidLine ?exC_InvalidLine ?veC_InvalidLine ?tyC_InvalidLine ?kC_InvalidLine ?iC_InvalidLine ?tI_InvalidLine ?sub_InvalidLine' ?sup_InvalidLine ?ext_InvalidLine ?lI_InvalidLine ?cI_InvalidLine ?hA_InvalidLine ?hS_InvalidLine ?lD_InvalidLine ?hF_InvalidLine ?hM_InvalidLine ?lC_InvalidLine ?h1_InvalidLine ?h2_InvalidLine ?h3_InvalidLine ?h4_InvalidLine ?h5_InvalidLine ?h6_InvalidLine ?h7_InvalidLine ?h8_InvalidLine ?h9_InvalidLine ?hB_InvalidLine ?x_stat ?x_nsup ?x_htop ?exB ?hdB ?tyB ?osn ?otk ?cb_InvalidText ?ga_InvalidText ?gg_InvalidText ?hd_InvalidText ?gc_InvalidText ?mo_InvalidText ?kt_InvalidText_InvalidText ?kt_InvalidText_InvalidLine ?cb_InvalidLine ?ga_InvalidLine ?gg_InvalidLine ?hd_InvalidLine ?gc_InvalidLine ?mo_InvalidLine ?kt_InvalidLine_InvalidText ?kt_InvalidLine_InvalidLine ?z_END ?z_BLANK ?z_FIGURES ?z_SMALL ?z_ARROW_LETTERS ?z_ROLE_LETTERS ?z_SIGNS ?zl_SIGNS ?z_OWN_WORDS ?zl_OWN_WORDS ?z_LETTER ?z_ROLED ?z_NAME ?z_NUMERAL ?z_NO_KIND ?z_LONGEST_NAME ?z_LONGEST_NUMERAL
    (case a_run_length => k_is)
    (case l_run_length => k_is)
    (case c_run_length => k_is)
    (case k_run_length => k_is)
    (case a_words_of => k_is)
    (case l_words_of => k_is)
    (case c_words_of => k_is)
    (case k_words_of => k_is)
    (case a_is_of => k_is)
    (case l_is_of => k_is)
    (case c_is_of => k_is)
    (case k_is_of => k_is)
    (case a_is_numeral => k_is)
    (case l_is_numeral => k_is)
    (case c_is_numeral => k_is)
    (case k_is_numeral => k_is)
    (case a_is_letter => k_is)
    (case l_is_letter => k_is)
    (case c_is_letter => k_is)
    (case k_is_letter => k_is)
    (case a_is_end => k_is)
    (case l_is_end => k_is)
    (case c_is_end => k_is)
    (case k_is_end => k_is)
    (case a_kind_of_word => k_is)
    (case l_kind_of_word => k_is)
    (case c_kind_of_word => k_is)
    (case k_kind_of_word => k_is)
    (case a_words => k_is)
    (case l_words => k_is)
    (case c_words => k_is)
    (case k_words => k_is)
    (case a_word_kind => k_is)
    (case l_word_kind => k_is)
    (case c_word_kind => k_is)
    (case k_word_kind => k_is)
    (case a__law_tray => k_is)
    (case l__law_tray => k_is)
    (case c__law_tray => k_is)
    (case k__law_tray => k_is)
    (case a__law_pebble => k_is)
    (case l__law_pebble => k_is)
    (case c__law_pebble => k_is)
    (case k__law_pebble => k_is)
    (case a__law_any => k_is)
    (case l__law_any => k_is)
    (case c__law_any => k_is)
    (case k__law_any => k_is)
    (case a__law_language => k_is)
    (case l__law_language => k_is)
    (case c__law_language => k_is)
    (case k__law_language => k_is)
    (case a__law_kind => k_is)
    (case l__law_kind => k_is)
    (case c__law_kind => k_is)
    (case k__law_kind => k_is)
    (case a__law_cut => k_is)
    (case l__law_cut => k_is)
    (case c__law_cut => k_is)
    (case k__law_cut => k_is)
    (case a__law_same => k_is)
    (case l__law_same => k_is)
    (case c__law_same => k_is)
    (case k__law_same => k_is)
    (case a__law_heard => k_is)
    (case l__law_heard => k_is)
    (case c__law_heard => k_is)
    (case k__law_heard => k_is)
    (case a__law_told_kind => k_is)
    (case l__law_told_kind => k_is)
    (case c__law_told_kind => k_is)
    (case k__law_told_kind => k_is)
    (case a__law_dealt_word => k_is)
    (case l__law_dealt_word => k_is)
    (case c__law_dealt_word => k_is)
    (case k__law_dealt_word => k_is)
    (case a__law_is_right => k_is)
    (case l__law_is_right => k_is)
    (case c__law_is_right => k_is)
    (case k__law_is_right => k_is)
    (case a_law => k_is)
    (case l_law => k_is)
    (case c_law => k_is)
    (case k_law => k_is)
    (case n_abs => k_is)
    (case n_all => k_is)
    (case n_any => k_is)
    (case n_enumerate => k_is)
    (case n_int => k_is)
    (case n_isinstance => k_is)
    (case n_len => k_is)
    (case n_list => k_is)
    (case n_max => k_is)
    (case n_min => k_is)
    (case n_range => k_is)
    (case n_repr => k_is)
    (case n_str => k_is)
    (case n_tuple => k_is)
    (case aC_ArrowError => k_is)
    (case aC_InvalidText => k_is)
    (case xL_InvalidText => k_is)
    (case rv_InvalidText => rfl)
    (case sa_InvalidText => k_is)
    (case nof_InvalidText => k_is)
    (case exC_InvalidText => k_is)
    (case veC_InvalidText => k_is)
    (case tyC_InvalidText => k_is)
    (case kC_InvalidText => k_is)
    (case iC_InvalidText => k_is)
    (case tI_InvalidText => k_is)
    (case sub_InvalidText' => k_is)
    (case sup_InvalidText => ks_is)
    (case ext_InvalidText => kx_is)
    (case lI_InvalidText => k_is)
    (case cI_InvalidText => k_is)
    (case hA_InvalidText => rfl)
    (case hS_InvalidText => rfl)
    (case lD_InvalidText => k_is)
    (case hF_InvalidText => rfl)
    (case hM_InvalidText => rfl)
    (case lC_InvalidText => k_is)
    (case h1_InvalidText => rfl)
    (case h2_InvalidText => rfl)
    (case h3_InvalidText => rfl)
    (case h4_InvalidText => rfl)
    (case h5_InvalidText => rfl)
    (case h6_InvalidText => rfl)
    (case h7_InvalidText => rfl)
    (case h8_InvalidText => decide +kernel)
    (case h9_InvalidText => rfl)
    (case hB_InvalidText => exact fun s x u => .of_eq rfl)
    (case aC_InvalidLine => k_is)
    (case xL_InvalidLine => k_is)
    (case rv_InvalidLine => rfl)
    (case sa_InvalidLine => k_is)
    (case nof_InvalidLine => k_is)
    (case exC_InvalidLine => k_is)
    (case veC_InvalidLine => k_is)
    (case tyC_InvalidLine => k_is)
    (case kC_InvalidLine => k_is)
    (case iC_InvalidLine => k_is)
    (case tI_InvalidLine => k_is)
    (case sub_InvalidLine' => k_is)
    (case sup_InvalidLine => ks_is)
    (case ext_InvalidLine => kx_is)
    (case lI_InvalidLine => k_is)
    (case cI_InvalidLine => k_is)
    (case hA_InvalidLine => rfl)
    (case hS_InvalidLine => rfl)
    (case lD_InvalidLine => k_is)
    (case hF_InvalidLine => rfl)
    (case hM_InvalidLine => rfl)
    (case lC_InvalidLine => k_is)
    (case h1_InvalidLine => rfl)
    (case h2_InvalidLine => rfl)
    (case h3_InvalidLine => rfl)
    (case h4_InvalidLine => rfl)
    (case h5_InvalidLine => rfl)
    (case h6_InvalidLine => rfl)
    (case h7_InvalidLine => rfl)
    (case h8_InvalidLine => decide +kernel)
    (case h9_InvalidLine => rfl)
    (case hB_InvalidLine => exact fun s x u => .of_eq rfl)
    (case x_stat => k_is)
    (case x_nsup => k_is)
    (case x_htop => rfl)
    (case exB => k_is)
    (case hdB => k_is)
    (case tyB => k_is)
    (case osn => k_is)
    (case otk => k_is)
    (case cb_InvalidText => k_is)
    (case ga_InvalidText => k_is)
    (case gg_InvalidText => k_is)
    (case hd_InvalidText => k_is)
    (case gc_InvalidText => k_is)
    (case mo_InvalidText => k_is)
    (case kt_InvalidText_InvalidText => kit_is)
    (case kt_InvalidText_InvalidLine => kit_is)
    (case cb_InvalidLine => k_is)
    (case ga_InvalidLine => k_is)
    (case gg_InvalidLine => k_is)
    (case hd_InvalidLine => k_is)
    (case gc_InvalidLine => k_is)
    (case mo_InvalidLine => k_is)
    (case kt_InvalidLine_InvalidText => kit_is)
    (case kt_InvalidLine_InvalidLine => kit_is)
    (case z_END => k_is)
    (case z_BLANK => k_is)
    (case z_FIGURES => k_is)
    (case z_SMALL => k_is)
    (case z_ARROW_LETTERS => k_is)
    (case z_ROLE_LETTERS => k_is)
    (case z_SIGNS => k_is)
    (case zl_SIGNS => k_is)
    (case z_OWN_WORDS => k_is)
    (case zl_OWN_WORDS => k_is)
    (case z_LETTER => k_is)
    (case z_ROLED => k_is)
    (case z_NAME => k_is)
    (case z_NUMERAL => k_is)
    (case z_NO_KIND => k_is)
    (case z_LONGEST_NAME => k_is)
    (case z_LONGEST_NUMERAL => k_is)
