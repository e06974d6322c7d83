import PyProof.Rows.All
import Wide.All
import OpenK.AllK
import Wide.FinOn
import HandS.ForExc
import HandS.ExcSuper
import HandS.ExcInit
import KE.KExcSuper
import KE.KExcInit
import HandS.ForMost
import PyProof.ReprRoads
import HandS.IsInst
import HandS.ExcIs
import KE.KExcIs
import HandS.Small
import HandS.WideBits
import HandS.Walk
import HandS.Evl
import KE.KExcLine
import PySem.Challenge.RW_buildtongue_k01_errors_store_what_they_g
set_option Elab.async false
set_option linter.all false
set_option maxRecDepth 100000
set_option maxHeartbeats 4000000
section
/-! An own exception class over Exception, perhaps with own classes between, whose __init__ says super().__init__(..) and stores its parameters. -/
namespace BX
open PySem PySem.W PySem.Calls PyProof.Rows L2 Builtin.ObjectAttr

abbrev exTl : List Value := [.type "Exception", .type "BaseException", .type "object"]

/-- what the written part says of the class at C -/
structure XCls (K : Frag) (C : Addr) : Prop where
  q : excInitIn K C exTl "Exception.__new__" = true
  over : excOver K C exTl = true
  hd : hasDictIn K C = true
  sa : findIn K (.ref C) "__setattr__" = some (some (.builtin "object.__setattr__"))
  sB : subIn K (.ref C) (.type "Exception") = some true
  sBB : subIn K (.ref C) (.type "BaseException") = some true
  sC : mroIn K C (.ref C) = some true
  ty : typeIn K (.ref C) = some (.type "type")
  kp : keepIn K (.ref C) = true
  ga : findIn K (.ref C) "__getattribute__" = some (some (.builtin "BaseException.__getattribute__"))
  gg : findIn K (.ref C) "__getattr__" = some none
  sup : ks_superIn K C C "__init__" = some (some (.builtin "Exception.__init__"))
  nt : nsIn K cStatics "thirdparty.any" = some none

/-- what the written part says of its __init__ at f: the cell of its class, its code object -/
structure XFn (K : Frag) (mg : Str → Option Value) (prog : Program) (C f : Addr) (qual : Str) (ar : Arguments) (bd : List Stmt) (sc : Scope) (cda cc : Addr) : Prop where
  fn : ∃ (oc : Value) (od : Option Addr) (kV doc pm : Value) (an : Option Addr) (ct : Value) (osl : Array (Option Value)), K.lookup f = some ⟨oc, od, .func (ksFn "__init__" qual ar bd sc .none kV doc pm an (.ref cda) ct cc), osl⟩
  code : codeIn K (.ref cda) qual = true
  cell : ∃ (cl : Value) (cld : Option Addr) (csl : Array (Option Value)), K.lookup cc = some ⟨cl, cld, .cell (some (.ref C)), csl⟩
  file : ∃ (ccl : Value) (cdd : Option Addr) (vs : Array Value) (ccs : Array (Option Value)) (fl : Str) (tf : Tok), K.lookup cda = some ⟨ccl, cdd, .fields vs, ccs⟩ ∧ vs[2]? = some (.str fl tf) ∧ ((prog.main.file : Str) == fl) = true
  top : (prog.main.scope.names.lookup ("super" : Str)).isSome = false
  mgS : mg "super" = none
  init : findIn K (.ref C) "__init__" = some (some (.ref f))
  tf : typeIn K (.ref f) = some (.type "function")

section
variable {prog : Program} {w : World} {A : Around} {E : Value → Shared → Prop} {s : Shared} {K : Frag} {mg m : Str → Option Value} {base : Heap} {C x L f cda cc t0 : Addr} {qual : Str} {ar : Arguments} {bd body : List Stmt} {sc : Scope}

theorem cls_of (T : XCls K C) : ∃ cd, clsIn K C = some cd := by
  obtain ⟨cd, h, _⟩ := any_some T.over
  exact ⟨cd, h⟩

theorem sup_run {pl : Sem Bool} {Q : Flow → Shared → Prop} {p0 p1 p2 pos pos2 : Pos} {e : Expr} {es : List Expr} {us : List Value} {a0 : Arg}
    (T : XCls K C) (F : XFn K mg prog C f qual ar bd sc cda cc) (M : Mod K mg base) (k : ∀ b o, base.get? b = some o → s.heap.get? b = some o)
    (hp : (ar.posonlyargs ++ ar.args).head? = some a0) (hn : s.heap.Ns L m) (hv : m a0.arg = some (.ref x)) (hx : s.heap.get? x = some (HandSPX.excO C t0))
    (hks : sc.names.lookup ("super" : Str) = some .globalImplicit) (hkc : sc.names.lookup ("__class__" : Str) = some .free) (hka : sc.names.lookup a0.arg = some .local) (hk : sc.kind = .function)
    (hargs : ∀ (s₁ : Shared) (Q : List Value → Shared → Prop), s₁.heap.Ns L m → Q us s₁ → wpAny (model prog w) A (spliced (backTo pos (starEach (e :: es) (ksEnv qual sc L f (.ref cda) cc)))) Q E s₁) (hz : us.length ≤ sizeLine)
    (hq : ∀ h' t1 tk, (∀ b o, b ≠ x → s.heap.get? b = some o → h'.get? b = some o) → h'.get? x = some (HandSPX.excO C t1) → Q .next { s with heap := h', toks := tk })
    (hint : interactive (ksEnv qual sc L f (.ref cda) cc) = false := by rfl)
    (hsw : swapsWith (.Call (.Attribute (.Call (.Name "super" p0) [] [] p1) "__init__" p2) (e :: es) [] pos) none pos2.line (ksEnv qual sc L f (.ref cda) cc) = pure false := by rfl)
    (he : starEach (e :: es) (ksEnv qual sc L f (.ref cda) cc) = (false, eval e (ksEnv qual sc L f (.ref cda) cc)) :: starEach es (ksEnv qual sc L f (.ref cda) cc) := by rfl)
    (hpl : (backTo pos (starEach es (ksEnv qual sc L f (.ref cda) cc))).any (·.1) = false := by rfl)
    (hme : eval (.Call (.Attribute (.Call (.Name "super" p0) [] [] p1) "__init__" p2) (e :: es) [] pos) (ksEnv qual sc L f (.ref cda) cc) = (do
      let ov ← attributeBase (.Call (.Name "super" p0) [] [] p1) "__init__" (ksEnv qual sc L f (.ref cda) cc) (eval (.Call (.Name "super" p0) [] [] p1) (ksEnv qual sc L f (.ref cda) cc))
      standAt p2.atName
      let (fm, first) ← holding [ov] (getMethod ov "__init__" pl)
      callWith pos fm first (backTo pos (starEach (e :: es) (ksEnv qual sc L f (.ref cda) cc))) []) := by rfl) :
    PySem.wpAt (model prog w) A (.func body (ksEnv qual sc L f (.ref cda) cc)) (exec (.Expr (.Call (.Attribute (.Call (.Name "super" p0) [] [] p1) "__init__" p2) (e :: es) [] pos) pos2) (ksEnv qual sc L f (.ref cda) cc)) Q E s := by
  have X : K.In s.heap := M.kin.keeps k
  obtain ⟨oc, od, kV, doc, pm, an, ct, osl, hf⟩ := F.fn
  obtain ⟨cl, cld, csl, hcell⟩ := F.cell
  obtain ⟨ccl, cdd, vs, ccs, fl, tf, hcode, hvs, hfile⟩ := F.file
  obtain ⟨cd, hcd⟩ := cls_of T
  obtain ⟨mb, hmb, hb⟩ := M.blt
  obtain ⟨oD, hD1, hD2⟩ : ∃ oD, s.heap.get? C = some oD ∧ oD.data = .cls cd := by
    unfold clsIn at hcd
    split at hcd
    · rename_i c d cd' sl ho
      cases hcd
      exact ⟨_, X _ _ ho, rfl⟩
    · cases hcd
  have I : InstAt s.heap x (HandSPX.excO C t0) C none := ⟨hx, rfl, rfl, trivial⟩
  have hxC : x ≠ C := ks_ne X I hcd
  obtain ⟨hh, g, d, t, os⟩ := s
  have hboot : bootBuiltins "super" = some (.type "super") := by kernel_rfl
  refine ks_wpAt_Expr_any (ks_wpAt_MethodCall (he := hme) ?_) hint hsw
  · refine ks_wpAt_super_base (env := ksEnv qual sc L f (.ref cda) cc) hks hkc (by decide) rfl (X _ _ hf) rfl hp rfl (X _ _ hcode) rfl hvs hfile F.top ?_
    refine ks_loadName_global hk hks (loadGlobal_builtin (env := ksEnv qual sc L f (.ref cda) cc) (M.glob.keeps k) F.mgS (hmb.keeps k) ((hb "super" (by decide)).trans hboot) ⟨rfl, ?_⟩)
    refine wpAny_loadName_free hk hkc rfl ⟨_, X _ _ hcell, rfl⟩ ?_
    refine wpAny_loadName_local hk hka hn hv ?_
    refine ks_wpAny_isType_cls hD1 hD2 ⟨rfl, ?_⟩
    refine ks_wpAny_call_super hD1 hD2 I.at_ I.cls (fun c e => ?_) (looks_mroIn X T.sC) (fun h1 e1 k1 => ?_)
    · have := I.no
      unfold notCls at this
      rw [e] at this
      exact Bool.noConfusion this
    · have kk : ∀ b o, base.get? b = some o → h1.get? b = some o := fun b o z => k1 b o (k b o z)
      have X1 : K.In h1 := M.kin.keeps kk
      have hI : Looks (model prog w) h1 (isInstance (.ref x) (.type "Exception")) true := (I.type.keeps k1).andThen (looks_subIn X1 T.sB)
      have hm := T.sup
      unfold ks_superIn at hm
      rw [hcd] at hm
      refine kxs_getMethod kxs_Exception e1 (looks_opaque X1 T.nt) (l₀ := cd.mro) (fun A Q E s k q => wpAny_bind ((looks_clsIn X1 hcd) A _ E s k (wpAny_pure q))) rfl X1 hm hI hxC (by decide) ?_
      have k2 : ∀ b o, h1.get? b = some o → (h1.push (kxs_mw "Exception.__init__" x)).get? b = some o := fun b o z => Heap.get?_push_of_some _ z
      have hu : (h1.push (kxs_mw "Exception.__init__" x)).get? h1.objs.size = some (kxs_mw "Exception.__init__" x) := Heap.get?_push_at rfl rfl
      have k12 : ∀ b o, hh.get? b = some o → (h1.push (kxs_mw "Exception.__init__" x)).get? b = some o := fun b o z => k2 b o (k1 b o z)
      show wpAny _ _ (callWith pos (Value.ref h1.objs.size) [] (backTo pos (starEach (e :: es) _)) []) _ _ _
      refine PySem.ESX.callWith_bound (x := x) (hargs _ _ (hn.keeps k12) ⟨hu, ?_⟩) he hpl
      obtain ⟨nm, N, qn, bs, bm, hdct, sn, sub, ab, col, dd, k0, k3, k4, k5, k6, hC, hT⟩ := excInit_of ((M.kin.keeps fun b o z => k2 b o (kk b o z) : K.In (h1.push (kxs_mw "Exception.__init__" x)))) T.q
      refine PySem.ESX.call_bw hC (k12 _ _ hx) hu hz fun h' t1 k' hx' => ?_
      exact hq h' t1 _ (fun b o hb z => k' b o hb (k12 b o z)) hx'

abbrev excD (C t : Addr) (dd : Option Addr) : Obj := { cls := .ref C, dict := dd, data := .fields #[.ref t, .none, .none, .none, .bool false, .none] }

/-- the first store into an exception -/
theorem set_new {name : Str} {v : Value} {Q : Unit → Shared → Prop} (T : XCls K C) (X : K.In s.heap) (ht : takerIn K C name = some none) (hx : s.heap.get? x = some (excD C t0 none))
    (hq : ∀ h' tk dx, (∀ b o, b ≠ x → s.heap.get? b = some o → h'.get? b = some o) → s.heap.objs.size ≤ dx → dx ≠ x → h'.get? x = some (excD C t0 (some dx)) → h'.Ns1 dx (fun y => if y = name then some v else none) → Q () { s with heap := h', toks := tk }) :
    wpAny (model prog w) A (setAttr (.ref x) name v) Q E s := by
  obtain ⟨cd, hc, hd'⟩ := any_some T.hd
  refine set_plain X (ox := excD C t0 none) (od := none) ⟨hx, rfl, rfl, trivial⟩ T.sa ?_
  refine osa_openX (s := { s with toks := s.toks + 1 }) (od := none) PySem.F.store_Exception X ⟨hx, rfl, rfl, trivial⟩ T.over ht fun b => ?_
  have hxs : x ≠ s.heap.objs.size := Nat.ne_of_lt (Heap.lt_size hx)
  refine wpAny_bind (wpAny_pure (wpAny_bind (instanceDict_exc (s := { s with toks := s.toks + 1 }) (c2 := .none) hx (looks_clsIn X hc) hd' ?_)))
  show wpAny _ _ (storeInDict s.heap.objs.size (.str name _) name v) _ _ _
  refine HandSPX.store_in_new ?_ ?_
  · exact ⟨_, #[], _, (Heap.get?_update_ne _ _ _ _ hxs.symm).trans (Heap.get?_push_at rfl rfl), rfl, fun e he => absurd he (by simp), fun _ => rfl⟩
  · intro h' tk' hn' hs
    have hx₁ : (s.heap.push (dictOf [] 0)).get? x = some (excD C t0 none) := Heap.get?_push_of_some _ hx
    refine hq h' tk' s.heap.objs.size (fun b o hb ho => ?_) (Nat.le_refl _) hxs.symm ?_ hn'
    · exact (hs.2 b (Nat.ne_of_lt (Heap.lt_size ho))).trans ((Heap.get?_update_ne _ _ _ _ hb).trans (Heap.get?_push_of_some _ ho))
    · exact (hs.2 x hxs).trans (Heap.get?_update_self _ hx₁ rfl)
/-- a later store -/
theorem set_old {name : Str} {v : Value} {Q : Unit → Shared → Prop} {dx : Addr} {m0 : Str → Option Value} {nl : List Str} (T : XCls K C) (X : K.In s.heap) (ht : takerIn K C name = some none) (hx : s.heap.get? x = some (excD C t0 (some dx)))
    (hns : s.heap.Ns1 dx m0) (hw : Within m0 nl) (hz : nl.length ≤ 1000)
    (hq : ∀ h' tk, (∀ b o, b ≠ dx → s.heap.get? b = some o → h'.get? b = some o) → h'.Ns1 dx (fun y => if y = name then some v else m0 y) → Q () { s with heap := h', toks := tk }) :
    wpAny (model prog w) A (setAttr (.ref x) name v) Q E s := by
  obtain ⟨cd, hc, hd'⟩ := any_some T.hd
  obtain ⟨oD, esD, epD, hoD, hdD, _⟩ := hns.count hw
  obtain ⟨hp, g, d, t, os⟩ := s
  refine set_plain X (ox := excD C t0 (some dx)) (od := some oD) ⟨hx, rfl, rfl, hoD⟩ T.sa ?_
  refine osa_openX (od := some oD) PySem.F.store_Exception X ⟨hx, rfl, rfl, hoD⟩ T.over ht fun b => ?_
  refine wpAny_bind (wpAny_pure (wpAny_bind (wpAny_bind (wpAny_loadPart hx (wpAny_bind ((looks_clsIn X hc).at ?_))))))
  rw [hd']
  refine wpAny_pure (a := some dx) ?_
  show wpAny _ _ (storeInDict dx (.str name _) name v) _ _ _
  refine PySem.ESX.store_in_old hns hw hz fun h' tk' hn' hs => ?_
  exact hq h' tk' (fun b o hb ho => (hs.2 b hb).trans ho) hn'

/-! ### __init__ with one parameter -/
def a1 (p : Str) (u1 u2 : Pos) : Arguments := { posonlyargs := [], args := [{ arg := "self", annotation := none, pos := u1 }, { arg := p, annotation := none, pos := u2 }], vararg := none, kwonlyargs := [], kw_defaults := [], kwarg := none, defaults := [] }
def b1 (p : Str) (p0 p1 p2 q1 p3 p4 q2 q3 q4 q5 : Pos) : List Stmt := [.Expr (.Call (.Attribute (.Call (.Name "super" p0) [] [] p1) "__init__" p2) [.Name p q1] [] p3) p4, .Assign [.Attribute (.Name "self" q2) p q3] (.Name p q4) q5]
def s1 (p : Str) : Scope := { kind := .function, names := [(PySem.Str.ofString "self", .local), (p, .local), (PySem.Str.ofString "__class__", .free), (PySem.Str.ofString "super", .globalImplicit)], isGenerator := false, isCoroutine := false, more := [] }

theorem init1 {p : Str} {u1 u2 p0 p1 p2 q1 p3 p4 q2 q3 q4 q5 : Pos} {R : Result → Shared → Prop} {args : Args} {v : Value}
    (T : XCls K C) (F : XFn K mg prog C f qual (a1 p u1 u2) (b1 p p0 p1 p2 q1 p3 p4 q2 q3 q4 q5) (s1 p) cda cc) (M : Mod K mg base) (k : ∀ b o, base.get? b = some o → s.heap.get? b = some o)
    (ht : takerIn K C p = some none) (hroom : A.depth < recursionLimit) (hb : ∀ (kV doc pm : Value) (an : Option Addr) (ct : Value), BindsTo s (ksFn "__init__" qual (a1 p u1 u2) (b1 p p0 p1 p2 q1 p3 p4 q2 q3 q4 q5) (s1 p) .none kV doc pm an (.ref cda) ct cc) args [("self", .ref x), (p, v)]) (hx : s.heap.get? x = some (HandSPX.excO C t0)) (hxb : base.get? x = none)
    (hq : ∀ h' tk dx t1, (∀ b o, b ≠ x → s.heap.get? b = some o → h'.get? b = some o) → s.heap.objs.size ≤ dx → dx ≠ x → h'.get? x = some (excD C t1 (some dx)) → h'.Ns1 dx (fun y => if y = p then some v else none) → R (.ok (.ret .none)) { s with heap := h', toks := tk })
    (hme : ∀ env : Env, ∃ pl, eval (.Call (.Attribute (.Call (.Name "super" p0) [] [] p1) "__init__" p2) [.Name p q1] [] p3) env = (do
      let ov ← attributeBase (.Call (.Name "super" p0) [] [] p1) "__init__" env (eval (.Call (.Name "super" p0) [] [] p1) env)
      standAt p2.atName
      let (fm, first) ← holding [ov] (getMethod ov "__init__" pl)
      callWith p3 fm first (backTo p3 (starEach [.Name p q1] env)) []))
    (d1 : p ≠ "self") (d2 : p ≠ "__class__") (d3 : p ≠ "super") (d4 : (p == ("__debug__" : Str)) = false) :
    codeAny (model prog w) A (.call (.ref f) args) R s := by
  have X : K.In s.heap := M.kin.keeps k
  obtain ⟨oc, od, kV, doc, pm, an, ct, osl, hf⟩ := F.fn
  have ls : (s1 p).names.lookup ("self" : Str) = some .local := by rfl
  have lp : (s1 p).names.lookup p = some .local := by
    show List.lookup p ((PySem.Str.ofString "self", NameKind.local) :: (p, .local) :: _) = _
    rw [List.lookup_cons]
    split
    · rfl
    · rw [List.lookup_cons, beq_self_eq_true]
  have lc : (s1 p).names.lookup ("__class__" : Str) = some .free := by
    show List.lookup _ ((PySem.Str.ofString "self", NameKind.local) :: (p, .local) :: _) = _
    rw [List.lookup_cons, show (("__class__" : Str) == PySem.Str.ofString "self") = false by decide +kernel]
    simp only []
    rw [List.lookup_cons, show (("__class__" : Str) == p) = false by simpa using Ne.symm d2]
    rfl
  have lu : (s1 p).names.lookup ("super" : Str) = some .globalImplicit := by
    show List.lookup _ ((PySem.Str.ofString "self", NameKind.local) :: (p, .local) :: _) = _
    rw [List.lookup_cons, show (("super" : Str) == PySem.Str.ofString "self") = false by decide +kernel]
    simp only []
    rw [List.lookup_cons, show (("super" : Str) == p) = false by simpa using Ne.symm d3]
    rfl
  have hcell : ∀ y ∈ (s1 p).names, y.2 ≠ .cell := by
    intro y hy
    simp only [s1, List.mem_cons, List.not_mem_nil, or_false] at hy
    rcases hy with rfl | rfl | rfl | rfl <;> (intro z; cases z)
  refine ks_codeAny_call_defAt (fd := ksFn "__init__" qual (a1 p u1 u2) (b1 p p0 p1 p2 q1 p3 p4 q2 q3 q4 q5) (s1 p) .none kV doc pm an (.ref cda) ct cc) (body := b1 p p0 p1 p2 q1 p3 p4 q2 q3 q4 q5) (binds := [("self", .ref x), (p, v)])
    hroom (X _ _ hf) rfl (M.nolimit.keeps k) (codeRec_of X F.code) rfl (hb _ _ _ _ _) hcell (fun y hy => ?_) (fun h₁ hns k₁ => ?_) rfl rfl rfl
  · simp only [List.mem_cons, List.not_mem_nil, or_false] at hy
    rcases hy with rfl | rfl
    · exact ls
    · exact lp
  show PySem.wpAt (model prog w) (A.deeper (ksEnv qual (s1 p) s.heap.objs.size f (.ref cda) cc)) (.func _ (ksEnv qual (s1 p) s.heap.objs.size f (.ref cda) cc)) (execs _ (ksEnv qual (s1 p) s.heap.objs.size f (.ref cda) cc)) _ _ _
  have mp : [(("self" : Str), Value.ref x), (p, v)].reverse.lookup p = some v := by
    show List.lookup p [(p, v), (("self" : Str), Value.ref x)] = _
    rw [List.lookup_cons, beq_self_eq_true]
  have ms : [(("self" : Str), Value.ref x), (p, v)].reverse.lookup ("self" : Str) = some (.ref x) := by
    show List.lookup _ [(p, v), (("self" : Str), Value.ref x)] = _
    rw [List.lookup_cons, show (("self" : Str) == p) = false by simpa using Ne.symm d1]
    rfl
  have hx₁ := k₁ _ _ hx
  obtain ⟨pl, hpl⟩ := hme (ksEnv qual (s1 p) s.heap.objs.size f (.ref cda) cc)
  have lo : ∀ y kd, (s1 p).names.lookup y = some kd → (ksEnv qual (s1 p) s.heap.objs.size f (.ref cda) cc).kindOf y = some kd := fun y kd z => z
  refine ks_wpAt_execs_cons (sup_run (s := { s with heap := h₁, toks := _ }) (x := x) (us := [v]) (pl := pl) T F M (fun b o z => k₁ b o (k b o z)) rfl hns ms hx₁ lu lc ls rfl (fun s₁ Q' hn₁ hQ => ?_) (by rw [sizeLine_eq]; exact (by decide : 1 ≤ 16777216)) (fun h₂ t1 tk₂ k₂ hx₂ => ?_) (hme := hpl))
  · show wpAny _ _ (spliced ((false, eval (.Name p q1) _) :: backTo p3 (starEach [] _))) _ _ _
    refine Calls.spliced_cons (PySem.ESX.ldL (v := v) hn₁ mp ?_ rfl (lo _ _ lp) d4)
    exact Calls.spliced_nil hQ
  · refine PySem.wpAt_of_wpAny ?_
    have hxL : s.heap.objs.size ≠ x := Nat.ne_of_gt (Heap.lt_size hx)
    have hn₂ : h₂.Ns s.heap.objs.size fun y => [(("self" : Str), Value.ref x), (p, v)].reverse.lookup y := by
      obtain ⟨o, es, ep, ho, hr⟩ := hns
      exact ⟨o, es, ep, k₂ _ _ hxL ho, hr⟩
    have kb : ∀ b o, base.get? b = some o → h₂.get? b = some o := fun b o z => by
      by_cases hb : b = x
      · rw [hb, hxb] at z
        cases z
      · exact k₂ b o hb (k₁ b o (k b o z))
    refine wpAny_execs_cons (plainObj_wpAny_Assign_Attribute ?_)
    refine PySem.ESX.ldL (v := v) hn₂ mp (PySem.ESX.ldL (v := .ref x) hn₂ ms ?_ rfl (lo _ _ ls) (by decide)) rfl (lo _ _ lp) d4
    refine set_new (s := { s with heap := h₂, toks := tk₂ }) T (M.kin.keeps kb) ht hx₂ (fun h₃ tk₃ dx k₃ dn dne hx₃ hn₃ => ?_)
    refine wpAny_execs_nil ?_
    refine hq h₃ tk₃ dx t1 (fun b o hb z => k₃ b o hb (k₂ b o hb (k₁ b o z))) (Nat.le_trans (Nat.le_of_lt hn₂.lt) dn) dne hx₃ hn₃
/-! ### __init__ with two parameters, row and word -/
def a2 (u1 u2 u3 : Pos) : Arguments := { posonlyargs := [], args := [{ arg := "self", annotation := none, pos := u1 }, { arg := "row", annotation := none, pos := u2 }, { arg := "word", annotation := none, pos := u3 }], vararg := none, kwonlyargs := [], kw_defaults := [], kwarg := none, defaults := [] }
def b2 (p0 p1 p2 q1 q1' p3 p4 q2 q3 q4 q5 q6 q7 q8 q9 : Pos) : List Stmt := [.Expr (.Call (.Attribute (.Call (.Name "super" p0) [] [] p1) "__init__" p2) [.Name "row" q1, .Name "word" q1'] [] p3) p4, .Assign [.Attribute (.Name "self" q2) "row" q3] (.Name "row" q4) q5, .Assign [.Attribute (.Name "self" q6) "word" q7] (.Name "word" q8) q9]
def s2 : Scope := { kind := .function, names := [(PySem.Str.ofString "self", .local), (PySem.Str.ofString "row", .local), (PySem.Str.ofString "word", .local), (PySem.Str.ofString "__class__", .free), (PySem.Str.ofString "super", .globalImplicit)], isGenerator := false, isCoroutine := false, more := [] }
theorem init2 {u1 u2 u3 p0 p1 p2 q1 q1' p3 p4 q2 q3 q4 q5 q6 q7 q8 q9 : Pos} {R : Result → Shared → Prop} {args : Args} {v z : Value}
    (T : XCls K C) (F : XFn K mg prog C f qual (a2 u1 u2 u3) (b2 p0 p1 p2 q1 q1' p3 p4 q2 q3 q4 q5 q6 q7 q8 q9) s2 cda cc) (M : Mod K mg base) (k : ∀ b o, base.get? b = some o → s.heap.get? b = some o)
    (ht : takerIn K C "row" = some none) (ht2 : takerIn K C "word" = some none) (hroom : A.depth < recursionLimit) (hb : ∀ (kV doc pm : Value) (an : Option Addr) (ct : Value), BindsTo s (ksFn "__init__" qual (a2 u1 u2 u3) (b2 p0 p1 p2 q1 q1' p3 p4 q2 q3 q4 q5 q6 q7 q8 q9) s2 .none kV doc pm an (.ref cda) ct cc) args [("self", .ref x), ("row", v), ("word", z)]) (hx : s.heap.get? x = some (HandSPX.excO C t0)) (hxb : base.get? x = none)
    (hq : ∀ h' tk dx t1, (∀ b o, b ≠ x → s.heap.get? b = some o → h'.get? b = some o) → s.heap.objs.size ≤ dx → dx ≠ x → h'.get? x = some (excD C t1 (some dx)) → h'.Ns1 dx (fun y => if y = "word" then some z else if y = "row" then some v else none) → R (.ok (.ret .none)) { s with heap := h', toks := tk })
    (hme : ∀ env : Env, ∃ pl, eval (.Call (.Attribute (.Call (.Name "super" p0) [] [] p1) "__init__" p2) [.Name "row" q1, .Name "word" q1'] [] p3) env = (do
      let ov ← attributeBase (.Call (.Name "super" p0) [] [] p1) "__init__" env (eval (.Call (.Name "super" p0) [] [] p1) env)
      standAt p2.atName
      let (fm, first) ← holding [ov] (getMethod ov "__init__" pl)
      callWith p3 fm first (backTo p3 (starEach [.Name "row" q1, .Name "word" q1'] env)) [])) :
    codeAny (model prog w) A (.call (.ref f) args) R s := by
  have X : K.In s.heap := M.kin.keeps k
  obtain ⟨oc, od, kV, doc, pm, an, ct, osl, hf⟩ := F.fn
  have ls : s2.names.lookup ("self" : Str) = some .local := by rfl
  have lp : s2.names.lookup ("row" : Str) = some .local := by rfl
  have lw : s2.names.lookup ("word" : Str) = some .local := by rfl
  have hcell : ∀ y ∈ s2.names, y.2 ≠ .cell := by decide
  refine ks_codeAny_call_defAt (fd := ksFn "__init__" qual (a2 u1 u2 u3) (b2 p0 p1 p2 q1 q1' p3 p4 q2 q3 q4 q5 q6 q7 q8 q9) s2 .none kV doc pm an (.ref cda) ct cc) (body := b2 p0 p1 p2 q1 q1' p3 p4 q2 q3 q4 q5 q6 q7 q8 q9) (binds := [("self", .ref x), ("row", v), ("word", z)])
    hroom (X _ _ hf) rfl (M.nolimit.keeps k) (codeRec_of X F.code) rfl (hb _ _ _ _ _) hcell (fun y hy => ?_) (fun h₁ hns k₁ => ?_) rfl rfl rfl
  · simp only [List.mem_cons, List.not_mem_nil, or_false] at hy
    rcases hy with rfl | rfl | rfl
    · exact ls
    · exact lp
    · exact lw
  show PySem.wpAt (model prog w) (A.deeper (ksEnv qual s2 s.heap.objs.size f (.ref cda) cc)) (.func _ (ksEnv qual s2 s.heap.objs.size f (.ref cda) cc)) (execs _ (ksEnv qual s2 s.heap.objs.size f (.ref cda) cc)) _ _ _
  have mp : [(("self" : Str), Value.ref x), ("row", v), ("word", z)].reverse.lookup ("row" : Str) = some v := by rfl
  have mw : [(("self" : Str), Value.ref x), ("row", v), ("word", z)].reverse.lookup ("word" : Str) = some z := by rfl
  have ms : [(("self" : Str), Value.ref x), ("row", v), ("word", z)].reverse.lookup ("self" : Str) = some (.ref x) := by rfl
  have hx₁ := k₁ _ _ hx
  obtain ⟨pl, hpl⟩ := hme (ksEnv qual s2 s.heap.objs.size f (.ref cda) cc)
  have lo : ∀ y kd, s2.names.lookup y = some kd → (ksEnv qual s2 s.heap.objs.size f (.ref cda) cc).kindOf y = some kd := fun y kd z => z
  refine ks_wpAt_execs_cons (sup_run (s := { s with heap := h₁, toks := _ }) (x := x) (us := [v, z]) (pl := pl) T F M (fun b o z => k₁ b o (k b o z)) rfl hns ms hx₁ (by rfl) (by rfl) ls rfl (fun s₁ Q' hn₁ hQ => ?_) (by rw [sizeLine_eq]; exact (by decide : 2 ≤ 16777216)) (fun h₂ t1 tk₂ k₂ hx₂ => ?_) (hme := hpl))
  · show wpAny _ _ (spliced ((false, eval (.Name "row" q1) _) :: (false, eval (.Name "word" q1') _) :: backTo p3 (starEach [] _))) _ _ _
    refine Calls.spliced_cons (PySem.ESX.ldL (v := v) hn₁ mp ?_ rfl (lo _ _ lp) (by decide))
    refine Calls.spliced_cons (PySem.ESX.ldL (v := z) hn₁ mw ?_ rfl (lo _ _ lw) (by decide))
    exact Calls.spliced_nil hQ
  · refine PySem.wpAt_of_wpAny ?_
    have hxL : s.heap.objs.size ≠ x := Nat.ne_of_gt (Heap.lt_size hx)
    have hn₂ : h₂.Ns s.heap.objs.size fun y => [(("self" : Str), Value.ref x), ("row", v), ("word", z)].reverse.lookup y := by
      obtain ⟨o, es, ep, ho, hr⟩ := hns
      exact ⟨o, es, ep, k₂ _ _ hxL ho, hr⟩
    have kb : ∀ b o, base.get? b = some o → h₂.get? b = some o := fun b o z => by
      by_cases hb : b = x
      · rw [hb, hxb] at z
        cases z
      · exact k₂ b o hb (k₁ b o (k b o z))
    refine wpAny_execs_cons (plainObj_wpAny_Assign_Attribute ?_)
    refine PySem.ESX.ldL (v := v) hn₂ mp (PySem.ESX.ldL (v := .ref x) hn₂ ms ?_ rfl (lo _ _ ls) (by decide)) rfl (lo _ _ lp) (by decide)
    refine set_new (s := { s with heap := h₂, toks := tk₂ }) T (M.kin.keeps kb) ht hx₂ (fun h₃ tk₃ dx k₃ dn dne hx₃ hn₃ => ?_)
    have hn₃' : h₃.Ns s.heap.objs.size fun y => [(("self" : Str), Value.ref x), ("row", v), ("word", z)].reverse.lookup y := by
      obtain ⟨o, es, ep, ho, hr⟩ := hn₂
      exact ⟨o, es, ep, k₃ _ _ hxL ho, hr⟩
    have kb₃ : ∀ b o, base.get? b = some o → h₃.get? b = some o := fun b o z => by
      by_cases hb : b = x
      · rw [hb, hxb] at z
        cases z
      · exact k₃ b o hb (kb b o z)
    show wpAny _ _ (execs _ _) _ _ _
    refine wpAny_execs_cons (plainObj_wpAny_Assign_Attribute ?_)
    refine PySem.ESX.ldL (v := z) hn₃' mw (PySem.ESX.ldL (v := .ref x) hn₃' ms ?_ rfl (lo _ _ ls) (by decide)) rfl (lo _ _ lw) (by decide)
    refine set_old (s := { s with heap := h₃, toks := tk₃ }) (nl := ["row"]) T (M.kin.keeps kb₃) ht2 hx₃ hn₃ (fun y hy => ?_) (by decide) (fun h₄ tk₄ k₄ hn₄ => ?_)
    · by_cases e : y = "row"
      · rw [e]; exact List.mem_cons_self
      · exact absurd (if_neg e) hy
    · refine wpAny_execs_nil ?_
      have ndb : ∀ b o, s.heap.get? b = some o → b ≠ dx := fun b o q => Nat.ne_of_lt (Nat.lt_of_lt_of_le (Heap.lt_size q) (Nat.le_trans (Nat.le_of_lt hn₂.lt) dn))
      exact hq h₄ tk₄ dx t1 (fun b o hb z => k₄ b o (ndb b o z) (k₃ b o hb (k₂ b o hb (k₁ b o z)))) (Nat.le_trans (Nat.le_of_lt hn₂.lt) dn) dne (k₄ _ _ dne.symm hx₃) hn₄
end
end BX
end

section
/-! An own exception class called with places and names: BaseException.__new__, then its own __init__. -/
namespace BX
open PySem HandSPX
section
variable {M : Model} {A : Around} {E : Value → Shared → Prop} {h : Heap} {g : Array GenState} {d : Drawn} {t : Nat} {os : OsState}
variable {nm q : Str} {C N : Addr} {bs bm bmB : List Value} {hdct : Bool} {sn : List Str} {sub : List Value} {ab : Bool} {col : Option Bool} {dd : Option Addr} {k0 k1 k2 k3 k5 : Option Value} {B newId initId : String} {kw : List (Str × Value)}

theorem check_newK (F : ExcBaseFacts B newId initId bmB) (hT : ∀ X : String, bm.contains (.type X) = bmB.contains (.type X)) {rest : List Value} {Q : Unit → Shared → Prop}
    (hC : h.get? C = some (excClassObj nm q C N bs bm hdct sn sub ab col dd k0 k1 k2 k3 k5 newId)) (hq : Q () ⟨h, g, d, t, os⟩) : wpAny M A (checkBuiltinCall newId ⟨.ref C :: rest, kw⟩) Q E ⟨h, g, d, t, os⟩ := by
  have hcont : (Value.ref C :: bm).contains (.type B) = true := by rw [List.contains_cons, hT, F.hasB, Bool.or_true]
  have hstar := F.noStar
  simp only [checkBuiltinCall, F.newKind, F.newSplit, F.newRow]
  repeat (first | refine wpAny_loadPart_at hC ?_ | (refine wpAny_isSubtype_exc hC ?_; rw [hcont]) | refine wpAny_staticBase_exc hC ?_ | refine wpAny_madeBy_exc hC ?_ | simp only [bne_self_eq_false, Bool.false_eq_true, if_false] | wp_step)
  exact hq
end
section
variable {prog : Program} {w : World} {A : Around} {E : Value → Shared → Prop} {R : Result → Shared → Prop} {h : Heap} {g : Array GenState} {d : Drawn} {t : Nat} {os : OsState}
variable {nm q : Str} {C N : Addr} {bs bm bmB : List Value} {hdct : Bool} {sn : List Str} {sub : List Value} {ab : Bool} {col : Option Bool} {dd : Option Addr} {k0 k1 k2 k3 k5 : Option Value} {B newId initId : String} {kw : List (Str × Value)}

theorem newK (F : ExcBaseFacts B newId initId bmB) (hT : ∀ X : String, bm.contains (.type X) = bmB.contains (.type X)) {rest : List Value}
    (hC : h.get? C = some (excClassObj nm q C N bs bm hdct sn sub ab col dd k0 k1 k2 k3 k5 newId))
    (hq : R (.ok (.ret (.ref (h.objs.size + 1)))) ⟨(h.push { cls := .type "tuple", data := .seq rest.toArray }).push
      { cls := .ref C, data := .fields #[.ref h.objs.size, .none, .none, .none, .bool false, .none] }, g, d, t, os⟩) (hrest : rest.length ≤ sizeLine) :
    codeAny (model prog w) A (.builtin newId ⟨.ref C :: rest, kw⟩) R ⟨h, g, d, t, os⟩ := by
  have hends := F.ends
  have hcB : (Value.ref C :: bm).contains (.type B) = true := by rw [List.contains_cons, hT, F.hasB, Bool.or_true]
  have hcA : (Value.ref C :: bm).contains (.type "AttributeError") = false := by rw [List.contains_cons, hT, F.noAttr]; rfl
  have hcN : (Value.ref C :: bm).contains (.type "NameError") = false := by rw [List.contains_cons, hT, F.noName]; rfl
  refine codeAny_builtinAt F.entry ?_
  unfold Builtin.«BaseException.__new__»
  refine PySem.wpAt_bind ?_
  show PySem.wpAt _ _ _ (stack >>= _) _ _ _
  refine PySem.wpAt_bind (wpAt_stack fun p below => PySem.wpAt_of_wpAny ?_)
  wp_walk
  refine PySem.wpAt_of_wpAny ?_
  rw [F.owner]
  repeat (first | with_reducible refine wpAny_madeHere_exc F.canon hC ?_ | with_reducible refine wpAny_loadPart_at hC ?_ | (with_reducible refine wpAny_isSubtype_exc hC ?_; first | rw [hcB] | rw [hcA] | rw [hcN]) | wp_step)
  show R _ _
  rw [Heap.size_push]
  exact hq

theorem type_callK (F : ExcBaseFacts B newId initId bmB) (hT : ∀ X : String, bm.contains (.type X) = bmB.contains (.type X)) {rest : List Value} {fI : Addr} {Q : Fin → Shared → Prop}
    (hC : h.get? C = some (excClassObj nm q C N bs bm hdct sn sub ab col dd k0 k1 k2 k3 k5 newId))
    (hi : W.Looks (model prog w) h (typeLookup (.ref C) "__init__") (some (.ref fI))) (hb : ∀ self, W.Looks (model prog w) h (bindSpecial (.ref fI) self) (.ref fI, [self])) (hrest : rest.length ≤ sizeLine)
    (hq : codeAny (model prog w) A (.call (.ref fI) ⟨.ref (h.objs.size + 1) :: rest, kw⟩)
      (fun r s' => match r with | .ok (.ret v) => v = .none ∧ Q (.done (.ret (.ref (h.objs.size + 1)))) s' | .ok _ => False | .error e => E e s')
      ⟨(h.push (W.kdv_tup rest)).push (excO C h.objs.size), g, d, t, os⟩) :
    wpAny (model prog w) A (Builtin.«type.__call__» ⟨.ref C :: rest, kw⟩) Q E ⟨h, g, d, t, os⟩ := by
  repeat (first | with_reducible refine wpAny_loadPart_at hC ?_ | with_reducible refine wpAny_madeBy_exc hC ?_ | wp_step)
  refine codeAny_call_builtin_code (Code.quiet_builtin _ F.quiet) (check_newK F hT hC ?_)
  refine newK F hT hC ?_ hrest
  show wpAny _ _ _ _ _ _
  have k : ∀ b o, h.get? b = some o → ((h.push (W.kdv_tup rest)).push (excO C h.objs.size)).get? b = some o := fun b o e => Heap.get?_push_of_some _ (Heap.get?_push_of_some _ e)
  have hC₁ := k _ _ hC
  have hget : ((h.push (W.kdv_tup rest)).push (excO C h.objs.size)).get? (h.objs.size + 1) = some (excO C h.objs.size) := by heap_get
  have hcC : (Value.ref C :: bm).contains (.ref C) = true := by simp
  have i1 := hi.keeps k
  have b1 := (hb (.ref (h.objs.size + 1))).keeps k
  unfold isInstance
  repeat (first | with_reducible refine wpAny_loadPart_at hget ?_ | (with_reducible refine wpAny_isSubtype_exc hC₁ ?_; rw [hcC]) | wp_step)
  show wpAny _ _ (typeLookup (.ref C) _) _ _ _
  refine i1.at ?_
  refine wpAny_holding (wpAny_bind (b1.at ?_))
  refine wpAny_bind (wpAny_call (codeAny_mono hq fun r s' z => ?_))
  rcases r with e | (v | _ | _ | _) <;> first | exact z | exact z.elim | skip
  obtain ⟨rfl, z⟩ := z
  first
    | exact wpAny_pure (wpAny_pure z)
    | (wp_walk; exact z)

theorem check_type_callK {M : Model} {rest : List Value} {Q : Unit → Shared → Prop} (hC : h.get? C = some (excClassObj nm q C N bs bm hdct sn sub ab col dd k0 k1 k2 k3 k5 newId))
    (hq : Q () ⟨h, g, d, t, os⟩) : wpAny M A (checkBuiltinCall "type.__call__" ⟨.ref C :: rest, kw⟩) Q E ⟨h, g, d, t, os⟩ := by
  have f3 := tc_sub
  have hT : (⟨h, g, d, t, os⟩ : Shared).TypeIs (.ref C) "type" := ⟨_, hC, rfl⟩
  simp only [checkBuiltinCall, tc_kind, tc_split]
  repeat (any_goals (first | assumption | with_reducible refine wpAny_loadPart_at hC ?_ | with_reducible refine wpAny_onRaise ?_ | with_reducible refine wpAny_map ?_ | wp_step))

theorem callK (F : ExcBaseFacts B newId initId bmB) (hT : ∀ X : String, bm.contains (.type X) = bmB.contains (.type X)) {rest : List Value} {fI : Addr}
    (hC : h.get? C = some (excClassObj nm q C N bs bm hdct sn sub ab col dd k0 k1 k2 k3 k5 newId))
    (hi : W.Looks (model prog w) h (typeLookup (.ref C) "__init__") (some (.ref fI))) (hb : ∀ self, W.Looks (model prog w) h (bindSpecial (.ref fI) self) (.ref fI, [self])) (hrest : rest.length ≤ sizeLine)
    (hq : codeAny (model prog w) (A.under (.builtin "type.__call__" ⟨.ref C :: rest, kw⟩)) (.call (.ref fI) ⟨.ref (h.objs.size + 1) :: rest, kw⟩) (W.InitBack (h.objs.size + 1) R)
      ⟨(h.push (W.kdv_tup rest)).push (excO C h.objs.size), g, d, t, os⟩) :
    codeAny (model prog w) A (.call (.ref C) ⟨rest, kw⟩) R ⟨h, g, d, t, os⟩ := by
  have f1 := tc_lookup
  have f2 := tc_bind (.ref C)
  have hTy : (⟨h, g, d, t, os⟩ : Shared).TypeIs (.ref C) "type" := ⟨_, hC, rfl⟩
  refine codeAny_of_tree ?_
  show wpAny _ _ (callAny (.ref C) _) _ _ _
  repeat (any_goals (first | assumption | with_reducible refine wpAny_loadPart_at hC ?_ | wp_step))
  refine ⟨rfl, ?_⟩
  refine codeAny_call_builtin_at (Code.quiet_builtin _ (by decide +kernel)) entry_typeCall (check_type_callK hC (type_callK F hT hC hi hb hrest ?_))
  refine codeAny_mono hq fun r s' z => ?_
  rcases r with e | (v | _ | _ | _) <;> exact z
end
end BX
end

section
/-! The same over the hand layer: C(e), C(f=e), C(e, g), C() as expressions; an exception's attribute. -/
namespace BX
open PySem PySem.Spec PyProof.Rows L2 PySem.W.KFB
open PySem.W (clsIn findIn typeIn subIn keepIn excInitIn)

/-- an own __init__ run on a fresh exception: its dict holds mA behind it -/
def Inits (prog : Program) (w : World) (base : Heap) (C fI : Addr) (us : List Value) (kw : List (Str × Value)) (mA : Str → Option Value) : Prop :=
  ∀ (A : Around) (s : Shared) (x t0 : Addr) (R : Result → Shared → Prop), A.depth < recursionLimit → (∀ b o, base.get? b = some o → s.heap.get? b = some o) → base.get? x = none → s.heap.get? x = some (HandSPX.excO C t0) →
    (∀ h' tk dx t1, (∀ b o, b ≠ x → s.heap.get? b = some o → h'.get? b = some o) → s.heap.objs.size ≤ dx → dx ≠ x → h'.get? x = some (excD C t1 (some dx)) → h'.Ns1 dx mA → R (.ok (.ret .none)) { s with heap := h', toks := tk }) →
    codeAny (model prog w) A (.call (.ref fI) ⟨.ref x :: us, kw⟩) R s

section
variable {X : Cx} {pins : List (Addr × Obj)} {σ : L2.St} {H : Hp} {s : Shared} {h' : Heap} {a b : Addr} {o u : HO}
/-- two new objects laid at once -/
theorem inv_two {t' : Nat} (I : Inv X pins σ H s) (k : ∀ c z, s.heap.get? c = some z → h'.get? c = some z) (na : s.heap.get? a = none) (nb : s.heap.get? b = none) (ne : b ≠ a)
    (Ha : H a = none) (Hb : H b = none) (oa : ObjOk X.prog X.w (upd (upd H b u) a o) h' a o) (ob : ObjOk X.prog X.w (upd (upd H b u) a o) h' b u) : Inv X pins σ (upd (upd H b u) a o) { s with heap := h', toks := t' } := by
  have ua : ∀ c z, s.heap.get? c = some z → c ≠ a := fun c z e q => by rw [q, na] at e; cases e
  have ub : ∀ c z, s.heap.get? c = some z → c ≠ b := fun c z e q => by rw [q, nb] at e; cases e
  have keep : ∀ {c : Addr} {z : HO}, H c = some z → upd (upd H b u) a o c = some z := fun {c z} e => by
    rw [upd_ne (ne_of_none e Ha), upd_ne (ne_of_none e Hb)]; exact e
  refine I.un (t' := t') ⟨fun c z e _ _ _ => k c z e, fun c z e _ _ _ => ⟨z.slots, k c z e⟩, fun c z e n _ => by rw [upd_ne (ua c z e), upd_ne (ub c z e)]; exact n, fun c z e _ => ⟨z, k c z e⟩,
    fun c xs e => keep e, fun c z v e => keep e, fun c ps e => ⟨#[], by rw [keep e]; simp⟩⟩ fun c z e => ?_
  by_cases hc : c = a
  · subst hc
    rw [upd_same] at e
    cases e
    exact oa
  · by_cases hd : c = b
    · subst hd
      rw [upd_ne hc, upd_same] at e
      cases e
      exact ob
    · rw [upd_ne hc, upd_ne hd] at e
      exact (I.hok c z e).stay (fun d v _ q => k d v q) (fun d q => keep q) fun d xs q => keep q
/-- one new object laid -/
theorem inv_one {t' : Nat} (I : Inv X pins σ H s) (k : ∀ c z, s.heap.get? c = some z → h'.get? c = some z) (na : s.heap.get? a = none) (Ha : H a = none) (oa : ObjOk X.prog X.w (upd H a o) h' a o) : Inv X pins σ (upd H a o) { s with heap := h', toks := t' } := by
  have ua : ∀ c z, s.heap.get? c = some z → c ≠ a := fun c z e q => by rw [q, na] at e; cases e
  have keep : ∀ {c : Addr} {z : HO}, H c = some z → upd H a o c = some z := fun {c z} e => by
    rw [upd_ne (ne_of_none e Ha)]; exact e
  refine I.un (t' := t') ⟨fun c z e _ _ _ => k c z e, fun c z e _ _ _ => ⟨z.slots, k c z e⟩, fun c z e n _ => by rw [upd_ne (ua c z e)]; exact n, fun c z e _ => ⟨z, k c z e⟩,
    fun c xs e => keep e, fun c z v e => keep e, fun c ps e => ⟨#[], by rw [keep e]; simp⟩⟩ fun c z e => ?_
  by_cases hc : c = a
  · subst hc
    rw [upd_same] at e
    cases e
    exact oa
  · rw [upd_ne hc] at e
    exact (I.hok c z e).stay (fun d v _ q => k d v q) (fun d q => keep q) fun d xs q => keep q

/-- C(..) of an own class with its own __init__ -/
theorem run_mkx {C fI : Addr} {us : List Value} {kw : List (Str × Value)} {mA : Str → Option Value} {fs : List (Str × V)} {E : Value → Shared → Prop} {Q : VK} {k : Nat} (I : Inv X pins σ H s) (T : XCls X.K C) (hr : Room k X.A)
    (hi : findIn X.K (.ref C) "__init__" = some (some (.ref fI))) (tf : typeIn X.K (.ref fI) = some (.type "function")) (hn : Inits X.prog X.w X.base C fI us kw mA) (rel : ∀ g, RelO (fs.lookup g) (mA g)) (hz : us.length ≤ sizeLine)
    (h : ∀ e dx, H e = none → H dx = none → dx ≠ e → Q (.ref e) (upd (upd H dx (exd dx fs)) e (exo e C (some dx)))) :
    wpAny (model X.prog X.w) X.A (call (.ref C) us kw) (EP X pins σ Q) E s := by
  have KX := I.kIn
  obtain ⟨nm, N, qn, bs, bm, hdct, sn, sub, ab, col, dd, k0, k1, k2, k3, k5, hC, hT⟩ := PySem.W.excInit_of KX T.q
  obtain ⟨hp, g, dr, tk, os⟩ := id s
  have e0 : s = ⟨s.heap, s.gens, s.drawn, s.toks, s.os⟩ := rfl
  rw [e0]
  refine wpAny_call (callK F.excBase_Exception hT hC (PySem.W.looks_findIn KX hi) (fun self => PySem.W.bind_fn KX self tf) hz ?_)
  have kk : ∀ b o, s.heap.get? b = some o → ((s.heap.push (PySem.W.kdv_tup us)).push (HandSPX.excO C s.heap.objs.size)).get? b = some o := fun b o e => Heap.get?_push_of_some _ (Heap.get?_push_of_some _ e)
  have hget : ((s.heap.push (PySem.W.kdv_tup us)).push (HandSPX.excO C s.heap.objs.size)).get? (s.heap.objs.size + 1) = some (HandSPX.excO C s.heap.objs.size) := by heap_get
  have nx : s.heap.get? (s.heap.objs.size + 1) = none := Heap.get?_none_of_le (Nat.le_succ _)
  have bx : X.base.get? (s.heap.objs.size + 1) = none := by
    cases q : X.base.get? (s.heap.objs.size + 1) with
    | none => rfl
    | some o => rw [I.bk _ _ q] at nx; cases nx
  refine hn _ ⟨_, s.gens, s.drawn, s.toks, s.os⟩ (s.heap.objs.size + 1) s.heap.objs.size _ ?_ (fun b o e => kk b o (I.bk b o e)) bx hget fun h' tk' dx t1 k1 dn dne hx hns => ?_
  · have := hr.dp
    rw [make_depth]
    omega
  · have old : ∀ b o, s.heap.get? b = some o → h'.get? b = some o := fun b o e => k1 b o (Nat.ne_of_lt (Nat.lt_succ_of_lt (Heap.lt_size e))) (kk b o e)
    have z : s.heap.objs.size ≤ dx := by
      have q : s.heap.objs.size + 1 + 1 ≤ dx := by
        first
          | (simpa only [Heap.size_push] using dn)
          | exact dn
          | (have q := dn; rw [Heap.size_push, Heap.size_push] at q; exact q)
      omega
    have nd : s.heap.get? dx = none := Heap.get?_none_of_le z
    have He := I.hok.fresh (Nat.le_succ s.heap.objs.size)
    have Hd := I.hok.fresh z
    refine ⟨rfl, .ref (s.heap.objs.size + 1), _, inv_two (s := s) (t' := tk') I old nx nd dne He Hd (exo_ok hx) (exd_ok hns rel), rfl, h _ _ He Hd dne⟩

/-! ### making, as an expression -/
/-- C(e): a fresh exception whose attribute p is the value -/
def tMk1 (C : Addr) (p : Str) (te : TE) : TE := fun σ H Q => te σ H fun v H1 => ∀ e dx, H1 e = none → H1 dx = none → dx ≠ e → Q (.ref e) (upd (upd H1 dx (exd dx [(p, v)])) e (exo e C (some dx)))
/-- C(e, g) -/
def tMk2 (C : Addr) (p q : Str) (te tg : TE) : TE := fun σ H Q => te σ H fun v H1 => tg σ H1 fun z H2 => ∀ e dx, H2 e = none → H2 dx = none → dx ≠ e → Q (.ref e) (upd (upd H2 dx (exd dx [(q, z), (p, v)])) e (exo e C (some dx)))
/-- C(q=e, p=g) -/
def tMk2r (C : Addr) (p q : Str) (te tg : TE) : TE := fun σ H Q => te σ H fun z H1 => tg σ H1 fun v H2 => ∀ e dx, H2 e = none → H2 dx = none → dx ≠ e → Q (.ref e) (upd (upd H2 dx (exd dx [(q, z), (p, v)])) e (exo e C (some dx)))
/-- C() of a class without an own __init__ -/
def tMk0 (C : Addr) : TE := fun _ H Q => ∀ e, H e = none → Q (.ref e) (upd H e (exo e C none))

theorem one_line (u : Value) : [u].length ≤ sizeLine := by
  rw [sizeLine_eq]
  exact (by decide : 1 ≤ 16777216)
theorem two_line (u z : Value) : [u, z].length ≤ sizeLine := by
  rw [sizeLine_eq]
  exact (by decide : 2 ≤ 16777216)

section
variable {C fI : Addr} {k : Nat} {x p q : Str} {e g : Expr} {te tg : TE} {np pos kp kp2 : Pos}
theorem pe_mkx1 (T : XCls X.K C) (hi : findIn X.K (.ref C) "__init__" = some (some (.ref fI))) (tf : typeIn X.K (.ref fI) = some (.type "function")) (hr : Room k X.A) (hn : ∀ u, Inits X.prog X.w X.base C fI [u] [] (fun y => if y = p then some u else none))
    (hg : Gl X x) (hm : X.mg x = some (.ref C)) (he : PE X e te) (hs : starEach [e] X.env = (false, eval e X.env) :: starEach [] X.env := by rfl) (hdb : (x == ("__debug__" : Str)) = false := by decide) : PE X (.Call (.Name x np) [e] [] pos) (tMk1 C p te) := by
  refine ⟨fun pins s σ H Q I h => ?_⟩
  refine wpAny_Call_Name_kw (ld_glob I hg hm ?_ hdb)
  refine PySem.W.callWith_K (h₀ := X.base) I.ok.mod.kin T.kp ?_ hs (by rfl)
  rw [hs]
  show wpAny _ _ (spliced ((false, eval e X.env) :: backTo pos (starEach [] X.env))) _ _ s
  refine Calls.spliced_cons (thn (he.run pins s σ H _ I h) fun u s1 ⟨v, H1, I1, r1, q1⟩ => ?_)
  refine Calls.spliced_nil ⟨I1.kIn, ?_⟩
  exact run_mkx I1 T hr hi tf (hn u) (relO_put (fs := []) r1 fun g => True.intro) (one_line u) q1
theorem pe_mkxK1 (T : XCls X.K C) (hi : findIn X.K (.ref C) "__init__" = some (some (.ref fI))) (tf : typeIn X.K (.ref fI) = some (.type "function")) (hr : Room k X.A) (hn : ∀ u, Inits X.prog X.w X.base C fI [] [(p, u)] (fun y => if y = p then some u else none))
    (hg : Gl X x) (hm : X.mg x = some (.ref C)) (he : PE X e te) (hdb : (x == ("__debug__" : Str)) = false := by decide) : PE X (.Call (.Name x np) [] [⟨some p, e, kp⟩] pos) (tMk1 C p te) := by
  refine ⟨fun pins s σ H Q I h => ?_⟩
  refine wpAny_Call_Name_kw (ld_glob I hg hm ?_ hdb)
  refine PySem.W.callWith_KW0 (h₀ := X.base) I.ok.mod.kin T.kp (by rfl) ?_ (by rfl)
  show wpAny _ _ (evalAll [(do let v ← eval e X.env; standAt pos; pure v)]) _ _ s
  refine wpAny_evalAll_cons (wpAny_bind (thn (he.run pins s σ H _ I h) fun u s1 ⟨v, H1, I1, r1, q1⟩ => wpAny_bind (wpAny_standAt (wpAny_pure ?_))))
  refine wpAny_evalAll_nil ⟨I1.kIn, ?_⟩
  exact run_mkx I1 T hr hi tf (hn u) (relO_put (fs := []) r1 fun g => True.intro) (by rw [sizeLine_eq]; exact (by decide : 0 ≤ 16777216)) q1
theorem pe_mkx2 (T : XCls X.K C) (hi : findIn X.K (.ref C) "__init__" = some (some (.ref fI))) (tf : typeIn X.K (.ref fI) = some (.type "function")) (hr : Room k X.A)
    (hn : ∀ u z, Inits X.prog X.w X.base C fI [u, z] [] (fun y => if y = q then some z else if y = p then some u else none))
    (hg : Gl X x) (hm : X.mg x = some (.ref C)) (he : PE X e te) (hge : PE X g tg) (hs : starEach [e, g] X.env = (false, eval e X.env) :: starEach [g] X.env := by rfl) (hs2 : starEach [g] X.env = (false, eval g X.env) :: starEach [] X.env := by rfl)
    (hdb : (x == ("__debug__" : Str)) = false := by decide) : PE X (.Call (.Name x np) [e, g] [] pos) (tMk2 C p q te tg) := by
  refine ⟨fun pins s σ H Q I h => ?_⟩
  refine wpAny_Call_Name_kw (ld_glob I hg hm ?_ hdb)
  refine PySem.W.callWith_K (h₀ := X.base) I.ok.mod.kin T.kp ?_ hs (by rw [hs2]; rfl)
  rw [hs]
  show wpAny _ _ (spliced ((false, eval e X.env) :: backTo pos (starEach [g] X.env))) _ _ s
  refine Calls.spliced_cons (thn (he.run pins s σ H _ I h) fun u s1 ⟨v, H1, I1, r1, q1⟩ => ?_)
  rw [hs2]
  show wpAny _ _ (spliced ((false, eval g X.env) :: backTo pos (starEach [] X.env))) _ _ s1
  refine Calls.spliced_cons (thn (hge.run pins s1 σ H1 _ I1 q1) fun z s2 ⟨y, H2, I2, r2, q2⟩ => ?_)
  refine Calls.spliced_nil ⟨I2.kIn, ?_⟩
  exact run_mkx I2 T hr hi tf (hn u z) (relO_put r2 (relO_put (fs := []) r1 fun g => True.intro)) (two_line u z) q2
theorem pe_mkxK2 (T : XCls X.K C) (hi : findIn X.K (.ref C) "__init__" = some (some (.ref fI))) (tf : typeIn X.K (.ref fI) = some (.type "function")) (hr : Room k X.A)
    (hn : ∀ z u, Inits X.prog X.w X.base C fI [] [(q, z), (p, u)] (fun y => if y = q then some z else if y = p then some u else none))
    (hg : Gl X x) (hm : X.mg x = some (.ref C)) (he : PE X e te) (hge : PE X g tg) (hdb : (x == ("__debug__" : Str)) = false := by decide) : PE X (.Call (.Name x np) [] [⟨some q, e, kp⟩, ⟨some p, g, kp2⟩] pos) (tMk2r C p q te tg) := by
  refine ⟨fun pins s σ H Q I h => ?_⟩
  refine wpAny_Call_Name_kw (ld_glob I hg hm ?_ hdb)
  refine PySem.W.callWith_KW0 (h₀ := X.base) I.ok.mod.kin T.kp (by rfl) ?_ (by rfl)
  show wpAny _ _ (evalAll [(do let v ← eval e X.env; standAt pos; pure v), (do let v ← eval g X.env; standAt pos; pure v)]) _ _ s
  refine wpAny_evalAll_cons (wpAny_bind (thn (he.run pins s σ H _ I h) fun z s1 ⟨y, H1, I1, r1, q1⟩ => wpAny_bind (wpAny_standAt (wpAny_pure ?_))))
  refine wpAny_evalAll_cons (wpAny_bind (thn (hge.run pins s1 σ H1 _ I1 q1) fun u s2 ⟨v, H2, I2, r2, q2⟩ => wpAny_bind (wpAny_standAt (wpAny_pure ?_))))
  refine wpAny_evalAll_nil ⟨I2.kIn, ?_⟩
  exact run_mkx I2 T hr hi tf (hn z u) (relO_put r1 (relO_put (fs := []) r2 fun g => True.intro)) (by rw [sizeLine_eq]; exact (by decide : 0 ≤ 16777216)) q2
/-- C() of a class without an own __init__ -/
theorem pe_mkx0 {bmB : List Value} {B newId initId : String} (F : ExcBaseFacts B newId initId bmB) (hq : PySem.W.excIn X.K C bmB newId = true) (kC : keepIn X.K (.ref C) = true) (hg : Gl X x) (hm : X.mg x = some (.ref C)) (hdb : (x == ("__debug__" : Str)) = false := by decide) :
    PE X (.Call (.Name x np) [] [] pos) (tMk0 C) := by
  refine ⟨fun pins s σ H Q I h => ?_⟩
  refine wpAny_Call_Name_kw (ld_glob I hg hm ?_ hdb)
  refine PySem.W.callWith_K0 I.kIn kC ?_
  obtain ⟨bm, N, nm, qn, bs, hdct, sn, sub, ab, col, dd, k0, k1, k2, k3, k5, mN, hC, hN, hni, T⟩ := exc_obj I.kIn hq
  refine wpAny_call_exc_subT F T hC hN hni (fun h' e hm => ?_) (by rw [sizeLine_eq]; exact (by decide : 0 ≤ 16777216))
  obtain ⟨t, ho, _, _⟩ := hm.there
  exact ⟨.ref e, _, inv_one (s := s) I hm.keeps hm.new (I.hok.gone hm.new) (exo_ok ho), rfl, h e (I.hok.gone hm.new)⟩
/-- e.f, e an exception that stands in the heap -/
def tXat (K : PySem.W.Frag) (f : Str) (te : TE) : TE := fun σ H Q => te σ H fun v H1 => ∃ (a C dx : Addr) (fs : List (Str × V)) (y : V), v = .ref a ∧ XCls K C ∧ findIn K (.ref C) f = some none ∧ H1 a = some (exo a C (some dx)) ∧ H1 dx = some (exd dx fs) ∧ fs.lookup f = some y ∧ Q y H1
theorem pe_xat {f : Str} (he : PE X e te) (hb : attributeBase e f X.env (eval e X.env) = eval e X.env := by rfl) : PE X (.Attribute e f pos) (tXat X.K f te) := by
  refine ⟨fun pins s σ H Q I h => ?_⟩
  refine attr_of hb (thn (he.run pins s σ H _ I h) fun u s1 ⟨x, H1, I1, rx, a, C, dx, fs, y, ex, T, no, ea, ed, hl, q⟩ => ?_)
  subst ex
  obtain rfl : u = Value.ref a := rx
  obtain ⟨t1, ho⟩ := exo_at I1.hok ea
  obtain ⟨mA, hns, rel⟩ := exd_at I1.hok ed
  obtain ⟨od, hod, hlk⟩ := lookIn_ns hns
  obtain ⟨u, hu, ru⟩ := RelO.some_of (v := y) (o := mA f) (by rw [← hl]; exact rel f)
  have J : PySem.W.InstAt s1.heap a (excD C t1 (some dx)) C (some od) := ⟨ho, rfl, rfl, hod⟩
  exact HandSPX.exc_get I1.kIn J T.ga T.gg T.sBB (PySem.W.findObj_own T.hd no rfl (by rw [hlk, hu])) (handed_of ru) ⟨y, H1, I1.tok _, ru, q⟩
end
end
end BX
end

section
/-! Defs that are called where no container is being printed: repr of data. The hand layer's promises, with the guards known to be none. -/
namespace GX
open PySem PySem.Spec PyProof.Rows L2

/-- a def that keeps its promise where no container is being printed -/
structure FnG (P : Program) (w : World) (K : PySem.W.Frag) (mg : Str → Option Value) (base : Heap) (CX : CXT) (k : Nat) (f : Addr) (fd : FuncData) (ps : List Str) (sp : Sp) : Prop where
  len : ∀ vs H Q E, sp vs H Q E → vs.length = ps.length
  run : ∀ (A : Around), A.guards = some [] → ∀ (outer : List Env) (s : Shared) (H : Hp) (args : Args) (us : List Value) (vs : List V) (Q : VK) (E : XK), Room k A → Env0 P w K mg base A outer s H → BindsTo s fd args (ps.zip us) → Vals vs us → sp vs H Q E →
    codeAny (model P w) A (.call (.ref f) args) (CR CX outer P w H s Q E) s
theorem FnG.of {P : Program} {w : World} {K : PySem.W.Frag} {mg : Str → Option Value} {base : Heap} {CX : CXT} {k : Nat} {f : Addr} {fd : FuncData} {ps : List Str} {sp : Sp} (F : FnOk P w K mg base CX k f fd ps sp) : FnG P w K mg base CX k f fd ps sp :=
  ⟨F.len, fun A _ outer s H args us vs Q E => F.run A outer s H args us vs Q E⟩
theorem FnG.mono {P : Program} {w : World} {K : PySem.W.Frag} {mg : Str → Option Value} {base : Heap} {CX : CXT} {j k : Nat} {f : Addr} {fd : FuncData} {ps : List Str} {sp : Sp} (F : FnG P w K mg base CX j f fd ps sp) (h : j ≤ k) : FnG P w K mg base CX k f fd ps sp :=
  ⟨F.len, fun A g outer s H args us vs Q E r => F.run A g outer s H args us vs Q E (r.mono h)⟩

section
variable {X : Cx} {CX : CXT} {k : Nat} {f : Addr} {fd : FuncData} {ps : List Str} {sp : Sp} {dvs : List V} {ds : List Value} {E : XK} {x : Str} {p pos : Pos} {e : Expr} {es : List Expr} {t : TA}
theorem run_fnG {pins : List (Addr × Obj)} {σ : L2.St} {H : Hp} {s : Shared} {Q : VK} {us : List Value} {vs : List V} (g : X.A.guards = some []) (F : FnG X.prog X.w X.K X.mg X.base CX k f fd ps sp) (hr : Room k X.A) (hb : Binds X.K fd ps ds) (hd : Vals dvs ds) (hx : Passes CX X E)
    (I : L2.Inv X pins σ H s) (r : Vals vs us) (h : sp (vs ++ dvs) H Q E) : wpAny (model X.prog X.w) X.A (call (.ref f) us) (EP X pins σ Q) X.xe s := by
  have r2 := r.append hd
  have hl : (us ++ ds).length = ps.length := r2.length.symm.trans (F.len _ _ _ _ h)
  refine wpAny_call (codeAny_mono (F.run X.A g X.stack s H ⟨us, []⟩ _ _ Q E hr I.env0 (hb s us I.kIn hl) r2 h) ?_)
  intro rr s' hq
  match rr, hq with
  | .error er, hq => exact hx pins σ H s er s' I hq
  | .ok (.ret u), hq => exact I.after hq
  | .ok .next, hq => exact False.elim hq
  | .ok .brk, hq => exact False.elim hq
  | .ok .cont, hq => exact False.elim hq
theorem pe_callG (g : X.A.guards = some []) (F : FnG X.prog X.w X.K X.mg X.base CX k f fd ps sp) (hr : Room k X.A) (hg : Gl X x) (hm : X.mg x = some (.ref f)) (hk : PySem.W.keepIn X.K (.ref f) = true) (hb : Binds X.K fd ps ds) (hd : Vals dvs ds) (hx : Passes CX X E)
    (ha : PA X (e :: es) t) (hdb : (x == ("__debug__" : Str)) = false := by decide) (he : starEach (e :: es) X.env = (false, eval e X.env) :: starEach es X.env := by rfl) (hpl : (backTo pos (starEach es X.env)).any (·.1) = false := by rfl) :
    PE X (.Call (.Name x p) (e :: es) [] pos) (tCall sp dvs E t) :=
  ⟨fun pins s σ H Q I h => wpAny_Call_Name_kw (ld_glob I hg hm (PySem.W.callWith_K (h₀ := X.base) I.ok.mod.kin hk (thn (ha.run pos pins s σ H _ I h) fun us s1 ⟨vs, H1, I1, r, q⟩ => ⟨I1.kIn, run_fnG g F hr hb hd hx I1 r q⟩) he hpl) hdb)⟩
theorem pe_callG0 (g : X.A.guards = some []) (F : FnG X.prog X.w X.K X.mg X.base CX k f fd ps sp) (hr : Room k X.A) (hg : Gl X x) (hm : X.mg x = some (.ref f)) (hk : PySem.W.keepIn X.K (.ref f) = true) (hb : Binds X.K fd ps ds) (hd : Vals dvs ds) (hx : Passes CX X E)
    (hdb : (x == ("__debug__" : Str)) = false := by decide) : PE X (.Call (.Name x p) [] [] pos) (tCall sp dvs E tNil) :=
  ⟨fun pins s σ H Q I h => wpAny_Call_Name_kw (ld_glob I hg hm (PySem.W.callWith_K0 I.kIn hk (run_fnG (us := []) g F hr hb hd hx I .nil h)) hdb)⟩
end

/-- a def of the text, by its body, entered where no container is being printed -/
theorem ok_of {CX : CXT} {P : Program} {w : World} {K : PySem.W.Frag} {mg : Str → Option Value} {base : Heap} {k : Nat} {f : Addr} {name qual : Str} {params : Arguments} {body : List Stmt} {scope : Scope} {dV kV doc pm cdv ct oc : Value} {an od : Option Addr}
    {osl : Array (Option Value)} {N ps : List Str} {sp : Sp} (lk : K.lookup f = some ⟨oc, od, .func (PySem.W.fnOf name qual params body scope dV kV doc pm an cdv ct), osl⟩) (hcd : PySem.W.codeIn K cdv qual = true) (S : FnScope N ps scope)
    (len : ∀ vs H Q E, sp vs H Q E → vs.length = ps.length)
    (hbody : ∀ (A : Around) (outer : List Env) (s : Shared) (H : Hp) (vs : List V) (Q : VK) (E : XK), (A.deeper (envOfC qual scope s.heap.objs.size f cdv)).guards = some [] → Room k (A.deeper (envOfC qual scope s.heap.objs.size f cdv)) → sp vs H Q E →
      ∃ t, PSs (cxOf CX P w K mg base N qual scope f cdv A outer s H E) body t ∧ t { nx := fun _ H' => Q .non H', rt := Q } (start N vs) H) :
    FnG P w K mg base CX (k + 1) f (PySem.W.fnOf name qual params body scope dV kV doc pm an cdv ct) ps sp where
  len := len
  run A g outer s H args us vs Q E hr e0 hb r hsp := by
    have up : ∀ b o, base.get? b = some o → s.heap.get? b = some o := fun b o e => (e0.bs b o e).1
    have KX : K.In s.heap := e0.mod.kin.keeps up
    refine codeAny_call_function hr.depth (KX _ _ lk) rfl S.co S.gen rfl (PySem.W.codeRec_of KX hcd) (hb _ _ _ _ (wpAny_newFunctionEnv_cells S.kind (fun y hy => ?_) ?_))
    · exact (S.par y.1 (List.of_mem_zip hy).1).imp id fun q => ⟨q, PySem.W.cellsFrom_some _ _ _ (.inl q)⟩
    · rintro env rfl s1 x
      obtain ⟨t, ht, hq⟩ := hbody A outer s H vs Q E g (hr.deeper _) hsp
      have I : L2.Inv (cxOf CX P w K mg base N qual scope f cdv A outer s H E) [] (start N vs) H s1 := inv_start S hr.hd e0 (len _ _ _ _ hsp) r x
      refine ⟨(e0.mod.nolimit.keeps up).keeps x.toInCall.keep, codeAny_func (wpAny_mono (ht.run [] s1 (start N vs) H _ I hq) ?_ fun _ _ z => z)⟩
      intro fl s' hs
      match fl, hs with
      | .ret u, ⟨v, σ', H', J, rv, q⟩ => exact ⟨v, H', J.os, J.bare, J.base, J.hok, rv, q⟩
      | .next, ⟨σ', H', J, q⟩ => exact ⟨V.non, H', J.os, J.bare, J.base, J.hok, rfl, q⟩
      | .brk, ⟨_, _, _, q⟩ => exact False.elim q
      | .cont, ⟨_, _, _, q⟩ => exact False.elim q
/-- .. that raises nothing -/
theorem okG {P : Program} {w : World} {K : PySem.W.Frag} {mg : Str → Option Value} {base : Heap} {x qual : Str} {st : Stmt} {f : Addr} {fd : FuncData} {N ps : List Str} {k : Nat} {sp : Sp} (F : Fun K x qual st f fd) (S : FnScope N ps (defScope st)) (len : ∀ vs H Q E, sp vs H Q E → vs.length = ps.length)
    (hbody : ∀ (cdv : Value) (A : Around) (outer : List Env) (s : Shared) (H : Hp) (vs : List V) (Q : VK) (E : XK), (A.deeper (envOfC qual (defScope st) s.heap.objs.size f cdv)).guards = some [] → Room k (A.deeper (envOfC qual (defScope st) s.heap.objs.size f cdv)) → sp vs H Q E →
      ∃ t, PSs (cxOf CX0 P w K mg base N qual (defScope st) f cdv A outer s H E).nox (defBody st) t ∧ t { nx := fun _ H' => Q .non H', rt := Q } (start N vs) H) : FnG P w K mg base CX0 (k + 1) f fd ps sp := by
  obtain ⟨oc, od, kV, doc, pm, an, cdv, ct, osl, rfl, lk, hcd⟩ := F.ex
  exact ok_of lk hcd S len fun A outer s H vs Q E g hr hsp => let ⟨t, h, q⟩ := hbody cdv A outer s H vs Q E g hr hsp; ⟨t, h.nox, q⟩

/-! ### data that is read -/
mutual
theorem reads_of {X : Cx} {pins : List (Addr × Obj)} {σ : L2.St} {H : Hp} {s : Shared} (I : L2.Inv X pins σ H s) : ∀ {v : V} {d : PyData} {u : Value}, Dp X.K H v d → L2.RelV v u → ∃ as, Reads s.heap u d as
  | _, _, _, .non, r => by cases r; exact ⟨_, .none⟩
  | _, _, _, .bl b, r => by cases r; exact ⟨_, .bool b⟩
  | _, _, _, .int i, r => by obtain ⟨t, rfl⟩ := r; exact ⟨_, .int i t⟩
  | _, _, _, .str x, r => by obtain ⟨t, rfl⟩ := r; exact ⟨_, .str x t⟩
  | _, _, _, .lst h hs, r => by
    cases r
    obtain ⟨its, rv, ⟨o, n, e, hc, hdn, hd⟩, _⟩ := I.list h
    obtain ⟨as, q⟩ := reads_all I hs rv
    exact ⟨_, .list e hc hd (by simpa using q)⟩
  | _, _, _, .tup h hs, r => by
    cases r
    obtain ⟨its, rv, ⟨o, e, hc, n, hd⟩, _⟩ := I.tuple h
    obtain ⟨as, q⟩ := reads_all I hs rv
    exact ⟨_, .tuple e hc hd (by simpa using q)⟩
theorem reads_all {X : Cx} {pins : List (Addr × Obj)} {σ : L2.St} {H : Hp} {s : Shared} (I : L2.Inv X pins σ H s) : ∀ {vs : List V} {ds : List PyData} {us : List Value}, DpAll X.K H vs ds → Vals vs us → ∃ as, ReadsAll s.heap us ds as
  | _, _, _, .nil, r => by cases r; exact ⟨_, .nil⟩
  | _, _, _, .cons h hs, r => by
    cases r with
    | cons r1 r2 =>
      obtain ⟨as, q⟩ := reads_of I h r1
      obtain ⟨bs, q2⟩ := reads_all I hs r2
      exact ⟨_, .cons q q2⟩
end
/-- repr(x) of a list or a tuple of data -/
theorem call_repr {X : Cx} (g : X.A.guards = some []) (hu : X.A.units + 65 < cLine) : CallR X (.builtin "repr") (fun xs H Q => ∃ (a : Addr) (d : PyData), xs = [.ref a] ∧ Dp X.K H (.ref a) d ∧ d.showable = true ∧ d.hasDict = false ∧ d.depth ≤ 60 ∧ d.shown.length ≤ sizeLine ∧ Q (.str d.shown) H) := by
  intro pins s σ H xs us Q I r h
  obtain ⟨a, d, rfl, hd, hs, hn, hdep, hz, q⟩ := h
  obtain ⟨u, rfl, ru⟩ := vals1 r
  obtain ⟨as, rd⟩ := reads_of I hd ru
  cases ru
  exact PySem.repr_of_reads' rd hs (fun z => by rw [hn] at z; cases z) g (by omega) (fun _ _ e => e) (fun h' u tk k => ⟨.str _, H, I.kept (t' := tk) k, ⟨u, rfl⟩, q⟩) hz
end GX
end

section
/-! Lists that are made new (not at sysModules), repr of a list of equal data, isinstance of own exceptions. -/
namespace GX
open PySem PySem.Spec PyProof.Rows L2
section
variable {X : Cx} {E : XK}
theorem notSys {pins : List (Addr × Obj)} {σ : L2.St} {H : Hp} {s : Shared} (I : L2.Inv X pins σ H s) : s.heap.objs.size ≠ sysModules := Nat.ne_of_gt I.big
def rCatN : R2 := fun x y H Q => ∃ l b xs zs, x = .ref l ∧ y = .ref b ∧ H l = some (.lst xs) ∧ H b = some (.lst zs) ∧ xs.length + zs.length ≤ sizeLine ∧ ∀ p, H p = none → p ≠ sysModules → Q (.ref p) (upd H p (.lst (xs ++ zs)))
theorem op_catN : OpR X (binaryOp .Add) rCatN := by
  intro pins s σ H x y v u Q I rx ry ⟨l, b, xs, zs, ex, ey, hH, hB, hz, q⟩
  subst ex ey
  cases rx
  cases ry
  obtain ⟨z, its, n, r, hl, e⟩ := I.lstM hH
  obtain ⟨z2, its2, n2, r2, hl2, e2⟩ := I.lstM hB
  refine PySem.P.add_list e e2 ?_ (by rw [List.size_toArray, List.size_toArray]; omega)
  rw [show its.toArray ++ its2.toArray = (its ++ its2).toArray by simp]
  exact ⟨.ref _, _, I.lnew (t' := s.toks) (r.append r2) (by rw [List.length_append]; omega), rfl, q _ I.fresh (notSys I)⟩
/-- [v] * n -/
def rRepN : R2 := fun x y H Q => ∃ (l : Addr) (k : Int) (n : Nat) (v : V), x = .ref l ∧ y = .int k ∧ k.toNat = n ∧ 0 ≤ k ∧ H l = some (.lst [v]) ∧ n ≤ 1000 ∧ ∀ p, H p = none → p ≠ sysModules → Q (.ref p) (upd H p (.lst (List.replicate n v)))
theorem flat_one {α : Type} (a : α) (n : Nat) : (List.replicate n [a]).flatten = List.replicate n a := by
  induction n with
  | zero => rfl
  | succ k ih => rw [List.replicate_succ, List.flatten_cons, ih]; rfl
theorem op_repN : OpR X (binaryOp .Mult) rRepN := by
  intro pins s σ H x y v u Q I rx ry ⟨l, k, m, w, ex, ey, hk, k0, hH, hm, q⟩
  subst ex ey
  cases rx
  obtain ⟨t, rfl⟩ := ry
  obtain ⟨z, its, n, r, hl, e⟩ := I.lstM hH
  obtain ⟨i0, hits, r0⟩ := vals1 r
  have hmz : m ≤ sizeLine := by rw [sizeLine_eq]; omega
  have hsz : its.toArray.size = 1 := by rw [hits]; rfl
  have hlen : its.toArray.size * k.toNat ≤ sizeLine := by
    rw [hsz, hk]
    omega
  have hcap : ¬ its.toArray.size * k.toNat > (2 ^ 63 - 1) / 8 := by
    have : (sizeLine : Nat) ≤ (2 ^ 63 - 1) / 8 := by decide
    omega
  have hfit : ¬ (!Builtin.List.listFitsIndex k) = true := by
    rw [fitsIndex_both (by omega) (by omega)]
    exact Bool.false_ne_true
  have hlong : ¬ Builtin.List.listTooLong (its.toArray.size * k.toNat) = true := by
    rw [notLongL hlen]
    exact Bool.false_ne_true
  have hnew : List.foldl (fun x1 x2 => x1 ++ x2) #[] (List.replicate (if its.toArray.isEmpty = true then 0 else k.toNat) its.toArray) = (List.replicate m i0).toArray := by
    have := foldl_rep its m []
    rw [List.nil_append] at this
    rw [if_neg (by rw [hits]; simp), hk]
    refine Eq.trans this ?_
    rw [hits, flat_one]
  refine wpAny_binaryOp_repeat_ref (T := "list") (U := "int") (by decide) ⟨_, e, rfl⟩ (fun s' => typeIs_int s' _ t) noFill_list_mul F.fills_int_mul F.slot_int_rmul repeat_list F.slot_int_index.lookup
    (call_meets F.slot_int_rmul (typeIs_int s _ t) F.entry_int_rmul (F.args_int_rmul_2 _ _) (int___rmul___int_list k t l its.toArray n)
      ⟨e, rfl, ⟨_, e, rfl⟩, call_meets F.slot_list_mul ⟨_, e, rfl⟩ F.entry_list_mul (F.args_list_mul_2 _ _) (AutoListH.list___mul___list_int_3 l its.toArray n k t hfit hcap hlong) ⟨e, ?_⟩⟩)
  rw [hnew]
  have rr : Vals (List.replicate m w) (List.replicate m i0) := by
    clear hmz hlen hcap hfit hlong hnew hm q hk k0
    induction m with
    | zero => exact .nil
    | succ k ih => exact .cons r0 ih
  exact ⟨.ref _, _, I.lnew (t' := s.toks) rr (by rw [List.length_replicate]; exact hmz), rfl, q _ I.fresh (notSys I)⟩

/-! ### repr of a list of equal data, the data perhaps the dict {'n': 0} -/
def dN : PyData := .dict [(.str "n", .int 0)]
def Nail (K : PySem.W.Frag) (H : Hp) (v : V) (d : PyData) : Prop := (Dp K H v d ∧ d.hasDict = false) ∨ ∃ q, v = .ref q ∧ H q = some (.dK [(Sum.inr ("n" : Str), .int 0)]) ∧ d = dN
def FitN (n : Nat) (d : PyData) : Prop := (PyData.list (List.replicate n d)).showable = true ∧ (PyData.list (List.replicate n d)).depth ≤ 60 ∧ (PyData.list (List.replicate n d)).shown.length ≤ sizeLine
theorem nail_reads {pins : List (Addr × Obj)} {σ : L2.St} {H : Hp} {s : Shared} {v : V} {d : PyData} {u : Value} (I : L2.Inv X pins σ H s) (h : Nail X.K H v d) (r : RelV v u) : ∃ as, Reads s.heap u d as ∧ (d.hasDict = true → sysModules ∉ as) := by
  rcases h with ⟨h, n⟩ | ⟨q, rfl, hq, rfl⟩
  · obtain ⟨as, z⟩ := reads_of I h r
    exact ⟨as, z, fun e => by rw [n] at e; cases e⟩
  · cases r
    obtain ⟨_, ns, vs, kv, o, es, ep, ho, hx, hd, ko, ps, _⟩ := dk_of I.hok hq
    cases kv with
    | @cons p q1 ps' qs e12 t =>
      cases t
      obtain ⟨e1, e2⟩ := e12
      obtain ⟨k1, v1⟩ := q1
      obtain rfl : _ = k1 := e1
      obtain ⟨tk, rfl⟩ := e2
      obtain ⟨el⟩ := es
      replace ps : Pairs (mixKind X.prog X.w) el _ := ps
      cases ps with
      | @cons en kv1 el' kvs' hk hv r =>
        cases r
        have hk : Value.isStrOf ("n" : Str) en.key = true := hk
        obtain ⟨tn, ek⟩ := Value.isStrOf_shape hk
        have hv : en.val = .int 0 tk := hv
        have hne : q ≠ sysModules := beq_eq_false_iff_ne.mp ns
        refine ⟨q :: ([] ++ []) ++ ([] ++ []), .dict ho hx.1 hd ?_ ?_, fun _ z => ?_⟩
        · show ReadsAll s.heap [en.key] [PyData.str "n"] _
          rw [ek]
          exact .cons (.str _ _) .nil
        · show ReadsAll s.heap [en.val] [PyData.int 0] _
          rw [hv]
          exact .cons (.int _ _) .nil
        · rcases List.mem_cons.mp z with z | z
          · exact hne z.symm
          · exact absurd z (by simp)
theorem nails_read {pins : List (Addr × Obj)} {σ : L2.St} {H : Hp} {s : Shared} {v : V} {d : PyData} (I : L2.Inv X pins σ H s) (h : Nail X.K H v d) : ∀ {n : Nat} {us : List Value}, Vals (List.replicate n v) us → ∃ as, ReadsAll s.heap us (List.replicate n d) as ∧ (d.hasDict = true → sysModules ∉ as)
  | 0, _, r => by
    cases r
    exact ⟨[], .nil, fun _ z => by cases z⟩
  | n + 1, _, r => by
    rw [List.replicate_succ] at r
    cases r with
    | cons r1 r2 =>
      obtain ⟨as, q, a1⟩ := nail_reads I h r1
      obtain ⟨bs, q2, a2⟩ := nails_read I h r2
      refine ⟨as ++ bs, ?_, fun e z => ?_⟩
      · rw [List.replicate_succ]
        exact .cons q q2
      · rcases List.mem_append.mp z with z | z
        · exact a1 e z
        · exact a2 e z
theorem hasDict_rep {d : PyData} : ∀ n : Nat, PyData.hasDictAll (List.replicate n d) = true → d.hasDict = true
  | 0, h => by simp [PyData.hasDictAll] at h
  | n + 1, h => by
    rw [List.replicate_succ] at h
    unfold PyData.hasDictAll at h
    rcases Bool.or_eq_true_iff.mp h with z | z
    · exact z
    · exact hasDict_rep n z
/-- repr(x), x a list of n things that read alike -/
theorem call_reprN (g : X.A.guards = some []) (hu : X.A.units + 65 < cLine) : CallR X (.builtin "repr") (fun xs H Q => ∃ (p : Addr) (n : Nat) (v : V) (d : PyData), xs = [.ref p] ∧ p ≠ sysModules ∧ H p = some (.lst (List.replicate n v)) ∧ Nail X.K H v d ∧ FitN n d ∧ Q (.str (PyData.list (List.replicate n d)).shown) H) := by
  intro pins s σ H xs us Q I r ⟨p, n, v, d, ex, hp, hl, hN, ⟨f1, f2, f3⟩, q⟩
  subst ex
  obtain ⟨u, rfl, ru⟩ := vals1 r
  cases ru
  obtain ⟨z, its, m, rv, hlen, e⟩ := I.lstM hl
  obtain ⟨as, rd, na⟩ := nails_read I hN rv
  have rd' : Reads s.heap (.ref p) (.list (List.replicate n d)) (p :: as) := .list e rfl rfl (by simpa using rd)
  exact PySem.repr_of_reads' rd' f1 (fun e z => by
    rcases List.mem_cons.mp z with z | z
    · exact hp z.symm
    · exact na (hasDict_rep n (by unfold PyData.hasDict at e; exact e)) z) g (by omega) (fun _ _ e => e) (fun h' u tk k => ⟨.str _, H, I.kept (t' := tk) k, ⟨u, rfl⟩, q⟩) f3

/-- isinstance(e, c), e an own exception that stands in the heap -/
theorem call_isX : CallR X (.builtin "isinstance") (fun xs H Q => ∃ (a C : Addr) (dd : Option Addr) (c : V) (cv : Value) (b : Bool), xs = [.ref a, c] ∧ H a = some (exo a C dd) ∧ (∀ dx, dd = some dx → ∃ fs, H dx = some (exd dx fs)) ∧ ExcC X.K C ∧ ClsV c cv ∧ PySem.W.kitOne X.K (.ref C) cv = some b ∧ Q (.bl b) H) := by
  intro pins s σ H xs us Q I r ⟨a, C, dd, c, cv, b, ex, ha, hd, T, hc, e, q⟩
  subst ex
  obtain ⟨u1, u2, rfl, r1, r2⟩ := vals2 r
  cases r1
  have e2 := hc.eq r2
  subst e2
  obtain ⟨t1, ho⟩ := exo_at I.hok ha
  have hcl : (PySem.W.clsIn X.K C).isSome = true := by
    obtain ⟨cd, h, _⟩ := PySem.W.any_some T.hd
    rw [h]; rfl
  have J : ∃ od, PySem.W.InstAt s.heap a ({ cls := .ref C, dict := dd, data := .fields #[.ref t1, .none, .none, .none, .bool false, .none] } : Obj) C od := by
    cases dd with
    | none => exact ⟨none, ho, rfl, rfl, trivial⟩
    | some dx =>
      obtain ⟨fs, hf⟩ := hd dx rfl
      obtain ⟨mA, hns, _⟩ := exd_at I.hok hf
      obtain ⟨od, hod, _⟩ := lookIn_ns hns
      exact ⟨some od, ho, rfl, rfl, hod⟩
  obtain ⟨od, J⟩ := J
  exact PySem.W.kia_one (PySem.W.kitx_exc hcl T.hg T.hk T.hs T.ha T.hn T.ht T.hm) I.kIn J e (fun z => nomatch z) fun tk => ⟨.bl b, H, I.kept (t' := tk) fun _ _ z => z, rfl, q⟩
end
end GX
end

section
namespace K01
open PySem PySem.Spec PyProof.Rows L2 BX
def top (i : Nat) : Stmt := PySem.Challenge.pw_buildtongue_k01_errors_store_what_they_g.main.body.getD i (.Pass ⟨0, 0, 0, 0⟩)
abbrev sKit : Stmt := top 18
abbrev sRoll : Stmt := top 19
abbrev sPart : Stmt := top 20
abbrev sFits : Stmt := top 21
abbrev sStore : Stmt := top 22
abbrev sLaw : Stmt := top 23
/-- what the walk asks of the module's names -/
structure Txt (K : PySem.W.Frag) (mg : Str → Option Value) : Prop where
  len : mg "len" = none
  int : mg "int" = none
  abs : mg "abs" = none
  list : mg "list" = none
  enum : mg "enumerate" = none
  divmod : mg "divmod" = none
  repr : mg "repr" = none
  isi : mg "isinstance" = none
  exc : mg "Exception" = none
theorem u64 {k : Nat} {A : Around} (hr : Room k A) : A.units + 64 < cLine := by have := hr.un; omega
open Evl (Ex ex_l)
theorem int_of_cut {ns : List Int} {lo hi : Option Int} {i : Nat} {y : V} (h : (cutV (ns.map V.int) lo hi)[i]? = some y) : ∃ m : Int, y = .int m := by
  have q := List.mem_of_mem_drop (List.mem_of_mem_take (List.mem_of_getElem? h))
  obtain ⟨m, _, e⟩ := List.mem_map.mp q
  exact ⟨m, e.symm⟩
theorem ex_none {H H' : Hp} {d : Addr} (e : Ex H H') (h : H' d = none) : H d = none := by
  cases q : H d with
  | none => rfl
  | some o => rw [e d o q] at h; cases h
theorem merge_kit (z t : Int) : mergeK [] [((Sum.inr ("screw" : Str) : Key), V.int z), (Sum.inr ("thread" : Str), V.int t)] = [((Sum.inr ("screw" : Str) : Key), V.int z), (Sum.inr ("thread" : Str), V.int t)] := by rfl
theorem dp_ints {K : PySem.W.Frag} {H : Hp} : ∀ acc : List Int, DpAll K H (acc.map V.int) (acc.map PyData.int)
  | [] => .nil
  | v :: vs => .cons (.int v) (dp_ints vs)
theorem can_ints : ∀ acc : List Int, PyData.canLayAll0 (acc.map PyData.int) = true
  | [] => by simp [PyData.canLayAll0]
  | v :: vs => by simp [PyData.canLayAll0, PyData.canLay0, can_ints vs]
theorem depth_ints : ∀ acc : List Int, PyData.depthAll (acc.map PyData.int) = 0
  | [] => by simp [PyData.depthAll]
  | v :: vs => by simp [PyData.depthAll, PyData.depth, depth_ints vs]
theorem shaped_ints (acc : List Int) : SeqAt.shaped (.list (acc.map PyData.int)) = true := by
  simp [SeqAt.shaped, PyData.canLay0, PyData.depth, can_ints, depth_ints]
/-- a kit at d -/
def KitAt (H : Hp) (d : Addr) (z t : Int) : Prop := H d = some (.dK [(Sum.inr ("screw" : Str), .int z), (Sum.inr ("thread" : Str), .int t)])
def Top : Int := 2305843009213693921
def spKit (K : PySem.W.Frag) : Sp := fun vs H Q _ => ∃ (a : Addr) (ns : List Int) (b : Int), vs = [.ref a, .int b] ∧ SqL K H a (ns.map V.int) ∧ ns.length ≤ 63 ∧ 0 ≤ b ∧ b ≤ 1 ∧
  ∀ (d : Addr) (z t : Int) (H' : Hp), Ex H H' → H d = none → KitAt H' d z t → 0 ≤ z → z < Top → 0 ≤ t → Q (.ref d) H'
section
variable {P : Program} {w : World} {K : PySem.W.Frag} {mg : Str → Option Value} {base : Heap}
theorem scKit : FnScope ["cells", "bench", "screw", "turn", "cell", "own"] ["cells", "bench"] (defScope sKit) := ⟨rfl, rfl, rfl, by decide +kernel, rfl, by decide +kernel, by decide +kernel⟩
theorem ok_kit {f : Addr} {fd : FuncData} (F : Fun K "_law_kit" "_law_kit" sKit f fd) (T : Txt K mg) : FnOk P w K mg base CX0 1 f fd ["cells", "bench"] (spKit K) := by
  refine F.ok scKit (fun vs H Q E h => ?_) (fun cdv A outer s H vs Q E hr h => ?_)
  · obtain ⟨a, ns, b, rfl, _⟩ := h
    rfl
  · obtain ⟨a, ns, b, rfl, hS, hlen, hb0, hb1, k⟩ := h
    have hu := hu_of hr
    refine ⟨_, pss_cons (ps_set (i := 2) scKit.nd rfl (Or.inl rfl) (pe_op op_add pe_int (pe_op op_mul pe_int (pv 1))))
      (pss_cons (ps_for PassesOwn.never rfl (pi_enum (by rfl) T.enum (pa_cons (pe_slice sl_list (pe_callTy call_list_of (by rfl) T.list (by decide +kernel) (pa_cons (pv 0) pa_nil)) po_none (po_some pe_int)) pa_nil))
        (pg_tup (by rfl) (pgs_cons (pg_name (i := 3) scKit.nd rfl (Or.inl rfl)) (pgs_cons (pg_name (i := 4) scKit.nd rfl (Or.inl rfl)) pgs_nil)))
        (pss_one (ps_set (i := 2) scKit.nd rfl (Or.inl rfl) (pe_op op_mod (pe_callTy call_int1 (by rfl) T.int (by decide +kernel) (pa_cons (pe_op op_add (pe_op op_add
          (pe_op op_mul (pe_op op_add (pv 2) (pe_op op_mod (pe_callTy call_int1 (by rfl) T.int (by decide +kernel) (pa_cons (pv 4) pa_nil)) pe_int)) pe_int) (pe_op op_mul pe_int (pv 3))) pe_int) pa_nil)) pe_int))))
      (pss_cons (ps_setLc (i := 5) (own := [("cell", 4)]) (g := gName 4) rfl scKit.nd rfl rfl (sw_true rfl rfl rfl (by decide +kernel))
          (pi_list (pe_slice sl_list (pe_callTy call_list_of (by rfl) T.list (by decide +kernel) (pa_cons (pv 0) pa_nil)) (po_some (pv 1)) (po_some (pe_op op_add (pv 1) pe_int))))
          (blkOk_by (N := ["cells", "bench", "screw", "turn", "cell", "own"]) (sc := defScope sKit) (by decide +kernel))
          (fun _ _ _ _ _ => pg_name (i := 4) scKit.nd rfl (Or.inl rfl)) (fun _ _ _ _ _ => pts_one (pt_cmpR op_gt (pe_callB call_abs (by rfl) T.abs (by decide +kernel) (pa_cons (pe_callTy call_int1 (by rfl) T.int (by decide +kernel) (pa_cons (pv 4) pa_nil)) pa_nil)) (pe_op op_pow pe_int pe_int) (nomark _)))
          (fun _ _ _ _ _ => pe_callB call_abs (by rfl) T.abs (by decide +kernel) (pa_cons (pe_callTy call_int1 (by rfl) T.int (by decide +kernel) (pa_cons (pv 4) pa_nil)) pa_nil)))
      (pss_one (ps_ret (pe_disp (pps_cons pe_str (pv 2) (pps_cons pe_str (pe_ifExp (pt_cmpR (op_neD (u64 hr)) (pv 5) (pe_lst pa_nil) (nomark _)) (pe_ix ix_list (pv 5) pe_int (fun _ _ => rfl)) pe_int) pps_nil)) (by rfl) (by rfl) (fun z => by cases z) (by decide)))))), ?_⟩
    -- screw = 70602 + 29 * bench
    refine ⟨_, rfl, _, _, rfl, rfl, .inl ⟨by decide, by decide⟩, _, _, rfl, rfl, ?_⟩
    -- enumerate(list(cells)[:8])
    refine ⟨_, rfl, a, _, rfl, .inl hS, fun l hl => ⟨_, rfl, l, _, rfl, SqL.of upd_same, fun p hp => ⟨p, _, rfl, SqL.of upd_same, ?_⟩⟩⟩
    have e0 : Ex H (upd (upd H l (.lst (ns.map V.int))) p (.lst (cutV (ns.map V.int) none (some 8)))) := fun c o e => by
      rw [upd_ne (ne_of_none (by rw [upd_ne (ne_of_none e hl)]; exact e) hp), upd_ne (ne_of_none e hl)]
      exact e
    refine for_it (walk_enum (xs := cutV (ns.map V.int) none (some 8))) (fun i σ H2 => ∃ (z : Int) (v3 v4 : Option V), σ = [some (.ref a), some (.int b), some (.int z), v3, v4, none] ∧ 0 ≤ z ∧ z < Top ∧ Ex (upd (upd H l (.lst (ns.map V.int))) p (.lst (cutV (ns.map V.int) none (some 8)))) H2) ?_ ?_ ?_ ?_
    · exact ⟨70602 + 29 * b, none, none, rfl, by omega, by unfold Top; omega, fun _ _ e => e⟩
    · rintro i σ H2 _ ⟨z, v3, v4, _, _, _, e⟩
      exact SqL.of (e _ _ upd_same)
    · rintro i x σ H2 H3 hi ⟨z, v3, v4, rfl, z0, z1, e⟩ ⟨T', x1, y, rfl, hT, rfl, e1, e2⟩
      cases e1
      obtain ⟨m, rfl⟩ := int_of_cut e2
      refine ⟨T', _, rfl, SqT.of upd_same, rfl, _, _, rfl, _, _, rfl, rfl, ?_⟩
      refine ⟨_, rfl, _, rfl, .inl ⟨_, rfl, _, _, rfl, rfl, (by show (0 : Int) < 33554393; decide), _, _, rfl, rfl, _, _, rfl, rfl, .inr ⟨by decide, by decide⟩, _, rfl, _, _, rfl, rfl, .inl ⟨by decide, by decide⟩, _, _, rfl, rfl, _, _, rfl, rfl, .inl ⟨_, rfl, _, _, rfl, rfl, (by show (0 : Int) < 2305843009213693921; decide), ?_⟩⟩⟩
      exact ⟨_, _, _, rfl, Int.emod_nonneg _ (by decide), Int.emod_lt_of_pos _ (by decide), fun c o q => by rw [upd_ne (ne_of_none (e c o q) hT)]; exact e c o q⟩
    · rintro σ H2 ⟨z, v3, v4, rfl, z0, z1, e⟩
      have e2 : Ex H H2 := fun c o q => e c o (e0 c o q)
      -- own = [abs(int(cell)) for cell in list(cells)[bench:bench + 1] if abs(int(cell)) > 10 ** 13]
      refine ⟨_, rfl, a, _, rfl, .inl (ex_l e2 hS), fun l2 hl2 => ⟨_, rfl, _, rfl, _, rfl, _, _, rfl, rfl, _, rfl, l2, _, rfl, SqL.of upd_same, fun p2 hp2 => ⟨p2, rfl, ⟨_, SqL.of upd_same⟩, fun D hD => ?_⟩⟩⟩
      refine lc_it (walk_list (xs := cutV (ns.map V.int) (some b) (some (b + 1)))) (fun i H3 => ∃ acc : List Int, H3 = upd (upd (upd H2 l2 (.lst (ns.map V.int))) p2 (.lst (cutV (ns.map V.int) (some b) (some (b + 1))))) D (.lst (acc.map V.int)) ∧ (∀ v ∈ acc, 0 ≤ v) ∧ acc.length ≤ i) ?_ ?_ ?_ ?_
      · exact ⟨[], rfl, fun v hv => absurd hv (by simp), Nat.le_refl _⟩
      · rintro i H3 _ ⟨acc, rfl, _⟩
        exact SqL.of (by rw [upd_ne (ne_of_none upd_same hD)]; exact upd_same)
      · rintro i x H3 H4 hi ⟨acc, rfl, nn, hl⟩ ⟨rfl, e1⟩
        obtain ⟨m, rfl⟩ := int_of_cut e1
        refine ⟨rfl, _, rfl, .inl ⟨_, rfl, _, rfl, _, _, rfl, rfl, ⟨by decide, by decide, by decide⟩, _, _, rfl, rfl, _, rfl, ?_⟩⟩
        refine ite2 (fun _ => ?_) (fun _ => ?_)
        · refine ⟨_, rfl, .inl ⟨_, rfl, _, rfl, _, upd_same, ?_, acc ++ [if m < 0 then -m else m], ?_, ?_, ?_⟩⟩
          · rw [List.length_map, sizeLine_eq]
            have := cutV_length (ns.map V.int) (some b) (some (b + 1))
            rw [List.length_map] at this
            omega
          · rw [upd_upd, List.map_append]
            rfl
          · intro v hv
            rcases List.mem_append.mp hv with z | z
            · exact nn v z
            · rw [List.mem_singleton.mp z]
              split <;> omega
          · rw [List.length_append]
            exact Nat.succ_le_succ hl
        · exact ⟨acc, rfl, nn, Nat.le_succ_of_le hl⟩
      · rintro H3 ⟨acc, rfl, nn, hl⟩
        have e3 : Ex H (upd (upd (upd H2 l2 (.lst (ns.map V.int))) p2 (.lst (cutV (ns.map V.int) (some b) (some (b + 1))))) D (.lst (acc.map V.int))) := fun c o q => by
          have q1 := e2 c o q
          have q2 : upd H2 l2 (.lst (ns.map V.int)) c = some o := by rw [upd_ne (ne_of_none q1 hl2)]; exact q1
          have q3 : upd (upd H2 l2 (.lst (ns.map V.int))) p2 (.lst (cutV (ns.map V.int) (some b) (some (b + 1)))) c = some o := by rw [upd_ne (ne_of_none q2 hp2)]; exact q2
          rw [upd_ne (ne_of_none q3 hD)]
          exact q3
        have hlD : acc.length ≤ 63 := by
          have := cutV_length (ns.map V.int) (some b) (some (b + 1))
          rw [List.length_map] at this
          omega
        -- return {'screw': screw, 'thread': own[0] if own != [] else 0}
        intro d hd
        refine ⟨_, rfl, _, rfl, (by rw [sizeLine_eq]; exact (by decide : 0 ≤ 16777216)), fun r hr => ?_⟩
        have nd : H d = none := ex_none e3 hd
        have nr : d ≠ r := ne_of_none upd_same hr
        have fin : ∀ t : Int, 0 ≤ t → ∀ Hq : Hp, Hq = upd (upd (upd (upd (upd H2 l2 (.lst (ns.map V.int))) p2 (.lst (cutV (ns.map V.int) (some b) (some (b + 1))))) D (.lst (acc.map V.int))) d (.dK [])) r (.lst []) →
            Hq d = some (.dK []) ∧ ∃ kvs : List (Key × V), [(V.str "screw", V.int z), (V.str "thread", V.int t)] = kvs.map (fun kv => (kV kv.1, kv.2)) ∧ kvs.length ≤ 15 ∧ Q (.ref d) (upd Hq d (.dK (mergeK [] kvs))) := by
          rintro t t0 Hq rfl
          refine ⟨by rw [upd_ne nr]; exact upd_same, [(Sum.inr ("screw" : Str), .int z), (Sum.inr ("thread" : Str), .int t)], rfl, (by show 2 ≤ 15; decide), k d z t _ (fun c o q => ?_) nd (upd_same.trans (congrArg (fun q => some (HO.dK q)) (merge_kit z t))) z0 z1 t0⟩
          have q1 := e3 c o q
          have nc : c ≠ d := ne_of_none q1 hd
          have q2 : upd (upd (upd (upd H2 l2 (.lst (ns.map V.int))) p2 (.lst (cutV (ns.map V.int) (some b) (some (b + 1))))) D (.lst (acc.map V.int))) d (.dK []) c = some o := by rw [upd_ne nc]; exact q1
          rw [upd_ne nc, upd_ne (ne_of_none q2 hr)]
          exact q2
        have hDd : upd (upd (upd (upd (upd H2 l2 (.lst (ns.map V.int))) p2 (.lst (cutV (ns.map V.int) (some b) (some (b + 1))))) D (.lst (acc.map V.int))) d (.dK [])) r (.lst []) D = some (.lst (acc.map V.int)) := by
          have q1 : upd (upd (upd H2 l2 (.lst (ns.map V.int))) p2 (.lst (cutV (ns.map V.int) (some b) (some (b + 1))))) D (.lst (acc.map V.int)) D = some (.lst (acc.map V.int)) := upd_same
          have q2 : upd (upd (upd (upd H2 l2 (.lst (ns.map V.int))) p2 (.lst (cutV (ns.map V.int) (some b) (some (b + 1))))) D (.lst (acc.map V.int))) d (.dK []) D = some (.lst (acc.map V.int)) := by rw [upd_ne (ne_of_none q1 hd)]; exact q1
          rw [upd_ne (ne_of_none q2 hr)]
          exact q2
        refine ⟨.list (acc.map PyData.int), .list [], .lst (SqL.of hDd) (dp_ints acc), .lst (SqL.of upd_same) .nil, shaped_ints acc, rfl, _, rfl, ?_⟩
        cases acc with
        | nil => exact fin 0 (Int.le_refl _) _ rfl
        | cons v vs => exact ⟨_, rfl, D, _, _, _, rfl, rfl, SqL.of hDd, atI_nat (j := 0) rfl, fin v (nn v List.mem_cons_self) _ rfl⟩
end
end K01
end

section
namespace K01
open PySem PySem.Spec PyProof.Rows L2 BX GX
theorem u65 {k : Nat} {A : Around} (hr : Room k A) : A.units + 65 < cLine := by have := hr.un; omega
/-- the heap keeps all but what stands at d -/
def KeepX (d : Addr) (H H' : Hp) : Prop := ∀ a o, a ≠ d → H a = some o → H' a = some o
theorem KeepX.refl (d : Addr) (H : Hp) : KeepX d H H := fun _ _ _ e => e
def spRoll : Sp := fun vs H Q _ => ∃ (d : Addr) (n z t : Int), vs = [.ref d, .int n] ∧ 0 < n ∧ n ≤ 1000 ∧ KitAt H d z t ∧ 0 ≤ z ∧ z < Top ∧ 0 ≤ t ∧
  ∀ (r z' t' : Int) (H' : Hp), 0 ≤ r → r < n → KeepX d H H' → KitAt H' d z' t' → 0 ≤ z' → z' < Top → 0 ≤ t' → Q (.int r) H'
section
variable {P : Program} {w : World} {K : PySem.W.Frag} {mg : Str → Option Value} {base : Heap}
theorem scRoll : FnScope ["kit", "sides", "side"] ["kit", "sides"] (defScope sRoll) := ⟨rfl, rfl, rfl, by decide +kernel, rfl, by decide +kernel, by decide +kernel⟩
theorem get_screw (z t : Int) : valV [((Sum.inr ("screw" : Str) : Key), V.int z), (Sum.inr ("thread" : Str), V.int t)] (Sum.inr ("screw" : Str)) = some (.int z) := by rfl
theorem get_thread (z t : Int) : valV [((Sum.inr ("screw" : Str) : Key), V.int z), (Sum.inr ("thread" : Str), V.int t)] (Sum.inr ("thread" : Str)) = some (.int t) := by rfl
theorem put_screw (z t y : Int) : putK [((Sum.inr ("screw" : Str) : Key), V.int z), (Sum.inr ("thread" : Str), V.int t)] (Sum.inr ("screw" : Str)) (.int y) = [((Sum.inr ("screw" : Str) : Key), V.int y), (Sum.inr ("thread" : Str), V.int t)] := by rfl
theorem put_thread (z t y : Int) : putK [((Sum.inr ("screw" : Str) : Key), V.int z), (Sum.inr ("thread" : Str), V.int t)] (Sum.inr ("thread" : Str)) (.int y) = [((Sum.inr ("screw" : Str) : Key), V.int z), (Sum.inr ("thread" : Str), V.int y)] := by rfl
theorem dget_screw {H : Hp} {d : Addr} {z t : Int} (h : KitAt H d z t) : DGet H d (.str "screw") (some (.int z)) := by
  have := DGet.k (k := Sum.inr ("screw" : Str)) h
  rw [get_screw] at this
  exact this
theorem dget_thread {H : Hp} {d : Addr} {z t : Int} (h : KitAt H d z t) : DGet H d (.str "thread") (some (.int t)) := by
  have := DGet.k (k := Sum.inr ("thread" : Str)) h
  rw [get_thread] at this
  exact this
theorem dput_screw {H : Hp} {d : Addr} {z t : Int} (h : KitAt H d z t) (y : Int) : ∃ H', DPut H d (.str "screw") (.int y) H' ∧ KitAt H' d y t ∧ KeepX d H H' := by
  have := DPut.k (k := Sum.inr ("screw" : Str)) (v := .int y) h (by rw [sizeLine_eq]; exact (by decide : 2 < 16777216))
  rw [put_screw] at this
  exact ⟨_, this, upd_same, fun a o ne e => by rw [upd_ne ne]; exact e⟩
theorem dput_thread {H : Hp} {d : Addr} {z t : Int} (h : KitAt H d z t) (y : Int) : ∃ H', DPut H d (.str "thread") (.int y) H' ∧ KitAt H' d z y ∧ KeepX d H H' := by
  have := DPut.k (k := Sum.inr ("thread" : Str)) (v := .int y) h (by rw [sizeLine_eq]; exact (by decide : 2 < 16777216))
  rw [put_thread] at this
  exact ⟨_, this, upd_same, fun a o ne e => by rw [upd_ne ne]; exact e⟩
theorem ok_roll {f : Addr} {fd : FuncData} (F : Fun K "_law_roll" "_law_roll" sRoll f fd) (T : Txt K mg) : FnOk P w K mg base CX0 1 f fd ["kit", "sides"] spRoll := by
  refine F.ok scRoll (fun vs H Q E h => ?_) (fun cdv A outer s H vs Q E hr h => ?_)
  · obtain ⟨d, n, z, t, rfl, _⟩ := h
    rfl
  · obtain ⟨d, n, z, t, rfl, n0, n1, hK, z0, z1, t0, k⟩ := h
    have hu := hu_of hr
    refine ⟨_, pss_cons (ps_if (pt_cmpR op_gt (pe_dget hu (pv 0) pe_str (fun _ _ => rfl)) pe_int (nomark _))
        (pss_cons (ps_asg (pe_callB call_divmod (by rfl) T.divmod (by decide +kernel) (pa_cons (pe_dget hu (pv 0) pe_str (fun _ _ => rfl)) (pa_cons (pv 1) pa_nil)))
          (pg_tup (by rfl) (pgs_cons (pg_sub (pv 0) pe_str (set_dict hu)) (pgs_cons (pg_name (i := 2) scRoll.nd rfl (Or.inl rfl)) pgs_nil))))
          (pss_one (ps_ret (pv 2)))) pss_nil)
      (pss_cons (ps_dput hu (pv 0) pe_str (pe_op op_mod (pe_callTy call_int1 (by rfl) T.int (by decide +kernel) (pa_cons (pe_op op_add (pe_op op_mul (pe_dget hu (pv 0) pe_str (fun _ _ => rfl)) pe_int) pe_int) pa_nil)) pe_int) rfl)
      (pss_one (ps_ret (pe_op op_mod (pe_callTy call_int1 (by rfl) T.int (by decide +kernel) (pa_cons (pe_op op_fdiv (pe_dget hu (pv 0) pe_str (fun _ _ => rfl)) pe_int) pa_nil)) (pv 1))))), ?_⟩
    refine ⟨_, rfl, d, _, rfl, dget_thread hK, _, _, rfl, rfl, _, rfl, ?_⟩
    refine ite2 (fun hb => ?_) (fun hb => ?_)
    · -- kit['thread'], side = divmod(kit['thread'], sides)
      refine ⟨_, rfl, d, _, rfl, dget_thread hK, _, rfl, t, n, rfl, ⟨n0, by omega⟩, fun p hp => ?_⟩
      have np : d ≠ p := ne_of_none hK hp
      have hK2 : KitAt (upd H p (.tup [.int (t / n), .int (t % n)])) d z t := by
        unfold KitAt
        rw [upd_ne np]
        exact hK
      obtain ⟨H', g, hK3, kp⟩ := dput_thread hK2 (t / n)
      refine ⟨p, _, rfl, SqT.of upd_same, rfl, _, _, rfl, ⟨_, rfl, d, _, rfl, g, _, _, rfl, ?_⟩⟩
      refine ⟨rfl, _, rfl, k (t % n) z (t / n) H' (Int.emod_nonneg _ (by omega)) (Int.emod_lt_of_pos _ n0) (fun a o na e => kp a o na ?_) hK3 z0 z1 (Int.ediv_nonneg t0 (by omega))⟩
      rw [upd_ne (ne_of_none e hp)]
      exact e
    · -- kit['screw'] = ..
      refine ⟨_, rfl, d, _, rfl, dget_screw hK, _, _, rfl, rfl, .inr ⟨by decide, by decide⟩, _, _, rfl, rfl, .inl ⟨_, rfl, _, _, rfl, rfl, (by show (0 : Int) < 2305843009213693921; decide), ?_⟩⟩
      obtain ⟨H', g, hK3, kp⟩ := dput_screw hK ((z * 2862933555777941757 + 3037000493) % 2305843009213693921)
      have y0 : (0 : Int) ≤ (z * 2862933555777941757 + 3037000493) % 2305843009213693921 := Int.emod_nonneg _ (by decide)
      have y1 : (z * 2862933555777941757 + 3037000493) % 2305843009213693921 < Top := Int.emod_lt_of_pos _ (by decide)
      refine ⟨_, rfl, d, H', rfl, g, ?_⟩
      refine ⟨_, rfl, d, _, rfl, dget_screw hK3, _, _, rfl, rfl, ⟨by decide, by decide⟩, .inl ⟨_, rfl, _, rfl, _, _, rfl, rfl, n0, ?_⟩⟩
      exact k _ _ t H' (Int.emod_nonneg _ (by omega)) (Int.emod_lt_of_pos _ n0) kp hK3 y0 y1 t0
/-! ### _law_part, _law_fits -/
def spPart (K : PySem.W.Frag) : Sp := fun vs H Q _ => ∃ (d b : Addr) (z t : Int) (xs : List V), vs = [.ref d, .ref b] ∧ H b = some (.lst xs) ∧ b ≠ d ∧ 0 < xs.length ∧ xs.length ≤ 1000 ∧ KitAt H d z t ∧ 0 ≤ z ∧ z < Top ∧ 0 ≤ t ∧
  ∀ (r : Nat) (v : V) (z' t' : Int) (H' : Hp), xs[r]? = some v → KeepX d H H' → KitAt H' d z' t' → 0 ≤ z' → z' < Top → 0 ≤ t' → Q v H'
theorem scPart : FnScope ["kit", "box"] ["kit", "box"] (defScope sPart) := ⟨rfl, rfl, rfl, by decide +kernel, rfl, by decide +kernel, by decide +kernel⟩
theorem ok_part {f fR : Addr} {fd fdR : FuncData} (F : Fun K "_law_part" "_law_part" sPart f fd) (FR : Fun K "_law_roll" "_law_roll" sRoll fR fdR) (gR : mg "_law_roll" = some (.ref fR)) (T : Txt K mg) : FnOk P w K mg base CX0 2 f fd ["kit", "box"] (spPart K) := by
  have GR : FnOk P w K mg base CX0 1 fR fdR ["kit", "sides"] spRoll := ok_roll FR T
  have bR : Binds K fdR ["kit", "sides"] [] := FR.binds fun _ _ _ _ _ _ us hl => match us, hl with | [_, _], _ => rfl
  refine F.ok scPart (fun vs H Q E h => ?_) (fun cdv A outer s H vs Q E hr h => ?_)
  · obtain ⟨d, b, z, t, xs, rfl, _⟩ := h
    rfl
  · obtain ⟨d, b, z, t, xs, rfl, hb, bd, l0, l1, hK, z0, z1, t0, k⟩ := h
    refine ⟨_, pss_one (ps_ret (pe_ix ix_list (pv 1) (pe_call GR hr rfl gR FR.kp bR .nil pass0 (pa_cons (pv 0) (pa_cons (pe_callB call_len_seq (by rfl) T.len PySem.boot_len (pa_cons (pv 1) pa_nil)) pa_nil))) (fun _ _ => rfl))), ?_⟩
    refine ⟨_, rfl, _, rfl, _, rfl, b, xs, rfl, .inl (SqL.of hb), ?_⟩
    refine ⟨d, xs.length, z, t, rfl, by omega, by omega, hK, z0, z1, t0, fun r z' t' H' r0 r1 kp hK' z0' z1' t0' => ?_⟩
    have hb' := kp b _ bd hb
    obtain ⟨m, rfl⟩ := Int.eq_ofNat_of_zero_le r0
    have hm : m < xs.length := by omega
    refine ⟨b, _, _, xs[m], rfl, rfl, SqL.of hb', atI_nat (j := m) (List.getElem?_eq_getElem hm), k m _ z' t' H' (List.getElem?_eq_getElem hm) kp hK' z0' z1' t0'⟩
def spFits (K : PySem.W.Frag) : Sp := fun vs H Q _ => ∃ (p q : Addr) (n : Nat) (u v : V) (d : PyData), vs = [.ref p, .ref q] ∧ p ≠ sysModules ∧ q ≠ sysModules ∧ H p = some (.lst (List.replicate n u)) ∧ H q = some (.lst (List.replicate n v)) ∧ Nail K H u d ∧ Nail K H v d ∧ FitN n d ∧ Q (.bl true) H
theorem scFits : FnScope ["told", "due"] ["told", "due"] (defScope sFits) := ⟨rfl, rfl, rfl, by decide +kernel, rfl, by decide +kernel, by decide +kernel⟩
theorem ok_fits {f : Addr} {fd : FuncData} (F : Fun K "_law_fits" "_law_fits" sFits f fd) (T : Txt K mg) : FnG P w K mg base CX0 1 f fd ["told", "due"] (spFits K) := by
  refine okG F scFits (fun vs H Q E h => ?_) (fun cdv A outer s H vs Q E g hr h => ?_)
  · obtain ⟨p, q, n, u, v, d, rfl, _⟩ := h
    rfl
  · obtain ⟨p, q, n, u, v, d, rfl, hp, hq, lp, lq, nu, nv, ft, k⟩ := h
    have hu := u65 hr
    refine ⟨_, pss_one (ps_ret (pe_cmpR op_eq (pe_callB (call_reprN g hu) (by rfl) T.repr (by decide +kernel) (pa_cons (pv 0) pa_nil)) (pe_callB (call_reprN g hu) (by rfl) T.repr (by decide +kernel) (pa_cons (pv 1) pa_nil)) (nomark _))), ?_⟩
    refine ⟨_, rfl, p, n, u, d, rfl, hp, lp, nu, ft, _, rfl, q, n, v, d, rfl, hq, lq, nv, ft, rfl, ?_⟩
    show Q (.bl (decide _)) H
    rw [decide_eq_true rfl]
    exact k
end
end K01
end

section
/-! The row's exception classes: what is known of each, and their rules. -/
namespace K01
open PySem PySem.Spec PyProof.Rows L2 BX GX
open PySem.W (clsIn findIn typeIn subIn keepIn excInitIn excOver hasDictIn mroIn nsIn takerIn codeIn ks_superIn ksFn excIn kitOne specialIn takesIn)
structure GoodI (K : PySem.W.Frag) (B C : Addr) : Prop where
  e : ExcC K C
  b : kitOne K (.ref C) (.ref B) = some true
  x : kitOne K (.ref C) (.type "Exception") = some true
/-- a class whose __init__ has one parameter -/
structure Cl1 (P : Program) (w : World) (K : PySem.W.Frag) (mg : Str → Option Value) (base : Heap) (B : Addr) (x p : Str) (C : Addr) : Prop where
  m : mg x = some (.ref C)
  T : XCls K C
  i : ∃ fI, findIn K (.ref C) "__init__" = some (some (.ref fI)) ∧ typeIn K (.ref fI) = some (.type "function") ∧ (∀ u, Inits P w base C fI [u] [] (fun y => if y = p then some u else none)) ∧ ∀ u, Inits P w base C fI [] [(p, u)] (fun y => if y = p then some u else none)
  no : findIn K (.ref C) p = some none
  g : GoodI K B C
/-- .. two parameters, row and word -/
structure Cl2 (P : Program) (w : World) (K : PySem.W.Frag) (mg : Str → Option Value) (base : Heap) (B : Addr) (x : Str) (C : Addr) : Prop where
  m : mg x = some (.ref C)
  T : XCls K C
  i : ∃ fI, findIn K (.ref C) "__init__" = some (some (.ref fI)) ∧ typeIn K (.ref fI) = some (.type "function") ∧ (∀ u z, Inits P w base C fI [u, z] [] (fun y => if y = "word" then some z else if y = "row" then some u else none)) ∧
    ∀ z u, Inits P w base C fI [] [("word", z), ("row", u)] (fun y => if y = "word" then some z else if y = "row" then some u else none)
  noR : findIn K (.ref C) "row" = some none
  noW : findIn K (.ref C) "word" = some none
  g : GoodI K B C
/-- .. no __init__ of its own -/
structure Cl0 (K : PySem.W.Frag) (mg : Str → Option Value) (B : Addr) (x : Str) (C : Addr) : Prop where
  m : mg x = some (.ref C)
  q : excIn K C exTl "Exception.__new__" = true
  kp : keepIn K (.ref C) = true
  g : GoodI K B C
section
variable {X : Cx} {B C : Addr} {x p : Str} {k : Nat} {e g : Expr} {te tg : TE} {np pos kp kp2 : Pos}
theorem pe_c1 (c : Cl1 X.prog X.w X.K X.mg X.base B x p C) (hr : Room k X.A) (hg : Gl X x) (he : PE X e te) (hs : starEach [e] X.env = (false, eval e X.env) :: starEach [] X.env := by rfl) (hdb : (x == ("__debug__" : Str)) = false := by decide) : PE X (.Call (.Name x np) [e] [] pos) (tMk1 C p te) :=
  let ⟨_, h1, h2, h3, _⟩ := c.i
  pe_mkx1 c.T h1 h2 hr h3 hg c.m he hs hdb
theorem pe_c1k (c : Cl1 X.prog X.w X.K X.mg X.base B x p C) (hr : Room k X.A) (hg : Gl X x) (he : PE X e te) (hdb : (x == ("__debug__" : Str)) = false := by decide) : PE X (.Call (.Name x np) [] [⟨some p, e, kp⟩] pos) (tMk1 C p te) :=
  let ⟨_, h1, h2, _, h3⟩ := c.i
  pe_mkxK1 c.T h1 h2 hr h3 hg c.m he hdb
theorem pe_c2 (c : Cl2 X.prog X.w X.K X.mg X.base B x C) (hr : Room k X.A) (hg : Gl X x) (he : PE X e te) (hge : PE X g tg) (hs : starEach [e, g] X.env = (false, eval e X.env) :: starEach [g] X.env := by rfl) (hs2 : starEach [g] X.env = (false, eval g X.env) :: starEach [] X.env := by rfl) (hdb : (x == ("__debug__" : Str)) = false := by decide) :
    PE X (.Call (.Name x np) [e, g] [] pos) (tMk2 C "row" "word" te tg) :=
  let ⟨_, h1, h2, h3, _⟩ := c.i
  pe_mkx2 c.T h1 h2 hr h3 hg c.m he hge hs hs2 hdb
theorem pe_c2k (c : Cl2 X.prog X.w X.K X.mg X.base B x C) (hr : Room k X.A) (hg : Gl X x) (he : PE X e te) (hge : PE X g tg) (hdb : (x == ("__debug__" : Str)) = false := by decide) :
    PE X (.Call (.Name x np) [] [⟨some "word", e, kp⟩, ⟨some "row", g, kp2⟩] pos) (tMk2r C "row" "word" te tg) :=
  let ⟨_, h1, h2, _, h3⟩ := c.i
  pe_mkxK2 c.T h1 h2 hr h3 hg c.m he hge hdb
theorem pe_c0 (c : Cl0 X.K X.mg B x C) (hg : Gl X x) (hdb : (x == ("__debug__" : Str)) = false := by decide) : PE X (.Call (.Name x np) [] [] pos) (tMk0 C) := pe_mkx0 PySem.F.excBase_Exception c.q c.kp hg c.m hdb
end
/-! ### the classes, from what stands behind the top -/
theorem mk_good {K : PySem.W.Frag} {B C : Addr} (T : XCls K C) (sB : subIn K (.ref C) (.ref B) = some true) (iB : (clsIn K B).isSome = true) (tB : typeIn K (.ref B) = some (.type "type")) (kE : PySem.W.kitMeta "Exception" = true)
    (ha : findIn K (.ref C) "__class__" = some (some (.builtin "object.__class__"))) (hn : specialIn K (.builtin "object.__class__") "__get__" = some (some (.builtin "getset_descriptor.__get__"))) (ht : takesIn K (.builtin "object.__class__") = some true) (hm : mroIn K C (.type "object") = some true) : GoodI K B C := by
  refine ⟨⟨T.ga, T.gg, T.sBB, T.hd, ha, hn, ht, hm⟩, ?_, ?_⟩
  · unfold kitOne
    split
    · rfl
    · have e : ((clsIn K B).isSome && typeIn K (.ref B) == some (.type "type")) = true := by rw [iB, tB]; rfl
      show (if ((clsIn K B).isSome && typeIn K (.ref B) == some (.type "type")) = true then subIn K (.ref C) (.ref B) else none) = some true
      rw [if_pos e]
      exact sB
  · unfold kitOne
    split
    · rfl
    · show (if PySem.W.kitMeta "Exception" = true then subIn K (.ref C) (.type "Exception") else none) = some true
      rw [if_pos kE]
      exact T.sB
theorem isSome_of {K : PySem.W.Frag} {B : Addr} (h : hasDictIn K B = true) : (clsIn K B).isSome = true := by
  obtain ⟨cd, h, _⟩ := PySem.W.any_some h
  rw [h]; rfl
theorem mk_c0 {K : PySem.W.Frag} {h : Heap} {mg : Str → Option Value} {x : Str} (X : K.In h) (G : h.Ns mainGlobals mg) {B C : Addr}
  (aC : nsIn K mainGlobals x = some (some (.ref C))) (q : excIn K C exTl "Exception.__new__" = true) (hd : hasDictIn K C = true) (sB : subIn K (.ref C) (.type "Exception") = some true) (sBB : subIn K (.ref C) (.type "BaseException") = some true) (kp : keepIn K (.ref C) = true)
  (ga : findIn K (.ref C) "__getattribute__" = some (some (.builtin "BaseException.__getattribute__"))) (gg : findIn K (.ref C) "__getattr__" = some none)
  (sBd : subIn K (.ref C) (.ref B) = some true) (iBd : hasDictIn K B = true) (tB : typeIn K (.ref B) = some (.type "type")) (kE : PySem.W.kitMeta "Exception" = true)
  (hac : findIn K (.ref C) "__class__" = some (some (.builtin "object.__class__"))) (hnc : specialIn K (.builtin "object.__class__") "__get__" = some (some (.builtin "getset_descriptor.__get__"))) (htc : takesIn K (.builtin "object.__class__") = some true) (hmo : mroIn K C (.type "object") = some true) :
  ∃ C, Cl0 K mg B x C := by
  have iB := isSome_of iBd
  refine ⟨C, PySem.W.mg_of X G aC, q, kp, ⟨ga, gg, sBB, hd, hac, hnc, htc, hmo⟩, ?_, ?_⟩
  · unfold kitOne
    split
    · rfl
    · have e : ((clsIn K B).isSome && typeIn K (.ref B) == some (.type "type")) = true := by rw [iB, tB]; rfl
      show (if ((clsIn K B).isSome && typeIn K (.ref B) == some (.type "type")) = true then subIn K (.ref C) (.ref B) else none) = some true
      rw [if_pos e]
      exact sBd
  · unfold kitOne
    split
    · rfl
    · show (if PySem.W.kitMeta "Exception" = true then subIn K (.ref C) (.type "Exception") else none) = some true
      rw [if_pos kE]
      exact sB
theorem mk_c1 {P : Program} {K : PySem.W.Frag} {h : Heap} {mg : Str → Option Value} {x p qual : Str} (X : K.In h) (G : h.Ns mainGlobals mg)
  {B C f cc cda : Addr} {oc cl ccl : Value} {od cld cdd : Option Addr} {kV doc pm ct : Value} {an : Option Addr} {osl csl ccs : Array (Option Value)} {vs : Array Value} {fl : Str} {tf : Tok} {u1 u2 p0 p1 p2 q1 p3 p4 q2 q3 q4 q5 : Pos}
  (aC : nsIn K mainGlobals x = some (some (.ref C)))
  (q : excInitIn K C exTl "Exception.__new__" = true) (over : excOver K C exTl = true) (hd : hasDictIn K C = true) (sa : findIn K (.ref C) "__setattr__" = some (some (.builtin "object.__setattr__")))
  (sB : subIn K (.ref C) (.type "Exception") = some true) (sBB : subIn K (.ref C) (.type "BaseException") = some true) (sC : mroIn K C (.ref C) = some true) (ty : typeIn K (.ref C) = some (.type "type")) (kp : keepIn K (.ref C) = true)
  (ga : findIn K (.ref C) "__getattribute__" = some (some (.builtin "BaseException.__getattribute__"))) (gg : findIn K (.ref C) "__getattr__" = some none)
  (sup : ks_superIn K C C "__init__" = some (some (.builtin "Exception.__init__"))) (nt : nsIn K cStatics "thirdparty.any" = some none)
  (init : findIn K (.ref C) "__init__" = some (some (.ref f))) (tyf : typeIn K (.ref f) = some (.type "function"))
  (l : K.lookup f = some ⟨oc, od, .func (ksFn "__init__" qual (a1 p u1 u2) (b1 p p0 p1 p2 q1 p3 p4 q2 q3 q4 q5) (s1 p) .none kV doc pm an (.ref cda) ct cc), osl⟩)
  (cd : codeIn K (.ref cda) qual = true) (cell : K.lookup cc = some ⟨cl, cld, .cell (some (.ref C)), csl⟩) (file : K.lookup cda = some ⟨ccl, cdd, .fields vs, ccs⟩) (hvs : vs[2]? = some (.str fl tf)) (hfl : (P.main.file == fl) = true)
  (top : (P.main.scope.names.lookup ("super" : Str)).isSome = false) (zs : nsIn K mainGlobals "super" = some none) (tk : takerIn K C p = some none) (no : findIn K (.ref C) p = some none)
  (sBd : subIn K (.ref C) (.ref B) = some true) (iBd : hasDictIn K B = true) (tB : typeIn K (.ref B) = some (.type "type")) (kE : PySem.W.kitMeta "Exception" = true)
  (hac : findIn K (.ref C) "__class__" = some (some (.builtin "object.__class__"))) (hnc : specialIn K (.builtin "object.__class__") "__get__" = some (some (.builtin "getset_descriptor.__get__"))) (htc : takesIn K (.builtin "object.__class__") = some true) (hmo : mroIn K C (.type "object") = some true)
  (bkw : ∀ (kV doc pm : Value) (an : Option Addr) (ct : Value) (v1 v2 : Value), bindArgs (ksFn "__init__" qual (a1 p u1 u2) (b1 p p0 p1 p2 q1 p3 p4 q2 q3 q4 q5) (s1 p) .none kV doc pm an (.ref cda) ct cc) ⟨[v1], [(p, v2)]⟩ = pure [(("self" : Str), v1), (p, v2)])
  (bps : ∀ (kV doc pm : Value) (an : Option Addr) (ct : Value) (v1 v2 : Value), bindArgs (ksFn "__init__" qual (a1 p u1 u2) (b1 p p0 p1 p2 q1 p3 p4 q2 q3 q4 q5) (s1 p) .none kV doc pm an (.ref cda) ct cc) ⟨[v1, v2], []⟩ = pure [(("self" : Str), v1), (p, v2)])
  (hme : ∀ env : Env, ∃ pl, eval (.Call (.Attribute (.Call (.Name "super" p0) [] [] p1) "__init__" p2) [.Name p q1] [] p3) env = (do
      let ov ← attributeBase (.Call (.Name "super" p0) [] [] p1) "__init__" env (eval (.Call (.Name "super" p0) [] [] p1) env)
      standAt p2.atName
      let (fm, first) ← holding [ov] (getMethod ov "__init__" pl)
      callWith p3 fm first (backTo p3 (starEach [.Name p q1] env)) []))
  (d1 : p ≠ "self") (d2 : p ≠ "__class__") (d3 : p ≠ "super") (d4 : (p == ("__debug__" : Str)) = false) :
  ∃ C, ∀ (w : World) (base : Heap), Mod K mg base → Cl1 P w K mg base B x p C := by
  have iB := isSome_of iBd
  have T : XCls K C := ⟨q, over, hd, sa, sB, sBB, sC, ty, kp, ga, gg, sup, nt⟩
  have F : XFn K mg P C f qual (a1 p u1 u2) (b1 p p0 p1 p2 q1 p3 p4 q2 q3 q4 q5) (s1 p) cda cc := ⟨⟨_, _, _, _, _, _, _, _, l⟩, cd, ⟨_, _, _, cell⟩, ⟨_, _, _, _, _, _, file, hvs, hfl⟩, top, PySem.W.mg_none_of X G zs, init, tyf⟩
  refine ⟨C, fun w base M => ⟨PySem.W.mg_of X G aC, T, ⟨f, init, tyf, fun u A s x t0 R hroom hk hxb hx hR => ?_, fun u A s x t0 R hroom hk hxb hx hR => ?_⟩, no, mk_good T sBd iB tB kE hac hnc htc hmo⟩⟩
  · exact init1 T F M hk tk hroom (fun kV doc pm an ct => .of_eq (bps kV doc pm an ct _ _)) hx hxb hR hme d1 d2 d3 d4
  · exact init1 T F M hk tk hroom (fun kV doc pm an ct => .of_eq (bkw kV doc pm an ct _ _)) hx hxb hR hme d1 d2 d3 d4
theorem mk_c2 {P : Program} {K : PySem.W.Frag} {h : Heap} {mg : Str → Option Value} {x qual : Str} (X : K.In h) (G : h.Ns mainGlobals mg)
  {B C f cc cda : Addr} {oc cl ccl : Value} {od cld cdd : Option Addr} {kV doc pm ct : Value} {an : Option Addr} {osl csl ccs : Array (Option Value)} {vs : Array Value} {fl : Str} {tf : Tok} {u1 u2 u3 p0 p1 p2 q1 q1' p3 p4 q2 q3 q4 q5 q6 q7 q8 q9 : Pos}
  (aC : nsIn K mainGlobals x = some (some (.ref C)))
  (q : excInitIn K C exTl "Exception.__new__" = true) (over : excOver K C exTl = true) (hd : hasDictIn K C = true) (sa : findIn K (.ref C) "__setattr__" = some (some (.builtin "object.__setattr__")))
  (sB : subIn K (.ref C) (.type "Exception") = some true) (sBB : subIn K (.ref C) (.type "BaseException") = some true) (sC : mroIn K C (.ref C) = some true) (ty : typeIn K (.ref C) = some (.type "type")) (kp : keepIn K (.ref C) = true)
  (ga : findIn K (.ref C) "__getattribute__" = some (some (.builtin "BaseException.__getattribute__"))) (gg : findIn K (.ref C) "__getattr__" = some none)
  (sup : ks_superIn K C C "__init__" = some (some (.builtin "Exception.__init__"))) (nt : nsIn K cStatics "thirdparty.any" = some none)
  (init : findIn K (.ref C) "__init__" = some (some (.ref f))) (tyf : typeIn K (.ref f) = some (.type "function"))
  (l : K.lookup f = some ⟨oc, od, .func (ksFn "__init__" qual (a2 u1 u2 u3) (b2 p0 p1 p2 q1 q1' p3 p4 q2 q3 q4 q5 q6 q7 q8 q9) s2 .none kV doc pm an (.ref cda) ct cc), osl⟩)
  (cd : codeIn K (.ref cda) qual = true) (cell : K.lookup cc = some ⟨cl, cld, .cell (some (.ref C)), csl⟩) (file : K.lookup cda = some ⟨ccl, cdd, .fields vs, ccs⟩) (hvs : vs[2]? = some (.str fl tf)) (hfl : (P.main.file == fl) = true)
  (top : (P.main.scope.names.lookup ("super" : Str)).isSome = false) (zs : nsIn K mainGlobals "super" = some none) (tk : takerIn K C "row" = some none) (tk2 : takerIn K C "word" = some none) (no : findIn K (.ref C) "row" = some none) (no2 : findIn K (.ref C) "word" = some none)
  (sBd : subIn K (.ref C) (.ref B) = some true) (iBd : hasDictIn K B = true) (tB : typeIn K (.ref B) = some (.type "type")) (kE : PySem.W.kitMeta "Exception" = true)
  (hac : findIn K (.ref C) "__class__" = some (some (.builtin "object.__class__"))) (hnc : specialIn K (.builtin "object.__class__") "__get__" = some (some (.builtin "getset_descriptor.__get__"))) (htc : takesIn K (.builtin "object.__class__") = some true) (hmo : mroIn K C (.type "object") = some true)
  (bkw : ∀ (kV doc pm : Value) (an : Option Addr) (ct : Value) (v1 v2 v3 : Value), bindArgs (ksFn "__init__" qual (a2 u1 u2 u3) (b2 p0 p1 p2 q1 q1' p3 p4 q2 q3 q4 q5 q6 q7 q8 q9) s2 .none kV doc pm an (.ref cda) ct cc) ⟨[v1], [("word", v3), ("row", v2)]⟩ = pure [(("self" : Str), v1), (("row" : Str), v2), (("word" : Str), v3)])
  (hme : ∀ env : Env, ∃ pl, eval (.Call (.Attribute (.Call (.Name "super" p0) [] [] p1) "__init__" p2) [.Name "row" q1, .Name "word" q1'] [] p3) env = (do
      let ov ← attributeBase (.Call (.Name "super" p0) [] [] p1) "__init__" env (eval (.Call (.Name "super" p0) [] [] p1) env)
      standAt p2.atName
      let (fm, first) ← holding [ov] (getMethod ov "__init__" pl)
      callWith p3 fm first (backTo p3 (starEach [.Name "row" q1, .Name "word" q1'] env)) [])) :
  ∃ C, ∀ (w : World) (base : Heap), Mod K mg base → Cl2 P w K mg base B x C := by
  have iB := isSome_of iBd
  have T : XCls K C := ⟨q, over, hd, sa, sB, sBB, sC, ty, kp, ga, gg, sup, nt⟩
  have F : XFn K mg P C f qual (a2 u1 u2 u3) (b2 p0 p1 p2 q1 q1' p3 p4 q2 q3 q4 q5 q6 q7 q8 q9) s2 cda cc := ⟨⟨_, _, _, _, _, _, _, _, l⟩, cd, ⟨_, _, _, cell⟩, ⟨_, _, _, _, _, _, file, hvs, hfl⟩, top, PySem.W.mg_none_of X G zs, init, tyf⟩
  refine ⟨C, fun w base M => ⟨PySem.W.mg_of X G aC, T, ⟨f, init, tyf, fun u z A s x t0 R hroom hk hxb hx hR => ?_, fun z u A s x t0 R hroom hk hxb hx hR => ?_⟩, no, no2, mk_good T sBd iB tB kE hac hnc htc hmo⟩⟩
  · exact init2 T F M hk tk tk2 hroom (fun kV doc pm an ct => .of_eq rfl) hx hxb hR hme
  · exact init2 T F M hk tk tk2 hroom (fun kV doc pm an ct => .of_eq (bkw kV doc pm an ct _ _ _)) hx hxb hR hme
end K01
end

section
/-! _law_do_store -/
namespace K01
open PySem PySem.Spec PyProof.Rows L2 BX GX
open Evl (Ex ex_l)
open PySem.W (findIn kitOne)
abbrev NS : List Str := ["kit", "crate", "nail", "plain", "named", "reads", "bars", "deeds", "stored", "every", "e"]
theorem scStore : FnScope NS ["kit"] (defScope sStore) := ⟨rfl, rfl, rfl, by decide +kernel, rfl, by decide +kernel, by decide +kernel⟩
def spStore : Sp := fun vs H Q _ => ∃ (d : Addr) (z t : Int), vs = [.ref d] ∧ KitAt H d z t ∧ 0 ≤ z ∧ z < Top ∧ 0 ≤ t ∧ ∀ H', KeepX d H H' → Q (.bl true) H'
theorem pe_xatK {X : Cx} {K : PySem.W.Frag} {e : Expr} {te : TE} {pos : Pos} {f : Str} (hK : X.K = K) (he : PE X e te) (hb : attributeBase e f X.env (eval e X.env) = eval e X.env := by rfl) : PE X (.Attribute e f pos) (tXat K f te) := by
  subst hK
  exact pe_xat he hb
def rIsX (K : PySem.W.Frag) : List V → Hp → VK → Prop := fun xs H Q => ∃ (a C : Addr) (dd : Option Addr) (c : V) (cv : Value) (b : Bool), xs = [.ref a, c] ∧ H a = some (exo a C dd) ∧ (∀ dx, dd = some dx → ∃ fs, H dx = some (exd dx fs)) ∧ ExcC K C ∧ ClsV c cv ∧ kitOne K (.ref C) cv = some b ∧ Q (.bl b) H
theorem call_isXK {X : Cx} {K : PySem.W.Frag} (hK : X.K = K) : CallR X (.builtin "isinstance") (rIsX K) := by
  subst hK
  exact call_isX
/-! ### what stands in the heap -/
def XAt (H : Hp) (C : Addr) (fs : List (Str × V)) (u : V) : Prop := ∃ e dx, u = .ref e ∧ H e = some (exo e C (some dx)) ∧ H dx = some (exd dx fs)
structure Good1 (K : PySem.W.Frag) (B : Addr) (p : Str) (C : Addr) : Prop where
  T : XCls K C
  no : findIn K (.ref C) p = some none
  g : GoodI K B C
def XG (K : PySem.W.Frag) (B : Addr) (H : Hp) (p : Str) (v u : V) : Prop := ∃ C, Good1 K B p C ∧ XAt H C [(p, v)] u
def XL (K : PySem.W.Frag) (B : Addr) (H : Hp) (l : Addr) (p : Str) (v : V) (n : Nat) : Prop := ∃ us, H l = some (.lst us) ∧ us.length = n ∧ ∀ u ∈ us, XG K B H p v u
theorem XAt.ex {H H' : Hp} {C : Addr} {fs : List (Str × V)} {u : V} (x : Ex H H') (h : XAt H C fs u) : XAt H' C fs u := let ⟨e, dx, h1, h2, h3⟩ := h; ⟨e, dx, h1, x _ _ h2, x _ _ h3⟩
theorem XG.ex {K : PySem.W.Frag} {B : Addr} {H H' : Hp} {p : Str} {v u : V} (x : Ex H H') (h : XG K B H p v u) : XG K B H' p v u := let ⟨C, g, a⟩ := h; ⟨C, g, a.ex x⟩
theorem XL.ex {K : PySem.W.Frag} {B : Addr} {H H' : Hp} {l : Addr} {p : Str} {v : V} {n : Nat} (x : Ex H H') (h : XL K B H l p v n) : XL K B H' l p v n := let ⟨us, h1, h2, h3⟩ := h; ⟨us, x _ _ h1, h2, fun u hu => (h3 u hu).ex x⟩
/-- all is kept but at c and d -/
def Kp2 (c d : Addr) (H H' : Hp) : Prop := ∀ a o, a ≠ c → a ≠ d → H a = some o → H' a = some o
theorem XAt.kp {H H' : Hp} {c d C : Addr} {fs cv : List (Str × V)} {kv : List (Key × V)} {xs : List V} {u : V} (x : Kp2 c d H H') (hc : H c = some (.lst xs)) (hd : H d = some (.dK kv)) (h : XAt H C fs u) : XAt H' C fs u := by
  obtain ⟨e, dx, h1, h2, h3⟩ := h
  refine ⟨e, dx, h1, x _ _ (ne_of h2 hc (by intro z; cases z)) (ne_of h2 hd (by intro z; cases z)) h2, x _ _ (ne_of h3 hc (by intro z; cases z)) (ne_of h3 hd (by intro z; cases z)) h3⟩
theorem XG.kp {K : PySem.W.Frag} {B : Addr} {H H' : Hp} {c d : Addr} {p : Str} {kv : List (Key × V)} {xs : List V} {v u : V} (x : Kp2 c d H H') (hc : H c = some (.lst xs)) (hd : H d = some (.dK kv)) (h : XG K B H p v u) : XG K B H' p v u := let ⟨C, g, a⟩ := h; ⟨C, g, a.kp (cv := []) x hc hd⟩
theorem XL.kp {K : PySem.W.Frag} {B : Addr} {H H' : Hp} {c d l : Addr} {p : Str} {kv : List (Key × V)} {xs : List V} {v : V} {n : Nat} (x : Kp2 c d H H') (hc : H c = some (.lst xs)) (hd : H d = some (.dK kv)) (nc : l ≠ c) (h : XL K B H l p v n) : XL K B H' l p v n := by
  obtain ⟨us, h1, h2, h3⟩ := h
  exact ⟨us, x _ _ nc (ne_of h1 hd (by intro z; cases z)) h1, h2, fun u hu => (h3 u hu).kp x hc hd⟩
/-! ### making -/
theorem mkH {H : Hp} {e dx C : Addr} {fs : List (Str × V)} (he : H e = none) (hd : H dx = none) (ne : dx ≠ e) : Ex H (upd (upd H dx (exd dx fs)) e (exo e C (some dx))) ∧ XAt (upd (upd H dx (exd dx fs)) e (exo e C (some dx))) C fs (.ref e) := by
  refine ⟨fun a o q => ?_, e, dx, rfl, upd_same, ?_⟩
  · rw [upd_ne (ne_of_none q he), upd_ne (ne_of_none q hd)]
    exact q
  · rw [upd_ne ne]
    exact upd_same
theorem mk_r {H : Hp} {C : Addr} {fs : List (Str × V)} {Q : VK} (h : ∀ u H', Ex H H' → XAt H' C fs u → Q u H') : ∀ e dx, H e = none → H dx = none → dx ≠ e → Q (.ref e) (upd (upd H dx (exd dx fs)) e (exo e C (some dx))) :=
  fun e dx he hd ne => h _ _ (mkH he hd ne).1 (mkH he hd ne).2
theorem ex_no {H H' : Hp} {d : Addr} (e : Ex H H') (h : H' d = none) : H d = none := by
  cases q : H d with
  | none => rfl
  | some o => rw [e d o q] at h; cases h
/-- a row of calls C(v), each of another class -/
def LA (K : PySem.W.Frag) (B : Addr) (t : TA) (σ : L2.St) (p : Str) (v : V) (n : Nat) : Prop := ∀ (H : Hp) (Q : List V → Hp → Prop), (∀ us H2, Ex H H2 → us.length = n → (∀ u ∈ us, XG K B H2 p v u) → Q us H2) → t σ H Q
theorem la_nil {K : PySem.W.Frag} {B : Addr} {σ : L2.St} {p : Str} {v : V} : LA K B tNil σ p v 0 := fun H Q h => h [] H (Ex.refl H) rfl fun u hu => absurd hu (by simp)
theorem la_cons {K : PySem.W.Frag} {B C : Addr} {σ : L2.St} {p : Str} {v : V} {i n : Nat} {t : TA} (hi : σ[i]? = some (some v)) (g : Good1 K B p C) (ht : LA K B t σ p v n) : LA K B (tCons (tMk1 C p (tVar i)) t) σ p v (n + 1) := by
  intro H Q h
  refine ⟨v, hi, fun e dx he hd ne => ?_⟩
  refine ht _ _ fun us H2 e2 l2 a2 => h _ _ ((mkH he hd ne).1.trans e2) (by rw [List.length_cons, l2]) fun y hy => ?_
  rcases List.mem_cons.mp hy with rfl | hy
  · exact ⟨C, g, (mkH he hd ne).2.ex e2⟩
  · exact a2 y hy
theorem good_of {P : Program} {w : World} {K : PySem.W.Frag} {mg : Str → Option Value} {base : Heap} {B C : Addr} {x p : Str} (c : Cl1 P w K mg base B x p C) : Good1 K B p C := ⟨c.T, c.no, c.g⟩
theorem len_small {n : Nat} (h : n ≤ 1000) : n ≤ sizeLine := Nat.le_of_lt (small1000 h)
/-! ### the nail -/
def SV (vs : List V) (ds : List PyData) : Prop := ∀ (K : PySem.W.Frag) (H : Hp), DpAll K H vs ds
inductive NV (c kd : Addr) (H : Hp) : V → PyData → Prop
  | non : NV c kd H .non .none
  | bl (b : Bool) : NV c kd H (.bl b) (.bool b)
  | int (i : Int) : NV c kd H (.int i) (.int i)
  | str (x : Str) : NV c kd H (.str x) (.str x)
  | tup {a : Addr} {xs : List V} {ds : List PyData} : a ≠ c → a ≠ kd → H a = some (.tup xs) → SV xs ds → PyData.hasDictAll ds = false → NV c kd H (.ref a) (.tuple ds)
  | lst {a : Addr} {xs : List V} {ds : List PyData} : a ≠ c → a ≠ kd → H a = some (.lst xs) → SV xs ds → PyData.hasDictAll ds = false → NV c kd H (.ref a) (.list ds)
  | dN {a : Addr} : a ≠ c → a ≠ kd → H a = some (.dK [(Sum.inr ("n" : Str), .int 0)]) → NV c kd H (.ref a) dN
theorem NV.kp {c kd : Addr} {H H' : Hp} {v : V} {d : PyData} (x : Kp2 c kd H H') (h : NV c kd H v d) : NV c kd H' v d := by
  cases h with
  | non => exact .non
  | bl b => exact .bl b
  | int b => exact .int b
  | str b => exact .str b
  | tup n1 n2 e s q => exact .tup n1 n2 (x _ _ n1 n2 e) s q
  | lst n1 n2 e s q => exact .lst n1 n2 (x _ _ n1 n2 e) s q
  | dN n1 n2 e => exact .dN n1 n2 (x _ _ n1 n2 e)
theorem NV.nail {K : PySem.W.Frag} {c kd : Addr} {H : Hp} {v : V} {d : PyData} (h : NV c kd H v d) : Nail K H v d := by
  cases h with
  | non => exact .inl ⟨.non, rfl⟩
  | bl b => exact .inl ⟨.bl b, rfl⟩
  | int b => exact .inl ⟨.int b, rfl⟩
  | str b => exact .inl ⟨.str b, rfl⟩
  | tup n1 n2 e s q => exact .inl ⟨.tup (SqT.of e) (s K H), by unfold PyData.hasDict; exact q⟩
  | lst n1 n2 e s q => exact .inl ⟨.lst (SqL.of e) (s K H), by unfold PyData.hasDict; exact q⟩
  | dN n1 n2 e => exact .inr ⟨_, rfl, e, rfl⟩
theorem Ex.kp {c d : Addr} {H H' : Hp} (x : Ex H H') : Kp2 c d H H' := fun a o _ _ e => x a o e
theorem Kp2.trans {c d : Addr} {H H1 H2 : Hp} (x : Kp2 c d H H1) (y : Kp2 c d H1 H2) : Kp2 c d H H2 := fun a o n1 n2 e => y a o n1 n2 (x a o n1 n2 e)
theorem fit_of {n : Nat} {d : PyData} (h1 : (PyData.list (List.replicate n d)).showable = true) (h2 : (PyData.list (List.replicate n d)).depth ≤ 60) (h3 : (PyData.list (List.replicate n d)).shown.length ≤ 16777216) : FitN n d := ⟨h1, h2, by rw [sizeLine_eq]; exact h3⟩
theorem fit_crate {r : Int} (h0 : 0 ≤ r) (h1 : r < 30) : FitN 14 (.list [.int r]) := by
  obtain ⟨m, rfl⟩ := Int.eq_ofNat_of_zero_le h0
  have hm : m < 30 := by omega
  have h : ∀ m : Fin 30, (PyData.list (List.replicate 14 (.list [.int ((m.val : Nat) : Int)]))).showable = true ∧ (PyData.list (List.replicate 14 (.list [.int ((m.val : Nat) : Int)]))).depth ≤ 60 ∧ (PyData.list (List.replicate 14 (.list [.int ((m.val : Nat) : Int)]))).shown.length ≤ 16777216 := by decide +kernel
  obtain ⟨a, b, c⟩ := h ⟨m, hm⟩
  exact fit_of a b c
theorem sv_nil : SV [] [] := fun _ _ => .nil
theorem sv_str (x y : Str) : SV [.str x, .str y] [.str x, .str y] := fun _ _ => .cons (.str _) (.cons (.str _) .nil)
theorem sv_int (i : Int) : SV [.int i] [.int i] := fun _ _ => .cons (.int _) .nil
/-- the ten nails -/
theorem nails {c kd a1 a2 q a3 : Addr} {H : Hp} {r : Nat} {v : V} (n1 : a1 ≠ c ∧ a1 ≠ kd) (n2 : a2 ≠ c ∧ a2 ≠ kd) (n3 : q ≠ c ∧ q ≠ kd) (n4 : a3 ≠ c ∧ a3 ≠ kd) (h1 : H a1 = some (.tup [])) (h2 : H a2 = some (.tup [.str "name", .str "x"])) (h3 : H q = some (.dK [(Sum.inr ("n" : Str), .int 0)])) (h4 : H a3 = some (.lst [.int 3]))
    (hv : [V.non, .int 13, .str "made", .ref a1, .ref a2, .ref q, .bl true, .int (-7), .int (10 ^ 22), .ref a3][r]? = some v) : ∃ dn, NV c kd H v dn ∧ FitN 14 dn := by
  match r, hv with
  | 0, hv => cases hv; exact ⟨_, .non, fit_of (by decide +kernel) (by decide +kernel) (by decide +kernel)⟩
  | 1, hv => cases hv; exact ⟨_, .int _, fit_of (by decide +kernel) (by decide +kernel) (by decide +kernel)⟩
  | 2, hv => cases hv; exact ⟨_, .str _, fit_of (by decide +kernel) (by decide +kernel) (by decide +kernel)⟩
  | 3, hv => cases hv; exact ⟨_, .tup n1.1 n1.2 h1 sv_nil (by decide +kernel), fit_of (by decide +kernel) (by decide +kernel) (by decide +kernel)⟩
  | 4, hv => cases hv; exact ⟨_, .tup n2.1 n2.2 h2 (sv_str _ _) (by decide +kernel), fit_of (by decide +kernel) (by decide +kernel) (by decide +kernel)⟩
  | 5, hv => cases hv; exact ⟨_, .dN n3.1 n3.2 h3, fit_of (by decide +kernel) (by decide +kernel) (by decide +kernel)⟩
  | 6, hv => cases hv; exact ⟨_, .bl _, fit_of (by decide +kernel) (by decide +kernel) (by decide +kernel)⟩
  | 7, hv => cases hv; exact ⟨_, .int _, fit_of (by decide +kernel) (by decide +kernel) (by decide +kernel)⟩
  | 8, hv => cases hv; exact ⟨_, .int _, fit_of (by decide +kernel) (by decide +kernel) (by decide +kernel)⟩
  | 9, hv => cases hv; exact ⟨_, .lst n4.1 n4.2 h4 (sv_int _) (by decide +kernel), fit_of (by decide +kernel) (by decide +kernel) (by decide +kernel)⟩
  | n + 10, hv => simp at hv
theorem lst_r {K : PySem.W.Frag} {B : Addr} {H : Hp} {Q : VK} {t : TA} {σ : L2.St} {p : Str} {v : V} {m : Nat} (ht : LA K B t σ p v m) (hb : m ≤ 1000) (h : ∀ l H', Ex H H' → H l = none → XL K B H' l p v m → Q (.ref l) H') : tLst t σ H Q :=
  ht H _ fun us H2 e2 l2 g2 => ⟨len_small (by omega), fun l hl => h l _ (e2.trans (Ex.new hl)) (ex_no e2 hl) ⟨us, upd_same, l2, fun u hu => (g2 u hu).ex (Ex.new hl)⟩⟩
theorem cat_r {K : PySem.W.Frag} {B : Addr} {H : Hp} {Q : VK} {t : TA} {σ : L2.St} {p : Str} {v : V} {lp : Addr} {i n m : Nat} (hσ : σ[i]? = some (some (.ref lp))) (hl : XL K B H lp p v n) (ht : LA K B t σ p v m) (hb : n + m ≤ 1000)
    (h : ∀ l H', Ex H H' → H l = none → XL K B H' l p v (n + m) → Q (.ref l) H') : tOp rCat (tVar i) (tLst t) σ H Q := by
  obtain ⟨us, h1, h2, h3⟩ := hl
  refine ⟨_, hσ, ht H _ fun us2 H2 e2 l2 g2 => ⟨len_small (by omega), fun p2 hp2 => ⟨lp, p2, us, us2, rfl, rfl, Ex.new hp2 lp _ (e2 _ _ h1), upd_same, len_small (by omega), fun l hl => ?_⟩⟩⟩
  have e3 := (Ex.new (o := .lst us2) hp2)
  have e4 := (Ex.new (o := .lst (us ++ us2)) hl)
  refine h l _ (e2.trans (e3.trans e4)) (ex_no (e2.trans e3) hl) ⟨us ++ us2, upd_same, by rw [List.length_append]; omega, fun u hu => ?_⟩
  rcases List.mem_append.mp hu with z | z
  · exact (h3 u z).ex (e2.trans (e3.trans e4))
  · exact (g2 u z).ex (e3.trans e4)
/-- [e.given for e in ..] -/
theorem given_r {K : PySem.W.Frag} {B : Addr} {H : Hp} {Q : VK} {v : V} {l : Addr} {i n : Nat} {s0 s1 s2 s3 s4 s5 s6 s7 s8 s9 s10 : Option V} (hi : [s0, s1, s2, s3, s4, s5, s6, s7, s8, s9, s10][i]? = some (some (.ref l))) (hl : XL K B H l "given" v n) (hn : n ≤ 1000)
    (h : ∀ D, H D = none → Q (.ref D) (upd H D (.lst (List.replicate n v)))) : tLc (iList K (tVar i)) (gName 10) tYes (tXat K "given" (tVar 10)) [10] [s0, s1, s2, s3, s4, s5, s6, s7, s8, s9, s10] H Q := by
  obtain ⟨us, h1, h2, h3⟩ := hl
  refine ⟨_, hi, l, rfl, ⟨_, SqL.of h1⟩, fun D hD => ?_⟩
  have eD : ∀ xs, Ex H (upd H D (.lst xs)) := fun xs => Ex.new hD
  refine lc_it (walk_list (xs := us)) (fun j H3 => H3 = upd H D (.lst (List.replicate j v))) rfl ?_ ?_ ?_
  · rintro j H3 _ rfl
    exact SqL.of (eD _ _ _ h1)
  · rintro j x H3 H4 hj rfl ⟨rfl, e1⟩
    obtain ⟨C, g, e, dx, rfl, q1, q2⟩ := h3 x (List.mem_of_getElem? e1)
    refine ⟨rfl, ?_⟩
    dsimp only [tYes]
    rw [if_pos rfl]
    refine ⟨_, rfl, e, C, dx, _, v, rfl, g.T, g.no, eD _ _ _ q1, eD _ _ _ q2, rfl, ?_⟩
    refine ⟨_, upd_same, ?_, ?_⟩
    · rw [List.length_replicate]
      exact small1000 (by omega)
    · rw [upd_upd, ← List.replicate_succ']
  · rintro H3 rfl
    rw [h2]
    exact h D hD
theorem sq_lst {K : PySem.W.Frag} {B : Addr} {H : Hp} {t : TA} {u : TS} {D : Ends} {σ : L2.St} {p : Str} {v : V} {i m : Nat} (ht : LA K B t σ p v m) (hb : m ≤ 1000) (h : ∀ l H', Ex H H' → H l = none → XL K B H' l p v m → u D (σ.set i (some (.ref l))) H') : tSeq (tAsg (tLst t) (gName i)) u D σ H :=
  lst_r (Q := fun x H1 => gName i x σ H1 (u D)) ht hb h
theorem sq_cat {K : PySem.W.Frag} {B : Addr} {H : Hp} {t : TA} {us : TS} {D : Ends} {σ : L2.St} {p : Str} {v : V} {lp : Addr} {i n m : Nat} (hσ : σ[i]? = some (some (.ref lp))) (hl : XL K B H lp p v n) (ht : LA K B t σ p v m) (hb : n + m ≤ 1000)
    (h : ∀ l H', Ex H H' → H l = none → XL K B H' l p v (n + m) → us D (σ.set i (some (.ref l))) H') : tSeq (tAsg (tOp rCat (tVar i) (tLst t)) (gName i)) us D σ H :=
  cat_r (Q := fun x H1 => gName i x σ H1 (us D)) hσ hl ht hb h
theorem two_r {K : PySem.W.Frag} {B C : Addr} {H : Hp} {Q : VK} {σ : L2.St} {p : Str} {v z : V} {i j : Nat} (hi : σ[i]? = some (some v)) (hj : σ[j]? = some (some z)) (g : Good1 K B p C)
    (h : ∀ l H' u1 u2, Ex H H' → H l = none → H' l = some (.lst [u1, u2]) → XG K B H' p v u1 → XG K B H' p z u2 → Q (.ref l) H') : tLst (tCons (tMk1 C p (tVar i)) (tCons (tMk1 C p (tVar j)) tNil)) σ H Q := by
  refine ⟨_, hi, fun e1 f1 he1 hf1 ne1 => ⟨_, hj, fun e2 f2 he2 hf2 ne2 => ⟨len_small (by show 2 ≤ 1000; decide), fun l hl => ?_⟩⟩⟩
  obtain ⟨x1, a1⟩ := mkH (C := C) (fs := [(p, v)]) he1 hf1 ne1
  obtain ⟨x2, a2⟩ := mkH (C := C) (fs := [(p, z)]) he2 hf2 ne2
  have x3 := Ex.new (o := .lst [.ref e1, .ref e2]) hl
  exact h l _ _ _ (x1.trans (x2.trans x3)) (ex_no (x1.trans x2) hl) upd_same ⟨C, g, a1.ex (x2.trans x3)⟩ ⟨C, g, a2.ex x3⟩
theorem rows_r {C : Addr} {H : Hp} {Q : VK} {σ : L2.St} {v z : V} {i j : Nat} (hi : σ[i]? = some (some v)) (hj : σ[j]? = some (some z))
    (h : ∀ l H' u1 u2, Ex H H' → H l = none → H' l = some (.lst [u1, u2]) → XAt H' C [("word", z), ("row", v)] u1 → XAt H' C [("word", v), ("row", z)] u2 → Q (.ref l) H') :
    tLst (tCons (tMk2 C "row" "word" (tVar i) (tVar j)) (tCons (tMk2r C "row" "word" (tVar i) (tVar j)) tNil)) σ H Q := by
  refine ⟨_, hi, _, hj, fun e1 f1 he1 hf1 ne1 => ⟨_, hi, _, hj, fun e2 f2 he2 hf2 ne2 => ⟨len_small (by show 2 ≤ 1000; decide), fun l hl => ?_⟩⟩⟩
  obtain ⟨x1, a1⟩ := mkH (C := C) (fs := [("word", z), ("row", v)]) he1 hf1 ne1
  obtain ⟨x2, a2⟩ := mkH (C := C) (fs := [("word", v), ("row", z)]) he2 hf2 ne2
  have x3 := Ex.new (o := .lst [.ref e1, .ref e2]) hl
  exact h l _ _ _ (x1.trans (x2.trans x3)) (ex_no (x1.trans x2) hl) upd_same (a1.ex (x2.trans x3)) (a2.ex x3)
theorem sq_two {K : PySem.W.Frag} {B C : Addr} {H : Hp} {us : TS} {D : Ends} {σ : L2.St} {p : Str} {v z : V} {i j n : Nat} (hi : σ[i]? = some (some v)) (hj : σ[j]? = some (some z)) (g : Good1 K B p C)
    (h : ∀ l H' u1 u2, Ex H H' → H l = none → H' l = some (.lst [u1, u2]) → XG K B H' p v u1 → XG K B H' p z u2 → us D (σ.set n (some (.ref l))) H') : tSeq (tAsg (tLst (tCons (tMk1 C p (tVar i)) (tCons (tMk1 C p (tVar j)) tNil))) (gName n)) us D σ H :=
  two_r (Q := fun x H1 => gName n x σ H1 (us D)) hi hj g h
theorem sq_rows {K : PySem.W.Frag} {B C Cb : Addr} {H : Hp} {us : TS} {D : Ends} {σ : L2.St} {p : Str} {v z : V} {i j n m : Nat} (hi : σ[i]? = some (some v)) (hj : σ[j]? = some (some z)) (g : Good1 K B p Cb)
    (h : ∀ l lb H' u1 u2 u3 u4, Ex H H' → H l = none → H lb = none → H' l = some (.lst [u1, u2]) → XAt H' C [("word", z), ("row", v)] u1 → XAt H' C [("word", v), ("row", z)] u2 → H' lb = some (.lst [u3, u4]) → XG K B H' p v u3 → XG K B H' p z u4 → us D ((σ.set n (some (.ref l))).set m (some (.ref lb))) H') :
    tSeq (tPar n m (tCons (tLst (tCons (tMk2 C "row" "word" (tVar i) (tVar j)) (tCons (tMk2r C "row" "word" (tVar i) (tVar j)) tNil))) (tCons (tLst (tCons (tMk1 Cb p (tVar i)) (tCons (tMk1 Cb p (tVar j)) tNil))) tNil))) us D σ H :=
  rows_r (Q := fun x H1 => tCons (tLst (tCons (tMk1 Cb p (tVar i)) (tCons (tMk1 Cb p (tVar j)) tNil))) tNil σ H1 fun xs H2 => ∃ v w, x :: xs = [v, w] ∧ us D ((σ.set n (some v)).set m (some w)) H2) hi hj fun l H1 u1 u2 x1 n1 h1 a1 a2 =>
    two_r (Q := fun x2 H2 => ∃ v w, [V.ref l, x2] = [v, w] ∧ us D ((σ.set n (some v)).set m (some w)) H2) hi hj g fun lb H2 u3 u4 x2 n2 h2 a3 a4 => ⟨_, _, rfl, h l lb H2 u1 u2 u3 u4 (x1.trans x2) n1 (ex_no x1 n2) (x2 _ _ h1) (a1.ex x2) (a2.ex x2) h2 a3 a4⟩
theorem at_r {K : PySem.W.Frag} {C : Addr} {H : Hp} {Q : VK} {σ : L2.St} {us : List V} {u y : V} {f : Str} {fs : List (Str × V)} {l : Addr} {i : Nat} {j : Int} (hi : σ[i]? = some (some (.ref l))) (hl : H l = some (.lst us)) (hj : atI us j = some u) (T : XCls K C) (no : findIn K (.ref C) f = some none)
    (ha : XAt H C fs u) (hf : fs.lookup f = some y) (q : Q y H) : tXat K f (tOp (rIxL K) (tVar i) (tC (.int j))) σ H Q := by
  obtain ⟨e, dx, rfl, h1, h2⟩ := ha
  exact ⟨_, hi, l, us, j, _, rfl, rfl, SqL.of hl, hj, e, C, dx, fs, y, rfl, T, no, h1, h2, hf, q⟩
theorem sq_st {K : PySem.W.Frag} {B : Addr} {H : Hp} {t : TA} {us : TS} {D : Ends} {v : V} {l : Addr} {i n m : Nat} {s0 s1 s2 s3 s4 s5 s6 s7 s8 s9 s10 : Option V} (hi : [s0, s1, s2, s3, s4, s5, s6, s7, s8, s9, s10][i]? = some (some (.ref l))) (hl : XL K B H l "given" v n) (hn : n + m ≤ 1000)
    (ht : ∀ H1, Ex H H1 → ∀ Q' : List V → Hp → Prop, Q' (List.replicate m v) H1 → t [s0, s1, s2, s3, s4, s5, s6, s7, s8, s9, s10] H1 Q')
    (h : ∀ p H', Ex H H' → H p = none → p ≠ sysModules → H' p = some (.lst (List.replicate (n + m) v)) → us D [s0, s1, s2, s3, s4, s5, s6, s7, some (.ref p), s9, s10] H') :
    tSeq (tAsg (tOp rCatN (tLc (iList K (tVar i)) (gName 10) tYes (tXat K "given" (tVar 10)) [10]) (tLst t)) (gName 8)) us D [s0, s1, s2, s3, s4, s5, s6, s7, s8, s9, s10] H := by
  refine given_r (Q := fun x H1 => tLst t [s0, s1, s2, s3, s4, s5, s6, s7, s8, s9, s10] H1 fun y H2 => rCatN x y H2 fun z H3 => gName 8 z [s0, s1, s2, s3, s4, s5, s6, s7, s8, s9, s10] H3 (us D)) hi hl (by omega) fun D1 hD1 => ?_
  have x1 := Ex.new (o := .lst (List.replicate n v)) hD1
  refine ht _ x1 _ ⟨len_small (by rw [List.length_replicate]; omega), fun l2 hl2 => ?_⟩
  have x2 := Ex.new (o := .lst (List.replicate m v)) hl2
  refine ⟨D1, l2, _, _, rfl, rfl, x2 _ _ upd_same, upd_same, len_small (by rw [List.length_replicate, List.length_replicate]; omega), fun p hp ns => ?_⟩
  have x3 := Ex.new (o := .lst (List.replicate n v ++ List.replicate m v)) hp
  refine h p _ (x1.trans (x2.trans x3)) (ex_no (x1.trans x2) hp) ns ?_
  rw [upd_same, List.replicate_append_replicate]
/-- one of the exceptions, as isinstance asks -/
def XO (K : PySem.W.Frag) (B : Addr) (H : Hp) (u : V) : Prop := ∃ e C dd, u = .ref e ∧ H e = some (exo e C dd) ∧ (∀ dx, dd = some dx → ∃ fs, H dx = some (exd dx fs)) ∧ GoodI K B C
theorem XO.ex {K : PySem.W.Frag} {B : Addr} {H H' : Hp} {u : V} (x : Ex H H') (h : XO K B H u) : XO K B H' u := let ⟨e, C, dd, h1, h2, h3, h4⟩ := h; ⟨e, C, dd, h1, x _ _ h2, fun dx q => let ⟨fs, z⟩ := h3 dx q; ⟨fs, x _ _ z⟩, h4⟩
theorem XAt.xo {K : PySem.W.Frag} {B : Addr} {H : Hp} {C : Addr} {fs : List (Str × V)} {u : V} (g : GoodI K B C) (h : XAt H C fs u) : XO K B H u := let ⟨e, dx, h1, h2, h3⟩ := h; ⟨e, C, some dx, h1, h2, fun d q => by cases q; exact ⟨fs, h3⟩, g⟩
theorem XG.xo {K : PySem.W.Frag} {B : Addr} {H : Hp} {p : Str} {v u : V} (h : XG K B H p v u) : XO K B H u := let ⟨_, g, a⟩ := h; a.xo g.g
def XS (K : PySem.W.Frag) (B : Addr) (H : Hp) (l : Addr) (n : Nat) : Prop := ∃ us, H l = some (.lst us) ∧ us.length ≤ n ∧ ∀ u ∈ us, XO K B H u
theorem XS.ex {K : PySem.W.Frag} {B : Addr} {H H' : Hp} {l : Addr} {n : Nat} (x : Ex H H') (h : XS K B H l n) : XS K B H' l n := let ⟨us, h1, h2, h3⟩ := h; ⟨us, x _ _ h1, h2, fun u hu => (h3 u hu).ex x⟩
theorem XL.xs {K : PySem.W.Frag} {B : Addr} {H : Hp} {l : Addr} {p : Str} {v : V} {n : Nat} (h : XL K B H l p v n) : XS K B H l n := let ⟨us, h1, h2, h3⟩ := h; ⟨us, h1, Nat.le_of_eq h2, fun u hu => (h3 u hu).xo⟩
theorem xs_two {K : PySem.W.Frag} {B : Addr} {H : Hp} {l : Addr} {u1 u2 : V} (h : H l = some (.lst [u1, u2])) (a : XO K B H u1) (b : XO K B H u2) : XS K B H l 2 := ⟨_, h, Nat.le_refl _, fun u hu => by
  rcases List.mem_cons.mp hu with rfl | hu
  · exact a
  · rcases List.mem_cons.mp hu with rfl | hu
    · exact b
    · cases hu⟩
def VX (K : PySem.W.Frag) (B : Addr) (te : TE) (σ : L2.St) (H : Hp) (n : Nat) : Prop := ∀ Q : VK, (∀ l H', Ex H H' → XS K B H' l n → Q (.ref l) H') → te σ H Q
theorem vx_var {K : PySem.W.Frag} {B : Addr} {σ : L2.St} {H : Hp} {i n : Nat} {l : Addr} (hi : σ[i]? = some (some (.ref l))) (h : XS K B H l n) : VX K B (tVar i) σ H n := fun Q q => ⟨_, hi, q l H (Ex.refl H) h⟩
theorem vx_cat {K : PySem.W.Frag} {B : Addr} {ta tb : TE} {σ : L2.St} {H : Hp} {n m : Nat} (ha : VX K B ta σ H n) (hb : ∀ H', Ex H H' → VX K B tb σ H' m) (hz : n + m ≤ 1000) : VX K B (tOp rCat ta tb) σ H (n + m) := fun Q q =>
  ha _ fun l1 H1 x1 s1 => hb H1 x1 _ fun l2 H2 x2 s2 => by
    obtain ⟨us, h1, h2, h3⟩ := s1.ex x2
    obtain ⟨vs, g1, g2, g3⟩ := s2
    refine ⟨l1, l2, us, vs, rfl, rfl, h1, g1, len_small (by omega), fun p hp => ?_⟩
    have x3 := Ex.new (o := .lst (us ++ vs)) hp
    refine q p _ (x1.trans (x2.trans x3)) ⟨us ++ vs, upd_same, by rw [List.length_append]; omega, fun u hu => ?_⟩
    rcases List.mem_append.mp hu with z | z
    · exact (h3 u z).ex x3
    · exact (g3 u z).ex x3
theorem vx_mk0 {K : PySem.W.Frag} {B C D : Addr} {σ : L2.St} {H : Hp} (gC : GoodI K B C) (gD : GoodI K B D) : VX K B (tLst (tCons (tMk0 C) (tCons (tMk0 D) tNil))) σ H 2 := by
  intro Q q e1 he1 e2 he2
  refine ⟨len_small (by show 2 ≤ 1000; decide), fun l hl => ?_⟩
  have x1 := Ex.new (o := exo e1 C none) he1
  have x2 := Ex.new (o := exo e2 D none) he2
  have x3 := Ex.new (o := .lst [.ref e1, .ref e2]) hl
  exact q l _ (x1.trans (x2.trans x3)) (xs_two upd_same ⟨e1, C, none, rfl, (x2.trans x3) _ _ upd_same, (fun dx z => by cases z), gC⟩ ⟨e2, D, none, rfl, x3 _ _ upd_same, (fun dx z => by cases z), gD⟩)
theorem none_r {K : PySem.W.Frag} {B : Addr} {H : Hp} {Q : VK} {l : Addr} {i n : Nat} {s0 s1 s2 s3 s4 s5 s6 s7 s8 s9 s10 : Option V} (hi : [s0, s1, s2, s3, s4, s5, s6, s7, s8, s9, s10][i]? = some (some (.ref l))) (hl : XS K B H l n)
    (h : ∀ D, H D = none → Q (.ref D) (upd H D (.lst []))) :
    tLc (iList K (tVar i)) (gName 10) (tOr (tNot (tB (tCB (rIsX K) (tCons (tVar 10) (tCons (tC (.ref B)) tNil))))) (tNot (tB (tCB (rIsX K) (tCons (tVar 10) (tCons (tC (.ty "Exception")) tNil)))))) (tVar 10) [10] [s0, s1, s2, s3, s4, s5, s6, s7, s8, s9, s10] H Q := by
  obtain ⟨us, h1, h2, h3⟩ := hl
  refine ⟨_, hi, l, rfl, ⟨_, SqL.of h1⟩, fun D hD => ?_⟩
  have eD : ∀ xs, Ex H (upd H D (.lst xs)) := fun xs => Ex.new hD
  refine lc_it (walk_list (xs := us)) (fun j H3 => H3 = upd H D (.lst [])) rfl ?_ ?_ ?_
  · rintro j H3 _ rfl
    exact SqL.of (eD _ _ _ h1)
  · rintro j x H3 H4 hj rfl ⟨rfl, e1⟩
    obtain ⟨e, C, dd, rfl, q1, q2, g⟩ := (h3 x (List.mem_of_getElem? e1)).ex (eD [])
    refine ⟨rfl, ?_⟩
    refine ⟨_, rfl, e, C, dd, .ref B, .ref B, true, rfl, q1, q2, g.e, .own B, g.b, true, rfl, iteF ?_⟩
    exact ⟨_, rfl, e, C, dd, .ty "Exception", .type "Exception", true, rfl, q1, q2, g.e, .ty _, g.x, true, rfl, iteF rfl⟩
  · rintro H3 rfl
    exact h D hD
theorem rt_none {K : PySem.W.Frag} {B : Addr} {H : Hp} {D : Ends} {l : Addr} {i n : Nat} {s0 s1 s2 s3 s4 s5 s6 s7 s8 s9 s10 : Option V} (hi : [s0, s1, s2, s3, s4, s5, s6, s7, s8, s9, s10][i]? = some (some (.ref l))) (hl : XS K B H l n)
    (h : ∀ D1, H D1 = none → ∀ D2, upd H D1 (.lst []) D2 = none → D.rt (.bl true) (upd (upd H D1 (.lst [])) D2 (.lst []))) :
    tRet (tOp (rEqD K) (tLc (iList K (tVar i)) (gName 10) (tOr (tNot (tB (tCB (rIsX K) (tCons (tVar 10) (tCons (tC (.ref B)) tNil))))) (tNot (tB (tCB (rIsX K) (tCons (tVar 10) (tCons (tC (.ty "Exception")) tNil)))))) (tVar 10) [10]) (tLst tNil)) D [s0, s1, s2, s3, s4, s5, s6, s7, s8, s9, s10] H := by
  refine none_r (Q := fun x H1 => tLst tNil [s0, s1, s2, s3, s4, s5, s6, s7, s8, s9, s10] H1 fun y H2 => rEqD K x y H2 D.rt) hi hl fun D1 hD1 => ⟨len_small (by decide), fun D2 hD2 => ?_⟩
  have w2 := Ex.new (o := .lst []) hD2
  exact ⟨.list [], .list [], .lst (SqL.of (w2 _ _ upd_same)) .nil, .lst (SqL.of upd_same) .nil, rfl, rfl, h D1 hD1 D2 hD2⟩
section
variable {P : Program} {w : World} {K : PySem.W.Frag} {mg : Str → Option Value} {base : Heap} {B C1 C2 C3 C4 C5 C6 C7 C8 C9 C10 C11 C12 C13 C14 C15 : Addr}
theorem ok_store {f fP fR fF : Addr} {fd fdP fdR fdF : FuncData} (F : Fun K "_law_do_store" "_law_do_store" sStore f fd) (FP : Fun K "_law_part" "_law_part" sPart fP fdP) (gP : mg "_law_part" = some (.ref fP)) (FR : Fun K "_law_roll" "_law_roll" sRoll fR fdR) (gR : mg "_law_roll" = some (.ref fR))
    (FF : Fun K "_law_fits" "_law_fits" sFits fF fdF) (gF : mg "_law_fits" = some (.ref fF)) (T : Txt K mg) (gB : mg "BuildError" = some (.ref B))
    (cText : Cl1 P w K mg base B "InvalidText" "given" C1) (cBook : Cl1 P w K mg base B "InvalidBook" "given" C2) (cTree : Cl1 P w K mg base B "InvalidTree" "given" C3) (cName : Cl1 P w K mg base B "InvalidName" "given" C4) (cThings : Cl1 P w K mg base B "InvalidThings" "given" C5)
    (cCase : Cl1 P w K mg base B "InvalidCase" "given" C6) (cMachine : Cl1 P w K mg base B "InvalidMachine" "given" C7) (cNumber : Cl1 P w K mg base B "InvalidNumber" "given" C8) (cLine : Cl1 P w K mg base B "InvalidLine" "given" C9) (cDesk : Cl1 P w K mg base B "NotADesk" "given" C10)
    (cDeed : Cl1 P w K mg base B "InvalidDeed" "index" C11) (cBarred : Cl1 P w K mg base B "Barred" "reason" C12) (cRead : Cl2 P w K mg base B "NotWellRead" C13) (cGreat : Cl0 K mg B "TooGreat" C14) (cNot : Cl0 K mg B "NotMade" C15) : FnG P w K mg base CX0 3 f fd ["kit"] spStore := by
  have GR : FnOk P w K mg base CX0 2 fR fdR ["kit", "sides"] spRoll := (ok_roll FR T).mono (by omega)
  have bR : Binds K fdR ["kit", "sides"] [] := FR.binds fun _ _ _ _ _ _ us hl => match us, hl with | [_, _], _ => rfl
  have GP : FnOk P w K mg base CX0 2 fP fdP ["kit", "box"] (spPart K) := ok_part FP FR gR T
  have bP : Binds K fdP ["kit", "box"] [] := FP.binds fun _ _ _ _ _ _ us hl => match us, hl with | [_, _], _ => rfl
  have GF : FnG P w K mg base CX0 2 fF fdF ["told", "due"] (spFits K) := (ok_fits FF T).mono (by omega)
  have bF : Binds K fdF ["told", "due"] [] := FF.binds fun _ _ _ _ _ _ us hl => match us, hl with | [_, _], _ => rfl
  refine okG F scStore (fun vs H Q E h => ?_) (fun cdv A outer s H vs Q E g hr h => ?_)
  · obtain ⟨d, z, t, rfl, _⟩ := h
    rfl
  · obtain ⟨d, z, t, rfl, hK, z0, z1, t0, k⟩ := h
    refine ⟨_, (pss_cons (ps_par (i := 1) (j := 2) (by rfl) scStore.nd rfl rfl (by decide) rfl rfl (pa_cons (pe_lst pa_nil) (pa_cons (pe_call GP hr (by rfl) gP FP.kp bP .nil pass0 (pa_cons (pv 0) (pa_cons (pe_lst (pa_cons pe_non (pa_cons pe_int (pa_cons pe_str (pa_cons (pe_tup pa_nil) (pa_cons (pe_tup (pa_cons pe_str (pa_cons pe_str pa_nil))) (pa_cons (pe_disp (pps_cons pe_str pe_int pps_nil) (by rfl) (by rfl) (fun z => by cases z) (by decide)) (pa_cons pe_bl (pa_cons (pe_un un_neg pe_int) (pa_cons (pe_op op_pow pe_int pe_int) (pa_cons (pe_lst (pa_cons pe_int pa_nil)) pa_nil))))))))))) pa_nil))) pa_nil)) (by rfl))
      (pss_cons (ps_set (i := 3) scStore.nd rfl (Or.inl rfl) (pe_lst (pa_cons (pe_c1 cText hr (by rfl) (pv 1)) (pa_cons (pe_c1 cBook hr (by rfl) (pv 1)) (pa_cons (pe_c1 cTree hr (by rfl) (pv 1)) (pa_cons (pe_c1 cName hr (by rfl) (pv 1)) pa_nil))))))
      (pss_cons (ps_set (i := 3) scStore.nd rfl (Or.inl rfl) (pe_op op_cat (pv 3) (pe_lst (pa_cons (pe_c1 cThings hr (by rfl) (pv 1)) (pa_cons (pe_c1 cCase hr (by rfl) (pv 1)) (pa_cons (pe_c1 cMachine hr (by rfl) (pv 1)) (pa_cons (pe_c1 cNumber hr (by rfl) (pv 1)) pa_nil)))))))
      (pss_cons (ps_set (i := 3) scStore.nd rfl (Or.inl rfl) (pe_op op_cat (pv 3) (pe_lst (pa_cons (pe_c1 cLine hr (by rfl) (pv 1)) (pa_cons (pe_c1 cDesk hr (by rfl) (pv 1)) pa_nil)))))
      (pss_cons (ps_set (i := 4) scStore.nd rfl (Or.inl rfl) (pe_lst (pa_cons (pe_c1k cText hr (by rfl) (pv 2)) (pa_cons (pe_c1k cBook hr (by rfl) (pv 2)) (pa_cons (pe_c1k cTree hr (by rfl) (pv 2)) pa_nil)))))
      (pss_cons (ps_set (i := 4) scStore.nd rfl (Or.inl rfl) (pe_op op_cat (pv 4) (pe_lst (pa_cons (pe_c1k cName hr (by rfl) (pv 2)) (pa_cons (pe_c1k cThings hr (by rfl) (pv 2)) (pa_cons (pe_c1k cCase hr (by rfl) (pv 2)) pa_nil))))))
      (pss_cons (ps_set (i := 4) scStore.nd rfl (Or.inl rfl) (pe_op op_cat (pv 4) (pe_lst (pa_cons (pe_c1k cMachine hr (by rfl) (pv 2)) (pa_cons (pe_c1k cNumber hr (by rfl) (pv 2)) (pa_cons (pe_c1k cLine hr (by rfl) (pv 2)) pa_nil))))))
      (pss_cons (ps_set (i := 4) scStore.nd rfl (Or.inl rfl) (pe_op op_cat (pv 4) (pe_lst (pa_cons (pe_c1k cDesk hr (by rfl) (pv 2)) pa_nil))))
      (pss_cons (ps_par (i := 5) (j := 6) (by rfl) scStore.nd rfl rfl (by decide) rfl rfl (pa_cons (pe_lst (pa_cons (pe_c2 cRead hr (by rfl) (pv 1) (pv 2)) (pa_cons (pe_c2k cRead hr (by rfl) (pv 1) (pv 2)) pa_nil))) (pa_cons (pe_lst (pa_cons (pe_c1 cBarred hr (by rfl) (pv 1)) (pa_cons (pe_c1k cBarred hr (by rfl) (pv 2)) pa_nil))) pa_nil)) (by rfl))
      (pss_cons (ps_set (i := 7) scStore.nd rfl (Or.inl rfl) (pe_lst (pa_cons (pe_c1 cDeed hr (by rfl) (pv 1)) (pa_cons (pe_c1k cDeed hr (by rfl) (pv 2)) pa_nil))))
      (pss_cons (ps_expr (pe_bm PySem.F.plainAttrs_list PySem.F.slot_list_append PySem.F.type_list_append mt_append (pv 1) (pa_cons (pe_call GR hr (by rfl) gR FR.kp bR .nil pass0 (pa_cons (pv 0) (pa_cons pe_int pa_nil))) pa_nil)))
      (pss_cons (ps_set (i := 8) scStore.nd rfl (Or.inl rfl) (pe_op op_catN (pe_lc (own := [("e", 10)]) (g := gName 10) rfl scStore.nd (pi_list (pv 3)) (blkOk_by (N := NS) (sc := defScope sStore) (by decide +kernel)) (fun _ _ _ _ _ => pg_name (i := 10) scStore.nd rfl (Or.inl rfl)) (fun _ _ _ _ _ => pts_nil) (fun _ _ _ _ _ => pe_xatK (K := K) rfl (pv 10))) (pe_lst (pa_cons (pe_xat (pe_ix ix_list (pv 7) pe_int (fun _ _ => rfl))) (pa_cons (pe_xat (pe_ix ix_list (pv 5) pe_int (fun _ _ => rfl))) (pa_cons (pe_xat (pe_ix ix_list (pv 5) pe_int (fun _ _ => rfl))) (pa_cons (pe_xat (pe_ix ix_list (pv 6) pe_int (fun _ _ => rfl))) pa_nil)))))))
      (pss_cons (ps_if (PW.pt (pw_or (pt_not (pt_val (pe_callG g GF hr (by rfl) gF FF.kp bF .nil pass0 (pa_cons (pv 8) (pa_cons (pe_op op_repN (pe_lst (pa_cons (pv 1) pa_nil)) pe_int) pa_nil))))) (pw_or1 (pt_cmpR op_ne (pe_callB call_len_seq (by rfl) T.len PySem.boot_len (pa_cons (pv 1) pa_nil)) pe_int (nomark _))))) (pss_one (ps_ret pe_bl)) pss_nil)
      (pss_cons (ps_set (i := 8) scStore.nd rfl (Or.inl rfl) (pe_op op_catN (pe_lc (own := [("e", 10)]) (g := gName 10) rfl scStore.nd (pi_list (pv 4)) (blkOk_by (N := NS) (sc := defScope sStore) (by decide +kernel)) (fun _ _ _ _ _ => pg_name (i := 10) scStore.nd rfl (Or.inl rfl)) (fun _ _ _ _ _ => pts_nil) (fun _ _ _ _ _ => pe_xatK (K := K) rfl (pv 10))) (pe_lst (pa_cons (pe_xat (pe_ix ix_list (pv 7) pe_int (fun _ _ => rfl))) (pa_cons (pe_xat (pe_ix ix_list (pv 5) pe_int (fun _ _ => rfl))) (pa_cons (pe_xat (pe_ix ix_list (pv 5) pe_int (fun _ _ => rfl))) (pa_cons (pe_xat (pe_ix ix_list (pv 6) pe_int (fun _ _ => rfl))) pa_nil)))))))
      (pss_cons (ps_if (pt_not (pt_val (pe_callG g GF hr (by rfl) gF FF.kp bF .nil pass0 (pa_cons (pv 8) (pa_cons (pe_op op_repN (pe_lst (pa_cons (pv 2) pa_nil)) pe_int) pa_nil))))) (pss_one (ps_ret pe_bl)) pss_nil)
      (pss_cons (ps_set (i := 9) scStore.nd rfl (Or.inl rfl) (pe_op op_cat (pe_op op_cat (pe_op op_cat (pe_op op_cat (pe_op op_cat (pv 3) (pv 4)) (pv 7)) (pv 5)) (pv 6)) (pe_lst (pa_cons (pe_c0 cGreat (by rfl)) (pa_cons (pe_c0 cNot (by rfl)) pa_nil)))))
      (pss_one (ps_ret (pe_cmpR (op_eqD (u64 hr)) (pe_lc (own := [("e", 10)]) (g := gName 10) rfl scStore.nd (pi_list (pv 9)) (blkOk_by (N := NS) (sc := defScope sStore) (by decide +kernel)) (fun _ _ _ _ _ => pg_name (i := 10) scStore.nd rfl (Or.inl rfl)) (fun _ _ _ _ _ => pts_one (PW.pt (pw_or (pt_not (pt_val (pe_callB (call_isXK (K := K) rfl) (by rfl) T.isi (by decide +kernel) (pa_cons (pv 10) (pa_cons (pe_glob (by rfl) gB (v := .ref B) rfl) pa_nil))))) (pw_or1 (pt_not (pt_val (pe_callB (call_isXK (K := K) rfl) (by rfl) T.isi (by decide +kernel) (pa_cons (pv 10) (pa_cons (pe_bltn (by rfl) T.exc (by decide +kernel) (v := .ty "Exception") rfl) pa_nil))))))))) (fun _ _ _ _ _ => pv 10)) (pe_lst pa_nil) (nomark _)))))))))))))))))))), ?_⟩
    have sm : ∀ {n : Nat}, n ≤ 1000 → n ≤ sizeLine := fun h => len_small h
    -- crate, nail = ([], _law_part(kit, [..]))
    refine ⟨sm (by decide), fun c hc => ⟨_, rfl, ?_⟩⟩
    refine ⟨sm (by decide), fun a1 h1 => ⟨sm (by decide), fun a2 h2 => fun q hq => ⟨upd_same, [(Sum.inr ("n" : Str), .int 0)], rfl, (by show 1 ≤ 15; decide), ?_⟩⟩⟩
    refine ⟨_, rfl, _, _, rfl, rfl, ⟨by decide, by decide, by decide⟩, ⟨sm (by decide), fun a3 h3 => ⟨sm (by show 10 ≤ 1000; decide), fun b hb => ?_⟩⟩⟩
    have x1 : Ex H (upd H c (.lst [])) := Ex.new hc
    have x2 := Ex.new (o := .tup []) h1
    have x3 := Ex.new (o := .tup [.str "name", .str "x"]) h2
    have x4 := (Ex.new (o := .dK []) hq).mut (o := .dK (mergeK [] [((Sum.inr ("n" : Str) : Key), V.int 0)])) hq
    have x5 := Ex.new (o := .lst [.int 3]) h3
    have x6 := Ex.new (o := .lst [V.non, .int 13, .str "made", .ref a1, .ref a2, .ref q, .bl true, .int (-7), .int (10 ^ 22), .ref a3]) hb
    have xb := x1.trans (x2.trans (x3.trans (x4.trans (x5.trans x6))))
    have kc := (x2.trans (x3.trans (x4.trans (x5.trans x6)))) c _ upd_same
    have k1 := (x3.trans (x4.trans (x5.trans x6))) a1 _ upd_same
    have k2 := (x4.trans (x5.trans x6)) a2 _ upd_same
    have k3 := (x5.trans x6) q _ upd_same
    have k4 := x6 a3 _ upd_same
    have kd := xb d _ hK
    refine ⟨d, b, z, t, _, rfl, upd_same, (ne_of_none ((x1.trans (x2.trans (x3.trans (x4.trans x5)))) d _ hK) hb).symm, (by show 0 < 10; decide), (by show 10 ≤ 1000; decide), kd, z0, z1, t0, fun r v z2 t2 H2 hv kp2 hK2 z20 z21 t20 => ?_⟩
    have x15 := x1.trans (x2.trans (x3.trans (x4.trans x5)))
    have old : ∀ {a : Addr} {o : HO}, H a = some o → a ≠ c := fun e => ne_of_none e hc
    have cd : c ≠ d := fun z => by rw [z, hK] at hc; cases hc
    have a1c : a1 ≠ c := fun z => by rw [z, upd_same] at h1; cases h1
    have a1d : a1 ≠ d := fun z => by rw [z, x1 d _ hK] at h1; cases h1
    have a2c : a2 ≠ c := fun z => by rw [z, x2 c _ upd_same] at h2; cases h2
    have a2d : a2 ≠ d := fun z => by rw [z, x2 d _ (x1 d _ hK)] at h2; cases h2
    have qc : q ≠ c := fun z => by rw [z, (x2.trans x3) c _ upd_same] at hq; cases hq
    have qd : q ≠ d := fun z => by rw [z, (x1.trans (x2.trans x3)) d _ hK] at hq; cases hq
    have a3c : a3 ≠ c := fun z => by rw [z, (x2.trans (x3.trans x4)) c _ upd_same] at h3; cases h3
    have a3d : a3 ≠ d := fun z => by rw [z, (x1.trans (x2.trans (x3.trans x4))) d _ hK] at h3; cases h3
    obtain ⟨dn, hN, hF⟩ := nails (c := c) (kd := d) ⟨a1c, a1d⟩ ⟨a2c, a2d⟩ ⟨qc, qd⟩ ⟨a3c, a3d⟩ (kp2 _ _ a1d k1) (kp2 _ _ a2d k2) (kp2 _ _ qd k3) (kp2 _ _ a3d k4) hv
    have kc2 := kp2 _ _ cd kc
    have y2 : KeepX d H H2 := fun a o n e => kp2 a o n (xb a o e)
    clear kp2 kc k1 k2 k3 k4 kd x1 x2 x3 x4 x5 x6 xb x15 h1 h2 h3 hq hb a1c a1d a2c a2d qc qd a3c a3d hv
    refine ⟨_, _, rfl, ?_⟩
    -- plain
    show tSeq _ _ _ _ _
    refine sq_lst (la_cons rfl (good_of cText) (la_cons rfl (good_of cBook) (la_cons rfl (good_of cTree) (la_cons rfl (good_of cName) la_nil)))) (by decide) fun l3 H3 e3 n3 p3 => ?_
    show tSeq _ _ _ _ _
    refine sq_cat rfl p3 (la_cons rfl (good_of cThings) (la_cons rfl (good_of cCase) (la_cons rfl (good_of cMachine) (la_cons rfl (good_of cNumber) la_nil)))) (by decide) fun l4 H4 e4 n4 p4 => ?_
    show tSeq _ _ _ _ _
    refine sq_cat rfl p4 (la_cons rfl (good_of cLine) (la_cons rfl (good_of cDesk) la_nil)) (by decide) fun lp H5 e5 n5 p5 => ?_
    -- named
    show tSeq _ _ _ _ _
    refine sq_lst (la_cons rfl (good_of cText) (la_cons rfl (good_of cBook) (la_cons rfl (good_of cTree) la_nil))) (by decide) fun l6 H6 e6 n6 p6 => ?_
    show tSeq _ _ _ _ _
    refine sq_cat rfl p6 (la_cons rfl (good_of cName) (la_cons rfl (good_of cThings) (la_cons rfl (good_of cCase) la_nil))) (by decide) fun l7 H7 e7 n7 p7 => ?_
    show tSeq _ _ _ _ _
    refine sq_cat rfl p7 (la_cons rfl (good_of cMachine) (la_cons rfl (good_of cNumber) (la_cons rfl (good_of cLine) la_nil))) (by decide) fun l8 H8 e8 n8 p8 => ?_
    show tSeq _ _ _ _ _
    refine sq_cat rfl p8 (la_cons rfl (good_of cDesk) la_nil) (by decide) fun ln H9 e9 n9 p9 => ?_
    have x59 := e6.trans (e7.trans (e8.trans e9))
    have x9 := e3.trans (e4.trans (e5.trans x59))
    have kc9 := x9 _ _ kc2
    have kd9 := x9 _ _ hK2
    have lpc : lp ≠ c := fun z => by rw [z, (e3.trans e4) _ _ kc2] at n5; cases n5
    have lnc : ln ≠ c := fun z => by rw [z, (e3.trans (e4.trans (e5.trans (e6.trans (e7.trans e8))))) _ _ kc2] at n9; cases n9
    have pp := p5.ex x59
    have y9 : KeepX d H H9 := fun a o n e => x9 a o (y2 a o n e)
    have hN9 := hN.kp (Ex.kp x9)
    clear kc2 hK2 y2 hN p3 p4 p5 p6 p7 p8 n3 n4 n5 n6 n7 n8 n9
    -- reads, bars
    show tSeq _ _ _ _ _
    refine sq_rows rfl rfl (good_of cBarred) fun lr lb H10 r1 r2 b1 b2 e10 nr nb hr10 ar1 ar2 hb10 gb1 gb2 => ?_
    show tSeq _ _ _ _ _
    refine sq_two rfl rfl (good_of cDeed) fun lx H11 d1 d2 e11 nx hx11 gd1 gd2 => ?_
    have x911 := e10.trans e11
    have kc11 := x911 _ _ kc9
    have kd11 := x911 _ _ kd9
    have lrc : lr ≠ c := fun z => by rw [z, kc9] at nr; cases nr
    have lbc : lb ≠ c := fun z => by rw [z, kc9] at nb; cases nb
    have lxc : lx ≠ c := fun z => by rw [z, e10 _ _ kc9] at nx; cases nx
    have hr11 := e11 _ _ hr10
    have hb11 := e11 _ _ hb10
    have pp11 := pp.ex x911
    have pn11 := p9.ex x911
    have y11 : KeepX d H H11 := fun a o n e => x911 a o (y9 a o n e)
    have hN11 := hN9.kp (Ex.kp x911)
    replace ar1 := ar1.ex e11
    replace ar2 := ar2.ex e11
    replace gb1 := gb1.ex e11
    replace gb2 := gb2.ex e11
    clear kc9 kd9 y9 hN9 pp p9 nr nb nx hr10 hb10
    -- crate.append(_law_roll(kit, 30))
    show tSeq _ _ _ _ _
    refine ⟨_, rfl, .inl ⟨rfl, _, SqL.of kc11⟩, _, rfl, d, 30, z2, t2, rfl, by decide, by decide, kd11, z20, z21, t20, fun r z3 t3 Hr r0 r1 kpr kdr _ _ _ => ?_⟩
    have kcr := kpr _ _ cd kc11
    refine ⟨c, [], .int r, rfl, rfl, kcr, sm (by decide), ?_⟩
    have kp13 : Kp2 c d H11 (upd Hr c (.lst ([] ++ [V.int r]))) := fun a o n1 n2 e => by rw [upd_ne n1]; exact kpr a o n2 e
    have kc13 : upd Hr c (.lst ([] ++ [V.int r])) c = some (.lst [V.int r]) := upd_same
    have lrd : lr ≠ d := ne_of hr11 kd11 (by intro z; cases z)
    have lbd : lb ≠ d := ne_of hb11 kd11 (by intro z; cases z)
    have lxd : lx ≠ d := ne_of hx11 kd11 (by intro z; cases z)
    have hr13 := kp13 _ _ lrc lrd hr11
    have hb13 := kp13 _ _ lbc lbd hb11
    have hx13 := kp13 _ _ lxc lxd hx11
    have pp13 := pp11.kp kp13 kc11 kd11 lpc
    have pn13 := pn11.kp kp13 kc11 kd11 lnc
    replace ar1 := ar1.kp (cv := []) kp13 kc11 kd11
    replace ar2 := ar2.kp (cv := []) kp13 kc11 kd11
    replace gb1 := gb1.kp kp13 kc11 kd11
    replace gb2 := gb2.kp kp13 kc11 kd11
    replace gd1 := gd1.kp kp13 kc11 kd11
    replace gd2 := gd2.kp kp13 kc11 kd11
    have hN13 := hN11.kp kp13
    have y13 : KeepX d H (upd Hr c (.lst ([] ++ [V.int r]))) := fun a o n e => kp13 a o (old e) n (y11 a o n e)
    generalize upd Hr c (.lst ([] ++ [V.int r])) = H13 at *
    clear kp13 kc11 kd11 y11 hN11 hr11 hb11 hx11 pp11 pn11 kpr kdr kcr
    -- stored, crate
    show tSeq _ _ _ _ _
    refine sq_st (m := 4) rfl pp13 (by decide) (fun H1 x1 Q' q' => ?_) fun p1 H14 e14 n14 s14 h14 => ?_
    · obtain ⟨Cd, gd, ad⟩ := gd1.ex x1
      obtain ⟨Cb, gb, ab⟩ := gb1.ex x1
      exact at_r rfl (x1 _ _ hx13) (atI_nat (j := 0) rfl) gd.T gd.no ad rfl (at_r rfl (x1 _ _ hr13) (atI_nat (j := 0) rfl) cRead.T cRead.noR (ar1.ex x1) rfl (at_r rfl (x1 _ _ hr13) (atI_nat (j := 1) rfl) cRead.T cRead.noW (ar2.ex x1) rfl (at_r rfl (x1 _ _ hb13) (atI_nat (j := 0) rfl) gb.T gb.no ab rfl q')))
    have x14 := e14
    have kc14 := x14 _ _ kc13
    have crN : ∀ {Hx : Hp}, Hx c = some (.lst [V.int r]) → Nail K Hx (.ref c) (.list [.int r]) := fun e => .inl ⟨.lst (SqL.of e) (.cons (.int _) .nil), rfl⟩
    -- if not _law_fits(stored, [crate] * 14) or len(crate) != 1
    show tSeq _ _ _ _ _
    refine ⟨_, rfl, _, rfl, sm (by show 1 ≤ 1000; decide), fun l1 hl1 => ⟨l1, 14, 14, .ref c, rfl, rfl, rfl, by decide, upd_same, by decide, fun l2 hl2 ns2 => ?_⟩⟩
    have z1 := Ex.new (o := .lst [.ref c]) hl1
    have z2 := Ex.new (o := .lst (List.replicate 14 (.ref c))) hl2
    have kcz := (z1.trans z2) _ _ kc14
    refine ⟨p1, l2, 14, .ref c, .ref c, .list [.int r], rfl, s14, ns2, (z1.trans z2) _ _ h14, upd_same, crN kcz, crN kcz, fit_crate r0 r1, true, rfl, iteF ?_⟩
    refine ⟨_, rfl, c, _, rfl, .inl (SqL.of kcz), rfl, _, rfl, ite2 (fun h => absurd h (by simp)) fun _ => ?_⟩
    have e16 := e14.trans (z1.trans z2)
    generalize upd (upd H14 l1 (.lst [.ref c])) l2 (.lst (List.replicate 14 (.ref c))) = H16 at *
    -- stored, nail
    show tSeq _ _ _ _ _
    refine sq_st (m := 4) rfl (pn13.ex e16) (by decide) (fun H1 x1 Q' q' => ?_) fun p2 H17 e17 n17 s17 h17 => ?_
    · obtain ⟨Cd, gd, ad⟩ := gd2.ex (e16.trans x1)
      obtain ⟨Cb, gb, ab⟩ := gb2.ex (e16.trans x1)
      exact at_r rfl ((e16.trans x1) _ _ hx13) (atI_nat (j := 1) rfl) gd.T gd.no ad rfl (at_r rfl ((e16.trans x1) _ _ hr13) (atI_nat (j := 0) rfl) cRead.T cRead.noW (ar1.ex (e16.trans x1)) rfl (at_r rfl ((e16.trans x1) _ _ hr13) (atI_nat (j := 1) rfl) cRead.T cRead.noR (ar2.ex (e16.trans x1)) rfl
        (at_r rfl ((e16.trans x1) _ _ hb13) (atI_nat (j := 1) rfl) gb.T gb.no ab rfl q')))
    have e18 := e16.trans e17
    show tSeq _ _ _ _ _
    refine ⟨_, rfl, _, rfl, sm (by show 1 ≤ 1000; decide), fun l3 hl3 => ⟨l3, 14, 14, v, rfl, rfl, rfl, by decide, upd_same, by decide, fun l4 hl4 ns4 => ?_⟩⟩
    have z3 := Ex.new (o := .lst [v]) hl3
    have z4 := Ex.new (o := .lst (List.replicate 14 v)) hl4
    have e20 := e18.trans (z3.trans z4)
    have nn := (hN13.kp (Ex.kp e20)).nail (K := K)
    refine ⟨p2, l4, 14, v, v, dn, rfl, s17, ns4, (z3.trans z4) _ _ h17, upd_same, nn, nn, hF, true, rfl, iteF ?_⟩
    generalize upd (upd H17 l3 (.lst [v])) l4 (.lst (List.replicate 14 v)) = H20 at *
    clear z1 z2 z3 z4 nn kcz kc14 hl1 hl2 hl3 hl4 x14 e14 e16 e17 e18 h14 h17
    -- every
    show tSeq _ _ _ _ _
    refine vx_cat (B := B) (n := 26) (m := 2) (vx_cat (n := 24) (m := 2) (vx_cat (n := 22) (m := 2) (vx_cat (n := 20) (m := 2) (vx_cat (n := 10) (m := 10) (vx_var rfl ((pp13.ex e20).xs)) (fun H' x => vx_var rfl ((pn13.ex (e20.trans x)).xs)) (by decide)) (fun H' x => vx_var rfl (xs_two ((e20.trans x) _ _ hx13) ((gd1.ex (e20.trans x)).xo) ((gd2.ex (e20.trans x)).xo))) (by decide))
      (fun H' x => vx_var rfl (xs_two ((e20.trans x) _ _ hr13) ((ar1.ex (e20.trans x)).xo cRead.g) ((ar2.ex (e20.trans x)).xo cRead.g))) (by decide)) (fun H' x => vx_var rfl (xs_two ((e20.trans x) _ _ hb13) ((gb1.ex (e20.trans x)).xo) ((gb2.ex (e20.trans x)).xo))) (by decide)) (fun H' x => vx_mk0 cGreat.g cNot.g) (by decide) _ fun le H21 e21 s21 => ?_
    dsimp only [gName]
    show tRet _ _ _ _
    refine rt_none (B := B) rfl s21 fun D1 hD1 D2 hD2 => ?_
    have w1 := Ex.new (o := .lst []) hD1
    have w2 := Ex.new (o := .lst []) hD2
    exact k _ fun a o n e => (e20.trans (e21.trans (w1.trans w2))) a o (y13 a o n e)
end
end K01
end

section
/-! law, and its end -/
namespace K01
open PySem PySem.Spec PyProof.Rows L2 BX GX
open Evl (Ex ex_l)
open PySem.W (findIn kitOne)
def spLaw (K : PySem.W.Frag) : Sp := fun vs H Q _ => ∃ (a : Addr) (ns : List Int), vs = [.ref a] ∧ SqL K H a (ns.map V.int) ∧ ns.length ≤ 63 ∧ ∀ H', Q (.bl true) H'
theorem scLaw : FnScope ["cells"] ["cells"] (defScope sLaw) := ⟨rfl, rfl, rfl, by decide +kernel, rfl, by decide +kernel, by decide +kernel⟩
section
variable {P : Program} {w : World} {K : PySem.W.Frag} {mg : Str → Option Value} {base : Heap}
theorem ok_law {f fS fK : Addr} {fd fdS fdK : FuncData} (F : Fun K "law" "law" sLaw f fd) (FS : Fun K "_law_do_store" "_law_do_store" sStore fS fdS) (gS : mg "_law_do_store" = some (.ref fS)) (FK : Fun K "_law_kit" "_law_kit" sKit fK fdK) (gK : mg "_law_kit" = some (.ref fK)) (T : Txt K mg)
    (GS : FnG P w K mg base CX0 3 fS fdS ["kit"] spStore) : FnG P w K mg base CX0 4 f fd ["cells"] (spLaw K) := by
  have bS : Binds K fdS ["kit"] [] := FS.binds fun _ _ _ _ _ _ us hl => match us, hl with | [_], _ => rfl
  have bK : Binds K fdK ["cells", "bench"] [] := FK.binds fun _ _ _ _ _ _ us hl => match us, hl with | [_, _], _ => rfl
  have GK : FnOk P w K mg base CX0 3 fK fdK ["cells", "bench"] (spKit K) := (ok_kit FK T).mono (by omega)
  refine okG F scLaw (fun vs H Q E h => ?_) (fun cdv A outer s H vs Q E g hr h => ?_)
  · obtain ⟨a, ns, rfl, _⟩ := h
    rfl
  · obtain ⟨a, ns, rfl, hS, hl, k⟩ := h
    refine ⟨_, pss_one (ps_ret (pe_and (pe_callG g GS hr (by rfl) gS FS.kp bS .nil pass0 (pa_cons (pe_call GK hr (by rfl) gK FK.kp bK .nil pass0 (pa_cons (pv 0) (pa_cons pe_int pa_nil))) pa_nil))
      (pe_one (pe_callG g GS hr (by rfl) gS FS.kp bS .nil pass0 (pa_cons (pe_call GK hr (by rfl) gK FK.kp bK .nil pass0 (pa_cons (pv 0) (pa_cons pe_int pa_nil))) pa_nil))))), ?_⟩
    refine ⟨_, rfl, a, ns, 0, rfl, hS, hl, by decide, by decide, fun d z t H1 x1 nd hK z0 z1 t0 => ⟨d, z, t, rfl, hK, z0, z1, t0, fun H2 y2 => ⟨true, rfl, iteT ?_⟩⟩⟩
    have x2 : Ex H H2 := fun b o e => y2 b o (ne_of_none e nd) (x1 b o e)
    exact ⟨_, rfl, a, ns, 1, rfl, ex_l x2 hS, hl, by decide, by decide, fun d z t H3 x3 nd hK z0 z1 t0 => ⟨d, z, t, rfl, hK, z0, z1, t0, fun H4 _ => k H4⟩⟩
end
/-! ### the end of a law whose defs know that no container is being printed -/
theorem lawG {P : Program} {w : World} {K : PySem.W.Frag} {mg mb : Str → Option Value} {k : Nat} {fa a : Addr} {fd : FuncData} {x : Str} {sp : Sp} {s₁ : Shared} {vs : List Value} {ns : List Int}
    (KX : K.In s₁.heap) (hns : s₁.heap.Ns mainGlobals mg) (hb : s₁.heap.Ns builtinsNs mb) (hbb : ∀ x : Str, x ≠ "__name__" → mb x = bootBuiltins x) (hlim : s₁.heap.NoLimit) (hg : s₁.gens = #[])
    (ha : s₁.heap.get? a = some { cls := .type "list", data := .seq vs.toArray }) (hi : IntsAre vs ns) (hl : ns.length ≤ sizeLine) (hr : Room k callerA)
    (F : ∀ base : Heap, Mod K mg base → FnG P w K mg base CX0 k fa fd [x] sp) (hbind : ∀ (s : Shared) (u : Value), BindsTo s fd ⟨[u], []⟩ [(x, u)])
    (hsp : ∀ H : Hp, Only H → SqL K H a (ns.map V.int) → sp [.ref a] H (fun v _ => v = .bl true) fun _ _ _ => False) :
    codeAny (model P w) callerA (.call (.ref fa) ⟨[.ref a], []⟩) (fun r s' => r = .ok (.ret (.bool true)) ∧ OldK s₁.heap s'.heap ∧ s'.os = s₁.os ∧ AllBare s'.gens) s₁ := by
  have rv := vals_ints hi
  have core : ∀ H : Hp, Only H → SqL K H a (ns.map V.int) → HOk P w H s₁.heap → (∀ b, H b ≠ none → b = a) → (H a ≠ none → K.lookup a = none) →
      codeAny (model P w) callerA (.call (.ref fa) ⟨[.ref a], []⟩) (fun r s' => r = .ok (.ret (.bool true)) ∧ OldK s₁.heap s'.heap ∧ s'.os = s₁.os ∧ AllBare s'.gens) s₁ := by
    intro H hO hS hok hA hK
    have keep : ∀ {b : Addr} {o : Obj}, s₁.heap.get? b = some o → b ≠ a → (hidT s₁.heap H).get? b = some o := fun {b o} e n => hidT_get e (by
      cases q : H b with
      | none => rfl
      | some u => exact absurd (hA b (by rw [q]; simp)) n)
    have nsK : ∀ {b : Addr} {m : Str → Option Value}, s₁.heap.Ns b m → (hidT s₁.heap H).Ns b m := fun {b m} ⟨o, es, ep, e, d, r⟩ => ⟨o, es, ep, keep e (fun z => by
      rw [z, ha] at e
      cases e
      cases (show Data.seq vs.toArray _ = Data.dict es ep from d)), d, r⟩
    have kIn : K.In (hidT s₁.heap H) := fun b o e => by
      cases q : H b with
      | none => exact hidT_get (KX b o e) q
      | some u =>
        have z := hA b (by rw [q]; simp)
        rw [z] at e q
        rw [hK (by rw [q]; simp)] at e
        cases e
    have M : Mod K mg (hidT s₁.heap H) := ⟨kIn, nsK hns, ⟨mb, nsK hb, hbb⟩, let ⟨mc, h1, h2⟩ := hlim; ⟨mc, nsK h1, h2⟩⟩
    have e0 : Env0 P w K mg (hidT s₁.heap H) callerA [] s₁ H := ⟨rfl, M, fun b o e => of_hidT e, Nat.le_of_eq (hidT_size _ _), trivial, fun b hb => absurd hb (by simp [frs]), hok, .of_eq hg⟩
    refine codeAny_mono ((F _ M).run callerA rfl [] s₁ H ⟨[.ref a], []⟩ [.ref a] [.ref a] _ _ hr e0 (hbind s₁ (.ref a)) (.cons rfl .nil) (hsp H hO hS)) fun r s' h => ?_
    match r, h with
    | .error e, h => exact False.elim h
    | .ok .next, h => exact False.elim h
    | .ok .brk, h => exact False.elim h
    | .ok .cont, h => exact False.elim h
    | .ok (.ret u), ⟨v, H', os, bare, un, hok', r', q⟩ =>
      obtain rfl : v = .bl true := q
      obtain rfl : u = Value.bool true := r'
      refine ⟨rfl, OldK.of_keep fun b o e => ?_, os, bare⟩
      cases q : H b with
      | none => exact un.keep b o e q (fun z => by cases z) (by simp)
      | some u =>
        rcases hO b with z | ⟨ob, xs, z⟩
        · rw [q] at z; cases z
        · obtain ⟨f1, _⟩ := hok b _ z
          obtain ⟨f2, _⟩ := hok' b _ (un.frzs b ob _ z)
          rw [e] at f1
          cases f1
          exact f2
  cases hk : K.lookup a with
  | some o =>
    have e := KX a o hk
    rw [ha] at e
    cases e
    refine core (fun _ => none) (fun _ => .inl rfl) (.inr ⟨_, vs.toArray, _, hk, rfl, rfl, rfl, by rw [List.size_toArray, hi.length]; exact hl, by simpa using rv⟩) (fun b u z => by cases (show (none : Option HO) = some u from z)) (fun b z => absurd rfl z) fun z => absurd rfl z
  | none =>
    have at_ : ∀ {b : Addr} {u : HO}, (if b = a then some (HO.frz { cls := .type "list", data := .seq vs.toArray } (.lst (ns.map V.int))) else none) = some u → b = a ∧ u = .frz { cls := .type "list", data := .seq vs.toArray } (.lst (ns.map V.int)) := fun {b u} z => by
      split at z
      · rename_i hb
        cases z
        exact ⟨hb, rfl⟩
      · cases z
    refine core (fun b => if b = a then some (.frz { cls := .type "list", data := .seq vs.toArray } (.lst (ns.map V.int))) else none) (fun b => ?_) (.inl (.inr ⟨{ cls := .type "list", data := .seq vs.toArray }, if_pos rfl⟩)) (fun b u z => ?_) (fun b z => ?_) fun _ => hk
    · by_cases hb : b = a
      · exact .inr ⟨_, _, if_pos hb⟩
      · exact .inl (if_neg hb)
    · obtain ⟨rfl, rfl⟩ := at_ z
      exact ⟨ha, by rw [List.length_map]; exact hl, vs, _, rv, ha⟩
    · by_cases hb : b = a
      · exact hb
      · exact absurd (if_neg hb) z
theorem walk_G {l : PySem.W.OpenLaw} {n k : Nat} {q : Program} {loose : List Str} {XP : (Str → Option Value) → Heap → Prop} {YP : World → Heap → Prop} {d : DefRec} {K : Params → PySem.W.Frag} {sp : World → Sp} {x : Str}
    (hn : l.most = some n) (hn2 : n ≤ sizeLine) (hdf : d.params.defaults = []) (hr : Room k callerA) (hY : ∀ (w : World) (h : Heap), YP w h → (K w.params).In h)
    (F : ∀ (w : World) (mg : Str → Option Value) (fa : Addr) (h : Heap), (K w.params).In h → h.Ns mainGlobals mg → mg d.name = some (.ref fa) →
      ∃ fd : FuncData, (∀ (s : Shared) (u : Value), BindsTo s fd ⟨[u], []⟩ [(x, u)]) ∧ ∀ base : Heap, Mod (K w.params) mg base → FnG l.prog w (K w.params) mg base CX0 k fa fd [x] (sp w))
    (hsp : ∀ (w : World) (H : Hp) (a : Addr) (ns : List Int), ns.length ≤ n → Only H → SqL (K w.params) H a (ns.map V.int) → sp w [.ref a] H (fun v _ => v = .bl true) fun _ _ _ => False) :
    PySem.W.WalkO q loose XP YP l.row.toRowW d [] (fun f vs => PySem.call f vs) := by
  refine Att.attach_call hn hdf fun w s₀ s₁ mg mb fa o pm cd doc a vs ns G Y ho hd hcd hmg hobj hints hlen hg => ?_
  have KX := hY w _ Y
  obtain ⟨fd, hb, hF⟩ := F w mg fa _ KX G.T.g hmg
  exact lawG KX G.T.g G.T.b G.T.builtins G.T.nolimit hg hobj hints (Nat.le_trans hlen hn2) hr hF hb fun H hO hS => hsp w H a ns hlen hO hS
end K01
end

section
/-! what the top has written; the law's own head -/
namespace K01
open PySem PySem.Spec PyProof.Rows L2 BX GX
theorem all_mk {l : PySem.W.OpenLaw} {w : World} {K : PySem.W.Frag} {h : Heap} {mg : Str → Option Value} {fa B : Addr} (X : K.In h) (G : h.Ns mainGlobals mg) (hfa : mg "law" = some (.ref fa))
    {f1 f2 f3 f4 f5 f6 : Addr} {od1 an1 od2 an2 od3 an3 od4 an4 od5 an5 od6 an6 : Option Addr} {sl1 sl2 sl3 sl4 sl5 sl6 : Array (Option Value)} {oc1 kV1 dc1 pm1 cd1 ct1 oc2 kV2 dc2 pm2 cd2 ct2 oc3 kV3 dc3 pm3 cd3 ct3 oc4 kV4 dc4 pm4 cd4 ct4 oc5 kV5 dc5 pm5 cd5 ct5 oc6 kV6 dc6 pm6 cd6 ct6 : Value}
    (a1 : PySem.W.nsIn K mainGlobals "_law_kit" = some (some (.ref f1))) (l1 : K.lookup f1 = some ⟨oc1, od1, .func (PySem.W.fnOf "_law_kit" "_law_kit" (defArgs sKit) (defBody sKit) (defScope sKit) .none kV1 dc1 pm1 an1 cd1 ct1), sl1⟩) (c1 : PySem.W.codeIn K cd1 "_law_kit" = true) (k1 : PySem.W.keepIn K (.ref f1) = true)
    (a2 : PySem.W.nsIn K mainGlobals "_law_roll" = some (some (.ref f2))) (l2 : K.lookup f2 = some ⟨oc2, od2, .func (PySem.W.fnOf "_law_roll" "_law_roll" (defArgs sRoll) (defBody sRoll) (defScope sRoll) .none kV2 dc2 pm2 an2 cd2 ct2), sl2⟩) (c2 : PySem.W.codeIn K cd2 "_law_roll" = true) (k2 : PySem.W.keepIn K (.ref f2) = true)
    (a3 : PySem.W.nsIn K mainGlobals "_law_part" = some (some (.ref f3))) (l3 : K.lookup f3 = some ⟨oc3, od3, .func (PySem.W.fnOf "_law_part" "_law_part" (defArgs sPart) (defBody sPart) (defScope sPart) .none kV3 dc3 pm3 an3 cd3 ct3), sl3⟩) (c3 : PySem.W.codeIn K cd3 "_law_part" = true) (k3 : PySem.W.keepIn K (.ref f3) = true)
    (a4 : PySem.W.nsIn K mainGlobals "_law_fits" = some (some (.ref f4))) (l4 : K.lookup f4 = some ⟨oc4, od4, .func (PySem.W.fnOf "_law_fits" "_law_fits" (defArgs sFits) (defBody sFits) (defScope sFits) .none kV4 dc4 pm4 an4 cd4 ct4), sl4⟩) (c4 : PySem.W.codeIn K cd4 "_law_fits" = true) (k4 : PySem.W.keepIn K (.ref f4) = true)
    (a5 : PySem.W.nsIn K mainGlobals "_law_do_store" = some (some (.ref f5))) (l5 : K.lookup f5 = some ⟨oc5, od5, .func (PySem.W.fnOf "_law_do_store" "_law_do_store" (defArgs sStore) (defBody sStore) (defScope sStore) .none kV5 dc5 pm5 an5 cd5 ct5), sl5⟩) (c5 : PySem.W.codeIn K cd5 "_law_do_store" = true) (k5 : PySem.W.keepIn K (.ref f5) = true)
    (a6 : PySem.W.nsIn K mainGlobals "law" = some (some (.ref f6))) (l6 : K.lookup f6 = some ⟨oc6, od6, .func (PySem.W.fnOf "law" "law" (defArgs sLaw) (defBody sLaw) (defScope sLaw) .none kV6 dc6 pm6 an6 cd6 ct6), sl6⟩) (c6 : PySem.W.codeIn K cd6 "law" = true) (k6 : PySem.W.keepIn K (.ref f6) = true)
    (z1 : PySem.W.nsIn K mainGlobals "len" = some none)
    (z2 : PySem.W.nsIn K mainGlobals "int" = some none)
    (z3 : PySem.W.nsIn K mainGlobals "abs" = some none)
    (z4 : PySem.W.nsIn K mainGlobals "list" = some none)
    (z5 : PySem.W.nsIn K mainGlobals "enumerate" = some none)
    (z6 : PySem.W.nsIn K mainGlobals "divmod" = some none)
    (z7 : PySem.W.nsIn K mainGlobals "repr" = some none)
    (z8 : PySem.W.nsIn K mainGlobals "isinstance" = some none)
    (z9 : PySem.W.nsIn K mainGlobals "Exception" = some none)
    (aB : PySem.W.nsIn K mainGlobals "BuildError" = some (some (.ref B)))
    (e1 : ∃ C, ∀ (w : World) (base : Heap), Mod K mg base → Cl1 l.prog w K mg base B "InvalidText" "given" C)
    (e2 : ∃ C, ∀ (w : World) (base : Heap), Mod K mg base → Cl1 l.prog w K mg base B "InvalidBook" "given" C)
    (e3 : ∃ C, ∀ (w : World) (base : Heap), Mod K mg base → Cl1 l.prog w K mg base B "InvalidTree" "given" C)
    (e4 : ∃ C, ∀ (w : World) (base : Heap), Mod K mg base → Cl1 l.prog w K mg base B "InvalidName" "given" C)
    (e5 : ∃ C, ∀ (w : World) (base : Heap), Mod K mg base → Cl1 l.prog w K mg base B "InvalidThings" "given" C)
    (e6 : ∃ C, ∀ (w : World) (base : Heap), Mod K mg base → Cl1 l.prog w K mg base B "InvalidCase" "given" C)
    (e7 : ∃ C, ∀ (w : World) (base : Heap), Mod K mg base → Cl1 l.prog w K mg base B "InvalidMachine" "given" C)
    (e8 : ∃ C, ∀ (w : World) (base : Heap), Mod K mg base → Cl1 l.prog w K mg base B "InvalidNumber" "given" C)
    (e9 : ∃ C, ∀ (w : World) (base : Heap), Mod K mg base → Cl1 l.prog w K mg base B "InvalidLine" "given" C)
    (e10 : ∃ C, ∀ (w : World) (base : Heap), Mod K mg base → Cl1 l.prog w K mg base B "NotADesk" "given" C)
    (e11 : ∃ C, ∀ (w : World) (base : Heap), Mod K mg base → Cl1 l.prog w K mg base B "InvalidDeed" "index" C)
    (e12 : ∃ C, ∀ (w : World) (base : Heap), Mod K mg base → Cl1 l.prog w K mg base B "Barred" "reason" C)
    (e13 : ∃ C, ∀ (w : World) (base : Heap), Mod K mg base → Cl2 l.prog w K mg base B "NotWellRead" C) (e14 : ∃ C, Cl0 K mg B "TooGreat" C) (e15 : ∃ C, Cl0 K mg B "NotMade" C) :
    ∃ fd : FuncData, (∀ (s : Shared) (v : Value), BindsTo s fd ⟨[v], []⟩ [("cells", v)]) ∧ ∀ base : Heap, Mod K mg base → FnG l.prog w K mg base CX0 4 fa fd ["cells"] (spLaw K) := by
  have e := hfa.symm.trans (PySem.W.mg_of X G a6)
  cases e
  have F1 := fun_mk (st := sKit) l1 c1 k1
  have F2 := fun_mk (st := sRoll) l2 c2 k2
  have F3 := fun_mk (st := sPart) l3 c3 k3
  have F4 := fun_mk (st := sFits) l4 c4 k4
  have F5 := fun_mk (st := sStore) l5 c5 k5
  have F6 := fun_mk (st := sLaw) l6 c6 k6
  have T : Txt K mg := ⟨PySem.W.mg_none_of X G z1, PySem.W.mg_none_of X G z2, PySem.W.mg_none_of X G z3, PySem.W.mg_none_of X G z4, PySem.W.mg_none_of X G z5, PySem.W.mg_none_of X G z6, PySem.W.mg_none_of X G z7, PySem.W.mg_none_of X G z8, PySem.W.mg_none_of X G z9⟩
  obtain ⟨C1, g1⟩ := e1
  obtain ⟨C2, g2⟩ := e2
  obtain ⟨C3, g3⟩ := e3
  obtain ⟨C4, g4⟩ := e4
  obtain ⟨C5, g5⟩ := e5
  obtain ⟨C6, g6⟩ := e6
  obtain ⟨C7, g7⟩ := e7
  obtain ⟨C8, g8⟩ := e8
  obtain ⟨C9, g9⟩ := e9
  obtain ⟨C10, g10⟩ := e10
  obtain ⟨C11, g11⟩ := e11
  obtain ⟨C12, g12⟩ := e12
  obtain ⟨C13, g13⟩ := e13
  obtain ⟨C14, g14⟩ := e14
  obtain ⟨C15, g15⟩ := e15
  refine ⟨_, fun s v => .of_eq ?_, fun base M => ok_law F6 F5 (PySem.W.mg_of X G a5) F1 (PySem.W.mg_of X G a1) T (ok_store F5 F3 (PySem.W.mg_of X G a3) F2 (PySem.W.mg_of X G a2) F4 (PySem.W.mg_of X G a4) T (PySem.W.mg_of X G aB) (g1 w base M) (g2 w base M) (g3 w base M) (g4 w base M) (g5 w base M) (g6 w base M) (g7 w base M) (g8 w base M) (g9 w base M) (g10 w base M) (g11 w base M) (g12 w base M) (g13 w base M) g14 g15)⟩
  rfl
end K01
open PySem PySem.W PyProof.Rows
set_option maxHeartbeats 0 in
theorem PySem.Challenge.cw_buildtongue_k01_errors_store_what_they_g_holds : PySem.Challenge.rw_buildtongue_k01_errors_store_what_they_g.Holds := by
  w_on; o_law; k_head; (case hw => w_witness2)
  k_fill
  refine K01.walk_G (l := PySem.Challenge.rw_buildtongue_k01_errors_store_what_they_g) (n := 63) (k := 4) (x := "cells") (sp := fun w => K01.spLaw _) rfl (by decide) rfl ⟨rfl, by decide, by decide⟩ (fun w h Y => PySem.W.kIn_of Y) ?F fun _ _ a ns hl _ hS => ⟨a, ns, rfl, hS, hl, fun _ => rfl⟩
  case F =>
    intro w mg fa h KX G hmg
    refine' K01.all_mk (l := PySem.Challenge.rw_buildtongue_k01_errors_store_what_they_g) KX G hmg ?a1_ ?l1_ ?c1_ ?k1_ ?a2_ ?l2_ ?c2_ ?k2_ ?a3_ ?l3_ ?c3_ ?k3_ ?a4_ ?l4_ ?c4_ ?k4_ ?a5_ ?l5_ ?c5_ ?k5_ ?a6_ ?l6_ ?c6_ ?k6_ ?z1_ ?z2_ ?z3_ ?z4_ ?z5_ ?z6_ ?z7_ ?z8_ ?z9_ ?aB_ ?e1_ ?e2_ ?e3_ ?e4_ ?e5_ ?e6_ ?e7_ ?e8_ ?e9_ ?e10_ ?e11_ ?e12_ ?e13_ ?e14_ ?e15_
    (case a1_ => k_is); (case l1_ => k_is); (case c1_ => k_is); (case k1_ => k_is); (case a2_ => k_is); (case l2_ => k_is); (case c2_ => k_is); (case k2_ => k_is); (case a3_ => k_is); (case l3_ => k_is); (case c3_ => k_is); (case k3_ => k_is); (case a4_ => k_is); (case l4_ => k_is); (case c4_ => k_is); (case k4_ => k_is); (case a5_ => k_is); (case l5_ => k_is); (case c5_ => k_is); (case k5_ => k_is); (case a6_ => k_is); (case l6_ => k_is); (case c6_ => k_is); (case k6_ => k_is); (case z1_ => k_is); (case z2_ => k_is); (case z3_ => k_is); (case z4_ => k_is); (case z5_ => k_is); (case z6_ => k_is); (case z7_ => k_is); (case z8_ => k_is); (case z9_ => k_is); (case aB_ => k_is)
    case e1_ =>
      refine' K01.mk_c1 (by assumption) (by assumption) ?aC_e1 ?q_e1 ?over_e1 ?hd_e1 ?sa_e1 ?sB_e1 ?sBB_e1 ?sC_e1 ?ty_e1 ?kp_e1 ?ga_e1 ?gg_e1 ?sup_e1 ?nt_e1 ?init_e1 ?tyf_e1 ?l_e1 ?cd_e1 ?cell_e1 ?file_e1 ?hvs_e1 ?hfl_e1 ?top_e1 ?zs_e1 ?tk_e1 ?no_e1 ?sBd_e1 ?iB_e1 ?tB_e1 ?kE_e1 ?hac_e1 ?hnc_e1 ?htc_e1 ?hmo_e1 ?bkw_e1 ?bps_e1 ?hme_e1 ?d1_e1 ?d2_e1 ?d3_e1 ?d4_e1
      (case aC_e1 => k_is)
      (case q_e1 => kx_is)
      (case over_e1 => kx_is)
      (case hd_e1 => k_is)
      (case sa_e1 => k_is)
      (case sB_e1 => k_is)
      (case sBB_e1 => k_is)
      (case sC_e1 => k_is)
      (case ty_e1 => k_is)
      (case kp_e1 => k_is)
      (case ga_e1 => k_is)
      (case gg_e1 => k_is)
      (case sup_e1 => ks_is)
      (case nt_e1 => k_is)
      (case init_e1 => k_is)
      (case tyf_e1 => k_is)
      (case l_e1 => k_is)
      (case cd_e1 => k_is)
      (case cell_e1 => k_is)
      (case file_e1 => k_is)
      (case hvs_e1 => rfl)
      (case hfl_e1 => rfl)
      (case top_e1 => rfl)
      (case zs_e1 => k_is)
      (case tk_e1 => k_is)
      (case no_e1 => k_is)
      (case sBd_e1 => k_is)
      (case iB_e1 => k_is)
      (case tB_e1 => k_is)
      (case kE_e1 => decide +kernel)
      (case hac_e1 => k_is)
      (case hnc_e1 => k_is)
      (case htc_e1 => k_is)
      (case hmo_e1 => k_is)
      (case bkw_e1 => exact fun _ _ _ _ _ _ _ => by kernel_rfl)
      (case bps_e1 => exact fun _ _ _ _ _ _ _ => rfl)
      (case hme_e1 => exact fun _ => ⟨_, by rfl⟩)
      (case d1_e1 => decide)
      (case d2_e1 => decide)
      (case d3_e1 => decide)
      (case d4_e1 => decide)
    case e2_ =>
      refine' K01.mk_c1 (by assumption) (by assumption) ?aC_e2 ?q_e2 ?over_e2 ?hd_e2 ?sa_e2 ?sB_e2 ?sBB_e2 ?sC_e2 ?ty_e2 ?kp_e2 ?ga_e2 ?gg_e2 ?sup_e2 ?nt_e2 ?init_e2 ?tyf_e2 ?l_e2 ?cd_e2 ?cell_e2 ?file_e2 ?hvs_e2 ?hfl_e2 ?top_e2 ?zs_e2 ?tk_e2 ?no_e2 ?sBd_e2 ?iB_e2 ?tB_e2 ?kE_e2 ?hac_e2 ?hnc_e2 ?htc_e2 ?hmo_e2 ?bkw_e2 ?bps_e2 ?hme_e2 ?d1_e2 ?d2_e2 ?d3_e2 ?d4_e2
      (case aC_e2 => k_is)
      (case q_e2 => kx_is)
      (case over_e2 => kx_is)
      (case hd_e2 => k_is)
      (case sa_e2 => k_is)
      (case sB_e2 => k_is)
      (case sBB_e2 => k_is)
      (case sC_e2 => k_is)
      (case ty_e2 => k_is)
      (case kp_e2 => k_is)
      (case ga_e2 => k_is)
      (case gg_e2 => k_is)
      (case sup_e2 => ks_is)
      (case nt_e2 => k_is)
      (case init_e2 => k_is)
      (case tyf_e2 => k_is)
      (case l_e2 => k_is)
      (case cd_e2 => k_is)
      (case cell_e2 => k_is)
      (case file_e2 => k_is)
      (case hvs_e2 => rfl)
      (case hfl_e2 => rfl)
      (case top_e2 => rfl)
      (case zs_e2 => k_is)
      (case tk_e2 => k_is)
      (case no_e2 => k_is)
      (case sBd_e2 => k_is)
      (case iB_e2 => k_is)
      (case tB_e2 => k_is)
      (case kE_e2 => decide +kernel)
      (case hac_e2 => k_is)
      (case hnc_e2 => k_is)
      (case htc_e2 => k_is)
      (case hmo_e2 => k_is)
      (case bkw_e2 => exact fun _ _ _ _ _ _ _ => by kernel_rfl)
      (case bps_e2 => exact fun _ _ _ _ _ _ _ => rfl)
      (case hme_e2 => exact fun _ => ⟨_, by rfl⟩)
      (case d1_e2 => decide)
      (case d2_e2 => decide)
      (case d3_e2 => decide)
      (case d4_e2 => decide)
    case e3_ =>
      refine' K01.mk_c1 (by assumption) (by assumption) ?aC_e3 ?q_e3 ?over_e3 ?hd_e3 ?sa_e3 ?sB_e3 ?sBB_e3 ?sC_e3 ?ty_e3 ?kp_e3 ?ga_e3 ?gg_e3 ?sup_e3 ?nt_e3 ?init_e3 ?tyf_e3 ?l_e3 ?cd_e3 ?cell_e3 ?file_e3 ?hvs_e3 ?hfl_e3 ?top_e3 ?zs_e3 ?tk_e3 ?no_e3 ?sBd_e3 ?iB_e3 ?tB_e3 ?kE_e3 ?hac_e3 ?hnc_e3 ?htc_e3 ?hmo_e3 ?bkw_e3 ?bps_e3 ?hme_e3 ?d1_e3 ?d2_e3 ?d3_e3 ?d4_e3
      (case aC_e3 => k_is)
      (case q_e3 => kx_is)
      (case over_e3 => kx_is)
      (case hd_e3 => k_is)
      (case sa_e3 => k_is)
      (case sB_e3 => k_is)
      (case sBB_e3 => k_is)
      (case sC_e3 => k_is)
      (case ty_e3 => k_is)
      (case kp_e3 => k_is)
      (case ga_e3 => k_is)
      (case gg_e3 => k_is)
      (case sup_e3 => ks_is)
      (case nt_e3 => k_is)
      (case init_e3 => k_is)
      (case tyf_e3 => k_is)
      (case l_e3 => k_is)
      (case cd_e3 => k_is)
      (case cell_e3 => k_is)
      (case file_e3 => k_is)
      (case hvs_e3 => rfl)
      (case hfl_e3 => rfl)
      (case top_e3 => rfl)
      (case zs_e3 => k_is)
      (case tk_e3 => k_is)
      (case no_e3 => k_is)
      (case sBd_e3 => k_is)
      (case iB_e3 => k_is)
      (case tB_e3 => k_is)
      (case kE_e3 => decide +kernel)
      (case hac_e3 => k_is)
      (case hnc_e3 => k_is)
      (case htc_e3 => k_is)
      (case hmo_e3 => k_is)
      (case bkw_e3 => exact fun _ _ _ _ _ _ _ => by kernel_rfl)
      (case bps_e3 => exact fun _ _ _ _ _ _ _ => rfl)
      (case hme_e3 => exact fun _ => ⟨_, by rfl⟩)
      (case d1_e3 => decide)
      (case d2_e3 => decide)
      (case d3_e3 => decide)
      (case d4_e3 => decide)
    case e4_ =>
      refine' K01.mk_c1 (by assumption) (by assumption) ?aC_e4 ?q_e4 ?over_e4 ?hd_e4 ?sa_e4 ?sB_e4 ?sBB_e4 ?sC_e4 ?ty_e4 ?kp_e4 ?ga_e4 ?gg_e4 ?sup_e4 ?nt_e4 ?init_e4 ?tyf_e4 ?l_e4 ?cd_e4 ?cell_e4 ?file_e4 ?hvs_e4 ?hfl_e4 ?top_e4 ?zs_e4 ?tk_e4 ?no_e4 ?sBd_e4 ?iB_e4 ?tB_e4 ?kE_e4 ?hac_e4 ?hnc_e4 ?htc_e4 ?hmo_e4 ?bkw_e4 ?bps_e4 ?hme_e4 ?d1_e4 ?d2_e4 ?d3_e4 ?d4_e4
      (case aC_e4 => k_is)
      (case q_e4 => kx_is)
      (case over_e4 => kx_is)
      (case hd_e4 => k_is)
      (case sa_e4 => k_is)
      (case sB_e4 => k_is)
      (case sBB_e4 => k_is)
      (case sC_e4 => k_is)
      (case ty_e4 => k_is)
      (case kp_e4 => k_is)
      (case ga_e4 => k_is)
      (case gg_e4 => k_is)
      (case sup_e4 => ks_is)
      (case nt_e4 => k_is)
      (case init_e4 => k_is)
      (case tyf_e4 => k_is)
      (case l_e4 => k_is)
      (case cd_e4 => k_is)
      (case cell_e4 => k_is)
      (case file_e4 => k_is)
      (case hvs_e4 => rfl)
      (case hfl_e4 => rfl)
      (case top_e4 => rfl)
      (case zs_e4 => k_is)
      (case tk_e4 => k_is)
      (case no_e4 => k_is)
      (case sBd_e4 => k_is)
      (case iB_e4 => k_is)
      (case tB_e4 => k_is)
      (case kE_e4 => decide +kernel)
      (case hac_e4 => k_is)
      (case hnc_e4 => k_is)
      (case htc_e4 => k_is)
      (case hmo_e4 => k_is)
      (case bkw_e4 => exact fun _ _ _ _ _ _ _ => by kernel_rfl)
      (case bps_e4 => exact fun _ _ _ _ _ _ _ => rfl)
      (case hme_e4 => exact fun _ => ⟨_, by rfl⟩)
      (case d1_e4 => decide)
      (case d2_e4 => decide)
      (case d3_e4 => decide)
      (case d4_e4 => decide)
    case e5_ =>
      refine' K01.mk_c1 (by assumption) (by assumption) ?aC_e5 ?q_e5 ?over_e5 ?hd_e5 ?sa_e5 ?sB_e5 ?sBB_e5 ?sC_e5 ?ty_e5 ?kp_e5 ?ga_e5 ?gg_e5 ?sup_e5 ?nt_e5 ?init_e5 ?tyf_e5 ?l_e5 ?cd_e5 ?cell_e5 ?file_e5 ?hvs_e5 ?hfl_e5 ?top_e5 ?zs_e5 ?tk_e5 ?no_e5 ?sBd_e5 ?iB_e5 ?tB_e5 ?kE_e5 ?hac_e5 ?hnc_e5 ?htc_e5 ?hmo_e5 ?bkw_e5 ?bps_e5 ?hme_e5 ?d1_e5 ?d2_e5 ?d3_e5 ?d4_e5
      (case aC_e5 => k_is)
      (case q_e5 => kx_is)
      (case over_e5 => kx_is)
      (case hd_e5 => k_is)
      (case sa_e5 => k_is)
      (case sB_e5 => k_is)
      (case sBB_e5 => k_is)
      (case sC_e5 => k_is)
      (case ty_e5 => k_is)
      (case kp_e5 => k_is)
      (case ga_e5 => k_is)
      (case gg_e5 => k_is)
      (case sup_e5 => ks_is)
      (case nt_e5 => k_is)
      (case init_e5 => k_is)
      (case tyf_e5 => k_is)
      (case l_e5 => k_is)
      (case cd_e5 => k_is)
      (case cell_e5 => k_is)
      (case file_e5 => k_is)
      (case hvs_e5 => rfl)
      (case hfl_e5 => rfl)
      (case top_e5 => rfl)
      (case zs_e5 => k_is)
      (case tk_e5 => k_is)
      (case no_e5 => k_is)
      (case sBd_e5 => k_is)
      (case iB_e5 => k_is)
      (case tB_e5 => k_is)
      (case kE_e5 => decide +kernel)
      (case hac_e5 => k_is)
      (case hnc_e5 => k_is)
      (case htc_e5 => k_is)
      (case hmo_e5 => k_is)
      (case bkw_e5 => exact fun _ _ _ _ _ _ _ => by kernel_rfl)
      (case bps_e5 => exact fun _ _ _ _ _ _ _ => rfl)
      (case hme_e5 => exact fun _ => ⟨_, by rfl⟩)
      (case d1_e5 => decide)
      (case d2_e5 => decide)
      (case d3_e5 => decide)
      (case d4_e5 => decide)
    case e6_ =>
      refine' K01.mk_c1 (by assumption) (by assumption) ?aC_e6 ?q_e6 ?over_e6 ?hd_e6 ?sa_e6 ?sB_e6 ?sBB_e6 ?sC_e6 ?ty_e6 ?kp_e6 ?ga_e6 ?gg_e6 ?sup_e6 ?nt_e6 ?init_e6 ?tyf_e6 ?l_e6 ?cd_e6 ?cell_e6 ?file_e6 ?hvs_e6 ?hfl_e6 ?top_e6 ?zs_e6 ?tk_e6 ?no_e6 ?sBd_e6 ?iB_e6 ?tB_e6 ?kE_e6 ?hac_e6 ?hnc_e6 ?htc_e6 ?hmo_e6 ?bkw_e6 ?bps_e6 ?hme_e6 ?d1_e6 ?d2_e6 ?d3_e6 ?d4_e6
      (case aC_e6 => k_is)
      (case q_e6 => kx_is)
      (case over_e6 => kx_is)
      (case hd_e6 => k_is)
      (case sa_e6 => k_is)
      (case sB_e6 => k_is)
      (case sBB_e6 => k_is)
      (case sC_e6 => k_is)
      (case ty_e6 => k_is)
      (case kp_e6 => k_is)
      (case ga_e6 => k_is)
      (case gg_e6 => k_is)
      (case sup_e6 => ks_is)
      (case nt_e6 => k_is)
      (case init_e6 => k_is)
      (case tyf_e6 => k_is)
      (case l_e6 => k_is)
      (case cd_e6 => k_is)
      (case cell_e6 => k_is)
      (case file_e6 => k_is)
      (case hvs_e6 => rfl)
      (case hfl_e6 => rfl)
      (case top_e6 => rfl)
      (case zs_e6 => k_is)
      (case tk_e6 => k_is)
      (case no_e6 => k_is)
      (case sBd_e6 => k_is)
      (case iB_e6 => k_is)
      (case tB_e6 => k_is)
      (case kE_e6 => decide +kernel)
      (case hac_e6 => k_is)
      (case hnc_e6 => k_is)
      (case htc_e6 => k_is)
      (case hmo_e6 => k_is)
      (case bkw_e6 => exact fun _ _ _ _ _ _ _ => by kernel_rfl)
      (case bps_e6 => exact fun _ _ _ _ _ _ _ => rfl)
      (case hme_e6 => exact fun _ => ⟨_, by rfl⟩)
      (case d1_e6 => decide)
      (case d2_e6 => decide)
      (case d3_e6 => decide)
      (case d4_e6 => decide)
    case e7_ =>
      refine' K01.mk_c1 (by assumption) (by assumption) ?aC_e7 ?q_e7 ?over_e7 ?hd_e7 ?sa_e7 ?sB_e7 ?sBB_e7 ?sC_e7 ?ty_e7 ?kp_e7 ?ga_e7 ?gg_e7 ?sup_e7 ?nt_e7 ?init_e7 ?tyf_e7 ?l_e7 ?cd_e7 ?cell_e7 ?file_e7 ?hvs_e7 ?hfl_e7 ?top_e7 ?zs_e7 ?tk_e7 ?no_e7 ?sBd_e7 ?iB_e7 ?tB_e7 ?kE_e7 ?hac_e7 ?hnc_e7 ?htc_e7 ?hmo_e7 ?bkw_e7 ?bps_e7 ?hme_e7 ?d1_e7 ?d2_e7 ?d3_e7 ?d4_e7
      (case aC_e7 => k_is)
      (case q_e7 => kx_is)
      (case over_e7 => kx_is)
      (case hd_e7 => k_is)
      (case sa_e7 => k_is)
      (case sB_e7 => k_is)
      (case sBB_e7 => k_is)
      (case sC_e7 => k_is)
      (case ty_e7 => k_is)
      (case kp_e7 => k_is)
      (case ga_e7 => k_is)
      (case gg_e7 => k_is)
      (case sup_e7 => ks_is)
      (case nt_e7 => k_is)
      (case init_e7 => k_is)
      (case tyf_e7 => k_is)
      (case l_e7 => k_is)
      (case cd_e7 => k_is)
      (case cell_e7 => k_is)
      (case file_e7 => k_is)
      (case hvs_e7 => rfl)
      (case hfl_e7 => rfl)
      (case top_e7 => rfl)
      (case zs_e7 => k_is)
      (case tk_e7 => k_is)
      (case no_e7 => k_is)
      (case sBd_e7 => k_is)
      (case iB_e7 => k_is)
      (case tB_e7 => k_is)
      (case kE_e7 => decide +kernel)
      (case hac_e7 => k_is)
      (case hnc_e7 => k_is)
      (case htc_e7 => k_is)
      (case hmo_e7 => k_is)
      (case bkw_e7 => exact fun _ _ _ _ _ _ _ => by kernel_rfl)
      (case bps_e7 => exact fun _ _ _ _ _ _ _ => rfl)
      (case hme_e7 => exact fun _ => ⟨_, by rfl⟩)
      (case d1_e7 => decide)
      (case d2_e7 => decide)
      (case d3_e7 => decide)
      (case d4_e7 => decide)
    case e8_ =>
      refine' K01.mk_c1 (by assumption) (by assumption) ?aC_e8 ?q_e8 ?over_e8 ?hd_e8 ?sa_e8 ?sB_e8 ?sBB_e8 ?sC_e8 ?ty_e8 ?kp_e8 ?ga_e8 ?gg_e8 ?sup_e8 ?nt_e8 ?init_e8 ?tyf_e8 ?l_e8 ?cd_e8 ?cell_e8 ?file_e8 ?hvs_e8 ?hfl_e8 ?top_e8 ?zs_e8 ?tk_e8 ?no_e8 ?sBd_e8 ?iB_e8 ?tB_e8 ?kE_e8 ?hac_e8 ?hnc_e8 ?htc_e8 ?hmo_e8 ?bkw_e8 ?bps_e8 ?hme_e8 ?d1_e8 ?d2_e8 ?d3_e8 ?d4_e8
      (case aC_e8 => k_is)
      (case q_e8 => kx_is)
      (case over_e8 => kx_is)
      (case hd_e8 => k_is)
      (case sa_e8 => k_is)
      (case sB_e8 => k_is)
      (case sBB_e8 => k_is)
      (case sC_e8 => k_is)
      (case ty_e8 => k_is)
      (case kp_e8 => k_is)
      (case ga_e8 => k_is)
      (case gg_e8 => k_is)
      (case sup_e8 => ks_is)
      (case nt_e8 => k_is)
      (case init_e8 => k_is)
      (case tyf_e8 => k_is)
      (case l_e8 => k_is)
      (case cd_e8 => k_is)
      (case cell_e8 => k_is)
      (case file_e8 => k_is)
      (case hvs_e8 => rfl)
      (case hfl_e8 => rfl)
      (case top_e8 => rfl)
      (case zs_e8 => k_is)
      (case tk_e8 => k_is)
      (case no_e8 => k_is)
      (case sBd_e8 => k_is)
      (case iB_e8 => k_is)
      (case tB_e8 => k_is)
      (case kE_e8 => decide +kernel)
      (case hac_e8 => k_is)
      (case hnc_e8 => k_is)
      (case htc_e8 => k_is)
      (case hmo_e8 => k_is)
      (case bkw_e8 => exact fun _ _ _ _ _ _ _ => by kernel_rfl)
      (case bps_e8 => exact fun _ _ _ _ _ _ _ => rfl)
      (case hme_e8 => exact fun _ => ⟨_, by rfl⟩)
      (case d1_e8 => decide)
      (case d2_e8 => decide)
      (case d3_e8 => decide)
      (case d4_e8 => decide)
    case e9_ =>
      refine' K01.mk_c1 (by assumption) (by assumption) ?aC_e9 ?q_e9 ?over_e9 ?hd_e9 ?sa_e9 ?sB_e9 ?sBB_e9 ?sC_e9 ?ty_e9 ?kp_e9 ?ga_e9 ?gg_e9 ?sup_e9 ?nt_e9 ?init_e9 ?tyf_e9 ?l_e9 ?cd_e9 ?cell_e9 ?file_e9 ?hvs_e9 ?hfl_e9 ?top_e9 ?zs_e9 ?tk_e9 ?no_e9 ?sBd_e9 ?iB_e9 ?tB_e9 ?kE_e9 ?hac_e9 ?hnc_e9 ?htc_e9 ?hmo_e9 ?bkw_e9 ?bps_e9 ?hme_e9 ?d1_e9 ?d2_e9 ?d3_e9 ?d4_e9
      (case aC_e9 => k_is)
      (case q_e9 => kx_is)
      (case over_e9 => kx_is)
      (case hd_e9 => k_is)
      (case sa_e9 => k_is)
      (case sB_e9 => k_is)
      (case sBB_e9 => k_is)
      (case sC_e9 => k_is)
      (case ty_e9 => k_is)
      (case kp_e9 => k_is)
      (case ga_e9 => k_is)
      (case gg_e9 => k_is)
      (case sup_e9 => ks_is)
      (case nt_e9 => k_is)
      (case init_e9 => k_is)
      (case tyf_e9 => k_is)
      (case l_e9 => k_is)
      (case cd_e9 => k_is)
      (case cell_e9 => k_is)
      (case file_e9 => k_is)
      (case hvs_e9 => rfl)
      (case hfl_e9 => rfl)
      (case top_e9 => rfl)
      (case zs_e9 => k_is)
      (case tk_e9 => k_is)
      (case no_e9 => k_is)
      (case sBd_e9 => k_is)
      (case iB_e9 => k_is)
      (case tB_e9 => k_is)
      (case kE_e9 => decide +kernel)
      (case hac_e9 => k_is)
      (case hnc_e9 => k_is)
      (case htc_e9 => k_is)
      (case hmo_e9 => k_is)
      (case bkw_e9 => exact fun _ _ _ _ _ _ _ => by kernel_rfl)
      (case bps_e9 => exact fun _ _ _ _ _ _ _ => rfl)
      (case hme_e9 => exact fun _ => ⟨_, by rfl⟩)
      (case d1_e9 => decide)
      (case d2_e9 => decide)
      (case d3_e9 => decide)
      (case d4_e9 => decide)
    case e10_ =>
      refine' K01.mk_c1 (by assumption) (by assumption) ?aC_e10 ?q_e10 ?over_e10 ?hd_e10 ?sa_e10 ?sB_e10 ?sBB_e10 ?sC_e10 ?ty_e10 ?kp_e10 ?ga_e10 ?gg_e10 ?sup_e10 ?nt_e10 ?init_e10 ?tyf_e10 ?l_e10 ?cd_e10 ?cell_e10 ?file_e10 ?hvs_e10 ?hfl_e10 ?top_e10 ?zs_e10 ?tk_e10 ?no_e10 ?sBd_e10 ?iB_e10 ?tB_e10 ?kE_e10 ?hac_e10 ?hnc_e10 ?htc_e10 ?hmo_e10 ?bkw_e10 ?bps_e10 ?hme_e10 ?d1_e10 ?d2_e10 ?d3_e10 ?d4_e10
      (case aC_e10 => k_is)
      (case q_e10 => kx_is)
      (case over_e10 => kx_is)
      (case hd_e10 => k_is)
      (case sa_e10 => k_is)
      (case sB_e10 => k_is)
      (case sBB_e10 => k_is)
      (case sC_e10 => k_is)
      (case ty_e10 => k_is)
      (case kp_e10 => k_is)
      (case ga_e10 => k_is)
      (case gg_e10 => k_is)
      (case sup_e10 => ks_is)
      (case nt_e10 => k_is)
      (case init_e10 => k_is)
      (case tyf_e10 => k_is)
      (case l_e10 => k_is)
      (case cd_e10 => k_is)
      (case cell_e10 => k_is)
      (case file_e10 => k_is)
      (case hvs_e10 => rfl)
      (case hfl_e10 => rfl)
      (case top_e10 => rfl)
      (case zs_e10 => k_is)
      (case tk_e10 => k_is)
      (case no_e10 => k_is)
      (case sBd_e10 => k_is)
      (case iB_e10 => k_is)
      (case tB_e10 => k_is)
      (case kE_e10 => decide +kernel)
      (case hac_e10 => k_is)
      (case hnc_e10 => k_is)
      (case htc_e10 => k_is)
      (case hmo_e10 => k_is)
      (case bkw_e10 => exact fun _ _ _ _ _ _ _ => by kernel_rfl)
      (case bps_e10 => exact fun _ _ _ _ _ _ _ => rfl)
      (case hme_e10 => exact fun _ => ⟨_, by rfl⟩)
      (case d1_e10 => decide)
      (case d2_e10 => decide)
      (case d3_e10 => decide)
      (case d4_e10 => decide)
    case e11_ =>
      refine' K01.mk_c1 (by assumption) (by assumption) ?aC_e11 ?q_e11 ?over_e11 ?hd_e11 ?sa_e11 ?sB_e11 ?sBB_e11 ?sC_e11 ?ty_e11 ?kp_e11 ?ga_e11 ?gg_e11 ?sup_e11 ?nt_e11 ?init_e11 ?tyf_e11 ?l_e11 ?cd_e11 ?cell_e11 ?file_e11 ?hvs_e11 ?hfl_e11 ?top_e11 ?zs_e11 ?tk_e11 ?no_e11 ?sBd_e11 ?iB_e11 ?tB_e11 ?kE_e11 ?hac_e11 ?hnc_e11 ?htc_e11 ?hmo_e11 ?bkw_e11 ?bps_e11 ?hme_e11 ?d1_e11 ?d2_e11 ?d3_e11 ?d4_e11
      (case aC_e11 => k_is)
      (case q_e11 => kx_is)
      (case over_e11 => kx_is)
      (case hd_e11 => k_is)
      (case sa_e11 => k_is)
      (case sB_e11 => k_is)
      (case sBB_e11 => k_is)
      (case sC_e11 => k_is)
      (case ty_e11 => k_is)
      (case kp_e11 => k_is)
      (case ga_e11 => k_is)
      (case gg_e11 => k_is)
      (case sup_e11 => ks_is)
      (case nt_e11 => k_is)
      (case init_e11 => k_is)
      (case tyf_e11 => k_is)
      (case l_e11 => k_is)
      (case cd_e11 => k_is)
      (case cell_e11 => k_is)
      (case file_e11 => k_is)
      (case hvs_e11 => rfl)
      (case hfl_e11 => rfl)
      (case top_e11 => rfl)
      (case zs_e11 => k_is)
      (case tk_e11 => k_is)
      (case no_e11 => k_is)
      (case sBd_e11 => k_is)
      (case iB_e11 => k_is)
      (case tB_e11 => k_is)
      (case kE_e11 => decide +kernel)
      (case hac_e11 => k_is)
      (case hnc_e11 => k_is)
      (case htc_e11 => k_is)
      (case hmo_e11 => k_is)
      (case bkw_e11 => exact fun _ _ _ _ _ _ _ => by kernel_rfl)
      (case bps_e11 => exact fun _ _ _ _ _ _ _ => rfl)
      (case hme_e11 => exact fun _ => ⟨_, by rfl⟩)
      (case d1_e11 => decide)
      (case d2_e11 => decide)
      (case d3_e11 => decide)
      (case d4_e11 => decide)
    case e12_ =>
      refine' K01.mk_c1 (by assumption) (by assumption) ?aC_e12 ?q_e12 ?over_e12 ?hd_e12 ?sa_e12 ?sB_e12 ?sBB_e12 ?sC_e12 ?ty_e12 ?kp_e12 ?ga_e12 ?gg_e12 ?sup_e12 ?nt_e12 ?init_e12 ?tyf_e12 ?l_e12 ?cd_e12 ?cell_e12 ?file_e12 ?hvs_e12 ?hfl_e12 ?top_e12 ?zs_e12 ?tk_e12 ?no_e12 ?sBd_e12 ?iB_e12 ?tB_e12 ?kE_e12 ?hac_e12 ?hnc_e12 ?htc_e12 ?hmo_e12 ?bkw_e12 ?bps_e12 ?hme_e12 ?d1_e12 ?d2_e12 ?d3_e12 ?d4_e12
      (case aC_e12 => k_is)
      (case q_e12 => kx_is)
      (case over_e12 => kx_is)
      (case hd_e12 => k_is)
      (case sa_e12 => k_is)
      (case sB_e12 => k_is)
      (case sBB_e12 => k_is)
      (case sC_e12 => k_is)
      (case ty_e12 => k_is)
      (case kp_e12 => k_is)
      (case ga_e12 => k_is)
      (case gg_e12 => k_is)
      (case sup_e12 => ks_is)
      (case nt_e12 => k_is)
      (case init_e12 => k_is)
      (case tyf_e12 => k_is)
      (case l_e12 => k_is)
      (case cd_e12 => k_is)
      (case cell_e12 => k_is)
      (case file_e12 => k_is)
      (case hvs_e12 => rfl)
      (case hfl_e12 => rfl)
      (case top_e12 => rfl)
      (case zs_e12 => k_is)
      (case tk_e12 => k_is)
      (case no_e12 => k_is)
      (case sBd_e12 => k_is)
      (case iB_e12 => k_is)
      (case tB_e12 => k_is)
      (case kE_e12 => decide +kernel)
      (case hac_e12 => k_is)
      (case hnc_e12 => k_is)
      (case htc_e12 => k_is)
      (case hmo_e12 => k_is)
      (case bkw_e12 => exact fun _ _ _ _ _ _ _ => by kernel_rfl)
      (case bps_e12 => exact fun _ _ _ _ _ _ _ => rfl)
      (case hme_e12 => exact fun _ => ⟨_, by rfl⟩)
      (case d1_e12 => decide)
      (case d2_e12 => decide)
      (case d3_e12 => decide)
      (case d4_e12 => decide)
    case e13_ =>
      refine' K01.mk_c2 (by assumption) (by assumption) ?aC_e13 ?q_e13 ?over_e13 ?hd_e13 ?sa_e13 ?sB_e13 ?sBB_e13 ?sC_e13 ?ty_e13 ?kp_e13 ?ga_e13 ?gg_e13 ?sup_e13 ?nt_e13 ?init_e13 ?tyf_e13 ?l_e13 ?cd_e13 ?cell_e13 ?file_e13 ?hvs_e13 ?hfl_e13 ?top_e13 ?zs_e13 ?tk_e13 ?tk2_e13 ?no_e13 ?no2_e13 ?sBd_e13 ?iB_e13 ?tB_e13 ?kE_e13 ?hac_e13 ?hnc_e13 ?htc_e13 ?hmo_e13 ?bkw_e13 ?hme_e13
      (case aC_e13 => k_is)
      (case q_e13 => kx_is)
      (case over_e13 => kx_is)
      (case hd_e13 => k_is)
      (case sa_e13 => k_is)
      (case sB_e13 => k_is)
      (case sBB_e13 => k_is)
      (case sC_e13 => k_is)
      (case ty_e13 => k_is)
      (case kp_e13 => k_is)
      (case ga_e13 => k_is)
      (case gg_e13 => k_is)
      (case sup_e13 => ks_is)
      (case nt_e13 => k_is)
      (case init_e13 => k_is)
      (case tyf_e13 => k_is)
      (case l_e13 => k_is)
      (case cd_e13 => k_is)
      (case cell_e13 => k_is)
      (case file_e13 => k_is)
      (case hvs_e13 => rfl)
      (case hfl_e13 => rfl)
      (case top_e13 => rfl)
      (case zs_e13 => k_is)
      (case tk_e13 => k_is)
      (case tk2_e13 => k_is)
      (case no_e13 => k_is)
      (case no2_e13 => k_is)
      (case sBd_e13 => k_is)
      (case iB_e13 => k_is)
      (case tB_e13 => k_is)
      (case kE_e13 => decide +kernel)
      (case hac_e13 => k_is)
      (case hnc_e13 => k_is)
      (case htc_e13 => k_is)
      (case hmo_e13 => k_is)
      (case bkw_e13 => exact fun _ _ _ _ _ _ _ _ => by kernel_rfl)
      (case hme_e13 => exact fun _ => ⟨_, by rfl⟩)
    case e14_ =>
      refine' K01.mk_c0 (by assumption) (by assumption) ?aC_e14 ?q_e14 ?hd_e14 ?sB_e14 ?sBB_e14 ?kp_e14 ?ga_e14 ?gg_e14 ?sBd_e14 ?iB_e14 ?tB_e14 ?kE_e14 ?hac_e14 ?hnc_e14 ?htc_e14 ?hmo_e14
      (case aC_e14 => k_is)
      (case q_e14 => k_exc)
      (case hd_e14 => k_is)
      (case sB_e14 => k_is)
      (case sBB_e14 => k_is)
      (case kp_e14 => k_is)
      (case ga_e14 => k_is)
      (case gg_e14 => k_is)
      (case sBd_e14 => k_is)
      (case iB_e14 => k_is)
      (case tB_e14 => k_is)
      (case kE_e14 => decide +kernel)
      (case hac_e14 => k_is)
      (case hnc_e14 => k_is)
      (case htc_e14 => k_is)
      (case hmo_e14 => k_is)
    case e15_ =>
      refine' K01.mk_c0 (by assumption) (by assumption) ?aC_e15 ?q_e15 ?hd_e15 ?sB_e15 ?sBB_e15 ?kp_e15 ?ga_e15 ?gg_e15 ?sBd_e15 ?iB_e15 ?tB_e15 ?kE_e15 ?hac_e15 ?hnc_e15 ?htc_e15 ?hmo_e15
      (case aC_e15 => k_is)
      (case q_e15 => k_exc)
      (case hd_e15 => k_is)
      (case sB_e15 => k_is)
      (case sBB_e15 => k_is)
      (case kp_e15 => k_is)
      (case ga_e15 => k_is)
      (case gg_e15 => k_is)
      (case sBd_e15 => k_is)
      (case iB_e15 => k_is)
      (case tB_e15 => k_is)
      (case kE_e15 => decide +kernel)
      (case hac_e15 => k_is)
      (case hnc_e15 => k_is)
      (case htc_e15 => k_is)
      (case hmo_e15 => k_is)
end
