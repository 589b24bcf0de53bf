import PyProof.Rows.All
import Wide.All
import OpenK.AllK
import Wide.FinOn
import PyProof.EqAt
import PyProof.EqKinds
import PyProof.TupleCall
import KE.KExcSuper
import HandS.ForMost
import HandS.ForExc
import HandS.ExcField
import HandS.ExcIs
import HandS.IsInst
import KE.KExcIs
import KE.KLam
import KE.KDflt
import HandS.Lambda
import PyProof.ReprRoads
import KE.GoesMore
import KE.GoesNew
import HandS.Zip
import HandS.Walk
import KE.GoesEnum
import HandS.Star
import HandS.Style
import HandS.TupAny
import HandS.Wide
import PySem.Challenge.RW_aliveatonce_k87_inputs_told_in_bytes
import HandS.EndTab
import HandS.Ends
set_option Elab.async false
set_option linter.all false
set_option maxRecDepth 100000
set_option maxHeartbeats 4000000
/-! Errors of one field, whose __init__ hands it to super().__init__ and keeps it; their base is a class over ValueError. -/
namespace PySem
namespace AlE
open PySem.W PySem.Calls PyProof.Rows PySem.HandSPX
def iA (p : Str) (p1 p2 : Pos) : Arguments := { posonlyargs := [], args := [{ arg := "self", annotation := none, pos := p1 }, { arg := p, annotation := none, pos := p2 }], vararg := none, kwonlyargs := [], kw_defaults := [], kwarg := none, defaults := [] }
def iB (p : Str) (q1 q2 q3 q4 q5 q6 r1 r2 r3 r4 : Pos) : List Stmt :=
  [.Expr (.Call (.Attribute (.Call (.Name "super" q1) [] [] q2) "__init__" q3) [.Name p q4] [] q5) q6, .Assign [.Attribute (.Name "self" r1) p r2] (.Name p r3) r4]
def iS (p : Str) : Scope := { kind := .function, names := [(PySem.Str.ofString "self", .local), (p, .local), (PySem.Str.ofString "__class__", .free), (PySem.Str.ofString "super", .globalImplicit)], isGenerator := false, isCoroutine := false, more := [] }
/-- what the written part says of the class n at C and of its __init__ at fI, whose field is p -/
structure ErrTxt (prog : Program) (K : Frag) (mg : Str → Option Value) (C fI : Addr) (n p : Str) : Prop where
  gC : mg n = some (.ref C)
  cls : ∃ nm q N bs bm sn sub ab col dd k0 k1 k2 k3 k5, K.lookup C = some (excClassObj nm q C N bs bm true sn sub ab col dd k0 k1 k2 k3 k5 "ValueError.__new__") ∧ refsVE bm = true
  sa : findIn K (.ref C) "__setattr__" = some (some (.builtin "object.__setattr__"))
  noN : findIn K (.ref C) p = some none
  iC : findIn K (.ref C) "__init__" = some (some (.ref fI))
  tC : typeIn K (.ref fI) = some (.type "function")
  kC : keepIn K (.ref C) = true
  exC : subIn K (.ref C) (.type "BaseException") = some true
  tyC : typeIn K (.ref C) = some (.type "type")
  su : ks_superIn K C C "__init__" = some (some (.builtin "ValueError.__init__"))
  sub : mroIn K C (.ref C) = some true
  ve : subIn K (.ref C) (.type "ValueError") = some true
  nsup : mg "super" = none
  opq : nsIn K cStatics "thirdparty.any" = some none
  htop : (prog.main.scope.names.lookup ("super" : Str)).isSome = false
  fn : ∃ (oc : Value) (od : Option Addr) (doc pm : Value) (an : Option Addr) (cda cc : Addr) (ct : Value) (osl : Array (Option Value)) (p1 p2 q1 q2 q3 q4 q5 q6 r1 r2 r3 r4 : Pos) (qn : Str),
    K.lookup fI = some ⟨oc, od, .func (ksFn "__init__" qn (iA p p1 p2) (iB p q1 q2 q3 q4 q5 q6 r1 r2 r3 r4) (iS p) .none .none doc pm an (.ref cda) ct cc), osl⟩ ∧ codeIn K (.ref cda) qn = true ∧ (q3.endLine == q5.line) = true ∧
    (∃ ccl cdd vs ccs file tf, K.lookup cda = some ⟨ccl, cdd, .fields vs, ccs⟩ ∧ vs[2]? = some (.str file tf) ∧ ((prog.main.file : Str) == file) = true) ∧ ∃ cl cld csl, K.lookup cc = some ⟨cl, cld, .cell (some (.ref C)), csl⟩
/-- a name that may be such a field -/
structure NameOk (p : Str) : Prop where
  self : (p == ("self" : Str)) = false
  cl : (p == ("__class__" : Str)) = false
  su : (p == ("super" : Str)) = false
  db : (p == ("__debug__" : Str)) = false
  bind : ∀ (qn : Str) (p1 p2 : Pos) (body : List Stmt) (doc pm cdv ct a b : Value) (an : Option Addr) (cc : Addr), bindArgs (ksFn "__init__" qn (iA p p1 p2) body (iS p) .none .none doc pm an cdv ct cc) ⟨[a, b], []⟩ = pure [(("self" : Str), a), (p, b)]
theorem one_size (v : Value) : [v].length ≤ sizeLine := by
  rw [sizeLine_eq]
  exact (by decide : 1 ≤ 16777216)
theorem mcall_at {M : Model} {A : Around} {E : Value → Shared → Prop} {s : Shared} {c : Code} {env : Env} {o e1 : Expr} {m : Str} {apos pos : Pos} {Q : Value → Shared → Prop} (hp : (apos.endLine == pos.line) = true)
    (hst : starEach [e1] env = [(false, eval e1 env)])
    (h : wpAt M A c (attributeBase o m env (eval o env)) (fun ov s₁ => wpAny M A (getMethod ov m (do return (← importBound o env).getD true)) (fun fx s₂ => wpAny M A (callWith pos fx.1 fx.2 (backTo pos (starEach [e1] env)) []) Q E s₂) E s₁) E s) :
    wpAt M A c (eval (.Call (.Attribute o m apos) [e1] [] pos) env) Q E s := by
  have hke : backToKw pos (keywordEach [] env) = [] := rfl
  have hform : methodCallForm ([e1].length + ([] : List Keyword).length) (backTo pos (starEach [e1] env)) [] = true := by rw [hst]; rfl
  have hpos : methodCallPos true o env apos pos = pure pos := by unfold methodCallPos; rw [hp] <;> rfl
  have hcal : ∀ ov, calleeOf true o env ov m = getMethod ov m (do return (← importBound o env).getD true) := fun _ => rfl
  rw [arm_eval_Call, hke]
  refine wpAt_bind (ks_wpAt_mono h (fun ov s₁ h₁ => wpAt_of_wpAny (wpAny_bind (wpAny_standAt ?_))) fun _ _ x => x)
  unfold methodCall
  rw [hform, hpos, hcal]
  refine wpAny_bind (wpAny_holding (wpAny_mono h₁ (fun fx s₂ h₂ => ?_) fun _ _ x => x))
  obtain ⟨f, first⟩ := fx
  exact wpAny_bind (wpAny_pure h₂)
/-- what __init__ leaves of a fresh exception at x -/
structure InitEnd (p : Str) (h h' : Heap) (x C dx : Addr) (v : Value) : Prop where
  keep : ∀ b o, b ≠ x → h.get? b = some o → h'.get? b = some o
  obj : ∃ t1, h'.get? x = some { cls := .ref C, dict := some dx, data := .fields #[.ref t1, .none, .none, .none, .bool false, .none] }
  dbig : h.objs.size ≤ dx
  dne : dx ≠ x
  ns : h'.Ns1 dx (fun y => if y = p then some v else none)
/-- a made error -/
structure OwnMade (p : Str) (h h' : Heap) (e C d : Addr) (v : Value) : Prop where
  keep : ∀ b o, h.get? b = some o → h'.get? b = some o
  new : h.objs.size ≤ e
  obj : ∃ oe vs, h'.get? e = some oe ∧ oe.cls = .ref C ∧ oe.dict = some d ∧ oe.data = .fields vs ∧ vs[1]? = some .none
  dbig : h.objs.size ≤ d
  dne : d ≠ e
  ns : h'.Ns1 d (fun y => if y = p then some v else none)
section
variable {prog : Program} {w : World} {A : Around} {E : Value → Shared → Prop} {R : Result → Shared → Prop} {s : Shared} {K : Frag} {mg mb : Str → Option Value} {C fI : Addr} {n p : Str}
theorem err_init (T : ErrTxt prog K mg C fI n p) (P : NameOk p) {x t0 : Addr} {v : Value} (X : K.In s.heap) (hg : s.heap.Ns mainGlobals mg) (hb : s.heap.Ns builtinsNs mb) (hbb : ∀ x : Str, x ≠ "__name__" → mb x = bootBuiltins x)
    (hlim : s.heap.NoLimit) (hx : s.heap.get? x = some (excO C t0)) (hnx : K.lookup x = none) (hroom : A.depth < recursionLimit)
    (hq : ∀ h' tk dx, InitEnd p s.heap h' x C dx v → R (.ok (.ret .none)) { s with heap := h', toks := tk }) :
    codeAny (model prog w) A (.call (.ref fI) ⟨[.ref x, v], []⟩) R s := by
  obtain ⟨oc, od, doc, pm, an, cda, cc, ct, osl, p1, p2, q1, q2, q3, q4, q5, q6, r1, r2, r3, r4, qn, ho, hcd, hps, ⟨ccl, cdd, vs, ccs, file, tf, hcode, hvs, hfile⟩, cl, cld, csl, hcell⟩ := T.fn
  obtain ⟨nm, q, N, bs, bm, sn, sub, ab, col, dd, k0, k1, k2, k3, k5, hC, hbm⟩ := T.cls
  have hcl : clsIn K C = some { name := nm, bases := bs, mro := .ref C :: bm, ns := N, qualname := q, hasDict := true, slotNames := sn, subclasses := sub, abstract := ab, collection := col, hasDel := false } := by unfold clsIn; rw [hC] <;> rfl
  have lks : (iS p).names.lookup ("super" : Str) = some .globalImplicit := by
    have e : (("super" : Str) == p) = false := by rw [Bool.eq_false_iff]; intro z; have := beq_iff_eq.mp z; rw [← this] at P; exact absurd P.su (by decide)
    show List.lookup ("super" : Str) [(PySem.Str.ofString "self", NameKind.local), (p, .local), (PySem.Str.ofString "__class__", .free), (PySem.Str.ofString "super", .globalImplicit)] = _
    simp only [List.lookup, e]
    rfl
  have lkc : (iS p).names.lookup ("__class__" : Str) = some .free := by
    have e : (("__class__" : Str) == p) = false := by rw [Bool.eq_false_iff]; intro z; have := beq_iff_eq.mp z; rw [← this] at P; exact absurd P.cl (by decide)
    show List.lookup ("__class__" : Str) [(PySem.Str.ofString "self", NameKind.local), (p, .local), (PySem.Str.ofString "__class__", .free), (PySem.Str.ofString "super", .globalImplicit)] = _
    simp only [List.lookup, e]
    rfl
  have lkp : (iS p).names.lookup p = some .local := by
    have e : (p == PySem.Str.ofString "self") = false := P.self
    show List.lookup p [(PySem.Str.ofString "self", NameKind.local), (p, .local), (PySem.Str.ofString "__class__", .free), (PySem.Str.ofString "super", .globalImplicit)] = _
    simp only [List.lookup, e, beq_self_eq_true]
  have lkself : (iS p).names.lookup ("self" : Str) = some .local := by
    show List.lookup ("self" : Str) [(PySem.Str.ofString "self", NameKind.local), (p, .local), (PySem.Str.ofString "__class__", .free), (PySem.Str.ofString "super", .globalImplicit)] = _
    simp only [List.lookup]
    rfl
  refine ks_codeAny_call_defAt (fd := ksFn "__init__" qn (iA p p1 p2) (iB p q1 q2 q3 q4 q5 q6 r1 r2 r3 r4) (iS p) .none .none doc pm an (.ref cda) ct cc) (body := iB p q1 q2 q3 q4 q5 q6 r1 r2 r3 r4) (binds := [("self", .ref x), (p, v)])
    hroom (X _ _ ho) rfl hlim (codeRec_of X hcd) rfl (BindsTo.of_eq (P.bind _ _ _ _ _ _ _ _ _ _ _ _)) ?_ ?_ (fun h₁ hns k => ?_) rfl rfl rfl
  · intro y hy
    have hy' : y = (PySem.Str.ofString "self", NameKind.local) ∨ y = (p, .local) ∨ y = (PySem.Str.ofString "__class__", .free) ∨ y = (PySem.Str.ofString "super", .globalImplicit) := by simpa [iS] using hy
    rcases hy' with rfl | rfl | rfl | rfl <;> (intro z; cases z)
  · intro y hy
    have hy' : y = (("self" : Str), Value.ref x) ∨ y = (p, v) := by simpa using hy
    rcases hy' with rfl | rfl
    · exact lkself
    · exact lkp
  have X₁ : K.In h₁ := X.keeps k
  have hx₁ := k _ _ hx
  have hg₁ := hg.keeps k
  have hb₁ := hb.keeps k
  have hv : (fun y => List.lookup y (List.reverse [(("self" : Str), Value.ref x), (p, v)])) ("self" : Str) = some (.ref x) := by
    have e : (("self" : Str) == p) = false := by rw [Bool.eq_false_iff]; intro z; have := beq_iff_eq.mp z; rw [← this] at P; exact absurd P.self (by decide)
    show List.lookup ("self" : Str) [(p, v), (("self" : Str), Value.ref x)] = _
    simp only [List.lookup, e, beq_self_eq_true]
  have hv2 : (fun y => List.lookup y (List.reverse [(("self" : Str), Value.ref x), (p, v)])) p = some v := by
    show List.lookup p [(p, v), (("self" : Str), Value.ref x)] = _
    simp only [List.lookup, beq_self_eq_true]
  have xC : x ≠ C := by
    rintro rfl
    have e := X _ _ hC
    rw [hx] at e
    cases e
  have Ix : InstAt h₁ x (excO C t0) C none := ⟨hx₁, rfl, rfl, trivial⟩
  -- super().__init__(part)
  refine ks_wpAt_execs_cons (ks_wpAt_Expr_any (mcall_at hps (by rfl) ?_))
  obtain ⟨hh, g, d, t, os⟩ := s
  obtain ⟨oD, hD1, hD2⟩ : ∃ oD, h₁.get? C = some oD ∧ ∃ cdD, oD.data = .cls cdD := by
    have e := X₁ _ _ hC
    exact ⟨_, e, _, rfl⟩
  obtain ⟨cdD, hD2⟩ := hD2
  refine ks_wpAt_super_base (env := ksEnv qn (iS p) hh.objs.size fI (.ref cda) cc) lks lkc (by decide) rfl (X₁ _ _ ho) rfl rfl rfl (X₁ _ _ hcode) rfl hvs hfile T.htop ?_
  refine ks_loadName_global rfl lks (loadGlobal_builtin (env := ksEnv qn (iS p) hh.objs.size fI (.ref cda) cc) hg₁ T.nsup hb₁ ((hbb _ (by decide +kernel)).trans (by first | boot_by_name | rfl | kernel_rfl)) ⟨rfl, ?_⟩)
  refine wpAny_loadName_free rfl lkc rfl ⟨_, X₁ _ _ hcell, rfl⟩ ?_
  refine wpAny_loadName_local rfl lkself hns hv ?_
  refine ks_wpAny_isType_cls hD1 hD2 ⟨rfl, ?_⟩
  refine ks_wpAny_call_super hD1 hD2 hx₁ rfl (fun c e => nomatch e) (looks_mroIn X₁ T.sub) (fun h₂ eso k₂ => ?_)
  have X₂ : K.In h₂ := X₁.keeps k₂
  have hx₂ := k₂ _ _ hx₁
  have Ix₂ : InstAt h₂ x (excO C t0) C none := ⟨hx₂, rfl, rfl, trivial⟩
  have su := T.su
  unfold ks_superIn at su
  rw [hcl] at su
  refine kxs_getMethod kxs_ValueError eso (looks_opaque X₂ T.opq) (l₀ := .ref C :: bm) ?_ rfl X₂ su (Ix₂.type.andThen (looks_subIn X₂ T.ve)) xC (by decide) ?_
  · exact fun A Q E s k q => wpAny_bind ((looks_clsIn X₂ hcl) A _ E s k (wpAny_pure q))
  have hmw : (h₂.push (kxs_mw "ValueError.__init__" x)).get? h₂.objs.size = some (kxs_mw "ValueError.__init__" x) := Heap.get?_push_at rfl rfl
  have k₃ : ∀ b o, h₂.get? b = some o → (h₂.push (kxs_mw "ValueError.__init__" x)).get? b = some o := fun b o e => Heap.get?_push_of_some _ e
  have hns₃ : (h₂.push (kxs_mw "ValueError.__init__" x)).Ns hh.objs.size _ := (hns.keeps k₂).keeps k₃
  have hx₃ := k₃ _ _ hx₂
  have X₃ : K.In (h₂.push (kxs_mw "ValueError.__init__" x)) := X₂.keeps k₃
  have hC₃ := X₃ _ _ hC
  generalize hh₃ : h₂.push (kxs_mw "ValueError.__init__" x) = h₃ at hmw k₃ hns₃ hx₃ X₃ hC₃ ⊢
  refine kxs_callWith (i := "ValueError.__init__") (x := x) rfl ?_
  refine evalArgs_plain (x := eval (.Name p q4) (ksEnv qn (iS p) hh.objs.size fI (.ref cda) cc)) (rest := []) (Calls.spliced_cons (wpAny_Name (wpAny_loadName_local rfl lkp hns₃ hv2 ?_) P.db))
  refine Calls.spliced_nil ⟨hmw, ?_⟩
  refine wpAny_call (codeAny_of_tree ?_)
  show wpAny _ _ (callAny (.ref h₂.objs.size) ⟨[v], []⟩) _ _ _
  simp only [callAny]
  refine wpAny_bind (wpAny_load hmw ?_)
  simp only [kxs_mw, show (Value.type "method-wrapper" == Value.type "method" || Value.type "method-wrapper" == Value.type "builtin_function_or_method" || Value.type "method-wrapper" == Value.type "method-wrapper") = true by decide, if_true]
  refine KFB.if_so (by decide) ?_
  refine wpAny_bind (check_bound_init PySem.F.excBase_ValueError.toExcCallFacts hC₃ hx₃ rfl ?_)
  refine wpAny_bind (wpAny_pure (wpAny_pure ?_))
  refine ⟨plainId_quiet PySem.F.excBase_ValueError.init.plain _, codeAny_builtin PySem.F.excBase_ValueError.initEntry ?_⟩
  refine exc_init_tree (cls := .ref C) (t0 := t0) (dv := none) (c2 := .none) (c3 := .none) (b4 := .bool false) hx₃ (one_size v) fun h₄ k₄ hx₄ ht₄ => ?_
  have X₄ : K.In h₄ := fun a o e => k₄ a o (fun z => by rw [z, hnx] at e; cases e) (X₃ a o e)
  have hLx : hh.objs.size ≠ x := Nat.ne_of_gt (Heap.lt_size hx)
  have hns₄ : h₄.Ns hh.objs.size (fun y => List.lookup y (List.reverse [(("self" : Str), Value.ref x), (p, v)])) := by
    obtain ⟨o, es, ep, ho', r⟩ := hns₃
    exact ⟨o, es, ep, k₄ _ _ hLx ho', r⟩
  show wpAt _ _ _ (execs [Stmt.Assign [(Expr.Name (Str.ofString "self") r1).Attribute p r2] (Expr.Name p r3) r4] (ksEnv qn (iS p) hh.objs.size fI (.ref cda) cc)) _ _ _
  refine wpAt_of_wpAny (wpAny_execs_cons (plainObj_wpAny_Assign_Attribute ?_))
  refine wpAny_Name (wpAny_loadName_local rfl lkp hns₄ hv2 ?_) P.db
  refine wpAny_Name (wpAny_loadName_local rfl lkself hns₄ hv ?_) (by decide)
  refine set_plain X₄ (ox := excO C h₃.objs.size) (od := none) ⟨hx₄, rfl, rfl, trivial⟩ T.sa ?_
  refine exc_osa X₄ hx₄ hcl (show refsVE (.ref C :: bm) = true from hbm) rfl T.noN (fun h₅ tk₅ dx k₅ dn dne hx₅ hn₅ => ?_)
  show wpAny _ _ (execs _ _) _ _ _
  refine wpAny_execs_nil (hq h₅ tk₅ dx ⟨fun b o hb e => ?_, ⟨_, hx₅⟩, ?_, dne, hn₅⟩)
  · exact k₅ b o hb (k₄ b o hb (by rw [← hh₃] at *; exact k₃ b o (k₂ b o (k b o e))))
  · have z1 : hh.objs.size < h₁.objs.size := hns.lt
    have z4 : hh.objs.size < h₄.objs.size := hns₄.lt
    exact Nat.le_of_lt (Nat.lt_of_lt_of_le z4 dn)
theorem err_made (T : ErrTxt prog K mg C fI n p) (P : NameOk p) {v : Value} (X : K.In s.heap) (hg : s.heap.Ns mainGlobals mg) (hb : s.heap.Ns builtinsNs mb) (hbb : ∀ x : Str, x ≠ "__name__" → mb x = bootBuiltins x) (hlim : s.heap.NoLimit)
    (hroom : A.depth + 1 < recursionLimit)
    (hq : ∀ h' tk e d, OwnMade p s.heap h' e C d v → R (.ok (.ret (.ref e))) { s with heap := h', toks := tk }) :
    codeAny (model prog w) A (.call (.ref C) ⟨[v], []⟩) R s := by
  obtain ⟨nm, q, N, bs, bm, sn, sub, ab, col, dd, k0, k1, k2, k3, k5, hC, hbm⟩ := T.cls
  obtain ⟨hp, g, dr, tk, os⟩ := s
  have k : ∀ b o, hp.get? b = some o → ((hp.push (kdv_tup [v])).push (excO C hp.objs.size)).get? b = some o := fun b o e => Heap.get?_push_of_some _ (Heap.get?_push_of_some _ e)
  have hget : ((hp.push (kdv_tup [v])).push (excO C hp.objs.size)).get? (hp.objs.size + 1) = some (excO C hp.objs.size) := by heap_get
  have hnx : K.lookup (hp.objs.size + 1) = none := by
    cases e : K.lookup (hp.objs.size + 1) with
    | none => rfl
    | some o =>
      have z : hp.get? (hp.objs.size + 1) = some o := X _ _ e
      exact absurd (Nat.lt_of_succ_lt (Heap.lt_size z)) (Nat.lt_irrefl _)
  refine call_own PySem.F.excBase_ValueError (fun X => refsVE_contains X bm hbm) (X _ _ hC) (looks_findIn X T.iC) (fun self => bind_fn X self T.tC) (one_size v) ?_
  refine err_init (s := ⟨(hp.push (kdv_tup [v])).push (excO C hp.objs.size), g, dr, tk, os⟩) T P (X.keeps k) (hg.keeps k) (hb.keeps k) hbb (hlim.keeps k) hget hnx ?_ fun h' tk' dx ⟨k', ⟨t1, hx⟩, dn, dne, hns⟩ => ?_
  · show A.depth + 1 < recursionLimit
    exact hroom
  · have old : ∀ b o, hp.get? b = some o → h'.get? b = some o := fun b o e => k' b o (Nat.ne_of_lt (Nat.lt_succ_of_lt (Heap.lt_size e))) (k b o e)
    have z : hp.objs.size + 1 + 1 ≤ dx := by
      first
        | (simpa only [Heap.size_push] using dn)
        | exact dn
        | (have q := dn; rw [Heap.size_push, Heap.size_push] at q; exact q)
    exact ⟨rfl, hq h' tk' (hp.objs.size + 1) dx ⟨old, Nat.le_succ _, ⟨_, _, hx, rfl, rfl, rfl, rfl⟩, Nat.le_trans (Nat.le_trans (Nat.le_succ _) (Nat.le_succ _)) z, dne, hns⟩⟩
end
end AlE
end PySem
namespace L2
open PySem PySem.Spec PyProof.Rows
theorem relO_one {v : V} {v' : Value} {p : Str} (r : RelV v v') (f : Str) : RelO (List.lookup f [(p, v)]) (if f = p then some v' else none) := by
  by_cases hw : f = p
  · subst hw
    rw [if_pos rfl]
    have q : List.lookup f [(f, v)] = some v := by simp [List.lookup]
    rw [q]
    exact r
  · rw [if_neg hw]
    have qw : (f == p) = false := by simpa using hw
    have q2 : List.lookup f [(p, v)] = none := by simp [List.lookup, qw]
    rw [q2]
    trivial
section
variable {X : Cx} {C fI : Addr} {n pn : Str}
/-- n(e): an error with its field -/
def tMkErr (C : Addr) (pn : Str) (ta : TA) : St → Hp → XK → Prop := fun σ H Q => ta σ H fun vs H1 => ∃ v, vs = [v] ∧ ∀ d, H1 d = none → Q (.ref C) (some d) (upd H1 d (.xd [(pn, v)]))
theorem pmk_err {a : Expr} {ta : TA} {p pos : Pos} {k : Nat} (T : PySem.AlE.ErrTxt X.prog X.K X.mg C fI n pn) (P : PySem.AlE.NameOk pn) (hr : Room k X.A) (ha : PA X [a] ta) (hg : Gl X n := by rfl) (hd : (n == ("__debug__" : Str)) = false := by decide)
    (he : starEach (a :: []) X.env = (false, eval a X.env) :: starEach [] X.env := by rfl) (hpl : (backTo pos (starEach [] X.env)).any (·.1) = false := by rfl) :
    PMk X (.Call (.Name n p) [a] [] pos) (tMkErr C pn ta) := by
  intro pins s σ H Q I h
  refine wpAny_Call_Name_kw (ld_glob I hg T.gC ?_ hd)
  refine PySem.W.callWith_K (h₀ := X.base) I.ok.mod.kin T.kC (thn (ha.run pos pins s σ H _ I h) fun us s1 hh => ?_) he hpl
  obtain ⟨vs, H1, I1, r1, v, ev, q1⟩ := hh
  subst ev
  refine ⟨I1.kIn, ?_⟩
  cases r1 with
  | cons rv rn =>
    rename_i v' us'
    cases rn
    show wpAny _ _ (call (.ref C) [v']) _ _ _
    have hlim := I1.nolimit
    obtain ⟨mb, hb1, hb2⟩ := I1.mod.blt
    have hgl := I1.mod.glob.keeps I1.bk
    have hbl := hb1.keeps I1.bk
    have kin := I1.kIn
    obtain ⟨hp, g, dr, tk, os⟩ := s1
    refine wpAny_call (PySem.AlE.err_made T P kin hgl hbl hb2 hlim (by have := hr.dp; omega) fun h' tk' e d M => ?_)
    show MkP X pins σ Q (.ref e) ⟨h', g, dr, tk', os⟩
    obtain ⟨oe, fv, hoe, hc, hd, hdat, h1⟩ := M.obj
    have hns := M.ns
    obtain ⟨G', g1, g2⟩ := restrict h' fun b => decide (b ≠ e)
    have gk : ∀ b, b ≠ e → G'.get? b = h'.get? b := fun b hb => g1 b (decide_eq_true hb)
    have ge : G'.get? e = none := g2 e (by simp)
    have old : ∀ b o, hp.get? b = some o → G'.get? b = some o := fun b o q => (gk b (Nat.ne_of_lt (Nat.lt_of_lt_of_le (Heap.lt_size q) M.new))).trans (M.keep b o q)
    have ob : ObjOk X.prog X.w (upd H1 d (.xd [(pn, v)])) G' d (.xd [(pn, v)]) :=
      ⟨_, hns.at (fun o q => (gk d M.dne).trans q), fun f => relO_one rv f⟩
    have J : Inv X pins σ (upd H1 d (.xd [(pn, v)])) ⟨G', g, dr, tk', os⟩ := I1.laid (t' := tk') old M.dbig ob
    refine ⟨e, oe, fv, ⟨G', g, dr, tk', os⟩, _, .ref C, some d, rfl, J, fun b o q => ?_, ge, hoe, ⟨hc, hd⟩, hdat, h1, ?_, rfl, I1.bare, raises_own T.exC T.tyC, q1 d (I1.hok.fresh M.dbig)⟩
    · by_cases hb : b = e
      · have q' : G'.get? b = some o := q
        rw [hb, ge] at q'; cases q'
      · exact (gk b hb).symm.trans q
    · rw [upd_ne (Ne.symm M.dne)]
      exact I1.hok.fresh M.new
/-- raise n(e) -/
def tRaiseErr (C : Addr) (pn : Str) (W : WX) (ta : TA) : TS := fun _ σ H => tMkErr C pn ta σ H fun cls d H' => W cls d σ H'
theorem ps_raiseErr {a : Expr} {ta : TA} {W : WX} {p pos pos2 : Pos} {k : Nat} (hc : X.calm = true) (T : PySem.AlE.ErrTxt X.prog X.K X.mg C fI n pn) (P : PySem.AlE.NameOk pn) (hr : Room k X.A) (tk : Takes X W) (ha : PA X [a] ta) (hg : Gl X n := by rfl) (hd : (n == ("__debug__" : Str)) = false := by decide)
    (he : starEach (a :: []) X.env = (false, eval a X.env) :: starEach [] X.env := by rfl) (hpl : (backTo pos (starEach [] X.env)).any (·.1) = false := by rfl) :
    PS X (.Raise (some (.Call (.Name n p) [a] [] pos)) none pos2) (tRaiseErr C pn W ta) := ps_raise hc tk (pmk_err T P hr ha hg hd he hpl)
end
end L2

set_option Elab.async false
set_option linter.all false
set_option maxRecDepth 100000
set_option maxHeartbeats 4000000
/-! try: body, except x as n: m = n: the error stays known, held by m. -/
namespace L2
open PySem PySem.Spec PyProof.Rows
/-- an error object at a, of the class cls, its own dict at d -/
def ErO (cls : Value) (d : Addr) (a : Addr) : HO := .ext fun h => ∃ (oe : Obj) (vs : Array Value), h.get? a = some oe ∧ Zc cls (some d) oe ∧ oe.data = .fields vs
theorem erO_ok {P : Program} {w : World} {H : Hp} {h : Heap} {a d : Addr} {cls : Value} {oe : Obj} {vs : Array Value} (e : h.get? a = some oe) (z : Zc cls (some d) oe) (hd : oe.data = .fields vs) : ObjOk P w H h a (ErO cls d a) :=
  ⟨⟨oe, vs, e, z, hd⟩, ⟨oe, e⟩, fun _ _ ⟨o, v, q, r⟩ k => ⟨o, v, k o q, r⟩⟩
section
variable {X : Cx} {pins : List (Addr × Obj)} {σ : St} {H : Hp} {s : Shared}
/-- an object that stands, untracked so far, is tracked from now on -/
theorem Inv.track {a : Addr} {o : HO} (I : Inv X pins σ H s) (ha : H a = none) (h0 : X.s_0.heap.get? a = none) (nL : a ≠ X.env.locals) (nC : ∀ x c, X.env.cells.lookup x = some c → c ≠ a) (nP : ∀ p ∈ X.pn ++ pins, p.1 ≠ a)
    (new : ObjOk X.prog X.w (upd H a o) s.heap a o) : Inv X pins σ (upd H a o) s := by
  have ne0 : ∀ b u, X.s_0.heap.get? b = some u → b ≠ a := fun b u e z => by
    rw [z, h0] at e
    cases e
  have neH : ∀ b u, H b = some u → b ≠ a := fun b u e => ne_of_none e ha
  refine ⟨I.ok, I.os, I.bare, ⟨I.base.keep, I.base.slot, fun b u e n hx => ?_, I.base.there, fun b xs e => ?_, fun b u xs e => ?_, fun b ps e => ?_⟩, I.loc, I.cell, ?_, fun x c e => ?_, fun p hp => ?_, fun b u e => ?_, I.len⟩
  · rw [upd_ne (ne0 b u e)]
    exact I.base.free b u e n hx
  · have q := I.base.tups b xs e
    rw [upd_ne (neH _ _ q)]
    exact q
  · have q := I.base.frzs b u xs e
    rw [upd_ne (neH _ _ q)]
    exact q
  · obtain ⟨m, q⟩ := I.base.tbls b ps e
    exact ⟨m, by rw [upd_ne (neH _ _ q)]; exact q⟩
  · rw [upd_ne (Ne.symm nL)]
    exact I.free
  · rw [upd_ne (nC x c e)]
    exact I.freeC x c e
  · obtain ⟨e, n, r⟩ := I.pin p hp
    exact ⟨e, by rw [upd_ne (nP p hp)]; exact n, r⟩
  · by_cases hb : b = a
    · subst hb
      rw [upd_same] at e
      cases e
      exact new
    · rw [upd_ne hb] at e
      exact (I.hok b u e).stay (fun c v _ q => q) (fun c q => by rw [upd_ne (neH _ _ q)]; exact q) fun c xs q => by rw [upd_ne (neH _ _ q)]; exact q
end
/-- what the clause 'except x as n: m = n' wishes of an exception of the body: slot i is n's, slot j is m's -/
def wKeep (K : PySem.W.Frag) (c : Value) (i j : Nat) (Wout : WX) (D : Ends) : WX := fun cls d σ H =>
  ∃ b, PySem.W.exmOne K cls c = some b ∧ (b = true → ∃ dd, d = some dd ∧ ∀ a, H a = none → D.nx (((σ.set i (some (.ref a))).set j (some (.ref a))).set i none) (upd H a (ErO cls dd a))) ∧ (b = false → Wout cls d σ H)
section
variable {X : Cx} {x n m : Str} {c : Value} {i j : Nat} {body : List Stmt} {np mp np2 ap pos pos' : Pos} {tb : WX → TS} {Wout : WX}
theorem ps_try_keep (hs : X.stack = X.env :: X.outer) (hf : X.env.frame = some X.env.locals) (hex : X.ex = []) (hN : X.N.Nodup) (hi : X.N[i]? = some n) (hln : X.env.kindOf n = some .local) (hj : X.N[j]? = some m) (hlm : X.env.kindOf m = some .local) (hc : Names X x c) (tk : Takes X Wout)
    (hsw : swapsWith (.Name n np2) (some (.Name m mp)) ap.line X.env = pure false) (hd : (n == ("__debug__" : Str)) = false) (hcd : (n == ("__classdict__" : Str)) = false)
    (hb : ∀ (W : WX) (pn : List (Addr × Obj)) (xe : Value → Shared → Prop), Takes (X.tr pn xe) W → PassesOwn (model X.prog X.w) X.A X.env xe → PSs (X.tr pn xe) body (tb W)) :
    PS X (.Try body [.ExceptHandler (some (.Name x np)) (some n) [.Assign [.Name m mp] (.Name n np2) ap] pos'] [] [] pos) (fun D σ H => tb (wKeep X.K c i j Wout D) D σ H) := by
  refine ⟨fun pins s σ H D I h => ?_⟩
  have ok := I.ok
  have hfr : X.A.frames = some (X.env :: X.outer) := by rw [ok.frames, hs]
  have hloc : Loc X.env.scope n := .inl hln
  have hlocm : Loc X.env.scope m := .inl hlm
  refine wpAny_Try_except ?_
  refine wpAny_mono ((hb (wKeep X.K c i j Wout D) (X.pn ++ pins) (fun e s₁ => wpAny (model X.prog X.w) X.A (noteFrame e X.env) (fun _ s₂ => wpAny (model X.prog X.w) X.A (setFlight e none) (fun _ s₃ =>
    wpAny (model X.prog X.w) X.A (handleBy e X.env [.ExceptHandler (some (.Name x np)) (some n) [.Assign [.Name m mp] (.Name n np2) ap] pos']) (SP X pins D) X.xe s₃) X.xe s₂) X.xe s₁) (fun u s' xx => ?_) PassesOwn.looking).run [] s σ H D (I.toTry _) h) (fun f s1 hsp => ?_) (fun e s1 he => he)
  · -- the catch
    obtain ⟨a, B, sI, pins', σ', H', cls, d, rfl, J', nb, up, sky, na, os, ag, b, hb1, hyes, hno⟩ := xx
    have J : Inv X pins σ' H' sI := J'.ofTry ok
    have sky' : Sky B (X.env :: X.outer) a (Zc cls d) X.env.locals s'.heap := by rw [← hs]; exact sky
    show wpAny (model X.prog X.w) X.A (noteFrame (.ref a) X.env) _ _ _
    refine Sky.land Zc.steady hfr hf sky' fun h3 fl3 up3 => ?_
    have J3 : Inv X pins σ' H' { s' with heap := h3 } := J.landed nb fl3.1 (up.trans up3) os ag
    obtain ⟨oe3, vs3, he3, hz3, hd3⟩ := fl3.there
    have notFr : ∀ {h : Heap} {o : Obj} {vs : Array Value}, h.FunFrames B (X.env :: X.outer) → h.get? a = some o → o.data = .fields vs → a ∉ frs (X.env :: X.outer) := fun {h o vs} ff e dd hm => by
      obtain ⟨_, o', e', hnf⟩ := ff.mem hm
      rw [e] at e'; cases e'
      exact hnf _ dd
    have nfr := notFr fl3.2.2.1 he3 hd3
    have nL : a ≠ X.env.locals := fun z => nfr (List.mem_filterMap.mpr ⟨X.env, List.mem_cons_self, by rw [hf, z]⟩)
    have nF : a ∉ X.fs := fun hm => by
      obtain ⟨e, he, q⟩ := List.mem_filterMap.mp hm
      exact nfr (List.mem_filterMap.mpr ⟨e, List.mem_cons_of_mem _ he, q⟩)
    have nI : sI.heap.get? a = none := by
      cases e : sI.heap.get? a with
      | none => rfl
      | some o =>
        have z := nb a o e (by rw [hs]; exact nfr)
        rw [fl3.2.1] at z
        cases z
    have n0 : X.s_0.heap.get? a = none := by
      cases e : X.s_0.heap.get? a with
      | none => rfl
      | some o =>
        obtain ⟨o', z⟩ := J.base.there a o e (by rw [hex]; exact fun z => nomatch z)
        rw [nI] at z
        cases z
    have nC : ∀ x c, X.env.cells.lookup x = some c → c ≠ a := fun x c e z => by
      obtain ⟨v, o, ho, _⟩ := J.cell x c e
      rw [z, nI] at ho
      cases ho
    have nP : ∀ p ∈ X.pn ++ pins, p.1 ≠ a := fun p hp z => by
      have e := (J.pin p hp).1
      rw [z, nI] at e
      cases e
    have S3 := J3.suite he3 hd3 na nL nF
    refine wpAny_handleBy_cons (codeAny_handlers_test ?_) (by intro q; cases q)
    have LT : PySem.W.Looks (model X.prog X.w) h3 (typeOf (.ref a)) cls := fun A Q E s k q => wpAny_typeOf_ref (k _ _ he3) (by rw [hz3.1]; exact q)
    have LM := PySem.W.exm_one (M := model X.prog X.w) (J3.kIn) LT hb1
    have test : ∀ {Q : Value → Shared → Prop} {E : Value → Shared → Prop}, Q c { s' with heap := h3 } → wpAny (model X.prog X.w) (X.A.mark (some (.ref a))) (eval (.Name x np) X.env) Q E { s' with heap := h3 } := fun {Q E} q => by
      obtain ⟨hg, hdbg, hm | ⟨hm, hv, hnn⟩⟩ := hc
      · exact ld_glob (X := X.suite a ((a, oe3) :: (X.pn ++ pins))) S3 hg hm q hdbg
      · exact ld_blt (X := X.suite a ((a, oe3) :: (X.pn ++ pins))) S3 hg hm hv q hnn hdbg
    refine test (LM.here ?_)
    cases b with
    | true =>
      obtain ⟨dd, rfl, hnext⟩ := hyes rfl
      refine codeAny_handlers_suite_as ?_
      refine HandSPX.lands_againZ fl3 fun h4 fl4 up4 => ?_
      have J4 : Inv X pins σ' H' { s' with heap := h4 } := J.landed nb fl4.1 ((up.trans up3).trans up4) os ag
      obtain ⟨oe4, vs4, he4, hz4, hd4⟩ := fl4.there
      have S4 := J4.suite he4 hd4 na nL nF
      refine store_ok (X := X.suite a ((a, oe4) :: (X.pn ++ pins))) (v := .ref a) S4 hN hi hloc rfl (fun s5 S5 => ?_) (.inr hln)
      have hsu : PSs (X.suite a ((a, oe4) :: (X.pn ++ pins))) [.Assign [.Name m mp] (.Name n np2) ap] (tAsg (tVar i) (gName j)) :=
        pss_one (ps_set (X := X.suite a ((a, oe4) :: (X.pn ++ pins))) hN hj hlocm (pe_var hi (.inl hln) hd hcd) hsw (.inr hlm))
      have hiσ : i < (σ'.set i (some (V.ref a))).length := by
        rw [List.length_set, J.len]
        exact (List.getElem?_eq_some_iff.mp hi).1
      refine wpAny_mono (hsu.run [] s5 _ H' { nx := fun σ6 H6 => σ6 = (σ'.set i (some (.ref a))).set j (some (.ref a)) ∧ H6 = H', rt := fun _ _ => False } S5 ⟨.ref a, List.getElem?_set_self (by rw [List.length_set] at hiσ; exact hiσ), rfl, rfl⟩) (fun f s6 hsp => ?_) (fun _ _ z => False.elim z)
      cases f with
      | next =>
        obtain ⟨σ6, H6, S6, rfl, rfl⟩ := hsp
        refine gone_ok (X := X.suite a ((a, oe4) :: (X.pn ++ pins))) S6 hN hi hln fun s7 S7 => ?_
        obtain ⟨e7, _⟩ := S7.pin (a, oe4) (by rw [List.append_nil]; exact List.mem_cons_self)
        have J7 : Inv X pins _ H6 s7 := S7.unsuite ok
        exact ⟨_, _, J7.track na n0 nL nC nP (erO_ok e7 hz4 hd4), hnext a na⟩
      | brk =>
        obtain ⟨σ6, H6, S6, q6⟩ := hsp
        exact False.elim q6
      | cont =>
        obtain ⟨σ6, H6, S6, q6⟩ := hsp
        exact False.elim q6
      | ret u =>
        obtain ⟨v6, σ6, H6, S6, r6, q6⟩ := hsp
        exact False.elim q6
    | false =>
      show wpAny _ X.A (handleBy (.ref a) X.env []) _ _ _
      refine wpAny_handleBy_nil ?_
      obtain ⟨k1, k2, k3, oe, vs, T, oT, ts', he, hz, hd, h1, hr⟩ := id fl3
      unfold PySem.passOn
      refine wpAny_bind (wpAny_field he hd h1 ?_)
      rw [if_neg (show ¬ ((Value.ref T == Value.none) = true) from by simp)]
      have fin : wpAny (model X.prog X.w) X.A (setFlight (.ref a) X.env.frame) (fun _ s4 => wpAny (model X.prog X.w) X.A (throw (.ref a) : Sem Flow) (SP X pins D) X.xe s4) X.xe { s' with heap := h3 } := by
        rw [hf]
        refine HandSPX.setFlight_upZ fl3 fun h4 hh4 up4 => wpAny_throw (tk _ _ ?_)
        exact ⟨a, B, sI, pins, σ', H', cls, d, rfl, J, nb, (up.trans up3).trans up4, .inr (.inr (by rw [hs]; exact hh4)), na, os, ag, hno rfl⟩
      first
        | exact wpAny_bind (wpAny_pure (wpAny_bind fin))
        | exact wpAny_bind fin
  · cases f with
    | next =>
      obtain ⟨σ', H', J', q⟩ := hsp
      exact wpAny_execs_nil ⟨σ', H', J'.ofTry ok, q⟩
    | brk =>
      obtain ⟨σ', H', J', q⟩ := hsp
      exact ⟨σ', H', J'.ofTry ok, q⟩
    | cont =>
      obtain ⟨σ', H', J', q⟩ := hsp
      exact ⟨σ', H', J'.ofTry ok, q⟩
    | ret u =>
      obtain ⟨v, σ', H', J', r, q⟩ := hsp
      exact ⟨v, σ', H', J'.ofTry ok, r, q⟩
end
/-! ### the held error is asked -/
section
variable {X : Cx}
/-- x is an error that H knows: its class, its dict -/
def IsErr (K : PySem.W.Frag) (H : Hp) (a D dd : Addr) (fs : List (Str × V)) : Prop := H a = some (ErO (.ref D) dd a) ∧ H dd = some (.xd fs)
theorem erO_inst {pins : List (Addr × Obj)} {σ : St} {H : Hp} {s : Shared} {a D dd : Addr} {fs : List (Str × V)} (I : Inv X pins σ H s) (h : IsErr X.K H a D dd fs) :
    ∃ oe od mA, PySem.W.InstAt s.heap a oe D (some od) ∧ s.heap.Ns1 dd mA ∧ (∀ n, PySem.W.lookIn n od = some (mA n)) ∧ ∀ f, RelO (fs.lookup f) (mA f) := by
  obtain ⟨⟨oe, vs, e, z, hd⟩, _, _⟩ := I.hok a _ h.1
  obtain ⟨mA, hns, hr⟩ := (show ObjOk X.prog X.w H s.heap dd (.xd fs) from I.hok dd _ h.2)
  obtain ⟨od, ho, hl⟩ := lookIn_ns hns
  exact ⟨oe, od, mA, ⟨e, z.1, by unfold PySem.W.notCls; rw [hd] <;> rfl, by rw [z.2]; exact ho⟩, hns, hl, hr⟩
/-- isinstance(x, c), x an error that H knows -/
def rIsH (K : PySem.W.Frag) : List V → Hp → VK → Prop := fun xs H Q => ∃ (a D dd : Addr) (fs : List (Str × V)) (c : V) (cv : Value) (b : Bool), xs = [.ref a, c] ∧ IsErr K H a D dd fs ∧ ExcC K D ∧ ClsV c cv ∧ PySem.W.kitOne K (.ref D) cv = some b ∧ Q (.bl b) H
def rIsHT (K : PySem.W.Frag) : List V → Hp → VK → Prop := fun xs H Q => ∃ (a D dd : Addr) (fs : List (Str × V)) (tp : Addr) (cs : List V) (us : List Value) (b : Bool), xs = [.ref a, .ref tp] ∧ IsErr K H a D dd fs ∧ ExcC K D ∧ H tp = some (.tup cs) ∧ Paired ClsV cs us ∧
  PySem.W.kitAny K (.ref D) us = some b ∧ Q (.bl b) H
theorem kit_err {D : Addr} {x : Addr} {oe : Obj} {od : Option Obj} (C : ExcC X.K D) : PySem.W.KitX X.K (.ref x) (.ref D) (fun h => PySem.W.InstAt h x oe D od) :=
  PySem.W.kitx_exc (by obtain ⟨cd, hc, _⟩ := PySem.W.any_some C.hd; rw [hc]; rfl) C.hg C.hk C.hs C.ha C.hn C.ht C.hm
theorem call_isH : CallR X (.builtin "isinstance") (rIsH X.K) := by
  intro pins s σ H xs us Q I r h
  obtain ⟨a, D, dd, fs, c, cv, b, rfl, hE, C, hcv, e, q⟩ := h
  obtain ⟨u1, u2, rfl, r1, r2⟩ := vals2 r
  have ec := hcv.eq r2
  subst ec
  cases r1
  obtain ⟨oe, od, mA, J, _, _, _⟩ := erO_inst I hE
  exact PySem.W.kia_one (kit_err C) I.kIn J e (fun z => nomatch z) fun tk => ⟨.bl b, H, I.kept (t' := tk) fun _ _ z => z, rfl, q⟩
theorem call_isHT : CallR X (.builtin "isinstance") (rIsHT X.K) := by
  intro pins s σ H xs us Q I r h
  obtain ⟨a, D, dd, fs, tp, cs, ws, b, rfl, hE, C, hT, k, e, q⟩ := h
  obtain ⟨u1, u2, rfl, r1, r2⟩ := vals2 r
  cases (show u2 = Value.ref tp from r2)
  cases r1
  obtain ⟨oe, od, mA, J, _, _, _⟩ := erO_inst I hE
  obtain ⟨_, its, rv, o, h1, h2, n, h3⟩ := (show ObjOk X.prog X.w H s.heap tp (.tup cs) from I.hok tp _ hT)
  have e3 := ClsV.all k rv
  subst e3
  obtain ⟨oc, od', dt, sl⟩ := o
  simp only at h2 h3
  subst h2 h3
  exact PySem.W.kia_tup (kit_err C) I.kIn J h1 e (fun z => nomatch z) fun tk => ⟨.bl b, H, I.kept (t' := tk) fun _ _ z => z, rfl, q⟩
/-- x.n, x an error that H knows -/
def tXfH (K : PySem.W.Frag) (n : Str) (te : TE) : TE := fun σ H Q => te σ H fun x H1 => ∃ (a C dd : Addr) (fs : List (Str × V)) (v : V), x = .ref a ∧ IsErr K H1 a C dd fs ∧ XfC K C ∧ PySem.W.findIn K (.ref C) n = some none ∧ fs.lookup n = some v ∧ Q v H1
theorem pe_xfH {e : Expr} {te : TE} {pos : Pos} {n : Str} (he : PE X e te) (hb : attributeBase e n X.env (eval e X.env) = eval e X.env := by rfl) : PE X (.Attribute e n pos) (tXfH X.K n te) := by
  refine ⟨fun pins s σ H Q I h => ?_⟩
  refine attr_of hb (thn (he.run pins s σ H _ I h) fun u s1 hh => ?_)
  obtain ⟨x, H1, I1, rx, a, C, dd, fs, v, rfl, hE, T, hno, l, q⟩ := hh
  obtain rfl : u = Value.ref a := rx
  obtain ⟨oe, od, mA, J, _, hl, hr⟩ := erO_inst I1 hE
  obtain ⟨u, hu, ru⟩ := RelO.some_of (v := v) (o := mA n) (by rw [← l]; exact hr n)
  exact HandSPX.exc_get I1.kIn J T.ga T.gg T.exC (PySem.W.findObj_own T.hdC hno rfl (by rw [hl, hu])) (handed_of ru) ⟨v, H1, I1.tok _, ru, q⟩
end
end L2

set_option Elab.async false
set_option linter.all false
set_option maxRecDepth 100000
set_option maxHeartbeats 4000000
/-! a lambda without needed parameters (perhaps with defaults), handed to a def that calls it -/
namespace LamA
open PySem PySem.Spec PyProof.Rows L2 LamX
section
variable {X : Cx} {pins : List (Addr × Obj)} {σ : L2.St} {H : Hp} {s : Shared}
abbrev lamO (X : Cx) (params : Arguments) (body : Expr) (scope : Scope) (dV doc pm : Value) (c' : Addr) (ctv : Value) : Obj :=
  PySem.W.kdv_obj "<lambda>" (X.env.qual ++ "<lambda>") params (.expr body) scope (cloFrom X.env.cells scope.names []) dV doc pm c' ctv
abbrev lamF (X : Cx) (params : Arguments) (body : Expr) (scope : Scope) (dV doc pm : Value) (c' : Addr) (ctv : Value) : FuncData :=
  PySem.W.kdv_fn "<lambda>" (X.env.qual ++ "<lambda>") params (.expr body) scope (cloFrom X.env.cells scope.names []) dV doc pm (.ref c') ctv
/-- the function object is laid: its code object is new, or found in the table -/
theorem lam_tail {T : List (Addr × Str)} {c P : Addr} {params : Arguments} {body : Expr} {scope : Scope} {pos : Pos} {dV : Value} {E : Value → Shared → Prop} {Q : Value → Shared → Prop} (I : Inv X pins σ H s) (TB : TabB X.base X.mg c P) (hcode : X.env.code = .ref c)
    (hm : (P, X.env.qual ++ "<lambda>") ∈ T) (hu : ∀ p ∈ T, p.1 = P → p.2 = X.env.qual ++ "<lambda>") (hT : Tabs T H) (hfree : ∀ y ∈ scope.names, y.2 = .free → ∃ c, X.env.cells.lookup y.1 = some c)
    (h : ∀ (f c' : Addr) (doc pm ctv : Value) (H1 : Hp) (s' : Shared), Inv X pins σ H1 s' → ExtN H H1 → Tabs T H1 →
      s'.heap.get? f = some (lamO X params body scope dV doc pm c' ctv) → H1 f = none → f ∉ frs X.stack → H1 c' = some (CodeO c' (X.env.qual ++ "<lambda>")) → Q (.ref f) s') :
    wpAny (model X.prog X.w) X.A (makeTail "<lambda>" (X.env.qual ++ "<lambda>") params (.expr body) scope X.env dV .none none pos pos.line) Q E s := by
  obtain ⟨ps, hP, ht, ha⟩ := hT _ hm
  have bP : s.heap.BuiltinsAt X.mg P := TB.bm.keeps I.bk
  have hP' : s.heap.get? P = some { cls := .none, data := .fields ps } := I.hok P _ hP
  have nofr : ∀ f, s.heap.objs.size ≤ f → f ∉ frs X.stack := fun f hf z => by
    rcases List.mem_cons.mp (I.stkSub _ z) with e | e
    · have h1 := I.lt
      rw [← e] at h1
      exact Nat.lt_irrefl _ (Nat.lt_of_lt_of_le h1 hf)
    · exact I.nofs hf e
  cases hc : codeAmong pos ps.toList with
  | none =>
    refine PySem.W.kdv_makeTail (mg := X.mg) (c := c) (P := P) (ps := ps) (closure_ok hfree) I.ok.glob (I.mod.glob.keeps I.bk) hcode (TB.code.keeps I.bk) hP' ht hc TB.gP bP fun c' ctv doc h' tk hx hge hlt hrec htb => ?_
    obtain ⟨c2, oc, vs, t, e2, hoc, hd, hv⟩ := hrec
    cases e2
    have hsz : s.heap.objs.size ≤ h'.objs.size := Nat.le_trans hge (Nat.le_of_lt hlt)
    have nC : H c' = none := I.hok.fresh hge
    have I1 := inv_table (t' := tk) (more := #[rawInt pos.line, rawInt pos.col, .ref c']) (h' := h'.push (lamO X params body scope dV doc ((X.mg "__name__").getD .none) c' ctv)) I hP
      (fun b o hb e => Heap.get?_push_of_some _ (hx b o hb e)) (Heap.get?_push_of_some _ htb) hge ⟨oc, vs, t, Heap.get?_push_of_some _ hoc, hd, hv⟩
    have hE : ExtN H (upd (upd H P (.tbl (ps ++ #[rawInt pos.line, rawInt pos.col, .ref c']))) c' (CodeO c' (X.env.qual ++ "<lambda>"))) := fun b o e n => by
      rw [upd_ne (ne_of_none e nC), upd_ne (fun z => n ps (Option.some.inj (e.symm.trans (by rw [z]; exact hP))))]
      exact e
    have eL : (ps ++ #[rawInt pos.line, rawInt pos.col, .ref c']).toList = ps.toList ++ [rawInt pos.line, rawInt pos.col, .ref c'] := by simp
    refine h h'.objs.size c' doc ((X.mg "__name__").getD .none) ctv _ _ I1 hE (fun p hp => ?_) (Heap.get?_push_size _ rfl) ?_ (nofr _ hsz) upd_same
    · by_cases hb : p.1 = P
      · rw [hu p hp hb, hb]
        refine ⟨_, by rw [upd_ne (ne_of_none hP nC), upd_same], by rw [eL]; exact PySem.TriplesOk_snoc _ _ _ _ ht, fun p' cv hcv => ?_⟩
        rw [eL] at hcv
        rcases among_app _ ht hcv with z | z
        · obtain ⟨c0, e1, e2⟩ := ha p' cv z
          exact ⟨c0, e1, hE _ _ e2 codeO_ne⟩
        · exact ⟨c', z, upd_same⟩
      · obtain ⟨ps', a1, a2, a3⟩ := hT p hp
        refine ⟨ps', by rw [upd_ne (ne_of_none a1 nC), upd_ne hb]; exact a1, a2, fun p' cv hcv => ?_⟩
        obtain ⟨c0, e1, e2⟩ := a3 p' cv hcv
        exact ⟨c0, e1, hE _ _ e2 codeO_ne⟩
    · have n1 : h'.objs.size ≠ c' := Nat.ne_of_gt hlt
      have n2 : h'.objs.size ≠ P := Nat.ne_of_gt (Nat.lt_of_lt_of_le (Heap.lt_size hP') hsz)
      rw [upd_ne n1, upd_ne n2]
      exact I.hok.fresh hsz
  | some cv =>
    obtain ⟨c', e, hco⟩ := ha pos cv hc
    subst e
    refine PySem.W.kdv_makeTailHit (mg := X.mg) (c := c) (P := P) (ps := ps) (closure_ok hfree) I.ok.glob (I.mod.glob.keeps I.bk) hcode (TB.code.keeps I.bk) hP' ht hc bP fun ctv doc h' tk hx hsz => ?_
    have I1 : Inv X pins σ H { s with heap := h'.push (lamO X params body scope dV doc ((X.mg "__name__").getD .none) c' ctv), toks := tk } := I.kept fun b o e => Heap.get?_push_of_some _ (hx b o e)
    exact h h'.objs.size c' doc ((X.mg "__name__").getD .none) ctv H _ I1 (ExtN.refl H) hT (Heap.get?_push_size _ rfl) (I.hok.fresh hsz) (nofr _ hsz) hco
/-- the lambda's object at f (code object at c') in the state s, out of the reach of what is tracked; bs: its frame's names at a call without arguments -/
def LamR (X : Cx) (H : Hp) (s : Shared) (f c' : Addr) (params : Arguments) (body : Expr) (scope : Scope) (bs : List (Str × Value)) : Prop :=
  ∃ (dV doc pm ctv : Value) (ks : List (Addr × Obj)), (f, lamO X params body scope dV doc pm c' ctv) ∈ ks ∧ (∀ p ∈ ks, s.heap.get? p.1 = some p.2 ∧ H p.1 = none ∧ p.1 ∉ frs X.stack) ∧
    ∀ s1 : Shared, (∀ p ∈ ks, s1.heap.get? p.1 = some p.2) → BindsTo s1 (lamF X params body scope dV doc pm c' ctv) ⟨[], []⟩ bs
/-- what a lambda's making gives -/
def LamK (X : Cx) (T : List (Addr × Str)) (pins : List (Addr × Obj)) (σ : L2.St) (H : Hp) (params : Arguments) (body : Expr) (scope : Scope) (okb : List (Str × Value) → Prop) (Q : Value → Shared → Prop) : Prop :=
  ∀ (f c' : Addr) (H1 : Hp) (s' : Shared) (bs : List (Str × Value)), Inv X pins σ H1 s' → ExtN H H1 → Tabs T H1 → LamR X H1 s' f c' params body scope bs → okb bs → H1 c' = some (CodeO c' (X.env.qual ++ "<lambda>")) → Q (.ref f) s'
theorem lam_make0 {T : List (Addr × Str)} {c P : Addr} {params : Arguments} {body : Expr} {scope : Scope} {pos : Pos} {E : Value → Shared → Prop} {Q : Value → Shared → Prop} (I : Inv X pins σ H s) (TB : TabB X.base X.mg c P) (hcode : X.env.code = .ref c)
    (hm : (P, X.env.qual ++ "<lambda>") ∈ T) (hu : ∀ p ∈ T, p.1 = P → p.2 = X.env.qual ++ "<lambda>") (hT : Tabs T H) (hdef : defaultsOf params X.env = ([], [])) (hfree : ∀ y ∈ scope.names, y.2 = .free → ∃ c, X.env.cells.lookup y.1 = some c)
    (hbind : ∀ (doc pm ctv : Value) (c' : Addr), bindArgs (lamF X params body scope .none doc pm c' ctv) ⟨[], []⟩ = pure [])
    (h : LamK X T pins σ H params body scope (fun bs => bs = []) Q) : wpAny (model X.prog X.w) X.A (eval (.Lambda params body scope pos) X.env) Q E s := by
  refine PySem.W.kla_eval hdef ?_
  rw [makeFunction_eq]
  simp only [List.zip_nil_right, List.filterMap_nil, List.isEmpty_nil, if_true, pure_bind]
  refine lam_tail I TB hcode hm hu hT hfree fun f c' doc pm ctv H1 s' I1 eN T1 hf hfn hfr hco => ?_
  refine h f c' H1 s' [] I1 eN T1 ⟨.none, doc, pm, ctv, [(f, lamO X params body scope .none doc pm c' ctv)], List.mem_cons_self, fun p hp => ?_, fun s1 _ => BindsTo.of_eq (hbind _ _ _ _)⟩ rfl hco
  rcases List.mem_cons.mp hp with rfl | hp
  · exact ⟨hf, hfn, hfr⟩
  · cases hp
theorem lam_make1 {T : List (Addr × Str)} {c P : Addr} {params : Arguments} {body : Expr} {scope : Scope} {pos pd : Pos} {a1 : Str} {i : Int} {jd : Nat} {E : Value → Shared → Prop} {Q : Value → Shared → Prop} (I : Inv X pins σ H s) (TB : TabB X.base X.mg c P) (hcode : X.env.code = .ref c)
    (hm : (P, X.env.qual ++ "<lambda>") ∈ T) (hu : ∀ p ∈ T, p.1 = P → p.2 = X.env.qual ++ "<lambda>") (hT : Tabs T H) (hdef : params.defaults = [.Constant (.int i) jd pd]) (hkw : params.kw_defaults = []) (hfree : ∀ y ∈ scope.names, y.2 = .free → ∃ c, X.env.cells.lookup y.1 = some c)
    (hbind : ∀ (doc pm ctv : Value) (c' t : Addr), ∃ k : Option (Array Value) → Sem (List (Str × Value)), bindArgs (lamF X params body scope (.ref t) doc pm c' ctv) ⟨[], []⟩ = seqItems? (.ref t) >>= k ∧ ∀ v, k (some #[v]) = pure [(a1, v)])
    (h : LamK X T pins σ H params body scope (fun bs => ∃ v, bs = [(a1, v)]) Q) : wpAny (model X.prog X.w) X.A (eval (.Lambda params body scope pos) X.env) Q E s := by
  refine PySem.W.kdv_lam (by rw [hdef] <;> rfl) hkw ?_
  rw [hdef]
  refine PySem.W.kdv_all1 (wpAny_Constant_int (PySem.W.kdv_all0 ?_))
  have I0 := I.tok (s.toks + 1)
  rw [makeFunction_eq]
  simp only [List.zip_nil_right, List.filterMap_nil, List.isEmpty_nil, List.isEmpty_cons, if_true, Bool.false_eq_true, if_false, pure_bind]
  refine wpAny_bind (wpAny_newTextTuple ?_)
  obtain ⟨t, ht⟩ : ∃ t, t = s.heap.objs.size := ⟨_, rfl⟩
  have htu : (s.heap.push (PySem.W.kdv_tup [Value.int i s.toks])).get? t = some (PySem.W.kdv_tup [Value.int i s.toks]) := by rw [ht]; exact Heap.get?_push_size _ rfl
  have I1 : Inv X pins σ H { s with heap := s.heap.push (PySem.W.kdv_tup [Value.int i s.toks]), toks := s.toks + 1 } := I0.kept (t' := s.toks + 1) fun b o e => Heap.get?_push_of_some _ e
  have I2 : Inv X ((t, PySem.W.kdv_tup [Value.int i s.toks]) :: pins) σ H { s with heap := s.heap.push (PySem.W.kdv_tup [Value.int i s.toks]), toks := s.toks + 1 } := I1.pins_of fun p hp => by
    rcases List.mem_cons.mp hp with rfl | hp
    · exact ⟨htu, by rw [ht]; exact I.hok.fresh (Nat.le_refl _), by rw [ht]; exact Nat.ne_of_gt I.lt, by rw [ht]; exact I.nofs (Nat.le_refl _), fun v z => nomatch z⟩
    · exact I1.pin p (List.mem_append_right _ hp)
  have e1 : ({ s with heap := s.heap, toks := s.toks + 1 } : Shared).heap.objs.size = t := ht.symm
  rw [show (Value.ref ({ s with heap := s.heap, toks := s.toks + 1 } : Shared).heap.objs.size) = Value.ref t from by rw [e1]]
  refine lam_tail I2 TB hcode hm hu hT hfree fun f c' doc pm ctv H1 s' J eN T1 hf hfn hfr hco => ?_
  obtain ⟨p1, p2, p3, p4, _⟩ := J.pin (t, PySem.W.kdv_tup [Value.int i s.toks]) (List.mem_append_right _ List.mem_cons_self)
  have J' : Inv X pins σ H1 s' := J.pins_of fun p hp => J.pin p (List.mem_append_right _ (List.mem_cons_of_mem _ hp))
  refine h f c' H1 s' [(a1, .int i s.toks)] J' eN T1 ⟨.ref t, doc, pm, ctv, [(f, lamO X params body scope (.ref t) doc pm c' ctv), (t, PySem.W.kdv_tup [Value.int i s.toks])], List.mem_cons_self, fun p hp => ?_, fun s1 h1 => ?_⟩ ⟨_, rfl⟩ hco
  · rcases List.mem_cons.mp hp with rfl | hp
    · exact ⟨hf, hfn, hfr⟩
    · rcases List.mem_cons.mp hp with rfl | hp
      · exact ⟨p1, p2, fun z => (List.mem_cons.mp (J.stkSub _ z)).elim p3 p4⟩
      · cases hp
  · obtain ⟨k, k1, k2⟩ := hbind doc pm ctv c' t
    exact BindsTo.of_defaults (T := t) rfl (h1 (t, PySem.W.kdv_tup [Value.int i s.toks]) (List.mem_cons_of_mem _ List.mem_cons_self)) rfl k1 (k2 _)
/-! ### the lambda's names -/
/-- no cell of its own; its locals are no names of the def; captured ones are cells there -/
structure LamS2 (N : List Str) (sc scope : Scope) : Prop where
  kind : scope.kind = .function
  co : scope.isCoroutine = false
  gen : scope.isGenerator = false
  own : ∀ y ∈ scope.names, y.2 ≠ .cell ∧ (y.2 = .local → y.1 ∉ N)
  free : ∀ y ∈ scope.names, y.2 = .free → sc.names.lookup y.1 = some .cell ∨ sc.names.lookup y.1 = some .free
def lamS2B (N : List Str) (sc scope : Scope) : Bool :=
  decide (scope.kind = .function) && !scope.isCoroutine && !scope.isGenerator && scope.names.all fun y => (!decide (y.2 = .cell) && (!decide (y.2 = .local) || decide (y.1 ∉ N))) && (!decide (y.2 = .free) || decide (sc.names.lookup y.1 = some .cell) || decide (sc.names.lookup y.1 = some .free))
theorem lamS2_by {N : List Str} {sc scope : Scope} (h : lamS2B N sc scope = true) : LamS2 N sc scope := by
  unfold lamS2B at h
  simp only [Bool.and_eq_true, Bool.or_eq_true, Bool.not_eq_true', decide_eq_true_eq, decide_eq_false_iff_not, List.all_eq_true] at h
  obtain ⟨⟨⟨h1, h2⟩, h3⟩, h4⟩ := h
  refine ⟨h1, h2, h3, fun y hy => ⟨(h4 y hy).1.1, fun e => ((h4 y hy).1.2).elim (fun z => absurd e z) id⟩, fun y hy e => ?_⟩
  rcases (h4 y hy).2 with (z | z) | z
  · exact absurd e z
  · exact .inl z
  · exact .inr z
theorem LamS2.has {X : Cx} {scope : Scope} {N : List Str} (L : LamS2 N X.env.scope scope) (ok : X.Ok) : ∀ y ∈ scope.names, y.2 = .free → ∃ c, X.env.cells.lookup y.1 = some c := fun y hy e => by
  rcases L.free y hy e with k | k
  · exact ok.has _ (.inl k)
  · exact ok.has _ (.inr k)
theorem lam_start3 {HZ : Hp} {s1 : Shared} {A : Around} {outer : List Env} {E : XK} {scope : Scope} {f c' : Addr} {h₁ : Heap} {tk : Nat} {m : Str → Option Value} (I : Inv X pins σ H s) (L : LamS2 X.N X.env.scope scope) (e0 : Env0 X.prog X.w X.K X.mg X.base A outer s1 HZ) (hd : A.handled = none)
    (un : Un (frs X.stack) [] H HZ s.heap s1.heap) (hns : h₁.Ns s1.heap.objs.size m) (kp : ∀ b o, s1.heap.get? b = some o → h₁.get? b = some o) :
    Inv (lamCx X A outer s1 HZ E scope f c') [] σ HZ { s1 with heap := h₁, toks := tk } := by
  have hfree := L.has I.ok
  have cm : ∀ {y c}, (cloFrom X.env.cells scope.names []).lookup y = some c → X.env.cells.lookup y = some c := fun {y c} e => by
    rcases cloFrom_mem (PySem.mem_of_lookup e) with hm | ⟨h1, h2⟩
    · cases hm
    · obtain ⟨c1, hc⟩ := hfree _ h1 rfl
      have hc : X.env.cells.lookup y = some c1 := hc
      have e2 : c = c1 := by
        rw [h2, hc] <;> rfl
      rw [e2]
      exact hc
  have look : ∀ {y}, scope.names.lookup y = some .free → ∃ c, (cloFrom X.env.cells scope.names []).lookup y = some c := fun {y} hl => by
    have hy : (y, NameKind.free) ∈ scope.names := PySem.mem_of_lookup hl
    exact mem_lookup (cloFrom_has (cells := X.env.cells) (acc := []) hy)
  have cellK : ∀ {c : Addr} {v : Option Value}, H c = none → s.heap.IsCell c v → h₁.IsCell c v := fun {c v} n ⟨o, ho, hd⟩ => by
    obtain ⟨sl, q⟩ := un.any ho n (by simp)
    exact ⟨_, kp _ _ q, hd⟩
  have noA : ∀ b : Addr, b ∉ (lamCx X A outer s1 HZ E scope f c').ex := fun b z => absurd (show b ∈ ([] : List Addr) from z) (by simp)
  refine ⟨⟨e0.mod, L.kind, rfl, rfl, Nat.le_refl _, fun y z c e1 e2 => I.ok.inj y z c (cm e1) (cm e2), fun y hy => ?_, fun y c z _ => ?_, fun _ => hd, Around.frames_deeper e0.frames, .inr ⟨rfl, rfl⟩, fun b z => absurd z (noA b), e0.bs, e0.bsz, fun b _ _ => noA b,
      fun b z => absurd z (noA b), e0.funs, e0.frf⟩,
    rfl, e0.bare, Un.kept kp, ⟨_, hns, fun i y v e1 e2 e3 => ?_⟩, fun y c e => ?_, e0.hok.fresh (Nat.le_refl _), fun y c e => ?_, fun q hq => absurd (show q ∈ ([] : List (Addr × Obj)) ++ [] from hq) (by simp), e0.hok.kept kp, I.len⟩
  · have hy : scope.names.lookup y = some .cell ∨ scope.names.lookup y = some .free := hy
    rcases hy with hy | hy
    · exact absurd rfl (L.own _ (PySem.mem_of_lookup hy)).1
    · exact look hy
  · have z : false = true := z
    cases z
  · have e3 : Vis scope y := e3
    rcases e3 with k | k | k
    · have nN := (L.own _ (PySem.mem_of_lookup k)).2 rfl
      have e1' : X.N[i]? = some y := e1
      exact absurd (List.mem_of_getElem? e1') nN
    · exact absurd rfl (L.own _ (PySem.mem_of_lookup k)).1
    · obtain ⟨m, hn, hl⟩ := I.loc
      have hvis : Vis X.env.scope y := (L.free _ (PySem.mem_of_lookup k) rfl).elim (fun k => .inr (.inl k)) (fun k => .inr (.inr k))
      obtain ⟨w', r, q⟩ := hl i y v e1 e2 hvis
      obtain ⟨c2, h2⟩ := look k
      refine ⟨w', r, .inr ⟨.inr k, c2, h2, ?_⟩⟩
      have c1 := cm h2
      rcases q with ⟨k', _⟩ | ⟨_, c3, e', z⟩
      · have k' : X.env.scope.names.lookup y = some .local := k'
        rcases L.free _ (PySem.mem_of_lookup k) rfl with k2 | k2 <;> rw [show X.env.scope.names.lookup y = _ from k2] at k' <;> cases k'
      · rw [c1] at e'
        cases e'
        exact cellK (I.freeC y _ c1) z
  · obtain ⟨w', z⟩ := I.cell y c (cm e)
    exact ⟨w', cellK (I.freeC y c (cm e)) z⟩
  · obtain ⟨v, o, ho, hd⟩ := I.cell y c (cm e)
    exact un.free c o ho (I.freeC y c (cm e)) (by simp)
/-- x(), in the def that got the lambda: Z is that def's context, entered at s -/
theorem pe_act2 {CXg : CXT} {Eg : XK} {Ng : List Str} {qg : Str} {sg : Scope} {g f c' : Addr} {cdg : Value} {params : Arguments} {body : Expr} {scope : Scope} {bs : List (Str × Value)} {k i : Nat} {a : Str} {pn : List (Addr × Obj)} {xe : Value → Shared → Prop} {W : WX} {E : XK} {tb : TE} {p1 p2 : Pos}
    (I : Inv X pins σ H s) (L : LamS2 X.N X.env.scope scope) (R : LamR X H s f c' params body scope bs) (hloc : ∀ y ∈ bs, scope.names.lookup y.1 = some .local)
    (tk : Takes ((cxOf CXg X.prog X.w X.K X.mg X.base Ng qg sg g cdg X.A X.stack s H Eg).tr pn xe) W) (hr : Room (k + 1) (X.A.deeper (envOfC qg sg s.heap.objs.size g cdg)))
    (hbody : ∀ (A : Around) (outer : List Env) (s : Shared) (H : Hp), Room k (A.deeper (lamEnv X scope s.heap.objs.size f c')) → PE (lamCx X A outer s H E scope f c') body tb)
    (hN : Ng[i]? = some a) (hv : Vis sg a) (hd : (a == ("__debug__" : Str)) = false := by decide) (hcd : (a == ("__classdict__" : Str)) = false := by decide) :
    PE ((cxOf CXg X.prog X.w X.K X.mg X.base Ng qg sg g cdg X.A X.stack s H Eg).tr pn xe) (.Call (.Name a p1) [] [] p2)
      (fun σZ HZ Q => (∀ cls d H', E cls d H' → W cls d σZ H') ∧ σZ[i]? = some (some (.ref f)) ∧ HZ c' = some (CodeO c' (X.env.qual ++ "<lambda>")) ∧ tb σ HZ Q) := by
  obtain ⟨dV, doc, pm, ctv, ks, hfk, hks, hbt⟩ := R
  refine ⟨fun pinsZ sZ σZ HZ Q IZ h => ?_⟩
  obtain ⟨hW, hs, hc, ht⟩ := h
  refine wpAny_Call_Name_kw (thn ((pe_var (pos := p1) (i := i) hN hv hd hcd).run pinsZ sZ σZ HZ (fun v H1 => v = .ref f ∧ H1 = HZ) IZ ⟨.ref f, hs, rfl, rfl⟩) fun u s1 ⟨v, H1, I1, r1, q1⟩ => ?_)
  obtain ⟨ev, eH⟩ := q1
  subst ev
  rw [eH] at I1
  obtain rfl : u = Value.ref f := r1
  have all1 : ∀ p ∈ ks, s1.heap.get? p.1 = some p.2 := fun p hp => by
    obtain ⟨h1, h2, h3⟩ := hks p hp
    exact I1.base.keep p.1 p.2 h1 h2 h3 (fun z => nomatch (show p.1 ∈ ([] : List Addr) from z))
  have of1 : s1.heap.get? f = some (lamO X params body scope dV doc pm c' ctv) := all1 _ hfk
  refine PySem.W.callWith_F0 ⟨_, _, _, _, of1⟩ ?_
  have un : Un (frs X.stack) [] H HZ s.heap s1.heap := I1.base
  obtain ⟨⟨oc, vs, t, hoc, hdc, hvc⟩, _, _⟩ := I1.hok c' _ hc
  have rc : codeAny (model X.prog X.w) (X.A.deeper (envOfC qg sg s.heap.objs.size g cdg)) (.call (.ref f) ⟨[], []⟩) (CR (L2.CX X.prog X.w) (envOfC qg sg s.heap.objs.size g cdg :: X.stack) X.prog X.w HZ s1 Q E) s1 := by
    refine PySem.W.kla_callFunE hr.depth of1 rfl L.co L.gen rfl ⟨c', oc, vs, t, rfl, hoc, hdc, hvc⟩ ?_
    refine hbt s1 all1 _ _ _ _ ?_
    refine wpAny_newFunctionEnv (fun y hy => (L.own y hy).1) hloc (fun h₁ hns hsb => ⟨I1.nolimit.fresh _ hsb, ?_⟩) L.kind
    show codeAny _ _ (.expr body (lamEnv X scope s1.heap.objs.size f c')) _ _
    have kp : ∀ b o, s1.heap.get? b = some o → h₁.get? b = some o := fun b o e => hsb.extBut b o (Nat.ne_of_lt (Heap.lt_size e)) (Heap.get?_push_of_some _ e)
    have J : Inv (lamCx X (X.A.deeper (envOfC qg sg s.heap.objs.size g cdg)) (envOfC qg sg s.heap.objs.size g cdg :: X.stack) s1 HZ E scope f c') [] σ HZ { s1 with heap := h₁, toks := s1.toks + bs.length } :=
      lam_start3 I L I1.env0 hr.hd un hns kp
    refine PySem.W.kla_codeExpr (wpAny_mono ((hbody _ _ s1 HZ (hr.deeper _)).run [] _ _ HZ Q J ht) (fun v s' hq => ?_) fun e s' hq => hq)
    obtain ⟨w', H', J', rv, q⟩ := hq
    exact ⟨w', H', J'.os, J'.bare, J'.base, J'.hok, rv, q⟩
  refine wpAny_call (codeAny_mono rc fun r s' hq => ?_)
  cases r with
  | error e => exact tk e s' (XE.of_call I1 hW hq)
  | ok fl =>
    cases fl with
    | ret u => exact I1.after hq
    | next => exact False.elim hq
    | brk => exact False.elim hq
    | cont => exact False.elim hq
end
section
variable {X : Cx}
/-- how a lambda's object is made of its words -/
inductive LamMk (X : Cx) (params : Arguments) (body : Expr) (scope : Scope) : Prop where
  | none (hdef : defaultsOf params X.env = ([], [])) (hbind : ∀ (doc pm ctv : Value) (c' : Addr), bindArgs (lamF X params body scope .none doc pm c' ctv) ⟨[], []⟩ = pure [])
  | one (a1 : Str) (i : Int) (jd : Nat) (pd : Pos) (hdef : params.defaults = [.Constant (.int i) jd pd]) (hkw : params.kw_defaults = [])
      (hbind : ∀ (doc pm ctv : Value) (c' t : Addr), ∃ k : Option (Array Value) → Sem (List (Str × Value)), bindArgs (lamF X params body scope (.ref t) doc pm c' ctv) ⟨[], []⟩ = seqItems? (.ref t) >>= k ∧ ∀ v, k (some #[v]) = pure [(a1, v)])
      (hloc : scope.names.lookup a1 = some .local)
/-- the def that gets the lambda: its body's reading, told by what the call of its parameter does -/
def GivesTo2 (X : Cx) (Ng : List Str) (x : Str) (sg : Scope) (g : Addr) (cdg : Value) (bg : List Stmt) (a : Str) (q : Str) (TT : (XK → Hp → VK → Prop) → Hp → VK → Prop) : Prop :=
  ∀ (f c' : Addr) (s : Shared) (H : Hp) (Q : VK) (tl : XK → Hp → VK → Prop),
    (∀ (W : WX) (pn : List (Addr × Obj)) (xe : Value → Shared → Prop) (E : XK) (p1 p2 : Pos), Takes ((cxOf C8.CX0 X.prog X.w X.K X.mg X.base Ng x sg g cdg X.A X.stack s H C8.E0).tr pn xe) W →
      PE ((cxOf C8.CX0 X.prog X.w X.K X.mg X.base Ng x sg g cdg X.A X.stack s H C8.E0).tr pn xe) (.Call (.Name a p1) [] [] p2) (fun σZ HZ Q => (∀ cls d H', E cls d H' → W cls d σZ H') ∧ σZ[0]? = some (some (.ref f)) ∧ HZ c' = some (CodeO c' q) ∧ tl E HZ Q)) →
    H c' = some (CodeO c' q) → TT tl H Q →
    ∃ t, PSs (cxOf C8.CX0 X.prog X.w X.K X.mg X.base Ng x sg g cdg X.A X.stack s H C8.E0).nox bg t ∧ t { nx := fun _ H' => Q .non H', rt := Q } (L2.start Ng [.ref f]) H
/-- x(lambda: body) -/
theorem pe_lam {T : List (Addr × Str)} {TT : (XK → Hp → VK → Prop) → Hp → VK → Prop} {x a : Str} {g c P : Addr} {k : Nat} {pg : Arguments} {bg : List Stmt} {sg : Scope} {dV kV doc pm cdv ct oc : Value} {an od : Option Addr} {osl : Array (Option Value)} {Ng : List Str}
    {params : Arguments} {body : Expr} {scope : Scope} {t : XK → TE} {p lpos pos : Pos} (hg : Gl X x) (hm : X.mg x = some (.ref g)) (hk : PySem.W.keepIn X.K (.ref g) = true)
    (lk : X.K.lookup g = some ⟨oc, od, .func (PySem.W.fnOf x x pg bg sg dV kV doc pm an cdv ct), osl⟩) (hcg : PySem.W.codeIn X.K cdv x = true) (hb : L2.Binds X.K (PySem.W.fnOf x x pg bg sg dV kV doc pm an cdv ct) [a] []) (Sg : FnScope Ng [a] sg) (hNg : Ng[0]? = some a) (hva : Vis sg a)
    (hG : GivesTo2 X Ng x sg g cdv bg a (X.env.qual ++ "<lambda>") TT)
    (TB : TabB X.base X.mg c P) (hcode : X.env.code = .ref c) (hmT : (P, X.env.qual ++ "<lambda>") ∈ T) (hu : ∀ p ∈ T, p.1 = P → p.2 = X.env.qual ++ "<lambda>") (hr : Room (k + 2) X.A) (L : LamS2 X.N X.env.scope scope) (M : LamMk X params body scope)
    (hbody : ∀ (A : Around) (outer : List Env) (s : Shared) (H : Hp) (E : XK) (f c' : Addr), Room k (A.deeper (lamEnv X scope s.heap.objs.size f c')) → PE (lamCx X A outer s H E scope f c') body (t E))
    (hdb : (x == ("__debug__" : Str)) = false := by decide) (hd : (a == ("__debug__" : Str)) = false := by decide) (hcd : (a == ("__classdict__" : Str)) = false := by decide) :
    PE X (.Call (.Name x p) [.Lambda params body scope lpos] [] pos) (tLam T TT t) := by
  refine ⟨fun pins s σ H Q I h => ?_⟩
  obtain ⟨hT, h⟩ := h
  refine wpAny_Call_Name_kw (ld_glob I hg hm ?_ hdb)
  refine PySem.W.callWith_K (h₀ := X.base) I.ok.mod.kin hk ?_ (by rfl) (by rfl)
  show wpAny _ _ (spliced ((false, eval (.Lambda params body scope lpos) X.env) :: backTo pos (starEach [] X.env))) _ _ s
  refine Calls.spliced_cons ?_
  have fin : ∀ (f c' : Addr) (H1 : Hp) (s' : Shared) (bs : List (Str × Value)), Inv X pins σ H1 s' → ExtN H H1 → Tabs T H1 → LamR X H1 s' f c' params body scope bs → (∀ y ∈ bs, scope.names.lookup y.1 = some .local) → H1 c' = some (CodeO c' (X.env.qual ++ "<lambda>")) →
      wpAny (model X.prog X.w) X.A (spliced (backTo pos (starEach [] X.env))) (fun us s₂ => X.K.In s₂.heap ∧ wpAny (model X.prog X.w) X.A (call (.ref g) ((Value.ref f :: us))) (EP X pins σ Q) X.xe s₂) X.xe s' := fun f c' H1 s' bs I1 eN T1 R hl hco => by
    refine Calls.spliced_nil ⟨I1.kIn, ?_⟩
    have rc : codeAny (model X.prog X.w) X.A (.call (.ref g) ⟨[.ref f], []⟩) (CR C8.CX0 X.stack X.prog X.w H1 s' Q C8.E0) s' := by
      refine run_ofS (N := Ng) (ps := [a]) (us := [.ref f]) (vs := [.ref f]) lk hcg Sg hr I1.env0 (hb s' [.ref f] I1.kIn rfl) (.cons rfl .nil) rfl fun hr' => ?_
      obtain ⟨t', ht', hq'⟩ := hG f c' s' H1 Q (fun E H' Q' => t E σ H' Q') (fun W pn xe E p1 p2 tk => pe_act2 (i := 0) I1 L R hl tk hr' (fun A outer s H hr2 => hbody A outer s H E f c' hr2) hNg hva hd hcd) hco (h H1 eN T1)
      exact ⟨t', ht'.nox, hq'⟩
    refine wpAny_call (codeAny_mono rc fun r s2 hq => ?_)
    cases r with
    | error e => exact (show False from hq).elim
    | ok fl =>
      cases fl with
      | ret u => exact I1.after hq
      | next => exact False.elim hq
      | brk => exact False.elim hq
      | cont => exact False.elim hq
  cases M with
  | none hdef hbind =>
    refine lam_make0 I TB hcode hmT hu hT hdef (L.has I.ok) hbind fun f c' H1 s' bs I1 eN T1 R eb hco => ?_
    subst eb
    exact fin f c' H1 s' [] I1 eN T1 R (fun y hy => nomatch hy) hco
  | one a1 i jd pd hdef hkw hbind hloc =>
    refine lam_make1 I TB hcode hmT hu hT hdef hkw (L.has I.ok) hbind fun f c' H1 s' bs I1 eN T1 R eb hco => ?_
    obtain ⟨v, rfl⟩ := eb
    exact fin f c' H1 s' [(a1, v)] I1 eN T1 R (fun y hy => by
      rcases List.mem_cons.mp hy with rfl | hy
      · exact hloc
      · cases hy) hco
end
end LamA

set_option Elab.async false
set_option linter.all false
set_option maxRecDepth 100000
set_option maxHeartbeats 4000000
/-! repr of data where nothing is being shown; zip of a list and a tuple -/
namespace L2
open PySem PySem.Spec PyProof.Rows
/-- repr(x), x a list or a tuple of data -/
def rReprD (K : PySem.W.Frag) : List V → Hp → VK → Prop := fun xs H Q => ∃ (a : Addr) (d : PyData), xs = [.ref a] ∧ Dp K H (.ref a) d ∧ d.showable = true ∧ d.hasDict = false ∧ d.depth ≤ 60 ∧ d.shown.length ≤ sizeLine ∧ Q (.str d.shown) H
theorem call_reprD {X : Cx} (hg : X.A.guards = some []) (hu : X.A.units + 64 < cLine) : CallR X (.builtin "repr") (rReprD X.K) := by
  intro pins s σ H xs us Q I r h
  obtain ⟨a, d, rfl, hd, hs, hn, hdp, hz, q⟩ := h
  obtain ⟨u, rfl, r1⟩ := vals1 r
  obtain ⟨as, rd⟩ := Dp.reads I d _ u hd r1
  cases r1
  exact PySem.repr_of_reads' rd hs (fun z => by rw [hn] at z; cases z) hg (by omega) (fun _ _ e => e) (fun h' u tk k => ⟨.str _, H, I.kept k, ⟨u, rfl⟩, q⟩) hz
end L2
namespace L2
open PySem PySem.Spec PyProof.Rows
/-- the list at a and the tuple at b, the items in new pairs -/
def ItzLT (K : PySem.W.Frag) (a b : Addr) : It :=
  ⟨fun i H => ∃ (xs ys : List V) (x y : V), SqL K H a xs ∧ SqT K H b ys ∧ xs[i]? = some x ∧ ys[i]? = some y,
    fun i H v H' => ∃ T x y, v = .ref T ∧ H T = none ∧ H' = upd H T (.tup [x, y]) ∧ (∀ xs, SqL K H a xs → xs[i]? = some x) ∧ ∀ ys, SqT K H b ys → ys[i]? = some y,
    fun i H => ∃ xs ys : List V, SqL K H a xs ∧ SqT K H b ys ∧ i = min xs.length ys.length⟩
theorem turn_zipLT {P : Program} {w : World} {K : PySem.W.Frag} {elts : List Expr} {kk : Nat} {tpos : Pos} {a b z TI TO i1 i2 : Addr} (D : ZipSep2 z TI TO i1 i2 [i1, a] [i2, b]) (h1a : a ≠ i1) (h2b : b ≠ i2) :
    Turn P w K (.Tuple elts kk tpos) (ItzLT K a b) [z, TI, TO, i1, i2] z (fun i h => IsZip h z TI TO .none ∧ IsTupOf2 h TI (.ref i1) (.ref i2) ∧ (∃ x y, IsTupOf2 h TO x y) ∧ h.IsListIter i1 a i ∧ h.IsTupleIter i2 b i) where
  mem := by simp
  obj := fun i h st c hc => by
    obtain ⟨hz, hTI, ⟨x, y, hTO⟩, ⟨o1, e1, _, d1⟩, ⟨o2, e2, _, d2⟩⟩ := st
    have e' : c = z ∨ c = TI ∨ c = TO ∨ c = i1 ∨ c = i2 := by simpa using hc
    rcases e' with q | q | q | q | q
    · rw [q]; exact ⟨_, hz, fun v q => nomatch q⟩
    · rw [q]; exact ⟨_, hTI, fun v q => nomatch q⟩
    · rw [q]; exact ⟨_, hTO, fun v q => nomatch q⟩
    · rw [q]; exact ⟨o1, e1, fun v q => by rw [d1] at q; cases q⟩
    · rw [q]; exact ⟨o2, e2, fun v q => by rw [d2] at q; cases q⟩
  keep := fun i h h' st k => by
    obtain ⟨hz, hTI, ⟨x, y, hTO⟩, h1, h2⟩ := st
    exact ⟨k z (by simp) _ hz, k TI (by simp) _ hTI, ⟨x, y, k TO (by simp) _ hTO⟩, h1.at fun o q => k i1 (by simp) o q, h2.at fun o q => k i2 (by simp) o q⟩
  item := by
    intro X hP hw hK hc i pins s σ H E I hf st hg
    subst hP hw hK
    obtain ⟨hz, hTI, hTO, h1, h2⟩ := st
    obtain ⟨xs, ys, x, y, hqx, hqy, hx, hy⟩ := hg
    obtain ⟨its, rv, p, _⟩ := I.list hqx
    obtain ⟨its2, rv2, p2, _⟩ := I.tuple hqy
    have hh := I.ok.hd hc
    have W := GoesN.zip2 (elts := elts) (x1 := kk) (pos := tpos) D (Draws.list (prog := X.prog) (w := X.w) (A := X.A.in1) hh i1 a h1a its.toArray) (Draws.tuple (prog := X.prog) (w := X.w) (A := X.A.in1) hh i2 b h2b its2.toArray)
    have l1 := rv.length
    have l2 := rv2.length
    have k1 : i < xs.length := (List.getElem?_eq_some_iff.mp hx).1
    have k2 : i < ys.length := (List.getElem?_eq_some_iff.mp hy).1
    refine W.goes i s (fun v s2 => ∃ x H', Inv X pins σ H' s2 ∧ RelV x v ∧ (ItzLT X.K a b).yld i H x H' ∧ (IsZip s2.heap z TI TO .none ∧ IsTupOf2 s2.heap TI (.ref i1) (.ref i2) ∧ (∃ x y, IsTupOf2 s2.heap TO x y) ∧ s2.heap.IsListIter i1 a (i + 1) ∧ s2.heap.IsTupleIter i2 b (i + 1)) ∧ ∀ b ∈ [z, TI, TO, i1, i2], H' b = none) E
      (by simp only [List.size_toArray]; omega) ⟨hz, hTI, hTO, ⟨h1, p.isList⟩, ⟨h2, p2⟩⟩ fun v h' tk hY st' hk _ => ?_
    obtain ⟨T, u1, u2, rfl, hT, hu1, hu2, hTo⟩ := hY
    obtain ⟨z', TI', TO', ⟨h1', _⟩, ⟨h2', _⟩⟩ := st'
    have ru1 : RelV x u1 := by
      obtain ⟨u, e, r⟩ := rv.get hx
      have e' : its.toArray[i]? = some u := by simpa using e
      rw [hu1] at e'
      cases e'
      exact r
    have ru2 : RelV y u2 := by
      obtain ⟨u, e, r⟩ := rv2.get hy
      have e' : its2.toArray[i]? = some u := by simpa using e
      rw [hu2] at e'
      cases e'
      exact r
    have new : ObjOk X.prog X.w (upd H T (.tup [x, y])) h' T (.tup [x, y]) := ⟨by show 2 ≤ sizeLine; decide, [u1, u2], .cons ru1 (.cons ru2 .nil), hTo⟩
    have I1 : Inv X pins σ (upd H T (.tup [x, y])) { s with heap := h', toks := tk } :=
      I.turnedNew (t' := tk) (ch := [z, TI, TO, i1, i2]) (fun c o hb q => hk c o (fun m => hb (by
        have m' : c = z ∨ c = TO ∨ c = i1 ∨ c = i2 := by simpa using m
        rcases m' with q | q | q | q <;> simp [q])) q) hf hT new
    refine ⟨.ref T, _, I1, rfl, ⟨T, x, y, rfl, I.hok.fresh hT, rfl, fun l hl => by rw [I.list_inj hl hqx]; exact hx, fun l hl => by rw [I.tuple_inj hl hqy]; exact hy⟩, ⟨z', TI', TO', h1', h2'⟩, fun c hcm => ?_⟩
    have hlt : c < s.heap.objs.size := by
      have e' : c = z ∨ c = TI ∨ c = TO ∨ c = i1 ∨ c = i2 := by simpa using hcm
      rcases e' with q | q | q | q | q
      · rw [q]; exact Heap.lt_size hz
      · rw [q]; exact Heap.lt_size hTI
      · rw [q]; obtain ⟨_, _, e⟩ := hTO; exact Heap.lt_size e
      · rw [q]; obtain ⟨_, e1, _⟩ := h1; exact Heap.lt_size e1
      · rw [q]; obtain ⟨_, e1, _⟩ := h2; exact Heap.lt_size e1
    rw [upd_ne (Nat.ne_of_lt (Nat.lt_of_lt_of_le hlt hT))]
    exact (hf c hcm).1
  done := by
    intro X hP hw hK hc i pins s σ H E I hf st hg
    subst hP hw hK
    obtain ⟨hz, hTI, hTO, h1, h2⟩ := st
    obtain ⟨xs, ys, hqx, hqy, hend⟩ := hg
    obtain ⟨its, rv, p, _⟩ := I.list hqx
    obtain ⟨its2, rv2, p2, _⟩ := I.tuple hqy
    have hh := I.ok.hd hc
    have W := GoesN.zip2 (elts := elts) (x1 := kk) (pos := tpos) D (Draws.list (prog := X.prog) (w := X.w) (A := X.A.in1) hh i1 a h1a its.toArray) (Draws.tuple (prog := X.prog) (w := X.w) (A := X.A.in1) hh i2 b h2b its2.toArray)
    have l1 := rv.length
    have l2 := rv2.length
    have en : i = min its.toArray.size its2.toArray.size := by simp only [List.size_toArray]; omega
    refine W.stops s (fun s2 => Inv X pins σ H s2) E ?_ fun h' tk hk _ => I.turnedL (t' := tk) (ch := [z, TI, TO, i1, i2]) (fun c o hb q => hk c o (fun m => hb (by
        have m' : c = z ∨ c = TO ∨ c = i1 ∨ c = i2 := by simpa using m
        rcases m' with q | q | q | q <;> simp [q])) q) hf
    rw [← en]
    exact ⟨hz, hTI, hTO, ⟨h1, p.isList⟩, ⟨h2, p2⟩⟩
  self := fun A i s Q E st h => wpAny_pyIter_zip st.1 h
def iZipLT (K : PySem.W.Frag) (ta : TA) : TI := fun σ H R => ta σ H fun vs H1 => ∃ a b xs ys, vs = [.ref a, .ref b] ∧ ((SqL K H1 a xs ∧ SqT K H1 b ys ∧ R (ItzLT K a b) H1) ∨ (SqT K H1 a xs ∧ SqT K H1 b ys ∧ R (RZ.ItzT K a b) H1))
theorem neN' {a b : Nat} (h : a < b ∨ b < a) : a ≠ b := by omega
theorem zipsep_new (n a b : Nat) (la : a < n) (lb : b < n) : ZipSep2 (n + 4) (n + 2) (n + 3) n (n + 1) [n, a] [n + 1, b] := by
  constructor <;> first
    | (simp; done)
    | (refine neN' ?_; omega)
    | (intro hm
       rcases List.mem_cons.mp hm with e | e
       · exact absurd e (neN' (by omega))
       · have e' := List.mem_singleton.mp e
         exact absurd e' (neN' (by omega)))
theorem pi_zipLT {X : Cx} {e e2 : Expr} {ta : TA} {p pos tpos : Pos} {elts : List Expr} {kk : Nat} (hg : Gl X "zip") (hm : X.mg "zip" = none) (ha : PA X [e, e2] ta)
    (hs : starEach [e, e2] X.env = (false, eval e X.env) :: starEach [e2] X.env := by rfl) (hpl : (backTo pos (starEach [e2] X.env)).any (·.1) = false := by rfl) :
    PI X (.Tuple elts kk tpos) (.Call (.Name "zip" p) [e, e2] [] pos) (iZipLT X.K ta) := by
  refine ⟨fun pins s σ H R I h => ?_⟩
  refine Call_ (ld_blt I hg hm PyProof.Rows.boot_zip (PyProof.Rows.callWith_type1 (thn (ha.run pos pins s σ H _ I h) fun us s1 ⟨vs, H1, I1, r1, q1⟩ => ?_) hs hpl))
  obtain ⟨a, b, xs, ys, ex, q1⟩ := q1
  subst ex
  cases r1 with
  | cons r rr =>
    cases rr with
    | cons r' rr =>
      cases rr
      cases r
      cases r'
      have fresh5 : ∀ c, c ∈ [s1.heap.objs.size + 4, s1.heap.objs.size + 2, s1.heap.objs.size + 3, s1.heap.objs.size, s1.heap.objs.size + 1] → FpOk X pins H1 c := fun c hcm => by
        have e' : c = s1.heap.objs.size + 4 ∨ c = s1.heap.objs.size + 2 ∨ c = s1.heap.objs.size + 3 ∨ c = s1.heap.objs.size ∨ c = s1.heap.objs.size + 1 := by simpa using hcm
        have hle : s1.heap.objs.size ≤ c := by
          rcases e' with z | z | z | z | z
          · rw [z]; exact Nat.le_add_right _ _
          · rw [z]; exact Nat.le_add_right _ _
          · rw [z]; exact Nat.le_add_right _ _
          · rw [z]; exact Nat.le_refl _
          · rw [z]; exact Nat.le_add_right _ _
        exact I1.fpOk hle (I1.hok.fresh hle)
      rcases q1 with ⟨hqx, hqy, q⟩ | ⟨hqx, hqy, q⟩
      · obtain ⟨its, rv, p1, _⟩ := I1.list hqx
        obtain ⟨its2, rv2, p2, _⟩ := I1.tuple hqy
        have la : a < s1.heap.objs.size := p1.lt
        have lb : b < s1.heap.objs.size := p2.lt
        refine zip_begins2 (begins_list a its.toArray) (begins_tuple b its2.toArray) p1.isList p2 fun h' hz hTI hTO h1 h2 hsz hk => wpAny_pyIter_zip hz ?_
        have I2 : Inv X pins σ H1 { s1 with heap := h' } := I1.kept (t' := s1.toks) hk
        have S := zipsep_new s1.heap.objs.size a b la lb
        exact ⟨s1.heap.objs.size + 4, [s1.heap.objs.size + 4, s1.heap.objs.size + 2, s1.heap.objs.size + 3, s1.heap.objs.size, s1.heap.objs.size + 1], _, _, H1, rfl, I2, turn_zipLT S (Nat.ne_of_lt la) (Nat.ne_of_lt (Nat.lt_succ_of_lt lb)), ⟨hz, hTI, ⟨_, _, hTO⟩, ⟨_, h1, rfl, rfl⟩, ⟨_, h2, rfl, rfl⟩⟩, fresh5, q⟩
      · obtain ⟨its, rv, p1, _⟩ := I1.tuple hqx
        obtain ⟨its2, rv2, p2, _⟩ := I1.tuple hqy
        obtain ⟨o1, ho1, _⟩ := id p1
        obtain ⟨o2, ho2, _⟩ := id p2
        refine RZ.call_zipT (show s1.heap.IsTuple a its.toArray from p1) (show s1.heap.IsTuple b its2.toArray from p2) fun h' hz hTI hTO h1 h2 hsz hk => wpAny_pyIter_zip hz ?_
        have I2 : Inv X pins σ H1 { s1 with heap := h' } := I1.kept (t' := s1.toks) hk
        exact ⟨s1.heap.objs.size + 4, [s1.heap.objs.size + 4, s1.heap.objs.size + 2, s1.heap.objs.size + 3, s1.heap.objs.size, s1.heap.objs.size + 1], _, _, H1, rfl, I2, RZ.turn_zipT (PySem.W.ktu_apart s1.heap.objs.size a b (Heap.lt_size ho1) (Heap.lt_size ho2)), ⟨hz, hTI, ⟨_, _, hTO⟩, h1, h2⟩, fresh5, q⟩
theorem walk_zipLT {K : PySem.W.Frag} {a b : Addr} {xs ys : List V} {n : Nat} (hn : n = min xs.length ys.length) : Walk (ItzLT K a b) n (fun H => SqL K H a xs ∧ SqT K H b ys) (YPair (fun i => xs[i]?) (fun i => ys[i]?)) := by
  subst hn
  refine ⟨fun i _ hi q => ?_, fun _ q => ⟨xs, ys, q.1, q.2, rfl⟩, fun i H v H' _ q y => ?_⟩
  · have h1 : i < xs.length := by omega
    have h2 : i < ys.length := by omega
    exact ⟨xs, ys, xs[i], ys[i], q.1, q.2, by simp [h1], by simp [h2]⟩
  · obtain ⟨T, x, z, h1, h2, h3, h4, h5⟩ := y
    exact ⟨T, x, z, h1, h2, h3, h4 xs q.1, h5 ys q.2⟩
theorem walk_zipTT {K : PySem.W.Frag} {a b : Addr} {xs ys : List V} {n : Nat} (hn : n = min xs.length ys.length) : Walk (RZ.ItzT K a b) n (fun H => SqT K H a xs ∧ SqT K H b ys) (YPair (fun i => xs[i]?) (fun i => ys[i]?)) := by
  subst hn
  refine ⟨fun i _ hi q => ?_, fun _ q => ⟨xs, ys, q.1, q.2, by omega⟩, fun i H v H' _ q y => ?_⟩
  · have h1 : i < xs.length := by omega
    have h2 : i < ys.length := by omega
    exact ⟨xs, ys, xs[i], ys[i], q.1, q.2, by simp [h1], by simp [h2]⟩
  · obtain ⟨T, x, z, h1, h2, h3, h4, h5⟩ := y
    exact ⟨T, x, z, h1, h2, h3, h4 xs q.1, h5 ys q.2⟩
end L2

set_option Elab.async false
set_option linter.all false
set_option maxRecDepth 100000
set_option maxHeartbeats 4000000
/-! enumerate of a list or a tuple -/
namespace PySem
open Sem (wp)
open AutoSeq1 (wpAny_loadPart')
theorem al_meets_enum1 {v : Value} {o : Obj} {H : Heap → Prop} (B : Begins v o H) :
    Meets (Builtin.«enumerate.__new__» ⟨[.type "enumerate", v], []⟩) (fun _ R s => H s.heap ∧
      R (.ok (.ret (.ref (s.heap.push o).objs.size))) { s with heap := (s.heap.push o).push { cls := .type "enumerate", data := .fields #[.none, .bool false, .ref s.heap.objs.size, rawInt 0, .none, .none] } }) :=
  .of_wp fun prog w A R s h => by
    obtain ⟨hp, g, d, tk, os⟩ := s; obtain ⟨h1, h⟩ := h
    have hsub := sub_enumerate
    have q1 : ∀ {A' : Around} {E : Value → Shared → Prop} {Q : Value → Shared → Prop}, Q (.ref hp.objs.size) ⟨hp.push o, g, d, tk, os⟩ → wpAny (model prog w) A' (pyIter v) Q E ⟨hp, g, d, tk, os⟩ :=
      fun q => B.iter prog w _ _ ⟨hp, g, d, tk, os⟩ _ h1 q
    wp_walk using q1
    refine wpAny_stack_any fun st => wpAny_pure ?_
    split
    · rename_i c _ _ _ _ _
      cases (c == Value.type "enumerate")
      · wp_walk using q1
        exact ⟨_, rfl, h⟩
      · wp_walk using q1
        exact ⟨_, rfl, h⟩
    · wp_walk using q1
      exact ⟨_, rfl, h⟩
section
variable {prog : Program} {w : World} {A : Around} {E : Value → Shared → Prop} {s : Shared}
theorem al_enum1 {v : Value} {o : Obj} {H : Heap → Prop} {Q : Value → Shared → Prop} (B : Begins v o H) (h1 : H s.heap)
    (h : ∀ h', IsEnum h' (s.heap.objs.size + 1) s.heap.objs.size 0 .none → h'.get? s.heap.objs.size = some o → h'.objs.size = s.heap.objs.size + 2 →
      (∀ b o, s.heap.get? b = some o → h'.get? b = some o) → Q (.ref (s.heap.objs.size + 1)) { s with heap := h' }) :
    wpAny (model prog w) A (call (.type "enumerate") [v]) Q E s := by
  refine callType_new F.called_enumerate (by decide) (F.typeCall_enumerate_1 _) (F.newCall_enumerate_1 _) (fun obj => F.args_object_init_2 obj _) F.entry_enumerate_new
    (al_meets_enum1 B) ⟨h1, ?_⟩
  have hz : (s.heap.push o).objs.size = s.heap.objs.size + 1 := Heap.size_push ..
  show _ ∧ _
  rw [hz]
  have he : IsEnum ((s.heap.push o).push { cls := .type "enumerate", data := .fields #[.none, .bool false, .ref s.heap.objs.size, rawInt 0, .none, .none] }) (s.heap.objs.size + 1) s.heap.objs.size 0 .none := by
    have := Heap.get?_push_size (s.heap.push o) (o := { cls := .type "enumerate", data := .fields #[.none, .bool false, .ref s.heap.objs.size, rawInt 0, .none, .none] }) rfl
    rw [hz] at this; exact this
  refine ⟨⟨_, he, rfl⟩, h _ he (Heap.get?_push_of_some _ (Heap.get?_push_size _ B.free)) (by rw [Heap.size_push, hz]) fun b o x => Heap.get?_push_of_some _ (Heap.get?_push_of_some _ x)⟩
end
end PySem
namespace L2
open PySem PySem.Spec PyProof.Rows
/-- the tuple at a, each item with its number in a new pair -/
def IteT (K : PySem.W.Frag) (a : Addr) : It :=
  ⟨fun i H => ∃ (xs : List V) (x : V), SqT K H a xs ∧ xs[i]? = some x, fun i H v H' => ∃ T x, v = .ref T ∧ H T = none ∧ H' = upd H T (.tup [.int (i : Nat), x]) ∧ ∀ xs, SqT K H a xs → xs[i]? = some x, fun i H => ∃ xs : List V, SqT K H a xs ∧ xs.length = i⟩
theorem turn_enumT {P : Program} {w : World} {K : PySem.W.Frag} {elts : List Expr} {kk : Nat} {tpos : Pos} (a e it : Addr) (hei : e ≠ it) (hai : a ≠ it) (hea : e ≠ a) :
    Turn P w K (.Tuple elts kk tpos) (IteT K a) [e, it] e (fun i h => (∃ old, IsEnum h e it ((0 : Int) + ((i : Nat) : Int)) old) ∧ h.IsTupleIter it a i) where
  mem := by simp
  obj := fun i h st b hb => by
    obtain ⟨⟨old, he⟩, o, ho, hc, hd⟩ := st
    have e' : b = e ∨ b = it := by simpa using hb
    rcases e' with z | z
    · rw [z]; exact ⟨_, he, fun v q => nomatch q⟩
    · rw [z]; exact ⟨o, ho, fun v q => by rw [hd] at q; cases q⟩
  keep := fun i h h' st k => let ⟨⟨old, he⟩, hi⟩ := st; ⟨⟨old, k e (by simp) _ he⟩, hi.at fun o q => k it (by simp) o q⟩
  item := by
    intro X hP hw hK hc i pins s σ H E I hf st hg
    subst hP hw hK
    obtain ⟨he, hit⟩ := st
    obtain ⟨xs, x, hq, hx⟩ := hg
    obtain ⟨its, rv, p, hz⟩ := I.tuple hq
    have hh := I.ok.hd hc
    have W := GoesN.enumFrom (elts := elts) (x1 := kk) (pos := tpos) 0 (Draws.tuple (prog := X.prog) (w := X.w) (A := X.A.in1) hh it a hai its.toArray) e hei (by simp [hei, hea]) (by simp)
    have l1 := rv.length
    have k1 : i < xs.length := (List.getElem?_eq_some_iff.mp hx).1
    refine W.goes i s (fun v s2 => ∃ x H', Inv X pins σ H' s2 ∧ RelV x v ∧ (IteT X.K a).yld i H x H' ∧ ((∃ old, IsEnum s2.heap e it ((0 : Int) + ((i + 1 : Nat) : Int)) old) ∧ s2.heap.IsTupleIter it a (i + 1)) ∧ ∀ b ∈ [e, it], H' b = none) E
      (by simp only [List.size_toArray]; omega) ⟨he, hit, p⟩ fun v h' tk hY st' hk _ => ?_
    obtain ⟨T, t, u1, rfl, hT, hu1, hTo⟩ := hY
    obtain ⟨he', hit', _⟩ := st'
    have ru1 : RelV x u1 := by
      obtain ⟨u, e, r⟩ := rv.get hx
      have e' : its.toArray[i]? = some u := by simpa using e
      rw [hu1] at e'
      cases e'
      exact r
    have new : ObjOk X.prog X.w (upd H T (.tup [.int (i : Nat), x])) h' T (.tup [.int (i : Nat), x]) := ⟨by show 2 ≤ sizeLine; decide, [.int ((0 : Int) + (i : Int)) t, u1], .cons ⟨t, by rw [Int.zero_add]⟩ (.cons ru1 .nil), hTo⟩
    have I1 : Inv X pins σ (upd H T (.tup [.int (i : Nat), x])) { s with heap := h', toks := tk } :=
      I.turnedNew (t' := tk) (ch := [e, it]) (fun c o hb q => hk c o hb q) hf hT new
    refine ⟨.ref T, _, I1, rfl, ⟨T, x, rfl, I.hok.fresh hT, rfl, fun l hl => by rw [I.tuple_inj hl hq]; exact hx⟩, ⟨he', hit'⟩, fun c hcm => ?_⟩
    have hlt : c < s.heap.objs.size := by
      have e' : c = e ∨ c = it := by simpa using hcm
      rcases e' with q | q
      · rw [q]; obtain ⟨_, e⟩ := he; exact Heap.lt_size e
      · rw [q]; obtain ⟨_, e1, _⟩ := hit; exact Heap.lt_size e1
    rw [upd_ne (Nat.ne_of_lt (Nat.lt_of_lt_of_le hlt hT))]
    exact (hf c hcm).1
  done := by
    intro X hP hw hK hc i pins s σ H E I hf st hg
    subst hP hw hK
    obtain ⟨he, hit⟩ := st
    obtain ⟨xs, hq, hend⟩ := hg
    obtain ⟨its, rv, p, _⟩ := I.tuple hq
    have hh := I.ok.hd hc
    have W := GoesN.enumFrom (elts := elts) (x1 := kk) (pos := tpos) 0 (Draws.tuple (prog := X.prog) (w := X.w) (A := X.A.in1) hh it a hai its.toArray) e hei (by simp [hei, hea]) (by simp)
    have l1 := rv.length
    have en : i = its.toArray.size := by simp only [List.size_toArray]; omega
    refine W.stops s (fun s2 => Inv X pins σ H s2) E ?_ fun h' tk hk _ => I.turnedL (t' := tk) (ch := [e, it]) (fun c o hb q => hk c o hb q) hf
    rw [← en]
    exact ⟨he, hit, p⟩
  self := fun A i s Q E st h => let ⟨⟨_, he⟩, _⟩ := st; wpAny_pyIter_enum he h
def iEnumA (K : PySem.W.Frag) (ta : TA) : TI := fun σ H R => ta σ H fun vs H1 => ∃ a xs, vs = [.ref a] ∧ ((SqL K H1 a xs ∧ R (Ite K a) H1) ∨ (SqT K H1 a xs ∧ R (IteT K a) H1))
theorem pi_enumA {X : Cx} {e : Expr} {ta : TA} {p pos tpos : Pos} {elts : List Expr} {kk : Nat} (hg : Gl X "enumerate") (hm : X.mg "enumerate" = none) (ha : PA X [e] ta) (hs : starEach [e] X.env = [(false, eval e X.env)] := by rfl) :
    PI X (.Tuple elts kk tpos) (.Call (.Name "enumerate" p) [e] [] pos) (iEnumA X.K ta) := by
  refine ⟨fun pins s σ H R I h => ?_⟩
  refine Call_ (ld_blt I hg hm boot_enumerate (PyProof.Rows.callWith_type1 (thn (ha.run pos pins s σ H _ I h) fun us s1 ⟨vs, H1, I1, r1, q1⟩ => ?_) hs rfl))
  obtain ⟨a, xs, ex, q1⟩ := q1
  subst ex
  cases r1 with
  | cons r rr =>
    cases rr
    cases r
    have fr : ∀ b ∈ [s1.heap.objs.size + 1, s1.heap.objs.size], FpOk X pins H1 b := fun b hb => by
      have e' : b = s1.heap.objs.size + 1 ∨ b = s1.heap.objs.size := by simpa using hb
      have hle : s1.heap.objs.size ≤ b := by
        rcases e' with z | z
        · rw [z]; exact Nat.le_add_right _ _
        · rw [z]; exact Nat.le_refl _
      exact I1.fpOk hle (I1.hok.fresh hle)
    rcases q1 with ⟨hq, q⟩ | ⟨hq, q⟩
    · obtain ⟨its, rv, p', hz⟩ := I1.list hq
      refine call_enumerate_list p'.isList fun h' he hit hsz hk => wpAny_pyIter_enum he ?_
      have I2 : Inv X pins σ H1 { s1 with heap := h' } := I1.kept (t' := s1.toks) hk
      exact ⟨s1.heap.objs.size + 1, [s1.heap.objs.size + 1, s1.heap.objs.size], _, _, H1, rfl, I2, turn_enum a (s1.heap.objs.size + 1) s1.heap.objs.size, ⟨⟨.none, he⟩, hit, Nat.succ_ne_self _⟩, fr, q⟩
    · obtain ⟨its, rv, p', hz⟩ := I1.tuple hq
      have la : a < s1.heap.objs.size := p'.lt
      refine al_enum1 (begins_tuple a its.toArray) p' fun h' he hit hsz hk => wpAny_pyIter_enum he ?_
      have I2 : Inv X pins σ H1 { s1 with heap := h' } := I1.kept (t' := s1.toks) hk
      exact ⟨s1.heap.objs.size + 1, [s1.heap.objs.size + 1, s1.heap.objs.size], _, _, H1, rfl, I2, turn_enumT a (s1.heap.objs.size + 1) s1.heap.objs.size (Nat.succ_ne_self _) (Nat.ne_of_lt la) (Nat.ne_of_gt (Nat.lt_succ_of_lt la)), ⟨⟨.none, he⟩, ⟨_, hit, rfl, rfl⟩⟩, fr, q⟩
theorem walk_enumT {K : PySem.W.Frag} {a : Addr} {xs : List V} : Walk (IteT K a) xs.length (fun H => SqT K H a xs) (YPair (fun i => some (.int (i : Nat))) (fun i => xs[i]?)) := by
  refine ⟨fun i _ hi q => ⟨xs, xs[i], q, by simp [hi]⟩, fun _ q => ⟨xs, q, rfl⟩, fun i H v H' _ q y => ?_⟩
  obtain ⟨T, x, h1, h2, h3, h4⟩ := y
  exact ⟨T, .int (i : Nat), x, h1, h2, h3, rfl, h4 xs q⟩
end L2

set_option Elab.async false
set_option linter.all false
set_option maxRecDepth 100000
set_option maxHeartbeats 4000000
/-! small rules -/
namespace L2
open PySem PySem.Spec PyProof.Rows
section
variable {X : Cx}
/-- a name of the module that stands for a value -/
def GVal (mg : Str → Option Value) (x : Str) (v : V) : Prop := ∃ u, mg x = some u ∧ RelV v u
theorem pe_globE {x : Str} {v : V} {pos : Pos} (hg : Gl X x) (h : GVal X.mg x v) (hd : (x == ("__debug__" : Str)) = false := by decide) : PE X (.Name x pos) (tC v) := by
  obtain ⟨u, h1, h2⟩ := h
  exact pe_glob hg h1 h2 hd
/-- a built-in class's name -/
theorem pe_bty {x : Str} {n : String} {pos : Pos} (hg : Gl X x) (hm : X.mg x = none) (hv : bootBuiltins x = some (.type n)) (hn : x ≠ "__name__" := by decide) (hd : (x == ("__debug__" : Str)) = false := by decide) : PE X (.Name x pos) (tC (.ty n)) :=
  pe_bltn (v := .ty n) hg hm hv rfl hn hd
/-- what a callee lets out, this def lets out -/
theorem passes_own {E : XK} (hs : X.stack = X.env :: X.outer) (hf : X.env.frame = some X.env.locals) (hex : X.ex = []) {E₁ : Value → Shared → Prop}
    (hx : X.xe = fun e s' => wpAny (model X.prog X.w) X.A (leaving X.env e) (fun _ s'' => L2.CX X.prog X.w X.outer X.H_0 X.s_0 E e s'') E₁ s') : Passes (L2.CX X.prog X.w) X E :=
  passes_call (takes_of hs hf hex hx) fun _ _ _ _ h => h
/-- a slice by one of two rules -/
theorem sl_or {r1 r2 : V → Option Int → Option Int → Hp → VK → Prop} (h1 : SlR X r1) (h2 : SlR X r2) : SlR X (fun x lo hi H Q => r1 x lo hi H Q ∨ r2 x lo hi H Q) := by
  intro pins s σ H x v vl vu lo hi sl Q I rx hs pl pu h
  rcases h with h | h
  · exact h1 pins s σ H x v vl vu lo hi sl Q I rx hs pl pu h
  · exact h2 pins s σ H x v vl vu lo hi sl Q I rx hs pl pu h
theorem sl_seq : SlR X (fun x lo hi H Q => rSlL X.K x lo hi H Q ∨ rSlA X.K x lo hi H Q) := sl_or sl_list sl_tupA
/-- what was tracked stands as before -/
abbrev Ex (H H' : Hp) : Prop := ∀ b o, H b = some o → H' b = some o
theorem Ex.rf (H : Hp) : Ex H H := fun _ _ h => h
theorem Ex.tr {H H1 H2 : Hp} (a : Ex H H1) (b : Ex H1 H2) : Ex H H2 := fun c o h => b c o (a c o h)
theorem Ex.nw {H H' : Hp} {p : Addr} {o : HO} (e : Ex H H') (h : H' p = none) : Ex H (upd H' p o) := fun b u hb => by
  rw [upd_ne (ne_of_none (e b u hb) h)]
  exact e b u hb
/-- a thing that the old heap did not know may change -/
theorem Ex.ch {H H' : Hp} {p : Addr} {o : HO} (e : Ex H H') (h : H p = none) : Ex H (upd H' p o) := fun b u hb => by
  rw [upd_ne (ne_of_none hb h)]
  exact e b u hb
theorem Ex.no {H H' : Hp} {p : Addr} (e : Ex H H') (h : H' p = none) : H p = none := by
  cases q : H p with
  | none => rfl
  | some o =>
    rw [e p o q] at h
    cases h
/-- what is walked, by one of two rules -/
theorem pi_or {tg iter : Expr} {w1 w2 : TI} (h1 : PI X tg iter w1) (h2 : PI X tg iter w2) : PI X tg iter (fun σ H R => w1 σ H R ∨ w2 σ H R) := by
  refine ⟨fun pins s σ H R I h => ?_⟩
  rcases h with h | h
  · exact h1.run pins s σ H R I h
  · exact h2.run pins s σ H R I h
/-- a list or a tuple walked -/
theorem pi_seq {tg l : Expr} {tl : TE} (hl : PE X l tl) : PI X tg l (fun σ H R => iList X.K tl σ H R ∨ iTup X.K tl σ H R) := pi_or (pi_list hl) (pi_tup hl)
/-- a comprehension without ifs whose element is told by the turn: the heap grows only -/
theorem lc_map {J : It} {n : Nat} {G : Hp → Prop} {Y : Nat → Hp → V → Hp → Prop} (w : Walk J n G Y) {g : TG} {te : TE} {vs : List Nat} {σ : St} {H1 : Hp} {D : Addr} {Q : VK} (f : Nat → V) (hD : H1 D = none) (hn : n < 100000) (hG : ∀ H, Ex H1 H → G H)
    (hs : ∀ i x H H', i < n → Ex H1 H → Y i H x H' → ∃ σ2, Ex H H' ∧ (∀ R : St → Hp → Prop, R σ2 H' → g x (wipe σ vs) H' R) ∧ wipe σ2 vs = wipe σ vs ∧ ∀ R : V → Hp → Prop, (∀ H4, Ex H' H4 → R (f i) H4) → te σ2 H' R)
    (hq : ∀ H', Ex H1 H' → H' D = some (.lst ((List.range n).map f)) → Q (.ref D) H') :
    ∃ W : Nat → Nat → Hp → Prop, (∃ m, W 0 m (upd H1 D (.lst []))) ∧ ∀ i m H, W i m H →
      (J.stop i H ∧ Q (.ref D) H) ∨ (J.go i H ∧ ∃ Nx : Hp → Prop, (∀ H', Nx H' → ∃ m', m' < m ∧ W (i + 1) m' H') ∧ ∀ x H', J.yld i H x H' → g x (wipe σ vs) H' fun σ2 H2 => wipe σ2 vs = wipe σ vs ∧ tYes σ2 H2 fun b H3 =>
        if b = true then te σ2 H3 fun y H4 => ∃ acc, H4 D = some (.lst acc) ∧ acc.length < sizeLine ∧ Nx (upd H4 D (.lst (acc ++ [y]))) else Nx H3) := by
  refine lc_it w (fun i H => Ex H1 H ∧ H D = some (.lst ((List.range i).map f))) ⟨(Ex.rf H1).ch hD, upd_same⟩ (fun i H _ p => hG H p.1) (fun i x H H' hi p y => ?_) fun H p => hq H p.1 p.2
  obtain ⟨σ2, e1, hg, hw, he⟩ := hs i x H H' hi p.1 y
  refine hg _ ⟨hw, ?_⟩
  dsimp only [tYes]
  rw [if_pos rfl]
  refine he _ fun H4 e4 => ⟨(List.range i).map f, e4 _ _ (e1 _ _ p.2), ?_, ((p.1.tr e1).tr e4).ch hD, ?_⟩
  · rw [List.length_map, List.length_range]
    exact Nat.lt_of_lt_of_le (by omega : i < 100000) (by decide)
  · rw [upd_same, List.range_succ, List.map_append]
    rfl
theorem lc_m {J : It} {n : Nat} {G : Hp → Prop} {Y : Nat → Hp → V → Hp → Prop} (w : Walk J n G Y) {g : TG} {te : TE} {vs : List Nat} {σ : St} {H1 : Hp} {D : Addr} {S : Nat → Hp → Prop} (f : Nat → V) (hD : H1 D = none) (hn : n < 100000) (hG : ∀ H, Ex H1 H → G H)
    (hs : ∀ i x H H', i < n → Ex H1 H → Y i H x H' → ∃ σ2, Ex H H' ∧ (∀ R : St → Hp → Prop, R σ2 H' → g x (wipe σ vs) H' R) ∧ wipe σ2 vs = wipe σ vs ∧ ∀ R : V → Hp → Prop, (∀ H4, Ex H' H4 → R (f i) H4) → te σ2 H' R)
    (hq : ∀ i H', J.stop i H' → Ex H1 H' → H' D = some (.lst ((List.range n).map f)) → S i H') :
    ∃ W : Nat → Nat → Hp → Prop, (∃ m, W 0 m (upd H1 D (.lst []))) ∧ ∀ i m H, W i m H →
      S i H ∨ (J.go i H ∧ ∃ Nx : Hp → Prop, (∀ H', Nx H' → ∃ m', m' < m ∧ W (i + 1) m' H') ∧ ∀ x H', J.yld i H x H' → g x (wipe σ vs) H' fun σ2 H2 => wipe σ2 vs = wipe σ vs ∧ tYes σ2 H2 fun b H3 =>
        if b = true then te σ2 H3 fun y H4 => ∃ acc, H4 D = some (.lst acc) ∧ acc.length < sizeLine ∧ Nx (upd H4 D (.lst (acc ++ [y]))) else Nx H3) := by
  obtain ⟨W, h0, h⟩ := lc_map (Q := fun v H => Ex H1 H ∧ H D = some (.lst ((List.range n).map f))) w f hD hn hG hs fun H' e h' => ⟨e, h'⟩
  refine ⟨W, h0, fun i m H q => ?_⟩
  rcases h i m H q with ⟨a, b, c⟩ | z
  · exact .inl (hq i H a b c)
  · exact .inr z
/-- a pair taken apart -/
theorem y_pair {K : PySem.W.Frag} {f g : Nat → Option V} {i p q : Nat} {H H' : Hp} {v : V} (y : YPair f g i H v H') : ∃ a b, f i = some a ∧ g i = some b ∧ Ex H H' ∧ ∀ (σ : L2.St) (R : L2.St → Hp → Prop), R ((σ.set p (some a)).set q (some b)) H' → gTup K 2 (gCons (gName p) (gCons (gName q) gNil)) v σ H' R := by
  obtain ⟨T, a, b, rfl, hT, rfl, e1, e2⟩ := y
  exact ⟨a, b, e1, e2, (Ex.rf H).nw hT, fun σ R r => ⟨T, [a, b], rfl, .inl (.inl upd_same), rfl, a, [b], rfl, b, [], rfl, rfl, r⟩⟩
/-- a list or a tuple -/
def SeqV (H : Hp) (p : Addr) (xs : List V) : Prop := H p = some (.lst xs) ∨ H p = some (.tup xs)
theorem SeqV.ex {H H' : Hp} {p : Addr} {xs : List V} (h : SeqV H p xs) (e : Ex H H') : SeqV H' p xs := h.elim (fun z => .inl (e _ _ z)) fun z => .inr (e _ _ z)
theorem cut_nat (xs : List V) (lo hi : Nat) : cutV xs (some (lo : Int)) (some (hi : Int)) = (xs.drop lo).take (hi - lo) := by
  unfold cutV
  rw [HT.sIx_nat, HT.sIx_nat]
  apply List.ext_getElem?
  intro i
  simp only [List.getElem?_take, List.getElem?_drop]
  by_cases h1 : lo ≤ xs.length
  · rw [Nat.min_eq_left h1]
    by_cases h2 : hi ≤ xs.length
    · rw [Nat.min_eq_left h2]
    · by_cases h3 : i < hi - lo
      · by_cases h4 : i < min hi xs.length - lo
        · rw [if_pos h3, if_pos h4]
        · rw [if_pos h3, if_neg h4, eq_comm, List.getElem?_eq_none (by omega)]
      · rw [if_neg h3, if_neg (by omega)]
  · by_cases h3 : i < hi - lo
    · rw [if_pos h3, List.getElem?_eq_none (by omega), List.getElem?_eq_none (by omega)]
      split <;> rfl
    · rw [if_neg h3, List.getElem?_eq_none (by omega)]
      split <;> rfl
theorem cut_to (xs : List V) (hi : Nat) : cutV xs none (some (hi : Int)) = xs.take hi := by
  have h := cut_nat xs 0 hi
  rw [List.drop_zero, Nat.sub_zero] at h
  rw [← h]
  unfold cutV
  rw [HT.sIx_nat xs.length 0 0, Nat.zero_min]
  rfl
theorem cut_from (xs : List V) (lo : Nat) : cutV xs (some (lo : Int)) none = xs.drop lo := by
  unfold cutV
  rw [HT.sIx_nat, HT.sIx_none]
  apply List.ext_getElem?
  intro i
  simp only [List.getElem?_take, List.getElem?_drop]
  split
  · congr 1
    omega
  · rw [List.getElem?_eq_none (by omega)]
theorem slice_seq {K : PySem.W.Frag} {H : Hp} {p : Addr} {xs : List V} {lo hi : Option Int} {Q : VK} (hs : SeqV H p xs) (hq : ∀ H' q, Ex H H' → SeqV H' q (cutV xs lo hi) → Q (.ref q) H') : rSlL K (.ref p) lo hi H Q ∨ rSlA K (.ref p) lo hi H Q := by
  rcases hs with h | h
  · exact .inl ⟨p, xs, rfl, .inl (.inl h), fun q hn => hq _ q ((Ex.rf H).nw hn) (.inl upd_same)⟩
  · refine .inr ⟨p, xs, rfl, .inl (.inl h), fun w => ?_, fun _ q hn => hq _ q ((Ex.rf H).nw hn) (.inr upd_same)⟩
    refine hq H p (Ex.rf H) (.inr ?_)
    have e : cutV xs lo hi = xs := by
      unfold cutV
      rw [w.1, w.2, List.drop_zero, Nat.sub_zero, List.take_length]
    rw [e]
    exact h
theorem slice_tup {K : PySem.W.Frag} {H : Hp} {p : Addr} {xs : List V} {lo hi : Option Int} {Q : VK} (h : H p = some (.tup xs)) (hq : ∀ H' q, Ex H H' → H' q = some (.tup (cutV xs lo hi)) → Q (.ref q) H') : rSlA K (.ref p) lo hi H Q := by
  refine ⟨p, xs, rfl, .inl (.inl h), fun w => ?_, fun _ q hn => hq _ q ((Ex.rf H).nw hn) upd_same⟩
  refine hq H p (Ex.rf H) ?_
  have e : cutV xs lo hi = xs := by
    unfold cutV
    rw [w.1, w.2, List.drop_zero, Nat.sub_zero, List.take_length]
  rw [e]
  exact h
theorem RgC.up0 {n c : Nat} (hc : 0 < c) (hc2 : c < 1000) (hn : n < 1000000) : RgC 0 (n : Int) (c : Int) ((n + c - 1) / c) := by
  have e : Builtin.Range.rangeSize 0 (n : Int) (c : Int) = (((n + c - 1) / c : Nat) : Int) := by
    rw [PyProof.Rows.rangeSize_pos (by omega) (by omega)]
    have h : (n : Int) + c - 1 = ((n + c - 1 : Nat) : Int) := by omega
    rw [h]
    rfl
  refine ⟨by omega, by omega, ?_, e⟩
  unfold Builtin.Range.small
  rw [e]
  have h2 : (n + c - 1) / c ≤ n + c - 1 := Nat.div_le_self _ _
  simp only [Builtin.Range.rangeFitsLong, Bool.and_eq_true, Bool.or_eq_true, decide_eq_true_eq, beq_iff_eq, show ((c : Int) > 0) by omega, if_true]
  generalize (n + c - 1) / c = k at *
  omega
theorem it_seq {K : PySem.W.Frag} {i : Nat} {σ : L2.St} {H : Hp} {p : Addr} {xs : List V} {R : It → Hp → Prop} (hv : σ[i]? = some (some (.ref p))) (hs : SeqV H p xs) (h : ∀ J (G : Hp → Prop), (∀ H', Ex H H' → G H') → Walk J xs.length G (YAt xs) → R J H) :
    iList K (tVar i) σ H R ∨ iTup K (tVar i) σ H R := by
  rcases hs with hs | hs
  · exact .inl ⟨_, hv, p, rfl, ⟨xs, .inl (.inl hs)⟩, h _ _ (fun H' e => .inl (.inl (e _ _ hs))) walk_list⟩
  · exact .inr ⟨_, hv, p, rfl, ⟨xs, .inl (.inl hs)⟩, h _ _ (fun H' e => .inl (.inl (e _ _ hs))) walk_tup⟩
theorem slice_tupF {K : PySem.W.Frag} {H : Hp} {p : Addr} {xs : List V} {lo hi : Option Int} {Q : VK} (h : ∀ H', Ex H H' → SqT K H' p xs) (hq : ∀ H' q, Ex H H' → (∀ H'', Ex H' H'' → SqT K H'' q (cutV xs lo hi)) → Q (.ref q) H') : rSlA K (.ref p) lo hi H Q := by
  refine ⟨p, xs, rfl, h H (Ex.rf H), fun w => ?_, fun _ q hn => hq _ q ((Ex.rf H).nw hn) fun H'' e => .inl (.inl (e _ _ upd_same))⟩
  refine hq H p (Ex.rf H) fun H'' e => ?_
  have e1 : cutV xs lo hi = xs := by
    unfold cutV
    rw [w.1, w.2, List.drop_zero, Nat.sub_zero, List.take_length]
  rw [e1]
  exact h H'' e
/-- two names as a target -/
theorem pg_tup2 {K : PySem.W.Frag} {i j : Nat} {x y : Str} {px py pos : Pos} {k : Nat} (hK : X.K = K) (hc : X.calm = true) (hN : X.N.Nodup) (h1 : X.N[i]? = some x) (h2 : X.N[j]? = some y) (l1 : Loc X.env.scope x) (l2 : Loc X.env.scope y)
    (f1 : X.fn x = true ∨ X.env.scope.names.lookup x = some .local) (f2 : X.fn y = true ∨ X.env.scope.names.lookup y = some .local) :
    PG X (.Tuple [.Name x px, .Name y py] k pos) (gTup K 2 (gCons (gName i) (gCons (gName j) gNil))) :=
  hK ▸ pg_tup hc (pgs_cons (pg_name (pos := px) hN h1 l1 f1) (pgs_cons (pg_name (pos := py) hN h2 l2 f2) pgs_nil))
/-- three names as a target -/
theorem pg_tup3 {K : PySem.W.Frag} {i j l : Nat} {x y z : Str} {px py pz pos : Pos} {k : Nat} (hK : X.K = K) (hc : X.calm = true) (hN : X.N.Nodup) (h1 : X.N[i]? = some x) (h2 : X.N[j]? = some y) (h3 : X.N[l]? = some z) (l1 : Loc X.env.scope x) (l2 : Loc X.env.scope y) (l3 : Loc X.env.scope z)
    (f1 : X.fn x = true ∨ X.env.scope.names.lookup x = some .local) (f2 : X.fn y = true ∨ X.env.scope.names.lookup y = some .local) (f3 : X.fn z = true ∨ X.env.scope.names.lookup z = some .local) :
    PG X (.Tuple [.Name x px, .Name y py, .Name z pz] k pos) (gTup K 3 (gCons (gName i) (gCons (gName j) (gCons (gName l) gNil)))) :=
  hK ▸ pg_tup hc (pgs_cons (pg_name (pos := px) hN h1 l1 f1) (pgs_cons (pg_name (pos := py) hN h2 l2 f2) (pgs_cons (pg_name (pos := pz) hN h3 l3 f3) pgs_nil)))
theorem op_neDK {K : PySem.W.Frag} (hK : X.K = K) (hu : X.A.units + 64 < cLine) : OpR X (compareOp .NotEq) (rNeD K) := hK ▸ op_neD hu
theorem op_eqDK {K : PySem.W.Frag} (hK : X.K = K) (hu : X.A.units + 64 < cLine) : OpR X (compareOp .Eq) (rEqD K) := hK ▸ op_eqD hu
theorem hu64_of {A : Around} {k : Nat} (hr : Room k A) : A.units + 64 < cLine := by
  have := hr.un
  omega
/-- f(p = e), p the one parameter -/
theorem pe_callKw1 {CX : CXT} {k : Nat} {f : Addr} {fd : FuncData} {pn x : Str} {sp : Sp} {E : XK} {e : Expr} {te : TE} {p pos kpos : Pos} (F : FnOk X.prog X.w X.K X.mg X.base CX k f fd [pn] sp) (hr : Room k X.A) (hg : Gl X x) (hm : X.mg x = some (.ref f)) (hk : PySem.W.keepIn X.K (.ref f) = true)
    (hb : ∀ (s : Shared) (v : Value), BindsTo s fd ⟨[], [(pn, v)]⟩ [(pn, v)]) (hx : Passes CX X E) (ha : PE X e te) (hdb : (x == ("__debug__" : Str)) = false := by decide) :
    PE X (.Call (.Name x p) [] [⟨some pn, e, kpos⟩] pos) (fun σ H Q => te σ H fun y H1 => sp [y] H1 Q E) := by
  refine ⟨fun pins s σ H Q I h => ?_⟩
  refine wpAny_Call_Name_kw (ld_glob I hg hm ?_ hdb)
  refine PySem.W.callWith_KW0 (h₀ := X.base) I.ok.mod.kin hk rfl ?_ rfl
  refine thn ((pk_cons (nm := some pn) (kpos := kpos) ha pk_nil).run pos pins s σ H (fun zs H1 => ∃ y, zs = [y] ∧ sp [y] H1 Q E) I ?_) fun ws s2 ⟨zs, H2, I2, rz, y, ez, q2⟩ => ⟨I2.kIn, ?_⟩
  · show te σ H fun x H1 => ∃ y, x :: [] = [y] ∧ sp [y] H1 Q E
    have e : (fun x H1 => ∃ y, x :: ([] : List V) = [y] ∧ sp [y] H1 Q E) = fun x H1 => sp [x] H1 Q E := by
      funext x H1
      exact propext ⟨fun ⟨y, hy, q⟩ => by cases hy; exact q, fun q => ⟨x, rfl, q⟩⟩
    rw [e]
    exact h
  · subst ez
    cases rz with
    | @cons _ u _ us r rr =>
      cases rr
      refine wpAny_call (codeAny_mono (F.run X.A X.stack s2 H2 ⟨[], [(pn, u)]⟩ [u] [y] Q E hr I2.env0 (hb s2 u) (.cons r .nil) q2) fun r s' hq => ?_)
      cases r with
      | error e => exact hx pins σ _ _ e s' I2 hq
      | ok fl =>
        cases fl with
        | ret u => exact I2.after hq
        | next => exact False.elim hq
        | brk => exact False.elim hq
        | cont => exact False.elim hq
end
end L2

set_option Elab.async false
set_option linter.all false
namespace K87
/-! ### the mirror -/
/-- seven bits each, the lowest first -/
def sevens (n : Nat) : List Int := if n < 128 then [(n : Int)] else ((n % 128 + 128 : Nat) : Int) :: sevens (n / 128)
termination_by n
decreasing_by omega
/-- the i-th by i + 1 -/
def wgt (row : List Int) (i : Nat) : Int := ((i : Int) + 1) * row.getD i 0
def wl (row : List Int) : List Int := (List.range row.length).map (wgt row)
def check (row : List Int) : Int := (wl row).sum % 256
def units : List Int := [1, 2, 4, 8, 16, 32, 64, 128]
def chunkByte (bits : List Int) : Int := ((List.range (min bits.length 8)).map fun i => bits.getD i 0 * units.getD i 0).sum
def chunk (bits : List Int) (k : Nat) : List Int := (bits.drop (8 * k)).take 8
def inputsRow (bits : List Int) : List Int := (73 :: sevens bits.length) ++ (List.range ((bits.length + 7) / 8)).map fun k => chunkByte (chunk bits k)
def encode (bits : List Int) : List Int := inputsRow bits ++ [check (inputsRow bits)]
def rbyte (d : List Int) (p : Nat) (lo hi : Int) : Except Nat (Int × Nat) := match d[p]? with
  | none => .error p
  | some x => if lo ≤ x ∧ x ≤ hi then .ok (x, p + 1) else .error p
def rnum (d : List Int) (most : Int) : Nat → Nat → Int → Int → Except Nat (Int × Nat)
  | 0, p, _, _ => .error p
  | fuel + 1, p, found, unit => match rbyte d p (if unit > 1 then 1 else 0) (min 255 ((most - found) / unit)) with
    | .error e => .error e
    | .ok (b, p') => if 128 ≤ b then rnum d most fuel p' (found + b % 128 * unit) (unit * 128) else .ok (found + b % 128 * unit, p')
def bitsOf (here : Nat) (b : Int) : List Int := (units.take here).map fun u => b / u % 2
def rbits (d : List Int) (m : Nat) (p : Nat) : Except Nat (List Int × Nat) :=
  if m = 0 then .ok ([], p) else match rbyte d p 0 (2 * 2 ^ (min 8 m - 1) - 1) with
    | .error e => .error e
    | .ok (b, p') => match rbits d (m - 8) p' with
      | .error e => .error e
      | .ok (r, q) => .ok (bitsOf (min 8 m) b ++ r, q)
termination_by m
decreasing_by omega
def rend (d : List Int) (p : Nat) : Except Nat Unit := match rbyte d p (check (d.take p)) (check (d.take p)) with
  | .error e => .error e
  | .ok (_, q) => if q < d.length then .error q else .ok ()
def readInputs (d : List Int) : Except Nat (List Int) := match rbyte d 0 73 73 with
  | .error e => .error e
  | .ok (_, p) => match rnum d 5000 (d.length + 1) p 0 1 with
    | .error e => .error e
    | .ok (many, q) => match rbits d many.toNat q with
      | .error e => .error e
      | .ok (bits, r) => match rend d r with
        | .error e => .error e
        | .ok _ => .ok bits
end K87

set_option Elab.async false
set_option linter.all false
set_option maxRecDepth 100000
set_option maxHeartbeats 4000000
/-! k87: the text by its defs -/
namespace K87
open PySem PySem.Spec PyProof.Rows L2
def top (i : Nat) : Stmt := PySem.Challenge.pw_aliveatonce_k87_inputs_told_in_bytes.main.body.getD i (.Pass ⟨0, 0, 0, 0⟩)
abbrev s_is_integer : Stmt := top 1
abbrev N_is_integer : List Str := ["value"]
theorem sc_is_integer : FnScope N_is_integer ["value"] (defScope s_is_integer) := ⟨rfl, rfl, rfl, by decide +kernel, rfl, by decide +kernel, by decide +kernel⟩
abbrev s_is_within : Stmt := top 2
abbrev N_is_within : List Str := ["value", "least", "most"]
theorem sc_is_within : FnScope N_is_within ["value", "least", "most"] (defScope s_is_within) := ⟨rfl, rfl, rfl, by decide +kernel, rfl, by decide +kernel, by decide +kernel⟩
abbrev s_is_listed : Stmt := top 3
abbrev N_is_listed : List Str := ["value"]
theorem sc_is_listed : FnScope N_is_listed ["value"] (defScope s_is_listed) := ⟨rfl, rfl, rfl, by decide +kernel, rfl, by decide +kernel, by decide +kernel⟩
abbrev s_are_bits : Stmt := top 4
abbrev N_are_bits : List Str := ["value", "one"]
theorem sc_are_bits : FnScope N_are_bits ["value"] (defScope s_are_bits) := ⟨rfl, rfl, rfl, by decide +kernel, rfl, by decide +kernel, by decide +kernel⟩
abbrev s_is_input_row : Stmt := top 17
abbrev N_is_input_row : List Str := ["value"]
theorem sc_is_input_row : FnScope N_is_input_row ["value"] (defScope s_is_input_row) := ⟨rfl, rfl, rfl, by decide +kernel, rfl, by decide +kernel, by decide +kernel⟩
abbrev s_need_inputs : Stmt := top 18
abbrev N_need_inputs : List Str := ["value"]
theorem sc_need_inputs : FnScope N_need_inputs ["value"] (defScope s_need_inputs) := ⟨rfl, rfl, rfl, by decide +kernel, rfl, by decide +kernel, by decide +kernel⟩
abbrev s_check_of : Stmt := top 24
abbrev N_check_of : List Str := ["row", "at", "one"]
theorem sc_check_of : FnScope N_check_of ["row"] (defScope s_check_of) := ⟨rfl, rfl, rfl, by decide +kernel, rfl, by decide +kernel, by decide +kernel⟩
abbrev s_number_row : Stmt := top 25
abbrev N_number_row : List Str := ["number", "found", "left"]
theorem sc_number_row : FnScope N_number_row ["number"] (defScope s_number_row) := ⟨rfl, rfl, rfl, by decide +kernel, rfl, by decide +kernel, by decide +kernel⟩
abbrev s_inputs_bytes : Stmt := top 26
abbrev N_inputs_bytes : List Str := ["inputs", "row", "at", "bit", "unit"]
theorem sc_inputs_bytes : FnScope N_inputs_bytes ["inputs"] (defScope s_inputs_bytes) := ⟨rfl, rfl, rfl, by decide +kernel, rfl, by decide +kernel, by decide +kernel⟩
abbrev s_Unpack___init__ : Stmt := inClass (top 27) 0
abbrev N_Unpack___init__ : List Str := ["self", "data", "one"]
theorem sc_Unpack___init__ : FnScope N_Unpack___init__ ["self", "data"] (defScope s_Unpack___init__) := ⟨rfl, rfl, rfl, by decide +kernel, rfl, by decide +kernel, by decide +kernel⟩
abbrev s_Unpack_byte : Stmt := inClass (top 27) 1
abbrev N_Unpack_byte : List Str := ["self", "least", "most"]
theorem sc_Unpack_byte : FnScope N_Unpack_byte ["self", "least", "most"] (defScope s_Unpack_byte) := ⟨rfl, rfl, rfl, by decide +kernel, rfl, by decide +kernel, by decide +kernel⟩
abbrev s_Unpack_number : Stmt := inClass (top 27) 2
abbrev N_Unpack_number : List Str := ["self", "most", "found", "unit", "byte", "least"]
theorem sc_Unpack_number : FnScope N_Unpack_number ["self", "most"] (defScope s_Unpack_number) := ⟨rfl, rfl, rfl, by decide +kernel, rfl, by decide +kernel, by decide +kernel⟩
abbrev s_Unpack_end : Stmt := inClass (top 27) 3
abbrev N_Unpack_end : List Str := ["self", "check"]
theorem sc_Unpack_end : FnScope N_Unpack_end ["self"] (defScope s_Unpack_end) := ⟨rfl, rfl, rfl, by decide +kernel, rfl, by decide +kernel, by decide +kernel⟩
abbrev s_read_inputs_bytes : Stmt := top 28
abbrev N_read_inputs_bytes : List Str := ["data", "rest", "many", "found", "here", "byte", "unit"]
theorem sc_read_inputs_bytes : FnScope N_read_inputs_bytes ["data"] (defScope s_read_inputs_bytes) := ⟨rfl, rfl, rfl, by decide +kernel, rfl, by decide +kernel, by decide +kernel⟩
abbrev s__law_pen : Stmt := top 30
abbrev N__law_pen : List Str := ["script", "seed", "cell"]
theorem sc__law_pen : FnScope N__law_pen ["script"] (defScope s__law_pen) := ⟨rfl, rfl, rfl, by decide +kernel, rfl, by decide +kernel, by decide +kernel⟩
abbrev s__law_draw : Stmt := top 31
abbrev N__law_draw : List Str := ["pen", "many"]
theorem sc__law_draw : FnScope N__law_draw ["pen", "many"] (defScope s__law_draw) := ⟨rfl, rfl, rfl, by decide +kernel, rfl, by decide +kernel, by decide +kernel⟩
abbrev s__law_pick : Stmt := top 32
abbrev N__law_pick : List Str := ["pen", "some"]
theorem sc__law_pick : FnScope N__law_pick ["pen", "some"] (defScope s__law_pick) := ⟨rfl, rfl, rfl, by decide +kernel, rfl, by decide +kernel, by decide +kernel⟩
abbrev s__law_caught : Stmt := top 33
abbrev N__law_caught : List Str := ["ask", "caught", "found", "error"]
theorem sc__law_caught : FnScope N__law_caught ["ask"] (defScope s__law_caught) := ⟨rfl, rfl, rfl, by decide +kernel, rfl, by decide +kernel, by decide +kernel⟩
abbrev s__law_sevens : Stmt := top 34
abbrev N__law_sevens : List Str := ["number", "found"]
theorem sc__law_sevens : FnScope N__law_sevens ["number"] (defScope s__law_sevens) := ⟨rfl, rfl, rfl, by decide +kernel, rfl, by decide +kernel, by decide +kernel⟩
abbrev s__law_check : Stmt := top 35
abbrev N__law_check : List Str := ["row", "at", "one"]
theorem sc__law_check : FnScope N__law_check ["row"] (defScope s__law_check) := ⟨rfl, rfl, rfl, by decide +kernel, rfl, by decide +kernel, by decide +kernel⟩
abbrev s__law_byte : Stmt := top 36
abbrev N__law_byte : List Str := ["told", "least", "most", "at"]
theorem sc__law_byte : FnScope N__law_byte ["told", "least", "most"] (defScope s__law_byte) := ⟨rfl, rfl, rfl, by decide +kernel, rfl, by decide +kernel, by decide +kernel⟩
abbrev s__law_read_sevens : Stmt := top 37
abbrev N__law_read_sevens : List Str := ["told", "most", "found", "unit", "byte"]
theorem sc__law_read_sevens : FnScope N__law_read_sevens ["told", "most"] (defScope s__law_read_sevens) := ⟨rfl, rfl, rfl, by decide +kernel, rfl, by decide +kernel, by decide +kernel⟩
abbrev s__law_read_end : Stmt := top 38
abbrev N__law_read_end : List Str := ["told", "check"]
theorem sc__law_read_end : FnScope N__law_read_end ["told"] (defScope s__law_read_end) := ⟨rfl, rfl, rfl, by decide +kernel, rfl, by decide +kernel, by decide +kernel⟩
abbrev s__law_bent_row : Stmt := top 39
abbrev N__law_bent_row : List Str := ["pen", "row", "way", "at", "byte"]
theorem sc__law_bent_row : FnScope N__law_bent_row ["pen", "row"] (defScope s__law_bent_row) := ⟨rfl, rfl, rfl, by decide +kernel, rfl, by decide +kernel, by decide +kernel⟩
abbrev s__law_inputs_row : Stmt := top 40
abbrev N__law_inputs_row : List Str := ["inputs", "row", "at", "byte", "unit", "bit"]
theorem sc__law_inputs_row : FnScope N__law_inputs_row ["inputs"] (defScope s__law_inputs_row) := ⟨rfl, rfl, rfl, by decide +kernel, rfl, by decide +kernel, by decide +kernel⟩
abbrev s__law_inputs_bad : Stmt := top 41
abbrev N__law_inputs_bad : List Str := ["row", "told", "many", "most"]
theorem sc__law_inputs_bad : FnScope N__law_inputs_bad ["row"] (defScope s__law_inputs_bad) := ⟨rfl, rfl, rfl, by decide +kernel, rfl, by decide +kernel, by decide +kernel⟩
abbrev s_law : Stmt := top 42
abbrev N_law : List Str := ["script", "pen", "turn", "many", "inputs", "at", "row", "due", "told", "lap", "bent", "bad", "heard", "odd", "none", "known"]
theorem sc_law : FnScope N_law ["script"] (defScope s_law) := ⟨rfl, rfl, rfl, by decide +kernel, rfl, by decide +kernel, by decide +kernel⟩

structure Ad where
  f_is_integer : Addr
  fd_is_integer : FuncData
  f_is_within : Addr
  fd_is_within : FuncData
  f_is_listed : Addr
  fd_is_listed : FuncData
  f_are_bits : Addr
  fd_are_bits : FuncData
  f_is_input_row : Addr
  fd_is_input_row : FuncData
  f_need_inputs : Addr
  fd_need_inputs : FuncData
  f_check_of : Addr
  fd_check_of : FuncData
  f_number_row : Addr
  fd_number_row : FuncData
  f_inputs_bytes : Addr
  fd_inputs_bytes : FuncData
  f_Unpack___init__ : Addr
  fd_Unpack___init__ : FuncData
  f_Unpack_byte : Addr
  fd_Unpack_byte : FuncData
  f_Unpack_number : Addr
  fd_Unpack_number : FuncData
  f_Unpack_end : Addr
  fd_Unpack_end : FuncData
  f_read_inputs_bytes : Addr
  fd_read_inputs_bytes : FuncData
  f__law_pen : Addr
  fd__law_pen : FuncData
  f__law_draw : Addr
  fd__law_draw : FuncData
  f__law_pick : Addr
  fd__law_pick : FuncData
  f__law_caught : Addr
  fd__law_caught : FuncData
  f__law_sevens : Addr
  fd__law_sevens : FuncData
  f__law_check : Addr
  fd__law_check : FuncData
  f__law_byte : Addr
  fd__law_byte : FuncData
  f__law_read_sevens : Addr
  fd__law_read_sevens : FuncData
  f__law_read_end : Addr
  fd__law_read_end : FuncData
  f__law_bent_row : Addr
  fd__law_bent_row : FuncData
  f__law_inputs_row : Addr
  fd__law_inputs_row : FuncData
  f__law_inputs_bad : Addr
  fd__law_inputs_bad : FuncData
  f_law : Addr
  fd_law : FuncData
  C_AliveError : Addr
  C_BadValue : Addr
  C_BadNumber : Addr
  C_BadCode : Addr
  C_BadText : Addr
  C_BadBytes : Addr
  C_Misfit : Addr
  C_Nothing : Addr
  C_TooMany : Addr
  C_Unpack : Addr
  i_BadValue : Addr
  i_BadBytes : Addr
  U_UNITS : Addr
structure Txt (P : Program) (K : PySem.W.Frag) (mg : Str → Option Value) (a : Ad) : Prop where
  c_MOST_INPUTS : GVal mg "MOST_INPUTS" (.int 5000)
  c_INPUTS : GVal mg "INPUTS" (.int 73)
  c_BYTE : GVal mg "BYTE" (.int 256)
  c_HALF : GVal mg "HALF" (.int 128)
  c_UNITS : GVal mg "UNITS" (.ref a.U_UNITS)
  q_UNITS : ∀ H, SqT K H a.U_UNITS [.int 1, .int 2, .int 4, .int 8, .int 16, .int 32, .int 64, .int 128]
  m_isinstance : mg "isinstance" = none
  m_int : mg "int" = none
  m_bool : mg "bool" = none
  m_list : mg "list" = none
  m_tuple : mg "tuple" = none
  m_all : mg "all" = none
  m_len : mg "len" = none
  m_sum : mg "sum" = none
  m_enumerate : mg "enumerate" = none
  m_range : mg "range" = none
  m_zip : mg "zip" = none
  m_min : mg "min" = none
  m_repr : mg "repr" = none
  v_BadValue : GVal mg "BadValue" (.ref a.C_BadValue)
  v_BadNumber : GVal mg "BadNumber" (.ref a.C_BadNumber)
  v_BadCode : GVal mg "BadCode" (.ref a.C_BadCode)
  v_BadText : GVal mg "BadText" (.ref a.C_BadText)
  v_BadBytes : GVal mg "BadBytes" (.ref a.C_BadBytes)
  v_Misfit : GVal mg "Misfit" (.ref a.C_Misfit)
  v_Nothing : GVal mg "Nothing" (.ref a.C_Nothing)
  v_TooMany : GVal mg "TooMany" (.ref a.C_TooMany)
  v_AliveError : GVal mg "AliveError" (.ref a.C_AliveError)
  e_BadValue : PySem.AlE.ErrTxt P K mg a.C_BadValue a.i_BadValue "BadValue" "part"
  e_BadBytes : PySem.AlE.ErrTxt P K mg a.C_BadBytes a.i_BadBytes "BadBytes" "at"
  x_BadValue : ExcC K a.C_BadValue
  y_BadValue : XfC K a.C_BadValue
  z_BadValue : PySem.W.findIn K (.ref a.C_BadValue) "part" = some none
  i_BadValue_BadValue : PySem.W.kitOne K (.ref a.C_BadValue) (.ref a.C_BadValue) = some true
  i_BadValue_BadNumber : PySem.W.kitOne K (.ref a.C_BadValue) (.ref a.C_BadNumber) = some false
  i_BadValue_BadCode : PySem.W.kitOne K (.ref a.C_BadValue) (.ref a.C_BadCode) = some false
  i_BadValue_BadText : PySem.W.kitOne K (.ref a.C_BadValue) (.ref a.C_BadText) = some false
  i_BadValue_BadBytes : PySem.W.kitOne K (.ref a.C_BadValue) (.ref a.C_BadBytes) = some false
  i_BadValue_Misfit : PySem.W.kitOne K (.ref a.C_BadValue) (.ref a.C_Misfit) = some false
  i_BadValue_Nothing : PySem.W.kitOne K (.ref a.C_BadValue) (.ref a.C_Nothing) = some false
  i_BadValue_TooMany : PySem.W.kitOne K (.ref a.C_BadValue) (.ref a.C_TooMany) = some false
  j_BadValue : PySem.W.exmOne K (.ref a.C_BadValue) (.ref a.C_AliveError) = some true
  x_BadBytes : ExcC K a.C_BadBytes
  y_BadBytes : XfC K a.C_BadBytes
  z_BadBytes : PySem.W.findIn K (.ref a.C_BadBytes) "at" = some none
  i_BadBytes_BadValue : PySem.W.kitOne K (.ref a.C_BadBytes) (.ref a.C_BadValue) = some false
  i_BadBytes_BadNumber : PySem.W.kitOne K (.ref a.C_BadBytes) (.ref a.C_BadNumber) = some false
  i_BadBytes_BadCode : PySem.W.kitOne K (.ref a.C_BadBytes) (.ref a.C_BadCode) = some false
  i_BadBytes_BadText : PySem.W.kitOne K (.ref a.C_BadBytes) (.ref a.C_BadText) = some false
  i_BadBytes_BadBytes : PySem.W.kitOne K (.ref a.C_BadBytes) (.ref a.C_BadBytes) = some true
  i_BadBytes_Misfit : PySem.W.kitOne K (.ref a.C_BadBytes) (.ref a.C_Misfit) = some false
  i_BadBytes_Nothing : PySem.W.kitOne K (.ref a.C_BadBytes) (.ref a.C_Nothing) = some false
  i_BadBytes_TooMany : PySem.W.kitOne K (.ref a.C_BadBytes) (.ref a.C_TooMany) = some false
  j_BadBytes : PySem.W.exmOne K (.ref a.C_BadBytes) (.ref a.C_AliveError) = some true
  cl_Unpack : Cls K a.C_Unpack
  na_Unpack_data : NoAttr K a.C_Unpack "data"
  na_Unpack_at : NoAttr K a.C_Unpack "at"
structure All (P : Program) (w : World) (K : PySem.W.Frag) (mg : Str → Option Value) (base : Heap) (a : Ad) : Prop where
  T : Txt P K mg a
  F_is_integer : Fun K "is_integer" "is_integer" s_is_integer a.f_is_integer a.fd_is_integer
  g_is_integer : mg "is_integer" = some (.ref a.f_is_integer)
  k_is_integer : PySem.W.keepIn K (.ref a.f_is_integer) = true
  b_is_integer : Binds K a.fd_is_integer ["value"] []
  F_is_within : Fun K "is_within" "is_within" s_is_within a.f_is_within a.fd_is_within
  g_is_within : mg "is_within" = some (.ref a.f_is_within)
  k_is_within : PySem.W.keepIn K (.ref a.f_is_within) = true
  b_is_within : Binds K a.fd_is_within ["value", "least", "most"] []
  F_is_listed : Fun K "is_listed" "is_listed" s_is_listed a.f_is_listed a.fd_is_listed
  g_is_listed : mg "is_listed" = some (.ref a.f_is_listed)
  k_is_listed : PySem.W.keepIn K (.ref a.f_is_listed) = true
  b_is_listed : Binds K a.fd_is_listed ["value"] []
  F_are_bits : Fun K "are_bits" "are_bits" s_are_bits a.f_are_bits a.fd_are_bits
  g_are_bits : mg "are_bits" = some (.ref a.f_are_bits)
  k_are_bits : PySem.W.keepIn K (.ref a.f_are_bits) = true
  b_are_bits : Binds K a.fd_are_bits ["value"] []
  F_is_input_row : Fun K "is_input_row" "is_input_row" s_is_input_row a.f_is_input_row a.fd_is_input_row
  g_is_input_row : mg "is_input_row" = some (.ref a.f_is_input_row)
  k_is_input_row : PySem.W.keepIn K (.ref a.f_is_input_row) = true
  b_is_input_row : Binds K a.fd_is_input_row ["value"] []
  F_need_inputs : Fun K "need_inputs" "need_inputs" s_need_inputs a.f_need_inputs a.fd_need_inputs
  g_need_inputs : mg "need_inputs" = some (.ref a.f_need_inputs)
  k_need_inputs : PySem.W.keepIn K (.ref a.f_need_inputs) = true
  b_need_inputs : Binds K a.fd_need_inputs ["value"] []
  F_check_of : Fun K "check_of" "check_of" s_check_of a.f_check_of a.fd_check_of
  g_check_of : mg "check_of" = some (.ref a.f_check_of)
  k_check_of : PySem.W.keepIn K (.ref a.f_check_of) = true
  b_check_of : Binds K a.fd_check_of ["row"] []
  F_number_row : Fun K "number_row" "number_row" s_number_row a.f_number_row a.fd_number_row
  g_number_row : mg "number_row" = some (.ref a.f_number_row)
  k_number_row : PySem.W.keepIn K (.ref a.f_number_row) = true
  b_number_row : Binds K a.fd_number_row ["number"] []
  F_inputs_bytes : Fun K "inputs_bytes" "inputs_bytes" s_inputs_bytes a.f_inputs_bytes a.fd_inputs_bytes
  g_inputs_bytes : mg "inputs_bytes" = some (.ref a.f_inputs_bytes)
  k_inputs_bytes : PySem.W.keepIn K (.ref a.f_inputs_bytes) = true
  b_inputs_bytes : Binds K a.fd_inputs_bytes ["inputs"] []
  F_Unpack___init__ : Fun K "__init__" "Unpack.__init__" s_Unpack___init__ a.f_Unpack___init__ a.fd_Unpack___init__
  mk_Unpack : Mk K a.C_Unpack a.f_Unpack___init__
  g_Unpack : mg "Unpack" = some (.ref a.C_Unpack)
  b_Unpack___init__ : Binds K a.fd_Unpack___init__ ["self", "data"] []
  F_Unpack_byte : Fun K "byte" "Unpack.byte" s_Unpack_byte a.f_Unpack_byte a.fd_Unpack_byte
  me_Unpack_byte : Meth K a.C_Unpack "byte" a.f_Unpack_byte
  b_Unpack_byte : Binds K a.fd_Unpack_byte ["self", "least", "most"] []
  F_Unpack_number : Fun K "number" "Unpack.number" s_Unpack_number a.f_Unpack_number a.fd_Unpack_number
  me_Unpack_number : Meth K a.C_Unpack "number" a.f_Unpack_number
  b_Unpack_number : Binds K a.fd_Unpack_number ["self", "most"] []
  F_Unpack_end : Fun K "end" "Unpack.end" s_Unpack_end a.f_Unpack_end a.fd_Unpack_end
  me_Unpack_end : Meth K a.C_Unpack "end" a.f_Unpack_end
  b_Unpack_end : Binds K a.fd_Unpack_end ["self"] []
  F_read_inputs_bytes : Fun K "read_inputs_bytes" "read_inputs_bytes" s_read_inputs_bytes a.f_read_inputs_bytes a.fd_read_inputs_bytes
  g_read_inputs_bytes : mg "read_inputs_bytes" = some (.ref a.f_read_inputs_bytes)
  k_read_inputs_bytes : PySem.W.keepIn K (.ref a.f_read_inputs_bytes) = true
  b_read_inputs_bytes : Binds K a.fd_read_inputs_bytes ["data"] []
  F__law_pen : Fun K "_law_pen" "_law_pen" s__law_pen a.f__law_pen a.fd__law_pen
  g__law_pen : mg "_law_pen" = some (.ref a.f__law_pen)
  k__law_pen : PySem.W.keepIn K (.ref a.f__law_pen) = true
  b__law_pen : Binds K a.fd__law_pen ["script"] []
  F__law_draw : Fun K "_law_draw" "_law_draw" s__law_draw a.f__law_draw a.fd__law_draw
  g__law_draw : mg "_law_draw" = some (.ref a.f__law_draw)
  k__law_draw : PySem.W.keepIn K (.ref a.f__law_draw) = true
  b__law_draw : Binds K a.fd__law_draw ["pen", "many"] []
  F__law_pick : Fun K "_law_pick" "_law_pick" s__law_pick a.f__law_pick a.fd__law_pick
  g__law_pick : mg "_law_pick" = some (.ref a.f__law_pick)
  k__law_pick : PySem.W.keepIn K (.ref a.f__law_pick) = true
  b__law_pick : Binds K a.fd__law_pick ["pen", "some"] []
  F__law_caught : Fun K "_law_caught" "_law_caught" s__law_caught a.f__law_caught a.fd__law_caught
  g__law_caught : mg "_law_caught" = some (.ref a.f__law_caught)
  k__law_caught : PySem.W.keepIn K (.ref a.f__law_caught) = true
  b__law_caught : Binds K a.fd__law_caught ["ask"] []
  F__law_sevens : Fun K "_law_sevens" "_law_sevens" s__law_sevens a.f__law_sevens a.fd__law_sevens
  g__law_sevens : mg "_law_sevens" = some (.ref a.f__law_sevens)
  k__law_sevens : PySem.W.keepIn K (.ref a.f__law_sevens) = true
  b__law_sevens : Binds K a.fd__law_sevens ["number"] []
  F__law_check : Fun K "_law_check" "_law_check" s__law_check a.f__law_check a.fd__law_check
  g__law_check : mg "_law_check" = some (.ref a.f__law_check)
  k__law_check : PySem.W.keepIn K (.ref a.f__law_check) = true
  b__law_check : Binds K a.fd__law_check ["row"] []
  F__law_byte : Fun K "_law_byte" "_law_byte" s__law_byte a.f__law_byte a.fd__law_byte
  g__law_byte : mg "_law_byte" = some (.ref a.f__law_byte)
  k__law_byte : PySem.W.keepIn K (.ref a.f__law_byte) = true
  b__law_byte : Binds K a.fd__law_byte ["told", "least", "most"] []
  F__law_read_sevens : Fun K "_law_read_sevens" "_law_read_sevens" s__law_read_sevens a.f__law_read_sevens a.fd__law_read_sevens
  g__law_read_sevens : mg "_law_read_sevens" = some (.ref a.f__law_read_sevens)
  k__law_read_sevens : PySem.W.keepIn K (.ref a.f__law_read_sevens) = true
  b__law_read_sevens : Binds K a.fd__law_read_sevens ["told", "most"] []
  F__law_read_end : Fun K "_law_read_end" "_law_read_end" s__law_read_end a.f__law_read_end a.fd__law_read_end
  g__law_read_end : mg "_law_read_end" = some (.ref a.f__law_read_end)
  k__law_read_end : PySem.W.keepIn K (.ref a.f__law_read_end) = true
  b__law_read_end : Binds K a.fd__law_read_end ["told"] []
  F__law_bent_row : Fun K "_law_bent_row" "_law_bent_row" s__law_bent_row a.f__law_bent_row a.fd__law_bent_row
  g__law_bent_row : mg "_law_bent_row" = some (.ref a.f__law_bent_row)
  k__law_bent_row : PySem.W.keepIn K (.ref a.f__law_bent_row) = true
  b__law_bent_row : Binds K a.fd__law_bent_row ["pen", "row"] []
  F__law_inputs_row : Fun K "_law_inputs_row" "_law_inputs_row" s__law_inputs_row a.f__law_inputs_row a.fd__law_inputs_row
  g__law_inputs_row : mg "_law_inputs_row" = some (.ref a.f__law_inputs_row)
  k__law_inputs_row : PySem.W.keepIn K (.ref a.f__law_inputs_row) = true
  b__law_inputs_row : Binds K a.fd__law_inputs_row ["inputs"] []
  F__law_inputs_bad : Fun K "_law_inputs_bad" "_law_inputs_bad" s__law_inputs_bad a.f__law_inputs_bad a.fd__law_inputs_bad
  g__law_inputs_bad : mg "_law_inputs_bad" = some (.ref a.f__law_inputs_bad)
  k__law_inputs_bad : PySem.W.keepIn K (.ref a.f__law_inputs_bad) = true
  b__law_inputs_bad : Binds K a.fd__law_inputs_bad ["row"] []
  F_law : Fun K "law" "law" s_law a.f_law a.fd_law
  g_law : mg "law" = some (.ref a.f_law)
  k_law : PySem.W.keepIn K (.ref a.f_law) = true
  b_law : Binds K a.fd_law ["script"] []

end K87

set_option Elab.async false
set_option linter.all false
set_option maxRecDepth 100000
set_option maxHeartbeats 4000000
namespace K87
open PySem PySem.Spec PyProof.Rows L2
theorem nm_part : PySem.AlE.NameOk "part" := by constructor <;> intros <;> rfl
theorem nm_at : PySem.AlE.NameOk "at" := by constructor <;> intros <;> rfl
/-! ### data that are asked -/
/-- no object -/
def scV : V → Bool
  | .non => true | .bl _ => true | .int _ => true | .str _ => true | _ => false
inductive AD where
  | sc (v : V) | lst (xs : List V) | tup (xs : List V) | dct
inductive DAt (H : Hp) : V → AD → Prop where
  | sc {v : V} (h : scV v = true) : DAt H v (.sc v)
  | lst {a : Addr} {xs : List V} (h : H a = some (.lst xs)) (hx : ∀ x ∈ xs, scV x = true) : DAt H (.ref a) (.lst xs)
  | tup {a : Addr} {xs : List V} (h : H a = some (.tup xs)) (hx : ∀ x ∈ xs, scV x = true) : DAt H (.ref a) (.tup xs)
  | dct {a : Addr} (h : H a = some (.dK [])) : DAt H (.ref a) .dct
theorem DAt.ex {H H' : Hp} {v : V} {d : AD} (h : DAt H v d) (e : Ex H H') : DAt H' v d := by
  cases h with
  | sc h => exact .sc h
  | lst h hx => exact .lst (e _ _ h) hx
  | tup h hx => exact .tup (e _ _ h) hx
  | dct h => exact .dct (e _ _ h)
def tyS : AD → String
  | .sc .non => "NoneType" | .sc (.bl _) => "bool" | .sc (.int _) => "int" | .sc (.str _) => "str" | .sc _ => "NoneType" | .lst _ => "list" | .tup _ => "tuple" | .dct => "dict"
theorem DAt.ty {K : PySem.W.Frag} {H : Hp} {v : V} {d : AD} (h : DAt H v d) : TyX K H v (.type (tyS d)) := by
  cases h with
  | @sc v h =>
    cases v with
    | non => exact .base .non
    | bl _ => exact .base (.bl _)
    | int _ => exact .base (.int _)
    | str _ => exact .base (.str _)
    | _ => cases (show false = true from h)
  | lst h hx => exact .base (.lst h)
  | tup h hx => exact .base (.tup h)
  | dct h => exact .base (.dK h)
def tyL : List String := ["NoneType", "bool", "int", "str", "list", "tuple", "dict"]
def tyB (a b : String) : Bool := a == b || (a == "bool" && b == "int")
theorem ty_mem : ∀ d : AD, tyS d ∈ tyL := by
  intro d
  cases d with
  | sc v => cases v <;> simp [tyS, tyL]
  | _ => simp [tyS, tyL]
theorem kit_all : ∀ a ∈ tyL, ∀ b ∈ ["int", "bool", "list", "tuple"], kitB a b = some (tyB a b) := by decide +kernel
theorem kit_of' {K : PySem.W.Frag} (d : AD) (b : String) (hb : b ∈ ["int", "bool", "list", "tuple"]) : PySem.W.kitOne K (.type (tyS d)) (.type b) = some (tyB (tyS d) b) := kit_ty (kit_all _ (ty_mem d) b hb)
def isIntD : AD → Bool
  | .sc (.int _) => true | .sc (.bl _) => true | _ => false
def isBoolD : AD → Bool
  | .sc (.bl _) => true | _ => false
def isInt : AD → Bool
  | .sc (.int _) => true | _ => false
def isSeq : AD → Bool
  | .lst _ => true | .tup _ => true | _ => false
theorem kit_int {K : PySem.W.Frag} {H : Hp} {v : V} {d : AD} (h : DAt H v d) : PySem.W.kitOne K (.type (tyS d)) (.type "int") = some (isIntD d) := by
  rw [kit_of' d "int" (by decide)]
  congr 1
  cases d with
  | sc v => cases v <;> rfl
  | _ => rfl
theorem kit_bool {K : PySem.W.Frag} {H : Hp} {v : V} {d : AD} (h : DAt H v d) : PySem.W.kitOne K (.type (tyS d)) (.type "bool") = some (isBoolD d) := by
  rw [kit_of' d "bool" (by decide)]
  congr 1
  cases d with
  | sc v => cases v <;> rfl
  | _ => rfl
theorem kit_seq {K : PySem.W.Frag} {H : Hp} {v : V} {d : AD} (h : DAt H v d) : PySem.W.kitAny K (.type (tyS d)) [.type "list", .type "tuple"] = some (isSeq d) := by
  refine kitAny_cons (kit_of' d "list" (by decide)) (fun e1 => kitAny_cons (kit_of' d "tuple" (by decide)) (fun e2 => ?_) (fun e2 => ?_)) (fun e1 => ?_)
  · rw [kitAny_nil]
    congr 1
    cases d with
    | sc v => rfl
    | lst _ => cases e1
    | tup _ => cases e2
    | dct => rfl
  · cases d with
    | sc v => cases v <;> cases e2
    | lst _ => rfl
    | tup _ => rfl
    | dct => cases e2
  · cases d with
    | sc v => cases v <;> cases e1
    | lst _ => rfl
    | tup _ => rfl
    | dct => cases e1
def within (d : AD) (lo hi : Int) : Bool := match d with
  | .sc (.int i) => decide (lo ≤ i) && decide (i ≤ hi)
  | _ => false
def itemsD : AD → List V
  | .lst xs => xs | .tup xs => xs | _ => []
def areBits (d : AD) : Bool := isSeq d && (itemsD d).all fun v => within (.sc v) 0 1
/-! ### promises -/
def sp_is_integer : Sp := fun vs H Q _ => ∃ v d, vs = [v] ∧ DAt H v d ∧ Q (.bl (isInt d)) H
def sp_is_within : Sp := fun vs H Q _ => ∃ v d lo hi, vs = [v, .int lo, .int hi] ∧ DAt H v d ∧ Q (.bl (within d lo hi)) H
def sp_is_listed : Sp := fun vs H Q _ => ∃ v d, vs = [v] ∧ DAt H v d ∧ ∀ H', Ex H H' → Q (.bl (isSeq d)) H'
def sp_are_bits : Sp := fun vs H Q _ => ∃ v d, vs = [v] ∧ DAt H v d ∧ (itemsD d).length < 100000 ∧ ∀ H', Ex H H' → Q (.bl (areBits d)) H'
section
variable {P : Program} {w : World} {K : PySem.W.Frag} {mg : Str → Option Value} {base : Heap} {a : Ad}
theorem ok_is_integer (A : All P w K mg base a) : FnOk P w K mg base (L2.CX P w) 1 a.f_is_integer a.fd_is_integer ["value"] sp_is_integer := by
  have T := A.T
  refine A.F_is_integer.okX sc_is_integer (fun vs H Q E h => by obtain ⟨v, d, rfl, _⟩ := h; rfl) (fun cdv AA outer s H vs Q E hr h => ?_)
  refine ⟨_, (pss_one (ps_ret (pe_and (pe_callB call_isi (by rfl) T.m_isinstance (by decide +kernel) (pa_cons (pv 0) (pa_cons (pe_bty (n := "int") (by rfl) T.m_int (by decide +kernel)) pa_nil))) (pe_one (pe_not (pe_callB call_isi (by rfl) T.m_isinstance (by decide +kernel) (pa_cons (pv 0) (pa_cons (pe_bty (n := "bool") (by rfl) T.m_bool (by decide +kernel)) pa_nil)))))))), ?_⟩
  obtain ⟨v, d, rfl, hd, q⟩ := h
  refine ⟨_, rfl, _, .ty "int", _, _, isIntD d, rfl, .ty _, hd.ty, kit_int hd, _, rfl, ?_⟩
  refine ite2 (fun c => ?_) (fun c => ?_)
  · refine ⟨_, rfl, _, .ty "bool", _, _, isBoolD d, rfl, .ty _, hd.ty, kit_bool hd, _, rfl, ?_⟩
    have e : (!isBoolD d) = isInt d := by
      cases d with
      | sc v => cases v <;> first | rfl | exact (nomatch (show false = true from c))
      | _ => exact (nomatch (show false = true from c))
    show Q (.bl (!isBoolD d)) H
    rw [e]
    exact q
  · have e : isInt d = false := by
      cases d with
      | sc v => cases v <;> first | rfl | exact absurd rfl c
      | _ => rfl
    rw [e] at q
    exact q
theorem ok_is_within (A : All P w K mg base a) : FnOk P w K mg base (L2.CX P w) 2 a.f_is_within a.fd_is_within ["value", "least", "most"] sp_is_within := by
  have T := A.T
  refine A.F_is_within.okX sc_is_within (fun vs H Q E h => by obtain ⟨v, d, lo, hi, rfl, _⟩ := h; rfl) (fun cdv AA outer s H vs Q E hr h => ?_)
  refine ⟨_, (pss_one (ps_ret (pe_and (pe_call (ok_is_integer A) (hr.mono (by decide)) (by rfl) A.g_is_integer A.k_is_integer A.b_is_integer .nil (passes_own rfl rfl rfl rfl) (pa_cons (pv 0) pa_nil)) (pe_one (pe_chain op_le op_le (pv 1) (pv 0) (pv 2)))))), ?_⟩
  obtain ⟨v, d, lo, hi, rfl, hd, q⟩ := h
  refine ⟨_, rfl, v, d, rfl, hd, _, rfl, ?_⟩
  refine ite2 (fun c => ?_) (fun c => ?_)
  · cases hd with
    | @sc v h =>
      cases v <;> first | exact (nomatch (show false = true from c)) | skip
      rename_i i
      refine ⟨_, rfl, _, rfl, _, _, rfl, rfl, _, rfl, ?_⟩
      refine ite2 (fun c1 => ?_) (fun c1 => ?_)
      · refine ⟨_, rfl, _, _, rfl, rfl, ?_⟩
        have e : within (.sc (.int i)) lo hi = decide (i ≤ hi) := by simp [within, of_decide_eq_true c1]
        rw [e] at q
        exact q
      · have e : within (.sc (.int i)) lo hi = false := by simp [within]; intro z; exact absurd (decide_eq_true z) c1
        rw [e] at q
        exact q
    | _ => exact (nomatch (show false = true from c))
  · have e : within d lo hi = false := by
      cases d with
      | sc v => cases v <;> first | rfl | exact absurd rfl c
      | _ => rfl
    rw [e] at q
    exact q
theorem ok_is_listed (A : All P w K mg base a) : FnOk P w K mg base (L2.CX P w) 1 a.f_is_listed a.fd_is_listed ["value"] sp_is_listed := by
  have T := A.T
  refine A.F_is_listed.okX sc_is_listed (fun vs H Q E h => by obtain ⟨v, d, rfl, _⟩ := h; rfl) (fun cdv AA outer s H vs Q E hr h => ?_)
  refine ⟨_, (pss_one (ps_ret (pe_callB call_isiT (by rfl) T.m_isinstance (by decide +kernel) (pa_cons (pv 0) (pa_cons (pe_tup (pa_cons (pe_bty (n := "list") (by rfl) T.m_list (by decide +kernel)) (pa_cons (pe_bty (n := "tuple") (by rfl) T.m_tuple (by decide +kernel)) pa_nil))) pa_nil))))), ?_⟩
  obtain ⟨v, d, rfl, hd, q⟩ := h
  refine ⟨_, rfl, by show 2 ≤ sizeLine; decide, fun p hp => ⟨_, p, _, _, _, isSeq d, rfl, upd_same, .cons (.ty _) (.cons (.ty _) .nil), (hd.ex ((Ex.rf H).nw hp)).ty, kit_seq hd, q _ ((Ex.rf H).nw hp)⟩⟩
end
end K87

set_option Elab.async false
set_option linter.all false
set_option maxRecDepth 100000
set_option maxHeartbeats 4000000
namespace K87
open PySem PySem.Spec PyProof.Rows L2
/-! ### lists -/
theorem range_map_getD {α β : Type} (z : α) (f : α → β) : ∀ xs : List α, (List.range xs.length).map (fun i => f (xs.getD i z)) = xs.map f := by
  intro xs
  apply List.ext_getElem
  · simp
  · intro i h1 h2
    have h3 : i < xs.length := by simpa using h2
    simp [List.getD, h3]
theorem line_of {n : Nat} (h : n ≤ 100000) : n ≤ sizeLine := Nat.le_trans h (by decide)
theorem lt_line_of {n : Nat} (h : n < 100000) : n < sizeLine := Nat.lt_of_lt_of_le h (by decide)
def isRow (d : AD) : Bool := areBits d && decide ((itemsD d).length ≤ 5000)
/-- the ints ns, in a list or a tuple -/
def ISq (H : Hp) (p : Addr) (ns : List Int) : Prop := H p = some (.lst (ns.map V.int)) ∨ H p = some (.tup (ns.map V.int))
theorem ISq.ex {H H' : Hp} {p : Addr} {ns : List Int} (h : ISq H p ns) (e : Ex H H') : ISq H' p ns := h.elim (fun z => .inl (e _ _ z)) fun z => .inr (e _ _ z)
/-- an error of the class C with one field is wished, whatever was made besides -/
def Err1 (C : Addr) (f : Str) (v : V) (H : Hp) (E : XK) : Prop := ∀ H' dd, Ex H H' → H dd = none → H' dd = some (.xd [(f, v)]) → E (.ref C) (some dd) H'
def sp_is_input_row : Sp := fun vs H Q _ => ∃ v d, vs = [v] ∧ DAt H v d ∧ (itemsD d).length ≤ 50000 ∧ ∀ H', Ex H H' → Q (.bl (isRow d)) H'
def sp_need_inputs (a : Ad) : Sp := fun vs H Q E => ∃ v d, vs = [v] ∧ DAt H v d ∧ (itemsD d).length ≤ 50000 ∧ (isRow d = true → ∀ H', Ex H H' → Q .non H') ∧ (isRow d = false → Err1 a.C_BadValue "part" (.str "inputs") H E)
def sp_check_of : Sp := fun vs H Q _ => ∃ p ns, vs = [.ref p] ∧ ISq H p ns ∧ ns.length ≤ 50000 ∧ ∀ H', Ex H H' → Q (.int (check ns)) H'
def sp_number_row : Sp := fun vs H Q _ => ∃ n : Nat, vs = [.int (n : Int)] ∧ n < 1000000 ∧ ∀ H' l, Ex H H' → H l = none → H' l = some (.lst ((sevens n).map V.int)) → Q (.ref l) H'
def sp_inputs_bytes (a : Ad) : Sp := fun vs H Q E => ∃ v d, vs = [v] ∧ DAt H v d ∧ (itemsD d).length ≤ 50000 ∧
  (isRow d = true → ∀ bits, itemsD d = bits.map V.int → (∀ b ∈ bits, b = 0 ∨ b = 1) → bits.length ≤ 5000 → ∀ H' p, Ex H H' → H p = none → H' p = some (.tup ((encode bits).map V.int)) → Q (.ref p) H') ∧ (isRow d = false → Err1 a.C_BadValue "part" (.str "inputs") H E)
section
variable {P : Program} {w : World} {K : PySem.W.Frag} {mg : Str → Option Value} {base : Heap} {a : Ad}
theorem ok_are_bits (A : All P w K mg base a) : FnOk P w K mg base (L2.CX P w) 3 a.f_are_bits a.fd_are_bits ["value"] sp_are_bits := by
  have T := A.T
  refine A.F_are_bits.okX sc_are_bits (fun vs H Q E h => by obtain ⟨v, d, rfl, _⟩ := h; rfl) (fun cdv AA outer s H vs Q E hr h => ?_)
  refine ⟨_, (pss_one (ps_ret (pe_and (pe_call (ok_is_listed A) (hr.mono (by decide)) (by rfl) A.g_is_listed A.k_is_listed A.b_is_listed .nil (passes_own rfl rfl rfl rfl) (pa_cons (pv 0) pa_nil)) (pe_one (pe_callB (cr_all rfl) (by rfl) T.m_all (by decide +kernel) (pa_cons (pe_lc (own := [("one", 1)]) rfl sc_are_bits.nd (pi_seq (pv 0)) (blkOk_by (own := [("one", 1)]) (N := N_are_bits) (sc := defScope s_are_bits) (by decide +kernel)) (fun _ _ _ _ _ => (pg_name (i := 1) sc_are_bits.nd rfl (Or.inl rfl))) (fun _ _ _ _ _ => pts_nil) (fun _ _ _ _ _ => (pe_call (ok_is_within A) (hr.mono (by decide)) (by rfl) A.g_is_within A.k_is_within A.b_is_within .nil passL (pa_cons (pv 1) (pa_cons pe_int (pa_cons pe_int pa_nil)))))) pa_nil)))))), ?_⟩
  obtain ⟨v, d, rfl, hd, hl, q⟩ := h
  refine ⟨_, rfl, v, d, rfl, hd, fun H1 e1 => ⟨_, rfl, ?_⟩⟩
  have hd1 := hd.ex e1
  have key : ∀ xs : List V, itemsD d = xs → (∀ x ∈ xs, scV x = true) → isSeq d = true → ∀ (J : It) (Y : Nat → Hp → V → Hp → Prop) (G : Hp → Prop), Walk J xs.length G Y → (∀ H, Ex H1 H → G H) → (∀ i H x H', Y i H x H' → H' = H ∧ xs[i]? = some x) →
      ∀ D, H1 D = none → ∃ W : Nat → Nat → Hp → Prop, (∃ m, W 0 m (upd H1 D (.lst []))) ∧ ∀ i m H, W i m H → (J.stop i H ∧ (tNil (L2.start N_are_bits [v]) H fun ys H2 => rAll K (.ref D :: ys) H2 Q)) ∨ (J.go i H ∧ ∃ Nx : Hp → Prop, (∀ H', Nx H' → ∃ m', m' < m ∧ W (i + 1) m' H') ∧ ∀ x H', J.yld i H x H' → gName 1 x (wipe (L2.start N_are_bits [v]) [1]) H' fun σ2 H2 => wipe σ2 [1] = wipe (L2.start N_are_bits [v]) [1] ∧ tYes σ2 H2 fun b H3 =>
        if b = true then tCall sp_is_within [] E0 (tCons (tVar 1) (tCons (tC (.int 0)) (tCons (tC (.int 1)) tNil))) σ2 H3 fun y H4 => ∃ acc, H4 D = some (.lst acc) ∧ acc.length < sizeLine ∧ Nx (upd H4 D (.lst (acc ++ [y]))) else Nx H3) := by
    intro xs hxs hsc hseq J Y G w hG hY D hD
    have hn : xs.length < 100000 := by rw [hxs] at hl; exact hl
    refine lc_map (Q := fun v H => tNil (L2.start N_are_bits [v]) H fun ys H2 => rAll K (v :: ys) H2 Q) w (fun i => .bl (within (.sc (xs.getD i .non)) 0 1)) hD hn hG (fun i x H H' hi e y => ?_) fun H' e h' => ?_
    · obtain ⟨rfl, hx⟩ := hY i H x H' y
      have ex : xs.getD i .non = x := by simp [List.getD, hx]
      refine ⟨(wipe (L2.start N_are_bits [v]) [1]).set 1 (some x), Ex.rf _, fun R r => r, rfl, fun R r => ?_⟩
      refine ⟨x, rfl, x, .sc x, 0, 1, rfl, .sc (hsc x (List.mem_of_getElem? hx)), ?_⟩
      have z := r H' (Ex.rf _)
      rw [ex] at z
      exact z
    · have em : (List.range xs.length).map (fun i => V.bl (within (.sc (xs.getD i .non)) 0 1)) = (xs.map fun v => within (.sc v) 0 1).map V.bl := by
        rw [range_map_getD (z := V.non) (f := fun v => V.bl (within (.sc v) 0 1)), List.map_map]
        rfl
      rw [em] at h'
      refine ⟨D, xs.map fun v => within (.sc v) 0 1, rfl, .inl (.inl h'), ?_⟩
      have z := q H' (e1.tr e)
      have e3 : areBits d = ((xs.map fun v => within (.sc v) 0 1).all id) := by
        unfold areBits
        rw [hseq, hxs, List.all_map]
        rfl
      rw [e3] at z
      exact z
  refine ite2 (fun c => ?_) (fun c => ?_)
  · cases hd1 with
    | sc h => cases c
    | dct h => cases c
    | @lst p xs hp hx => exact .inl ⟨_, rfl, p, rfl, ⟨xs, .inl (.inl hp)⟩, key xs rfl hx c _ _ _ (walk_list (K := K) (a := p) (xs := xs)) (fun H e => .inl (.inl (e _ _ hp))) (fun i H x H' y => y)⟩
    | @tup p xs hp hx => exact .inr ⟨_, rfl, p, rfl, ⟨xs, .inl (.inl hp)⟩, key xs rfl hx c _ _ _ (walk_tup (K := K) (a := p) (xs := xs)) (fun H e => .inl (.inl (e _ _ hp))) (fun i H x H' y => y)⟩
  · have z := q H1 e1
    have e3 : areBits d = false := by
      unfold areBits
      rw [Bool.eq_false_iff.mpr c]
      rfl
    rw [e3] at z
    exact z

theorem ok_is_input_row (A : All P w K mg base a) : FnOk P w K mg base (L2.CX P w) 4 a.f_is_input_row a.fd_is_input_row ["value"] sp_is_input_row := by
  have T := A.T
  refine A.F_is_input_row.okX sc_is_input_row (fun vs H Q E h => by obtain ⟨v, d, rfl, _⟩ := h; rfl) (fun cdv AA outer s H vs Q E hr h => ?_)
  refine ⟨_, (pss_one (ps_ret (pe_and (pe_call (ok_are_bits A) (hr.mono (by decide)) (by rfl) A.g_are_bits A.k_are_bits A.b_are_bits .nil (passes_own rfl rfl rfl rfl) (pa_cons (pv 0) pa_nil)) (pe_one (pe_cmpR op_le (pe_callB call_len_seq (by rfl) T.m_len PySem.boot_len (pa_cons (pv 0) pa_nil)) (pe_globE rfl T.c_MOST_INPUTS) (nomark _)))))), ?_⟩
  obtain ⟨v, d, rfl, hd, hl, q⟩ := h
  refine ⟨_, rfl, v, d, rfl, hd, by omega, fun H1 e1 => ⟨_, rfl, ?_⟩⟩
  have hd1 := hd.ex e1
  have q1 := q H1 e1
  refine ite2 (fun c => ?_) (fun c => ?_)
  · have e : isRow d = decide (((itemsD d).length : Int) ≤ 5000) := by
      unfold isRow
      rw [c, Bool.true_and, decide_eq_decide]
      omega
    rw [e] at q1
    cases hd1 with
    | sc h => cases c
    | dct h => cases c
    | @lst p xs hp hx => exact ⟨_, rfl, p, xs, rfl, .inl (.inl (.inl hp)), _, _, rfl, rfl, q1⟩
    | @tup p xs hp hx => exact ⟨_, rfl, p, xs, rfl, .inr (.inl (.inl hp)), _, _, rfl, rfl, q1⟩
  · have e : isRow d = false := by
      unfold isRow
      rw [Bool.eq_false_iff.mpr c]
      rfl
    rw [e] at q1
    exact q1
theorem ok_need_inputs (A : All P w K mg base a) : FnOk P w K mg base (L2.CX P w) 5 a.f_need_inputs a.fd_need_inputs ["value"] (sp_need_inputs a) := by
  have T := A.T
  refine A.F_need_inputs.okX sc_need_inputs (fun vs H Q E h => by obtain ⟨v, d, rfl, _⟩ := h; rfl) (fun cdv AA outer s H vs Q E hr h => ?_)
  refine ⟨_, (pss_one (ps_if (pt_not (pt_val (pe_call (ok_is_input_row A) (hr.mono (by decide)) (by rfl) A.g_is_input_row A.k_is_input_row A.b_is_input_row .nil (passes_own rfl rfl rfl rfl) (pa_cons (pv 0) pa_nil)))) (pss_one (ps_raiseErr rfl T.e_BadValue nm_part hr (takes_of rfl rfl rfl rfl) (pa_cons pe_str pa_nil))) pss_nil)), ?_⟩
  obtain ⟨v, d, rfl, hd, hl, q, z⟩ := h
  refine ⟨_, rfl, v, d, rfl, hd, hl, fun H1 e1 => ⟨_, rfl, ?_⟩⟩
  refine ite2 (fun c => ?_) (fun c => ?_)
  · have c' : isRow d = false := by simpa using c
    exact ⟨_, rfl, fun dd hn => z c' _ dd (e1.nw hn) (e1.no hn) upd_same⟩
  · have c' : isRow d = true := by simpa using c
    exact q c' H1 e1
theorem ok_check_of (A : All P w K mg base a) : FnOk P w K mg base (L2.CX P w) 1 a.f_check_of a.fd_check_of ["row"] sp_check_of := by
  have T := A.T
  refine A.F_check_of.okX sc_check_of (fun vs H Q E h => by obtain ⟨p, ns, rfl, _⟩ := h; rfl) (fun cdv AA outer s H vs Q E hr h => ?_)
  refine ⟨_, (pss_one (ps_ret (pe_op op_mod (pe_callTy call_int1 (by rfl) T.m_int (by decide +kernel) (pa_cons (pe_callB (cr_sum rfl) (by rfl) T.m_sum (by decide +kernel) (pa_cons (pe_lc (own := [("at", 1), ("one", 2)]) rfl sc_check_of.nd (pi_enumA (by rfl) T.m_enumerate (pa_cons (pv 0) pa_nil)) (blkOk_by (own := [("at", 1), ("one", 2)]) (N := N_check_of) (sc := defScope s_check_of) (by decide +kernel)) (fun _ _ _ _ _ => (pg_tup2 (K := K) (i := 1) (j := 2) rfl rfl sc_check_of.nd rfl rfl (Or.inl rfl) (Or.inl rfl) (by first | exact Or.inl rfl | exact Or.inr rfl) (by first | exact Or.inl rfl | exact Or.inr rfl))) (fun _ _ _ _ _ => pts_nil) (fun _ _ _ _ _ => (pe_op op_mul (pe_op op_add (pv 1) pe_int) (pv 2)))) pa_nil)) pa_nil)) (pe_globE rfl T.c_BYTE)))), ?_⟩
  obtain ⟨p, ns, rfl, hd, hl, q⟩ := h
  have hn : (ns.map V.int).length < 100000 := by rw [List.length_map]; omega
  have hw : (List.range (ns.map V.int).length).map (fun i => V.int (wgt ns i)) = (wl ns).map V.int := by
    rw [List.length_map, wl, List.map_map]
    rfl
  have fin : ∀ D H', Ex H H' → H' D = some (.lst ((List.range (ns.map V.int).length).map fun i => V.int (wgt ns i))) → SqL K H' D ((wl ns).map V.int) := fun D H' e h' => .inl (.inl (by rw [← hw]; exact h'))
  refine ⟨_, rfl, p, ns.map V.int, rfl, ?_⟩
  have elt : ∀ (i : Nat) (x : V) (H1 H' : Hp), i < (ns.map V.int).length → YPair (fun i => some (.int (i : Nat))) (fun i => (ns.map V.int)[i]?) i H1 x H' →
      ∃ σ2, Ex H1 H' ∧ (∀ R : L2.St → Hp → Prop, R σ2 H' → gTup K 2 (gCons (gName 1) (gCons (gName 2) gNil)) x (wipe (L2.start N_check_of [V.ref p]) [1, 2]) H' R) ∧ wipe σ2 [1, 2] = wipe (L2.start N_check_of [V.ref p]) [1, 2] ∧
        ∀ R : V → Hp → Prop, (∀ H4, Ex H' H4 → R (.int (wgt ns i)) H4) → tOp (rI CMul fun i j => V.int (i * j)) (tOp (rI0 fun i j => V.int (i + j)) (tVar 1) (tC (V.int 1))) (tVar 2) σ2 H' R := by
    intro i x H1 H' hi y
    rw [List.length_map] at hi
    obtain ⟨u, v, e1, e2, e, hg⟩ := y_pair (K := K) (p := 1) (q := 2) y
    cases e1
    rw [List.getElem?_map] at e2
    obtain ⟨z, e3, rfl⟩ := Option.map_eq_some_iff.mp e2
    refine ⟨_, e, fun R r => hg _ R r, rfl, fun R r => ⟨_, rfl, _, _, rfl, rfl, _, rfl, _, _, rfl, rfl, ?_, ?_⟩⟩
    · exact .inl ⟨by show -(2 ^ 64) < (i : Int) + 1; omega, by show (i : Int) + 1 < 2 ^ 64; omega⟩
    · have z1 := r H' (Ex.rf _)
      have z2 : wgt ns i = ((i : Int) + 1) * z := by simp [wgt, List.getD, e3]
      rw [z2] at z1
      exact z1
  rcases hd with hd | hd
  · refine .inl ⟨.inl (.inl hd), fun D hD => lc_m (walk_enum (K := K) (a := p)) (fun i => .int (wgt ns i)) hD hn (fun H' e => .inl (.inl (e _ _ hd))) (fun i x H1 H' hi e y => elt i x H1 H' hi y) fun i H' st e h' => ⟨st, D, wl ns, rfl, fin D H' e h', .inl ⟨_, rfl, _, _, rfl, rfl, (show (0 : Int) < 256 by decide), q H' e⟩⟩⟩
  · refine .inr ⟨.inl (.inl hd), fun D hD => lc_m (walk_enumT (K := K) (a := p)) (fun i => .int (wgt ns i)) hD hn (fun H' e => .inl (.inl (e _ _ hd))) (fun i x H1 H' hi e y => elt i x H1 H' hi y) fun i H' st e h' => ⟨st, D, wl ns, rfl, fin D H' e h', .inl ⟨_, rfl, _, _, rfl, rfl, (show (0 : Int) < 256 by decide), q H' e⟩⟩⟩
theorem ok_number_row (A : All P w K mg base a) : FnOk P w K mg base (L2.CX P w) 1 a.f_number_row a.fd_number_row ["number"] sp_number_row := by
  have T := A.T
  refine A.F_number_row.okX sc_number_row (fun vs H Q E h => by obtain ⟨p, rfl, _⟩ := h; rfl) (fun cdv AA outer s H vs Q E hr h => ?_)
  refine ⟨_, (pss_cons (ps_par (i := 1) (j := 2) rfl sc_number_row.nd rfl rfl (by decide) rfl rfl (pa_cons (pe_lst pa_nil) (pa_cons (pv 0) pa_nil)) (by rfl))
      (pss_cons (ps_while (passes_of rfl) (pt_cmpR op_ge (pv 2) (pe_globE rfl T.c_HALF) (nomark _)) (pss_cons (ps_expr (pe_bm PySem.F.plainAttrs_list PySem.F.slot_list_append PySem.F.type_list_append mt_append (pv 1) (pa_cons (pe_op op_add (pe_op op_mod (pe_callTy call_int1 (by rfl) T.m_int (by decide +kernel) (pa_cons (pv 2) pa_nil)) (pe_globE rfl T.c_HALF)) (pe_globE rfl T.c_HALF)) pa_nil)))
      (pss_one (ps_set (i := 2) sc_number_row.nd rfl (Or.inl rfl) (pe_op op_fdiv (pv 2) (pe_globE rfl T.c_HALF))))))
      (pss_one (ps_ret (pe_lst (StX.pa_star (pv 1) (pa_cons (pv 2) pa_nil))))))), ?_⟩
  obtain ⟨n, rfl, hn, q⟩ := h
  refine ⟨Nat.zero_le _, fun l hl => ⟨_, rfl, _, _, rfl, ?_⟩⟩
  refine ⟨fun m σ H1 => ∃ (acc : List Int) (k : Nat), σ = [some (.int n), some (.ref l), some (.int (k : Int))] ∧ m = k ∧ acc ++ sevens k = sevens n ∧ Ex H H1 ∧ H1 l = some (.lst (acc.map V.int)) ∧ acc.length + k ≤ n, ⟨n, [], n, rfl, rfl, rfl, (Ex.rf H).nw hl, upd_same, by simp⟩, fun m σ H1 hW => ?_⟩
  obtain ⟨acc, k, rfl, rfl, h1, h2, h3, h4⟩ := hW
  refine ⟨_, rfl, _, _, rfl, rfl, _, rfl, ite2 (fun c => ?_) (fun c => ?_)⟩
  · have hk : 128 ≤ m := by have := of_decide_eq_true c; omega
    have hs : sevens m = ((m % 128 + 128 : Nat) : Int) :: sevens (m / 128) := by rw [sevens, if_neg (by omega)]
    refine ⟨fun σ' H' => σ' = [some (.int n), some (.ref l), some (.int ((m / 128 : Nat) : Int))] ∧ Ex H H' ∧ H' l = some (.lst ((acc ++ [((m % 128 + 128 : Nat) : Int)]).map V.int)), fun σ' H' hN => ?_, ?_⟩
    · obtain ⟨rfl, e1, e2⟩ := hN
      refine ⟨m / 128, by omega, _, _, rfl, rfl, ?_, e1, e2, ?_⟩
      · rw [List.append_assoc, List.singleton_append, ← hs]
        exact h1
      · rw [List.length_append, List.length_singleton]
        omega
    · refine ⟨.ref l, rfl, .inl ⟨rfl, _, .inl (.inl h3)⟩, _, rfl, .inl ⟨_, rfl, _, _, rfl, rfl, (show (0 : Int) < 128 by decide), _, _, rfl, rfl, l, _, _, rfl, rfl, h3, ?_, ?_⟩⟩
      · rw [List.length_map]
        exact Nat.lt_of_lt_of_le (by omega : acc.length < 1000000) (by decide)
      · refine ⟨_, rfl, _, _, rfl, rfl, (show CDiv m 128 from ⟨by decide, by decide⟩), rfl, fun b o hb => ?_, ?_⟩
        · rw [upd_ne (ne_of_none hb hl)]
          exact h2 b o hb
        · rw [upd_same, List.map_append]
          rfl
  · have hk : m < 128 := by
      have := Int.not_le.mp fun z => c (decide_eq_true z)
      omega
    have hs : sevens m = [(m : Int)] := by rw [sevens, if_pos hk]
    rw [hs] at h1
    refine ⟨.ref l, rfl, l, acc.map V.int, rfl, .inr (.inl (.inl h3)), _, rfl, ?_, fun d hd => q _ d (h2.nw hd) (h2.no hd) ?_⟩
    · rw [List.length_append, List.length_map]
      exact Nat.le_trans (by show acc.length + 1 ≤ 1000001; omega) (by decide : 1000001 ≤ sizeLine)
    · rw [upd_same, ← h1, List.map_append]
      rfl
end
end K87

set_option Elab.async false
set_option linter.all false
set_option maxRecDepth 100000
set_option maxHeartbeats 4000000
namespace K87
open PySem PySem.Spec PyProof.Rows L2
theorem within_bit {v : V} (h : within (.sc v) 0 1 = true) : ∃ b : Int, v = .int b ∧ (b = 0 ∨ b = 1) := by
  cases v <;> simp [within] at h
  rename_i i
  exact ⟨i, rfl, by omega⟩
theorem bits_list : ∀ xs : List V, (xs.all fun v => within (.sc v) 0 1) = true → ∃ bits : List Int, xs = bits.map V.int ∧ ∀ b ∈ bits, b = 0 ∨ b = 1
  | [], _ => ⟨[], rfl, fun _ h => nomatch h⟩
  | x :: xs, h => by
    rw [List.all_cons, Bool.and_eq_true] at h
    obtain ⟨b, rfl, hb⟩ := within_bit h.1
    obtain ⟨bs, e, hbs⟩ := bits_list xs h.2
    refine ⟨b :: bs, by rw [e]; rfl, fun c hc => ?_⟩
    rcases List.mem_cons.mp hc with rfl | z
    · exact hb
    · exact hbs c z
theorem row_bits {d : AD} (h : isRow d = true) : isSeq d = true ∧ ∃ bits : List Int, itemsD d = bits.map V.int ∧ (∀ b ∈ bits, b = 0 ∨ b = 1) ∧ bits.length ≤ 5000 := by
  unfold isRow areBits at h
  rw [Bool.and_eq_true, Bool.and_eq_true, decide_eq_true_eq] at h
  obtain ⟨bits, e, hb⟩ := bits_list _ h.1.2
  refine ⟨h.1.1, bits, e, hb, ?_⟩
  have := h.2
  rw [e, List.length_map] at this
  exact this
theorem DAt.seqv {H : Hp} {v : V} {d : AD} (h : DAt H v d) (hs : isSeq d = true) : ∃ p, v = .ref p ∧ SeqV H p (itemsD d) := by
  cases h with
  | sc _ => cases hs
  | dct _ => cases hs
  | lst h _ => exact ⟨_, rfl, .inl h⟩
  | tup h _ => exact ⟨_, rfl, .inr h⟩
theorem sevens_len (n : Nat) : (sevens n).length ≤ n + 1 := by
  induction n using Nat.strongRecOn with
  | _ n ih =>
    rw [sevens]
    split
    · simp
    · rw [List.length_cons]
      have := ih (n / 128) (by omega)
      omega
def unitsV : List V := [.int 1, .int 2, .int 4, .int 8, .int 16, .int 32, .int 64, .int 128]
theorem units_get {i : Nat} {y : V} (h : unitsV[i]? = some y) : y = .int (units.getD i 0) ∧ 0 < units.getD i 0 ∧ units.getD i 0 ≤ 128 := by
  have hi : i < 8 := by
    have := (List.getElem?_eq_some_iff.mp h).1
    exact this
  have : ∀ i : Fin 8, unitsV[i.val]? = some (.int (units.getD i 0)) ∧ 0 < units.getD i 0 ∧ units.getD i 0 ≤ 128 := by
    intro i
    refine ⟨?_, ?_⟩
    · revert i
      intro i
      match i with
      | 0 => rfl | 1 => rfl | 2 => rfl | 3 => rfl | 4 => rfl | 5 => rfl | 6 => rfl | 7 => rfl
    · revert i
      decide
  have z := this ⟨i, hi⟩
  rw [z.1] at h
  cases h
  exact ⟨rfl, z.2⟩
section
variable {P : Program} {w : World} {K : PySem.W.Frag} {mg : Str → Option Value} {base : Heap} {a : Ad}
theorem ok_inputs_bytes (A : All P w K mg base a) : FnOk P w K mg base (L2.CX P w) 6 a.f_inputs_bytes a.fd_inputs_bytes ["inputs"] (sp_inputs_bytes a) := by
  have T := A.T
  refine A.F_inputs_bytes.okX sc_inputs_bytes (fun vs H Q E h => by obtain ⟨v, d, rfl, _⟩ := h; rfl) (fun cdv AA outer s H vs Q E hr h => ?_)
  refine ⟨_, (pss_cons (ps_expr (pe_call (ok_need_inputs A) (hr.mono (by decide)) (by rfl) A.g_need_inputs A.k_need_inputs A.b_need_inputs .nil (passes_own rfl rfl rfl rfl) (pa_cons (pv 0) pa_nil)))
      (pss_cons (ps_set (i := 1) sc_inputs_bytes.nd rfl (Or.inl rfl) (pe_lst (pa_cons (pe_globE rfl T.c_INPUTS) (StX.pa_star (pe_call (ok_number_row A) (hr.mono (by decide)) (by rfl) A.g_number_row A.k_number_row A.b_number_row .nil (passes_own rfl rfl rfl rfl) (pa_cons (pe_callB call_len_seq (by rfl) T.m_len PySem.boot_len (pa_cons (pv 0) pa_nil)) pa_nil)) pa_nil))))
      (pss_cons (ps_for (passes_of rfl) rfl (pi_range3 (by rfl) T.m_range (pa_cons pe_int (pa_cons (pe_callB call_len_seq (by rfl) T.m_len PySem.boot_len (pa_cons (pv 0) pa_nil)) (pa_cons pe_int pa_nil)))) (pg_name (i := 2) sc_inputs_bytes.nd rfl (Or.inl rfl)) (pss_one (ps_expr (pe_bm PySem.F.plainAttrs_list PySem.F.slot_list_append PySem.F.type_list_append mt_append (pv 1) (pa_cons (pe_callB (cr_sum rfl) (by rfl) T.m_sum (by decide +kernel) (pa_cons (pe_lc (own := [("bit", 3), ("unit", 4)]) rfl sc_inputs_bytes.nd (pi_zipLT (by rfl) T.m_zip (pa_cons (pe_slice sl_seq (pv 0) (po_some (pv 2)) (po_some (pe_op op_add (pv 2) pe_int))) (pa_cons (pe_globE rfl T.c_UNITS) pa_nil))) (blkOk_by (own := [("bit", 3), ("unit", 4)]) (N := N_inputs_bytes) (sc := defScope s_inputs_bytes) (by decide +kernel)) (fun _ _ _ _ _ => (pg_tup2 (K := K) (i := 3) (j := 4) rfl rfl sc_inputs_bytes.nd rfl rfl (Or.inl rfl) (Or.inl rfl) (by first | exact Or.inl rfl | exact Or.inr rfl) (by first | exact Or.inl rfl | exact Or.inr rfl))) (fun _ _ _ _ _ => pts_nil) (fun _ _ _ _ _ => (pe_op op_mul (pv 3) (pv 4)))) pa_nil)) pa_nil)))))
      (pss_one (ps_ret (pe_tup (StX.pa_star (pv 1) (pa_cons (pe_call (ok_check_of A) (hr.mono (by decide)) (by rfl) A.g_check_of A.k_check_of A.b_check_of .nil (passes_own rfl rfl rfl rfl) (pa_cons (pv 1) pa_nil)) pa_nil)))))))), ?_⟩
  obtain ⟨v, d, rfl, hd, hl, q, z⟩ := h
  refine ⟨_, rfl, v, d, rfl, hd, hl, fun hrow H1 e1 => ?_, z⟩
  obtain ⟨hsq, bits, hb, h01, hlen⟩ := row_bits hrow
  obtain ⟨p, rfl, hp⟩ := (hd.ex e1).seqv hsq
  rw [hb] at hp
  have hlV : (bits.map V.int).length = bits.length := List.length_map ..
  have hpS : ∀ H2, Ex H1 H2 → SqL K H2 p (bits.map V.int) ∨ SqT K H2 p (bits.map V.int) := fun H2 e => (hp.ex e).elim (fun h => .inl (.inl (.inl h))) fun h => .inr (.inl (.inl h))
  refine ⟨.ref p, rfl, p, bits.map V.int, rfl, hpS H1 (Ex.rf _), bits.length, by rw [hlV]; rfl, by omega, fun H2 l e2 nl hl2 => ?_⟩
  have hsz : (sevens bits.length).length ≤ 5001 := Nat.le_trans (sevens_len _) (by omega)
  refine ⟨l, _, rfl, .inr (.inl (.inl hl2)), ?_, fun r nr => ?_⟩
  · rw [List.length_cons, List.length_append, List.length_map]
    exact Nat.le_trans (by show (sevens bits.length).length + 0 + 1 ≤ 5002; omega) (by decide : 5002 ≤ sizeLine)
  have hp2 : SeqV (upd H2 r (.lst (V.int 73 :: (List.map V.int (sevens bits.length) ++ [])))) p (bits.map V.int) := (hp.ex e2).ex ((Ex.rf _).nw nr)
  refine ⟨.ref p, rfl, p, bits.map V.int, rfl, hpS _ (e2.nw nr), 0, (bits.length : Int), 8, (bits.length + 8 - 1) / 8, by rw [hlV], RgC.up0 (c := 8) (by decide) (by decide) (by omega), ?_⟩
  have er : Ex H (upd H2 r (.lst (V.int 73 :: (List.map V.int (sevens bits.length) ++ [])))) := (e1.tr e2).nw nr
  have hnr : H r = none := (e1.tr e2).no nr
  refine for_it walk_rangeC (fun i σ H' => ∃ y2 y3 y4 : Option V, σ = [some (.ref p), some (.ref r), y2, y3, y4] ∧ Ex H H' ∧ SeqV H' p (bits.map V.int) ∧ H' r = some (.lst ((73 :: sevens bits.length ++ (List.range i).map fun k => chunkByte (chunk bits k)).map V.int))) ⟨_, _, _, rfl, er, hp2, ?_⟩ (fun _ _ _ _ _ => trivial) (fun i x σ H3 H' hi hP y => ?_) fun σ H3 hP => ?_
  · rw [upd_same, List.append_nil, List.range_zero, List.map_nil, List.append_nil]
    rfl
  · obtain ⟨y2, y3, y4, rfl, eH, hpH, hrH⟩ := hP
    obtain ⟨rfl, rfl⟩ := y
    have ec : cutV (bits.map V.int) (some (0 + (i : Int) * 8)) (some (0 + (i : Int) * 8 + 8)) = (chunk bits i).map V.int := by
      have e1 : (0 + (i : Int) * 8) = ((8 * i : Nat) : Int) := by omega
      have e2 : ((8 * i : Nat) : Int) + 8 = ((8 * i + 8 : Nat) : Int) := by omega
      rw [e1, e2, cut_nat, show 8 * i + 8 - 8 * i = 8 by omega, chunk, List.map_take, List.map_drop]
    have hchl : (chunk bits i).length ≤ 8 := by
      rw [chunk, List.length_take]
      omega
    have hchb : ∀ (k : Nat) (x : Int), (chunk bits i)[k]? = some x → x = 0 ∨ x = 1 := fun k x hx => h01 x (List.mem_of_mem_drop (List.mem_of_mem_take (List.mem_of_getElem? hx)))
    have done : ∀ H4 D, Ex H' H4 → H4 D = some (.lst ((List.range (min (chunk bits i).length 8)).map fun k => V.int ((chunk bits i).getD k 0 * units.getD k 0))) →
        rSum K [.ref D] H4 fun x H5 => rAppend (.ref r) [x] H5 fun _ H6 => ∃ z2 z3 z4 : Option V, ([some (.ref p), some (.ref r), some (.int (0 + (i : Int) * 8)), y3, y4] : L2.St) = [some (.ref p), some (.ref r), z2, z3, z4] ∧ Ex H H6 ∧ SeqV H6 p (bits.map V.int) ∧
          H6 r = some (.lst ((73 :: sevens bits.length ++ (List.range (i + 1)).map fun k => chunkByte (chunk bits k)).map V.int)) := by
      intro H4 D e4 hD
      have hrn : H' r = some (.lst ((73 :: sevens bits.length ++ (List.range i).map fun k => chunkByte (chunk bits k)).map V.int)) := hrH
      refine ⟨D, (List.range (min (chunk bits i).length 8)).map fun k => (chunk bits i).getD k 0 * units.getD k 0, rfl, .inl (.inl (by rw [List.map_map]; exact hD)), r, _, _, rfl, rfl, e4 _ _ hrn, ?_, _, _, _, rfl, fun b o hb => ?_, ?_, ?_⟩
      · rw [List.length_map, List.length_append, List.length_map, List.length_range, List.length_cons]
        exact Nat.lt_of_lt_of_le (by omega : _ < 100000) (by decide)
      · rw [upd_ne (ne_of_none hb hnr)]
        exact e4 _ _ (eH _ _ hb)
      · have hpr : p ≠ r := fun z => by
          rw [z] at hpH
          rcases hpH with z1 | z1
          · exact absurd (hp.ex e2) (by rw [z]; intro z2; rcases z2 with z2 | z2 <;> (rw [nr] at z2; cases z2))
          · exact absurd (hp.ex e2) (by rw [z]; intro z2; rcases z2 with z2 | z2 <;> (rw [nr] at z2; cases z2))
        have z := hpH.ex e4
        unfold SeqV at z ⊢
        rw [upd_ne hpr]
        exact z
      · rw [upd_same, List.range_succ, List.map_append (f := fun k => chunkByte (chunk bits k)), ← List.append_assoc, List.map_append (l₁ := _ ++ _)]
        rfl
    refine ⟨.ref r, rfl, .inl ⟨rfl, _, .inl (.inl hrH)⟩, .ref p, rfl, _, rfl, _, rfl, _, rfl, _, _, rfl, rfl, _, rfl, slice_seq hpH (fun H4 c e4 hc => ?_)⟩
    have hc' : SeqV H4 c ((chunk bits i).map V.int) := by
      rw [← ec]
      exact hc
    have hn : min ((chunk bits i).map V.int).length unitsV.length = min (chunk bits i).length 8 := by rw [List.length_map]; rfl
    refine ⟨c, a.U_UNITS, (chunk bits i).map V.int, unitsV, rfl, ?_⟩
    have elt : ∀ (k : Nat) (x : V) (H1 H' : Hp), YPair (fun k => ((chunk bits i).map V.int)[k]?) (fun k => unitsV[k]?) k H1 x H' →
        ∃ σ2, Ex H1 H' ∧ (∀ R : L2.St → Hp → Prop, R σ2 H' → gTup K 2 (gCons (gName 3) (gCons (gName 4) gNil)) x (wipe [some (.ref p), some (.ref r), some (.int (0 + (i : Int) * 8)), y3, y4] [3, 4]) H' R) ∧ wipe σ2 [3, 4] = wipe [some (.ref p), some (.ref r), some (.int (0 + (i : Int) * 8)), y3, y4] [3, 4] ∧
          ∀ R : V → Hp → Prop, (∀ H4, Ex H' H4 → R (.int ((chunk bits i).getD k 0 * units.getD k 0)) H4) → tOp (rI CMul fun i j => V.int (i * j)) (tVar 3) (tVar 4) σ2 H' R := by
      intro k x H1 H' y
      obtain ⟨u, v, e1, e2, e, hg⟩ := y_pair (K := K) (p := 3) (q := 4) y
      rw [List.getElem?_map] at e1
      obtain ⟨z, e3, rfl⟩ := Option.map_eq_some_iff.mp e1
      obtain ⟨rfl, hu1, hu2⟩ := units_get e2
      refine ⟨_, e, fun R r => hg _ R r, rfl, fun R r => ⟨_, rfl, _, rfl, _, _, rfl, rfl, ?_, ?_⟩⟩
      · exact .inr ⟨by omega, by omega⟩
      · have z1 := r H' (Ex.rf _)
        have z2 : (chunk bits i).getD k 0 = z := by simp [List.getD, e3]
        rw [z2] at z1
        exact z1
    rcases hc' with hc' | hc'
    · exact .inl ⟨.inl (.inl hc'), T.q_UNITS _, fun D hD => lc_m (walk_zipLT (K := K) (a := c) (b := a.U_UNITS) (xs := (chunk bits i).map V.int) (ys := unitsV) hn.symm) (fun k => .int ((chunk bits i).getD k 0 * units.getD k 0)) hD (by omega) (fun H' e => ⟨.inl (.inl (e _ _ hc')), T.q_UNITS _⟩) (fun k x H1 H' hi e y => elt k x H1 H' y) fun k H' st e h' => ⟨st, done H' D (e4.tr e) h'⟩⟩
    · exact .inr ⟨.inl (.inl hc'), T.q_UNITS _, fun D hD => lc_m (walk_zipTT (K := K) (a := c) (b := a.U_UNITS) (xs := (chunk bits i).map V.int) (ys := unitsV) hn.symm) (fun k => .int ((chunk bits i).getD k 0 * units.getD k 0)) hD (by omega) (fun H' e => ⟨.inl (.inl (e _ _ hc')), T.q_UNITS _⟩) (fun k x H1 H' hi e y => elt k x H1 H' y) fun k H' st e h' => ⟨st, done H' D (e4.tr e) h'⟩⟩
  · obtain ⟨y2, y3, y4, rfl, eH, hpH, hrH⟩ := hP
    have hrw : (73 :: sevens bits.length ++ (List.range ((bits.length + 8 - 1) / 8)).map fun k => chunkByte (chunk bits k)) = inputsRow bits := rfl
    rw [hrw] at hrH
    have hil : (inputsRow bits).length ≤ 6000 := by
      unfold inputsRow
      rw [List.length_append, List.length_map, List.length_range, List.length_cons]
      omega
    refine ⟨.ref r, rfl, r, (inputsRow bits).map V.int, rfl, .inr (.inl (.inl hrH)), .ref r, rfl, r, inputsRow bits, rfl, .inl hrH, by omega, fun H4 e4 => ⟨?_, fun t nt => ?_⟩⟩
    · rw [List.length_append, List.length_map]
      exact Nat.le_trans (by show (inputsRow bits).length + 1 ≤ 6001; omega) (by decide : 6001 ≤ sizeLine)
    · refine q hrow bits hb h01 hlen _ t ((eH.tr e4).nw nt) ((eH.tr e4).no nt) ?_
      rw [upd_same, encode, List.map_append]
      rfl
end
end K87

set_option Elab.async false
set_option linter.all false
set_option maxRecDepth 100000
set_option maxHeartbeats 4000000
namespace K87
open PySem PySem.Spec PyProof.Rows L2
/-! ### Unpack -/
def uf (t : Addr) (p : Nat) : List (Str × V) := [("data", .ref t), ("at", .int (p : Int))]
/-- all but x stands as it was -/
def ExB (x : Addr) (H H' : Hp) : Prop := ∀ b o, b ≠ x → H b = some o → H' b = some o
theorem ExB.tr {x : Addr} {H H1 H2 : Hp} (a : ExB x H H1) (b : ExB x H1 H2) : ExB x H H2 := fun c o n h => b c o n (a c o n h)
theorem ExB.of {x : Addr} {H H' : Hp} (h : Ex H H') : ExB x H H' := fun b o _ q => h b o q
theorem ExB.put {x : Addr} {H : Hp} {o : HO} : ExB x H (upd H x o) := fun b u n h => by
  rw [upd_ne n]
  exact h
theorem ExB.ex {x : Addr} {H0 H H' : Hp} (e : Ex H0 H) (h : ExB x H H') (hn : H0 x = none) : Ex H0 H' := fun b o q => h b o (ne_of_none q hn) (e b o q)
theorem ExB.nw {x : Addr} {H H' : Hp} {p : Addr} {o : HO} (e : ExB x H H') (h : H' p = none) : ExB x H (upd H' p o) := fun b u n hb => by
  rw [upd_ne (ne_of_none (e b u n hb) h)]
  exact e b u n hb
structure UpAt (C : Addr) (H : Hp) (x dx t : Addr) (ns : List Int) (p : Nat) : Prop where
  ob : H x = some (.ins C dx (uf t p))
  tp : H t = some (.tup (ns.map V.int))
  le : p ≤ ns.length
  ln : ns.length ≤ 50000
theorem UpAt.ne {C : Addr} {H : Hp} {x dx t : Addr} {ns : List Int} {p : Nat} (h : UpAt C H x dx t ns p) : t ≠ x := fun e => by
  have z := h.tp
  rw [e, h.ob] at z
  cases z
theorem UpAt.ex {C : Addr} {H H' : Hp} {x dx t : Addr} {ns : List Int} {p : Nat} (h : UpAt C H x dx t ns p) (e : Ex H H') : UpAt C H' x dx t ns p := ⟨e _ _ h.ob, e _ _ h.tp, h.le, h.ln⟩
def ErrB (a : Ad) (x : Addr) (e : Nat) (H : Hp) (E : XK) : Prop := ∀ H' dd, ExB x H H' → H dd = none → H' dd = some (.xd [("at", .int (e : Int))]) → E (.ref a.C_BadBytes) (some dd) H'
theorem ErrB.ex {a : Ad} {x : Addr} {e : Nat} {H H1 : Hp} {E : XK} (h : ErrB a x e H E) (b : ExB x H H1) (hx : ∀ o, H x = some o → ∃ o', H1 x = some o') : ErrB a x e H1 E := fun H' dd e1 hn hd => h H' dd (b.tr e1) (by
  cases q : H dd with
  | none => rfl
  | some o =>
    by_cases z : dd = x
    · rw [z] at q hn
      obtain ⟨o', r⟩ := hx o q
      rw [r] at hn
      cases hn
    · rw [b dd o z q] at hn
      cases hn) hd
def isBytes (d : AD) : Bool := isSeq d && (itemsD d).all fun v => within (.sc v) 0 255
def sp_Unpack___init__ (a : Ad) : Sp := fun vs H Q E => ∃ x v d dx, vs = [.ref x, v] ∧ H x = some (.ins a.C_Unpack dx []) ∧ DAt H v d ∧ (itemsD d).length ≤ 50000 ∧
  (isBytes d = true → ∀ ns : List Int, itemsD d = ns.map V.int → (∀ n ∈ ns, 0 ≤ n ∧ n ≤ 255) → ∀ H' t, ExB x H H' → UpAt a.C_Unpack H' x dx t ns 0 → Q .non H') ∧ (isBytes d = false → Err1 a.C_BadValue "part" (.str "data") H E)
def sp_Unpack_byte (a : Ad) : Sp := fun vs H Q E => ∃ x dx t ns p lo hi, vs = [.ref x, .int lo, .int hi] ∧ UpAt a.C_Unpack H x dx t ns p ∧
  (∀ b p', rbyte ns p lo hi = .ok (b, p') → ∀ H', ExB x H H' → UpAt a.C_Unpack H' x dx t ns p' → Q (.int b) H') ∧ (∀ e, rbyte ns p lo hi = .error e → ErrB a x e H E)
def sp_Unpack_number (a : Ad) : Sp := fun vs H Q E => ∃ x dx t ns p most, vs = [.ref x, .int most] ∧ UpAt a.C_Unpack H x dx t ns p ∧ 0 ≤ most ∧ most ≤ 1000000 ∧
  (∀ b p', rnum ns most (ns.length + 1) p 0 1 = .ok (b, p') → ∀ H', ExB x H H' → UpAt a.C_Unpack H' x dx t ns p' → Q (.int b) H') ∧ (∀ e, rnum ns most (ns.length + 1) p 0 1 = .error e → ErrB a x e H E)
def sp_Unpack_end (a : Ad) : Sp := fun vs H Q E => ∃ x dx t ns p, vs = [.ref x] ∧ UpAt a.C_Unpack H x dx t ns p ∧
  (rend ns p = .ok () → ∀ H', ExB x H H' → Q .non H') ∧ (∀ e, rend ns p = .error e → ErrB a x e H E)
theorem within_byte {v : V} (h : within (.sc v) 0 255 = true) : ∃ b : Int, v = .int b ∧ 0 ≤ b ∧ b ≤ 255 := by
  cases v <;> simp [within] at h
  rename_i i
  exact ⟨i, rfl, by omega⟩
theorem bytes_list : ∀ xs : List V, (xs.all fun v => within (.sc v) 0 255) = true → ∃ ns : List Int, xs = ns.map V.int ∧ ∀ b ∈ ns, 0 ≤ b ∧ b ≤ 255
  | [], _ => ⟨[], rfl, fun _ h => nomatch h⟩
  | x :: xs, h => by
    rw [List.all_cons, Bool.and_eq_true] at h
    obtain ⟨b, rfl, hb⟩ := within_byte h.1
    obtain ⟨bs, e, hbs⟩ := bytes_list xs h.2
    refine ⟨b :: bs, by rw [e]; rfl, fun c hc => ?_⟩
    rcases List.mem_cons.mp hc with rfl | z
    · exact hb
    · exact hbs c z
section
variable {P : Program} {w : World} {K : PySem.W.Frag} {mg : Str → Option Value} {base : Heap} {a : Ad}
theorem ok_Unpack___init__ (A : All P w K mg base a) : FnOk P w K mg base (L2.CX P w) 4 a.f_Unpack___init__ a.fd_Unpack___init__ ["self", "data"] (sp_Unpack___init__ a) := by
  have T := A.T
  refine A.F_Unpack___init__.okX sc_Unpack___init__ (fun vs H Q E h => by obtain ⟨x, v, d, dx, rfl, _⟩ := h; rfl) (fun cdv AA outer s H vs Q E hr h => ?_)
  refine ⟨_, (pss_cons (ps_if (PW.pt (pw_or (pt_not (pt_val (pe_call (ok_is_listed A) (hr.mono (by decide)) (by rfl) A.g_is_listed A.k_is_listed A.b_is_listed .nil (passes_own rfl rfl rfl rfl) (pa_cons (pv 1) pa_nil)))) (pw_or1 (pt_not (pt_val (pe_callB (cr_all rfl) (by rfl) T.m_all (by decide +kernel) (pa_cons (pe_lc (own := [("one", 2)]) rfl sc_Unpack___init__.nd (pi_seq (pv 1)) (blkOk_by (own := [("one", 2)]) (N := N_Unpack___init__) (sc := defScope s_Unpack___init__) (by decide +kernel)) (fun _ _ _ _ _ => (pg_name (i := 2) sc_Unpack___init__.nd rfl (Or.inl rfl))) (fun _ _ _ _ _ => pts_nil) (fun _ _ _ _ _ => (pe_call (ok_is_within A) (hr.mono (by decide)) (by rfl) A.g_is_within A.k_is_within A.b_is_within .nil passL (pa_cons (pv 2) (pa_cons pe_int (pa_cons (pe_op op_sub (pe_globE rfl T.c_BYTE) pe_int) pa_nil)))))) pa_nil))))))) (pss_one (ps_raiseErr rfl T.e_BadValue nm_part hr (takes_of rfl rfl rfl rfl) (pa_cons pe_str pa_nil))) pss_nil)
      (pss_cons (ps_fld (pv 0) (pe_callTy call_tuple_of (by rfl) T.m_tuple (by decide +kernel) (pa_cons (pv 1) pa_nil)) rfl)
      (pss_one (ps_fld (pv 0) pe_int rfl)))), ?_⟩
  obtain ⟨x, v, d, dx, rfl, hx, hd, hl, q, z⟩ := h
  refine ⟨_, rfl, v, d, rfl, hd, fun H1 e1 => ⟨_, rfl, ?_⟩⟩
  refine ite2 (fun c => ?_) (fun c => ?_)
  · have c' : isSeq d = false := by simpa using c
    exact ite2 (fun _ => ⟨_, rfl, fun dd hn => z (by unfold isBytes; rw [c']; rfl) _ dd (e1.nw hn) (e1.no hn) upd_same⟩) fun k => absurd rfl k
  · have c' : isSeq d = true := by simpa using c
    obtain ⟨p, rfl, hp⟩ := (hd.ex e1).seqv c'
    have hsc : ∀ y ∈ itemsD d, scV y = true := by
      cases hd with
      | sc _ => cases c'
      | dct _ => cases c'
      | lst _ h => exact h
      | tup _ h => exact h
    have hn : (itemsD d).length < 100000 := by omega
    have elt : ∀ (i : Nat) (y : V) (H2 H' : Hp), H' = H2 ∧ (itemsD d)[i]? = some y →
        ∃ σ2, Ex H2 H' ∧ (∀ R : L2.St → Hp → Prop, R σ2 H' → gName 2 y (wipe (L2.start N_Unpack___init__ [V.ref x, .ref p]) [2]) H' R) ∧ wipe σ2 [2] = wipe (L2.start N_Unpack___init__ [V.ref x, .ref p]) [2] ∧
          ∀ R : V → Hp → Prop, (∀ H4, Ex H' H4 → R (.bl (within (.sc ((itemsD d).getD i .non)) 0 255)) H4) → tCall sp_is_within [] E0 (tCons (tVar 2) (tCons (tC (.int 0)) (tCons (tOp (rI0 fun i j => V.int (i - j)) (tC (.int 256)) (tC (.int 1))) tNil))) σ2 H' R := by
      rintro i y H2 H' ⟨h, hy⟩
      subst h
      refine ⟨_, Ex.rf _, fun R r => r, rfl, fun R r => ⟨y, rfl, _, _, rfl, rfl, y, .sc y, 0, 255, rfl, .sc (hsc y (List.mem_of_getElem? hy)), ?_⟩⟩
      have z1 := r H' (Ex.rf _)
      have z2 : (itemsD d).getD i .non = y := by simp [List.getD, hy]
      rw [z2] at z1
      exact z1
    refine it_seq (K := K) rfl hp fun J G hG wk D hD => lc_m wk (fun i => .bl (within (.sc ((itemsD d).getD i .non)) 0 255)) hD hn hG (fun i y H2 H' hi e h => elt i y H2 H' h) fun i H2 st e h' => ⟨st, D, (itemsD d).map fun v => within (.sc v) 0 255, rfl, .inl (.inl ?_), _, rfl, ite2 (fun c => ⟨_, rfl, fun dd hn => ?_⟩) fun c => ?_⟩
    · rw [h', range_map_getD (z := V.non) (f := fun v => V.bl (within (.sc v) 0 255)), List.map_map]
      rfl
    · refine z ?_ _ dd ((e1.tr e).nw hn) ((e1.tr e).no hn) upd_same
      rw [List.all_map] at c
      unfold isBytes
      rw [c', Bool.true_and]
      simpa using c
    · rw [List.all_map] at c
      have hb : isBytes d = true := by
        unfold isBytes
        rw [c', Bool.true_and]
        simpa using c
      obtain ⟨ns, en, hns⟩ := bytes_list (itemsD d) (by unfold isBytes at hb; rw [c', Bool.true_and] at hb; exact hb)
      have e2 : Ex H H2 := e1.tr e
      have hp2 := hp.ex e
      rw [en] at hp2
      have hl2 : ns.length ≤ 50000 := by
        rw [en, List.length_map] at hl
        exact hl
      have fin : ∀ H3 l, Ex H H3 → H3 l = some (.tup (ns.map V.int)) → Q .non (upd (upd H3 x (.ins a.C_Unpack dx (putF "data" (.ref l) []))) x (.ins a.C_Unpack dx (putF "at" (.int 0) (putF "data" (.ref l) [])))) := fun H3 l e3 h3 => by
        have nl : l ≠ x := fun k => by
          rw [k, e3 _ _ hx] at h3
          cases h3
        refine q hb ns en hns _ l ((ExB.of e3).tr (ExB.put.tr ExB.put)) ⟨upd_same, ?_, Nat.zero_le _, hl2⟩
        rw [upd_ne nl, upd_ne nl]
        exact h3
      rcases hp2 with hp2 | hp2
      · exact ⟨.ref p, rfl, p, ns.map V.int, rfl, .inl ⟨.inl (.inl hp2), fun l nl => ⟨_, rfl, x, a.C_Unpack, dx, [], rfl, (e2.nw nl) _ _ hx, T.cl_Unpack, T.na_Unpack_data, (by decide), _, rfl, x, a.C_Unpack, dx, _, rfl, upd_same, T.cl_Unpack, T.na_Unpack_at, (by show 1 < 1000; decide), fin _ l (e2.nw nl) upd_same⟩⟩⟩
      · exact ⟨.ref p, rfl, p, ns.map V.int, rfl, .inr ⟨.inl (.inl hp2), _, rfl, x, a.C_Unpack, dx, [], rfl, e2 _ _ hx, T.cl_Unpack, T.na_Unpack_data, (by decide), _, rfl, x, a.C_Unpack, dx, _, rfl, upd_same, T.cl_Unpack, T.na_Unpack_at, (by show 1 < 1000; decide), fin _ p e2 hp2⟩⟩
theorem ok_Unpack_byte (A : All P w K mg base a) : FnOk P w K mg base (L2.CX P w) 1 a.f_Unpack_byte a.fd_Unpack_byte ["self", "least", "most"] (sp_Unpack_byte a) := by
  have T := A.T
  refine A.F_Unpack_byte.okX sc_Unpack_byte (fun vs H Q E h => by obtain ⟨x, dx, t, ns, p, lo, hi, rfl, _⟩ := h; rfl) (fun cdv AA outer s H vs Q E hr h => ?_)
  refine ⟨_, (pss_cons (ps_if (PW.pt (pw_or (pt_cmpR op_eq (pe_fld (pv 0) rfl) (pe_callB call_len_seq (by rfl) T.m_len PySem.boot_len (pa_cons (pe_fld (pv 0) rfl) pa_nil)) (nomark _)) (pw_or1 (pt_not (pt_chain op_le op_le (pv 1) (pe_ix ix_tup (pe_fld (pv 0) rfl) (pe_fld (pv 0) rfl) (fun _ _ => rfl)) (pv 2)))))) (pss_one (ps_raiseErr rfl T.e_BadBytes nm_at hr (takes_of rfl rfl rfl rfl) (pa_cons (pe_fld (pv 0) rfl) pa_nil))) pss_nil)
      (pss_cons (ps_fld (pv 0) (pe_op op_add (pe_fld (pv 0) rfl) pe_int) rfl)
      (pss_one (ps_ret (pe_ix ix_tup (pe_fld (pv 0) rfl) (pe_op op_sub (pe_fld (pv 0) rfl) pe_int) (fun _ _ => rfl)))))), ?_⟩
  obtain ⟨x, dx, t, ns, p, lo, hi, rfl, U, q, z⟩ := h
  refine ⟨_, rfl, x, a.C_Unpack, dx, _, _, rfl, U.ob, T.cl_Unpack, T.na_Unpack_at, rfl, _, rfl, x, a.C_Unpack, dx, _, _, rfl, U.ob, T.cl_Unpack, T.na_Unpack_data, rfl, t, _, rfl, .inr (.inl (.inl U.tp)), rfl, _, rfl, ?_⟩
  have rz : ∀ e, rbyte ns p lo hi = .error e → ∀ dd, H dd = none → E (.ref a.C_BadBytes) (some dd) (upd H dd (.xd [("at", .int (e : Int))])) := fun e he dd hn => z e he _ dd ((ExB.of (Ex.rf H)).nw hn) hn upd_same
  have hle := U.le
  refine ite2 (fun c => ?_) (fun c => ?_)
  · have hp : p = ns.length := by
      rw [dec_int, List.length_map] at c
      have := eq_of_beq c
      omega
    have he : rbyte ns p lo hi = .error p := by
      unfold rbyte
      rw [List.getElem?_eq_none (by omega)]
    exact ite2 (fun _ => ⟨_, rfl, x, a.C_Unpack, dx, _, _, rfl, U.ob, T.cl_Unpack, T.na_Unpack_at, rfl, _, rfl, fun dd hn => rz p he dd hn⟩) fun k => absurd rfl k
  · have hp : p < ns.length := by
      rw [dec_int, List.length_map] at c
      have : ¬ p = ns.length := fun z => c (by rw [z]; exact beq_self_eq_true _)
      omega
    have hg : ns[p]? = some ns[p] := List.getElem?_eq_getElem hp
    have hx : atI (ns.map V.int) (p : Int) = some (.int ns[p]) := atI_nat (by rw [List.getElem?_map, hg]; rfl)
    have rs : ∀ (e : rbyte ns p lo hi = .error p), tRaiseErr a.C_BadBytes "at" (fun cls d x H => E cls d H) (tCons (tFld K (tVar 0) "at") tNil) { nx := fun _ _ => False, rt := Q } (L2.start N_Unpack_byte [V.ref x, V.int lo, V.int hi]) H := fun e => ⟨_, rfl, x, a.C_Unpack, dx, _, _, rfl, U.ob, T.cl_Unpack, T.na_Unpack_at, rfl, _, rfl, fun dd hn => rz p e dd hn⟩
    refine ⟨_, rfl, _, rfl, x, a.C_Unpack, dx, _, _, rfl, U.ob, T.cl_Unpack, T.na_Unpack_data, rfl, _, rfl, x, a.C_Unpack, dx, _, _, rfl, U.ob, T.cl_Unpack, T.na_Unpack_at, rfl, t, _, _, _, rfl, rfl, .inl (.inl U.tp), hx, _, _, rfl, rfl, _, rfl, ite2 (fun c1 => ?_) (fun c1 => ?_)⟩
    · have c1' : lo ≤ ns[p] := of_decide_eq_true c1
      refine ⟨_, rfl, _, _, rfl, rfl, _, rfl, ite2 (fun c2 => ?_) (fun c2 => ?_)⟩
      · have c2' : ¬ ns[p] ≤ hi := by simpa using c2
        exact rs (by unfold rbyte; rw [hg]; exact if_neg fun k => c2' k.2)
      · have c2' : ns[p] ≤ hi := by simpa using c2
        have ok : rbyte ns p lo hi = .ok (ns[p], p + 1) := by unfold rbyte; rw [hg]; exact if_pos ⟨c1', c2'⟩
        refine ⟨_, rfl, x, a.C_Unpack, dx, _, _, rfl, U.ob, T.cl_Unpack, T.na_Unpack_at, rfl, _, _, rfl, rfl, _, rfl, x, a.C_Unpack, dx, _, rfl, U.ob, T.cl_Unpack, T.na_Unpack_at, (by show 2 < 1000; decide), ?_⟩
        have eu : putF "at" (.int ((p : Int) + 1)) (uf t p) = uf t (p + 1) := rfl
        have U2 : UpAt a.C_Unpack (upd H x (.ins a.C_Unpack dx (putF "at" (.int ((p : Int) + 1)) (uf t p)))) x dx t ns (p + 1) := ⟨by rw [upd_same, eu], by rw [upd_ne U.ne]; exact U.tp, hp, U.ln⟩
        refine ⟨_, rfl, x, a.C_Unpack, dx, _, _, rfl, upd_same, T.cl_Unpack, T.na_Unpack_data, rfl, _, rfl, x, a.C_Unpack, dx, _, _, rfl, upd_same, T.cl_Unpack, T.na_Unpack_at, rfl, _, _, rfl, rfl, t, _, _, _, rfl, rfl, .inl (.inl U2.tp), ?_, q _ _ ok _ ExB.put U2⟩
        rw [show ((p : Int) + 1 - 1) = (p : Int) by omega]
        exact hx
    · have c1' : ¬ lo ≤ ns[p] := fun k => c1 (decide_eq_true k)
      exact ⟨_, rfl, ite2 (fun _ => rs (by unfold rbyte; rw [hg]; exact if_neg fun k => c1' k.1)) fun k => absurd rfl k⟩
end
end K87

set_option Elab.async false
set_option linter.all false
set_option maxRecDepth 100000
set_option maxHeartbeats 4000000
namespace K87
open PySem PySem.Spec PyProof.Rows L2
section
variable {P : Program} {w : World} {K : PySem.W.Frag} {mg : Str → Option Value} {base : Heap} {a : Ad}
def WNum (C : Addr) (H : Hp) (x dx t : Addr) (ns : List Int) (most : Int) (R : Except Nat (Int × Nat)) (m : Nat) (σ : L2.St) (H1 : Hp) : Prop :=
  ∃ (fuel p1 : Nat) (found unit byte : Int) (y5 : Option V), σ = [some (.ref x), some (.int most), some (.int found), some (.int unit), some (.int byte), y5] ∧ ExB x H H1 ∧ UpAt C H1 x dx t ns p1 ∧ 0 ≤ found ∧ found ≤ most ∧ 1 ≤ unit ∧
    ((128 ≤ byte ∧ m = fuel + 1 ∧ ns.length < fuel + p1 ∧ unit ≤ 1000000 ∧ R = rnum ns most fuel p1 found unit) ∨ (byte < 128 ∧ m = 0 ∧ R = .ok (found, p1)))
theorem rnum_err {ns : List Int} {most found unit : Int} {f p e : Nat} {L M : Int} (hL : (if unit > 1 then (1 : Int) else 0) = L) (hM : min 255 ((most - found) / unit) = M) (h : rbyte ns p L M = .error e) : rnum ns most (f + 1) p found unit = .error e := by
  rw [rnum, hL, hM, h]
theorem rnum_go {ns : List Int} {most found unit b : Int} {f p p' : Nat} {L M : Int} (hL : (if unit > 1 then (1 : Int) else 0) = L) (hM : min 255 ((most - found) / unit) = M) (h : rbyte ns p L M = .ok (b, p')) : rnum ns most (f + 1) p found unit = if 128 ≤ b then rnum ns most f p' (found + b % 128 * unit) (unit * 128) else .ok (found + b % 128 * unit, p') := by
  rw [rnum, hL, hM, h]
theorem rbyte_ok {ns : List Int} {p p' : Nat} {lo hi b : Int} (h : rbyte ns p lo hi = .ok (b, p')) : ns[p]? = some b ∧ lo ≤ b ∧ b ≤ hi ∧ p' = p + 1 := by
  unfold rbyte at h
  split at h
  · cases h
  · next y hy =>
    split at h
    · next hc =>
      cases h
      exact ⟨hy, hc.1, hc.2, rfl⟩
    · cases h
theorem min_if (i j : Int) : (if j < i then j else i) = min i j := by
  rw [Int.min_def]
  split <;> split <;> omega
theorem step_bound {most found unit b : Int} (h0 : 0 ≤ found) (h1 : found ≤ most) (hu : 1 ≤ unit) (hb0 : 0 ≤ b) (hb : b ≤ min 255 ((most - found) / unit)) : 0 ≤ found + b % 128 * unit ∧ found + b % 128 * unit ≤ most ∧ (128 ≤ b → unit * 128 ≤ most) := by
  have h2 : b ≤ (most - found) / unit := Int.le_trans hb (Int.min_le_right ..)
  have h3 : b * unit ≤ most - found := (Int.le_ediv_iff_mul_le (by omega)).mp h2
  have h4 : b % 128 * unit ≤ b * unit := Int.mul_le_mul_of_nonneg_right (by omega) (by omega)
  have h5 : 0 ≤ b % 128 * unit := Int.mul_nonneg (by omega) (by omega)
  refine ⟨by omega, by omega, fun h6 => ?_⟩
  have h7 : 128 * unit ≤ b * unit := Int.mul_le_mul_of_nonneg_right h6 (by omega)
  omega
theorem ok_Unpack_number (A : All P w K mg base a) : FnOk P w K mg base (L2.CX P w) 2 a.f_Unpack_number a.fd_Unpack_number ["self", "most"] (sp_Unpack_number a) := by
  have T := A.T
  refine A.F_Unpack_number.okX sc_Unpack_number (fun vs H Q E h => by obtain ⟨x, dx, t, ns, p, most, rfl, _⟩ := h; rfl) (fun cdv AA outer s H vs Q E hr h => ?_)
  refine ⟨_, (pss_cons (ps_par3 (i := 2) (j := 3) (l := 4) rfl sc_Unpack_number.nd rfl rfl rfl (by decide) (by decide) (by decide) rfl rfl rfl (pa_cons pe_int (pa_cons pe_int (pa_cons (pe_globE rfl T.c_HALF) pa_nil))) (by rfl))
      (pss_cons (ps_while (passes_of rfl) (pt_cmpR op_ge (pv 4) (pe_globE rfl T.c_HALF) (nomark _)) (pss_cons (ps_set (i := 5) sc_Unpack_number.nd rfl (Or.inl rfl) (pe_ifExp (pt_cmpR op_gt (pv 3) pe_int (nomark _)) pe_int pe_int))
      (pss_cons (ps_set (i := 4) sc_Unpack_number.nd rfl (Or.inl rfl) (pe_meth (pv 0) T.cl_Unpack A.me_Unpack_byte (ok_Unpack_byte A) (hr.mono (by decide)) A.b_Unpack_byte .nil (passes_own rfl rfl rfl rfl) (pa_cons (pv 5) (pa_cons (pe_callB (call_min2 rfl) (by rfl) T.m_min (by decide +kernel) (pa_cons (pe_op op_sub (pe_globE rfl T.c_BYTE) pe_int) (pa_cons (pe_op op_fdivW (pe_op op_sub (pv 1) (pv 2)) (pv 3)) pa_nil))) pa_nil))))
      (pss_cons (ps_set (i := 2) sc_Unpack_number.nd rfl (Or.inl rfl) (pe_op op_add (pv 2) (pe_op op_mul (pe_op op_mod (pe_callTy call_int1 (by rfl) T.m_int (by decide +kernel) (pa_cons (pv 4) pa_nil)) (pe_globE rfl T.c_HALF)) (pv 3))))
      (pss_one (ps_set (i := 3) sc_Unpack_number.nd rfl (Or.inl rfl) (pe_op op_mul (pv 3) (pe_globE rfl T.c_HALF))))))))
      (pss_one (ps_ret (pv 2))))), ?_⟩
  obtain ⟨x, dx, t, ns, p, most, rfl, U, hm0, hm1, q, z⟩ := h
  refine ⟨_, _, _, rfl, ?_⟩
  refine ⟨WNum a.C_Unpack H x dx t ns most (rnum ns most (ns.length + 1) p 0 1), ⟨_, ns.length + 1, p, 0, 1, 128, none, rfl, ExB.of (Ex.rf H), U, by omega, hm0, by omega, .inl ⟨by omega, rfl, by omega, by omega, rfl⟩⟩, fun m σ H1 hW => ?_⟩
  obtain ⟨fuel, p1, found, unit, byte, y5, rfl, eB, U1, hf0, hf1, hu1, hW⟩ := hW
  refine ⟨_, rfl, _, _, rfl, rfl, _, rfl, ite2 (fun c => ?_) (fun c => ?_)⟩
  · have hb : (128 : Int) ≤ byte := of_decide_eq_true c
    rcases hW with ⟨_, rfl, hlt, hu2, hR⟩ | ⟨hlt, _⟩
    · obtain ⟨f, rfl⟩ : ∃ f, fuel = f + 1 := ⟨fuel - 1, by have := U1.le; omega⟩
      have hM : min 255 ((most - found) / unit) = if (most - found) / unit < 256 - 1 then (most - found) / unit else 256 - 1 := by
        rw [min_if]
        rfl
      have hd : CDivW (most - found) unit := wide_div (b := 20) (by omega) (by omega) (by omega) (by omega)
      have hx1 : ∀ o, H x = some o → ∃ o', H1 x = some o' := fun o _ => ⟨_, U1.ob⟩
      have fin : ∀ (L b : Int) (p' : Nat) (H3 : Hp), 0 ≤ L → (if unit > 1 then (1 : Int) else 0) = L → rbyte ns p1 L (if (most - found) / unit < 256 - 1 then (most - found) / unit else 256 - 1) = .ok (b, p') → ExB x H1 H3 → UpAt a.C_Unpack H3 x dx t ns p' →
          (CMul (b % 128) unit ∧ CMul unit 128) ∧ ∃ m', m' < f + 1 + 1 ∧ WNum a.C_Unpack H x dx t ns most (rnum ns most (ns.length + 1) p 0 1) m' [some (.ref x), some (.int most), some (.int (found + b % 128 * unit)), some (.int (unit * 128)), some (.int b), some (.int L)] H3 := by
        intro L b p' H3 hL0 hL hr3 e3 U3
        rw [← hM] at hr3
        have hg := rnum_go (f := f) hL rfl hr3
        obtain ⟨_, hb1, hb2, hp'⟩ := rbyte_ok hr3
        obtain ⟨s1, s2, s3⟩ := step_bound hf0 hf1 hu1 (by omega) hb2
        refine ⟨⟨.inl ⟨by omega, by omega⟩, .inr ⟨by omega, by omega⟩⟩, ?_⟩
        by_cases h128 : 128 ≤ b
        · refine ⟨f + 1, by omega, f, p', _, _, b, _, rfl, eB.tr e3, U3, s1, s2, by omega, .inl ⟨h128, rfl, by omega, ?_, ?_⟩⟩
          · have := s3 h128
            omega
          · rw [hR, hg, if_pos h128]
        · exact ⟨0, by omega, 0, p', _, _, b, _, rfl, eB.tr e3, U3, s1, s2, by omega, .inr ⟨by omega, rfl, by rw [hR, hg, if_neg h128]⟩⟩
      refine ⟨fun σ' H' => ∃ m', m' < f + 1 + 1 ∧ WNum a.C_Unpack H x dx t ns most (rnum ns most (ns.length + 1) p 0 1) m' σ' H', fun _ _ h => h, ?_⟩
      refine ⟨_, rfl, _, _, rfl, rfl, _, rfl, ite2 (fun c2 => ?_) (fun c2 => ?_)⟩
      · have hL : (if unit > 1 then (1 : Int) else 0) = 1 := if_pos (of_decide_eq_true c2)
        refine ⟨_, rfl, x, dx, _, rfl, U1.ob, rfl, _, rfl, _, _, rfl, rfl, _, rfl, _, rfl, _, _, rfl, rfl, _, rfl, _, _, rfl, rfl, hd, _, _, rfl, x, dx, t, ns, p1, _, _, rfl, U1, fun b p' hb H3 e3 U3 => ?_, fun e he => ?_⟩
        · obtain ⟨⟨k1, k2⟩, k3⟩ := fin _ b p' H3 (by omega) hL hb e3 U3
          exact ⟨_, rfl, _, rfl, .inl ⟨_, rfl, _, _, rfl, rfl, (show (0 : Int) < 128 by decide), _, rfl, _, _, rfl, rfl, k1, _, _, rfl, rfl, _, rfl, _, _, rfl, rfl, k2, k3⟩⟩
        · exact (z e (by rw [hR]; exact rnum_err hL hM he)).ex eB hx1
      · have hL : (if unit > 1 then (1 : Int) else 0) = 0 := if_neg fun k => c2 (decide_eq_true k)
        refine ⟨_, rfl, x, dx, _, rfl, U1.ob, rfl, _, rfl, _, _, rfl, rfl, _, rfl, _, rfl, _, _, rfl, rfl, _, rfl, _, _, rfl, rfl, hd, _, _, rfl, x, dx, t, ns, p1, _, _, rfl, U1, fun b p' hb H3 e3 U3 => ?_, fun e he => ?_⟩
        · obtain ⟨⟨k1, k2⟩, k3⟩ := fin _ b p' H3 (by omega) hL hb e3 U3
          exact ⟨_, rfl, _, rfl, .inl ⟨_, rfl, _, _, rfl, rfl, (show (0 : Int) < 128 by decide), _, rfl, _, _, rfl, rfl, k1, _, _, rfl, rfl, _, rfl, _, _, rfl, rfl, k2, k3⟩⟩
        · exact (z e (by rw [hR]; exact rnum_err hL hM he)).ex eB hx1
    · omega
  · have hb : ¬ (128 : Int) ≤ byte := fun k => c (decide_eq_true k)
    rcases hW with ⟨hlt, _⟩ | ⟨_, _, hR⟩
    · omega
    · exact ⟨_, rfl, q _ _ hR _ eB U1⟩
theorem ok_Unpack_end (A : All P w K mg base a) : FnOk P w K mg base (L2.CX P w) 2 a.f_Unpack_end a.fd_Unpack_end ["self"] (sp_Unpack_end a) := by
  have T := A.T
  refine A.F_Unpack_end.okX sc_Unpack_end (fun vs H Q E h => by obtain ⟨x, dx, t, ns, p, rfl, _⟩ := h; rfl) (fun cdv AA outer s H vs Q E hr h => ?_)
  refine ⟨_, (pss_cons (ps_set (i := 1) sc_Unpack_end.nd rfl (Or.inl rfl) (pe_call (ok_check_of A) (hr.mono (by decide)) (by rfl) A.g_check_of A.k_check_of A.b_check_of .nil (passes_own rfl rfl rfl rfl) (pa_cons (pe_slice sl_tupA (pe_fld (pv 0) rfl) po_none (po_some (pe_fld (pv 0) rfl))) pa_nil)))
      (pss_cons (ps_expr (pe_meth (pv 0) T.cl_Unpack A.me_Unpack_byte (ok_Unpack_byte A) (hr.mono (by decide)) A.b_Unpack_byte .nil (passes_own rfl rfl rfl rfl) (pa_cons (pv 1) (pa_cons (pv 1) pa_nil))))
      (pss_one (ps_if (pt_cmpR op_lt (pe_fld (pv 0) rfl) (pe_callB call_len_seq (by rfl) T.m_len PySem.boot_len (pa_cons (pe_fld (pv 0) rfl) pa_nil)) (nomark _)) (pss_one (ps_raiseErr rfl T.e_BadBytes nm_at hr (takes_of rfl rfl rfl rfl) (pa_cons (pe_fld (pv 0) rfl) pa_nil))) pss_nil)))), ?_⟩
  obtain ⟨x, dx, t, ns, p, rfl, U, q, z⟩ := h
  refine ⟨_, rfl, x, a.C_Unpack, dx, _, _, rfl, U.ob, T.cl_Unpack, T.na_Unpack_data, rfl, _, rfl, x, a.C_Unpack, dx, _, _, rfl, U.ob, T.cl_Unpack, T.na_Unpack_at, rfl, _, rfl, slice_tup U.tp fun H1 c e1 hc => ?_⟩
  rw [cut_to, ← List.map_take] at hc
  refine ⟨c, ns.take p, rfl, .inr hc, by rw [List.length_take]; have := U.ln; omega, fun H2 e2 => ?_⟩
  have U2 := U.ex (e1.tr e2)
  have hsub : ∀ o, H x = some o → ∃ o', H2 x = some o' := fun o h => ⟨o, (e1.tr e2) _ _ h⟩
  refine ⟨_, rfl, x, dx, _, rfl, U2.ob, rfl, _, rfl, _, rfl, x, dx, t, ns, p, _, _, rfl, U2, fun b p' hb H3 e3 U3 => ?_, fun e he => ?_⟩
  · have hok : rbyte ns p (check (ns.take p)) (check (ns.take p)) = .ok (b, p') := hb
    have hp' : p' ≤ ns.length := U3.le
    have hx2 : ∀ o, H x = some o → ∃ o', H3 x = some o' := fun o h => ⟨_, U3.ob⟩
    have e13 : ExB x H H3 := (ExB.of (e1.tr e2)).tr e3
    refine ⟨_, rfl, x, a.C_Unpack, dx, _, _, rfl, U3.ob, T.cl_Unpack, T.na_Unpack_at, rfl, _, rfl, x, a.C_Unpack, dx, _, _, rfl, U3.ob, T.cl_Unpack, T.na_Unpack_data, rfl, t, _, rfl, .inr (.inl (.inl U3.tp)), _, _, rfl, rfl, _, rfl, ite2 (fun c => ?_) (fun c => ?_)⟩
    · have hlt : p' < ns.length := by
        have := of_decide_eq_true c
        rw [List.length_map] at this
        omega
      exact ⟨_, rfl, x, a.C_Unpack, dx, _, _, rfl, U3.ob, T.cl_Unpack, T.na_Unpack_at, rfl, _, rfl, fun dd hn => ((z p' (by unfold rend; rw [hok]; exact if_pos hlt)).ex e13 hx2) _ dd ((ExB.of (Ex.rf _)).nw hn) hn upd_same⟩
    · have hge : ¬ p' < ns.length := fun k => c (decide_eq_true (by rw [List.length_map]; omega))
      exact q (by unfold rend; rw [hok]; exact if_neg hge) _ e13
  · exact (z e (by unfold rend; rw [he])).ex (ExB.of (e1.tr e2)) hsub
end
end K87

set_option Elab.async false
set_option linter.all false
set_option maxRecDepth 100000
set_option maxHeartbeats 4000000
namespace K87
open PySem PySem.Spec PyProof.Rows L2
def preB (acc : List Int) : Except Nat (List Int × Nat) → Except Nat (List Int × Nat)
  | .error e => .error e
  | .ok (r, q) => .ok (acc ++ r, q)
theorem preB_nil (x : Except Nat (List Int × Nat)) : preB [] x = x := by
  cases x with
  | error _ => rfl
  | ok y => rfl
theorem preB_app (a b : List Int) (x : Except Nat (List Int × Nat)) : preB a (preB b x) = preB (a ++ b) x := by
  cases x with
  | error _ => rfl
  | ok y => show Except.ok (a ++ (b ++ y.1), y.2) = .ok ((a ++ b) ++ y.1, y.2); rw [List.append_assoc]
theorem rbits_err {d : List Int} {m p e : Nat} (hm : 0 < m) (h : rbyte d p 0 (2 * 2 ^ (min 8 m - 1) - 1) = .error e) : rbits d m p = .error e := by
  rw [rbits, if_neg (by omega), h]
theorem rbits_go {d : List Int} {m p p' : Nat} {b : Int} (hm : 0 < m) (h : rbyte d p 0 (2 * 2 ^ (min 8 m - 1) - 1) = .ok (b, p')) : rbits d m p = preB (bitsOf (min 8 m) b) (rbits d (m - 8) p') := by
  rw [rbits, if_neg (by omega), h]
  dsimp only
  cases rbits d (m - 8) p' with
  | error _ => rfl
  | ok y => rfl
theorem rnum_bd {ns : List Int} {most : Int} : ∀ {f p q : Nat} {found unit b : Int}, 0 ≤ found → found ≤ most → 1 ≤ unit → rnum ns most f p found unit = .ok (b, q) → 0 ≤ b ∧ b ≤ most
  | 0, _, _, _, _, _, _, _, _, h => nomatch h
  | f + 1, p, q, found, unit, b, h0, h1, hu, h => by
    cases hr : rbyte ns p (if unit > 1 then 1 else 0) (min 255 ((most - found) / unit)) with
    | error e => rw [rnum_err rfl rfl hr] at h; cases h
    | ok y =>
      obtain ⟨c, p'⟩ := y
      rw [rnum_go rfl rfl hr] at h
      obtain ⟨_, hb1, hb2, _⟩ := rbyte_ok hr
      have hc : 0 ≤ c := by
        split at hb1 <;> omega
      obtain ⟨s1, s2, s3⟩ := step_bound h0 h1 hu hc hb2
      split at h
      · exact rnum_bd s1 s2 (by omega) h
      · cases h
        exact ⟨s1, s2⟩
theorem rbits_zero {d : List Int} {p : Nat} : rbits d 0 p = .ok ([], p) := by rw [rbits, if_pos rfl]
theorem bitsOf_len {h : Nat} (b : Int) (hh : h ≤ 8) : (bitsOf h b).length = h := by
  unfold bitsOf
  rw [List.length_map, List.length_take]
  exact Nat.min_eq_left hh
theorem unit_at {h : Nat} (h1 : 1 ≤ h) (h8 : h ≤ 8) : atI unitsV ((h : Int) - 1) = some (.int (2 ^ (h - 1))) := by
  have : ∀ h : Fin 9, 1 ≤ h.val → unitsV[h.val - 1]? = some (.int (2 ^ (h.val - 1))) := by
    intro h hh
    match h with
    | 0 => omega
    | 1 => rfl | 2 => rfl | 3 => rfl | 4 => rfl | 5 => rfl | 6 => rfl | 7 => rfl | 8 => rfl
  have z := this ⟨h, by omega⟩ h1
  rw [show ((h : Int) - 1) = ((h - 1 : Nat) : Int) by omega]
  exact atI_nat z
theorem UpAt.put {C : Addr} {H : Hp} {x dx t l : Addr} {ns : List Int} {p : Nat} {o : HO} (h : UpAt C H x dx t ns p) (h1 : l ≠ x) (h2 : t ≠ l) : UpAt C (upd H l o) x dx t ns p := ⟨by rw [upd_ne h1.symm]; exact h.ob, by rw [upd_ne h2]; exact h.tp, h.le, h.ln⟩
def WRd (C : Addr) (H : Hp) (v : V) (x dx t l : Addr) (ns : List Int) (M : Nat) (R : Except Nat (List Int × Nat)) (m : Nat) (σ : L2.St) (H' : Hp) : Prop :=
  ∃ (acc : List Int) (pp : Nat) (y4 y5 y6 : Option V), σ = [some v, some (.ref x), some (.int M), some (.ref l), y4, y5, y6] ∧ Ex H H' ∧ UpAt C H' x dx t ns pp ∧ H' l = some (.lst (acc.map V.int)) ∧ acc.length + m = M ∧ R = preB acc (rbits ns m pp)
theorem units_take {h k : Nat} {y : V} (hy : (unitsV.take h)[k]? = some y) : k < h ∧ y = .int (units.getD k 0) ∧ 0 < units.getD k 0 ∧ units.getD k 0 ≤ 128 := by
  rw [List.getElem?_take] at hy
  split at hy
  · next hk => exact ⟨hk, units_get hy⟩
  · cases hy
theorem bitsOf_map {h : Nat} (b : Int) (hh : h ≤ 8) : (List.range h).map (fun k => V.int (b / units.getD k 0 % 2)) = (bitsOf h b).map V.int := by
  unfold bitsOf
  rw [List.map_map]
  apply List.ext_getElem?
  intro k
  rw [List.getElem?_map, List.getElem?_map]
  by_cases hk : k < h
  · rw [List.getElem?_range hk, List.getElem?_take, if_pos hk]
    have h8 : k < units.length := Nat.lt_of_lt_of_le hk hh
    rw [List.getElem?_eq_getElem h8]
    simp [List.getD, h8]
  · rw [List.getElem?_eq_none (by rw [List.length_range]; omega), List.getElem?_eq_none (by rw [List.length_take]; omega)]
    rfl
def sp_read_inputs_bytes (a : Ad) : Sp := fun vs H Q E => ∃ v d, vs = [v] ∧ DAt H v d ∧ (itemsD d).length ≤ 50000 ∧
  (isBytes d = true → ∀ ns : List Int, itemsD d = ns.map V.int → (∀ n ∈ ns, 0 ≤ n ∧ n ≤ 255) →
    (∀ bits, readInputs ns = .ok bits → ∀ H' q, Ex H H' → H q = none → H' q = some (.tup (bits.map V.int)) → Q (.ref q) H') ∧ (∀ e, readInputs ns = .error e → Err1 a.C_BadBytes "at" (.int (e : Int)) H E)) ∧
  (isBytes d = false → Err1 a.C_BadValue "part" (.str "data") H E)
section
variable {P : Program} {w : World} {K : PySem.W.Frag} {mg : Str → Option Value} {base : Heap} {a : Ad}
theorem ok_read_inputs_bytes (A : All P w K mg base a) : FnOk P w K mg base (L2.CX P w) 6 a.f_read_inputs_bytes a.fd_read_inputs_bytes ["data"] (sp_read_inputs_bytes a) := by
  have T := A.T
  refine A.F_read_inputs_bytes.okX sc_read_inputs_bytes (fun vs H Q E h => by obtain ⟨v, d, rfl, _⟩ := h; rfl) (fun cdv AA outer s H vs Q E hr h => ?_)
  refine ⟨_, (pss_cons (ps_set (i := 1) sc_read_inputs_bytes.nd rfl (Or.inl rfl) (pe_make A.mk_Unpack (ok_Unpack___init__ A) (hr.mono (by decide)) (by rfl) A.g_Unpack A.b_Unpack___init__ .nil (passes_own rfl rfl rfl rfl) (pa_cons (pv 0) pa_nil)))
      (pss_cons (ps_expr (pe_meth (pv 1) T.cl_Unpack A.me_Unpack_byte (ok_Unpack_byte A) (hr.mono (by decide)) A.b_Unpack_byte .nil (passes_own rfl rfl rfl rfl) (pa_cons (pe_globE rfl T.c_INPUTS) (pa_cons (pe_globE rfl T.c_INPUTS) pa_nil))))
      (pss_cons (ps_set (i := 2) sc_read_inputs_bytes.nd rfl (Or.inl rfl) (pe_meth (pv 1) T.cl_Unpack A.me_Unpack_number (ok_Unpack_number A) (hr.mono (by decide)) A.b_Unpack_number .nil (passes_own rfl rfl rfl rfl) (pa_cons (pe_globE rfl T.c_MOST_INPUTS) pa_nil)))
      (pss_cons (ps_set (i := 3) sc_read_inputs_bytes.nd rfl (Or.inl rfl) (pe_lst pa_nil))
      (pss_cons (ps_while (passes_of rfl) (pt_cmpR op_lt (pe_callB call_len_seq (by rfl) T.m_len PySem.boot_len (pa_cons (pv 3) pa_nil)) (pv 2) (nomark _)) (pss_cons (ps_set (i := 4) sc_read_inputs_bytes.nd rfl (Or.inl rfl) (pe_callB (call_min2 rfl) (by rfl) T.m_min (by decide +kernel) (pa_cons pe_int (pa_cons (pe_op op_sub (pv 2) (pe_callB call_len_seq (by rfl) T.m_len PySem.boot_len (pa_cons (pv 3) pa_nil))) pa_nil))))
      (pss_cons (ps_set (i := 5) sc_read_inputs_bytes.nd rfl (Or.inr rfl) (pe_meth (pv 1) T.cl_Unpack A.me_Unpack_byte (ok_Unpack_byte A) (hr.mono (by decide)) A.b_Unpack_byte .nil (passes_own rfl rfl rfl rfl) (pa_cons pe_int (pa_cons (pe_op op_sub (pe_op op_mul pe_int (pe_ix ix_tup (pe_globE rfl T.c_UNITS) (pe_op op_sub (pv 4) pe_int) (fun _ _ => rfl))) pe_int) pa_nil))))
      (pss_one (ps_expr (pe_bm PySem.F.plainAttrs_list PySem.F.slot_list_extend PySem.F.type_list_extend mt_extend (pv 3) (pa_cons (pe_lc (own := [("unit", 6)]) rfl sc_read_inputs_bytes.nd (pi_tup (pe_slice sl_tupA (pe_globE rfl T.c_UNITS) po_none (po_some (pv 4)))) (blkOk_by (own := [("unit", 6)]) (N := N_read_inputs_bytes) (sc := defScope s_read_inputs_bytes) (by decide +kernel)) (fun _ _ _ _ _ => (pg_name (i := 6) sc_read_inputs_bytes.nd rfl (Or.inl rfl))) (fun _ _ _ _ _ => pts_nil) (fun _ _ _ _ _ => (pe_op op_mod (pe_callTy call_int1 (by rfl) T.m_int (by decide +kernel) (pa_cons (pe_op op_fdiv (pv 5) (pv 6)) pa_nil)) pe_int))) pa_nil)))))))
      (pss_cons (ps_expr (pe_meth0 (pv 1) T.cl_Unpack A.me_Unpack_end (ok_Unpack_end A) (hr.mono (by decide)) A.b_Unpack_end .nil (passes_own rfl rfl rfl rfl)))
      (pss_one (ps_ret (pe_callTy call_tuple_of (by rfl) T.m_tuple (by decide +kernel) (pa_cons (pv 3) pa_nil)))))))))), ?_⟩
  obtain ⟨v, d, rfl, hd, hl, q, z⟩ := h
  refine ⟨_, rfl, fun x dx nx ndx ndxx => ?_⟩
  have e0 : Ex H (upd (upd H dx (.own x)) x (.ins a.C_Unpack dx [])) := ((Ex.rf H).nw ndx).ch nx
  refine ⟨x, v, d, dx, rfl, upd_same, hd.ex e0, hl, fun hb ns en hns H1 t e1 U1 => ⟨rfl, ?_⟩, fun hb => ?_⟩
  · obtain ⟨qok, qer⟩ := q hb ns en hns
    have eA : Ex H H1 := e1.ex e0 nx
    have err : ∀ (H' : Hp) (e : Nat), readInputs ns = .error e → Ex H H' → (∃ o, H' x = some o) → ErrB a x e H' E := fun H' e he eH hx H2 dd e2 hn hd2 => qer e he H2 dd (e2.ex eH nx) (eH.no hn) hd2
    refine ⟨_, rfl, x, dx, _, rfl, U1.ob, rfl, x, dx, t, ns, 0, 73, 73, rfl, U1, fun b p1 hb1 H2 e2 U2 => ?_, fun e he => err _ e (by unfold readInputs; rw [he]) eA ⟨_, U1.ob⟩⟩
    have eB : Ex H H2 := e2.ex eA nx
    refine ⟨_, rfl, x, dx, _, rfl, U2.ob, rfl, x, dx, t, ns, p1, 5000, rfl, U2, by omega, by omega, fun many p2 hb2 H3 e3 U3 => ?_, fun e he => err _ e (by unfold readInputs; rw [hb1]; dsimp only; rw [he]) eB ⟨_, U2.ob⟩⟩
    have eC : Ex H H3 := e3.ex eB nx
    refine ⟨Nat.zero_le _, fun l nl => ?_⟩
    obtain ⟨hm0, hm1⟩ := rnum_bd (by omega) (by omega) (by omega) hb2
    obtain ⟨M, rfl⟩ : ∃ M : Nat, many = (M : Int) := ⟨many.toNat, by omega⟩
    have hread : ∀ x, readInputs ns = x ↔ (match rbits ns M p2 with
      | .error e => (.error e : Except Nat (List Int))
      | .ok (bits, r) => match rend ns r with
        | .error e => .error e
        | .ok _ => .ok bits) = x := fun x => by
      unfold readInputs
      rw [hb1]
      dsimp only
      rw [hb2]
      rfl
    refine ⟨WRd a.C_Unpack H v x dx t l ns M (rbits ns M p2), ⟨M, [], p2, _, _, _, rfl, eC.nw nl, U3.ex ((Ex.rf _).nw nl), upd_same, by simp, (preB_nil _).symm⟩, fun m σ H4 hW => ?_⟩
    obtain ⟨acc, pp, y4, y5, y6, rfl, eD, U4, hl4, hM, hR⟩ := hW
    have hlx : l ≠ x := fun k => by
      rw [k, U4.ob] at hl4
      cases hl4
    have hal : ((acc.map V.int).length : Int) = (acc.length : Int) := by rw [List.length_map]
    refine ⟨.ref l, rfl, l, acc.map V.int, rfl, .inl (.inl (.inl hl4)), _, rfl, _, _, rfl, rfl, _, rfl, ite2 (fun c => ?_) (fun c => ?_)⟩
    · have hm : 0 < m := by
        have := of_decide_eq_true c
        omega
      have eh : (if (M : Int) - ((acc.map V.int).length : Int) < 8 then (M : Int) - ((acc.map V.int).length : Int) else 8) = ((min 8 m : Nat) : Int) := by
        split <;> omega
      refine ⟨fun σ' H' => ∃ m', m' < m ∧ WRd a.C_Unpack H v x dx t l ns M (rbits ns M p2) m' σ' H', fun _ _ h => h, ?_⟩
      refine ⟨_, rfl, .ref l, rfl, l, acc.map V.int, rfl, .inl (.inl (.inl hl4)), _, _, rfl, rfl, _, _, rfl, ?_⟩
      rw [eh]
      have hpow : (2 : Int) * 2 ^ (min 8 m - 1) - 1 = 2 * 2 ^ (min 8 m - 1) - 1 := rfl
      refine ⟨_, rfl, x, dx, _, rfl, U4.ob, rfl, _, rfl, _, _, rfl, rfl, a.U_UNITS, unitsV, _, _, rfl, rfl, T.q_UNITS _, unit_at (by omega) (by omega), _, _, rfl, rfl, .inl ⟨by decide, by decide⟩, _, _, rfl, rfl, x, dx, t, ns, pp, _, _, rfl, U4, fun b p' hb3 H5 e5 U5 => ?_, fun e he => err _ e ?_ eD ⟨_, U4.ob⟩⟩
      · have hl5 : H5 l = some (.lst (acc.map V.int)) := e5 _ _ hlx hl4
        refine ⟨.ref l, rfl, .inl ⟨rfl, _, .inl (.inl hl5)⟩, _, rfl, _, rfl, slice_tupF (xs := unitsV) (fun H' e => T.q_UNITS H') fun H6 c e6 hc => ?_⟩
        rw [cut_to] at hc
        have hw : (unitsV.take (min 8 m)).length = min 8 m := by
          rw [List.length_take]
          exact Nat.min_eq_left (by show min 8 m ≤ 8; omega)
        refine ⟨c, rfl, ⟨_, hc _ (Ex.rf _)⟩, fun D hD => lc_m (walk_tup (K := K) (a := c) (xs := unitsV.take (min 8 m))) (fun k => .int (b / units.getD k 0 % 2)) hD (by omega) (fun H' e => hc H' e) (fun k y H7 H' hk e y7 => ?_) fun k H7 st e h' => ⟨st, l, D, _, _, rfl, rfl, e _ _ (e6 _ _ hl5), h', ?_, ?_⟩⟩
        · obtain ⟨rfl, hy⟩ := y7
          obtain ⟨hkh, rfl, hu1, hu2⟩ := units_take hy
          exact ⟨_, Ex.rf _, fun R r => r, rfl, fun R r => ⟨_, rfl, _, rfl, _, _, rfl, rfl, ⟨hu1, by omega⟩, .inl ⟨_, rfl, _, _, rfl, rfl, (show (0 : Int) < 2 by decide), r _ (Ex.rf _)⟩⟩⟩
        · rw [List.length_map, List.length_map, List.length_range, hw]
          exact Nat.le_trans (by show acc.length + min 8 m ≤ 5008; omega) (by decide : 5008 ≤ sizeLine)
        · refine ⟨m - 8, by omega, acc ++ bitsOf (min 8 m) b, p', _, _, _, rfl, ?_, ?_, ?_, ?_, ?_⟩
          · exact (((e5.ex eD nx).tr e6).tr e).ch (eC.no nl)
          · exact (U5.ex (e6.tr e)).put hlx (fun k => by
              have z1 := U5.tp
              rw [k, hl5] at z1
              cases z1)
          · rw [upd_same, hw, bitsOf_map b (by omega), List.map_append]
          · rw [List.length_append, bitsOf_len b (by omega)]
            omega
          · rw [hR, rbits_go hm hb3, preB_app]
      · rw [hread, hR, rbits_err hm he]
        rfl
    · have hm : m = 0 := by
        have h9 : ¬ (((acc.map V.int).length : Int) < (M : Int)) := fun k => c (decide_eq_true k)
        omega
      subst hm
      rw [rbits_zero] at hR
      have hR' : rbits ns M p2 = .ok (acc ++ [], pp) := hR
      refine ⟨_, rfl, x, dx, _, rfl, U4.ob, rfl, x, dx, t, ns, pp, rfl, U4, fun he H5 e5 => ?_, fun e he => err _ e ?_ eD ⟨_, U4.ob⟩⟩
      · have hl5 : H5 l = some (.lst (acc.map V.int)) := e5 _ _ hlx hl4
        refine ⟨.ref l, rfl, l, _, rfl, .inl ⟨.inl (.inl hl5), fun o no => qok acc ?_ _ o ((e5.ex eD nx).nw no) ((e5.ex eD nx).no no) upd_same⟩⟩
        rw [hread, hR']
        dsimp only
        rw [he, List.append_nil]
      · rw [hread, hR']
        dsimp only
        rw [he]
  · exact fun H' dd e1 hn hd2 => z hb H' dd (e0.tr e1) (e0.no hn) hd2
end
end K87

set_option Elab.async false
set_option linter.all false
set_option maxRecDepth 100000
set_option maxHeartbeats 4000000
namespace K87
open PySem PySem.Spec PyProof.Rows L2
def PenAt (H : Hp) (p : Addr) : Prop := ∃ x : Int, H p = some (.lst [.int x]) ∧ 0 ≤ x ∧ x < 2 ^ 64
theorem PenAt.ex {H H' : Hp} {p : Addr} (h : PenAt H p) (e : Ex H H') : PenAt H' p := let ⟨x, h1, h2, h3⟩ := h; ⟨x, e _ _ h1, h2, h3⟩
def sp__law_pen (K : PySem.W.Frag) : Sp := fun vs H Q _ => ∃ (s : Addr) (ns : List Int), vs = [.ref s] ∧ SqL K H s (ns.map V.int) ∧ ns.length ≤ 100000 ∧ ∀ H' p, Ex H H' → H p = none → PenAt H' p → Q (.ref p) H'
def sp__law_draw : Sp := fun vs H Q _ => ∃ p many, vs = [.ref p, .int many] ∧ PenAt H p ∧ ∀ H' r, ExB p H H' → PenAt H' p → 0 ≤ r → (r < many ∨ (r = 0 ∧ many < 1)) → Q (.int r) H'
def sp__law_pick : Sp := fun vs H Q _ => ∃ p s xs, vs = [.ref p, .ref s] ∧ PenAt H p ∧ H s = some (.lst xs) ∧ s ≠ p ∧ xs ≠ [] ∧ ∀ H' v, ExB p H H' → PenAt H' p → v ∈ xs → Q v H'
section
variable {P : Program} {w : World} {K : PySem.W.Frag} {mg : Str → Option Value} {base : Heap} {a : Ad}
theorem ok__law_pen (A : All P w K mg base a) : FnOk P w K mg base (L2.CX P w) 1 a.f__law_pen a.fd__law_pen ["script"] (sp__law_pen K) := by
  have T := A.T
  refine A.F__law_pen.okX sc__law_pen (fun vs H Q E h => by obtain ⟨v, d, rfl, _⟩ := h; rfl) (fun cdv AA outer s H vs Q E hr h => ?_)
  refine ⟨_, (pss_cons (ps_set (i := 1) sc__law_pen.nd rfl (Or.inl rfl) pe_int)
      (pss_cons (ps_for (passes_of rfl) rfl (pi_list (pv 0)) (pg_name (i := 2) sc__law_pen.nd rfl (Or.inl rfl)) (pss_one (ps_set (i := 1) sc__law_pen.nd rfl (Or.inl rfl) (pe_op op_mod (pe_callTy call_int1 (by rfl) T.m_int (by decide +kernel) (pa_cons (pe_op op_add (pe_op op_add (pe_op op_mul (pv 1) pe_int) (pe_op op_mod (pe_callTy call_int1 (by rfl) T.m_int (by decide +kernel) (pa_cons (pv 2) pa_nil)) (pe_op op_pow pe_int pe_int))) pe_int) pa_nil)) (pe_op op_sub (pe_op op_pow pe_int pe_int) pe_int)))))
      (pss_one (ps_ret (pe_lst (pa_cons (pv 1) pa_nil)))))), ?_⟩
  obtain ⟨s, ns, rfl, hs, hl, q⟩ := h
  refine ⟨.ref s, rfl, s, rfl, ⟨_, hs⟩, ?_⟩
  refine for_it (walk_list (K := K) (a := s) (xs := ns.map V.int)) (fun i σ H' => H' = H ∧ ∃ (x : Int) (y : Option V), σ = [some (.ref s), some (.int x), y] ∧ 0 ≤ x ∧ x < 2 ^ 61) ⟨rfl, _, _, rfl, by decide, by decide⟩ (fun i σ H' _ h => by obtain ⟨rfl, _⟩ := h; exact hs) (fun i x σ H1 H' hi hP y => ?_) fun σ H1 hP => ?_
  · obtain ⟨rfl, z, y2, rfl, h0, h1⟩ := hP
    obtain ⟨rfl, hy⟩ := y
    rw [List.getElem?_map] at hy
    obtain ⟨c, hc, rfl⟩ := Option.map_eq_some_iff.mp hy
    refine ⟨_, rfl, _, _, rfl, rfl, .inl ⟨by omega, by omega⟩, _, rfl, .inl ⟨_, rfl, _, _, rfl, rfl, (show CPow 10 18 from ⟨by decide, by decide, by decide⟩), _, _, rfl, rfl, ?_, _, _, rfl, rfl, _, _, rfl, rfl, .inl ⟨_, rfl, _, _, rfl, rfl, (show CPow 2 61 from ⟨by decide, by decide, by decide⟩), _, _, rfl, rfl, _, _, rfl, rfl, ?_, rfl, _, _, rfl, ?_, ?_⟩⟩⟩
    · show (0 : Int) < 10 ^ (18 : Int).toNat
      decide
    · show (0 : Int) < 2 ^ (61 : Int).toNat - 1
      decide
    · exact Int.emod_nonneg _ (by decide)
    · exact Int.lt_trans (Int.emod_lt_of_pos _ (by decide)) (by decide : (2 : Int) ^ (61 : Int).toNat - 1 < 2 ^ 61)
  · obtain ⟨rfl, z, y2, rfl, h0, h1⟩ := hP
    exact ⟨_, rfl, by show 1 ≤ sizeLine; decide, fun p np => q _ p ((Ex.rf _).nw np) np ⟨z, upd_same, h0, by omega⟩⟩
theorem ok__law_draw (A : All P w K mg base a) : FnOk P w K mg base (L2.CX P w) 1 a.f__law_draw a.fd__law_draw ["pen", "many"] sp__law_draw := by
  have T := A.T
  refine A.F__law_draw.okX sc__law_draw (fun vs H Q E h => by obtain ⟨v, d, rfl, _⟩ := h; rfl) (fun cdv AA outer s H vs Q E hr h => ?_)
  refine ⟨_, (pss_cons (ps_if (pt_cmpR op_lt (pv 1) pe_int (nomark _)) (pss_one (ps_ret pe_int)) pss_nil)
      (pss_cons (ps_asg (pe_op op_mod (pe_callTy call_int1 (by rfl) T.m_int (by decide +kernel) (pa_cons (pe_op op_add (pe_op op_mul (pe_ix ix_list (pv 0) pe_int (fun _ _ => rfl)) pe_int) pe_int) pa_nil)) (pe_op op_pow pe_int pe_int)) (pg_sub (pv 0) pe_int set_list))
      (pss_one (ps_ret (pe_op op_mod (pe_callTy call_int1 (by rfl) T.m_int (by decide +kernel) (pa_cons (pe_op op_fdiv (pe_ix ix_list (pv 0) pe_int (fun _ _ => rfl)) pe_int) pa_nil)) (pv 1)))))), ?_⟩
  obtain ⟨p, many, rfl, ⟨x, hx, h0, h1⟩, q⟩ := h
  refine ⟨_, rfl, _, _, rfl, rfl, _, rfl, ite2 (fun c => ?_) (fun c => ?_)⟩
  · have hm : many < 1 := of_decide_eq_true c
    exact q H 0 (ExB.of (Ex.rf _)) ⟨x, hx, h0, h1⟩ (by decide) (.inr ⟨rfl, hm⟩)
  · have hm : ¬ many < 1 := fun k => c (decide_eq_true k)
    refine ⟨.ref p, rfl, p, _, _, _, rfl, rfl, .inl (.inl hx), rfl, _, _, rfl, rfl, .inl ⟨by omega, by omega⟩, _, _, rfl, rfl, .inl ⟨_, rfl, _, _, rfl, rfl, (show CPow 2 64 from ⟨by decide, by decide, by decide⟩), _, _, rfl, rfl, ?_, .ref p, rfl, p, _, _, 0, rfl, rfl, hx, rfl, ?_⟩⟩
    · show (0 : Int) < 2 ^ (64 : Int).toNat
      decide
    · refine ⟨.ref p, rfl, p, _, _, _, rfl, rfl, .inl (.inl upd_same), rfl, _, _, rfl, rfl, ⟨by decide, by decide⟩, .inl ⟨_, rfl, _, rfl, _, _, rfl, rfl, ?_, q _ _ ExB.put ⟨_, upd_same, ?_, ?_⟩ ?_ (.inl ?_)⟩⟩
      · show 0 < many
        omega
      · exact Int.emod_nonneg _ (by decide)
      · exact Int.emod_lt_of_pos _ (by decide)
      · exact Int.emod_nonneg _ (by omega)
      · exact Int.emod_lt_of_pos _ (by omega)
theorem ok__law_pick (A : All P w K mg base a) : FnOk P w K mg base (L2.CX P w) 2 a.f__law_pick a.fd__law_pick ["pen", "some"] sp__law_pick := by
  have T := A.T
  refine A.F__law_pick.okX sc__law_pick (fun vs H Q E h => by obtain ⟨v, d, xs, rfl, _⟩ := h; rfl) (fun cdv AA outer s H vs Q E hr h => ?_)
  refine ⟨_, (pss_one (ps_ret (pe_ix ix_list (pv 1) (pe_call (ok__law_draw A) (hr.mono (by decide)) (by rfl) A.g__law_draw A.k__law_draw A.b__law_draw .nil (passes_own rfl rfl rfl rfl) (pa_cons (pv 0) (pa_cons (pe_callB call_len_seq (by rfl) T.m_len PySem.boot_len (pa_cons (pv 1) pa_nil)) pa_nil))) (fun _ _ => rfl)))), ?_⟩
  obtain ⟨p, s, xs, rfl, hp, hs, hne, hx, q⟩ := h
  have hpos : 0 < xs.length := List.length_pos_iff.mpr hx
  refine ⟨.ref s, rfl, _, rfl, .ref s, rfl, s, _, rfl, .inl (.inl (.inl hs)), p, _, rfl, hp, fun H' r e hp' h0 hr2 => ?_⟩
  have hr3 : r.toNat < xs.length := by omega
  refine ⟨s, xs, r, xs[r.toNat], rfl, rfl, .inl (.inl (e _ _ hne hs)), ?_, q H' _ e hp' (List.getElem_mem hr3)⟩
  have z := atI_nat (List.getElem?_eq_getElem hr3)
  rw [Int.toNat_of_nonneg h0] at z
  exact z
end
end K87

set_option Elab.async false
set_option linter.all false
set_option maxRecDepth 100000
set_option maxHeartbeats 4000000
namespace K87
open PySem PySem.Spec PyProof.Rows L2
def badV : Option Nat → V
  | none => .non
  | some e => .int (e : Int)
def tkv (rr : Addr) (p : Nat) (b : Option Nat) : List (Key × V) := [(.inr "row", .ref rr), (.inr "at", .int (p : Int)), (.inr "bad", badV b)]
structure TAt (H : Hp) (d rr : Addr) (ns : List Int) (p : Nat) (b : Option Nat) : Prop where
  ob : H d = some (.dK (tkv rr p b))
  tp : H rr = some (.lst (ns.map V.int))
  le : p ≤ ns.length
  ln : ns.length ≤ 50000
theorem TAt.ne {H : Hp} {d rr : Addr} {ns : List Int} {p : Nat} {b : Option Nat} (h : TAt H d rr ns p b) : rr ≠ d := fun e => by
  have z := h.tp
  rw [e, h.ob] at z
  cases z
theorem TAt.put {H : Hp} {d rr : Addr} {ns : List Int} {p p' : Nat} {b b' : Option Nat} {o : HO} (h : TAt H d rr ns p b) (ho : o = .dK (tkv rr p' b')) (hp : p' ≤ ns.length) : TAt (upd H d o) d rr ns p' b' := by
  subst ho
  exact ⟨upd_same, by rw [upd_ne h.ne]; exact h.tp, hp, h.ln⟩
theorem TAt.ex {H H' : Hp} {d rr : Addr} {ns : List Int} {p : Nat} {b : Option Nat} (h : TAt H d rr ns p b) (e : Ex H H') : TAt H' d rr ns p b := ⟨e _ _ h.ob, e _ _ h.tp, h.le, h.ln⟩
theorem TAt.row {H : Hp} {d rr : Addr} {ns : List Int} {p : Nat} {b : Option Nat} (h : TAt H d rr ns p b) : DGet H d (.str "row") (some (.ref rr)) := .inl ⟨_, .inr "row", .inl h.ob, rfl, rfl⟩
theorem TAt.at_ {H : Hp} {d rr : Addr} {ns : List Int} {p : Nat} {b : Option Nat} (h : TAt H d rr ns p b) : DGet H d (.str "at") (some (.int (p : Int))) := .inl ⟨_, .inr "at", .inl h.ob, rfl, rfl⟩
theorem TAt.bad {H : Hp} {d rr : Addr} {ns : List Int} {p : Nat} {b : Option Nat} (h : TAt H d rr ns p b) : DGet H d (.str "bad") (some (badV b)) := .inl ⟨_, .inr "bad", .inl h.ob, rfl, rfl⟩
theorem TAt.pbad {H : Hp} {d rr : Addr} {ns : List Int} {p : Nat} {b : Option Nat} (h : TAt H d rr ns p b) (v : V) : DPut H d (.str "bad") v (upd H d (.dK (putK (tkv rr p b) (.inr "bad") v))) := DPut.k (k := .inr "bad") h.ob (by show 3 < sizeLine; decide)
theorem TAt.pat {H : Hp} {d rr : Addr} {ns : List Int} {p : Nat} {b : Option Nat} (h : TAt H d rr ns p b) (v : V) : DPut H d (.str "at") v (upd H d (.dK (putK (tkv rr p b) (.inr "at") v))) := DPut.k (k := .inr "at") h.ob (by show 3 < sizeLine; decide)
def sp__law_byte : Sp := fun vs H Q _ => ∃ (d rr : Addr) (ns : List Int) (p : Nat) (b : Option Nat) (lo hi : Int), vs = [.ref d, .int lo, .int hi] ∧ TAt H d rr ns p b ∧
  ∀ x p' b' H', ExB d H H' → TAt H' d rr ns p' b' → ((∃ e, b = some e ∧ b' = some e) ∨ (b = none ∧ rbyte ns p lo hi = .ok (x, p') ∧ b' = none) ∨ (b = none ∧ x = 0 ∧ ∃ e, rbyte ns p lo hi = .error e ∧ b' = some e)) → Q (.int x) H'
section
variable {P : Program} {w : World} {K : PySem.W.Frag} {mg : Str → Option Value} {base : Heap} {a : Ad}
theorem ok__law_check (A : All P w K mg base a) : FnOk P w K mg base (L2.CX P w) 1 a.f__law_check a.fd__law_check ["row"] sp_check_of := by
  have T := A.T
  refine A.F__law_check.okX sc__law_check (fun vs H Q E h => by obtain ⟨p, ns, rfl, _⟩ := h; rfl) (fun cdv AA outer s H vs Q E hr h => ?_)
  refine ⟨_, (pss_one (ps_ret (pe_op op_mod (pe_callTy call_int1 (by rfl) T.m_int (by decide +kernel) (pa_cons (pe_callB (cr_sum rfl) (by rfl) T.m_sum (by decide +kernel) (pa_cons (pe_lc (own := [("at", 1), ("one", 2)]) rfl sc__law_check.nd (pi_enumA (by rfl) T.m_enumerate (pa_cons (pv 0) pa_nil)) (blkOk_by (own := [("at", 1), ("one", 2)]) (N := N__law_check) (sc := defScope s__law_check) (by decide +kernel)) (fun _ _ _ _ _ => (pg_tup2 (K := K) (i := 1) (j := 2) rfl rfl sc__law_check.nd rfl rfl (Or.inl rfl) (Or.inl rfl) (by first | exact Or.inl rfl | exact Or.inr rfl) (by first | exact Or.inl rfl | exact Or.inr rfl))) (fun _ _ _ _ _ => pts_nil) (fun _ _ _ _ _ => (pe_op op_mul (pe_op op_add (pv 1) pe_int) (pv 2)))) pa_nil)) pa_nil)) pe_int))), ?_⟩
  obtain ⟨p, ns, rfl, hd, hl, q⟩ := h
  have hn : (ns.map V.int).length < 100000 := by rw [List.length_map]; omega
  have hw : (List.range (ns.map V.int).length).map (fun i => V.int (wgt ns i)) = (wl ns).map V.int := by
    rw [List.length_map, wl, List.map_map]
    rfl
  have fin : ∀ D H', Ex H H' → H' D = some (.lst ((List.range (ns.map V.int).length).map fun i => V.int (wgt ns i))) → SqL K H' D ((wl ns).map V.int) := fun D H' e h' => .inl (.inl (by rw [← hw]; exact h'))
  refine ⟨_, rfl, p, ns.map V.int, rfl, ?_⟩
  have elt : ∀ (i : Nat) (x : V) (H1 H' : Hp), i < (ns.map V.int).length → YPair (fun i => some (.int (i : Nat))) (fun i => (ns.map V.int)[i]?) i H1 x H' →
      ∃ σ2, Ex H1 H' ∧ (∀ R : L2.St → Hp → Prop, R σ2 H' → gTup K 2 (gCons (gName 1) (gCons (gName 2) gNil)) x (wipe (L2.start N__law_check [V.ref p]) [1, 2]) H' R) ∧ wipe σ2 [1, 2] = wipe (L2.start N__law_check [V.ref p]) [1, 2] ∧
        ∀ R : V → Hp → Prop, (∀ H4, Ex H' H4 → R (.int (wgt ns i)) H4) → tOp (rI CMul fun i j => V.int (i * j)) (tOp (rI0 fun i j => V.int (i + j)) (tVar 1) (tC (V.int 1))) (tVar 2) σ2 H' R := by
    intro i x H1 H' hi y
    rw [List.length_map] at hi
    obtain ⟨u, v, e1, e2, e, hg⟩ := y_pair (K := K) (p := 1) (q := 2) y
    cases e1
    rw [List.getElem?_map] at e2
    obtain ⟨z, e3, rfl⟩ := Option.map_eq_some_iff.mp e2
    refine ⟨_, e, fun R r => hg _ R r, rfl, fun R r => ⟨_, rfl, _, _, rfl, rfl, _, rfl, _, _, rfl, rfl, ?_, ?_⟩⟩
    · exact .inl ⟨by show -(2 ^ 64) < (i : Int) + 1; omega, by show (i : Int) + 1 < 2 ^ 64; omega⟩
    · have z1 := r H' (Ex.rf _)
      have z2 : wgt ns i = ((i : Int) + 1) * z := by simp [wgt, List.getD, e3]
      rw [z2] at z1
      exact z1
  rcases hd with hd | hd
  · refine .inl ⟨.inl (.inl hd), fun D hD => lc_m (walk_enum (K := K) (a := p)) (fun i => .int (wgt ns i)) hD hn (fun H' e => .inl (.inl (e _ _ hd))) (fun i x H1 H' hi e y => elt i x H1 H' hi y) fun i H' st e h' => ⟨st, D, wl ns, rfl, fin D H' e h', .inl ⟨_, rfl, _, _, rfl, rfl, (show (0 : Int) < 256 by decide), q H' e⟩⟩⟩
  · refine .inr ⟨.inl (.inl hd), fun D hD => lc_m (walk_enumT (K := K) (a := p)) (fun i => .int (wgt ns i)) hD hn (fun H' e => .inl (.inl (e _ _ hd))) (fun i x H1 H' hi e y => elt i x H1 H' hi y) fun i H' st e h' => ⟨st, D, wl ns, rfl, fin D H' e h', .inl ⟨_, rfl, _, _, rfl, rfl, (show (0 : Int) < 256 by decide), q H' e⟩⟩⟩
theorem ok__law_byte (A : All P w K mg base a) : FnOk P w K mg base (L2.CX P w) 1 a.f__law_byte a.fd__law_byte ["told", "least", "most"] sp__law_byte := by
  have T := A.T
  refine A.F__law_byte.okX sc__law_byte (fun vs H Q E h => by obtain ⟨d, rr, ns, p, b, lo, hi, rfl, _⟩ := h; rfl) (fun cdv AA outer s H vs Q E hr h => ?_)
  refine ⟨_, (pss_cons (ps_set (i := 3) sc__law_byte.nd rfl (Or.inl rfl) (pe_dget (hu_of hr) (pv 0) pe_str (fun _ _ => rfl)))
      (pss_cons (ps_if (pt_cmpR op_notN (pe_dget (hu_of hr) (pv 0) pe_str (fun _ _ => rfl)) pe_non (nomark _)) (pss_one (ps_ret pe_int)) pss_nil)
      (pss_cons (ps_if (PW.pt (pw_or (pt_cmpR op_ge (pv 3) (pe_callB call_len_seq (by rfl) T.m_len PySem.boot_len (pa_cons (pe_dget (hu_of hr) (pv 0) pe_str (fun _ _ => rfl)) pa_nil)) (nomark _)) (pw_or1 (pt_not (pt_chain op_le op_le (pv 1) (pe_ix ix_list (pe_dget (hu_of hr) (pv 0) pe_str (fun _ _ => rfl)) (pv 3) (fun _ _ => rfl)) (pv 2)))))) (pss_cons (ps_dput (hu_of hr) (pv 0) pe_str (pv 3) rfl)
      (pss_one (ps_ret pe_int))) pss_nil)
      (pss_cons (ps_dput (hu_of hr) (pv 0) pe_str (pe_op op_add (pv 3) pe_int) rfl)
      (pss_one (ps_ret (pe_ix ix_list (pe_dget (hu_of hr) (pv 0) pe_str (fun _ _ => rfl)) (pv 3) (fun _ _ => rfl)))))))), ?_⟩
  obtain ⟨d, rr, ns, p, b, lo, hi, rfl, U, q⟩ := h
  have q1 : ∀ e, b = some e → Q (.int 0) H := fun e he => q 0 p b H (ExB.of (Ex.rf H)) U (.inl ⟨e, he, he⟩)
  have q2 : b = none → (∀ x p', rbyte ns p lo hi = .ok (x, p') → ∀ H', ExB d H H' → TAt H' d rr ns p' none → Q (.int x) H') ∧ ∀ e, rbyte ns p lo hi = .error e → ∀ H', ExB d H H' → TAt H' d rr ns p (some e) → Q (.int 0) H' :=
    fun hb => ⟨fun x p' hx H' e' U' => q x p' none H' e' U' (.inr (.inl ⟨hb, hx, rfl⟩)), fun e he H' e' U' => q 0 p (some e) H' e' U' (.inr (.inr ⟨hb, rfl, e, he, rfl⟩))⟩
  refine ⟨_, rfl, d, _, rfl, U.at_, _, rfl, d, _, rfl, U.bad, rfl, _, rfl, ite2 (fun c => ?_) (fun c => ?_)⟩
  · cases b with
    | none => exact nomatch (show false = true from c)
    | some e => exact q1 e rfl
  · have hb : b = none := by
      cases b with
      | none => rfl
      | some e => exact absurd rfl c
    subst hb
    obtain ⟨q3, q4⟩ := q2 rfl
    have hle := U.le
    refine ⟨_, rfl, _, rfl, d, _, rfl, U.row, rr, _, rfl, .inl (.inl (.inl U.tp)), _, _, rfl, rfl, _, rfl, ite2 (fun c => ?_) (fun c => ?_)⟩
    · have hp : p = ns.length := by
        have := of_decide_eq_true c
        rw [List.length_map] at this
        omega
      have he : rbyte ns p lo hi = .error p := by
        unfold rbyte
        rw [List.getElem?_eq_none (by omega)]
      exact ite2 (fun _ => ⟨_, rfl, _, rfl, d, _, rfl, U.pbad _, q4 p he _ ExB.put (U.put rfl U.le)⟩) fun k => absurd rfl k
    · have hp : p < ns.length := by
        have := Int.not_le.mp fun z => c (decide_eq_true z)
        rw [List.length_map] at this
        omega
      have hg : ns[p]? = some ns[p] := List.getElem?_eq_getElem hp
      have hx : atI (ns.map V.int) (p : Int) = some (.int ns[p]) := atI_nat (by rw [List.getElem?_map, hg]; rfl)
      refine ⟨_, rfl, _, rfl, d, _, rfl, U.row, _, rfl, rr, _, _, _, rfl, rfl, .inl (.inl U.tp), hx, _, _, rfl, rfl, _, rfl, ite2 (fun c1 => ?_) (fun c1 => ?_)⟩
      · have c1' : lo ≤ ns[p] := of_decide_eq_true c1
        refine ⟨_, rfl, _, _, rfl, rfl, _, rfl, ite2 (fun c2 => ?_) (fun c2 => ?_)⟩
        · have c2' : ¬ ns[p] ≤ hi := by simpa using c2
          exact ⟨_, rfl, _, rfl, d, _, rfl, U.pbad _, q4 p (by unfold rbyte; rw [hg]; exact if_neg fun k => c2' k.2) _ ExB.put (U.put rfl U.le)⟩
        · have c2' : ns[p] ≤ hi := by simpa using c2
          have ok : rbyte ns p lo hi = .ok (ns[p], p + 1) := by unfold rbyte; rw [hg]; exact if_pos ⟨c1', c2'⟩
          have U2 : TAt (upd H d (.dK (putK (tkv rr p none) (.inr "at") (.int ((p : Int) + 1))))) d rr ns (p + 1) none := U.put rfl hp
          exact ⟨_, rfl, _, _, rfl, rfl, _, rfl, d, _, rfl, U.pat _, _, rfl, d, _, rfl, U2.row, _, rfl, rr, _, _, _, rfl, rfl, .inl (.inl U2.tp), hx, q3 _ _ ok _ ExB.put U2⟩
      · have c1' : ¬ lo ≤ ns[p] := fun k => c1 (decide_eq_true k)
        exact ⟨_, rfl, ite2 (fun _ => ⟨_, rfl, _, rfl, d, _, rfl, U.pbad _, q4 p (by unfold rbyte; rw [hg]; exact if_neg fun k => c1' k.1) _ ExB.put (U.put rfl U.le)⟩) fun k => absurd rfl k⟩
end
end K87

set_option Elab.async false
set_option linter.all false
set_option maxRecDepth 100000
set_option maxHeartbeats 4000000
namespace K87
open PySem PySem.Spec PyProof.Rows L2
def sp__law_read_sevens : Sp := fun vs H Q _ => ∃ (d rr : Addr) (ns : List Int) (p : Nat) (b : Option Nat) (most : Int), vs = [.ref d, .int most] ∧ TAt H d rr ns p b ∧ 0 ≤ most ∧ most ≤ 1000000 ∧
  ∀ x p' b' H', ExB d H H' → TAt H' d rr ns p' b' → ((∃ e, b = some e ∧ b' = some e) ∨ (b = none ∧ rnum ns most (ns.length + 1) p 0 1 = .ok (x, p') ∧ b' = none) ∨ (b = none ∧ ∃ e, rnum ns most (ns.length + 1) p 0 1 = .error e ∧ b' = some e)) → Q (.int x) H'
def sp__law_read_end : Sp := fun vs H Q _ => ∃ (d rr : Addr) (ns : List Int) (p : Nat) (b : Option Nat), vs = [.ref d] ∧ TAt H d rr ns p b ∧
  ∀ p' b' H', ExB d H H' → TAt H' d rr ns p' b' → ((∃ e, b = some e ∧ b' = some e) ∨ (b = none ∧ rend ns p = .ok () ∧ b' = none) ∨ (b = none ∧ ∃ e, rend ns p = .error e ∧ b' = some e)) → Q .non H'
def WLs (H : Hp) (d rr : Addr) (ns : List Int) (most : Int) (R : Except Nat (Int × Nat)) (m : Nat) (σ : L2.St) (H1 : Hp) : Prop :=
  ∃ (fuel p1 : Nat) (found unit byte : Int), σ = [some (.ref d), some (.int most), some (.int found), some (.int unit), some (.int byte)] ∧ ExB d H H1 ∧
    ((128 ≤ byte ∧ TAt H1 d rr ns p1 none ∧ 0 ≤ found ∧ found ≤ most ∧ 1 ≤ unit ∧ m = fuel + 1 ∧ ns.length < fuel + p1 ∧ unit ≤ 1000000 ∧ R = rnum ns most fuel p1 found unit) ∨
     (byte < 128 ∧ TAt H1 d rr ns p1 none ∧ R = .ok (found, p1)) ∨ (∃ e, TAt H1 d rr ns p1 (some e) ∧ R = .error e))
section
variable {P : Program} {w : World} {K : PySem.W.Frag} {mg : Str → Option Value} {base : Heap} {a : Ad}
theorem ok__law_sevens (A : All P w K mg base a) : FnOk P w K mg base (L2.CX P w) 1 a.f__law_sevens a.fd__law_sevens ["number"] sp_number_row := by
  have T := A.T
  refine A.F__law_sevens.okX sc__law_sevens (fun vs H Q E h => by obtain ⟨p, rfl, _⟩ := h; rfl) (fun cdv AA outer s H vs Q E hr h => ?_)
  refine ⟨_, (pss_cons (ps_set (i := 1) sc__law_sevens.nd rfl (Or.inl rfl) (pe_lst pa_nil))
      (pss_cons (ps_while (passes_of rfl) (pt_cmpR op_ge (pv 0) pe_int (nomark _)) (pss_one (ps_par (i := 1) (j := 0) rfl sc__law_sevens.nd rfl rfl (by decide) rfl rfl (pa_cons (pe_op op_cat (pv 1) (pe_lst (pa_cons (pe_op op_add (pe_op op_mod (pe_callTy call_int1 (by rfl) T.m_int (by decide +kernel) (pa_cons (pv 0) pa_nil)) pe_int) pe_int) pa_nil))) (pa_cons (pe_op op_fdiv (pe_callTy call_int1 (by rfl) T.m_int (by decide +kernel) (pa_cons (pv 0) pa_nil)) pe_int) pa_nil)) (by rfl))))
      (pss_one (ps_ret (pe_op op_cat (pv 1) (pe_lst (pa_cons (pv 0) pa_nil))))))), ?_⟩
  obtain ⟨n, rfl, hn, q⟩ := h
  refine ⟨Nat.zero_le _, fun l0 hl0 => ?_⟩
  refine ⟨fun m σ H1 => ∃ (acc : List Int) (k : Nat) (l : Addr), σ = [some (.int (k : Int)), some (.ref l)] ∧ m = k ∧ acc ++ sevens k = sevens n ∧ Ex H H1 ∧ H l = none ∧ H1 l = some (.lst (acc.map V.int)) ∧ acc.length + k ≤ n, ⟨n, [], n, l0, rfl, rfl, rfl, (Ex.rf H).nw hl0, hl0, upd_same, by simp⟩, fun m σ H1 hW => ?_⟩
  obtain ⟨acc, k, l, rfl, rfl, h1, h2, hl, h3, h4⟩ := hW
  refine ⟨_, rfl, _, _, rfl, rfl, _, rfl, ite2 (fun c => ?_) (fun c => ?_)⟩
  · have hk : 128 ≤ m := by have := of_decide_eq_true c; omega
    have hs : sevens m = ((m % 128 + 128 : Nat) : Int) :: sevens (m / 128) := by rw [sevens, if_neg (by omega)]
    refine ⟨fun σ' H' => ∃ l', σ' = [some (.int ((m / 128 : Nat) : Int)), some (.ref l')] ∧ Ex H H' ∧ H l' = none ∧ H' l' = some (.lst ((acc ++ [((m % 128 + 128 : Nat) : Int)]).map V.int)), fun σ' H' hN => ?_, ?_⟩
    · obtain ⟨l', rfl, e1, e0, e2⟩ := hN
      refine ⟨m / 128, by omega, _, _, l', rfl, rfl, ?_, e1, e0, e2, ?_⟩
      · rw [List.append_assoc, List.singleton_append, ← hs]
        exact h1
      · rw [List.length_append, List.length_singleton]
        omega
    · refine ⟨.ref l, rfl, _, rfl, .inl ⟨_, rfl, _, _, rfl, rfl, (show (0 : Int) < 128 by decide), _, _, rfl, rfl, by show 1 ≤ sizeLine; decide, fun t nt => ⟨l, t, _, _, rfl, rfl, ((Ex.rf H1).nw nt) _ _ h3, upd_same, ?_, fun l' nl' => ⟨_, rfl, .inl ⟨_, rfl, _, _, rfl, rfl, ⟨by decide, by decide⟩, _, _, rfl, l', rfl, (h2.nw nt).nw nl', (h2.nw nt).no nl', ?_⟩⟩⟩⟩⟩
      · rw [List.length_map]
        exact Nat.le_trans (by show acc.length + 1 ≤ 1000001; omega) (by decide : 1000001 ≤ sizeLine)
      · rw [upd_same, List.map_append]
        rfl
  · have hk : m < 128 := by
      have := Int.not_le.mp fun z => c (decide_eq_true z)
      omega
    have hs : sevens m = [(m : Int)] := by rw [sevens, if_pos hk]
    rw [hs] at h1
    refine ⟨.ref l, rfl, _, rfl, by show 1 ≤ sizeLine; decide, fun t nt => ⟨l, t, _, _, rfl, rfl, ((Ex.rf H1).nw nt) _ _ h3, upd_same, ?_, fun d hd => q _ d ((h2.nw nt).nw hd) ((h2.nw nt).no hd) ?_⟩⟩
    · rw [List.length_map]
      exact Nat.le_trans (by show acc.length + 1 ≤ 1000001; omega) (by decide : 1000001 ≤ sizeLine)
    · rw [upd_same, ← h1, List.map_append]
      rfl
theorem ok__law_read_sevens (A : All P w K mg base a) : FnOk P w K mg base (L2.CX P w) 2 a.f__law_read_sevens a.fd__law_read_sevens ["told", "most"] sp__law_read_sevens := by
  have T := A.T
  refine A.F__law_read_sevens.okX sc__law_read_sevens (fun vs H Q E h => by obtain ⟨d, rr, ns, p, b, most, rfl, _⟩ := h; rfl) (fun cdv AA outer s H vs Q E hr h => ?_)
  refine ⟨_, (pss_cons (ps_asg (pe_tup (pa_cons pe_int (pa_cons pe_int (pa_cons pe_int pa_nil)))) (pg_tup3 (K := K) (i := 2) (j := 3) (l := 4) rfl rfl sc__law_read_sevens.nd rfl rfl rfl (Or.inl rfl) (Or.inl rfl) (Or.inl rfl) (by first | exact Or.inl rfl | exact Or.inr rfl) (by first | exact Or.inl rfl | exact Or.inr rfl) (by first | exact Or.inl rfl | exact Or.inr rfl)))
      (pss_cons (ps_while (passes_of rfl) (PW.pt (pw_and (pt_cmpR op_ge (pv 4) pe_int (nomark _)) (pw_and1 (pt_cmpR op_isN (pe_dget (hu_of hr) (pv 0) pe_str (fun _ _ => rfl)) pe_non (nomark _))))) (pss_cons (ps_set (i := 4) sc__law_read_sevens.nd rfl (Or.inl rfl) (pe_call (ok__law_byte A) (hr.mono (by decide)) (by rfl) A.g__law_byte A.k__law_byte A.b__law_byte .nil (passes_own rfl rfl rfl rfl) (pa_cons (pv 0) (pa_cons (pe_callTy call_int1 (by rfl) T.m_int (by decide +kernel) (pa_cons (pe_cmpR op_gt (pv 3) pe_int (nomark _)) pa_nil)) (pa_cons (pe_callB (call_min2 rfl) (by rfl) T.m_min (by decide +kernel) (pa_cons pe_int (pa_cons (pe_op op_fdiv (pe_callTy call_int1 (by rfl) T.m_int (by decide +kernel) (pa_cons (pe_op op_sub (pv 1) (pv 2)) pa_nil)) (pv 3)) pa_nil))) pa_nil)))))
      (pss_one (ps_par (i := 2) (j := 3) rfl sc__law_read_sevens.nd rfl rfl (by decide) rfl rfl (pa_cons (pe_op op_add (pv 2) (pe_op op_mul (pe_op op_mod (pe_callTy call_int1 (by rfl) T.m_int (by decide +kernel) (pa_cons (pv 4) pa_nil)) pe_int) (pv 3))) (pa_cons (pe_op op_mul (pv 3) pe_int) pa_nil)) (by rfl)))))
      (pss_one (ps_ret (pv 2))))), ?_⟩
  obtain ⟨d, rr, ns, p, b, most, rfl, U, hm0, hm1, q0⟩ := h
  obtain ⟨R, h, q, z⟩ : ∃ R : Except Nat (Int × Nat), ((∃ e, R = .error e ∧ TAt H d rr ns p (some e)) ∨ (R = rnum ns most (ns.length + 1) p 0 1 ∧ TAt H d rr ns p none)) ∧
      (∀ x p', R = .ok (x, p') → ∀ H', ExB d H H' → TAt H' d rr ns p' none → Q (.int x) H') ∧ ∀ e, R = .error e → ∀ x p' H', ExB d H H' → TAt H' d rr ns p' (some e) → Q (.int x) H' := by
    cases b with
    | none => exact ⟨_, .inr ⟨rfl, U⟩, fun x p' hx H' e' U' => q0 x p' none H' e' U' (.inr (.inl ⟨rfl, hx, rfl⟩)), fun e he x p' H' e' U' => q0 x p' (some e) H' e' U' (.inr (.inr ⟨rfl, e, he, rfl⟩))⟩
    | some e => exact ⟨.error e, .inl ⟨e, rfl, U⟩, (fun _ _ h => nomatch h), fun e1 he x p' H' e' U' => q0 x p' (some e1) H' e' U' (.inl ⟨e, rfl, by cases he; rfl⟩)⟩
  refine ⟨by show 3 ≤ sizeLine; decide, fun tt nt => ⟨tt, _, rfl, .inl (.inl upd_same), rfl, _, _, rfl, _, _, rfl, _, _, rfl, rfl, ?_⟩⟩
  refine ⟨WLs H d rr ns most R, ⟨ns.length + 2, ns.length + 1, p, 0, 1, 128, rfl, (ExB.of (Ex.rf H)).nw nt, ?_⟩, fun m σ H1 hW => ?_⟩
  · rcases h with ⟨e, h1, h2⟩ | ⟨h1, h2⟩
    · exact .inr (.inr ⟨e, h2.ex ((Ex.rf H).nw nt), h1⟩)
    · exact .inl ⟨by omega, h2.ex ((Ex.rf H).nw nt), by omega, hm0, by omega, rfl, by omega, by omega, h1⟩
  obtain ⟨fuel, p1, found, unit, byte, rfl, eB, hW⟩ := hW
  refine ⟨_, rfl, _, _, rfl, rfl, _, rfl, ?_⟩
  rcases hW with ⟨hb, U, hf0, hf1, hu1, rfl, hlt, hu2, hR⟩ | ⟨hb, U, hR⟩ | ⟨e, U, hR⟩
  · refine ite2 (fun c => ?_) (fun c => absurd (decide_eq_true hb) c)
    refine ⟨_, rfl, d, _, rfl, U.bad, rfl, _, rfl, ite2 (fun c => ?_) (fun c => absurd rfl c)⟩
    obtain ⟨f, rfl⟩ : ∃ f, fuel = f + 1 := ⟨fuel - 1, by have := U.le; omega⟩
    have hd : CDiv (most - found) unit := ⟨by omega, by omega⟩
    have hL : (if decide (1 < unit) = true then (1 : Int) else 0) = if unit > 1 then 1 else 0 := by
      by_cases h : 1 < unit
      · rw [if_pos (decide_eq_true h), if_pos h]
      · rw [if_neg (fun k => h (of_decide_eq_true k)), if_neg h]
    have hM : (if (most - found) / unit < 255 then (most - found) / unit else 255) = min 255 ((most - found) / unit) := min_if _ _
    refine ⟨fun σ' H' => ∃ m', m' < f + 1 + 1 ∧ WLs H d rr ns most R m' σ' H', fun _ _ h => h, ?_⟩
    refine ⟨_, rfl, _, rfl, _, _, rfl, rfl, .inr ⟨_, rfl, _, rfl, _, rfl, _, _, rfl, rfl, .inl ⟨_, rfl, _, rfl, _, _, rfl, rfl, hd, _, _, rfl, d, rr, ns, p1, none, _, _, rfl, U, fun b p' b' H3 e3 U3 hs => ?_⟩⟩⟩
    rw [hL, hM] at hs
    rcases hs with ⟨e, hs, _⟩ | ⟨_, hb, rfl⟩ | ⟨_, rfl, e, he, rfl⟩
    · cases hs
    · have hb := hb
      have hg := rnum_go (f := f) rfl rfl hb
      obtain ⟨_, hb1, hb2, hp'⟩ := rbyte_ok hb
      have hb0 : 0 ≤ b := by
        split at hb1 <;> omega
      obtain ⟨s1, s2, s3⟩ := step_bound hf0 hf1 hu1 hb0 hb2
      refine ⟨_, rfl, _, rfl, .inl ⟨_, rfl, _, _, rfl, rfl, (show (0 : Int) < 128 by decide), _, rfl, _, _, rfl, rfl, .inl ⟨by omega, by omega⟩, _, _, rfl, rfl, _, rfl, _, _, rfl, rfl, .inr ⟨by decide, by decide⟩, _, _, rfl, ?_⟩⟩
      by_cases h128 : 128 ≤ b
      · refine ⟨f + 1, by omega, f, p', _, _, b, rfl, eB.tr e3, .inl ⟨h128, U3, s1, s2, by omega, rfl, by omega, ?_, ?_⟩⟩
        · have := s3 h128
          omega
        · rw [hR, hg, if_pos h128]
      · exact ⟨0, by omega, 0, p', _, _, b, rfl, eB.tr e3, .inr (.inl ⟨by omega, U3, by rw [hR, hg, if_neg h128]⟩)⟩
    · refine ⟨_, rfl, _, rfl, .inl ⟨_, rfl, _, _, rfl, rfl, (show (0 : Int) < 128 by decide), _, rfl, _, _, rfl, rfl, .inl ⟨by decide, by decide⟩, _, _, rfl, rfl, _, rfl, _, _, rfl, rfl, .inr ⟨by decide, by decide⟩, _, _, rfl, ?_⟩⟩
      exact ⟨0, by omega, 0, p', _, _, 0, rfl, eB.tr e3, .inr (.inr ⟨e, U3, by rw [hR, rnum_err rfl rfl he]⟩)⟩
  · refine ite2 (fun c => absurd (of_decide_eq_true c) (by omega)) (fun c => ?_)
    exact ⟨_, rfl, q _ _ hR _ eB U⟩
  · refine ite2 (fun c => ?_) (fun c => ⟨_, rfl, z _ hR _ _ _ eB U⟩)
    exact ⟨_, rfl, d, _, rfl, U.bad, rfl, _, rfl, ite2 (fun c => nomatch (show false = true from c)) (fun c => ⟨_, rfl, z _ hR _ _ _ eB U⟩)⟩
theorem ok__law_read_end (A : All P w K mg base a) : FnOk P w K mg base (L2.CX P w) 2 a.f__law_read_end a.fd__law_read_end ["told"] sp__law_read_end := by
  have T := A.T
  refine A.F__law_read_end.okX sc__law_read_end (fun vs H Q E h => by obtain ⟨d, rr, ns, p, b, rfl, _⟩ := h; rfl) (fun cdv AA outer s H vs Q E hr h => ?_)
  refine ⟨_, (pss_cons (ps_set (i := 1) sc__law_read_end.nd rfl (Or.inl rfl) (pe_call (ok__law_check A) (hr.mono (by decide)) (by rfl) A.g__law_check A.k__law_check A.b__law_check .nil (passes_own rfl rfl rfl rfl) (pa_cons (pe_slice sl_list (pe_dget (hu_of hr) (pv 0) pe_str (fun _ _ => rfl)) po_none (po_some (pe_dget (hu_of hr) (pv 0) pe_str (fun _ _ => rfl)))) pa_nil)))
      (pss_cons (ps_expr (pe_call (ok__law_byte A) (hr.mono (by decide)) (by rfl) A.g__law_byte A.k__law_byte A.b__law_byte .nil (passes_own rfl rfl rfl rfl) (pa_cons (pv 0) (pa_cons (pv 1) (pa_cons (pv 1) pa_nil)))))
      (pss_one (ps_if (PW.pt (pw_and (pt_cmpR op_isN (pe_dget (hu_of hr) (pv 0) pe_str (fun _ _ => rfl)) pe_non (nomark _)) (pw_and1 (pt_cmpR op_lt (pe_dget (hu_of hr) (pv 0) pe_str (fun _ _ => rfl)) (pe_callB call_len_seq (by rfl) T.m_len PySem.boot_len (pa_cons (pe_dget (hu_of hr) (pv 0) pe_str (fun _ _ => rfl)) pa_nil)) (nomark _))))) (pss_one (ps_dput (hu_of hr) (pv 0) pe_str (pe_dget (hu_of hr) (pv 0) pe_str (fun _ _ => rfl)) rfl)) pss_nil)))), ?_⟩
  obtain ⟨d, rr, ns, p, b, rfl, U, q⟩ := h
  refine ⟨_, rfl, d, _, rfl, U.row, _, rfl, d, _, rfl, U.at_, _, rfl, rr, _, rfl, .inl (.inl U.tp), fun c nc => ?_⟩
  have hc : cutV (ns.map V.int) none (some (p : Int)) = (ns.take p).map V.int := by rw [cut_to, List.map_take]
  refine ⟨c, ns.take p, rfl, .inl (by rw [upd_same, hc]), by rw [List.length_take]; have := U.ln; omega, fun H2 e2 => ?_⟩
  have e0 : Ex H H2 := ((Ex.rf H).nw nc).tr e2
  have U2 := U.ex e0
  refine ⟨_, rfl, _, rfl, _, rfl, d, rr, ns, p, b, _, _, rfl, U2, fun x p' b' H3 e3 U3 hs => ?_⟩
  have e13 : ExB d H H3 := (ExB.of e0).tr e3
  have hs : (∃ e, b = some e ∧ b' = some e) ∨ (b = none ∧ rbyte ns p (check (ns.take p)) (check (ns.take p)) = .ok (x, p') ∧ b' = none) ∨ (b = none ∧ x = 0 ∧ ∃ e, rbyte ns p (check (ns.take p)) (check (ns.take p)) = .error e ∧ b' = some e) := hs
  refine ⟨_, rfl, d, _, rfl, U3.bad, rfl, _, rfl, ?_⟩
  rcases hs with ⟨e, h1, rfl⟩ | ⟨h1, hx, rfl⟩ | ⟨h1, _, e, he, rfl⟩
  · exact ite2 (fun c => nomatch (show false = true from c)) (fun c => q _ _ _ e13 U3 (.inl ⟨e, h1, rfl⟩))
  · refine ite2 (fun c => ?_) (fun c => absurd rfl c)
    refine ⟨_, rfl, d, _, rfl, U3.at_, _, rfl, d, _, rfl, U3.row, rr, _, rfl, .inl (.inl (.inl U3.tp)), _, _, rfl, rfl, _, rfl, ite2 (fun c => ?_) (fun c => ?_)⟩
    · have hlt : p' < ns.length := by
        have := of_decide_eq_true c
        rw [List.length_map] at this
        omega
      exact ⟨_, rfl, d, _, rfl, U3.at_, _, rfl, d, _, rfl, U3.pbad _, q p' (some p') _ (e13.tr ExB.put) (U3.put rfl U3.le) (.inr (.inr ⟨h1, p', by unfold rend; rw [hx]; exact if_pos hlt, rfl⟩))⟩
    · have hge : ¬ p' < ns.length := fun k => c (decide_eq_true (by rw [List.length_map]; omega))
      exact q p' none _ e13 U3 (.inr (.inl ⟨h1, by unfold rend; rw [hx]; exact if_neg hge, rfl⟩))
  · exact ite2 (fun c => nomatch (show false = true from c)) (fun c => q _ _ _ e13 U3 (.inr (.inr ⟨h1, e, by unfold rend; rw [he], rfl⟩)))
end
end K87

set_option Elab.async false
set_option linter.all false
set_option maxRecDepth 100000
set_option maxHeartbeats 4000000
namespace K87
open PySem PySem.Spec PyProof.Rows L2
def resV : Except Nat (List Int) → V
  | .ok _ => .non
  | .error e => .int (e : Int)
def sp__law_inputs_bad : Sp := fun vs H Q _ => ∃ (rr : Addr) (ns : List Int), vs = [.ref rr] ∧ H rr = some (.lst (ns.map V.int)) ∧ ns.length ≤ 50000 ∧ ∀ H', Ex H H' → Q (resV (readInputs ns)) H'
def fin87 (ns : List Int) : Except Nat (List Int × Nat) → Except Nat (List Int)
  | .error e => .error e
  | .ok (bits, r) => match rend ns r with
    | .error e => .error e
    | .ok _ => .ok bits
theorem read_err1 {ns : List Int} {e : Nat} (h : rbyte ns 0 73 73 = .error e) : readInputs ns = .error e := by unfold readInputs; rw [h]
theorem read_err2 {ns : List Int} {e p1 : Nat} {x : Int} (h : rbyte ns 0 73 73 = .ok (x, p1)) (h2 : rnum ns 5000 (ns.length + 1) p1 0 1 = .error e) : readInputs ns = .error e := by unfold readInputs; rw [h]; dsimp only; rw [h2]
theorem read_go {ns : List Int} {p1 p2 : Nat} {x many : Int} (h : rbyte ns 0 73 73 = .ok (x, p1)) (h2 : rnum ns 5000 (ns.length + 1) p1 0 1 = .ok (many, p2)) : readInputs ns = fin87 ns (rbits ns many.toNat p2) := by
  unfold readInputs; rw [h]; dsimp only; rw [h2]
  dsimp only
  cases rbits ns many.toNat p2 with
  | error e => rfl
  | ok y => rfl
theorem most_at {h : Nat} (h1 : 1 ≤ h) (h8 : h ≤ 8) : atI ([.int 1, .int 3, .int 7, .int 15, .int 31, .int 63, .int 127, .int 255] : List V) ((h : Int) - 1) = some (.int (2 * 2 ^ (h - 1) - 1)) := by
  have : ∀ h : Fin 9, 1 ≤ h.val → ([.int 1, .int 3, .int 7, .int 15, .int 31, .int 63, .int 127, .int 255] : List V)[h.val - 1]? = some (.int (2 * 2 ^ (h.val - 1) - 1)) := by
    intro h hh
    match h with
    | 0 => omega
    | 1 => rfl | 2 => rfl | 3 => rfl | 4 => rfl | 5 => rfl | 6 => rfl | 7 => rfl | 8 => rfl
  have z := this ⟨h, by omega⟩ h1
  rw [show ((h : Int) - 1) = ((h - 1 : Nat) : Int) by omega]
  exact atI_nat z
def WBad (H : Hp) (d rr : Addr) (ns : List Int) (m : Nat) (σ : L2.St) (H' : Hp) : Prop := ∃ (many : Int) (p : Nat) (b : Option Nat) (y3 : Option V), σ = [some (.ref rr), some (.ref d), some (.int many), y3] ∧ ExB d H H' ∧ TAt H' d rr ns p b ∧ m = many.toNat ∧
  ((b = none ∧ ∃ acc, readInputs ns = fin87 ns (preB acc (rbits ns many.toNat p))) ∨ ∃ e, b = some e ∧ readInputs ns = .error e)
section
variable {P : Program} {w : World} {K : PySem.W.Frag} {mg : Str → Option Value} {base : Heap} {a : Ad}
theorem ok__law_inputs_bad (A : All P w K mg base a) : FnOk P w K mg base (L2.CX P w) 3 a.f__law_inputs_bad a.fd__law_inputs_bad ["row"] sp__law_inputs_bad := by
  have T := A.T
  refine A.F__law_inputs_bad.okX sc__law_inputs_bad (fun vs H Q E h => by obtain ⟨rr, ns, rfl, _⟩ := h; rfl) (fun cdv AA outer s H vs Q E hr h => ?_)
  refine ⟨_, (pss_cons (ps_set (i := 1) sc__law_inputs_bad.nd rfl (Or.inl rfl) (pe_disp (pps_cons pe_str (pv 0) (pps_cons pe_str pe_int (pps_cons pe_str pe_non pps_nil))) rfl rfl (by decide) (by decide)))
      (pss_cons (ps_expr (pe_call (ok__law_byte A) (hr.mono (by decide)) (by rfl) A.g__law_byte A.k__law_byte A.b__law_byte .nil (passes_own rfl rfl rfl rfl) (pa_cons (pv 1) (pa_cons pe_int (pa_cons pe_int pa_nil)))))
      (pss_cons (ps_set (i := 2) sc__law_inputs_bad.nd rfl (Or.inl rfl) (pe_call (ok__law_read_sevens A) (hr.mono (by decide)) (by rfl) A.g__law_read_sevens A.k__law_read_sevens A.b__law_read_sevens .nil (passes_own rfl rfl rfl rfl) (pa_cons (pv 1) (pa_cons pe_int pa_nil))))
      (pss_cons (ps_while (passes_of rfl) (PW.pt (pw_and (pt_cmpR op_gt (pv 2) pe_int (nomark _)) (pw_and1 (pt_cmpR op_isN (pe_dget (hu_of hr) (pv 1) pe_str (fun _ _ => rfl)) pe_non (nomark _))))) (pss_cons (ps_set (i := 3) sc__law_inputs_bad.nd rfl (Or.inl rfl) (pe_ix ix_list (pe_lst (pa_cons pe_int (pa_cons pe_int (pa_cons pe_int (pa_cons pe_int (pa_cons pe_int (pa_cons pe_int (pa_cons pe_int (pa_cons pe_int pa_nil))))))))) (pe_op op_sub (pe_callB (call_min2 rfl) (by rfl) T.m_min (by decide +kernel) (pa_cons pe_int (pa_cons (pv 2) pa_nil))) pe_int) (fun _ _ => rfl)))
      (pss_cons (ps_expr (pe_call (ok__law_byte A) (hr.mono (by decide)) (by rfl) A.g__law_byte A.k__law_byte A.b__law_byte .nil (passes_own rfl rfl rfl rfl) (pa_cons (pv 1) (pa_cons pe_int (pa_cons (pv 3) pa_nil)))))
      (pss_one (ps_set (i := 2) sc__law_inputs_bad.nd rfl (Or.inl rfl) (pe_op op_sub (pv 2) pe_int))))))
      (pss_cons (ps_expr (pe_call (ok__law_read_end A) (hr.mono (by decide)) (by rfl) A.g__law_read_end A.k__law_read_end A.b__law_read_end .nil (passes_own rfl rfl rfl rfl) (pa_cons (pv 1) pa_nil)))
      (pss_one (ps_ret (pe_dget (hu_of hr) (pv 1) pe_str (fun _ _ => rfl))))))))), ?_⟩
  obtain ⟨rr, ns, rfl, hrr, hl, q⟩ := h
  refine fun d nd => ⟨_, rfl, upd_same, [(.inr "row", .ref rr), (.inr "at", .int 0), (.inr "bad", .non)], rfl, by show 3 ≤ 15; decide, ?_⟩
  have U0 : TAt (upd (upd H d (.dK [])) d (.dK (mergeK [] [(.inr "row", .ref rr), (.inr "at", .int 0), (.inr "bad", .non)]))) d rr ns 0 none := ⟨upd_same, by rw [upd_ne (ne_of_none hrr nd), upd_ne (ne_of_none hrr nd)]; exact hrr, Nat.zero_le _, hl⟩
  have eX : ∀ H', ExB d (upd (upd H d (.dK [])) d (.dK (mergeK [] [(.inr "row", .ref rr), (.inr "at", .int 0), (.inr "bad", .non)]))) H' → Ex H H' := fun H' e b o hb => e b o (ne_of_none hb nd) (by rw [upd_ne (ne_of_none hb nd), upd_ne (ne_of_none hb nd)]; exact hb)
  refine ⟨_, rfl, d, rr, ns, 0, none, 73, 73, rfl, U0, fun x p1 b1 H1 e1 U1 h1 => ?_⟩
  refine ⟨_, rfl, d, rr, ns, p1, b1, 5000, rfl, U1, by decide, by decide, fun many p2 b2 H2 e2 U2 h2 => ?_⟩
  have hF : (b2 = none ∧ ∃ acc, readInputs ns = fin87 ns (preB acc (rbits ns many.toNat p2))) ∨ ∃ e, b2 = some e ∧ readInputs ns = .error e := by
    rcases h1 with ⟨e, h1, _⟩ | ⟨_, h1, rfl⟩ | ⟨_, _, e, h1, rfl⟩
    · cases h1
    · rcases h2 with ⟨e, h2, _⟩ | ⟨_, h2, rfl⟩ | ⟨_, e, h2, rfl⟩
      · cases h2
      · exact .inl ⟨rfl, [], by rw [preB_nil]; exact read_go h1 h2⟩
      · exact .inr ⟨e, rfl, read_err2 h1 h2⟩
    · rcases h2 with ⟨e', h2, rfl⟩ | ⟨h2, _⟩ | ⟨h2, _⟩
      · cases h2
        exact .inr ⟨e, rfl, read_err1 h1⟩
      · cases h2
      · cases h2
  refine ⟨WBad _ d rr ns, ⟨_, many, p2, b2, _, rfl, e1.tr e2, U2, rfl, hF⟩, fun m σ H3 hW => ?_⟩
  obtain ⟨left, p, b, y3, rfl, e3, U3, rfl, h3⟩ := hW
  have stop : (b = none → left ≤ 0) → tSeq (tDrop (tCall sp__law_read_end [] E (tCons (tVar 1) tNil))) (tRet (tDGet (tVar 1) (tC (.str "bad")))) { nx := fun x H' => Q V.non H', rt := Q } [some (.ref rr), some (.ref d), some (.int left), y3] H3 := by
    intro hs
    refine ⟨_, rfl, d, rr, ns, p, b, rfl, U3, fun p' b' H4 e4 U4 h4 => ⟨_, rfl, d, _, rfl, U4.bad, ?_⟩⟩
    have z := q H4 (eX _ (e3.tr e4))
    have zz : badV b' = resV (readInputs ns) := by
      rcases h3 with ⟨rfl, acc, h3⟩ | ⟨e, rfl, h3⟩
      · have hz : left.toNat = 0 := by
          have := hs rfl
          omega
        rw [hz, rbits_zero] at h3
        rcases h4 with ⟨e, h4, _⟩ | ⟨_, h4, rfl⟩ | ⟨_, e, h4, rfl⟩
        · cases h4
        · rw [h3]
          show V.non = resV (match rend ns p with | .error e => .error e | .ok _ => .ok (acc ++ []))
          rw [h4]
          rfl
        · rw [h3]
          show V.int (e : Int) = resV (match rend ns p with | .error e => .error e | .ok _ => .ok (acc ++ []))
          rw [h4]
          rfl
      · rcases h4 with ⟨e', h4, rfl⟩ | ⟨h4, _⟩ | ⟨h4, _⟩
        · cases h4
          rw [h3]
          rfl
        · cases h4
        · cases h4
    rw [← zz] at z
    exact z
  refine ⟨_, rfl, _, _, rfl, rfl, _, rfl, ite2 (fun c => ?_) (fun c => ?_)⟩
  · have hpos : 0 < left := of_decide_eq_true c
    refine ⟨_, rfl, d, _, rfl, U3.bad, rfl, _, rfl, ite2 (fun c => ?_) (fun c => ?_)⟩
    · have hb : b = none := by
        cases b with
        | none => rfl
        | some e => exact nomatch (show false = true from c)
      subst hb
      obtain ⟨acc, h3⟩ : ∃ acc, readInputs ns = fin87 ns (preB acc (rbits ns left.toNat p)) := by
        rcases h3 with ⟨_, h⟩ | ⟨e, h, _⟩
        · exact h
        · cases h
      refine ⟨fun σ' H' => ∃ m', m' < left.toNat ∧ WBad _ d rr ns m' σ' H', fun _ _ h => h, ?_⟩
      have eh : (if left < 8 then left else 8) = ((min 8 left.toNat : Nat) : Int) := by
        split <;> omega
      refine ⟨by show 8 ≤ sizeLine; decide, fun t nt => ⟨_, rfl, _, _, rfl, ?_⟩⟩
      rw [eh]
      have e4 : Ex H3 (upd H3 t (.lst [.int 1, .int 3, .int 7, .int 15, .int 31, .int 63, .int 127, .int 255])) := (Ex.rf _).nw nt
      refine ⟨_, _, rfl, rfl, t, _, _, _, rfl, rfl, .inl (.inl upd_same), most_at (by omega) (by omega), _, rfl, _, rfl, d, rr, ns, p, none, _, _, rfl, U3.ex e4, fun x p' b' H5 e5 U5 hs => ⟨_, rfl, _, _, rfl, rfl, (left - 8).toNat, by omega, left - 8, p', b', _, rfl, e3.tr ((ExB.of e4).tr e5), U5, rfl, ?_⟩⟩
      have hm : 0 < left.toNat := by omega
      have h8 : (left - 8).toNat = left.toNat - 8 := by omega
      rcases hs with ⟨e, hs, _⟩ | ⟨_, hx, rfl⟩ | ⟨_, _, e, he, rfl⟩
      · cases hs
      · exact .inl ⟨rfl, acc ++ bitsOf (min 8 left.toNat) x, by rw [h3, rbits_go hm hx, preB_app, h8]⟩
      · refine .inr ⟨e, rfl, ?_⟩
        rw [h3, rbits_err hm he]
        rfl
    · exact stop fun hb => by
        rw [hb] at c
        exact absurd rfl c
  · exact stop fun _ => by
      have := fun k => c (decide_eq_true k)
      exact Int.not_lt.mp this
end
end K87

set_option Elab.async false
set_option linter.all false
set_option maxRecDepth 100000
set_option maxHeartbeats 4000000
namespace K87
open PySem PySem.Spec PyProof.Rows L2
def sp__law_inputs_row : Sp := fun vs H Q _ => ∃ (p : Addr) (bits : List Int), vs = [.ref p] ∧ H p = some (.lst (bits.map V.int)) ∧ (∀ b ∈ bits, b = 0 ∨ b = 1) ∧ bits.length ≤ 5000 ∧ ∀ H' l, Ex H H' → H l = none → H' l = some (.lst ((inputsRow bits).map V.int)) → Q (.ref l) H'
def bsum (cs : List Int) (j : Nat) : Int := ((List.range j).map fun i => cs.getD i 0 * units.getD i 0).sum
theorem bsum_succ (cs : List Int) (j : Nat) : bsum cs (j + 1) = bsum cs j + cs.getD j 0 * units.getD j 0 := by
  unfold bsum
  rw [List.range_succ, List.map_append, List.sum_append]
  simp
theorem bsum_all {cs : List Int} (h : cs.length ≤ 8) : chunkByte cs = bsum cs cs.length := by
  unfold chunkByte bsum
  rw [Nat.min_eq_left h]
theorem units_pow {j : Nat} (h : j < 8) : units.getD j 0 = 2 ^ j := by
  have : ∀ j : Fin 8, units.getD j.val 0 = 2 ^ j.val := by decide
  exact this ⟨j, h⟩
def AllB (ns : List Int) : Prop := ∀ n ∈ ns, 0 ≤ n ∧ n ≤ 255
def sp__law_bent_row : Sp := fun vs H Q _ => ∃ (pen rr : Addr) (ns : List Int), vs = [.ref pen, .ref rr] ∧ PenAt H pen ∧ H rr = some (.lst (ns.map V.int)) ∧ rr ≠ pen ∧ ns ≠ [] ∧ ns.length ≤ 6000 ∧ AllB ns ∧
  ∀ H' l ns', ExB pen H H' → PenAt H' pen → H l = none → H' l = some (.lst (ns'.map V.int)) → AllB ns' → ns'.length ≤ ns.length + 2 → Q (.ref l) H'
section
variable {P : Program} {w : World} {K : PySem.W.Frag} {mg : Str → Option Value} {base : Heap} {a : Ad}
theorem ok__law_inputs_row (A : All P w K mg base a) : FnOk P w K mg base (L2.CX P w) 2 a.f__law_inputs_row a.fd__law_inputs_row ["inputs"] sp__law_inputs_row := by
  have T := A.T
  refine A.F__law_inputs_row.okX sc__law_inputs_row (fun vs H Q E h => by obtain ⟨p, bits, rfl, _⟩ := h; rfl) (fun cdv AA outer s H vs Q E hr h => ?_)
  refine ⟨_, (pss_cons (ps_set (i := 1) sc__law_inputs_row.nd rfl (Or.inl rfl) (pe_op op_cat (pe_lst (pa_cons pe_int pa_nil)) (pe_call (ok__law_sevens A) (hr.mono (by decide)) (by rfl) A.g__law_sevens A.k__law_sevens A.b__law_sevens .nil (passes_own rfl rfl rfl rfl) (pa_cons (pe_callB call_len_seq (by rfl) T.m_len PySem.boot_len (pa_cons (pv 0) pa_nil)) pa_nil))))
      (pss_cons (ps_for (passes_of rfl) rfl (pi_range3 (by rfl) T.m_range (pa_cons pe_int (pa_cons (pe_callB call_len_seq (by rfl) T.m_len PySem.boot_len (pa_cons (pv 0) pa_nil)) (pa_cons pe_int pa_nil)))) (pg_name (i := 2) sc__law_inputs_row.nd rfl (Or.inl rfl)) (pss_cons (ps_asg (pe_tup (pa_cons pe_int (pa_cons pe_int pa_nil))) (pg_tup2 (K := K) (i := 3) (j := 4) rfl rfl sc__law_inputs_row.nd rfl rfl (Or.inl rfl) (Or.inl rfl) (by first | exact Or.inl rfl | exact Or.inr rfl) (by first | exact Or.inl rfl | exact Or.inr rfl)))
      (pss_cons (ps_for (passes_of rfl) rfl (pi_list (pe_slice sl_list (pv 0) (po_some (pv 2)) (po_some (pe_op op_add (pv 2) pe_int)))) (pg_name (i := 5) sc__law_inputs_row.nd rfl (Or.inl rfl)) (pss_one (ps_par (i := 3) (j := 4) rfl sc__law_inputs_row.nd rfl rfl (by decide) rfl rfl (pa_cons (pe_op op_add (pv 3) (pe_op op_mul (pv 5) (pv 4))) (pa_cons (pe_op op_mul (pv 4) pe_int) pa_nil)) (by rfl))))
      (pss_one (ps_expr (pe_bm PySem.F.plainAttrs_list PySem.F.slot_list_append PySem.F.type_list_append mt_append (pv 1) (pa_cons (pv 3) pa_nil)))))))
      (pss_one (ps_ret (pv 1))))), ?_⟩
  obtain ⟨p, bits, rfl, hp, h01, hlen, q⟩ := h
  have hlV : ((bits.map V.int).length : Int) = (bits.length : Int) := by rw [List.length_map]
  refine ⟨by show 1 ≤ sizeLine; decide, fun l1 n1 => ?_⟩
  have e1 : Ex H (upd H l1 (.lst [.int 73])) := (Ex.rf H).nw n1
  refine ⟨.ref p, rfl, p, bits.map V.int, rfl, .inl (.inl (.inl (e1 _ _ hp))), bits.length, by rw [List.length_map]; rfl, by omega, fun H2 l e2 nl hl2 => ?_⟩
  have hsz : (sevens bits.length).length ≤ 5001 := Nat.le_trans (sevens_len _) (by omega)
  refine ⟨l1, l, _, _, rfl, rfl, e2 _ _ upd_same, hl2, ?_, fun r nr => ?_⟩
  · rw [List.length_map]
    exact Nat.le_trans (by show 1 + (sevens bits.length).length ≤ 5002; omega) (by decide : 5002 ≤ sizeLine)
  have er : Ex H (upd H2 r (.lst ([.int 73] ++ (sevens bits.length).map V.int))) := (e1.tr e2).nw nr
  have hnr : H r = none := (e1.tr e2).no nr
  refine ⟨.ref p, rfl, p, bits.map V.int, rfl, .inl (.inl (.inl (er _ _ hp))), 0, (bits.length : Int), 8, (bits.length + 8 - 1) / 8, by rw [List.length_map], RgC.up0 (c := 8) (by decide) (by decide) (by omega), ?_⟩
  refine for_it walk_rangeC (fun i σ H' => ∃ y2 y3 y4 y5 : Option V, σ = [some (.ref p), some (.ref r), y2, y3, y4, y5] ∧ Ex H H' ∧ H' r = some (.lst ((73 :: sevens bits.length ++ (List.range i).map fun k => chunkByte (chunk bits k)).map V.int))) ⟨_, _, _, _, rfl, er, ?_⟩ (fun _ _ _ _ _ => trivial) (fun i x σ H3 H' hi hP y => ?_) fun σ H3 hP => ?_
  · rw [upd_same, List.range_zero, List.map_nil, List.append_nil]
    rfl
  · obtain ⟨y2, y3, y4, y5, rfl, eH, hrH⟩ := hP
    obtain ⟨rfl, rfl⟩ := y
    have ec : cutV (bits.map V.int) (some (0 + (i : Int) * 8)) (some (0 + (i : Int) * 8 + 8)) = (chunk bits i).map V.int := by
      have e1 : (0 + (i : Int) * 8) = ((8 * i : Nat) : Int) := by omega
      have e2 : ((8 * i : Nat) : Int) + 8 = ((8 * i + 8 : Nat) : Int) := by omega
      rw [e1, e2, cut_nat, show 8 * i + 8 - 8 * i = 8 by omega, chunk, List.map_take, List.map_drop]
    have hchl : (chunk bits i).length ≤ 8 := by
      rw [chunk, List.length_take]
      omega
    have hchb : ∀ (k : Nat) (x : Int), (chunk bits i)[k]? = some x → x = 0 ∨ x = 1 := fun k x hx => h01 x (List.mem_of_mem_drop (List.mem_of_mem_take (List.mem_of_getElem? hx)))
    refine ⟨by show 2 ≤ sizeLine; decide, fun tt nt => ⟨tt, _, rfl, .inl (.inl upd_same), rfl, _, _, rfl, _, _, rfl, rfl, ?_⟩⟩
    have et : Ex H' (upd H' tt (.tup [.int 0, .int 1])) := (Ex.rf _).nw nt
    refine ⟨_, rfl, _, rfl, _, rfl, _, rfl, _, _, rfl, rfl, _, rfl, p, _, rfl, .inl (.inl (et _ _ (eH _ _ hp))), fun c nc => ⟨c, rfl, ⟨_, .inl (.inl upd_same)⟩, ?_⟩⟩
    have hc : (upd (upd H' tt (.tup [.int 0, .int 1])) c (.lst (cutV (bits.map V.int) (some (0 + (i : Int) * 8)) (some (0 + (i : Int) * 8 + 8))))) c = some (.lst ((chunk bits i).map V.int)) := by rw [upd_same, ec]
    have e6 : Ex H' (upd (upd H' tt (.tup [.int 0, .int 1])) c (.lst (cutV (bits.map V.int) (some (0 + (i : Int) * 8)) (some (0 + (i : Int) * 8 + 8))))) := et.nw nc
    refine for_it (walk_list (K := K) (a := c) (xs := (chunk bits i).map V.int)) (fun j σ H7 => H7 = (upd (upd H' tt (.tup [.int 0, .int 1])) c (.lst (cutV (bits.map V.int) (some (0 + (i : Int) * 8)) (some (0 + (i : Int) * 8 + 8))))) ∧
      ∃ y5 : Option V, σ = [some (.ref p), some (.ref r), some (.int (0 + (i : Int) * 8)), some (.int (bsum (chunk bits i) j)), some (.int (2 ^ j)), y5]) ⟨rfl, _, rfl⟩ (fun j σ H7 _ h => by obtain ⟨rfl, _⟩ := h; exact .inl (.inl hc)) (fun j x σ H7 H8 hj hP y => ?_) fun σ H7 hP => ?_
    · obtain ⟨rfl, z5, rfl⟩ := hP
      obtain ⟨rfl, hy⟩ := y
      rw [List.getElem?_map] at hy
      obtain ⟨b, hb, rfl⟩ := Option.map_eq_some_iff.mp hy
      have h01b := hchb j b hb
      have hj8 : j < 8 := by
        rw [List.length_map] at hj
        omega
      have hs : bsum (chunk bits i) (j + 1) = bsum (chunk bits i) j + b * 2 ^ j := by
        have z2 : (chunk bits i).getD j 0 = b := by simp [List.getD, hb]
        rw [bsum_succ, z2, units_pow hj8]
      refine ⟨_, rfl, _, rfl, _, rfl, _, _, rfl, rfl, .inl ⟨by omega, by omega⟩, _, _, rfl, rfl, _, rfl, _, _, rfl, rfl, .inr ⟨by decide, by decide⟩, _, _, rfl, rfl, some (.int b), ?_⟩
      rw [hs, Int.pow_succ]
      rfl
    · obtain ⟨rfl, z5, rfl⟩ := hP
      rw [List.length_map, ← bsum_all hchl]
      refine ⟨.ref r, rfl, .inl ⟨rfl, _, .inl (.inl (e6 _ _ hrH))⟩, _, rfl, r, _, _, rfl, rfl, e6 _ _ hrH, ?_, _, _, _, _, rfl, (eH.tr e6).ch hnr, ?_⟩
      · rw [List.length_map, List.length_append, List.length_map, List.length_range, List.length_cons]
        exact Nat.lt_of_lt_of_le (by omega : _ < 100000) (by decide)
      · rw [upd_same, List.range_succ, List.map_append (f := fun k => chunkByte (chunk bits k)), ← List.append_assoc, List.map_append (l₁ := _ ++ _)]
        rfl
  · obtain ⟨y2, y3, y4, y5, rfl, eH, hrH⟩ := hP
    have hrw : (73 :: sevens bits.length ++ (List.range ((bits.length + 8 - 1) / 8)).map fun k => chunkByte (chunk bits k)) = inputsRow bits := rfl
    rw [hrw] at hrH
    exact ⟨_, rfl, q _ r eH hnr hrH⟩
end
end K87

set_option Elab.async false
set_option linter.all false
set_option maxRecDepth 100000
set_option maxHeartbeats 4000000
namespace K87
open PySem PySem.Spec PyProof.Rows L2
theorem ExB.no {x : Addr} {H H' : Hp} {p : Addr} (e : ExB x H H') (h : PenAt H' x) (hp : H' p = none) : H p = none := by
  obtain ⟨z, hz, _⟩ := h
  cases q : H p with
  | none => rfl
  | some o =>
    by_cases k : p = x
    · rw [k, hz] at hp
      cases hp
    · rw [e p o k q] at hp
      cases hp
theorem check_bd (ns : List Int) : 0 ≤ check ns ∧ check ns ≤ 255 := by
  unfold check
  have h1 := Int.emod_nonneg (wl ns).sum (show (256 : Int) ≠ 0 by decide)
  have h2 := Int.emod_lt_of_pos (wl ns).sum (show (0 : Int) < 256 by decide)
  omega
theorem AllB.app {a b : List Int} (ha : AllB a) (hb : AllB b) : AllB (a ++ b) := fun n hn => (List.mem_append.mp hn).elim (ha n) (hb n)
theorem AllB.take {a : List Int} (ha : AllB a) (k : Nat) : AllB (a.take k) := fun n hn => ha n (List.mem_of_mem_take hn)
theorem AllB.drop {a : List Int} (ha : AllB a) (k : Nat) : AllB (a.drop k) := fun n hn => ha n (List.mem_of_mem_drop hn)
theorem AllB.one {x : Int} (h0 : 0 ≤ x) (h1 : x ≤ 255) : AllB [x] := fun n hn => by
  cases List.mem_singleton.mp hn
  exact ⟨h0, h1⟩
theorem cut_toI (ns : List Int) (k : Nat) : cutV (ns.map V.int) none (some (k : Int)) = (ns.take k).map V.int := by rw [cut_to, List.map_take]
theorem cut_fromI (ns : List Int) (k : Nat) : cutV (ns.map V.int) (some (k : Int)) none = (ns.drop k).map V.int := by rw [cut_from, List.map_drop]
section
variable {P : Program} {w : World} {K : PySem.W.Frag} {mg : Str → Option Value} {base : Heap} {a : Ad}
theorem ok__law_bent_row (A : All P w K mg base a) : FnOk P w K mg base (L2.CX P w) 3 a.f__law_bent_row a.fd__law_bent_row ["pen", "row"] sp__law_bent_row := by
  have T := A.T
  refine A.F__law_bent_row.okX sc__law_bent_row (fun vs H Q E h => by obtain ⟨p, bits, ns, rfl, _⟩ := h; rfl) (fun cdv AA outer s H vs Q E hr h => ?_)
  refine ⟨_, (pss_cons (ps_par (i := 2) (j := 3) rfl sc__law_bent_row.nd rfl rfl (by decide) rfl rfl (pa_cons (pe_call (ok__law_draw A) (hr.mono (by decide)) (by rfl) A.g__law_draw A.k__law_draw A.b__law_draw .nil (passes_own rfl rfl rfl rfl) (pa_cons (pv 0) (pa_cons pe_int pa_nil))) (pa_cons (pe_call (ok__law_draw A) (hr.mono (by decide)) (by rfl) A.g__law_draw A.k__law_draw A.b__law_draw .nil (passes_own rfl rfl rfl rfl) (pa_cons (pv 0) (pa_cons (pe_callB call_len_seq (by rfl) T.m_len PySem.boot_len (pa_cons (pv 1) pa_nil)) pa_nil))) pa_nil)) (by rfl))
      (pss_cons (ps_set (i := 4) sc__law_bent_row.nd rfl (Or.inl rfl) (pe_call (ok__law_pick A) (hr.mono (by decide)) (by rfl) A.g__law_pick A.k__law_pick A.b__law_pick .nil (passes_own rfl rfl rfl rfl) (pa_cons (pv 0) (pa_cons (pe_lst (pa_cons (pe_call (ok__law_draw A) (hr.mono (by decide)) (by rfl) A.g__law_draw A.k__law_draw A.b__law_draw .nil (passes_own rfl rfl rfl rfl) (pa_cons (pv 0) (pa_cons pe_int pa_nil))) (pa_cons pe_int (pa_cons pe_int (pa_cons pe_int (pa_cons pe_int (pa_cons pe_int (pa_cons pe_int (pa_cons (pe_op op_mod (pe_callTy call_int1 (by rfl) T.m_int (by decide +kernel) (pa_cons (pe_op op_add (pe_ix ix_list (pv 1) (pv 3) (fun _ _ => rfl)) pe_int) pa_nil)) pe_int) pa_nil))))))))) pa_nil))))
      (pss_cons (ps_if (pt_cmpR op_eq (pv 2) pe_int (nomark _)) (pss_one (ps_set (i := 1) sc__law_bent_row.nd rfl (Or.inl rfl) (pe_op op_cat (pe_slice sl_list (pv 1) po_none (po_some (pv 3))) (pe_slice sl_list (pv 1) (po_some (pe_op op_add (pv 3) pe_int)) po_none)))) (pss_one (ps_if (pt_cmpR op_eq (pv 2) pe_int (nomark _)) (pss_one (ps_set (i := 1) sc__law_bent_row.nd rfl (Or.inl rfl) (pe_op op_cat (pe_op op_cat (pe_slice sl_list (pv 1) po_none (po_some (pv 3))) (pe_lst (pa_cons (pv 4) pa_nil))) (pe_slice sl_list (pv 1) (po_some (pv 3)) po_none)))) (pss_one (ps_if (pt_cmpR op_eq (pv 2) pe_int (nomark _)) (pss_one (ps_set (i := 1) sc__law_bent_row.nd rfl (Or.inl rfl) (pe_op op_cat (pe_op op_cat (pe_slice sl_list (pv 1) po_none (po_some (pv 3))) (pe_lst (pa_cons (pe_ix ix_list (pv 1) (pv 3) (fun _ _ => rfl)) pa_nil))) (pe_slice sl_list (pv 1) (po_some (pv 3)) po_none)))) (pss_one (ps_if (pt_cmpR op_eq (pv 2) pe_int (nomark _)) (pss_one (ps_set (i := 1) sc__law_bent_row.nd rfl (Or.inl rfl) (pe_slice sl_list (pv 1) po_none (po_some (pv 3))))) (pss_one (ps_set (i := 1) sc__law_bent_row.nd rfl (Or.inl rfl) (pe_op op_cat (pe_op op_cat (pe_slice sl_list (pv 1) po_none (po_some (pv 3))) (pe_lst (pa_cons (pv 4) pa_nil))) (pe_slice sl_list (pv 1) (po_some (pe_op op_add (pv 3) pe_int)) po_none)))))))))))
      (pss_one (ps_ret (pe_ifExp (pt_cmpR op_gt (pe_call (ok__law_draw A) (hr.mono (by decide)) (by rfl) A.g__law_draw A.k__law_draw A.b__law_draw .nil (passes_own rfl rfl rfl rfl) (pa_cons (pv 0) (pa_cons pe_int pa_nil))) pe_int (nomark _)) (pe_op op_cat (pv 1) (pe_lst (pa_cons (pe_call (ok__law_check A) (hr.mono (by decide)) (by rfl) A.g__law_check A.k__law_check A.b__law_check .nil (passes_own rfl rfl rfl rfl) (pa_cons (pv 1) pa_nil)) pa_nil))) (pv 1))))))), ?_⟩
  obtain ⟨pen, rr, ns, rfl, hpen, hrr, hne, hnn, hl, hB, q⟩ := h
  have hpos : 0 < ns.length := List.length_pos_iff.mpr hnn
  refine ⟨_, rfl, pen, 6, rfl, hpen, fun H1 way e1 p1 w0 w1 => ⟨_, rfl, .ref rr, rfl, rr, _, rfl, .inl (.inl (.inl (e1 _ _ hne hrr))), pen, _, rfl, p1, fun H2 at_ e2 p2 a0 a1 => ⟨_, _, rfl, ?_⟩⟩⟩
  obtain ⟨k, rfl⟩ : ∃ k : Nat, at_ = (k : Int) := ⟨at_.toNat, by omega⟩
  have hk : k < ns.length := by
    rw [List.length_map] at a1
    omega
  refine ⟨_, rfl, _, rfl, pen, 256, rfl, p2, fun H3 y e3 p3 y0 y1 => ?_⟩
  have e03 : ExB pen H H3 := (e1.tr e2).tr e3
  have hg : ns[k]? = some ns[k] := List.getElem?_eq_getElem hk
  have hx : atI (ns.map V.int) (k : Int) = some (.int ns[k]) := atI_nat (by rw [List.getElem?_map, hg]; rfl)
  refine ⟨_, rfl, _, rfl, rr, _, _, _, rfl, rfl, .inl (.inl (e03 _ _ hne hrr)), hx, _, _, rfl, rfl, .inl ⟨_, rfl, _, _, rfl, rfl, (show (0 : Int) < 256 by decide), by show 8 ≤ sizeLine; decide, fun ll nl => ?_⟩⟩
  have e34 : Ex H3 (upd H3 ll (.lst [.int y, .int 0, .int 1, .int 100, .int 127, .int 128, .int 255, .int ((ns[k] + 1) % 256)])) := (Ex.rf _).nw nl
  have lp : ll ≠ pen := fun z => by
    obtain ⟨u, hu, _⟩ := p3
    rw [z, hu] at nl
    cases nl
  refine ⟨pen, ll, _, rfl, p3.ex e34, upd_same, lp, by simp, fun H4 v e4 p4 hv => ?_⟩
  have e04 : ExB pen H H4 := e03.tr ((ExB.of e34).tr e4)
  have hr4 : H4 rr = some (.lst (ns.map V.int)) := e04 _ _ hne hrr
  obtain ⟨b, rfl, hb0, hb1⟩ : ∃ b : Int, v = .int b ∧ 0 ≤ b ∧ b ≤ 255 := by
    have h2 := Int.emod_nonneg (ns[k] + 1) (show (256 : Int) ≠ 0 by decide)
    have h3 := Int.emod_lt_of_pos (ns[k] + 1) (show (0 : Int) < 256 by decide)
    simp only [List.mem_cons, List.not_mem_nil, or_false] at hv
    rcases hv with rfl | rfl | rfl | rfl | rfl | rfl | rfl | rfl <;> exact ⟨_, rfl, by omega, by omega⟩
  have fin : ∀ (l : Addr) (ns' : List Int) (H5 : Hp), Ex H4 H5 → H4 l = none → H5 l = some (.lst (ns'.map V.int)) → AllB ns' → ns'.length ≤ ns.length + 1 →
      tRet (tIf (tTest (tOp (rI0 fun i j => V.bl (decide (j < i))) (tCall sp__law_draw [] E (tCons (tVar 0) (tCons (tC (.int 3)) tNil))) (tC (.int 0)))) (tOp rCat (tVar 1) (tLst (tCons (tCall sp_check_of [] E (tCons (tVar 1) tNil)) tNil))) (tVar 1))
        { nx := fun x H' => Q V.non H', rt := Q } [some (.ref pen), some (.ref l), some (.int way), some (.int (k : Int)), some (.int b)] H5 := by
    intro l ns' H5 e5 nl4 hl5 hB5 hlen5
    have hlp : l ≠ pen := fun z => by
      obtain ⟨u, hu, _⟩ := p4
      rw [z, hu] at nl4
      cases nl4
    have e05 : ExB pen H H5 := e04.tr (ExB.of e5)
    refine ⟨_, rfl, pen, 3, rfl, p4.ex e5, fun H6 r e6 p6 _ _ => ⟨_, _, rfl, rfl, _, rfl, ite2 (fun _ => ?_) (fun _ => ?_)⟩⟩
    · have hl6 := e6 _ _ hlp hl5
      refine ⟨_, rfl, _, rfl, l, ns', rfl, .inl hl6, by omega, fun H7 e7 => ⟨by show 1 ≤ sizeLine; decide, fun t nt => ⟨l, t, _, _, rfl, rfl, ((Ex.rf _).nw nt) _ _ (e7 _ _ hl6), upd_same, ?_, fun r nr => q _ r (ns' ++ [check ns']) ?_ ?_ ?_ ?_ ?_ ?_⟩⟩⟩
      · rw [List.length_map]
        exact Nat.le_trans (by show ns'.length + 1 ≤ 6002; omega) (by decide : 6002 ≤ sizeLine)
      · exact (e05.tr e6).tr (ExB.of ((e7.nw nt).nw nr))
      · exact p6.ex ((e7.nw nt).nw nr)
      · exact (e05.tr e6).no p6 ((e7.nw nt).no nr)
      · rw [upd_same, List.map_append]
        rfl
      · exact hB5.app (AllB.one (check_bd _).1 (check_bd _).2)
      · rw [List.length_append]
        show ns'.length + 1 ≤ ns.length + 2
        omega
    · exact ⟨_, rfl, q _ l ns' (e05.tr e6) p6 (e04.no p4 nl4) (e6 _ _ hlp hl5) hB5 (by omega)⟩
  refine ⟨_, rfl, rfl, _, rfl, ite2 (fun _ => ?_) (fun _ => ⟨_, rfl, rfl, _, rfl, ite2 (fun _ => ?_) (fun _ => ⟨_, rfl, rfl, _, rfl, ite2 (fun _ => ?_) (fun _ => ⟨_, rfl, rfl, _, rfl, ite2 (fun _ => ?_) (fun _ => ?_)⟩)⟩)⟩)⟩
  · refine ⟨_, rfl, _, rfl, _, rfl, rr, _, rfl, .inl (.inl hr4), fun s1 n1 => ?_⟩
    have x1 := (Ex.rf H4).nw n1 (o := .lst (cutV (ns.map V.int) none (some (k : Int))))
    refine ⟨_, rfl, _, rfl, _, _, rfl, rfl, _, rfl, rr, _, rfl, .inl (.inl (x1 _ _ hr4)), fun s4 n4 => ?_⟩
    have x4 := (Ex.rf _).nw n4 (o := .lst (cutV (ns.map V.int) (some ((k + 1 : Nat) : Int)) none))
    refine ⟨s1, s4, _, _, rfl, rfl, x4 _ _ upd_same, upd_same, ?_, fun s5 n5 => ?_⟩
    · rw [show ((k : Int) + 1) = ((k + 1 : Nat) : Int) from rfl, cut_toI, cut_fromI, List.length_map, List.length_map, List.length_take, List.length_drop]
      exact Nat.le_trans (by show min k ns.length + (ns.length - (k + 1)) ≤ 12001; omega) (by decide : 12001 ≤ sizeLine)
    have x5 := (Ex.rf _).nw n5 (o := .lst (cutV (ns.map V.int) none (some (k : Int)) ++ cutV (ns.map V.int) (some ((k + 1 : Nat) : Int)) none))
    refine fin s5 (ns.take k ++ ns.drop (k + 1)) _ ((x1.tr x4).tr x5) ((x1.tr x4).no n5) ?_ ((hB.take k).app (hB.drop _)) ?_
    · rw [upd_same, List.map_append, ← cut_toI, ← cut_fromI]
      rfl
    · rw [List.length_append, List.length_take, List.length_drop]
      omega
  · refine ⟨_, rfl, _, rfl, _, rfl, rr, _, rfl, .inl (.inl hr4), fun s1 n1 => ?_⟩
    have x1 := (Ex.rf H4).nw n1 (o := .lst (cutV (ns.map V.int) none (some (k : Int))))
    refine ⟨_, rfl, (by show 1 ≤ sizeLine; decide), fun s2 n2 => ?_⟩
    have x2 := (Ex.rf _).nw n2 (o := .lst [V.int (b)])
    refine ⟨s1, s2, _, _, rfl, rfl, x2 _ _ upd_same, upd_same, ?_, fun s3 n3 => ?_⟩
    · rw [cut_toI, List.length_map, List.length_take]
      exact Nat.le_trans (by show min k ns.length + 1 ≤ 6001; omega) (by decide : 6001 ≤ sizeLine)
    have x3 := (Ex.rf _).nw n3 (o := .lst (cutV (ns.map V.int) none (some (k : Int)) ++ [V.int (b)]))
    refine ⟨_, rfl, _, rfl, _, rfl, rr, _, rfl, .inl (.inl (((x1.tr x2).tr x3) _ _ hr4)), fun s4 n4 => ?_⟩
    have x4 := (Ex.rf _).nw n4 (o := .lst (cutV (ns.map V.int) (some ((k : Nat) : Int)) none))
    refine ⟨s3, s4, _, _, rfl, rfl, x4 _ _ upd_same, upd_same, ?_, fun s5 n5 => ?_⟩
    · rw [cut_toI, cut_fromI, List.length_append, List.length_map, List.length_map, List.length_take, List.length_drop]
      exact Nat.le_trans (by show min k ns.length + 1 + (ns.length - k) ≤ 12001; omega) (by decide : 12001 ≤ sizeLine)
    have x5 := (Ex.rf _).nw n5 (o := .lst (cutV (ns.map V.int) none (some (k : Int)) ++ [V.int (b)] ++ cutV (ns.map V.int) (some ((k : Nat) : Int)) none))
    refine fin s5 (ns.take k ++ [b] ++ ns.drop (k)) _ ((((x1.tr x2).tr x3).tr x4).tr x5) ((((x1.tr x2).tr x3).tr x4).no n5) ?_ (((hB.take k).app (AllB.one hb0 hb1)).app (hB.drop _)) ?_
    · rw [upd_same, List.map_append, List.map_append, ← cut_toI, ← cut_fromI]
      rfl
    · rw [List.length_append, List.length_append, List.length_take, List.length_drop]
      show min k ns.length + 1 + (ns.length - (k)) ≤ ns.length + 1
      omega
  · refine ⟨_, rfl, _, rfl, _, rfl, rr, _, rfl, .inl (.inl hr4), fun s1 n1 => ?_⟩
    have x1 := (Ex.rf H4).nw n1 (o := .lst (cutV (ns.map V.int) none (some (k : Int))))
    refine ⟨_, rfl, _, rfl, rr, _, _, _, rfl, rfl, .inl (.inl (x1 _ _ hr4)), hx, (by show 1 ≤ sizeLine; decide), fun s2 n2 => ?_⟩
    have x2 := (Ex.rf _).nw n2 (o := .lst [V.int (ns[k])])
    refine ⟨s1, s2, _, _, rfl, rfl, x2 _ _ upd_same, upd_same, ?_, fun s3 n3 => ?_⟩
    · rw [cut_toI, List.length_map, List.length_take]
      exact Nat.le_trans (by show min k ns.length + 1 ≤ 6001; omega) (by decide : 6001 ≤ sizeLine)
    have x3 := (Ex.rf _).nw n3 (o := .lst (cutV (ns.map V.int) none (some (k : Int)) ++ [V.int (ns[k])]))
    refine ⟨_, rfl, _, rfl, _, rfl, rr, _, rfl, .inl (.inl (((x1.tr x2).tr x3) _ _ hr4)), fun s4 n4 => ?_⟩
    have x4 := (Ex.rf _).nw n4 (o := .lst (cutV (ns.map V.int) (some ((k : Nat) : Int)) none))
    refine ⟨s3, s4, _, _, rfl, rfl, x4 _ _ upd_same, upd_same, ?_, fun s5 n5 => ?_⟩
    · rw [cut_toI, cut_fromI, List.length_append, List.length_map, List.length_map, List.length_take, List.length_drop]
      exact Nat.le_trans (by show min k ns.length + 1 + (ns.length - k) ≤ 12001; omega) (by decide : 12001 ≤ sizeLine)
    have x5 := (Ex.rf _).nw n5 (o := .lst (cutV (ns.map V.int) none (some (k : Int)) ++ [V.int (ns[k])] ++ cutV (ns.map V.int) (some ((k : Nat) : Int)) none))
    refine fin s5 (ns.take k ++ [ns[k]] ++ ns.drop (k)) _ ((((x1.tr x2).tr x3).tr x4).tr x5) ((((x1.tr x2).tr x3).tr x4).no n5) ?_ (((hB.take k).app (AllB.one (hB _ (List.getElem_mem hk)).1 (hB _ (List.getElem_mem hk)).2)).app (hB.drop _)) ?_
    · rw [upd_same, List.map_append, List.map_append, ← cut_toI, ← cut_fromI]
      rfl
    · rw [List.length_append, List.length_append, List.length_take, List.length_drop]
      show min k ns.length + 1 + (ns.length - (k)) ≤ ns.length + 1
      omega
  · refine ⟨_, rfl, _, rfl, _, rfl, rr, _, rfl, .inl (.inl hr4), fun s1 n1 => ?_⟩
    have x1 := (Ex.rf H4).nw n1 (o := .lst (cutV (ns.map V.int) none (some (k : Int))))
    refine fin s1 (ns.take k) _ x1 n1 ?_ (hB.take k) ?_
    · rw [upd_same, ← cut_toI]
    · rw [List.length_take]
      omega
  · refine ⟨_, rfl, _, rfl, _, rfl, rr, _, rfl, .inl (.inl hr4), fun s1 n1 => ?_⟩
    have x1 := (Ex.rf H4).nw n1 (o := .lst (cutV (ns.map V.int) none (some (k : Int))))
    refine ⟨_, rfl, (by show 1 ≤ sizeLine; decide), fun s2 n2 => ?_⟩
    have x2 := (Ex.rf _).nw n2 (o := .lst [V.int (b)])
    refine ⟨s1, s2, _, _, rfl, rfl, x2 _ _ upd_same, upd_same, ?_, fun s3 n3 => ?_⟩
    · rw [cut_toI, List.length_map, List.length_take]
      exact Nat.le_trans (by show min k ns.length + 1 ≤ 6001; omega) (by decide : 6001 ≤ sizeLine)
    have x3 := (Ex.rf _).nw n3 (o := .lst (cutV (ns.map V.int) none (some (k : Int)) ++ [V.int (b)]))
    refine ⟨_, rfl, _, rfl, _, _, rfl, rfl, _, rfl, rr, _, rfl, .inl (.inl (((x1.tr x2).tr x3) _ _ hr4)), fun s4 n4 => ?_⟩
    have x4 := (Ex.rf _).nw n4 (o := .lst (cutV (ns.map V.int) (some ((k + 1 : Nat) : Int)) none))
    refine ⟨s3, s4, _, _, rfl, rfl, x4 _ _ upd_same, upd_same, ?_, fun s5 n5 => ?_⟩
    · rw [show ((k : Int) + 1) = ((k + 1 : Nat) : Int) from rfl, cut_toI, cut_fromI, List.length_append, List.length_map, List.length_map, List.length_take, List.length_drop]
      exact Nat.le_trans (by show min k ns.length + 1 + (ns.length - (k + 1)) ≤ 12001; omega) (by decide : 12001 ≤ sizeLine)
    have x5 := (Ex.rf _).nw n5 (o := .lst (cutV (ns.map V.int) none (some (k : Int)) ++ [V.int (b)] ++ cutV (ns.map V.int) (some ((k + 1 : Nat) : Int)) none))
    refine fin s5 (ns.take k ++ [b] ++ ns.drop (k + 1)) _ ((((x1.tr x2).tr x3).tr x4).tr x5) ((((x1.tr x2).tr x3).tr x4).no n5) ?_ (((hB.take k).app (AllB.one hb0 hb1)).app (hB.drop _)) ?_
    · rw [upd_same, List.map_append, List.map_append, ← cut_toI, ← cut_fromI]
      rfl
    · rw [List.length_append, List.length_append, List.length_take, List.length_drop]
      show min k ns.length + 1 + (ns.length - (k + 1)) ≤ ns.length + 1
      omega
end
end K87

set_option Elab.async false
set_option linter.all false
set_option maxRecDepth 100000
set_option maxHeartbeats 4000000
namespace K87
open PySem PySem.Spec PyProof.Rows L2 LamX
/-- what _law_caught wishes of the call -/
def TTc (a : Ad) : (XK → Hp → VK → Prop) → Hp → VK → Prop := fun tl H Q => ∀ tt, H tt = none → tl (fun cls d H' => ∃ dd, d = some dd ∧
    ((cls = .ref a.C_BadValue ∧ ∃ v, H' dd = some (.xd [("part", v)]) ∧ ∀ H'' l, Ex H' H'' → H' l = none → H'' l = some (.tup [.str "value", v]) → Q (.ref l) H'') ∨
     (cls = .ref a.C_BadBytes ∧ ∃ v, H' dd = some (.xd [("at", v)]) ∧ ∀ H'' l, Ex H' H'' → H' l = none → H'' l = some (.tup [.str "bytes", v]) → Q (.ref l) H'')))
  (upd H tt (.tup [.non, .non])) (fun v H' => ∀ H'' l, Ex H' H'' → H' l = none → H'' l = some (.lst [v]) → Q (.ref l) H'')
theorem _root_.L2.IsErr.ex {K : PySem.W.Frag} {H H' : Hp} {x D dd : Addr} {fs : List (Str × V)} (h : IsErr K H x D dd fs) (e : Ex H H') : IsErr K H' x D dd fs := ⟨e _ _ h.1, e _ _ h.2⟩
section
variable {P : Program} {w : World} {K : PySem.W.Frag} {mg : Str → Option Value} {base : Heap} {a : Ad}
theorem caught_gives {X : Cx} (hP : X.prog = P) (hw : X.w = w) (hK : X.K = K) (hm : X.mg = mg) (hb : X.base = base) (A : All P w K mg base a) (cdg : Value) (q : Str) : LamA.GivesTo2 X N__law_caught "_law_caught" (defScope s__law_caught) a.f__law_caught cdg (defBody s__law_caught) "ask" q (TTc a) := by
  subst hP hw hK hm hb
  intro f c' s H Q tl act hc h
  have T := A.T
  have S := sc__law_caught
  have hAE : X.mg "AliveError" = some (.ref a.C_AliveError) := by
    obtain ⟨u, h1, h2⟩ := T.v_AliveError
    rw [h1]
    cases h2
    rfl
  refine ⟨_, pss_cons (ps_asg (pe_tup (pa_cons pe_non (pa_cons pe_non pa_nil))) (pg_tup2 (K := X.K) (i := 1) (j := 2) rfl rfl sc__law_caught.nd rfl rfl (Or.inl rfl) (Or.inl rfl) (by first | exact Or.inl rfl | exact Or.inr rfl) (by first | exact Or.inl rfl | exact Or.inr rfl))) (pss_cons (ps_try_keep (X := (cxOf C8.CX0 X.prog X.w X.K X.mg X.base N__law_caught "_law_caught" (defScope s__law_caught) a.f__law_caught cdg X.A X.stack s H C8.E0).nox) (c := .ref a.C_AliveError) (i := 3) (j := 1) (Wout := fun _ _ _ _ => False)
      (tb := fun W D σ H => ∃ (Ech : XK) (R : VK), (∀ cls d H', Ech cls d H' → W cls d σ H') ∧ (∀ v H', R v H' → D.nx (σ.set 2 (some v)) H') ∧ σ[0]? = some (some (.ref f)) ∧ H c' = some (CodeO c' q) ∧ tl Ech H R)
      rfl rfl rfl S.nd rfl rfl rfl rfl ⟨rfl, by decide, .inl hAE⟩ L2.takes0 rfl (by decide) (by decide) (fun W pn xe tk _ => ?_)) (pss_cons (ps_if (pt_cmpR op_isN (pv 1) pe_non (nomark _)) (pss_one (ps_ret (pe_lst (pa_cons (pv 2) pa_nil)))) pss_nil)
      (pss_cons (ps_if (pt_val (pe_callB call_isH (by rfl) T.m_isinstance (by decide +kernel) (pa_cons (pv 1) (pa_cons (pe_globE rfl T.v_BadText) pa_nil)))) (pss_one (ps_ret (pe_tup (pa_cons pe_str (pa_cons (pe_xfH (pv 1)) (pa_cons (pe_xfH (pv 1)) pa_nil)))))) pss_nil)
      (pss_cons (ps_if (pt_val (pe_callB call_isH (by rfl) T.m_isinstance (by decide +kernel) (pa_cons (pv 1) (pa_cons (pe_globE rfl T.v_TooMany) pa_nil)))) (pss_one (ps_ret (pe_tup (pa_cons pe_str (pa_cons (pe_xfH (pv 1)) (pa_cons (pe_xfH (pv 1)) pa_nil)))))) pss_nil)
      (pss_cons (ps_if (pt_val (pe_callB call_isHT (by rfl) T.m_isinstance (by decide +kernel) (pa_cons (pv 1) (pa_cons (pe_tup (pa_cons (pe_globE rfl T.v_BadCode) (pa_cons (pe_globE rfl T.v_BadBytes) pa_nil))) pa_nil)))) (pss_one (ps_ret (pe_tup (pa_cons (pe_ifExp (pt_val (pe_callB call_isH (by rfl) T.m_isinstance (by decide +kernel) (pa_cons (pv 1) (pa_cons (pe_globE rfl T.v_BadCode) pa_nil)))) pe_str pe_str) (pa_cons (pe_xfH (pv 1)) pa_nil))))) pss_nil)
      (pss_cons (ps_if (pt_val (pe_callB call_isHT (by rfl) T.m_isinstance (by decide +kernel) (pa_cons (pv 1) (pa_cons (pe_tup (pa_cons (pe_globE rfl T.v_BadValue) (pa_cons (pe_globE rfl T.v_BadNumber) pa_nil))) pa_nil)))) (pss_one (ps_ret (pe_tup (pa_cons (pe_ifExp (pt_val (pe_callB call_isH (by rfl) T.m_isinstance (by decide +kernel) (pa_cons (pv 1) (pa_cons (pe_globE rfl T.v_BadValue) pa_nil)))) pe_str pe_str) (pa_cons (pe_xfH (pv 1)) pa_nil))))) pss_nil)
      (pss_cons (ps_if (pt_val (pe_callB call_isH (by rfl) T.m_isinstance (by decide +kernel) (pa_cons (pv 1) (pa_cons (pe_globE rfl T.v_Misfit) pa_nil)))) (pss_one (ps_ret (pe_tup (pa_cons pe_str (pa_cons (pe_xfH (pv 1)) pa_nil))))) pss_nil)
      (pss_one (ps_ret (pe_ifExp (pt_val (pe_callB call_isH (by rfl) T.m_isinstance (by decide +kernel) (pa_cons (pv 1) (pa_cons (pe_globE rfl T.v_Nothing) pa_nil)))) (pe_tup (pa_cons pe_str (pa_cons (pe_xfH (pv 1)) pa_nil))) (pe_tup (pa_cons pe_str pa_nil)))))))))))), ?_⟩
  · refine ⟨fun pins s' σ H' D I h' => ?_⟩
    obtain ⟨Ech, R, hW, hR, h1, h2, h3⟩ := h'
    have hlen : 2 < σ.length := by
      rw [I.len]
      exact (by decide : 2 < N__law_caught.length)
    have hval : ∀ v : V, ((σ.set 2 (some v)).getD 2 none).getD .non = v := fun v => by
      rw [List.getD, List.getElem?_set_self hlen]
      rfl
    have e : (fun v H' => σ.set 2 (some v) = σ.set 2 (some (((σ.set 2 (some v)).getD 2 none).getD .non)) ∧ R (((σ.set 2 (some v)).getD 2 none).getD .non) H') = R := by
      funext v H'
      rw [hval]
      exact propext ⟨fun z => z.2, fun z => ⟨rfl, z⟩⟩
    refine wpAny_mono ((pss_one (ps_set (i := 2) S.nd rfl (Or.inl rfl) (act W pn xe Ech _ _ tk))).run pins s' σ H' { D with nx := fun σ' H' => σ' = σ.set 2 (some ((σ'.getD 2 none).getD .non)) ∧ R ((σ'.getD 2 none).getD .non) H' } I ?_) (fun fl s2 hs => ?_) (fun _ _ z => z)
    · refine ⟨hW, h1, h2, ?_⟩
      show tl Ech H' (fun v H' => σ.set 2 (some v) = σ.set 2 (some (((σ.set 2 (some v)).getD 2 none).getD .non)) ∧ R (((σ.set 2 (some v)).getD 2 none).getD .non) H')
      rw [e]
      exact h3
    · cases fl with
      | next =>
        obtain ⟨σ2, H2, J, e2, r⟩ := hs
        exact ⟨σ2, H2, J, by rw [e2]; exact hR _ _ r⟩
      | brk => exact hs
      | cont => exact hs
      | ret u => exact hs
  · refine ⟨by show 2 ≤ sizeLine; decide, fun tt nt => ⟨tt, _, rfl, .inl (.inl upd_same), rfl, _, _, rfl, _, _, rfl, rfl, ?_⟩⟩
    have z := h tt nt
    have ctt : c' ≠ tt := ne_of_none hc nt
    refine ⟨_, _, fun cls d H' hx => ?_, fun v H' hR => ?_, rfl, by rw [upd_ne ctt]; exact hc, z⟩
    · obtain ⟨dd, rfl, hx⟩ := hx
      rcases hx with ⟨rfl, v, hv, hq⟩ | ⟨rfl, v, hv, hq⟩
      · refine ⟨true, T.j_BadValue, fun _ => ⟨dd, rfl, fun x nx => ?_⟩, fun k => nomatch k⟩
        have hE : IsErr X.K (upd H' x (ErO (.ref a.C_BadValue) dd x)) x a.C_BadValue dd [("part", v)] := ⟨upd_same, by rw [upd_ne (ne_of_none hv nx)]; exact hv⟩
        have eX : Ex H' (upd H' x (ErO (.ref a.C_BadValue) dd x)) := (Ex.rf H').nw nx
        refine ⟨_, rfl, rfl, _, rfl, ite2 (fun k => nomatch (show false = true from k)) fun _ => ?_⟩
        refine ⟨_, rfl, x, a.C_BadValue, dd, _, _, _, false, rfl, hE, T.x_BadValue, .own _, T.i_BadValue_BadText, _, rfl, ite2 (fun k => nomatch k) fun _ => ⟨_, rfl, x, a.C_BadValue, dd, _, _, _, false, rfl, hE, T.x_BadValue, .own _, T.i_BadValue_TooMany, _, rfl, ite2 (fun k => nomatch k) fun _ => ⟨_, rfl, by show 2 ≤ sizeLine; decide, fun t1 n1 => ?_⟩⟩⟩
        have e1 := (Ex.rf _).nw n1 (o := .tup [V.ref a.C_BadCode, V.ref a.C_BadBytes])
        have k1 : PySem.W.kitAny X.K (.ref a.C_BadValue) [.ref a.C_BadCode, .ref a.C_BadBytes] = some false := kitAny_cons T.i_BadValue_BadCode (fun _ => kitAny_cons T.i_BadValue_BadBytes (fun _ => kitAny_nil) (fun e => nomatch e)) (fun e => nomatch e)
        have k2 : PySem.W.kitAny X.K (.ref a.C_BadValue) [.ref a.C_BadValue, .ref a.C_BadNumber] = some true := kitAny_cons T.i_BadValue_BadValue (fun e => nomatch e) (fun _ => rfl)
        refine ⟨x, a.C_BadValue, dd, _, t1, _, _, false, rfl, hE.ex e1, T.x_BadValue, upd_same, .cons (.own _) (.cons (.own _) .nil), k1, _, rfl, ite2 (fun k => nomatch k) fun _ => ⟨_, rfl, by show 2 ≤ sizeLine; decide, fun t2 n2 => ?_⟩⟩
        have e2 := (Ex.rf _).nw n2 (o := .tup [V.ref a.C_BadValue, V.ref a.C_BadNumber])
        have hE2 := (hE.ex e1).ex e2
        exact ⟨x, a.C_BadValue, dd, _, t2, _, _, true, rfl, hE2, T.x_BadValue, upd_same, .cons (.own _) (.cons (.own _) .nil), k2, _, rfl, ite2 (fun _ => ⟨_, rfl, x, a.C_BadValue, dd, _, _, _, true, rfl, hE2, T.x_BadValue, .own _, T.i_BadValue_BadValue, _, rfl, ite2 (fun _ => ⟨_, rfl, x, a.C_BadValue, dd, _, v, rfl, hE2, T.y_BadValue, T.z_BadValue, rfl, by show 2 ≤ sizeLine; decide, fun l nl => hq _ l (((eX.tr e1).tr e2).nw nl) (((eX.tr e1).tr e2).no nl) upd_same⟩) fun k => absurd rfl k⟩) fun k => absurd rfl k⟩
      · refine ⟨true, T.j_BadBytes, fun _ => ⟨dd, rfl, fun x nx => ?_⟩, fun k => nomatch k⟩
        have hE : IsErr X.K (upd H' x (ErO (.ref a.C_BadBytes) dd x)) x a.C_BadBytes dd [("at", v)] := ⟨upd_same, by rw [upd_ne (ne_of_none hv nx)]; exact hv⟩
        have eX : Ex H' (upd H' x (ErO (.ref a.C_BadBytes) dd x)) := (Ex.rf H').nw nx
        refine ⟨_, rfl, rfl, _, rfl, ite2 (fun k => nomatch (show false = true from k)) fun _ => ?_⟩
        refine ⟨_, rfl, x, a.C_BadBytes, dd, _, _, _, false, rfl, hE, T.x_BadBytes, .own _, T.i_BadBytes_BadText, _, rfl, ite2 (fun k => nomatch k) fun _ => ⟨_, rfl, x, a.C_BadBytes, dd, _, _, _, false, rfl, hE, T.x_BadBytes, .own _, T.i_BadBytes_TooMany, _, rfl, ite2 (fun k => nomatch k) fun _ => ⟨_, rfl, by show 2 ≤ sizeLine; decide, fun t1 n1 => ?_⟩⟩⟩
        have e1 := (Ex.rf _).nw n1 (o := .tup [V.ref a.C_BadCode, V.ref a.C_BadBytes])
        have k1 : PySem.W.kitAny X.K (.ref a.C_BadBytes) [.ref a.C_BadCode, .ref a.C_BadBytes] = some true := kitAny_cons T.i_BadBytes_BadCode (fun _ => kitAny_cons T.i_BadBytes_BadBytes (fun e => nomatch e) (fun _ => rfl)) (fun e => nomatch e)
        have hE2 := hE.ex e1
        exact ⟨x, a.C_BadBytes, dd, _, t1, _, _, true, rfl, hE2, T.x_BadBytes, upd_same, .cons (.own _) (.cons (.own _) .nil), k1, _, rfl, ite2 (fun _ => ⟨_, rfl, x, a.C_BadBytes, dd, _, _, _, false, rfl, hE2, T.x_BadBytes, .own _, T.i_BadBytes_BadCode, _, rfl, ite2 (fun k => nomatch k) fun _ => ⟨_, rfl, x, a.C_BadBytes, dd, _, v, rfl, hE2, T.y_BadBytes, T.z_BadBytes, rfl, by show 2 ≤ sizeLine; decide, fun l nl => hq _ l ((eX.tr e1).nw nl) ((eX.tr e1).no nl) upd_same⟩⟩) fun k => absurd rfl k⟩
    · exact ⟨_, rfl, rfl, _, rfl, ite2 (fun _ => ⟨_, rfl, by show 1 ≤ sizeLine; decide, fun l nl => hR _ l ((Ex.rf _).nw nl) nl upd_same⟩) fun k => absurd rfl k⟩
end
end K87

set_option Elab.async false
set_option linter.all false
set_option maxRecDepth 100000
set_option maxHeartbeats 4000000
namespace K87
/-! ### the plain law -/
theorem dp_get {d X : List Int} {p : Nat} {x : Int} (h : d.drop p = x :: X) : d[p]? = some x ∧ d.drop (p + 1) = X := by
  constructor
  · have e : (d.drop p)[0]? = d[p + 0]? := List.getElem?_drop ..
    rw [h] at e
    exact e.symm
  · rw [← List.drop_drop, h]
    rfl
theorem dp_mk {d : List Int} {p : Nat} {x : Int} (h : d[p]? = some x) : d.drop p = x :: d.drop (p + 1) := by
  have hp := (List.getElem?_eq_some_iff.mp h).1
  have hx := (List.getElem?_eq_some_iff.mp h).2
  rw [List.drop_eq_getElem_cons hp, hx]
theorem rbyte_at {d : List Int} {p : Nat} {x lo hi : Int} (h : d[p]? = some x) (h1 : lo ≤ x) (h2 : x ≤ hi) : rbyte d p lo hi = .ok (x, p + 1) := by
  unfold rbyte
  rw [h]
  exact if_pos ⟨h1, h2⟩
theorem rnum_sev {d : List Int} {most : Int} : ∀ (m fuel p : Nat) (found unit : Int) (X : List Int), d.drop p = sevens m ++ X → (sevens m).length ≤ fuel → 1 ≤ unit → 0 ≤ found → found + m * unit ≤ most → (unit > 1 → 1 ≤ m) →
    rnum d most fuel p found unit = .ok (found + m * unit, p + (sevens m).length) := by
  intro m
  induction m using Nat.strongRecOn with
  | _ m ih =>
    intro fuel p found unit X hd hf hu h0 hm h1
    have hs := hd
    rw [sevens] at hd hf ⊢
    by_cases hlt : m < 128
    · rw [if_pos hlt] at hd hf ⊢
      obtain ⟨hx, _⟩ := dp_get hd
      obtain ⟨f, rfl⟩ : ∃ f, fuel = f + 1 := ⟨fuel - 1, by simp at hf; omega⟩
      have hle : (m : Int) ≤ (most - found) / unit := (Int.le_ediv_iff_mul_le (by omega)).mpr (by omega)
      have hb : rbyte d p (if unit > 1 then 1 else 0) (min 255 ((most - found) / unit)) = .ok ((m : Int), p + 1) := rbyte_at hx (by split <;> omega) (by omega)
      rw [rnum_go rfl rfl hb, if_neg (by omega)]
      have e : (m : Int) % 128 = m := by omega
      rw [e]
      rfl
    · rw [if_neg hlt] at hd hf ⊢
      obtain ⟨hx, hd2⟩ := dp_get (show d.drop p = ((m % 128 + 128 : Nat) : Int) :: (sevens (m / 128) ++ X) from hd)
      rw [List.length_cons] at hf
      obtain ⟨f, rfl⟩ : ∃ f, fuel = f + 1 := ⟨fuel - 1, by omega⟩
      have hmm : ((m % 128 + 128 : Nat) : Int) ≤ (m : Int) := by omega
      have hmul : ((m % 128 + 128 : Nat) : Int) * unit ≤ (m : Int) * unit := Int.mul_le_mul_of_nonneg_right hmm (by omega)
      have hle : ((m % 128 + 128 : Nat) : Int) ≤ (most - found) / unit := (Int.le_ediv_iff_mul_le (by omega)).mpr (by omega)
      have hb : rbyte d p (if unit > 1 then 1 else 0) (min 255 ((most - found) / unit)) = .ok (((m % 128 + 128 : Nat) : Int), p + 1) := rbyte_at hx (by split <;> omega) (by omega)
      rw [rnum_go rfl rfl hb, if_pos (by omega)]
      have e : ((m % 128 + 128 : Nat) : Int) % 128 = ((m % 128 : Nat) : Int) := by omega
      rw [e]
      have key : found + ((m % 128 : Nat) : Int) * unit + ((m / 128 : Nat) : Int) * (unit * 128) = found + (m : Int) * unit := by
        have hm' : (m : Int) = ((m % 128 : Nat) : Int) + ((m / 128 : Nat) : Int) * 128 := by omega
        rw [show (m : Int) * unit = (((m % 128 : Nat) : Int) + ((m / 128 : Nat) : Int) * 128) * unit from by rw [← hm'], Int.add_mul, Int.mul_assoc ((m / 128 : Nat) : Int) 128 unit, Int.mul_comm 128 unit, Int.add_assoc]
      have hnn : 0 ≤ ((m % 128 : Nat) : Int) * unit := Int.mul_nonneg (by omega) (by omega)
      have z := ih (m / 128) (by omega) f (p + 1) (found + ((m % 128 : Nat) : Int) * unit) (unit * 128) X hd2 (by omega) (by omega) (by omega) (by rw [key]; exact hm) (fun _ => by omega)
      rw [z, key, List.length_cons]
      congr 2
      omega
theorem rnum_inv {d : List Int} {most : Int} : ∀ (fuel p q : Nat) (found unit b : Int), 1 ≤ unit → 0 ≤ found → found ≤ most → rnum d most fuel p found unit = .ok (b, q) →
    ∃ m : Nat, b = found + m * unit ∧ d.drop p = sevens m ++ d.drop q ∧ (unit > 1 → 1 ≤ m) ∧ p < q ∧ q ≤ d.length
  | 0, _, _, _, _, _, _, _, _, h => nomatch h
  | f + 1, p, q, found, unit, b, hu, h0, h1, h => by
    cases hr : rbyte d p (if unit > 1 then 1 else 0) (min 255 ((most - found) / unit)) with
    | error e => rw [rnum_err rfl rfl hr] at h; cases h
    | ok y =>
      obtain ⟨c, p'⟩ := y
      rw [rnum_go rfl rfl hr] at h
      obtain ⟨hx, hb1, hb2, rfl⟩ := rbyte_ok hr
      have hpl := (List.getElem?_eq_some_iff.mp hx).1
      have hc : 0 ≤ c := by
        split at hb1 <;> omega
      obtain ⟨s1, s2, s3⟩ := step_bound h0 h1 hu hc hb2
      have hd := dp_mk hx
      by_cases h128 : 128 ≤ c
      · rw [if_pos h128] at h
        obtain ⟨m, e1, e2, e3, e4, e5⟩ := rnum_inv f (p + 1) q _ _ b (by omega) s1 s2 h
        have hm1 := e3 (by omega)
        refine ⟨(c % 128).toNat + 128 * m, ?_, ?_, fun _ => by omega, by omega, e5⟩
        · rw [e1]
          have t1 : (((c % 128).toNat + 128 * m : Nat) : Int) = c % 128 + (m : Int) * 128 := by omega
          rw [t1, Int.add_mul, Int.mul_assoc, Int.mul_comm 128 unit, Int.add_assoc]
        · have hs : sevens ((c % 128).toNat + 128 * m) = c :: sevens m := by
            rw [sevens, if_neg (by omega)]
            have t2 : ((c % 128).toNat + 128 * m) / 128 = m := by omega
            have t3 : ((((c % 128).toNat + 128 * m) % 128 + 128 : Nat) : Int) = c := by omega
            rw [t2, t3]
          rw [hs, hd, e2]
          rfl
      · rw [if_neg h128] at h
        cases h
        refine ⟨c.toNat, ?_, ?_, fun hu1 => ?_, by omega, by omega⟩
        · have t1 : c % 128 = ((c.toNat : Nat) : Int) := by omega
          rw [t1]
        · rw [sevens, if_pos (by omega), hd]
          have t1 : ((c.toNat : Nat) : Int) = c := by omega
          rw [t1]
          rfl
        · rw [if_pos hu1] at hb1
          omega
end K87

set_option Elab.async false
set_option linter.all false
set_option maxRecDepth 100000
set_option maxHeartbeats 4000000
namespace K87
def Bits (bits : List Int) : Prop := ∀ b ∈ bits, b = 0 ∨ b = 1
/-- eight at a time -/
def chunksOf (bits : List Int) : List Int := (List.range ((bits.length + 7) / 8)).map fun k => chunkByte (chunk bits k)
theorem chunksOf_nil : chunksOf [] = [] := rfl
theorem chunk_drop (bits : List Int) (k : Nat) : chunk (bits.drop 8) k = chunk bits (k + 1) := by
  unfold chunk
  rw [List.drop_drop]
  congr 2
  omega
theorem chunksOf_cons {bits : List Int} (h : bits ≠ []) : chunksOf bits = chunkByte (bits.take 8) :: chunksOf (bits.drop 8) := by
  have hl : 0 < bits.length := List.length_pos_iff.mpr h
  unfold chunksOf
  have e : (bits.length + 7) / 8 = ((bits.drop 8).length + 7) / 8 + 1 := by
    rw [List.length_drop]
    omega
  rw [e, List.range_succ_eq_map, List.map_cons, List.map_map]
  congr 1
  apply List.map_congr_left
  intro k _
  show chunkByte (chunk bits (k + 1)) = chunkByte (chunk (bits.drop 8) k)
  rw [chunk_drop]
/-- a byte of at most eight bits -/
theorem byte_bits : ∀ cs : List Int, cs.length ≤ 8 → 1 ≤ cs.length → Bits cs → 0 ≤ chunkByte cs ∧ chunkByte cs ≤ 2 * 2 ^ (cs.length - 1) - 1 ∧ bitsOf cs.length (chunkByte cs) = cs := by
  intro cs h1 h2 hb
  match cs, h1, h2, hb with
  | [a], _, _, hb =>
    have ha := hb a (by simp)
    simp [chunkByte, bitsOf, units, List.range, List.range.loop]
    omega
  | [a, b], _, _, hb =>
    have ha := hb a (by simp)
    have hb' := hb b (by simp)
    simp [chunkByte, bitsOf, units, List.range, List.range.loop]
    omega
  | [a, b, c], _, _, hb =>
    have ha := hb a (by simp)
    have hb' := hb b (by simp)
    have hc := hb c (by simp)
    simp [chunkByte, bitsOf, units, List.range, List.range.loop]
    omega
  | [a, b, c, d], _, _, hb =>
    have ha := hb a (by simp)
    have hb' := hb b (by simp)
    have hc := hb c (by simp)
    have hd := hb d (by simp)
    simp [chunkByte, bitsOf, units, List.range, List.range.loop]
    omega
  | [a, b, c, d, e], _, _, hb =>
    have ha := hb a (by simp)
    have hb' := hb b (by simp)
    have hc := hb c (by simp)
    have hd := hb d (by simp)
    have he := hb e (by simp)
    simp [chunkByte, bitsOf, units, List.range, List.range.loop]
    omega
  | [a, b, c, d, e, f], _, _, hb =>
    have ha := hb a (by simp)
    have hb' := hb b (by simp)
    have hc := hb c (by simp)
    have hd := hb d (by simp)
    have he := hb e (by simp)
    have hf := hb f (by simp)
    simp [chunkByte, bitsOf, units, List.range, List.range.loop]
    omega
  | [a, b, c, d, e, f, g], _, _, hb =>
    have ha := hb a (by simp)
    have hb' := hb b (by simp)
    have hc := hb c (by simp)
    have hd := hb d (by simp)
    have he := hb e (by simp)
    have hf := hb f (by simp)
    have hg := hb g (by simp)
    simp [chunkByte, bitsOf, units, List.range, List.range.loop]
    omega
  | [a, b, c, d, e, f, g, h], _, _, hb =>
    have ha := hb a (by simp)
    have hb' := hb b (by simp)
    have hc := hb c (by simp)
    have hd := hb d (by simp)
    have he := hb e (by simp)
    have hf := hb f (by simp)
    have hg := hb g (by simp)
    have hh := hb h (by simp)
    simp [chunkByte, bitsOf, units, List.range, List.range.loop]
    omega
  | _ :: _ :: _ :: _ :: _ :: _ :: _ :: _ :: _ :: _, h1, _, _ => simp at h1
theorem bits_byte : ∀ h : Nat, 1 ≤ h → h ≤ 8 → ∀ b : Int, 0 ≤ b → b ≤ 2 * 2 ^ (h - 1) - 1 → chunkByte (bitsOf h b) = b ∧ Bits (bitsOf h b) := by
  intro h h1 h8 b b0 b1
  have key : ∀ u : Int, b / u % 2 = 0 ∨ b / u % 2 = 1 := fun u => by omega
  refine ⟨?_, fun x hx => ?_⟩
  · match h, h1, h8, b1 with
    | 1, _, _, b1 => simp [chunkByte, bitsOf, units, List.range, List.range.loop] at b1 ⊢; omega
    | 2, _, _, b1 => simp [chunkByte, bitsOf, units, List.range, List.range.loop] at b1 ⊢; omega
    | 3, _, _, b1 => simp [chunkByte, bitsOf, units, List.range, List.range.loop] at b1 ⊢; omega
    | 4, _, _, b1 => simp [chunkByte, bitsOf, units, List.range, List.range.loop] at b1 ⊢; omega
    | 5, _, _, b1 => simp [chunkByte, bitsOf, units, List.range, List.range.loop] at b1 ⊢; omega
    | 6, _, _, b1 => simp [chunkByte, bitsOf, units, List.range, List.range.loop] at b1 ⊢; omega
    | 7, _, _, b1 => simp [chunkByte, bitsOf, units, List.range, List.range.loop] at b1 ⊢; omega
    | 8, _, _, b1 => simp [chunkByte, bitsOf, units, List.range, List.range.loop] at b1 ⊢; omega
  · unfold bitsOf at hx
    obtain ⟨u, _, rfl⟩ := List.mem_map.mp hx
    exact key u
end K87

set_option Elab.async false
set_option linter.all false
set_option maxRecDepth 100000
set_option maxHeartbeats 4000000
namespace K87
theorem rbits_chunks {d : List Int} : ∀ (n : Nat) (r : List Int) (p : Nat) (X : List Int), r.length = n → Bits r → d.drop p = chunksOf r ++ X → rbits d n p = .ok (r, p + (n + 7) / 8) ∧ d.drop (p + (n + 7) / 8) = X := by
  intro n
  induction n using Nat.strongRecOn with
  | _ n ih =>
    intro r p X hr hb hd
    by_cases hn : n = 0
    · subst hn
      have e : r = [] := List.length_eq_zero_iff.mp hr
      subst e
      rw [rbits_zero]
      exact ⟨rfl, hd⟩
    · have hne : r ≠ [] := fun z => hn (by rw [← hr, z]; rfl)
      rw [chunksOf_cons hne] at hd
      obtain ⟨hx, hd2⟩ := dp_get (show d.drop p = chunkByte (r.take 8) :: (chunksOf (r.drop 8) ++ X) from hd)
      have ht : (r.take 8).length = min 8 n := by rw [List.length_take, hr]
      obtain ⟨b0, b1, b2⟩ := byte_bits (r.take 8) (by omega) (by omega) (fun b h => hb b (List.mem_of_mem_take h))
      rw [ht] at b1 b2
      have hrb := rbyte_at hx b0 b1
      rw [rbits_go (by omega) hrb, b2]
      obtain ⟨i1, i2⟩ := ih (n - 8) (by omega) (r.drop 8) (p + 1) X (by rw [List.length_drop, hr]) (fun b h => hb b (List.mem_of_mem_drop h)) hd2
      have e : p + 1 + (n - 8 + 7) / 8 = p + (n + 7) / 8 := by omega
      rw [e] at i1 i2
      rw [i1]
      refine ⟨?_, i2⟩
      show Except.ok (r.take 8 ++ r.drop 8, p + (n + 7) / 8) = _
      rw [List.take_append_drop]
theorem rbits_inv {d : List Int} : ∀ (n p q : Nat) (r : List Int), rbits d n p = .ok (r, q) → r.length = n ∧ Bits r ∧ d.drop p = chunksOf r ++ d.drop q ∧ p ≤ q ∧ (p ≤ d.length → q ≤ d.length) := by
  intro n
  induction n using Nat.strongRecOn with
  | _ n ih =>
    intro p q r h
    by_cases hn : n = 0
    · subst hn
      rw [rbits_zero] at h
      cases h
      exact ⟨rfl, (fun _ h => nomatch h), rfl, Nat.le_refl _, id⟩
    · cases hr : rbyte d p 0 (2 * 2 ^ (min 8 n - 1) - 1) with
      | error e => rw [rbits_err (by omega) hr] at h; cases h
      | ok y =>
        obtain ⟨b, p'⟩ := y
        rw [rbits_go (by omega) hr] at h
        obtain ⟨hx, hb0, hb1, rfl⟩ := rbyte_ok hr
        cases h2 : rbits d (n - 8) (p + 1) with
        | error e => rw [h2] at h; cases h
        | ok z =>
          obtain ⟨r', q'⟩ := z
          rw [h2] at h
          have h' : (Except.ok (bitsOf (min 8 n) b ++ r', q') : Except Nat (List Int × Nat)) = .ok (r, q) := h
          cases h'
          obtain ⟨i1, i2, i3, i4, i5⟩ := ih (n - 8) (by omega) _ _ _ h2
          obtain ⟨c1, c2⟩ := bits_byte (min 8 n) (by omega) (by omega) b hb0 hb1
          have hl := bitsOf_len (h := min 8 n) b (by omega)
          have hpl := (List.getElem?_eq_some_iff.mp hx).1
          refine ⟨?_, ?_, ?_, by omega, fun _ => i5 (by omega)⟩
          · rw [List.length_append, hl, i1]
            omega
          · intro x hx
            rcases List.mem_append.mp hx with h | h
            · exact c2 x h
            · exact i2 x h
          · have hne : bitsOf (min 8 n) b ++ r' ≠ [] := fun z => by
              have := congrArg List.length z
              rw [List.length_append, hl] at this
              simp at this
              omega
            have t8 : (bitsOf (min 8 n) b ++ r').take 8 = bitsOf (min 8 n) b := by
              by_cases h8 : 8 ≤ n
              · have : min 8 n = 8 := by omega
                rw [this] at hl ⊢
                exact List.take_left' hl
              · have : r' = [] := List.length_eq_zero_iff.mp (by omega)
                rw [this, List.append_nil]
                exact List.take_of_length_le (by omega)
            have d8 : (bitsOf (min 8 n) b ++ r').drop 8 = r' := by
              by_cases h8 : 8 ≤ n
              · have : min 8 n = 8 := by omega
                rw [this] at hl ⊢
                exact List.drop_left' hl
              · have : r' = [] := List.length_eq_zero_iff.mp (by omega)
                rw [this, List.append_nil]
                exact List.drop_of_length_le (by omega)
            rw [chunksOf_cons hne, t8, d8, c1, dp_mk hx, i3]
            rfl
theorem sevens_byte : ∀ n : Nat, AllB (sevens n) := by
  intro n
  induction n using Nat.strongRecOn with
  | _ n ih =>
    rw [sevens]
    split
    · intro x hx
      cases List.mem_singleton.mp hx
      omega
    · intro x hx
      rcases List.mem_cons.mp hx with rfl | h
      · omega
      · exact ih (n / 128) (by omega) x h
theorem chunksOf_byte (bits : List Int) (hb : Bits bits) : AllB (chunksOf bits) := by
  intro x hx
  unfold chunksOf at hx
  obtain ⟨k, hk, rfl⟩ := List.mem_map.mp hx
  have hk' := List.mem_range.mp hk
  have hl : (chunk bits k).length = min 8 (bits.length - 8 * k) := by rw [chunk, List.length_take, List.length_drop]
  obtain ⟨b0, b1, _⟩ := byte_bits (chunk bits k) (by omega) (by omega) (fun b h => hb b (List.mem_of_mem_drop (List.mem_of_mem_take h)))
  refine ⟨b0, Int.le_trans b1 ?_⟩
  have h8 : (chunk bits k).length ≤ 8 := by omega
  have : ∀ j : Fin 9, (2 : Int) * 2 ^ (j.val - 1) - 1 ≤ 255 := by decide
  exact this ⟨_, by omega⟩
theorem inputsRow_eq (bits : List Int) : inputsRow bits = 73 :: (sevens bits.length ++ chunksOf bits) := rfl
theorem inputsRow_byte {bits : List Int} (hb : Bits bits) : AllB (inputsRow bits) := by
  rw [inputsRow_eq]
  intro x hx
  rcases List.mem_cons.mp hx with rfl | h
  · omega
  · exact ((sevens_byte _).app (chunksOf_byte _ hb)) x h
theorem encode_byte {bits : List Int} (hb : Bits bits) : AllB (encode bits) := (inputsRow_byte hb).app (AllB.one (check_bd _).1 (check_bd _).2)
theorem inputsRow_len (bits : List Int) : (inputsRow bits).length = 1 + (sevens bits.length).length + (bits.length + 7) / 8 := by
  rw [inputsRow_eq, List.length_cons, List.length_append]
  have : (chunksOf bits).length = (bits.length + 7) / 8 := by rw [chunksOf, List.length_map, List.length_range]
  omega
theorem encode_len (bits : List Int) : (encode bits).length = 2 + (sevens bits.length).length + (bits.length + 7) / 8 := by
  rw [encode, List.length_append, inputsRow_len]
  simp
  omega
/-- what was told is read -/
theorem read_encode {bits : List Int} (hb : Bits bits) (hl : bits.length ≤ 5000) : readInputs (encode bits) = .ok bits := by
  have h0 : (encode bits).drop 0 = 73 :: (sevens bits.length ++ (chunksOf bits ++ [check (inputsRow bits)])) := by
    rw [List.drop_zero, encode, inputsRow_eq]
    show 73 :: (sevens bits.length ++ chunksOf bits) ++ _ = _
    rw [List.cons_append, List.append_assoc]
  obtain ⟨g0, d1⟩ := dp_get h0
  have r0 := rbyte_at (lo := 73) (hi := 73) g0 (by omega) (by omega)
  have hlen := encode_len bits
  have r1 := rnum_sev (d := encode bits) (most := 5000) bits.length ((encode bits).length + 1) (0 + 1) 0 1 _ d1 (by omega) (by omega) (by omega) (by omega) (fun h => absurd h (by decide))
  have e1 : (0 : Int) + (bits.length : Int) * 1 = (bits.length : Int) := by omega
  rw [e1] at r1
  have d2 : (encode bits).drop (0 + 1 + (sevens bits.length).length) = chunksOf bits ++ [check (inputsRow bits)] := by
    rw [← List.drop_drop, d1, List.drop_left]
  obtain ⟨r2, d3⟩ := rbits_chunks bits.length bits _ _ rfl hb d2
  rw [read_go r0 r1, Int.toNat_natCast, r2]
  have hp : 0 + 1 + (sevens bits.length).length + (bits.length + 7) / 8 = (inputsRow bits).length := by
    have := inputsRow_len bits
    omega
  rw [hp] at d3 ⊢
  have ht : (encode bits).take (inputsRow bits).length = inputsRow bits := by rw [encode, List.take_left]
  obtain ⟨g3, _⟩ := dp_get d3
  have r3 := rbyte_at (lo := check (inputsRow bits)) (hi := check (inputsRow bits)) g3 (Int.le_refl _) (Int.le_refl _)
  have r4 : rend (encode bits) (inputsRow bits).length = .ok () := by
    unfold rend
    rw [ht, r3]
    refine if_neg ?_
    rw [encode, List.length_append]
    simp
  show (match rend (encode bits) (inputsRow bits).length with | .error e => (.error e : Except Nat (List Int)) | .ok _ => .ok bits) = _
  rw [r4]
/-- what is read is told so -/
theorem encode_read {ns bits : List Int} (h : readInputs ns = .ok bits) : encode bits = ns ∧ Bits bits ∧ bits.length ≤ 5000 := by
  cases h0 : rbyte ns 0 73 73 with
  | error e => rw [read_err1 h0] at h; cases h
  | ok y =>
    obtain ⟨x, p1⟩ := y
    cases h1 : rnum ns 5000 (ns.length + 1) p1 0 1 with
    | error e => rw [read_err2 h0 h1] at h; cases h
    | ok y =>
      obtain ⟨many, p2⟩ := y
      rw [read_go h0 h1] at h
      cases h2 : rbits ns many.toNat p2 with
      | error e => rw [h2] at h; cases h
      | ok y =>
        obtain ⟨r, p3⟩ := y
        rw [h2] at h
        cases h3 : rend ns p3 with
        | error e =>
          have h' : (match rend ns p3 with | .error e => (.error e : Except Nat (List Int)) | .ok _ => .ok r) = .ok bits := h
          rw [h3] at h'
          cases h'
        | ok u =>
          have h' : (match rend ns p3 with | .error e => (.error e : Except Nat (List Int)) | .ok _ => .ok r) = .ok bits := h
          rw [h3] at h'
          cases h'
          obtain ⟨g0, a0, a1, rfl⟩ := rbyte_ok h0
          have hx : x = 73 := by omega
          subst hx
          obtain ⟨m, e1, d1, _, q1, q2⟩ := rnum_inv _ _ _ _ _ _ (by decide) (by decide) (by decide) h1
          obtain ⟨_, hm5⟩ := rnum_bd (by decide) (by decide) (by decide) h1
          have hm : many = (m : Int) := by omega
          rw [hm, Int.toNat_natCast] at h2
          obtain ⟨l2, b2, d2, q3, q4⟩ := rbits_inv _ _ _ _ h2
          have hlen : bits.length ≤ 5000 := by omega
          refine ⟨?_, b2, hlen⟩
          have dd : ns = inputsRow bits ++ ns.drop p3 := by
            have t0 := dp_mk g0
            rw [List.drop_zero] at t0
            rw [t0, d1, d2, inputsRow_eq, l2]
            simp only [List.cons_append, List.append_assoc]
            have t1 : (73 :: ns.drop (0 + 1)).drop p3 = ns.drop p3 := by rw [← t0]
            rw [d1, d2] at t1
            rw [t1]
          have hp3 : p3 = (inputsRow bits).length := by
            have hle := q4 q2
            have t := congrArg List.length dd
            rw [List.length_append, List.length_drop] at t
            omega
          unfold rend at h3
          cases h4 : rbyte ns p3 (check (ns.take p3)) (check (ns.take p3)) with
          | error e => rw [h4] at h3; cases h3
          | ok y =>
            obtain ⟨c, q⟩ := y
            rw [h4] at h3
            obtain ⟨g4, c0, c1, rfl⟩ := rbyte_ok h4
            have hend : ¬ p3 + 1 < ns.length := fun k => by
              have h5 : (if p3 + 1 < ns.length then (.error (p3 + 1) : Except Nat Unit) else .ok ()) = .ok u := h3
              rw [if_pos k] at h5
              cases h5
            have ht : ns.take p3 = inputsRow bits := by rw [hp3]; conv => lhs; rw [dd]; rw [List.take_left]
            rw [ht] at c0 c1
            have hc : c = check (inputsRow bits) := by omega
            have t := dp_mk g4
            rw [List.drop_of_length_le (by omega : ns.length ≤ p3 + 1), hc] at t
            rw [encode, ← t]
            exact dd.symm
end K87

set_option Elab.async false
set_option linter.all false
set_option maxRecDepth 100000
set_option maxHeartbeats 4000000
namespace K87
open PySem PySem.Spec PyProof.Rows L2
/-! ### flat data -/
def dInts (ns : List Int) : List PyData := ns.map PyData.int
theorem Bits.allB {bits : List Int} (h : Bits bits) : AllB bits := fun b hb => by
  have := h b hb
  omega
theorem dpAll_ints {K : PySem.W.Frag} {H : Hp} : ∀ ns : List Int, DpAll K H (ns.map V.int) (dInts ns)
  | [] => .nil
  | n :: ns => .cons (.int n) (dpAll_ints ns)
theorem dp_tup {K : PySem.W.Frag} {H : Hp} {p : Addr} {ns : List Int} (h : H p = some (.tup (ns.map V.int))) : Dp K H (.ref p) (.tuple (dInts ns)) := .tup (.inl (.inl h)) (dpAll_ints ns)
theorem dp_lst {K : PySem.W.Frag} {H : Hp} {p : Addr} {ns : List Int} (h : H p = some (.lst (ns.map V.int))) : Dp K H (.ref p) (.list (dInts ns)) := .lst (.inl (.inl h)) (dpAll_ints ns)
theorem small_ok : ∀ i : Fin 256, ((PyData.int (i.val : Int)).showable && decide ((PyData.int (i.val : Int)).shown.length ≤ 13) && decide ((PyData.int (i.val : Int)).weight ≤ 8)) = true := by decide +kernel
theorem small_int {i : Int} (h0 : 0 ≤ i) (h1 : i ≤ 255) : (PyData.int i).showable = true ∧ (PyData.int i).shown.length ≤ 13 ∧ (PyData.int i).weight ≤ 8 := by
  have z := small_ok ⟨i.toNat, by omega⟩
  have e : ((i.toNat : Nat) : Int) = i := by omega
  simp only [e, Bool.and_eq_true, decide_eq_true_eq] at z
  exact ⟨z.1.1, z.1.2, z.2⟩
theorem ints_all : ∀ ns : List Int, AllB ns → PyData.canLayAll0 (dInts ns) = true ∧ PyData.depthAll (dInts ns) = 0 ∧ PyData.weightAll (dInts ns) ≤ 9 * ns.length ∧ PyData.showableAll (dInts ns) = true ∧ PyData.hasDictAll (dInts ns) = false ∧ PyData.intsShortAll 13 (dInts ns) = true
  | [], _ => ⟨rfl, rfl, Nat.le_refl _, rfl, rfl, rfl⟩
  | n :: ns, h => by
    obtain ⟨h1, h2, h3, h4, h5, h6⟩ := ints_all ns (fun m hm => h m (List.mem_cons_of_mem _ hm))
    obtain ⟨s1, s2, s3⟩ := small_int (h n (by simp)).1 (h n (by simp)).2
    have e : dInts (n :: ns) = PyData.int n :: dInts ns := rfl
    rw [e]
    refine ⟨?_, ?_, ?_, ?_, ?_, ?_⟩
    · show (PyData.canLay0 (.int n) && PyData.canLayAll0 (dInts ns)) = true
      rw [h1]
      rfl
    · show max (PyData.depth (.int n)) (PyData.depthAll (dInts ns)) = 0
      rw [h2]
      rfl
    · show PyData.weight (.int n) + 1 + PyData.weightAll (dInts ns) ≤ 9 * (ns.length + 1)
      omega
    · show ((PyData.int n).showable && PyData.showableAll (dInts ns)) = true
      rw [s1, h4]
      rfl
    · show ((PyData.int n).hasDict || PyData.hasDictAll (dInts ns)) = false
      rw [h5]
      rfl
    · show (decide ((PyData.int n).shown.length ≤ 13) && PyData.intsShortAll 13 (dInts ns)) = true
      rw [h6, decide_eq_true s2]
      rfl
theorem eqvAll_self : ∀ ns : List Int, PyData.eqvAll (dInts ns) (dInts ns) = true
  | [] => rfl
  | n :: ns => by
    show (PyData.eqv (.int n) (.int n) && PyData.eqvAll (dInts ns) (dInts ns)) = true
    rw [eqvAll_self ns]
    show ((n == n) && true) = true
    simp
/-- a tuple of bytes can be shown -/
structure ShowT (d : PyData) : Prop where
  sh : d.showable = true
  hd : d.hasDict = false
  dp : d.depth ≤ 60
  ln : d.shown.length ≤ sizeLine
  sp : SeqAt.shaped d = true
theorem show_tup {ns : List Int} (h : AllB ns) (hl : ns.length ≤ 20000) : ShowT (.tuple (dInts ns)) := by
  obtain ⟨h1, h2, h3, h4, h5, h6⟩ := ints_all ns h
  have hd : PyData.depth (.tuple (dInts ns)) = 1 := by
    show PyData.depthAll (dInts ns) + 1 = 1
    rw [h2]
  refine ⟨h4, h5, by rw [hd]; decide, ?_, ?_⟩
  · refine Nat.le_trans (shown_le13 (d := .tuple (dInts ns)) ?_ h6) (by decide)
    show (PyData.canLayAll0 (dInts ns) && decide (PyData.depth (.tuple (dInts ns)) ≤ 64) && decide (PyData.weightAll (dInts ns) ≤ 2 ^ 20)) = true
    rw [h1, hd, decide_eq_true (show PyData.weightAll (dInts ns) ≤ 2 ^ 20 by omega)]
    rfl
  · show (PyData.canLayAll0 (dInts ns) && decide (PyData.depth (.tuple (dInts ns)) ≤ 64)) = true
    rw [h1, hd]
    rfl
theorem shaped_lst {ns : List Int} (h : AllB ns) : SeqAt.shaped (.list (dInts ns)) = true := by
  obtain ⟨h1, h2, _⟩ := ints_all ns h
  show (PyData.canLayAll0 (dInts ns) && decide (PyData.depthAll (dInts ns) + 1 ≤ 64)) = true
  rw [h1, h2]
  rfl
theorem eqv_tup (ns : List Int) : PyData.eqv (.tuple (dInts ns)) (.tuple (dInts ns)) = true := eqvAll_self ns
theorem eqv_lst (ns : List Int) : PyData.eqv (.list (dInts ns)) (.list (dInts ns)) = true := eqvAll_self ns
/-! ### the known rows -/
theorem known1 : readInputs [] = .error 0 := read_err1 rfl
theorem known2 : readInputs [80] = .error 0 := read_err1 rfl
theorem known3 : readInputs [73] = .error 1 := read_err2 (p1 := 1) (x := 73) rfl rfl
theorem known4 : readInputs [73, 128, 0] = .error 2 := read_err2 (p1 := 1) (x := 73) rfl rfl
theorem known5 : readInputs [73, 136, 40] = .error 2 := read_err2 (p1 := 1) (x := 73) rfl rfl
theorem known6 : readInputs [73, 1, 2] = .error 2 := by
  rw [read_go (p1 := 1) (x := 73) (p2 := 2) (many := 1) rfl rfl, show (1 : Int).toNat = 1 from rfl, rbits_err (e := 2) (by decide) rfl]
  rfl
theorem known7 : readInputs [73, 0, 73, 0] = .error 3 := by
  rw [read_go (p1 := 1) (x := 73) (p2 := 2) (many := 0) rfl rfl, show (0 : Int).toNat = 0 from rfl, rbits_zero]
  rfl
theorem known8 : readInputs [73, 0, 74] = .error 2 := by
  rw [read_go (p1 := 1) (x := 73) (p2 := 2) (many := 0) rfl rfl, show (0 : Int).toNat = 0 from rfl, rbits_zero]
  rfl
theorem known9 : readInputs [73, 9, 255, 2] = .error 3 := by
  rw [read_go (p1 := 1) (x := 73) (p2 := 2) (many := 9) rfl rfl, show (9 : Int).toNat = 9 from rfl, rbits_go (b := 255) (p' := 3) (by decide) rfl, rbits_err (e := 3) (by decide) rfl]
  rfl
end K87

set_option Elab.async false
set_option linter.all false
set_option maxRecDepth 100000
set_option maxHeartbeats 4000000
namespace K87
open PySem PySem.Spec PyProof.Rows L2 LamX
/-- all but the pen and the tables stands as before -/
def Kp (pen : Addr) (H H' : Hp) : Prop := ∀ b o, b ≠ pen → (∀ ps, o ≠ .tbl ps) → H b = some o → H' b = some o
theorem Kp.rf (pen : Addr) (H : Hp) : Kp pen H H := fun _ _ _ _ h => h
theorem Kp.tr {pen : Addr} {H H1 H2 : Hp} (a : Kp pen H H1) (b : Kp pen H1 H2) : Kp pen H H2 := fun c o n t h => b c o n t (a c o n t h)
theorem Kp.ex {pen : Addr} {H H' : Hp} (e : Ex H H') : Kp pen H H' := fun b o _ _ h => e b o h
theorem Kp.exb {pen : Addr} {H H' : Hp} (e : ExB pen H H') : Kp pen H H' := fun b o n _ h => e b o n h
theorem Kp.exn {pen : Addr} {H H' : Hp} (e : ExtN H H') : Kp pen H H' := fun b o _ t h => e b o h t
theorem Kp.lst {pen p : Addr} {H H' : Hp} {xs : List V} (k : Kp pen H H') (n : p ≠ pen) (h : H p = some (.lst xs)) : H' p = some (.lst xs) := k p _ n (fun _ z => nomatch z) h
theorem PenAt.exn {H H' : Hp} {p : Addr} (h : PenAt H p) (e : ExtN H H') : PenAt H' p := let ⟨x, h1, h2, h3⟩ := h; ⟨x, e _ _ h1 (fun _ z => nomatch z), h2, h3⟩
theorem tabs_ex {T : List (Addr × Str)} {H H' : Hp} (t : Tabs T H) (e : Ex H H') : Tabs T H' := fun p hp => (t p hp).ext e
theorem tabs_exb {T : List (Addr × Str)} {H H' : Hp} {pen : Addr} (t : Tabs T H) (hp : PenAt H pen) (e : ExB pen H H') : Tabs T H' := fun p hm => by
  obtain ⟨x, hx, _⟩ := hp
  obtain ⟨ps, h1, h2, h3⟩ := t p hm
  have n1 : p.1 ≠ pen := fun z => by
    rw [z, hx] at h1
    cases h1
  refine ⟨ps, e _ _ n1 h1, h2, fun pos cv hc => ?_⟩
  obtain ⟨c0, e1, e2⟩ := h3 pos cv hc
  have n2 : c0 ≠ pen := fun z => by
    rw [z, hx] at e2
    cases e2
  exact ⟨c0, e1, e _ _ n2 e2⟩
theorem tabs_lst {T : List (Addr × Str)} {H : Hp} {D : Addr} {xs : List V} {o : HO} (t : Tabs T H) (hD : H D = some (.lst xs)) : Tabs T (upd H D o) := fun p hm => by
  obtain ⟨ps, h1, h2, h3⟩ := t p hm
  have n1 : p.1 ≠ D := fun z => by
    rw [z, hD] at h1
    cases h1
  refine ⟨ps, by rw [upd_ne n1]; exact h1, h2, fun pos cv hc => ?_⟩
  obtain ⟨c0, e1, e2⟩ := h3 pos cv hc
  have n2 : c0 ≠ D := fun z => by
    rw [z, hD] at e2
    cases e2
  exact ⟨c0, e1, by rw [upd_ne n2]; exact e2⟩
theorem PenAt.ne {H : Hp} {p q : Addr} {o : HO} (h : PenAt H p) (hq : H q = none) : q ≠ p := fun z => by
  obtain ⟨x, hx, _⟩ := h
  rw [z, hx] at hq
  cases hq
theorem map_int_inj : ∀ {xs ys : List Int}, xs.map V.int = ys.map V.int → xs = ys
  | [], [], _ => rfl
  | [], _ :: _, h => nomatch h
  | _ :: _, [], h => nomatch h
  | x :: xs, y :: ys, h => by
    rw [List.map_cons, List.map_cons, List.cons.injEq] at h
    rw [V.int.inj h.1, map_int_inj h.2]
theorem scInts (ns : List Int) : ∀ x ∈ ns.map V.int, scV x = true := fun x hx => by
  obtain ⟨n, _, rfl⟩ := List.mem_map.mp hx
  rfl
theorem row_ok {bits : List Int} (hb : Bits bits) (hl : bits.length ≤ 5000) {d : AD} (hd : itemsD d = bits.map V.int) (hs : isSeq d = true) : isRow d = true := by
  unfold isRow areBits
  rw [hd, hs, List.length_map, decide_eq_true hl, Bool.and_true, Bool.true_and, List.all_eq_true]
  intro x hx
  obtain ⟨b, h, rfl⟩ := List.mem_map.mp hx
  rcases hb b h with rfl | rfl <;> rfl
theorem bytes_ok {ns : List Int} (hb : AllB ns) {d : AD} (hd : itemsD d = ns.map V.int) (hs : isSeq d = true) : isBytes d = true := by
  unfold isBytes
  rw [hd, hs, Bool.true_and, List.all_eq_true]
  intro x hx
  obtain ⟨b, h, rfl⟩ := List.mem_map.mp hx
  have := hb b h
  simp [within]
  omega
/-- a value that is no inputs, no bytes -/
def OddD (bad : AD → Bool) (pen : Addr) (H : Hp) (v : V) : Prop := ∃ d, DAt H v d ∧ (itemsD d).length ≤ 50000 ∧ bad d = false ∧ v ≠ .ref pen
theorem DAt.kp {pen : Addr} {H H' : Hp} {v : V} {d : AD} (h : DAt H v d) (k : Kp pen H H') (n : v ≠ .ref pen) : DAt H' v d := by
  cases h with
  | sc h => exact .sc h
  | lst h hx => exact .lst (k _ _ (fun z => n (by rw [z])) (fun _ z => nomatch z) h) hx
  | tup h hx => exact .tup (k _ _ (fun z => n (by rw [z])) (fun _ z => nomatch z) h) hx
  | dct h => exact .dct (k _ _ (fun z => n (by rw [z])) (fun _ z => nomatch z) h)
theorem OddD.kp {bad : AD → Bool} {pen : Addr} {H H' : Hp} {v : V} (h : OddD bad pen H v) (k : Kp pen H H') : OddD bad pen H' v := let ⟨d, h1, h2, h3, h4⟩ := h; ⟨d, h1.kp k h4, h2, h3, h4⟩
theorem no_ne {x y : V} (h : x = y) : ¬ (!decide (x = y)) = true := by
  rw [decide_eq_true h]
  exact Bool.false_ne_true
theorem no_neT (ns : List Int) : ¬ (!PyData.eqv (.tuple (dInts ns)) (.tuple (dInts ns))) = true := by
  rw [eqv_tup]
  exact Bool.false_ne_true
theorem no_neL (ns : List Int) : ¬ (!PyData.eqv (.list (dInts ns)) (.list (dInts ns))) = true := by
  rw [eqv_lst]
  exact Bool.false_ne_true
/-- a word and a value in a tuple -/
theorem dp_pair {K : PySem.W.Frag} {H : Hp} {p : Addr} {z : Str} {v : V} {d : PyData} (h : H p = some (.tup [.str z, v])) (hd : Dp K H v d) : Dp K H (.ref p) (.tuple [.str z, d]) := .tup (.inl (.inl h)) (.cons (.str z) (.cons hd .nil))
theorem no_neP (z : Str) (d : PyData) (hd : PyData.eqv d d = true) : ¬ (!PyData.eqv (.tuple [.str z, d]) (.tuple [.str z, d])) = true := by
  have e : PyData.eqv (.tuple [.str z, d]) (.tuple [.str z, d]) = true := by
    show (z == z && (PyData.eqv d d && true)) = true
    rw [hd]
    simp
  rw [e]
  exact Bool.false_ne_true
theorem shaped_int {z : Str} (hz : PyData.canLay0 (.str z) = true) (i : Int) : SeqAt.shaped (.tuple [.str z, .int i]) = true := by
  show (PyData.canLay0 (.str z) && (PyData.canLay0 (.int i) && true) && decide (max 0 (max 0 0) + 1 ≤ 64)) = true
  rw [hz]
  rfl
theorem shaped_str {z y : Str} (hz : PyData.canLay0 (.str z) = true) (hy : PyData.canLay0 (.str y) = true) : SeqAt.shaped (.tuple [.str z, .str y]) = true := by
  show (PyData.canLay0 (.str z) && (PyData.canLay0 (.str y) && true) && decide (max 0 (max 0 0) + 1 ≤ 64)) = true
  rw [hz, hy]
  rfl
theorem lay_bytes : PyData.canLay0 (.str "bytes") = true := by decide +kernel
theorem lay_value : PyData.canLay0 (.str "value") = true := by decide +kernel
theorem lay_inputs : PyData.canLay0 (.str "inputs") = true := by decide +kernel
theorem lay_data : PyData.canLay0 (.str "data") = true := by decide +kernel
theorem row_long {xs : List V} (h : 5000 < xs.length) : isRow (.lst xs) = false := by
  unfold isRow
  rw [show decide ((itemsD (.lst xs)).length ≤ 5000) = false from decide_eq_false (by show ¬ xs.length ≤ 5000; omega), Bool.and_false]
theorem bytes_last {xs : List V} {v : V} (h : within (.sc v) 0 255 = false) : isBytes (.lst (xs ++ [v])) = false := by
  unfold isBytes
  show (true && (xs ++ [v]).all fun v => within (.sc v) 0 255) = false
  rw [List.all_append, Bool.true_and]
  simp [h]
theorem bytes_first {xs : List V} {v : V} (h : within (.sc v) 0 255 = false) : isBytes (.lst ([v] ++ xs)) = false := by
  unfold isBytes
  show (true && (v :: xs).all fun v => within (.sc v) 0 255) = false
  rw [List.all_cons, h]
  rfl
theorem sc_app {xs ys : List V} (hx : ∀ x ∈ xs, scV x = true) (hy : ∀ y ∈ ys, scV y = true) : ∀ z ∈ xs ++ ys, scV z = true := fun z hz => (List.mem_append.mp hz).elim (hx z) (hy z)
theorem sc_one {v : V} (h : scV v = true) : ∀ x ∈ [v], scV x = true := fun x hx => by
  rw [List.mem_singleton.mp hx]
  exact h
/-- a known row and the place where it is found bad -/
def KnownAt (pen : Addr) (H : Hp) (v : V) : Prop := ∃ (t l : Addr) (ns : List Int) (e : Nat), v = .ref t ∧ H t = some (.tup [.ref l, .int (e : Int)]) ∧ H l = some (.lst (ns.map V.int)) ∧ ns.length ≤ 100 ∧ AllB ns ∧ readInputs ns = .error e ∧ t ≠ pen ∧ l ≠ pen
theorem KnownAt.kp {pen : Addr} {H H' : Hp} {v : V} (h : KnownAt pen H v) (k : Kp pen H H') : KnownAt pen H' v := by
  obtain ⟨t, l, ns, e, rfl, h1, h2, h3, h4, h5, h6, h7⟩ := h
  exact ⟨t, l, ns, e, rfl, k _ _ h6 (fun _ z => nomatch z) h1, k _ _ h7 (fun _ z => nomatch z) h2, h3, h4, h5, h6, h7⟩
theorem known_mk {pen l t : Addr} {H : Hp} {ns : List Int} {e : Nat} (hp : PenAt H pen) (nl : H l = none) (nt : upd H l (.lst (ns.map V.int)) t = none) (hl : ns.length ≤ 100) (hb : AllB ns) (hr : readInputs ns = .error e) :
    Ex H (upd (upd H l (.lst (ns.map V.int))) t (.tup [.ref l, .int (e : Int)])) ∧ KnownAt pen (upd (upd H l (.lst (ns.map V.int))) t (.tup [.ref l, .int (e : Int)])) (.ref t) := by
  have e1 := (Ex.rf H).nw nl (o := .lst (ns.map V.int))
  exact ⟨e1.nw nt, t, l, ns, e, rfl, upd_same, ((Ex.rf _).nw nt) _ _ upd_same, hl, hb, hr, (hp.ex e1).ne (o := .dK []) nt, hp.ne (o := .dK []) nl⟩
theorem allB_dec {ns : List Int} (h : (ns.all fun n => decide (0 ≤ n) && decide (n ≤ 255)) = true) : AllB ns := fun n hn => by
  have := List.all_eq_true.mp h n hn
  simpa using this
theorem ex_same {H0 H : Hp} {p : Addr} {o : HO} (_ : Ex H0 (upd H p o)) : upd H p o p = some o := upd_same
end K87

set_option Elab.async false
set_option linter.all false
set_option maxRecDepth 100000
set_option maxHeartbeats 4000000
namespace K87
open PySem PySem.Spec PyProof.Rows L2 LamX
section
variable {P : Program} {w : World} {K : PySem.W.Frag} {mg : Str → Option Value} {base : Heap} {a : Ad}
theorem Fun.kw {x q pn : Str} {st : Stmt} {f : Addr} {fd : FuncData} (F : L2.Fun K x q st f fd) (h : ∀ (kV doc pm cdv ct v : Value) (an : Option Addr), bindArgs (PySem.W.fnOf x q (defArgs st) (defBody st) (defScope st) .none kV doc pm an cdv ct) ⟨[], [(pn, v)]⟩ = pure [(pn, v)]) :
    ∀ (s : Shared) (v : Value), BindsTo s fd ⟨[], [(pn, v)]⟩ [(pn, v)] := by
  obtain ⟨oc, od, kV, doc, pm, an, cdv, ct, osl, rfl, lk, hcd⟩ := F.ex
  exact fun s v => BindsTo.of_eq (h _ _ _ _ _ _ _)
def QL : Str := "law.<locals>.<lambda>"
theorem law_run (A : All P w K mg base a) {c PT : Addr} (TB : TabB base mg c PT) {oc dV kV doc pm ct : Value} {od an : Option Addr} {osl : Array (Option Value)}
    (lkL : K.lookup a.f_law = some ⟨oc, od, .func (PySem.W.fnOf "law" "law" (defArgs s_law) (defBody s_law) (defScope s_law) dV kV doc pm an (.ref c) ct), osl⟩) (hcL : PySem.W.codeIn K (.ref c) "law" = true)
    {s : Shared} {H : Hp} {u : Value} {v : V} {Q : VK} {E : XK} (hr0 : Room 12 callerA) (e0 : Env0 P w K mg base callerA [] s H) (hb : BindsTo s (PySem.W.fnOf "law" "law" (defArgs s_law) (defBody s_law) (defScope s_law) dV kV doc pm an (.ref c) ct) ⟨[u], []⟩ [("script", u)]) (rv : RelV v u)
    (hT : Tabs [(PT, QL)] H) {ns : List Int} {sa : Addr} (hv : v = .ref sa) (hs : SqL K H sa (ns.map V.int)) (hl : ns.length ≤ 100000) (hq : ∀ H', Q (.bl true) H') :
    codeAny (model P w) callerA (.call (.ref a.f_law) ⟨[u], []⟩) (CR (L2.CX P w) [] P w H s Q E) s := by
  have T := A.T
  obtain ⟨oc2, od2, kV2, doc2, pm2, an2, cdv2, ct2, osl2, hfd, lkC, hcC⟩ := A.F__law_caught.ex
  have bC := A.b__law_caught
  rw [hfd] at lkC bC
  have kw_inputs_bytes := Fun.kw (pn := "inputs") A.F_inputs_bytes (fun _ _ _ _ _ _ _ => rfl)
  have kw_read_inputs_bytes := Fun.kw (pn := "data") A.F_read_inputs_bytes (fun _ _ _ _ _ _ _ => rfl)
  refine run_ofS (N := N_law) (ps := ["script"]) (us := [u]) (vs := [v]) lkL hcL sc_law hr0 e0 hb (.cons rv .nil) rfl fun hr => ?_
  have hgd : (callerA.deeper (envOfC "law" (defScope s_law) s.heap.objs.size a.f_law (.ref c))).guards = some [] := rfl
  refine ⟨_, (pss_cons (ps_set (i := 1) sc_law.nd rfl (Or.inr rfl) (pe_call (ok__law_pen A) (hr.mono (by decide)) (by rfl) A.g__law_pen A.k__law_pen A.b__law_pen .nil (passes_own rfl rfl rfl rfl) (pa_cons (pv 0) pa_nil)))
      (pss_cons (ps_for (passes_of rfl) rfl (pi_range1 (by rfl) T.m_range (pa_cons pe_int pa_nil)) (pg_name (i := 2) sc_law.nd rfl (Or.inl rfl)) (pss_cons (ps_set (i := 3) sc_law.nd rfl (Or.inl rfl) (pe_call (ok__law_pick A) (hr.mono (by decide)) (by rfl) A.g__law_pick A.k__law_pick A.b__law_pick .nil (passes_own rfl rfl rfl rfl) (pa_cons (pv 1) (pa_cons (pe_lst (pa_cons pe_int (pa_cons pe_int (pa_cons pe_int (pa_cons pe_int (pa_cons pe_int (pa_cons pe_int (pa_cons pe_int (pa_cons pe_int (pa_cons pe_int (pa_cons pe_int (pa_cons (pe_call (ok__law_draw A) (hr.mono (by decide)) (by rfl) A.g__law_draw A.k__law_draw A.b__law_draw .nil (passes_own rfl rfl rfl rfl) (pa_cons (pv 1) (pa_cons pe_int pa_nil))) (pa_cons pe_int pa_nil))))))))))))) pa_nil))))
      (pss_cons (ps_set (i := 4) sc_law.nd rfl (Or.inl rfl) (pe_ifExp (pt_cmpR op_lt (pv 3) pe_int (nomark _)) (pe_lc (own := [("at", 5)]) rfl sc_law.nd (pi_range1 (by rfl) T.m_range (pa_cons (pv 3) pa_nil)) (blkOk_by (own := [("at", 5)]) (N := N_law) (sc := defScope s_law) (by decide +kernel)) (fun _ _ _ _ _ => (pg_name (i := 5) sc_law.nd rfl (Or.inl rfl))) (fun _ _ _ _ _ => pts_nil) (fun _ _ _ _ _ => (pe_callTy call_int1 (by rfl) T.m_int (by decide +kernel) (pa_cons (pe_cmpR op_eq (pe_call (ok__law_draw A) (hr.mono (by decide)) (by rfl) A.g__law_draw A.k__law_draw A.b__law_draw .nil passL (pa_cons (pv 1) (pa_cons pe_int pa_nil))) pe_int (nomark _)) pa_nil)))) (pe_op op_rep (pe_lst (pa_cons pe_int (pa_cons pe_int (pa_cons pe_int (pa_cons pe_int (pa_cons pe_int pa_nil)))))) pe_int)))
      (pss_cons (ps_set (i := 6) sc_law.nd rfl (Or.inl rfl) (pe_call (ok__law_inputs_row A) (hr.mono (by decide)) (by rfl) A.g__law_inputs_row A.k__law_inputs_row A.b__law_inputs_row .nil (passes_own rfl rfl rfl rfl) (pa_cons (pv 4) pa_nil)))
      (pss_cons (ps_set (i := 7) sc_law.nd rfl (Or.inl rfl) (pe_op op_cat (pv 6) (pe_lst (pa_cons (pe_call (ok__law_check A) (hr.mono (by decide)) (by rfl) A.g__law_check A.k__law_check A.b__law_check .nil (passes_own rfl rfl rfl rfl) (pa_cons (pv 6) pa_nil)) pa_nil))))
      (pss_cons (ps_set (i := 8) sc_law.nd rfl (Or.inl rfl) (pe_call (ok_inputs_bytes A) (hr.mono (by decide)) (by rfl) A.g_inputs_bytes A.k_inputs_bytes A.b_inputs_bytes .nil (passes_own rfl rfl rfl rfl) (pa_cons (pv 4) pa_nil)))
      (pss_cons (ps_if (PW.pt (pw_or (pt_cmpR op_ne (pe_callB (call_reprD hgd (hu64_of hr)) (by rfl) T.m_repr (by decide +kernel) (pa_cons (pv 8) pa_nil)) (pe_callB (call_reprD hgd (hu64_of hr)) (by rfl) T.m_repr (by decide +kernel) (pa_cons (pe_callTy call_tuple_of (by rfl) T.m_tuple (by decide +kernel) (pa_cons (pv 7) pa_nil)) pa_nil)) (nomark _)) (pw_or (pt_cmpR (op_neDK (K := K) rfl (hu64_of hr)) (pe_callKw1 (ok_inputs_bytes A) (hr.mono (by decide)) (by rfl) A.g_inputs_bytes A.k_inputs_bytes kw_inputs_bytes (passes_own rfl rfl rfl rfl) (pe_callTy call_tuple_of (by rfl) T.m_tuple (by decide +kernel) (pa_cons (pv 4) pa_nil))) (pv 8) (nomark _)) (pw_or1 (pt_cmpR op_ne (pe_callB call_len_seq (by rfl) T.m_len PySem.boot_len (pa_cons (pv 8) pa_nil)) (pe_op op_add (pe_op op_add pe_int (pe_callB call_len_seq (by rfl) T.m_len PySem.boot_len (pa_cons (pe_call (ok__law_sevens A) (hr.mono (by decide)) (by rfl) A.g__law_sevens A.k__law_sevens A.b__law_sevens .nil (passes_own rfl rfl rfl rfl) (pa_cons (pv 3) pa_nil)) pa_nil))) (pe_op op_fdiv (pe_op op_add (pv 3) pe_int) pe_int)) (nomark _)))))) (pss_one (ps_ret pe_bl)) pss_nil)
      (pss_cons (ps_if (PW.pt (pw_or (pt_cmpR op_ne (pe_callB (call_reprD hgd (hu64_of hr)) (by rfl) T.m_repr (by decide +kernel) (pa_cons (pe_call (ok_read_inputs_bytes A) (hr.mono (by decide)) (by rfl) A.g_read_inputs_bytes A.k_read_inputs_bytes A.b_read_inputs_bytes .nil (passes_own rfl rfl rfl rfl) (pa_cons (pv 8) pa_nil)) pa_nil)) (pe_callB (call_reprD hgd (hu64_of hr)) (by rfl) T.m_repr (by decide +kernel) (pa_cons (pe_callTy call_tuple_of (by rfl) T.m_tuple (by decide +kernel) (pa_cons (pv 4) pa_nil)) pa_nil)) (nomark _)) (pw_or1 (pt_cmpR (op_neDK (K := K) rfl (hu64_of hr)) (pe_callKw1 (ok_read_inputs_bytes A) (hr.mono (by decide)) (by rfl) A.g_read_inputs_bytes A.k_read_inputs_bytes kw_read_inputs_bytes (passes_own rfl rfl rfl rfl) (pv 8)) (pe_callTy call_tuple_of (by rfl) T.m_tuple (by decide +kernel) (pa_cons (pv 4) pa_nil)) (nomark _))))) (pss_one (ps_ret pe_bl)) pss_nil)
      (pss_cons (ps_for (passes_of rfl) rfl (pi_range1 (by rfl) T.m_range (pa_cons (pe_ifExp (pt_cmpR op_lt (pv 3) pe_int (nomark _)) pe_int pe_int) pa_nil)) (pg_name (i := 9) sc_law.nd rfl (Or.inl rfl)) (pss_cons (ps_set (i := 10) sc_law.nd rfl (Or.inr rfl) (pe_call (ok__law_bent_row A) (hr.mono (by decide)) (by rfl) A.g__law_bent_row A.k__law_bent_row A.b__law_bent_row .nil (passes_own rfl rfl rfl rfl) (pa_cons (pv 1) (pa_cons (pv 6) pa_nil))))
      (pss_cons (ps_par (i := 11) (j := 12) rfl sc_law.nd rfl rfl (by decide) rfl rfl (pa_cons (pe_call (ok__law_inputs_bad A) (hr.mono (by decide)) (by rfl) A.g__law_inputs_bad A.k__law_inputs_bad A.b__law_inputs_bad .nil (passes_own rfl rfl rfl rfl) (pa_cons (pv 10) pa_nil)) (pa_cons (LamA.pe_lam (T := [(PT, QL)]) (k := 6) rfl A.g__law_caught A.k__law_caught lkC hcC bC sc__law_caught rfl (by first | exact Or.inl rfl | exact Or.inr (Or.inl rfl)) (caught_gives rfl rfl rfl rfl rfl A _ _) TB rfl (List.mem_singleton.mpr rfl) (fun p hp _ => by rw [List.mem_singleton.mp hp]; rfl) (hr.mono (by decide)) (LamA.lamS2_by (N := N_law) (sc := defScope s_law) (by decide +kernel)) (.none rfl (fun _ _ _ _ => rfl)) (fun _ _ _ _ _ _ _ hrZ => (pe_call (ok_read_inputs_bytes A) (hrZ.mono (by decide)) (by rfl) A.g_read_inputs_bytes A.k_read_inputs_bytes A.b_read_inputs_bytes .nil (passes_own rfl rfl rfl rfl) (pa_cons (pv 10) pa_nil)))) pa_nil)) (by rfl))
      (pss_one (ps_if (PW.pt (pw_or (PW.pt (pw_and (pt_cmpR op_notN (pv 11) pe_non (nomark _)) (pw_and1 (pt_cmpR (op_neDK (K := K) rfl (hu64_of hr)) (pv 12) (pe_tup (pa_cons pe_str (pa_cons (pv 11) pa_nil))) (nomark _))))) (pw_or1 (PW.pt (pw_and (pt_cmpR op_isN (pv 11) pe_non (nomark _)) (pw_and1 (PW.pt (pw_or (pt_not (pt_val (pe_callB call_isi (by rfl) T.m_isinstance (by decide +kernel) (pa_cons (pv 12) (pa_cons (pe_bty (n := "list") (by rfl) T.m_list (by decide +kernel)) pa_nil))))) (pw_or1 (pt_cmpR (op_neDK (K := K) rfl (hu64_of hr)) (pe_callTy call_list_of (by rfl) T.m_list (by decide +kernel) (pa_cons (pe_call (ok_inputs_bytes A) (hr.mono (by decide)) (by rfl) A.g_inputs_bytes A.k_inputs_bytes A.b_inputs_bytes .nil (passes_own rfl rfl rfl rfl) (pa_cons (pe_ix ix_list (pv 12) pe_int (fun _ _ => rfl)) pa_nil)) pa_nil)) (pv 10) (nomark _))))))))))) (pss_one (ps_ret pe_bl)) pss_nil)))))
      (pss_cons (ps_asg (pe_tup (pa_cons (pe_call (ok__law_pick A) (hr.mono (by decide)) (by rfl) A.g__law_pick A.k__law_pick A.b__law_pick .nil (passes_own rfl rfl rfl rfl) (pa_cons (pv 1) (pa_cons (pe_lst (pa_cons pe_non (pa_cons pe_int (pa_cons pe_str (pa_cons (pe_lst (pa_cons pe_int pa_nil)) (pa_cons (pe_lst (pa_cons pe_bl pa_nil)) (pa_cons (pe_op op_rep (pe_lst (pa_cons pe_int pa_nil)) pe_int) pa_nil))))))) pa_nil))) (pa_cons (pe_call (ok__law_pick A) (hr.mono (by decide)) (by rfl) A.g__law_pick A.k__law_pick A.b__law_pick .nil (passes_own rfl rfl rfl rfl) (pa_cons (pv 1) (pa_cons (pe_lst (pa_cons pe_non (pa_cons pe_int (pa_cons (pe_op op_cat (pv 7) (pe_lst (pa_cons pe_int pa_nil))) (pa_cons (pe_op op_cat (pe_lst (pa_cons (pe_un un_neg pe_int) pa_nil)) (pv 7)) (pa_cons (pe_op op_cat (pv 7) (pe_lst (pa_cons pe_bl pa_nil))) (pa_cons pe_str (pa_cons pe_dnewK pa_nil)))))))) pa_nil))) pa_nil))) (pg_tup2 (K := K) (i := 13) (j := 14) rfl rfl sc_law.nd rfl rfl (Or.inr rfl) (Or.inr rfl) (by first | exact Or.inl rfl | exact Or.inr rfl) (by first | exact Or.inl rfl | exact Or.inr rfl)))
      (pss_one (ps_if (PW.pt (pw_or (pt_cmpR (op_neDK (K := K) rfl (hu64_of hr)) (LamA.pe_lam (T := [(PT, QL)]) (k := 6) rfl A.g__law_caught A.k__law_caught lkC hcC bC sc__law_caught rfl (by first | exact Or.inl rfl | exact Or.inr (Or.inl rfl)) (caught_gives rfl rfl rfl rfl rfl A _ _) TB rfl (List.mem_singleton.mpr rfl) (fun p hp _ => by rw [List.mem_singleton.mp hp]; rfl) (hr.mono (by decide)) (LamA.lamS2_by (N := N_law) (sc := defScope s_law) (by decide +kernel)) (.none rfl (fun _ _ _ _ => rfl)) (fun _ _ _ _ _ _ _ hrZ => (pe_call (ok_inputs_bytes A) (hrZ.mono (by decide)) (by rfl) A.g_inputs_bytes A.k_inputs_bytes A.b_inputs_bytes .nil (passes_own rfl rfl rfl rfl) (pa_cons (pv 13) pa_nil)))) (pe_tup (pa_cons pe_str (pa_cons pe_str pa_nil))) (nomark _)) (pw_or1 (pt_cmpR (op_neDK (K := K) rfl (hu64_of hr)) (LamA.pe_lam (T := [(PT, QL)]) (k := 6) rfl A.g__law_caught A.k__law_caught lkC hcC bC sc__law_caught rfl (by first | exact Or.inl rfl | exact Or.inr (Or.inl rfl)) (caught_gives rfl rfl rfl rfl rfl A _ _) TB rfl (List.mem_singleton.mpr rfl) (fun p hp _ => by rw [List.mem_singleton.mp hp]; rfl) (hr.mono (by decide)) (LamA.lamS2_by (N := N_law) (sc := defScope s_law) (by decide +kernel)) (.one "a1" 0 _ _ rfl rfl (fun _ _ _ _ _ => ⟨_, rfl, fun _ => rfl⟩) rfl) (fun _ _ _ _ _ _ _ hrZ => (pe_call (ok_read_inputs_bytes A) (hrZ.mono (by decide)) (by rfl) A.g_read_inputs_bytes A.k_read_inputs_bytes A.b_read_inputs_bytes .nil (passes_own rfl rfl rfl rfl) (pa_cons (pv 14) pa_nil)))) (pe_tup (pa_cons pe_str (pa_cons pe_str pa_nil))) (nomark _))))) (pss_one (ps_ret pe_bl)) pss_nil))))))))))))
      (pss_cons (ps_set (i := 15) sc_law.nd rfl (Or.inl rfl) (pe_lst (pa_cons (pe_tup (pa_cons (pe_lst pa_nil) (pa_cons pe_int pa_nil))) (pa_cons (pe_tup (pa_cons (pe_lst (pa_cons pe_int pa_nil)) (pa_cons pe_int pa_nil))) (pa_cons (pe_tup (pa_cons (pe_lst (pa_cons pe_int pa_nil)) (pa_cons pe_int pa_nil))) (pa_cons (pe_tup (pa_cons (pe_lst (pa_cons pe_int (pa_cons pe_int (pa_cons pe_int pa_nil)))) (pa_cons pe_int pa_nil))) (pa_cons (pe_tup (pa_cons (pe_lst (pa_cons pe_int (pa_cons pe_int (pa_cons pe_int pa_nil)))) (pa_cons pe_int pa_nil))) (pa_cons (pe_tup (pa_cons (pe_lst (pa_cons pe_int (pa_cons pe_int (pa_cons pe_int pa_nil)))) (pa_cons pe_int pa_nil))) (pa_cons (pe_tup (pa_cons (pe_lst (pa_cons pe_int (pa_cons pe_int (pa_cons pe_int (pa_cons pe_int pa_nil))))) (pa_cons pe_int pa_nil))) (pa_cons (pe_tup (pa_cons (pe_lst (pa_cons pe_int (pa_cons pe_int (pa_cons pe_int pa_nil)))) (pa_cons pe_int pa_nil))) (pa_cons (pe_tup (pa_cons (pe_lst (pa_cons pe_int (pa_cons pe_int (pa_cons pe_int (pa_cons pe_int pa_nil))))) (pa_cons pe_int pa_nil))) pa_nil)))))))))))
      (pss_one (ps_ret (pe_cmpR (op_eqDK (K := K) rfl (hu64_of hr)) (pe_lc (own := [("row", 6), ("at", 5)]) rfl sc_law.nd (pi_list (pv 15)) (blkOk_by (own := [("row", 6), ("at", 5)]) (N := N_law) (sc := defScope s_law) (by decide +kernel)) (fun _ _ _ _ _ => (pg_tup2 (K := K) (i := 6) (j := 5) rfl rfl sc_law.nd rfl rfl (Or.inr rfl) (Or.inl rfl) (by first | exact Or.inl rfl | exact Or.inr rfl) (by first | exact Or.inl rfl | exact Or.inr rfl))) (fun _ _ _ _ _ => (pts_one (pt_cmpR (op_neDK (K := K) rfl (hu64_of hr)) (LamA.pe_lam (T := [(PT, QL)]) (k := 6) rfl A.g__law_caught A.k__law_caught lkC hcC bC sc__law_caught rfl (by first | exact Or.inl rfl | exact Or.inr (Or.inl rfl)) (caught_gives rfl rfl rfl rfl rfl A _ _) TB rfl (List.mem_singleton.mpr rfl) (fun p hp _ => by rw [List.mem_singleton.mp hp]; rfl) (hr.mono (by decide)) (LamA.lamS2_by (N := N_law) (sc := { kind := .function, names := [(".0", .local), ("row", .cell), ("at", .local), ("_law_caught", .globalImplicit)], isGenerator := false, isCoroutine := false }) (by decide +kernel)) (.none rfl (fun _ _ _ _ => rfl)) (fun _ _ _ _ _ _ _ hrZ => (pe_call (ok_read_inputs_bytes A) (hrZ.mono (by decide)) (by rfl) A.g_read_inputs_bytes A.k_read_inputs_bytes A.b_read_inputs_bytes .nil (passes_own rfl rfl rfl rfl) (pa_cons (pv 6) pa_nil)))) (pe_tup (pa_cons pe_str (pa_cons (pv 5) pa_nil))) (nomark _)))) (fun _ _ _ _ _ => (pv 6))) (pe_lst pa_nil) (nomark _))))))), ?_⟩
  subst hv
  refine ⟨_, rfl, sa, ns, rfl, hs, hl, fun H1 pen e1 n1 p1 => ?_⟩
  refine ⟨5, rfl, by decide, by decide, for_it walk_range (fun i σ H' => ∃ y2 y3 y4 y5 y6 y7 y8 y9 y10 y11 y12 y13 y14 y15 : Option V, σ = [some (.ref sa), some (.ref pen), y2, y3, y4, y5, y6, y7, y8, y9, y10, y11, y12, y13, y14, y15] ∧ PenAt H' pen ∧ Tabs [(PT, QL)] H')
    ⟨_, _, _, _, _, _, _, _, _, _, _, _, _, _, rfl, p1, tabs_ex hT e1⟩ (fun _ _ _ _ _ => trivial) (fun i x σ H2 H' hi hP y => ?_) fun σ H2 hP => ?_⟩
  · obtain ⟨y2, y3, y4, y5, y6, y7, y8, y9, y10, y11, y12, y13, y14, y15, rfl, p2, t2⟩ := hP
    obtain ⟨rfl, rfl⟩ := y
    refine ⟨_, rfl, _, rfl, pen, 300, rfl, p2, fun H3 r e3 p3 r0 r1 => ⟨by show 12 ≤ sizeLine; decide, fun ll nl => ?_⟩⟩
    have r3 : r ≤ 5000 := by omega
    have x3 := (Ex.rf H3).nw nl (o := .lst [V.int 0, .int 1, .int 7, .int 8, .int 9, .int 15, .int 16, .int 17, .int 127, .int 128, .int r, .int 5000])
    refine ⟨pen, ll, _, rfl, p3.ex x3, upd_same, p3.ne (o := .dK []) nl, by simp, fun H4 v4 e4 p4 hv4 => ?_⟩
    obtain ⟨M, rfl, hM⟩ : ∃ M : Nat, v4 = .int (M : Int) ∧ M ≤ 5000 := by
      simp only [List.mem_cons, List.not_mem_nil, or_false] at hv4
      rcases hv4 with rfl | rfl | rfl | rfl | rfl | rfl | rfl | rfl | rfl | rfl | rfl | rfl
      · exact ⟨0, rfl, by decide⟩
      · exact ⟨1, rfl, by decide⟩
      · exact ⟨7, rfl, by decide⟩
      · exact ⟨8, rfl, by decide⟩
      · exact ⟨9, rfl, by decide⟩
      · exact ⟨15, rfl, by decide⟩
      · exact ⟨16, rfl, by decide⟩
      · exact ⟨17, rfl, by decide⟩
      · exact ⟨127, rfl, by decide⟩
      · exact ⟨128, rfl, by decide⟩
      · exact ⟨r.toNat, by rw [Int.toNat_of_nonneg r0], by omega⟩
      · exact ⟨5000, rfl, by decide⟩
    have t4 : Tabs [(PT, QL)] H4 := tabs_exb (tabs_ex (tabs_exb t2 p2 e3) x3) (p3.ex x3) e4
    have both : ∀ Q' : VK, (∀ H' l bits, PenAt H' pen → Tabs [(PT, QL)] H' → H' l = some (.lst (bits.map V.int)) → l ≠ pen → Bits bits → bits.length = M → Q' (.ref l) H') →
        tIf (tTest (tOp (rI0 fun i j => V.bl (decide (i < j))) (tVar 3) (tC (.int 5000)))) (tLc (iRng1 (tCons (tVar 3) tNil)) (gName 5) tYes (tCB (fun xs H Q => (∃ i, xs = [V.int i] ∧ Q (V.int i) H) ∨ ∃ k, xs = [V.bl k] ∧ Q (V.int (if k = true then 1 else 0)) H)
          (tCons (tOp rEq (tCall sp__law_draw [] E0 (tCons (tVar 1) (tCons (tC (.int 3)) tNil))) (tC (.int 0))) tNil)) [5])
          (tOp rRep (tLst (tCons (tC (.int 1)) (tCons (tC (.int 0)) (tCons (tC (.int 1)) (tCons (tC (.int 1)) (tCons (tC (.int 0)) tNil)))))) (tC (.int 1000)))
          [some (.ref sa), some (.ref pen), some (.int (0 + (i : Int))), some (.int (M : Int)), y4, y5, y6, y7, y8, y9, y10, y11, y12, y13, y14, y15] H4 Q' := by
      intro Q' hQ'
      refine ⟨_, rfl, _, _, rfl, rfl, _, rfl, ite2 (fun c => ?_) (fun c => ?_)⟩
      · refine ⟨_, rfl, _, rfl, by omega, by omega, fun D hD => ?_⟩
        have nD : D ≠ pen := p4.ne (o := .dK []) hD
        refine lc_it walk_range (fun i H => ∃ bs : List Int, PenAt H pen ∧ Tabs [(PT, QL)] H ∧ Bits bs ∧ bs.length = i ∧ H D = some (.lst (bs.map V.int))) ⟨[], p4.ex ((Ex.rf _).nw hD), tabs_ex t4 ((Ex.rf _).nw hD), (fun _ h => nomatch h), rfl, upd_same⟩ (fun _ _ _ _ => trivial) (fun i x H6 H7 hi hP y => ?_) (fun H6 hP => ?_)
        · obtain ⟨bs, pp, tp, hb, hbl, hd⟩ := hP
          obtain ⟨rfl, rfl⟩ := y
          refine ⟨rfl, ?_⟩
          dsimp only [tYes]
          rw [if_pos rfl]
          refine ⟨_, rfl, pen, 3, rfl, pp, fun H8 r e8 p8 r0 r1 => ⟨rfl, .inr ⟨_, rfl, _, e8 _ _ nD hd, ?_, bs ++ [if decide (V.int r = V.int 0) = true then 1 else 0], ?_, ?_, ?_, ?_, ?_⟩⟩⟩
          · rw [List.length_map, hbl]
            exact Nat.lt_of_lt_of_le (show i < 5001 by omega) (by decide)
          · obtain ⟨x0, h0, h1⟩ := p8
            exact ⟨x0, by rw [upd_ne nD.symm]; exact h0, h1⟩
          · exact tabs_lst (tabs_exb tp pp e8) (e8 _ _ nD hd)
          · intro b hb'
            rcases List.mem_append.mp hb' with h | h
            · exact hb b h
            · rw [List.mem_singleton.mp h]
              split
              · exact .inr rfl
              · exact .inl rfl
          · rw [List.length_append, hbl]
            rfl
          · rw [upd_same, List.map_append]
            rfl
        · obtain ⟨bs, pp, tp, hb, hbl, hd⟩ := hP
          exact hQ' H6 D bs pp tp hd nD hb (by rw [hbl]; exact Int.toNat_natCast M)
      · have hM5 : M = 5000 := by
          have : ¬ ((M : Int) < 5000) := fun k => c (decide_eq_true k)
          omega
        subst hM5
        refine ⟨by show 5 ≤ sizeLine; decide, fun l nl => ⟨l, 1000, _, rfl, rfl, upd_same, by decide, by decide, by show 5 * 1000 ≤ sizeLine; decide, fun p np => ?_⟩⟩
        have e6 := ((Ex.rf H4).nw nl (o := .lst [V.int 1, .int 0, .int 1, .int 1, .int 0])).nw np (o := .lst (List.replicate (1000 : Int).toNat [V.int 1, .int 0, .int 1, .int 1, .int 0]).flatten)
        refine hQ' _ p (List.replicate 1000 [1, 0, 1, 1, 0]).flatten (p4.ex e6) (tabs_ex t4 e6) ?_ ((p4.ex ((Ex.rf H4).nw nl)).ne (o := .dK []) np) ?_ ?_
        · rw [upd_same, List.map_flatten, List.map_replicate]
          rfl
        · intro b hb
          obtain ⟨x, hx, hbx⟩ := List.mem_flatten.mp hb
          rw [List.eq_of_mem_replicate hx] at hbx
          simp at hbx
          omega
        · simp
    refine both _ fun H5 l bits p5 t5 hl5 nl5 hB hlen => ?_
    have hl5000 : bits.length ≤ 5000 := by omega
    refine ⟨_, rfl, l, bits, rfl, hl5, hB, hl5000, fun H6 row e6 nrow hrow => ?_⟩
    have p6 := p5.ex e6
    have t6 := tabs_ex t5 e6
    have nrp : row ≠ pen := p5.ne (o := .dK []) nrow
    refine ⟨_, rfl, _, rfl, row, inputsRow bits, rfl, .inl hrow, ?_, fun H7 e7 => ⟨by show 1 ≤ sizeLine; decide, fun t nt => ⟨row, t, _, _, rfl, rfl, ((Ex.rf _).nw nt) _ _ (e7 _ _ hrow), upd_same, ?_, fun du ndu => ?_⟩⟩⟩
    · have := inputsRow_len bits
      have := sevens_len bits.length
      omega
    · rw [List.length_map]
      refine Nat.le_trans (show (inputsRow bits).length + 1 ≤ 20000 from ?_) (by decide)
      have := inputsRow_len bits
      have := sevens_len bits.length
      omega
    have e8 := (e7.nw nt (o := .lst [V.int (check (inputsRow bits))])).nw ndu (o := .lst ((inputsRow bits).map V.int ++ [V.int (check (inputsRow bits))]))
    have hdu : (upd (upd H7 t (.lst [V.int (check (inputsRow bits))])) du (.lst ((inputsRow bits).map V.int ++ [V.int (check (inputsRow bits))]))) du = some (.lst ((encode bits).map V.int)) := by
      rw [upd_same, encode, List.map_append]
      rfl
    have hrow8 := e8 _ _ hrow
    have hl8 := e8 _ _ (e6 _ _ hl5)
    have p8 := p6.ex e8
    have t8 := tabs_ex t6 e8
    have ndp : du ≠ pen := (p6.ex (e7.nw nt)).ne (o := .dK []) ndu
    revert hdu hrow8 hl8 p8 t8 e8
    generalize (upd (upd H7 t (.lst [V.int (check (inputsRow bits))])) du (.lst ((inputsRow bits).map V.int ++ [V.int (check (inputsRow bits))]))) = H8
    intro e8 hdu hrow8 hl8 p8 t8
    have hseq : isSeq (.lst (bits.map V.int)) = true := rfl
    refine ⟨_, rfl, .ref l, .lst (bits.map V.int), rfl, .lst hl8 (scInts bits), by show (bits.map V.int).length ≤ 50000; rw [List.length_map]; omega, fun _ bits' hb' _ _ H9 told e9 ntold htold => ?_, fun hr => absurd hr (by rw [row_ok hB hl5000 rfl rfl]; simp)⟩
    cases map_int_inj (show bits.map V.int = bits'.map V.int from hb')
    have ntp : told ≠ pen := p8.ne (o := .dK []) ntold
    have p9 := p8.ex e9
    have t9 := tabs_ex t8 e9
    have hdu9 := e9 _ _ hdu
    have hrow9 := e9 _ _ hrow8
    have hl9 := e9 _ _ hl8
    have hEB := encode_byte hB
    have helen : (encode bits).length ≤ 20000 := by
      have := encode_len bits
      have := sevens_len bits.length
      omega
    have sE := show_tup hEB helen
    have sB := show_tup (hB.allB) (show bits.length ≤ 20000 by omega)
    have tup_len : ∀ ns : List Int, ns.length ≤ 20000 → (itemsD (.tup (ns.map V.int))).length ≤ 50000 := fun ns h => by
      show (ns.map V.int).length ≤ 50000
      rw [List.length_map]
      omega
    have hrd := read_encode hB hl5000
    -- the told row, asked
    refine ⟨_, rfl, told, _, rfl, dp_tup htold, sE.sh, sE.hd, sE.dp, sE.ln, _, rfl, du, _, rfl, .inl ⟨.inl (.inl hdu9), fun q nq => ⟨q, _, rfl, dp_tup upd_same, sE.sh, sE.hd, sE.dp, sE.ln, rfl, _, rfl, ite2 (fun c => absurd c (no_ne rfl)) (fun _ => ?_)⟩⟩⟩
    have f1 := (Ex.rf H9).nw nq (o := .tup ((encode bits).map V.int))
    refine ⟨_, rfl, l, _, rfl, .inl ⟨.inl (.inl (f1 _ _ hl9)), fun tp ntp => ⟨.ref tp, .tup (bits.map V.int), rfl, .tup upd_same (scInts bits), tup_len bits (by omega), fun _ bits' hb' _ _ H10 p10 f2 np10 hp10 => ?_, fun hr => absurd hr (by rw [row_ok hB hl5000 rfl rfl]; simp)⟩⟩⟩
    cases map_int_inj (show bits.map V.int = bits'.map V.int from hb')
    have f3 := f1.tr (((Ex.rf _).nw ntp).tr f2)
    refine ⟨_, rfl, _, _, dp_tup hp10, dp_tup (f3 _ _ htold), sE.sp, sE.sp, _, rfl, ite2 (fun c => absurd c (no_neT _)) (fun _ => ?_)⟩
    refine ⟨_, rfl, told, _, rfl, .inr (.inl (.inl (f3 _ _ htold))), _, rfl, M, rfl, by omega, fun H11 sv f4 nsv hsv => ⟨sv, _, rfl, .inl (.inl (.inl hsv)), _, _, rfl, rfl, _, rfl, _, _, rfl, rfl, _, _, rfl, rfl, ⟨by decide, by decide⟩, _, _, rfl, rfl, rfl, _, rfl, ite2 (fun c => absurd c (no_ne ?_)) (fun _ => ?_)⟩⟩
    · show V.int (((encode bits).map V.int).length : Int) = V.int (2 + (((sevens M).map V.int).length : Int) + ((M : Int) + 7) / 8)
      congr 1
      rw [List.length_map, List.length_map, encode_len, hlen]
      omega
    have f5 := f3.tr f4
    -- the reading
    refine ⟨_, rfl, .ref told, .tup ((encode bits).map V.int), rfl, .tup (f5 _ _ htold) (scInts _), tup_len _ (by omega), fun _ ns' en _ => ⟨fun bits' hr H12 q12 f6 nq12 hq12 => ?_, fun e he => ?_⟩, fun hr => absurd hr (by rw [bytes_ok hEB rfl rfl]; simp)⟩
    rotate_left
    · cases map_int_inj (show (encode bits).map V.int = ns'.map V.int from en)
      rw [hrd] at he
      cases he
    cases map_int_inj (show (encode bits).map V.int = ns'.map V.int from en)
    rw [hrd] at hr
    cases hr
    have f7 := f5.tr f6
    refine ⟨q12, _, rfl, dp_tup hq12, sB.sh, sB.hd, sB.dp, sB.ln, _, rfl, l, _, rfl, .inl ⟨.inl (.inl (f7 _ _ hl9)), fun q13 n13 => ⟨q13, _, rfl, dp_tup upd_same, sB.sh, sB.hd, sB.dp, sB.ln, rfl, _, rfl, ite2 (fun c => absurd c (no_ne rfl)) (fun _ => ?_)⟩⟩⟩
    have f8 := f7.tr ((Ex.rf H12).nw n13 (o := .tup (bits.map V.int)))
    refine ⟨_, rfl, .ref told, .tup ((encode bits).map V.int), rfl, .tup (f8 _ _ htold) (scInts _), tup_len _ (by omega), fun _ ns' en _ => ⟨fun bits' hr H14 q14 f9 nq14 hq14 => ?_, fun e he => ?_⟩, fun hr => absurd hr (by rw [bytes_ok hEB rfl rfl]; simp)⟩
    rotate_left
    · cases map_int_inj (show (encode bits).map V.int = ns'.map V.int from en)
      rw [hrd] at he
      cases he
    cases map_int_inj (show (encode bits).map V.int = ns'.map V.int from en)
    rw [hrd] at hr
    cases hr
    have f10 := f8.tr f9
    refine ⟨_, rfl, l, _, rfl, .inl ⟨.inl (.inl (f10 _ _ hl9)), fun q15 n15 => ⟨_, _, dp_tup (((Ex.rf _).nw n15) _ _ hq14), dp_tup upd_same, sB.sp, sB.sp, _, rfl, ite2 (fun c => absurd c (no_neT _)) (fun _ => ?_)⟩⟩⟩
    have f11 := f10.tr ((Ex.rf H14).nw n15 (o := .tup (bits.map V.int)))
    revert f11
    generalize upd H14 q15 (.tup (bits.map V.int)) = H15
    intro f11
    have p15 := p9.ex f11
    have t15 := tabs_ex t9 f11
    have hrow15 := f11 _ _ hrow9
    have hdu15 := f11 _ _ hdu9
    clear f11 f10 f9 f8 f7 f6 f5 f4 f3 f2 f1
    obtain ⟨j, hj0, hj6, rng⟩ : ∃ j : Int, 0 ≤ j ∧ j ≤ 6 ∧ ∀ Q' : VK, Q' (.int j) H15 → tIf (tTest (tOp (rI0 fun i j => V.bl (decide (i < j))) (tVar 3) (tC (.int 400)))) (tC (.int 6)) (tC (.int 1))
        [some (.ref sa), some (.ref pen), some (.int (0 + (i : Int))), some (.int (M : Int)), some (.ref l), y5, some (.ref row), some (.ref du), some (.ref told), y9, y10, y11, y12, y13, y14, y15] H15 Q' := by
      by_cases h : (M : Int) < 400
      · exact ⟨6, by omega, by omega, fun Q' q => ⟨_, rfl, _, _, rfl, rfl, _, rfl, ite2 (fun _ => q) (fun k => absurd (decide_eq_true h) k)⟩⟩
      · exact ⟨1, by omega, by omega, fun Q' q => ⟨_, rfl, _, _, rfl, rfl, _, rfl, ite2 (fun k => absurd (of_decide_eq_true k) h) (fun _ => q)⟩⟩
    refine rng _ ?_
    refine ⟨j, rfl, by omega, by omega, for_it walk_range (fun i2 σ H' => ∃ y9 y10 y11 y12 y13 y14 y15 : Option V, σ = [some (.ref sa), some (.ref pen), some (.int (0 + (i : Int))), some (.int (M : Int)), some (.ref l), y5, some (.ref row), some (.ref du), some (.ref told), y9, y10, y11, y12, y13, y14, y15] ∧ PenAt H' pen ∧ Tabs [(PT, QL)] H' ∧ Kp pen H15 H')
      ⟨_, _, _, _, _, _, _, rfl, p15, t15, Kp.rf _ _⟩ (fun _ _ _ _ _ => trivial) (fun i2 x2 σ H16 H17 hi2 hP y => ?_) fun σ H16 hP => ?_⟩
    · obtain ⟨z9, z10, z11, z12, z13, z14, z15, rfl, p16, t16, k16⟩ := hP
      obtain ⟨rfl, rfl⟩ := y
      refine ⟨_, rfl, _, rfl, pen, row, inputsRow bits, rfl, p16, k16.lst nrp hrow15, nrp, ?_, ?_, inputsRow_byte hB, fun H18 bl ns' e18 p18 nbl hbl hB' hlen' => ?_⟩
      · rw [inputsRow_eq]
        simp
      · have := inputsRow_len bits
        have := sevens_len bits.length
        omega
      have hns : ns'.length ≤ 20000 := by
        have := inputsRow_len bits
        have := sevens_len bits.length
        omega
      have nbp : bl ≠ pen := p16.ne (o := .dK []) nbl
      refine ⟨_, rfl, bl, ns', rfl, hbl, by omega, fun H19 e19 => ⟨tabs_ex (tabs_exb t16 p16 e18) e19, fun H20 eN t20 tt nt => ?_⟩⟩
      have k20 : Kp pen H17 (upd H20 tt (.tup [.non, .non])) := (((Kp.exb e18).tr (Kp.ex e19)).tr (Kp.exn eN)).tr (Kp.ex ((Ex.rf _).nw nt))
      have p20 := ((p18.ex e19).exn eN).ex ((Ex.rf _).nw nt (o := .tup [.non, .non]))
      have t20' := tabs_ex t20 ((Ex.rf _).nw nt (o := .tup [.non, .non]))
      have hbl20 : (upd H20 tt (.tup [.non, .non])) bl = some (.lst (ns'.map V.int)) := ((Ex.rf _).nw nt) _ _ (eN _ _ (e19 _ _ hbl) (fun _ z => nomatch z))
      refine ⟨_, rfl, .ref bl, .lst (ns'.map V.int), rfl, .lst hbl20 (scInts ns'), by show (ns'.map V.int).length ≤ 50000; rw [List.length_map]; omega, fun _ ns'' en _ => ?_, fun hr => absurd hr (by rw [bytes_ok hB' rfl rfl]; simp)⟩
      cases map_int_inj (show ns'.map V.int = ns''.map V.int from en)
      refine ⟨fun bits' hr H21 q21 e21 nq21 hq21 => fun H22 l22 e22 nl22 hl22 => ?_, fun e he => fun H21 dd e21 ndd hdd => ⟨dd, rfl, .inr ⟨rfl, _, hdd, fun H22 l22 e22 nl22 hl22 => ?_⟩⟩⟩
      · obtain ⟨hen, hB2, hl2⟩ := encode_read hr
        refine ⟨_, _, rfl, ?_⟩
        rw [hr]
        have k22 := (k20.tr (Kp.ex e21)).tr (Kp.ex e22)
        have q22 := e22 _ _ hq21
        have b22 := e22 _ _ (e21 _ _ hbl20)
        have hAn : AllB ns' := hB'
        have hAe := shaped_lst hAn
        refine ⟨_, rfl, rfl, _, rfl, ite2 (fun c => nomatch (show false = true from c)) (fun _ => ite2 (fun c => nomatch c) (fun _ => ?_))⟩
        refine ⟨_, rfl, rfl, _, rfl, ite2 (fun _ => ?_) (fun c => absurd rfl c)⟩
        refine ⟨_, rfl, _, .ty "list", _, _, true, rfl, .ty _, TyX.base (.lst hl22), kit_of' (.lst []) "list" (by decide), _, rfl, ite2 (fun c => nomatch (show false = true from c)) (fun _ => ?_)⟩
        refine ⟨_, rfl, l22, _, _, _, rfl, rfl, .inl (.inl hl22), rfl, .ref q21, .tup (bits'.map V.int), rfl, .tup q22 (scInts _), tup_len _ (by omega), fun _ b'' hb'' _ _ H23 p23 e23 np23 hp23 => ?_, fun hr' => absurd hr' (by rw [row_ok hB2 hl2 rfl rfl]; simp)⟩
        cases map_int_inj (show bits'.map V.int = b''.map V.int from hb'')
        rw [hen] at hp23
        refine ⟨p23, _, rfl, .inr (.inl (.inl hp23)), fun l24 nl24 => ⟨_, rfl, _, _, dp_lst upd_same, dp_lst (((Ex.rf _).nw nl24) _ _ (e23 _ _ b22)), hAe, hAe, _, rfl, ite2 (fun c => absurd c (no_neL _)) (fun _ => ?_)⟩⟩
        have x24 := e23.nw nl24 (o := .lst (ns'.map V.int))
        exact ⟨_, _, _, _, _, _, _, rfl, ((p20.ex e21).ex e22).ex x24, tabs_ex (tabs_ex (tabs_ex t20' e21) e22) x24, k16.tr (k22.tr (Kp.ex x24))⟩
      · refine ⟨_, _, rfl, ?_⟩
        rw [he]
        have k22 := (k20.tr (Kp.ex e21)).tr (Kp.ex e22)
        have hsp := shaped_int lay_bytes (e : Int)
        refine ⟨_, rfl, rfl, _, rfl, ite2 (fun _ => ?_) (fun c => absurd rfl c)⟩
        refine ⟨_, rfl, _, rfl, by show 2 ≤ sizeLine; decide, fun t24 nt24 => ⟨_, _, dp_pair (((Ex.rf _).nw nt24) _ _ hl22) (.int _), dp_pair upd_same (.int _), hsp, hsp, _, rfl, ite2 (fun c => absurd c (no_neP _ _ (beq_self_eq_true (e : Int)))) (fun _ => ?_)⟩⟩
        have x24 := (Ex.rf H22).nw nt24 (o := .tup [.str "bytes", .int (e : Int)])
        exact ⟨_, rfl, rfl, _, rfl, ite2 (fun c => nomatch (show false = true from c)) (fun _ => ⟨_, _, _, _, _, _, _, rfl, ((p20.ex e21).ex e22).ex x24, tabs_ex (tabs_ex (tabs_ex t20' e21) e22) x24, k16.tr (k22.tr (Kp.ex x24))⟩)⟩
    · obtain ⟨z9, z10, z11, z12, z13, z14, z15, rfl, p16, t16, k16⟩ := hP
      have hdu16 := k16.lst ndp hdu15
      -- what is no inputs
      refine ⟨_, rfl, by show 1 ≤ sizeLine; decide, fun a1 n1 => ⟨by show 1 ≤ sizeLine; decide, fun a2 n2 => ⟨by show 1 ≤ sizeLine; decide, fun a3 n3 => ⟨a3, 5001, _, rfl, rfl, upd_same, by decide, by decide, by show 1 * 5001 ≤ sizeLine; decide, fun a4 n4 => ⟨by show 6 ≤ sizeLine; decide, fun a5 n5 => ?_⟩⟩⟩⟩⟩
      have g1 := (Ex.rf H16).nw n1 (o := .lst [V.int 2])
      have g2 := (Ex.rf _).nw n2 (o := .lst [V.bl true])
      have g3 := (Ex.rf _).nw n3 (o := .lst [V.int 0])
      have g4 := (Ex.rf _).nw n4 (o := .lst (List.replicate (5001 : Int).toNat [V.int 0]).flatten)
      have g5 := (Ex.rf _).nw n5 (o := .lst [V.non, .int 5, .str "01", .ref a1, .ref a2, .ref a4])
      have g14 := ((g1.tr g2).tr g3).tr g4
      have np : ∀ {H' : Hp} {b : Addr}, Ex H16 H' → H' b = none → b ≠ pen := fun e hb => (p16.ex e).ne (o := .dK []) hb
      refine ⟨pen, a5, _, rfl, p16.ex (g14.tr g5), upd_same, np g14 n5, by simp, fun H17 v1 e17 p17 hv1 => ?_⟩
      have odd1 : OddD isRow pen H17 v1 := by
        have o0 : OddD isRow pen (upd (upd (upd (upd (upd H16 a1 (.lst [V.int 2])) a2 (.lst [V.bl true])) a3 (.lst [V.int 0])) a4 (.lst (List.replicate (5001 : Int).toNat [V.int 0]).flatten)) a5 (.lst [V.non, .int 5, .str "01", .ref a1, .ref a2, .ref a4])) v1 := by
          simp only [List.mem_cons, List.not_mem_nil, or_false] at hv1
          rcases hv1 with rfl | rfl | rfl | rfl | rfl | rfl
          · exact ⟨_, .sc rfl, Nat.zero_le _, rfl, (fun z => nomatch z)⟩
          · exact ⟨_, .sc rfl, Nat.zero_le _, rfl, (fun z => nomatch z)⟩
          · exact ⟨_, .sc rfl, Nat.zero_le _, rfl, (fun z => nomatch z)⟩
          · exact ⟨_, .lst ((((g2.tr g3).tr g4).tr g5) _ _ upd_same) (sc_one rfl), by show 1 ≤ 50000; decide, rfl, fun z => np (Ex.rf _) n1 (V.ref.inj z)⟩
          · exact ⟨_, .lst (((g3.tr g4).tr g5) _ _ upd_same) (sc_one rfl), by show 1 ≤ 50000; decide, rfl, fun z => np g1 n2 (V.ref.inj z)⟩
          · have hlen5 : ((List.replicate (5001 : Int).toNat [V.int 0]).flatten).length = 5001 := by simp
            refine ⟨_, .lst (g5 _ _ upd_same) (fun x hx => ?_), ?_, row_long (by rw [hlen5]; decide), fun z => np ((g1.tr g2).tr g3) n4 (V.ref.inj z)⟩
            · obtain ⟨y, hy, hxy⟩ := List.mem_flatten.mp hx
              rw [List.eq_of_mem_replicate hy] at hxy
              rw [List.mem_singleton.mp hxy]
              rfl
            · show ((List.replicate (5001 : Int).toNat [V.int 0]).flatten).length ≤ 50000
              rw [hlen5]
              decide
        exact o0.kp (Kp.exb e17)
      have t17 : Tabs [(PT, QL)] H17 := tabs_exb (tabs_ex t16 (g14.tr g5)) (p16.ex (g14.tr g5)) e17
      have hdu17 : H17 du = some (.lst ((encode bits).map V.int)) := e17 _ _ ndp ((g14.tr g5) _ _ hdu16)
      clear g14 g5 g4 g3 g2 g1 np
      have el : ((encode bits).map V.int).length ≤ 20000 := by
        rw [List.length_map]
        exact helen
      -- what are no bytes
      refine ⟨_, rfl, _, rfl, by show 1 ≤ sizeLine; decide, fun b1 m1 => ⟨du, b1, _, _, rfl, rfl, ((Ex.rf _).nw m1) _ _ hdu17, upd_same, Nat.le_trans (Nat.add_le_add_right el 1) (by decide), fun b2 m2 => ?_⟩⟩
      have q1 := (Ex.rf H17).nw m1 (o := .lst [V.int 256])
      have q2 := (Ex.rf _).nw m2 (o := .lst ((encode bits).map V.int ++ [V.int 256]))
      refine ⟨_, rfl, by show 1 ≤ sizeLine; decide, fun b3 m3 => ⟨_, rfl, b3, du, _, _, rfl, rfl, upd_same, ((Ex.rf _).nw m3) _ _ ((q1.tr q2) _ _ hdu17), Nat.le_trans (Nat.add_le_add_left el 1) (by decide), fun b4 m4 => ?_⟩⟩
      have q3 := (Ex.rf _).nw m3 (o := .lst [V.int (-1)])
      have q4 := (Ex.rf _).nw m4 (o := .lst ([V.int (-1)] ++ (encode bits).map V.int))
      have q14 := ((q1.tr q2).tr q3).tr q4
      refine ⟨_, rfl, by show 1 ≤ sizeLine; decide, fun b5 m5 => ⟨du, b5, _, _, rfl, rfl, ((Ex.rf _).nw m5) _ _ (q14 _ _ hdu17), upd_same, Nat.le_trans (Nat.add_le_add_right el 1) (by decide), fun b6 m6 => fun b7 m7 => ⟨by show 7 ≤ sizeLine; decide, fun b8 m8 => ?_⟩⟩⟩
      have q5 := (Ex.rf _).nw m5 (o := .lst [V.bl false])
      have q6 := (Ex.rf _).nw m6 (o := .lst ((encode bits).map V.int ++ [V.bl false]))
      have q7 := (Ex.rf _).nw m7 (o := .dK [])
      have q8 := (Ex.rf _).nw m8 (o := .lst [V.non, .int 5, .ref b2, .ref b4, .ref b6, .str "bytes", .ref b7])
      have q18 := ((q14.tr q5).tr q6).tr q7
      have np : ∀ {H' : Hp} {b : Addr}, Ex H17 H' → H' b = none → b ≠ pen := fun e hb => (p17.ex e).ne (o := .dK []) hb
      refine ⟨pen, b8, _, rfl, p17.ex (q18.tr q8), upd_same, np q18 m8, by simp, fun H18 v2 e18 p18 hv2 => ?_⟩
      have odd2 : OddD isBytes pen H18 v2 := by
        have el2 : ∀ v : V, (((encode bits).map V.int) ++ [v]).length ≤ 50000 := fun v => by
          rw [List.length_append]
          show ((encode bits).map V.int).length + 1 ≤ 50000
          omega
        have o0 : ∀ H0 : Hp, H0 b2 = some (.lst ((encode bits).map V.int ++ [V.int 256])) → H0 b4 = some (.lst ([V.int (-1)] ++ (encode bits).map V.int)) → H0 b6 = some (.lst ((encode bits).map V.int ++ [V.bl false])) → H0 b7 = some (.dK []) → OddD isBytes pen H0 v2 := by
          intro H0 h2 h4 h6 h7
          simp only [List.mem_cons, List.not_mem_nil, or_false] at hv2
          rcases hv2 with rfl | rfl | rfl | rfl | rfl | rfl | rfl
          · exact ⟨_, .sc rfl, Nat.zero_le _, rfl, (fun z => nomatch z)⟩
          · exact ⟨_, .sc rfl, Nat.zero_le _, rfl, (fun z => nomatch z)⟩
          · exact ⟨_, .lst h2 (sc_app (scInts _) (sc_one rfl)), el2 _, bytes_last rfl, fun z => np q1 m2 (V.ref.inj z)⟩
          · refine ⟨_, .lst h4 (sc_app (sc_one rfl) (scInts _)), ?_, bytes_first rfl, fun z => np ((q1.tr q2).tr q3) m4 (V.ref.inj z)⟩
            show ([V.int (-1)] ++ (encode bits).map V.int).length ≤ 50000
            rw [List.length_append]
            show 1 + ((encode bits).map V.int).length ≤ 50000
            omega
          · exact ⟨_, .lst h6 (sc_app (scInts _) (sc_one rfl)), el2 _, bytes_last rfl, fun z => np (q14.tr q5) m6 (V.ref.inj z)⟩
          · exact ⟨_, .sc rfl, Nat.zero_le _, rfl, (fun z => nomatch z)⟩
          · exact ⟨_, .dct h7, Nat.zero_le _, rfl, fun z => np ((q14.tr q5).tr q6) m7 (V.ref.inj z)⟩
        exact (o0 _ (((((((q3.tr q4).tr q5).tr q6).tr q7).tr q8)) _ _ upd_same) ((((q5.tr q6).tr q7).tr q8) _ _ upd_same) ((q7.tr q8) _ _ upd_same) (q8 _ _ upd_same)).kp (Kp.exb e18)
      have t18 : Tabs [(PT, QL)] H18 := tabs_exb (tabs_ex t17 (q18.tr q8)) (p17.ex (q18.tr q8)) e18
      have odd1' : OddD isRow pen H18 v1 := odd1.kp ((Kp.ex (q18.tr q8)).tr (Kp.exb e18))
      clear q18 q14 q8 q7 q6 q5 q4 q3 q2 q1 np
      refine ⟨by show 2 ≤ sizeLine; decide, fun t19 n19 => ⟨t19, _, rfl, .inl (.inl upd_same), rfl, _, _, rfl, _, _, rfl, rfl, ?_⟩⟩
      have s1 := (Ex.rf H18).nw n19 (o := .tup [v1, v2])
      have p19 := p18.ex s1
      have o1 := odd1'.kp (Kp.ex (pen := pen) s1)
      have o2 := odd2.kp (Kp.ex (pen := pen) s1)
      have t19' := tabs_ex t18 s1
      revert p19 o1 o2 t19'
      generalize upd H18 t19 (.tup [v1, v2]) = H19
      intro p19 o1 o2 t19'
      obtain ⟨d1, hd1, hl1, hr1, hv1p⟩ := o1
      -- the first question
      refine ⟨t19', fun H20 eN t20 tt nt => ?_⟩
      have k20 : Kp pen H19 (upd H20 tt (.tup [.non, .non])) := (Kp.exn eN).tr (Kp.ex ((Ex.rf _).nw nt))
      have p20 := (p19.exn eN).ex ((Ex.rf _).nw nt (o := .tup [.non, .non]))
      have t20' := tabs_ex t20 ((Ex.rf _).nw nt (o := .tup [.non, .non]))
      refine ⟨_, rfl, v1, d1, rfl, hd1.kp k20 hv1p, hl1, fun hr => absurd hr (by rw [hr1]; simp), fun _ H21 dd e21 ndd hdd => ⟨dd, rfl, .inl ⟨rfl, _, hdd, fun H22 l22 e22 nl22 hl22 => ⟨by show 2 ≤ sizeLine; decide, fun t23 n23 => ?_⟩⟩⟩⟩
      have hs1 := shaped_str lay_value lay_inputs
      refine ⟨_, _, dp_pair (((Ex.rf _).nw n23) _ _ hl22) (.str _), dp_pair upd_same (.str _), hs1, hs1, _, rfl, ite2 (fun c => absurd c (no_neP _ _ (beq_self_eq_true (PySem.Str.ofString "inputs")))) (fun _ => ?_)⟩
      have s2 := (e21.tr e22).nw n23 (o := .tup [.str "value", .str "inputs"])
      have p23 := p20.ex s2
      have t23' := tabs_ex t20' s2
      have o3 := o2.kp (k20.tr (Kp.ex s2))
      revert p23 t23' o3
      generalize upd H22 t23 (.tup [.str "value", .str "inputs"]) = H23
      intro p23 t23' o3
      obtain ⟨d2, hd2, hl2, hr2, hv2p⟩ := o3
      -- the second
      refine ⟨t23', fun H24 eN2 t24 tt2 nt2 => ?_⟩
      have k24 : Kp pen H23 (upd H24 tt2 (.tup [.non, .non])) := (Kp.exn eN2).tr (Kp.ex ((Ex.rf _).nw nt2))
      have p24 := (p23.exn eN2).ex ((Ex.rf _).nw nt2 (o := .tup [.non, .non]))
      have t24' := tabs_ex t24 ((Ex.rf _).nw nt2 (o := .tup [.non, .non]))
      refine ⟨_, rfl, v2, d2, rfl, hd2.kp k24 hv2p, hl2, fun hr => absurd hr (by rw [hr2]; simp), fun _ H25 dd2 e25 ndd2 hdd2 => ⟨dd2, rfl, .inl ⟨rfl, _, hdd2, fun H26 l26 e26 nl26 hl26 => ⟨by show 2 ≤ sizeLine; decide, fun t27 n27 => ?_⟩⟩⟩⟩
      have hs2 := shaped_str lay_value lay_data
      refine ⟨_, _, dp_pair (((Ex.rf _).nw n27) _ _ hl26) (.str _), dp_pair upd_same (.str _), hs2, hs2, _, rfl, ite2 (fun c => absurd c (no_neP _ _ (beq_self_eq_true (PySem.Str.ofString "data")))) (fun _ => ?_)⟩
      have s3 := (e25.tr e26).nw n27 (o := .tup [.str "value", .str "data"])
      exact ⟨_, _, _, _, _, _, _, _, _, _, _, _, _, _, rfl, p24.ex s3, tabs_ex t24' s3⟩
  · obtain ⟨y2, y3, y4, y5, y6, y7, y8, y9, y10, y11, y12, y13, y14, y15, rfl, p2, tb2⟩ := hP
    refine ⟨by show 0 ≤ sizeLine; decide, fun l1 n1 => ⟨by show 2 ≤ sizeLine; decide, fun t1 m1 => ?_⟩⟩
    obtain ⟨x1, w1⟩ := known_mk (ns := []) (e := 0) p2 n1 m1 (by decide) (allB_dec (by decide)) known1
    have r1 := p2.ex x1
    refine ⟨by show 1 ≤ sizeLine; decide, fun l2 n2 => ⟨by show 2 ≤ sizeLine; decide, fun t2 m2 => ?_⟩⟩
    obtain ⟨x2, w2⟩ := known_mk (ns := [80]) (e := 0) r1 n2 m2 (by decide) (allB_dec (by decide)) known2
    have r2 := r1.ex x2
    refine ⟨by show 1 ≤ sizeLine; decide, fun l3 n3 => ⟨by show 2 ≤ sizeLine; decide, fun t3 m3 => ?_⟩⟩
    obtain ⟨x3, w3⟩ := known_mk (ns := [73]) (e := 1) r2 n3 m3 (by decide) (allB_dec (by decide)) known3
    have r3 := r2.ex x3
    refine ⟨by show 3 ≤ sizeLine; decide, fun l4 n4 => ⟨by show 2 ≤ sizeLine; decide, fun t4 m4 => ?_⟩⟩
    obtain ⟨x4, w4⟩ := known_mk (ns := [73, 128, 0]) (e := 2) r3 n4 m4 (by decide) (allB_dec (by decide)) known4
    have r4 := r3.ex x4
    refine ⟨by show 3 ≤ sizeLine; decide, fun l5 n5 => ⟨by show 2 ≤ sizeLine; decide, fun t5 m5 => ?_⟩⟩
    obtain ⟨x5, w5⟩ := known_mk (ns := [73, 136, 40]) (e := 2) r4 n5 m5 (by decide) (allB_dec (by decide)) known5
    have r5 := r4.ex x5
    refine ⟨by show 3 ≤ sizeLine; decide, fun l6 n6 => ⟨by show 2 ≤ sizeLine; decide, fun t6 m6 => ?_⟩⟩
    obtain ⟨x6, w6⟩ := known_mk (ns := [73, 1, 2]) (e := 2) r5 n6 m6 (by decide) (allB_dec (by decide)) known6
    have r6 := r5.ex x6
    refine ⟨by show 4 ≤ sizeLine; decide, fun l7 n7 => ⟨by show 2 ≤ sizeLine; decide, fun t7 m7 => ?_⟩⟩
    obtain ⟨x7, w7⟩ := known_mk (ns := [73, 0, 73, 0]) (e := 3) r6 n7 m7 (by decide) (allB_dec (by decide)) known7
    have r7 := r6.ex x7
    refine ⟨by show 3 ≤ sizeLine; decide, fun l8 n8 => ⟨by show 2 ≤ sizeLine; decide, fun t8 m8 => ?_⟩⟩
    obtain ⟨x8, w8⟩ := known_mk (ns := [73, 0, 74]) (e := 2) r7 n8 m8 (by decide) (allB_dec (by decide)) known8
    have r8 := r7.ex x8
    refine ⟨by show 4 ≤ sizeLine; decide, fun l9 n9 => ⟨by show 2 ≤ sizeLine; decide, fun t9 m9 => ?_⟩⟩
    obtain ⟨x9, w9⟩ := known_mk (ns := [73, 9, 255, 2]) (e := 3) r8 n9 m9 (by decide) (allB_dec (by decide)) known9
    have r9 := r8.ex x9
    refine ⟨by show 9 ≤ sizeLine; decide, fun kn nkn => ?_⟩
    have x10 := (Ex.rf _).nw nkn (o := .lst [V.ref t1, V.ref t2, V.ref t3, V.ref t4, V.ref t5, V.ref t6, V.ref t7, V.ref t8, V.ref t9])
    have all : ∀ v ∈ [V.ref t1, V.ref t2, V.ref t3, V.ref t4, V.ref t5, V.ref t6, V.ref t7, V.ref t8, V.ref t9], KnownAt pen _ v := fun v hv => by
      simp only [List.mem_cons, List.not_mem_nil, or_false] at hv
      rcases hv with rfl | rfl | rfl | rfl | rfl | rfl | rfl | rfl | rfl
      · exact w1.kp (Kp.ex ((((((((x2.tr x3).tr x4).tr x5).tr x6).tr x7).tr x8).tr x9).tr x10))
      · exact w2.kp (Kp.ex (((((((x3.tr x4).tr x5).tr x6).tr x7).tr x8).tr x9).tr x10))
      · exact w3.kp (Kp.ex ((((((x4.tr x5).tr x6).tr x7).tr x8).tr x9).tr x10))
      · exact w4.kp (Kp.ex (((((x5.tr x6).tr x7).tr x8).tr x9).tr x10))
      · exact w5.kp (Kp.ex ((((x6.tr x7).tr x8).tr x9).tr x10))
      · exact w6.kp (Kp.ex (((x7.tr x8).tr x9).tr x10))
      · exact w7.kp (Kp.ex ((x8.tr x9).tr x10))
      · exact w8.kp (Kp.ex (x9.tr x10))
      · exact w9.kp (Kp.ex x10)
    have pk := r9.ex x10
    have tk := tabs_ex tb2 (((((((((x1.tr x2).tr x3).tr x4).tr x5).tr x6).tr x7).tr x8).tr x9).tr x10)
    have hkn : kn ≠ pen := r9.ne (o := .dK []) nkn
    have hlk := ex_same x10
    refine ⟨_, rfl, kn, rfl, ⟨_, .inl (.inl hlk)⟩, fun D hD => lc_it (walk_list (K := K) (a := kn) (xs := [V.ref t1, V.ref t2, V.ref t3, V.ref t4, V.ref t5, V.ref t6, V.ref t7, V.ref t8, V.ref t9])) (fun i H' => PenAt H' pen ∧ Tabs [(PT, QL)] H' ∧ Kp pen _ H' ∧ H' D = some (.lst []))
      ⟨pk.ex ((Ex.rf _).nw hD), tabs_ex tk ((Ex.rf _).nw hD), Kp.ex ((Ex.rf _).nw hD), upd_same⟩ (fun i H' _ hP => .inl (.inl (hP.2.2.1.lst hkn hlk))) (fun i x H3 H4 hi hP y => ?_) fun H3 hP => ?_⟩
    · obtain ⟨p3, tb3, k3, hd3⟩ := hP
      obtain ⟨rfl, hy⟩ := y
      have hDp : D ≠ pen := pk.ne (o := .dK []) hD
      obtain ⟨t, l, ns, e, rfl, ht, hl, hlen, hb, hr, htp, hlp⟩ := (all x (List.mem_of_getElem? hy)).kp k3
      refine ⟨t, _, rfl, .inl (.inl ht), rfl, _, _, rfl, _, _, rfl, rfl, rfl, ?_⟩
      refine ⟨tb3, fun H20 eN t20 tt nt => ?_⟩
      have k20 : Kp pen H4 (upd H20 tt (.tup [.non, .non])) := (Kp.exn eN).tr (Kp.ex ((Ex.rf _).nw nt))
      have p20 := (p3.exn eN).ex ((Ex.rf _).nw nt (o := .tup [.non, .non]))
      have t20' := tabs_ex t20 ((Ex.rf _).nw nt (o := .tup [.non, .non]))
      refine ⟨_, rfl, .ref l, .lst (ns.map V.int), rfl, .lst (k20.lst hlp hl) (scInts ns), by show (ns.map V.int).length ≤ 50000; rw [List.length_map]; omega, fun _ ns' en _ => ?_, fun hr' => absurd hr' (by rw [bytes_ok hb rfl rfl]; simp)⟩
      cases map_int_inj (show ns.map V.int = ns'.map V.int from en)
      refine ⟨fun bits hr2 => ?_, fun e2 he => ?_⟩
      · rw [hr] at hr2
        cases hr2
      · rw [hr] at he
        cases he
        intro H21 dd e21 ndd hdd
        refine ⟨dd, rfl, .inr ⟨rfl, _, hdd, fun H22 l22 e22 nl22 hl22 => ⟨_, rfl, by show 2 ≤ sizeLine; decide, fun t23 n23 => ?_⟩⟩⟩
        have hsp := shaped_int lay_bytes (e : Int)
        have x23 := (Ex.rf H22).nw n23 (o := .tup [.str "bytes", .int (e : Int)])
        have kf := k20.tr (Kp.ex ((e21.tr e22).tr x23))
        refine ⟨_, _, dp_pair (x23 _ _ hl22) (.int _), dp_pair upd_same (.int _), hsp, hsp, _, rfl, ?_⟩
        rw [show (!PyData.eqv (.tuple [.str "bytes", .int (e : Int)]) (.tuple [.str "bytes", .int (e : Int)])) = false from Bool.eq_false_iff.mpr (no_neP _ _ (beq_self_eq_true (e : Int)))]
        exact ⟨p20.ex ((e21.tr e22).tr x23), tabs_ex t20' ((e21.tr e22).tr x23), k3.tr kf, kf.lst hDp hd3⟩
    · obtain ⟨p3, tb3, k3, hd3⟩ := hP
      exact ⟨Nat.zero_le _, fun e ne => ⟨.list [], .list [], .lst (.inl (.inl (((Ex.rf _).nw ne) _ _ hd3))) .nil, .lst (.inl (.inl upd_same)) .nil, rfl, rfl, hq _⟩⟩
end
end K87

set_option Elab.async false
set_option linter.all false
set_option maxRecDepth 100000
set_option maxHeartbeats 4000000
/-! the end of a law that wants to know around what it runs (its own frame alone): one table of code objects, the law's -/
namespace LamA
open PySem PySem.Spec PyProof.Rows L2 LamX
section
variable {P : Program} {w : World} {K : PySem.W.Frag} {mg mb : Str → Option Value} {fa a c PT : Addr} {s₁ : Shared} {vs : List Value} {ns : List Int}
/-- what is tracked when the law begins: the empty table and, where the written part does not know it, the script -/
def H1st (K : PySem.W.Frag) (a PT : Addr) (vs : List Value) (ns : List Int) : Hp := fun b =>
  if b = PT then some (.tbl #[]) else if b = a ∧ K.lookup a = none then some (.frz { cls := .type "list", data := .seq vs.toArray } (.lst (ns.map V.int))) else none
theorem h1_other {b : Addr} (h1 : b ≠ PT) (h2 : b ≠ a ∨ K.lookup a ≠ none) : H1st K a PT vs ns b = none := by
  unfold H1st
  rw [if_neg h1, if_neg]
  exact fun z => h2.elim (fun k => k z.1) fun k => k z.2
theorem h1_tab : H1st K a PT vs ns PT = some (.tbl #[]) := if_pos rfl
theorem law_run1 (KX : K.In s₁.heap) (hns : s₁.heap.Ns mainGlobals mg) (hb : s₁.heap.Ns builtinsNs mb) (hbb : ∀ x : Str, x ≠ "__name__" → mb x = bootBuiltins x) (hlim : s₁.heap.NoLimit) (hg : s₁.gens = #[])
    (hT : s₁.heap.get? PT = some { cls := .none, data := .fields #[] }) (nT : K.lookup PT = none) (C : PySem.W.CodeHd s₁.heap c PT)
    (hbm : ∃ (bm : Addr) (ob : Obj), mg "__builtins__" = some (.ref bm) ∧ bm ≠ builtinsNs ∧ s₁.heap.get? bm = some ob ∧ ob.cls = .type "module" ∧ ob.dict = some builtinsNs ∧ ob.data = .plain)
    (ha : s₁.heap.get? a = some { cls := .type "list", data := .seq vs.toArray }) (hi : IntsAre vs ns) (hl : ns.length ≤ sizeLine)
    (F : ∀ (base : Heap) (H : Hp), K.In base → base.Ns mainGlobals mg → TabB base mg c PT → Env0 P w K mg base callerA [] s₁ H → H PT = some (.tbl #[]) → SqL K H a (ns.map V.int) →
      codeAny (model P w) callerA (.call (.ref fa) ⟨[.ref a], []⟩) (CR (L2.CX P w) [] P w H s₁ (fun v _ => v = .bl true) (fun _ _ _ => False)) s₁) :
    codeAny (model P w) callerA (.call (.ref fa) ⟨[.ref a], []⟩) (fun r s' => r = .ok (.ret (.bool true)) ∧ OldK s₁.heap s'.heap ∧ s'.os = s₁.os ∧ AllBare s'.gens) s₁ := by
  have rv := vals_ints hi
  have lv := hi.length
  have aT : a ≠ PT := fun z => by
    rw [z, hT] at ha
    cases ha
  obtain ⟨H, hH⟩ : ∃ H, H = H1st K a PT vs ns := ⟨_, rfl⟩
  have tab : H PT = some (.tbl #[]) := by rw [hH]; exact h1_tab
  -- what has another shape is not tracked
  have un : ∀ {b : Addr} {o : Obj}, s₁.heap.get? b = some o → o.data ≠ .fields #[] → (∀ xs n, o.data ≠ .seq xs n) → H b = none := fun {b o} e h1 h2 => by
    rw [hH]
    refine h1_other (fun z => ?_) (.inl fun z => ?_)
    · rw [z, hT] at e
      cases e
      exact h1 rfl
    · rw [z, ha] at e
      cases e
      exact h2 _ _ rfl
  have inK : ∀ {b : Addr} {o : Obj}, K.lookup b = some o → H b = none := fun {b o} e => by
    rw [hH]
    refine h1_other (fun z => ?_) ?_
    · rw [z, nT] at e
      cases e
    · by_cases z : b = a
      · rw [z] at e
        exact .inr (by rw [e]; exact fun k => nomatch k)
      · exact .inl z
  have dicts : ∀ {b : Addr} {m : Str → Option Value}, s₁.heap.Ns b m → (hidT s₁.heap H).Ns b m := fun {b m} ⟨o, es, ep, e, d, r⟩ =>
    ⟨o, es, ep, hidT_get e (un e (by rw [d]; exact fun z => nomatch z) (by rw [d]; exact fun _ _ z => nomatch z)), d, r⟩
  have hok : HOk P w H s₁.heap := fun b u e => by
    rw [hH] at e
    unfold H1st at e
    by_cases h1 : b = PT
    · rw [if_pos h1] at e
      cases e
      rw [h1]
      exact hT
    · rw [if_neg h1] at e
      by_cases h2 : b = a ∧ K.lookup a = none
      · rw [if_pos h2] at e
        cases e
        rw [h2.1]
        exact ⟨ha, by rw [List.length_map]; exact hl, vs, _, rv, ha⟩
      · rw [if_neg h2] at e
        cases e
  have seq : SqL K H a (ns.map V.int) := by
    cases hk : K.lookup a with
    | none =>
      refine .inl (.inr ⟨{ cls := .type "list", data := .seq vs.toArray }, ?_⟩)
      rw [hH]
      unfold H1st
      rw [if_neg aT, if_pos ⟨rfl, hk⟩]
    | some o =>
      have e := KX a o hk
      rw [ha] at e
      cases e
      exact .inr ⟨_, vs.toArray, _, hk, rfl, rfl, rfl, by rw [List.size_toArray, lv]; exact hl, by simpa using rv⟩
  have kb : K.In (hidT s₁.heap H) := fun b o e => hidT_get (KX b o e) (inK e)
  have md : L2.Mod K mg (hidT s₁.heap H) := ⟨kb, dicts hns, ⟨mb, dicts hb, hbb⟩, let ⟨m, h1, h2⟩ := hlim; ⟨m, dicts h1, h2⟩⟩
  have tb : TabB (hidT s₁.heap H) mg c PT := by
    refine ⟨?_, ?_, fun z => ?_⟩
    · obtain ⟨o, us, file, tf, flags, tg, inF, text, tt, e1, r1, r2, r3, rest⟩ := C
      refine ⟨o, us, file, tf, flags, tg, inF, text, tt, hidT_get e1 (un e1 (fun z => ?_) fun _ _ z => ?_), r1, r2, r3, rest⟩
      · rw [r2] at z
        cases z
        simp at r3
      · rw [r2] at z
        cases z
    · obtain ⟨bm, ob, b1, b2, b3, b4, b5, b6⟩ := hbm
      refine ⟨bm, ob, b1, b2, fun z => ?_, fun z => ?_, hidT_get b3 (un b3 (by rw [b6]; exact fun z => nomatch z) (by rw [b6]; exact fun _ _ z => nomatch z)), b4, b5, b6⟩
      · obtain ⟨o, es, ep, e, d, _⟩ := hns
        rw [z, e] at b3
        cases b3
        rw [d] at b6
        cases b6
      · rw [z, hT] at b3
        cases b3
        cases b6
    · obtain ⟨o, es, ep, e, d, _⟩ := hns
      rw [z, hT] at e
      cases e
      cases d
  have env : Env0 P w K mg (hidT s₁.heap H) callerA [] s₁ H := ⟨rfl, md, fun _ _ e => of_hidT e, Nat.le_of_eq (hidT_size _ _), trivial, (fun b hb => absurd (show b ∈ ([] : List Addr) from hb) (by simp)), hok, AllBare.of_eq hg⟩
  refine codeAny_mono (F _ H kb (dicts hns) tb env tab seq) fun r s' h => ?_
  cases r with
  | error e =>
    obtain ⟨_, _, _, _, _, _, _, _, _, _, _, _, z⟩ := h
    exact z.elim
  | ok fl =>
    cases fl with
    | next => exact False.elim h
    | brk => exact False.elim h
    | cont => exact False.elim h
    | ret u =>
      obtain ⟨v, H', os, bare, uu, hok', r', q⟩ := h
      have q' : v = .bl true := q
      subst q'
      cases r'
      have stay : ∀ b o, b ≠ PT → s₁.heap.get? b = some o → s'.heap.get? b = some o := fun b o nb e => by
        cases z : H b with
        | none => exact uu.keep b o e z (fun k => nomatch k) (fun k => nomatch k)
        | some t =>
          rw [hH] at z
          unfold H1st at z
          rw [if_neg nb] at z
          by_cases h2 : b = a ∧ K.lookup a = none
          · have hb2 : H b = some (.frz { cls := .type "list", data := .seq vs.toArray } (.lst (ns.map V.int))) := by
              rw [hH]
              unfold H1st
              rw [if_neg nb, if_pos h2]
            obtain ⟨e1, _⟩ := hok b _ hb2
            obtain ⟨e2, _⟩ := hok' b _ (uu.frzs b _ _ hb2)
            rw [e] at e1
            cases e1
            exact e2
          · rw [if_neg h2] at z
            cases z
      obtain ⟨more, hm⟩ := uu.tbls PT #[] tab
      have grown : s'.heap.get? PT = some { cls := .none, data := .fields (#[] ++ more) } := hok' PT _ hm
      refine ⟨rfl, ⟨fun b o e => ?_, fun b o e => ?_⟩, os, bare⟩
      · by_cases hb : b = PT
        · subst hb
          rw [hT] at e
          cases e
          exact .inr (.inl ⟨(C.tab hT).isCodeTable, rfl, #[], more, rfl, grown⟩)
        · exact .inl (stay b o hb e)
      · by_cases hb : b = PT
        · subst hb
          exact ⟨_, grown⟩
        · exact ⟨o, stay b o hb e⟩
end
/-- the end of such a law; c: its code object, PT: the table there -/
theorem walk_own1 {l : PySem.W.OpenLaw} {n : Nat} {q : Program} {loose : List Str} {XP : (Str → Option Value) → Heap → Prop} {YP : World → Heap → Prop} {d : DefRec} {K : Params → PySem.W.Frag}
    (hn : l.most = some n) (hn2 : n ≤ sizeLine) (hdf : d.params.defaults = []) (hrec : ((recsOf q).any fun e => e.name == d.name) = true) (hY : ∀ (w : World) (h : Heap), YP w h → (K w.params).In h)
    (F : ∀ (w : World) (mg : Str → Option Value) (fa : Addr) (h : Heap), (K w.params).In h → h.Ns mainGlobals mg → mg d.name = some (.ref fa) →
      ∃ (c PT : Addr) (o : Obj) (fd : FuncData) (e : Value) (dd : Option Addr) (vs : Array Value) (sl : Array (Option Value)), (K w.params).lookup fa = some o ∧ o.data = .func fd ∧ fd.code = .ref c ∧ (K w.params).lookup c = some ⟨e, dd, .fields vs, sl⟩ ∧ vs[11]? = some (.ref PT) ∧ (K w.params).lookup PT = none ∧
        ∀ (base : Heap) (H : Hp) (s : Shared) (a : Addr) (ns : List Int), ns.length ≤ n → (K w.params).In base → base.Ns mainGlobals mg → TabB base mg c PT → Env0 l.prog w (K w.params) mg base callerA [] s H → H PT = some (.tbl #[]) → SqL (K w.params) H a (ns.map V.int) →
          codeAny (model l.prog w) callerA (.call (.ref fa) ⟨[.ref a], []⟩) (CR (L2.CX l.prog w) [] l.prog w H s (fun v _ => v = .bl true) fun _ _ _ => False) s) :
    PySem.W.WalkO q loose XP YP l.row.toRowW d [] (fun f vs => PySem.call f vs) := by
  refine Att.attach_callB hn hdf fun w s₀ s₁ mg mb fa o pm cd doc a vs ns G Y ho hd hcd hmg hobj hints hlen hbits hg => ?_
  have KX := hY w _ Y
  obtain ⟨c, PT, o1, fd, e, dd, vs1, sl, k1, k2, k3, k4, k5, k6, run⟩ := F w mg fa _ KX G.T.g hmg
  obtain ⟨dL, hm, hn1⟩ := List.any_eq_true.mp hrec
  obtain ⟨a', o', fd', c', P', h1, h2, h3, h4, h5, h6⟩ := G.T.tab dL hm
  rw [show dL.name = d.name from beq_iff_eq.mp hn1, hmg] at h1
  cases h1
  have g1 := KX _ _ k1
  rw [h2] at g1
  cases g1
  rw [h3] at k2
  cases k2
  rw [h4] at k3
  cases k3
  obtain ⟨⟨oc, vc, e1, _, e3, e4⟩, hP⟩ := id h6
  have g2 := KX _ _ k4
  rw [e1] at g2
  cases g2
  cases e3
  rw [e4] at k5
  cases k5
  exact law_run1 KX G.T.g G.T.b G.T.builtins G.T.nolimit hg hP k6 (PySem.W.CodeHd.of h5 h6) G.T.bmain hobj hints (Nat.le_trans hlen hn2) fun base H b1 b2 b3 b4 b5 b6 => run base H s₁ a ns hlen b1 b2 b3 b4 b5 b6
end LamA

set_option Elab.async false
set_option linter.all false
set_option maxRecDepth 100000
set_option maxHeartbeats 4000000
namespace K87
open PySem PySem.Spec PyProof.Rows L2
theorem all_mk {P : Program} {w : World} {K : PySem.W.Frag} {h : Heap} {mg : Str → Option Value} {fa : Addr} (X : K.In h) (G : h.Ns mainGlobals mg) (hfa : mg "law" = some (.ref fa))
    {A_f_is_integer A_f_is_within A_f_is_listed A_f_are_bits A_f_is_input_row A_f_need_inputs A_f_check_of A_f_number_row A_f_inputs_bytes A_f_Unpack___init__ A_f_Unpack_byte A_f_Unpack_number A_f_Unpack_end A_f_read_inputs_bytes A_f__law_pen A_f__law_draw A_f__law_pick A_f__law_caught A_f__law_sevens A_f__law_check A_f__law_byte A_f__law_read_sevens A_f__law_read_end A_f__law_bent_row A_f__law_inputs_row A_f__law_inputs_bad A_f_law A_C_AliveError A_C_BadValue A_C_BadNumber A_C_BadCode A_C_BadText A_C_BadBytes A_C_Misfit A_C_Nothing A_C_TooMany A_C_Unpack A_i_BadValue A_i_BadBytes A_U_UNITS AC APT : Addr}
    {tk_MOST_INPUTS : Tok}
    {tk_INPUTS : Tok}
    {tk_BYTE : Tok}
    {tk_HALF : Tok}
    {tk_UNITS_0 tk_UNITS_1 tk_UNITS_2 tk_UNITS_3 tk_UNITS_4 tk_UNITS_5 tk_UNITS_6 tk_UNITS_7 : Tok} {un_UNITS : Nat} {ud_UNITS : Option Addr} {us_UNITS : Array (Option Value)}
    {nm_BadValue nq_BadValue : Str} {nN_BadValue : Addr} {nbs_BadValue nsub_BadValue : List Value} {nbm_BadValue : List Value} {nsn_BadValue : List Str} {nab_BadValue : Bool} {ncol_BadValue : Option Bool} {ndd_BadValue : Option Addr} {n0_BadValue n1_BadValue n2_BadValue n3_BadValue n5_BadValue : Option Value}
    {foc_BadValue fdoc_BadValue fpm_BadValue fct_BadValue fccl_BadValue fcl_BadValue : Value} {fod_BadValue fan_BadValue fcdd_BadValue fcld_BadValue : Option Addr} {fcda_BadValue fcc_BadValue : Addr} {fosl_BadValue fccs_BadValue fcsl_BadValue : Array (Option Value)} {fp1_BadValue fp2_BadValue fq1_BadValue fq2_BadValue fq3_BadValue fq4_BadValue fq5_BadValue fq6_BadValue fr1_BadValue fr2_BadValue fr3_BadValue fr4_BadValue : Pos} {fqn_BadValue ffile_BadValue : Str} {fvs_BadValue : Array Value} {fft_BadValue : Tok}
    {nm_BadBytes nq_BadBytes : Str} {nN_BadBytes : Addr} {nbs_BadBytes nsub_BadBytes : List Value} {nbm_BadBytes : List Value} {nsn_BadBytes : List Str} {nab_BadBytes : Bool} {ncol_BadBytes : Option Bool} {ndd_BadBytes : Option Addr} {n0_BadBytes n1_BadBytes n2_BadBytes n3_BadBytes n5_BadBytes : Option Value}
    {foc_BadBytes fdoc_BadBytes fpm_BadBytes fct_BadBytes fccl_BadBytes fcl_BadBytes : Value} {fod_BadBytes fan_BadBytes fcdd_BadBytes fcld_BadBytes : Option Addr} {fcda_BadBytes fcc_BadBytes : Addr} {fosl_BadBytes fccs_BadBytes fcsl_BadBytes : Array (Option Value)} {fp1_BadBytes fp2_BadBytes fq1_BadBytes fq2_BadBytes fq3_BadBytes fq4_BadBytes fq5_BadBytes fq6_BadBytes fr1_BadBytes fr2_BadBytes fr3_BadBytes fr4_BadBytes : Pos} {fqn_BadBytes ffile_BadBytes : Str} {fvs_BadBytes : Array Value} {fft_BadBytes : Tok}
    {oc_is_integer kV_is_integer dc_is_integer pm_is_integer ct_is_integer : Value} {od_is_integer an_is_integer : Option Addr} {sl_is_integer : Array (Option Value)}
    {cd_is_integer : Value}
    {oc_is_within kV_is_within dc_is_within pm_is_within ct_is_within : Value} {od_is_within an_is_within : Option Addr} {sl_is_within : Array (Option Value)}
    {cd_is_within : Value}
    {oc_is_listed kV_is_listed dc_is_listed pm_is_listed ct_is_listed : Value} {od_is_listed an_is_listed : Option Addr} {sl_is_listed : Array (Option Value)}
    {cd_is_listed : Value}
    {oc_are_bits kV_are_bits dc_are_bits pm_are_bits ct_are_bits : Value} {od_are_bits an_are_bits : Option Addr} {sl_are_bits : Array (Option Value)}
    {cd_are_bits : Value}
    {oc_is_input_row kV_is_input_row dc_is_input_row pm_is_input_row ct_is_input_row : Value} {od_is_input_row an_is_input_row : Option Addr} {sl_is_input_row : Array (Option Value)}
    {cd_is_input_row : Value}
    {oc_need_inputs kV_need_inputs dc_need_inputs pm_need_inputs ct_need_inputs : Value} {od_need_inputs an_need_inputs : Option Addr} {sl_need_inputs : Array (Option Value)}
    {cd_need_inputs : Value}
    {oc_check_of kV_check_of dc_check_of pm_check_of ct_check_of : Value} {od_check_of an_check_of : Option Addr} {sl_check_of : Array (Option Value)}
    {cd_check_of : Value}
    {oc_number_row kV_number_row dc_number_row pm_number_row ct_number_row : Value} {od_number_row an_number_row : Option Addr} {sl_number_row : Array (Option Value)}
    {cd_number_row : Value}
    {oc_inputs_bytes kV_inputs_bytes dc_inputs_bytes pm_inputs_bytes ct_inputs_bytes : Value} {od_inputs_bytes an_inputs_bytes : Option Addr} {sl_inputs_bytes : Array (Option Value)}
    {cd_inputs_bytes : Value}
    {oc_Unpack___init__ kV_Unpack___init__ dc_Unpack___init__ pm_Unpack___init__ ct_Unpack___init__ : Value} {od_Unpack___init__ an_Unpack___init__ : Option Addr} {sl_Unpack___init__ : Array (Option Value)}
    {cd_Unpack___init__ : Value}
    {oc_Unpack_byte kV_Unpack_byte dc_Unpack_byte pm_Unpack_byte ct_Unpack_byte : Value} {od_Unpack_byte an_Unpack_byte : Option Addr} {sl_Unpack_byte : Array (Option Value)}
    {cd_Unpack_byte : Value}
    {oc_Unpack_number kV_Unpack_number dc_Unpack_number pm_Unpack_number ct_Unpack_number : Value} {od_Unpack_number an_Unpack_number : Option Addr} {sl_Unpack_number : Array (Option Value)}
    {cd_Unpack_number : Value}
    {oc_Unpack_end kV_Unpack_end dc_Unpack_end pm_Unpack_end ct_Unpack_end : Value} {od_Unpack_end an_Unpack_end : Option Addr} {sl_Unpack_end : Array (Option Value)}
    {cd_Unpack_end : Value}
    {oc_read_inputs_bytes kV_read_inputs_bytes dc_read_inputs_bytes pm_read_inputs_bytes ct_read_inputs_bytes : Value} {od_read_inputs_bytes an_read_inputs_bytes : Option Addr} {sl_read_inputs_bytes : Array (Option Value)}
    {cd_read_inputs_bytes : Value}
    {oc__law_pen kV__law_pen dc__law_pen pm__law_pen ct__law_pen : Value} {od__law_pen an__law_pen : Option Addr} {sl__law_pen : Array (Option Value)}
    {cd__law_pen : Value}
    {oc__law_draw kV__law_draw dc__law_draw pm__law_draw ct__law_draw : Value} {od__law_draw an__law_draw : Option Addr} {sl__law_draw : Array (Option Value)}
    {cd__law_draw : Value}
    {oc__law_pick kV__law_pick dc__law_pick pm__law_pick ct__law_pick : Value} {od__law_pick an__law_pick : Option Addr} {sl__law_pick : Array (Option Value)}
    {cd__law_pick : Value}
    {oc__law_caught kV__law_caught dc__law_caught pm__law_caught ct__law_caught : Value} {od__law_caught an__law_caught : Option Addr} {sl__law_caught : Array (Option Value)}
    {cd__law_caught : Value}
    {oc__law_sevens kV__law_sevens dc__law_sevens pm__law_sevens ct__law_sevens : Value} {od__law_sevens an__law_sevens : Option Addr} {sl__law_sevens : Array (Option Value)}
    {cd__law_sevens : Value}
    {oc__law_check kV__law_check dc__law_check pm__law_check ct__law_check : Value} {od__law_check an__law_check : Option Addr} {sl__law_check : Array (Option Value)}
    {cd__law_check : Value}
    {oc__law_byte kV__law_byte dc__law_byte pm__law_byte ct__law_byte : Value} {od__law_byte an__law_byte : Option Addr} {sl__law_byte : Array (Option Value)}
    {cd__law_byte : Value}
    {oc__law_read_sevens kV__law_read_sevens dc__law_read_sevens pm__law_read_sevens ct__law_read_sevens : Value} {od__law_read_sevens an__law_read_sevens : Option Addr} {sl__law_read_sevens : Array (Option Value)}
    {cd__law_read_sevens : Value}
    {oc__law_read_end kV__law_read_end dc__law_read_end pm__law_read_end ct__law_read_end : Value} {od__law_read_end an__law_read_end : Option Addr} {sl__law_read_end : Array (Option Value)}
    {cd__law_read_end : Value}
    {oc__law_bent_row kV__law_bent_row dc__law_bent_row pm__law_bent_row ct__law_bent_row : Value} {od__law_bent_row an__law_bent_row : Option Addr} {sl__law_bent_row : Array (Option Value)}
    {cd__law_bent_row : Value}
    {oc__law_inputs_row kV__law_inputs_row dc__law_inputs_row pm__law_inputs_row ct__law_inputs_row : Value} {od__law_inputs_row an__law_inputs_row : Option Addr} {sl__law_inputs_row : Array (Option Value)}
    {cd__law_inputs_row : Value}
    {oc__law_inputs_bad kV__law_inputs_bad dc__law_inputs_bad pm__law_inputs_bad ct__law_inputs_bad : Value} {od__law_inputs_bad an__law_inputs_bad : Option Addr} {sl__law_inputs_bad : Array (Option Value)}
    {cd__law_inputs_bad : Value}
    {oc_law kV_law dc_law pm_law ct_law : Value} {od_law an_law : Option Addr} {sl_law : Array (Option Value)}
    {lce : Value} {lcd : Option Addr} {lcv : Array Value} {lcs : Array (Option Value)}
    (h_c_MOST_INPUTS : PySem.W.nsIn K mainGlobals "MOST_INPUTS" = some (some (.int 5000 tk_MOST_INPUTS)))
    (h_c_INPUTS : PySem.W.nsIn K mainGlobals "INPUTS" = some (some (.int 73 tk_INPUTS)))
    (h_c_BYTE : PySem.W.nsIn K mainGlobals "BYTE" = some (some (.int 256 tk_BYTE)))
    (h_c_HALF : PySem.W.nsIn K mainGlobals "HALF" = some (some (.int 128 tk_HALF)))
    (h_c_UNITS : PySem.W.nsIn K mainGlobals "UNITS" = some (some (.ref A_U_UNITS)))
    (h_q_UNITS : K.lookup A_U_UNITS = some ⟨.type "tuple", ud_UNITS, .seq #[.int 1 tk_UNITS_0, .int 2 tk_UNITS_1, .int 4 tk_UNITS_2, .int 8 tk_UNITS_3, .int 16 tk_UNITS_4, .int 32 tk_UNITS_5, .int 64 tk_UNITS_6, .int 128 tk_UNITS_7] un_UNITS, us_UNITS⟩)
    (h_m_isinstance : PySem.W.nsIn K mainGlobals "isinstance" = some (none))
    (h_m_int : PySem.W.nsIn K mainGlobals "int" = some (none))
    (h_m_bool : PySem.W.nsIn K mainGlobals "bool" = some (none))
    (h_m_list : PySem.W.nsIn K mainGlobals "list" = some (none))
    (h_m_tuple : PySem.W.nsIn K mainGlobals "tuple" = some (none))
    (h_m_all : PySem.W.nsIn K mainGlobals "all" = some (none))
    (h_m_len : PySem.W.nsIn K mainGlobals "len" = some (none))
    (h_m_sum : PySem.W.nsIn K mainGlobals "sum" = some (none))
    (h_m_enumerate : PySem.W.nsIn K mainGlobals "enumerate" = some (none))
    (h_m_range : PySem.W.nsIn K mainGlobals "range" = some (none))
    (h_m_zip : PySem.W.nsIn K mainGlobals "zip" = some (none))
    (h_m_min : PySem.W.nsIn K mainGlobals "min" = some (none))
    (h_m_repr : PySem.W.nsIn K mainGlobals "repr" = some (none))
    (h_m_super : PySem.W.nsIn K mainGlobals "super" = some (none))
    (h_v_BadValue : PySem.W.nsIn K mainGlobals "BadValue" = some (some (.ref A_C_BadValue)))
    (h_v_BadNumber : PySem.W.nsIn K mainGlobals "BadNumber" = some (some (.ref A_C_BadNumber)))
    (h_v_BadCode : PySem.W.nsIn K mainGlobals "BadCode" = some (some (.ref A_C_BadCode)))
    (h_v_BadText : PySem.W.nsIn K mainGlobals "BadText" = some (some (.ref A_C_BadText)))
    (h_v_BadBytes : PySem.W.nsIn K mainGlobals "BadBytes" = some (some (.ref A_C_BadBytes)))
    (h_v_Misfit : PySem.W.nsIn K mainGlobals "Misfit" = some (some (.ref A_C_Misfit)))
    (h_v_Nothing : PySem.W.nsIn K mainGlobals "Nothing" = some (some (.ref A_C_Nothing)))
    (h_v_TooMany : PySem.W.nsIn K mainGlobals "TooMany" = some (some (.ref A_C_TooMany)))
    (h_v_AliveError : PySem.W.nsIn K mainGlobals "AliveError" = some (some (.ref A_C_AliveError)))
    (h_L_BadValue : K.lookup A_C_BadValue = some (excClassObj nm_BadValue nq_BadValue A_C_BadValue nN_BadValue nbs_BadValue nbm_BadValue true nsn_BadValue nsub_BadValue nab_BadValue ncol_BadValue ndd_BadValue n0_BadValue n1_BadValue n2_BadValue n3_BadValue n5_BadValue "ValueError.__new__"))
    (h_Lr_BadValue : PySem.HandSPX.refsVE nbm_BadValue = true)
    (h_sa_BadValue : PySem.W.findIn K (.ref A_C_BadValue) "__setattr__" = some (some (.builtin "object.__setattr__")))
    (h_no_BadValue : PySem.W.findIn K (.ref A_C_BadValue) "part" = some (none))
    (h_in_BadValue : PySem.W.findIn K (.ref A_C_BadValue) "__init__" = some (some (.ref A_i_BadValue)))
    (h_ti_BadValue : PySem.W.typeIn K (.ref A_i_BadValue) = some (.type "function"))
    (h_ke_BadValue : PySem.W.keepIn K (.ref A_C_BadValue) = true)
    (h_be_BadValue : PySem.W.subIn K (.ref A_C_BadValue) (.type "BaseException") = some true)
    (h_ty_BadValue : PySem.W.typeIn K (.ref A_C_BadValue) = some (.type "type"))
    (h_su_BadValue : PySem.W.ks_superIn K A_C_BadValue A_C_BadValue "__init__" = some (some (.builtin "ValueError.__init__")))
    (h_mr_BadValue : PySem.W.mroIn K A_C_BadValue (.ref A_C_BadValue) = some true)
    (h_ve_BadValue : PySem.W.subIn K (.ref A_C_BadValue) (.type "ValueError") = some true)
    (h_fl_BadValue : K.lookup A_i_BadValue = some ⟨foc_BadValue, fod_BadValue, .func (PySem.W.ksFn "__init__" fqn_BadValue (PySem.AlE.iA "part" fp1_BadValue fp2_BadValue) (PySem.AlE.iB "part" fq1_BadValue fq2_BadValue fq3_BadValue fq4_BadValue fq5_BadValue fq6_BadValue fr1_BadValue fr2_BadValue fr3_BadValue fr4_BadValue) (PySem.AlE.iS "part") .none .none fdoc_BadValue fpm_BadValue fan_BadValue (.ref fcda_BadValue) fct_BadValue fcc_BadValue), fosl_BadValue⟩)
    (h_fc_BadValue : PySem.W.codeIn K (.ref fcda_BadValue) fqn_BadValue = true)
    (h_fp_BadValue : (fq3_BadValue.endLine == fq5_BadValue.line) = true)
    (h_fk_BadValue : K.lookup fcda_BadValue = some ⟨fccl_BadValue, fcdd_BadValue, .fields fvs_BadValue, fccs_BadValue⟩)
    (h_fv_BadValue : fvs_BadValue[2]? = some (.str ffile_BadValue fft_BadValue))
    (h_ff_BadValue : ((P.main.file : Str) == ffile_BadValue) = true)
    (h_fe_BadValue : K.lookup fcc_BadValue = some ⟨fcl_BadValue, fcld_BadValue, .cell (some (.ref A_C_BadValue)), fcsl_BadValue⟩)
    (h_ga_BadValue : PySem.W.findIn K (.ref A_C_BadValue) "__getattribute__" = some (some (.builtin "BaseException.__getattribute__")))
    (h_gg_BadValue : PySem.W.findIn K (.ref A_C_BadValue) "__getattr__" = some (none))
    (h_hd_BadValue : PySem.W.hasDictIn K A_C_BadValue = true)
    (h_hc_BadValue : PySem.W.findIn K (.ref A_C_BadValue) "__class__" = some (some (.builtin "object.__class__")))
    (h_mo_BadValue : PySem.W.mroIn K A_C_BadValue (.type "object") = some true)
    (h_i_BadValue_BadValue : PySem.W.kitOne K (.ref A_C_BadValue) (.ref A_C_BadValue) = some true)
    (h_i_BadValue_BadNumber : PySem.W.kitOne K (.ref A_C_BadValue) (.ref A_C_BadNumber) = some false)
    (h_i_BadValue_BadCode : PySem.W.kitOne K (.ref A_C_BadValue) (.ref A_C_BadCode) = some false)
    (h_i_BadValue_BadText : PySem.W.kitOne K (.ref A_C_BadValue) (.ref A_C_BadText) = some false)
    (h_i_BadValue_BadBytes : PySem.W.kitOne K (.ref A_C_BadValue) (.ref A_C_BadBytes) = some false)
    (h_i_BadValue_Misfit : PySem.W.kitOne K (.ref A_C_BadValue) (.ref A_C_Misfit) = some false)
    (h_i_BadValue_Nothing : PySem.W.kitOne K (.ref A_C_BadValue) (.ref A_C_Nothing) = some false)
    (h_i_BadValue_TooMany : PySem.W.kitOne K (.ref A_C_BadValue) (.ref A_C_TooMany) = some false)
    (h_j_BadValue : PySem.W.exmOne K (.ref A_C_BadValue) (.ref A_C_AliveError) = some true)
    (h_L_BadBytes : K.lookup A_C_BadBytes = some (excClassObj nm_BadBytes nq_BadBytes A_C_BadBytes nN_BadBytes nbs_BadBytes nbm_BadBytes true nsn_BadBytes nsub_BadBytes nab_BadBytes ncol_BadBytes ndd_BadBytes n0_BadBytes n1_BadBytes n2_BadBytes n3_BadBytes n5_BadBytes "ValueError.__new__"))
    (h_Lr_BadBytes : PySem.HandSPX.refsVE nbm_BadBytes = true)
    (h_sa_BadBytes : PySem.W.findIn K (.ref A_C_BadBytes) "__setattr__" = some (some (.builtin "object.__setattr__")))
    (h_no_BadBytes : PySem.W.findIn K (.ref A_C_BadBytes) "at" = some (none))
    (h_in_BadBytes : PySem.W.findIn K (.ref A_C_BadBytes) "__init__" = some (some (.ref A_i_BadBytes)))
    (h_ti_BadBytes : PySem.W.typeIn K (.ref A_i_BadBytes) = some (.type "function"))
    (h_ke_BadBytes : PySem.W.keepIn K (.ref A_C_BadBytes) = true)
    (h_be_BadBytes : PySem.W.subIn K (.ref A_C_BadBytes) (.type "BaseException") = some true)
    (h_ty_BadBytes : PySem.W.typeIn K (.ref A_C_BadBytes) = some (.type "type"))
    (h_su_BadBytes : PySem.W.ks_superIn K A_C_BadBytes A_C_BadBytes "__init__" = some (some (.builtin "ValueError.__init__")))
    (h_mr_BadBytes : PySem.W.mroIn K A_C_BadBytes (.ref A_C_BadBytes) = some true)
    (h_ve_BadBytes : PySem.W.subIn K (.ref A_C_BadBytes) (.type "ValueError") = some true)
    (h_fl_BadBytes : K.lookup A_i_BadBytes = some ⟨foc_BadBytes, fod_BadBytes, .func (PySem.W.ksFn "__init__" fqn_BadBytes (PySem.AlE.iA "at" fp1_BadBytes fp2_BadBytes) (PySem.AlE.iB "at" fq1_BadBytes fq2_BadBytes fq3_BadBytes fq4_BadBytes fq5_BadBytes fq6_BadBytes fr1_BadBytes fr2_BadBytes fr3_BadBytes fr4_BadBytes) (PySem.AlE.iS "at") .none .none fdoc_BadBytes fpm_BadBytes fan_BadBytes (.ref fcda_BadBytes) fct_BadBytes fcc_BadBytes), fosl_BadBytes⟩)
    (h_fc_BadBytes : PySem.W.codeIn K (.ref fcda_BadBytes) fqn_BadBytes = true)
    (h_fp_BadBytes : (fq3_BadBytes.endLine == fq5_BadBytes.line) = true)
    (h_fk_BadBytes : K.lookup fcda_BadBytes = some ⟨fccl_BadBytes, fcdd_BadBytes, .fields fvs_BadBytes, fccs_BadBytes⟩)
    (h_fv_BadBytes : fvs_BadBytes[2]? = some (.str ffile_BadBytes fft_BadBytes))
    (h_ff_BadBytes : ((P.main.file : Str) == ffile_BadBytes) = true)
    (h_fe_BadBytes : K.lookup fcc_BadBytes = some ⟨fcl_BadBytes, fcld_BadBytes, .cell (some (.ref A_C_BadBytes)), fcsl_BadBytes⟩)
    (h_ga_BadBytes : PySem.W.findIn K (.ref A_C_BadBytes) "__getattribute__" = some (some (.builtin "BaseException.__getattribute__")))
    (h_gg_BadBytes : PySem.W.findIn K (.ref A_C_BadBytes) "__getattr__" = some (none))
    (h_hd_BadBytes : PySem.W.hasDictIn K A_C_BadBytes = true)
    (h_hc_BadBytes : PySem.W.findIn K (.ref A_C_BadBytes) "__class__" = some (some (.builtin "object.__class__")))
    (h_mo_BadBytes : PySem.W.mroIn K A_C_BadBytes (.type "object") = some true)
    (h_i_BadBytes_BadValue : PySem.W.kitOne K (.ref A_C_BadBytes) (.ref A_C_BadValue) = some false)
    (h_i_BadBytes_BadNumber : PySem.W.kitOne K (.ref A_C_BadBytes) (.ref A_C_BadNumber) = some false)
    (h_i_BadBytes_BadCode : PySem.W.kitOne K (.ref A_C_BadBytes) (.ref A_C_BadCode) = some false)
    (h_i_BadBytes_BadText : PySem.W.kitOne K (.ref A_C_BadBytes) (.ref A_C_BadText) = some false)
    (h_i_BadBytes_BadBytes : PySem.W.kitOne K (.ref A_C_BadBytes) (.ref A_C_BadBytes) = some true)
    (h_i_BadBytes_Misfit : PySem.W.kitOne K (.ref A_C_BadBytes) (.ref A_C_Misfit) = some false)
    (h_i_BadBytes_Nothing : PySem.W.kitOne K (.ref A_C_BadBytes) (.ref A_C_Nothing) = some false)
    (h_i_BadBytes_TooMany : PySem.W.kitOne K (.ref A_C_BadBytes) (.ref A_C_TooMany) = some false)
    (h_j_BadBytes : PySem.W.exmOne K (.ref A_C_BadBytes) (.ref A_C_AliveError) = some true)
    (h_opq : PySem.W.nsIn K cStatics "thirdparty.any" = some none)
    (h_htop : (P.main.scope.names.lookup ("super" : Str)).isSome = false)
    (h_spG : PySem.W.specialIn K (.builtin "object.__class__") "__get__" = some (some (.builtin "getset_descriptor.__get__")))
    (h_tkG : PySem.W.takesIn K (.builtin "object.__class__") = some true)
    (h_pn_Unpack : PySem.W.nsIn K mainGlobals "Unpack" = some (some (.ref A_C_Unpack)))
    (h_pg_Unpack : PySem.W.plainGet K A_C_Unpack Str.empty = true)
    (h_ph_Unpack : PySem.W.hasDictIn K A_C_Unpack = true)
    (h_po_Unpack : PySem.W.plainOver K A_C_Unpack = true)
    (h_ps_Unpack : PySem.W.findIn K (.ref A_C_Unpack) "__setattr__" = some (some (.builtin "object.__setattr__")))
    (h_pk_Unpack : PySem.W.keepIn K (.ref A_C_Unpack) = true)
    (h_pm_Unpack : PySem.W.makesIn K A_C_Unpack = true)
    (h_na_Unpack_data : PySem.W.findIn K (.ref A_C_Unpack) "data" = some (none))
    (h_na_Unpack_at : PySem.W.findIn K (.ref A_C_Unpack) "at" = some (none))
    (h_g_is_integer : PySem.W.nsIn K mainGlobals "is_integer" = some (some (.ref A_f_is_integer)))
    (h_l_is_integer : K.lookup A_f_is_integer = some ⟨oc_is_integer, od_is_integer, .func (PySem.W.fnOf "is_integer" "is_integer" (defArgs s_is_integer) (defBody s_is_integer) (defScope s_is_integer) .none kV_is_integer dc_is_integer pm_is_integer an_is_integer cd_is_integer ct_is_integer), sl_is_integer⟩)
    (h_d_is_integer : PySem.W.codeIn K cd_is_integer "is_integer" = true)
    (h_k_is_integer : PySem.W.keepIn K (.ref A_f_is_integer) = true)
    (h_g_is_within : PySem.W.nsIn K mainGlobals "is_within" = some (some (.ref A_f_is_within)))
    (h_l_is_within : K.lookup A_f_is_within = some ⟨oc_is_within, od_is_within, .func (PySem.W.fnOf "is_within" "is_within" (defArgs s_is_within) (defBody s_is_within) (defScope s_is_within) .none kV_is_within dc_is_within pm_is_within an_is_within cd_is_within ct_is_within), sl_is_within⟩)
    (h_d_is_within : PySem.W.codeIn K cd_is_within "is_within" = true)
    (h_k_is_within : PySem.W.keepIn K (.ref A_f_is_within) = true)
    (h_g_is_listed : PySem.W.nsIn K mainGlobals "is_listed" = some (some (.ref A_f_is_listed)))
    (h_l_is_listed : K.lookup A_f_is_listed = some ⟨oc_is_listed, od_is_listed, .func (PySem.W.fnOf "is_listed" "is_listed" (defArgs s_is_listed) (defBody s_is_listed) (defScope s_is_listed) .none kV_is_listed dc_is_listed pm_is_listed an_is_listed cd_is_listed ct_is_listed), sl_is_listed⟩)
    (h_d_is_listed : PySem.W.codeIn K cd_is_listed "is_listed" = true)
    (h_k_is_listed : PySem.W.keepIn K (.ref A_f_is_listed) = true)
    (h_g_are_bits : PySem.W.nsIn K mainGlobals "are_bits" = some (some (.ref A_f_are_bits)))
    (h_l_are_bits : K.lookup A_f_are_bits = some ⟨oc_are_bits, od_are_bits, .func (PySem.W.fnOf "are_bits" "are_bits" (defArgs s_are_bits) (defBody s_are_bits) (defScope s_are_bits) .none kV_are_bits dc_are_bits pm_are_bits an_are_bits cd_are_bits ct_are_bits), sl_are_bits⟩)
    (h_d_are_bits : PySem.W.codeIn K cd_are_bits "are_bits" = true)
    (h_k_are_bits : PySem.W.keepIn K (.ref A_f_are_bits) = true)
    (h_g_is_input_row : PySem.W.nsIn K mainGlobals "is_input_row" = some (some (.ref A_f_is_input_row)))
    (h_l_is_input_row : K.lookup A_f_is_input_row = some ⟨oc_is_input_row, od_is_input_row, .func (PySem.W.fnOf "is_input_row" "is_input_row" (defArgs s_is_input_row) (defBody s_is_input_row) (defScope s_is_input_row) .none kV_is_input_row dc_is_input_row pm_is_input_row an_is_input_row cd_is_input_row ct_is_input_row), sl_is_input_row⟩)
    (h_d_is_input_row : PySem.W.codeIn K cd_is_input_row "is_input_row" = true)
    (h_k_is_input_row : PySem.W.keepIn K (.ref A_f_is_input_row) = true)
    (h_g_need_inputs : PySem.W.nsIn K mainGlobals "need_inputs" = some (some (.ref A_f_need_inputs)))
    (h_l_need_inputs : K.lookup A_f_need_inputs = some ⟨oc_need_inputs, od_need_inputs, .func (PySem.W.fnOf "need_inputs" "need_inputs" (defArgs s_need_inputs) (defBody s_need_inputs) (defScope s_need_inputs) .none kV_need_inputs dc_need_inputs pm_need_inputs an_need_inputs cd_need_inputs ct_need_inputs), sl_need_inputs⟩)
    (h_d_need_inputs : PySem.W.codeIn K cd_need_inputs "need_inputs" = true)
    (h_k_need_inputs : PySem.W.keepIn K (.ref A_f_need_inputs) = true)
    (h_g_check_of : PySem.W.nsIn K mainGlobals "check_of" = some (some (.ref A_f_check_of)))
    (h_l_check_of : K.lookup A_f_check_of = some ⟨oc_check_of, od_check_of, .func (PySem.W.fnOf "check_of" "check_of" (defArgs s_check_of) (defBody s_check_of) (defScope s_check_of) .none kV_check_of dc_check_of pm_check_of an_check_of cd_check_of ct_check_of), sl_check_of⟩)
    (h_d_check_of : PySem.W.codeIn K cd_check_of "check_of" = true)
    (h_k_check_of : PySem.W.keepIn K (.ref A_f_check_of) = true)
    (h_g_number_row : PySem.W.nsIn K mainGlobals "number_row" = some (some (.ref A_f_number_row)))
    (h_l_number_row : K.lookup A_f_number_row = some ⟨oc_number_row, od_number_row, .func (PySem.W.fnOf "number_row" "number_row" (defArgs s_number_row) (defBody s_number_row) (defScope s_number_row) .none kV_number_row dc_number_row pm_number_row an_number_row cd_number_row ct_number_row), sl_number_row⟩)
    (h_d_number_row : PySem.W.codeIn K cd_number_row "number_row" = true)
    (h_k_number_row : PySem.W.keepIn K (.ref A_f_number_row) = true)
    (h_g_inputs_bytes : PySem.W.nsIn K mainGlobals "inputs_bytes" = some (some (.ref A_f_inputs_bytes)))
    (h_l_inputs_bytes : K.lookup A_f_inputs_bytes = some ⟨oc_inputs_bytes, od_inputs_bytes, .func (PySem.W.fnOf "inputs_bytes" "inputs_bytes" (defArgs s_inputs_bytes) (defBody s_inputs_bytes) (defScope s_inputs_bytes) .none kV_inputs_bytes dc_inputs_bytes pm_inputs_bytes an_inputs_bytes cd_inputs_bytes ct_inputs_bytes), sl_inputs_bytes⟩)
    (h_d_inputs_bytes : PySem.W.codeIn K cd_inputs_bytes "inputs_bytes" = true)
    (h_k_inputs_bytes : PySem.W.keepIn K (.ref A_f_inputs_bytes) = true)
    (h_g_Unpack___init__ : PySem.W.findIn K (.ref A_C_Unpack) "__init__" = some (some (.ref A_f_Unpack___init__)))
    (h_l_Unpack___init__ : K.lookup A_f_Unpack___init__ = some ⟨oc_Unpack___init__, od_Unpack___init__, .func (PySem.W.fnOf "__init__" "Unpack.__init__" (defArgs s_Unpack___init__) (defBody s_Unpack___init__) (defScope s_Unpack___init__) .none kV_Unpack___init__ dc_Unpack___init__ pm_Unpack___init__ an_Unpack___init__ cd_Unpack___init__ ct_Unpack___init__), sl_Unpack___init__⟩)
    (h_d_Unpack___init__ : PySem.W.codeIn K cd_Unpack___init__ "Unpack.__init__" = true)
    (h_k_Unpack___init__ : PySem.W.keepIn K (.ref A_f_Unpack___init__) = true)
    (h_fn_Unpack___init__ : PySem.W.isFn K (.ref A_f_Unpack___init__) = true)
    (h_g_Unpack_byte : PySem.W.findIn K (.ref A_C_Unpack) "byte" = some (some (.ref A_f_Unpack_byte)))
    (h_l_Unpack_byte : K.lookup A_f_Unpack_byte = some ⟨oc_Unpack_byte, od_Unpack_byte, .func (PySem.W.fnOf "byte" "Unpack.byte" (defArgs s_Unpack_byte) (defBody s_Unpack_byte) (defScope s_Unpack_byte) .none kV_Unpack_byte dc_Unpack_byte pm_Unpack_byte an_Unpack_byte cd_Unpack_byte ct_Unpack_byte), sl_Unpack_byte⟩)
    (h_d_Unpack_byte : PySem.W.codeIn K cd_Unpack_byte "Unpack.byte" = true)
    (h_k_Unpack_byte : PySem.W.keepIn K (.ref A_f_Unpack_byte) = true)
    (h_fn_Unpack_byte : PySem.W.isFn K (.ref A_f_Unpack_byte) = true)
    (h_g_Unpack_number : PySem.W.findIn K (.ref A_C_Unpack) "number" = some (some (.ref A_f_Unpack_number)))
    (h_l_Unpack_number : K.lookup A_f_Unpack_number = some ⟨oc_Unpack_number, od_Unpack_number, .func (PySem.W.fnOf "number" "Unpack.number" (defArgs s_Unpack_number) (defBody s_Unpack_number) (defScope s_Unpack_number) .none kV_Unpack_number dc_Unpack_number pm_Unpack_number an_Unpack_number cd_Unpack_number ct_Unpack_number), sl_Unpack_number⟩)
    (h_d_Unpack_number : PySem.W.codeIn K cd_Unpack_number "Unpack.number" = true)
    (h_k_Unpack_number : PySem.W.keepIn K (.ref A_f_Unpack_number) = true)
    (h_fn_Unpack_number : PySem.W.isFn K (.ref A_f_Unpack_number) = true)
    (h_g_Unpack_end : PySem.W.findIn K (.ref A_C_Unpack) "end" = some (some (.ref A_f_Unpack_end)))
    (h_l_Unpack_end : K.lookup A_f_Unpack_end = some ⟨oc_Unpack_end, od_Unpack_end, .func (PySem.W.fnOf "end" "Unpack.end" (defArgs s_Unpack_end) (defBody s_Unpack_end) (defScope s_Unpack_end) .none kV_Unpack_end dc_Unpack_end pm_Unpack_end an_Unpack_end cd_Unpack_end ct_Unpack_end), sl_Unpack_end⟩)
    (h_d_Unpack_end : PySem.W.codeIn K cd_Unpack_end "Unpack.end" = true)
    (h_k_Unpack_end : PySem.W.keepIn K (.ref A_f_Unpack_end) = true)
    (h_fn_Unpack_end : PySem.W.isFn K (.ref A_f_Unpack_end) = true)
    (h_g_read_inputs_bytes : PySem.W.nsIn K mainGlobals "read_inputs_bytes" = some (some (.ref A_f_read_inputs_bytes)))
    (h_l_read_inputs_bytes : K.lookup A_f_read_inputs_bytes = some ⟨oc_read_inputs_bytes, od_read_inputs_bytes, .func (PySem.W.fnOf "read_inputs_bytes" "read_inputs_bytes" (defArgs s_read_inputs_bytes) (defBody s_read_inputs_bytes) (defScope s_read_inputs_bytes) .none kV_read_inputs_bytes dc_read_inputs_bytes pm_read_inputs_bytes an_read_inputs_bytes cd_read_inputs_bytes ct_read_inputs_bytes), sl_read_inputs_bytes⟩)
    (h_d_read_inputs_bytes : PySem.W.codeIn K cd_read_inputs_bytes "read_inputs_bytes" = true)
    (h_k_read_inputs_bytes : PySem.W.keepIn K (.ref A_f_read_inputs_bytes) = true)
    (h_g__law_pen : PySem.W.nsIn K mainGlobals "_law_pen" = some (some (.ref A_f__law_pen)))
    (h_l__law_pen : K.lookup A_f__law_pen = some ⟨oc__law_pen, od__law_pen, .func (PySem.W.fnOf "_law_pen" "_law_pen" (defArgs s__law_pen) (defBody s__law_pen) (defScope s__law_pen) .none kV__law_pen dc__law_pen pm__law_pen an__law_pen cd__law_pen ct__law_pen), sl__law_pen⟩)
    (h_d__law_pen : PySem.W.codeIn K cd__law_pen "_law_pen" = true)
    (h_k__law_pen : PySem.W.keepIn K (.ref A_f__law_pen) = true)
    (h_g__law_draw : PySem.W.nsIn K mainGlobals "_law_draw" = some (some (.ref A_f__law_draw)))
    (h_l__law_draw : K.lookup A_f__law_draw = some ⟨oc__law_draw, od__law_draw, .func (PySem.W.fnOf "_law_draw" "_law_draw" (defArgs s__law_draw) (defBody s__law_draw) (defScope s__law_draw) .none kV__law_draw dc__law_draw pm__law_draw an__law_draw cd__law_draw ct__law_draw), sl__law_draw⟩)
    (h_d__law_draw : PySem.W.codeIn K cd__law_draw "_law_draw" = true)
    (h_k__law_draw : PySem.W.keepIn K (.ref A_f__law_draw) = true)
    (h_g__law_pick : PySem.W.nsIn K mainGlobals "_law_pick" = some (some (.ref A_f__law_pick)))
    (h_l__law_pick : K.lookup A_f__law_pick = some ⟨oc__law_pick, od__law_pick, .func (PySem.W.fnOf "_law_pick" "_law_pick" (defArgs s__law_pick) (defBody s__law_pick) (defScope s__law_pick) .none kV__law_pick dc__law_pick pm__law_pick an__law_pick cd__law_pick ct__law_pick), sl__law_pick⟩)
    (h_d__law_pick : PySem.W.codeIn K cd__law_pick "_law_pick" = true)
    (h_k__law_pick : PySem.W.keepIn K (.ref A_f__law_pick) = true)
    (h_g__law_caught : PySem.W.nsIn K mainGlobals "_law_caught" = some (some (.ref A_f__law_caught)))
    (h_l__law_caught : K.lookup A_f__law_caught = some ⟨oc__law_caught, od__law_caught, .func (PySem.W.fnOf "_law_caught" "_law_caught" (defArgs s__law_caught) (defBody s__law_caught) (defScope s__law_caught) .none kV__law_caught dc__law_caught pm__law_caught an__law_caught cd__law_caught ct__law_caught), sl__law_caught⟩)
    (h_d__law_caught : PySem.W.codeIn K cd__law_caught "_law_caught" = true)
    (h_k__law_caught : PySem.W.keepIn K (.ref A_f__law_caught) = true)
    (h_g__law_sevens : PySem.W.nsIn K mainGlobals "_law_sevens" = some (some (.ref A_f__law_sevens)))
    (h_l__law_sevens : K.lookup A_f__law_sevens = some ⟨oc__law_sevens, od__law_sevens, .func (PySem.W.fnOf "_law_sevens" "_law_sevens" (defArgs s__law_sevens) (defBody s__law_sevens) (defScope s__law_sevens) .none kV__law_sevens dc__law_sevens pm__law_sevens an__law_sevens cd__law_sevens ct__law_sevens), sl__law_sevens⟩)
    (h_d__law_sevens : PySem.W.codeIn K cd__law_sevens "_law_sevens" = true)
    (h_k__law_sevens : PySem.W.keepIn K (.ref A_f__law_sevens) = true)
    (h_g__law_check : PySem.W.nsIn K mainGlobals "_law_check" = some (some (.ref A_f__law_check)))
    (h_l__law_check : K.lookup A_f__law_check = some ⟨oc__law_check, od__law_check, .func (PySem.W.fnOf "_law_check" "_law_check" (defArgs s__law_check) (defBody s__law_check) (defScope s__law_check) .none kV__law_check dc__law_check pm__law_check an__law_check cd__law_check ct__law_check), sl__law_check⟩)
    (h_d__law_check : PySem.W.codeIn K cd__law_check "_law_check" = true)
    (h_k__law_check : PySem.W.keepIn K (.ref A_f__law_check) = true)
    (h_g__law_byte : PySem.W.nsIn K mainGlobals "_law_byte" = some (some (.ref A_f__law_byte)))
    (h_l__law_byte : K.lookup A_f__law_byte = some ⟨oc__law_byte, od__law_byte, .func (PySem.W.fnOf "_law_byte" "_law_byte" (defArgs s__law_byte) (defBody s__law_byte) (defScope s__law_byte) .none kV__law_byte dc__law_byte pm__law_byte an__law_byte cd__law_byte ct__law_byte), sl__law_byte⟩)
    (h_d__law_byte : PySem.W.codeIn K cd__law_byte "_law_byte" = true)
    (h_k__law_byte : PySem.W.keepIn K (.ref A_f__law_byte) = true)
    (h_g__law_read_sevens : PySem.W.nsIn K mainGlobals "_law_read_sevens" = some (some (.ref A_f__law_read_sevens)))
    (h_l__law_read_sevens : K.lookup A_f__law_read_sevens = some ⟨oc__law_read_sevens, od__law_read_sevens, .func (PySem.W.fnOf "_law_read_sevens" "_law_read_sevens" (defArgs s__law_read_sevens) (defBody s__law_read_sevens) (defScope s__law_read_sevens) .none kV__law_read_sevens dc__law_read_sevens pm__law_read_sevens an__law_read_sevens cd__law_read_sevens ct__law_read_sevens), sl__law_read_sevens⟩)
    (h_d__law_read_sevens : PySem.W.codeIn K cd__law_read_sevens "_law_read_sevens" = true)
    (h_k__law_read_sevens : PySem.W.keepIn K (.ref A_f__law_read_sevens) = true)
    (h_g__law_read_end : PySem.W.nsIn K mainGlobals "_law_read_end" = some (some (.ref A_f__law_read_end)))
    (h_l__law_read_end : K.lookup A_f__law_read_end = some ⟨oc__law_read_end, od__law_read_end, .func (PySem.W.fnOf "_law_read_end" "_law_read_end" (defArgs s__law_read_end) (defBody s__law_read_end) (defScope s__law_read_end) .none kV__law_read_end dc__law_read_end pm__law_read_end an__law_read_end cd__law_read_end ct__law_read_end), sl__law_read_end⟩)
    (h_d__law_read_end : PySem.W.codeIn K cd__law_read_end "_law_read_end" = true)
    (h_k__law_read_end : PySem.W.keepIn K (.ref A_f__law_read_end) = true)
    (h_g__law_bent_row : PySem.W.nsIn K mainGlobals "_law_bent_row" = some (some (.ref A_f__law_bent_row)))
    (h_l__law_bent_row : K.lookup A_f__law_bent_row = some ⟨oc__law_bent_row, od__law_bent_row, .func (PySem.W.fnOf "_law_bent_row" "_law_bent_row" (defArgs s__law_bent_row) (defBody s__law_bent_row) (defScope s__law_bent_row) .none kV__law_bent_row dc__law_bent_row pm__law_bent_row an__law_bent_row cd__law_bent_row ct__law_bent_row), sl__law_bent_row⟩)
    (h_d__law_bent_row : PySem.W.codeIn K cd__law_bent_row "_law_bent_row" = true)
    (h_k__law_bent_row : PySem.W.keepIn K (.ref A_f__law_bent_row) = true)
    (h_g__law_inputs_row : PySem.W.nsIn K mainGlobals "_law_inputs_row" = some (some (.ref A_f__law_inputs_row)))
    (h_l__law_inputs_row : K.lookup A_f__law_inputs_row = some ⟨oc__law_inputs_row, od__law_inputs_row, .func (PySem.W.fnOf "_law_inputs_row" "_law_inputs_row" (defArgs s__law_inputs_row) (defBody s__law_inputs_row) (defScope s__law_inputs_row) .none kV__law_inputs_row dc__law_inputs_row pm__law_inputs_row an__law_inputs_row cd__law_inputs_row ct__law_inputs_row), sl__law_inputs_row⟩)
    (h_d__law_inputs_row : PySem.W.codeIn K cd__law_inputs_row "_law_inputs_row" = true)
    (h_k__law_inputs_row : PySem.W.keepIn K (.ref A_f__law_inputs_row) = true)
    (h_g__law_inputs_bad : PySem.W.nsIn K mainGlobals "_law_inputs_bad" = some (some (.ref A_f__law_inputs_bad)))
    (h_l__law_inputs_bad : K.lookup A_f__law_inputs_bad = some ⟨oc__law_inputs_bad, od__law_inputs_bad, .func (PySem.W.fnOf "_law_inputs_bad" "_law_inputs_bad" (defArgs s__law_inputs_bad) (defBody s__law_inputs_bad) (defScope s__law_inputs_bad) .none kV__law_inputs_bad dc__law_inputs_bad pm__law_inputs_bad an__law_inputs_bad cd__law_inputs_bad ct__law_inputs_bad), sl__law_inputs_bad⟩)
    (h_d__law_inputs_bad : PySem.W.codeIn K cd__law_inputs_bad "_law_inputs_bad" = true)
    (h_k__law_inputs_bad : PySem.W.keepIn K (.ref A_f__law_inputs_bad) = true)
    (h_g_law : PySem.W.nsIn K mainGlobals "law" = some (some (.ref A_f_law)))
    (h_l_law : K.lookup A_f_law = some ⟨oc_law, od_law, .func (PySem.W.fnOf "law" "law" (defArgs s_law) (defBody s_law) (defScope s_law) .none kV_law dc_law pm_law an_law (.ref AC) ct_law), sl_law⟩)
    (h_d_law : PySem.W.codeIn K (.ref AC) "law" = true)
    (h_k_law : PySem.W.keepIn K (.ref A_f_law) = true)
    (h_codeL : K.lookup AC = some ⟨lce, lcd, .fields lcv, lcs⟩)
    (h_tabL : lcv[11]? = some (.ref APT))
    (h_noL : K.lookup APT = none)
    : ∃ (c PT : Addr) (o : Obj) (fd : FuncData) (e : Value) (dd : Option Addr) (vs : Array Value) (sl : Array (Option Value)), K.lookup fa = some o ∧ o.data = .func fd ∧ fd.code = .ref c ∧ K.lookup c = some ⟨e, dd, .fields vs, sl⟩ ∧ vs[11]? = some (.ref PT) ∧ K.lookup PT = none ∧
        ∀ (base : Heap) (H : Hp) (s : Shared) (a : Addr) (ns : List Int), ns.length ≤ 63 → K.In base → base.Ns mainGlobals mg → LamX.TabB base mg c PT → Env0 P w K mg base callerA [] s H → H PT = some (.tbl #[]) → SqL K H a (ns.map V.int) →
          codeAny (model P w) callerA (.call (.ref fa) ⟨[.ref a], []⟩) (CR (L2.CX P w) [] P w H s (fun v _ => v = .bl true) fun _ _ _ => False) s := by
  have e := hfa.symm.trans (PySem.W.mg_of X G h_g_law)
  have e2 : A_f_law = fa := (Value.ref.inj (Option.some.inj e)).symm
  subst e2
  have F_is_integer := fun_mk (st := s_is_integer) h_l_is_integer h_d_is_integer h_k_is_integer
  have b_is_integer := F_is_integer.binds (ps := ["value"]) fun _ _ _ _ _ _ us hl => match us, hl with | [_], _ => rfl
  have F_is_within := fun_mk (st := s_is_within) h_l_is_within h_d_is_within h_k_is_within
  have b_is_within := F_is_within.binds (ps := ["value", "least", "most"]) fun _ _ _ _ _ _ us hl => match us, hl with | [_, _, _], _ => rfl
  have F_is_listed := fun_mk (st := s_is_listed) h_l_is_listed h_d_is_listed h_k_is_listed
  have b_is_listed := F_is_listed.binds (ps := ["value"]) fun _ _ _ _ _ _ us hl => match us, hl with | [_], _ => rfl
  have F_are_bits := fun_mk (st := s_are_bits) h_l_are_bits h_d_are_bits h_k_are_bits
  have b_are_bits := F_are_bits.binds (ps := ["value"]) fun _ _ _ _ _ _ us hl => match us, hl with | [_], _ => rfl
  have F_is_input_row := fun_mk (st := s_is_input_row) h_l_is_input_row h_d_is_input_row h_k_is_input_row
  have b_is_input_row := F_is_input_row.binds (ps := ["value"]) fun _ _ _ _ _ _ us hl => match us, hl with | [_], _ => rfl
  have F_need_inputs := fun_mk (st := s_need_inputs) h_l_need_inputs h_d_need_inputs h_k_need_inputs
  have b_need_inputs := F_need_inputs.binds (ps := ["value"]) fun _ _ _ _ _ _ us hl => match us, hl with | [_], _ => rfl
  have F_check_of := fun_mk (st := s_check_of) h_l_check_of h_d_check_of h_k_check_of
  have b_check_of := F_check_of.binds (ps := ["row"]) fun _ _ _ _ _ _ us hl => match us, hl with | [_], _ => rfl
  have F_number_row := fun_mk (st := s_number_row) h_l_number_row h_d_number_row h_k_number_row
  have b_number_row := F_number_row.binds (ps := ["number"]) fun _ _ _ _ _ _ us hl => match us, hl with | [_], _ => rfl
  have F_inputs_bytes := fun_mk (st := s_inputs_bytes) h_l_inputs_bytes h_d_inputs_bytes h_k_inputs_bytes
  have b_inputs_bytes := F_inputs_bytes.binds (ps := ["inputs"]) fun _ _ _ _ _ _ us hl => match us, hl with | [_], _ => rfl
  have F_Unpack___init__ := fun_mk (st := s_Unpack___init__) h_l_Unpack___init__ h_d_Unpack___init__ h_k_Unpack___init__
  have b_Unpack___init__ := F_Unpack___init__.binds (ps := ["self", "data"]) fun _ _ _ _ _ _ us hl => match us, hl with | [_, _], _ => rfl
  have F_Unpack_byte := fun_mk (st := s_Unpack_byte) h_l_Unpack_byte h_d_Unpack_byte h_k_Unpack_byte
  have b_Unpack_byte := F_Unpack_byte.binds (ps := ["self", "least", "most"]) fun _ _ _ _ _ _ us hl => match us, hl with | [_, _, _], _ => rfl
  have F_Unpack_number := fun_mk (st := s_Unpack_number) h_l_Unpack_number h_d_Unpack_number h_k_Unpack_number
  have b_Unpack_number := F_Unpack_number.binds (ps := ["self", "most"]) fun _ _ _ _ _ _ us hl => match us, hl with | [_, _], _ => rfl
  have F_Unpack_end := fun_mk (st := s_Unpack_end) h_l_Unpack_end h_d_Unpack_end h_k_Unpack_end
  have b_Unpack_end := F_Unpack_end.binds (ps := ["self"]) fun _ _ _ _ _ _ us hl => match us, hl with | [_], _ => rfl
  have F_read_inputs_bytes := fun_mk (st := s_read_inputs_bytes) h_l_read_inputs_bytes h_d_read_inputs_bytes h_k_read_inputs_bytes
  have b_read_inputs_bytes := F_read_inputs_bytes.binds (ps := ["data"]) fun _ _ _ _ _ _ us hl => match us, hl with | [_], _ => rfl
  have F__law_pen := fun_mk (st := s__law_pen) h_l__law_pen h_d__law_pen h_k__law_pen
  have b__law_pen := F__law_pen.binds (ps := ["script"]) fun _ _ _ _ _ _ us hl => match us, hl with | [_], _ => rfl
  have F__law_draw := fun_mk (st := s__law_draw) h_l__law_draw h_d__law_draw h_k__law_draw
  have b__law_draw := F__law_draw.binds (ps := ["pen", "many"]) fun _ _ _ _ _ _ us hl => match us, hl with | [_, _], _ => rfl
  have F__law_pick := fun_mk (st := s__law_pick) h_l__law_pick h_d__law_pick h_k__law_pick
  have b__law_pick := F__law_pick.binds (ps := ["pen", "some"]) fun _ _ _ _ _ _ us hl => match us, hl with | [_, _], _ => rfl
  have F__law_caught := fun_mk (st := s__law_caught) h_l__law_caught h_d__law_caught h_k__law_caught
  have b__law_caught := F__law_caught.binds (ps := ["ask"]) fun _ _ _ _ _ _ us hl => match us, hl with | [_], _ => rfl
  have F__law_sevens := fun_mk (st := s__law_sevens) h_l__law_sevens h_d__law_sevens h_k__law_sevens
  have b__law_sevens := F__law_sevens.binds (ps := ["number"]) fun _ _ _ _ _ _ us hl => match us, hl with | [_], _ => rfl
  have F__law_check := fun_mk (st := s__law_check) h_l__law_check h_d__law_check h_k__law_check
  have b__law_check := F__law_check.binds (ps := ["row"]) fun _ _ _ _ _ _ us hl => match us, hl with | [_], _ => rfl
  have F__law_byte := fun_mk (st := s__law_byte) h_l__law_byte h_d__law_byte h_k__law_byte
  have b__law_byte := F__law_byte.binds (ps := ["told", "least", "most"]) fun _ _ _ _ _ _ us hl => match us, hl with | [_, _, _], _ => rfl
  have F__law_read_sevens := fun_mk (st := s__law_read_sevens) h_l__law_read_sevens h_d__law_read_sevens h_k__law_read_sevens
  have b__law_read_sevens := F__law_read_sevens.binds (ps := ["told", "most"]) fun _ _ _ _ _ _ us hl => match us, hl with | [_, _], _ => rfl
  have F__law_read_end := fun_mk (st := s__law_read_end) h_l__law_read_end h_d__law_read_end h_k__law_read_end
  have b__law_read_end := F__law_read_end.binds (ps := ["told"]) fun _ _ _ _ _ _ us hl => match us, hl with | [_], _ => rfl
  have F__law_bent_row := fun_mk (st := s__law_bent_row) h_l__law_bent_row h_d__law_bent_row h_k__law_bent_row
  have b__law_bent_row := F__law_bent_row.binds (ps := ["pen", "row"]) fun _ _ _ _ _ _ us hl => match us, hl with | [_, _], _ => rfl
  have F__law_inputs_row := fun_mk (st := s__law_inputs_row) h_l__law_inputs_row h_d__law_inputs_row h_k__law_inputs_row
  have b__law_inputs_row := F__law_inputs_row.binds (ps := ["inputs"]) fun _ _ _ _ _ _ us hl => match us, hl with | [_], _ => rfl
  have F__law_inputs_bad := fun_mk (st := s__law_inputs_bad) h_l__law_inputs_bad h_d__law_inputs_bad h_k__law_inputs_bad
  have b__law_inputs_bad := F__law_inputs_bad.binds (ps := ["row"]) fun _ _ _ _ _ _ us hl => match us, hl with | [_], _ => rfl
  have F_law := fun_mk (st := s_law) h_l_law h_d_law h_k_law
  have b_law := F_law.binds (ps := ["script"]) fun _ _ _ _ _ _ us hl => match us, hl with | [_], _ => rfl
  let ad : Ad := Ad.mk A_f_is_integer (PySem.W.fnOf "is_integer" "is_integer" (defArgs s_is_integer) (defBody s_is_integer) (defScope s_is_integer) .none kV_is_integer dc_is_integer pm_is_integer an_is_integer cd_is_integer ct_is_integer)
    A_f_is_within (PySem.W.fnOf "is_within" "is_within" (defArgs s_is_within) (defBody s_is_within) (defScope s_is_within) .none kV_is_within dc_is_within pm_is_within an_is_within cd_is_within ct_is_within)
    A_f_is_listed (PySem.W.fnOf "is_listed" "is_listed" (defArgs s_is_listed) (defBody s_is_listed) (defScope s_is_listed) .none kV_is_listed dc_is_listed pm_is_listed an_is_listed cd_is_listed ct_is_listed)
    A_f_are_bits (PySem.W.fnOf "are_bits" "are_bits" (defArgs s_are_bits) (defBody s_are_bits) (defScope s_are_bits) .none kV_are_bits dc_are_bits pm_are_bits an_are_bits cd_are_bits ct_are_bits)
    A_f_is_input_row (PySem.W.fnOf "is_input_row" "is_input_row" (defArgs s_is_input_row) (defBody s_is_input_row) (defScope s_is_input_row) .none kV_is_input_row dc_is_input_row pm_is_input_row an_is_input_row cd_is_input_row ct_is_input_row)
    A_f_need_inputs (PySem.W.fnOf "need_inputs" "need_inputs" (defArgs s_need_inputs) (defBody s_need_inputs) (defScope s_need_inputs) .none kV_need_inputs dc_need_inputs pm_need_inputs an_need_inputs cd_need_inputs ct_need_inputs)
    A_f_check_of (PySem.W.fnOf "check_of" "check_of" (defArgs s_check_of) (defBody s_check_of) (defScope s_check_of) .none kV_check_of dc_check_of pm_check_of an_check_of cd_check_of ct_check_of)
    A_f_number_row (PySem.W.fnOf "number_row" "number_row" (defArgs s_number_row) (defBody s_number_row) (defScope s_number_row) .none kV_number_row dc_number_row pm_number_row an_number_row cd_number_row ct_number_row)
    A_f_inputs_bytes (PySem.W.fnOf "inputs_bytes" "inputs_bytes" (defArgs s_inputs_bytes) (defBody s_inputs_bytes) (defScope s_inputs_bytes) .none kV_inputs_bytes dc_inputs_bytes pm_inputs_bytes an_inputs_bytes cd_inputs_bytes ct_inputs_bytes)
    A_f_Unpack___init__ (PySem.W.fnOf "__init__" "Unpack.__init__" (defArgs s_Unpack___init__) (defBody s_Unpack___init__) (defScope s_Unpack___init__) .none kV_Unpack___init__ dc_Unpack___init__ pm_Unpack___init__ an_Unpack___init__ cd_Unpack___init__ ct_Unpack___init__)
    A_f_Unpack_byte (PySem.W.fnOf "byte" "Unpack.byte" (defArgs s_Unpack_byte) (defBody s_Unpack_byte) (defScope s_Unpack_byte) .none kV_Unpack_byte dc_Unpack_byte pm_Unpack_byte an_Unpack_byte cd_Unpack_byte ct_Unpack_byte)
    A_f_Unpack_number (PySem.W.fnOf "number" "Unpack.number" (defArgs s_Unpack_number) (defBody s_Unpack_number) (defScope s_Unpack_number) .none kV_Unpack_number dc_Unpack_number pm_Unpack_number an_Unpack_number cd_Unpack_number ct_Unpack_number)
    A_f_Unpack_end (PySem.W.fnOf "end" "Unpack.end" (defArgs s_Unpack_end) (defBody s_Unpack_end) (defScope s_Unpack_end) .none kV_Unpack_end dc_Unpack_end pm_Unpack_end an_Unpack_end cd_Unpack_end ct_Unpack_end)
    A_f_read_inputs_bytes (PySem.W.fnOf "read_inputs_bytes" "read_inputs_bytes" (defArgs s_read_inputs_bytes) (defBody s_read_inputs_bytes) (defScope s_read_inputs_bytes) .none kV_read_inputs_bytes dc_read_inputs_bytes pm_read_inputs_bytes an_read_inputs_bytes cd_read_inputs_bytes ct_read_inputs_bytes)
    A_f__law_pen (PySem.W.fnOf "_law_pen" "_law_pen" (defArgs s__law_pen) (defBody s__law_pen) (defScope s__law_pen) .none kV__law_pen dc__law_pen pm__law_pen an__law_pen cd__law_pen ct__law_pen)
    A_f__law_draw (PySem.W.fnOf "_law_draw" "_law_draw" (defArgs s__law_draw) (defBody s__law_draw) (defScope s__law_draw) .none kV__law_draw dc__law_draw pm__law_draw an__law_draw cd__law_draw ct__law_draw)
    A_f__law_pick (PySem.W.fnOf "_law_pick" "_law_pick" (defArgs s__law_pick) (defBody s__law_pick) (defScope s__law_pick) .none kV__law_pick dc__law_pick pm__law_pick an__law_pick cd__law_pick ct__law_pick)
    A_f__law_caught (PySem.W.fnOf "_law_caught" "_law_caught" (defArgs s__law_caught) (defBody s__law_caught) (defScope s__law_caught) .none kV__law_caught dc__law_caught pm__law_caught an__law_caught cd__law_caught ct__law_caught)
    A_f__law_sevens (PySem.W.fnOf "_law_sevens" "_law_sevens" (defArgs s__law_sevens) (defBody s__law_sevens) (defScope s__law_sevens) .none kV__law_sevens dc__law_sevens pm__law_sevens an__law_sevens cd__law_sevens ct__law_sevens)
    A_f__law_check (PySem.W.fnOf "_law_check" "_law_check" (defArgs s__law_check) (defBody s__law_check) (defScope s__law_check) .none kV__law_check dc__law_check pm__law_check an__law_check cd__law_check ct__law_check)
    A_f__law_byte (PySem.W.fnOf "_law_byte" "_law_byte" (defArgs s__law_byte) (defBody s__law_byte) (defScope s__law_byte) .none kV__law_byte dc__law_byte pm__law_byte an__law_byte cd__law_byte ct__law_byte)
    A_f__law_read_sevens (PySem.W.fnOf "_law_read_sevens" "_law_read_sevens" (defArgs s__law_read_sevens) (defBody s__law_read_sevens) (defScope s__law_read_sevens) .none kV__law_read_sevens dc__law_read_sevens pm__law_read_sevens an__law_read_sevens cd__law_read_sevens ct__law_read_sevens)
    A_f__law_read_end (PySem.W.fnOf "_law_read_end" "_law_read_end" (defArgs s__law_read_end) (defBody s__law_read_end) (defScope s__law_read_end) .none kV__law_read_end dc__law_read_end pm__law_read_end an__law_read_end cd__law_read_end ct__law_read_end)
    A_f__law_bent_row (PySem.W.fnOf "_law_bent_row" "_law_bent_row" (defArgs s__law_bent_row) (defBody s__law_bent_row) (defScope s__law_bent_row) .none kV__law_bent_row dc__law_bent_row pm__law_bent_row an__law_bent_row cd__law_bent_row ct__law_bent_row)
    A_f__law_inputs_row (PySem.W.fnOf "_law_inputs_row" "_law_inputs_row" (defArgs s__law_inputs_row) (defBody s__law_inputs_row) (defScope s__law_inputs_row) .none kV__law_inputs_row dc__law_inputs_row pm__law_inputs_row an__law_inputs_row cd__law_inputs_row ct__law_inputs_row)
    A_f__law_inputs_bad (PySem.W.fnOf "_law_inputs_bad" "_law_inputs_bad" (defArgs s__law_inputs_bad) (defBody s__law_inputs_bad) (defScope s__law_inputs_bad) .none kV__law_inputs_bad dc__law_inputs_bad pm__law_inputs_bad an__law_inputs_bad cd__law_inputs_bad ct__law_inputs_bad)
    A_f_law (PySem.W.fnOf "law" "law" (defArgs s_law) (defBody s_law) (defScope s_law) .none kV_law dc_law pm_law an_law (.ref AC) ct_law)
    A_C_AliveError
    A_C_BadValue
    A_C_BadNumber
    A_C_BadCode
    A_C_BadText
    A_C_BadBytes
    A_C_Misfit
    A_C_Nothing
    A_C_TooMany
    A_C_Unpack
    A_i_BadValue
    A_i_BadBytes
    A_U_UNITS
  have T : Txt P K mg ad := {
    c_MOST_INPUTS := ⟨_, PySem.W.mg_of X G h_c_MOST_INPUTS, ⟨_, rfl⟩⟩,
    c_INPUTS := ⟨_, PySem.W.mg_of X G h_c_INPUTS, ⟨_, rfl⟩⟩,
    c_BYTE := ⟨_, PySem.W.mg_of X G h_c_BYTE, ⟨_, rfl⟩⟩,
    c_HALF := ⟨_, PySem.W.mg_of X G h_c_HALF, ⟨_, rfl⟩⟩,
    c_UNITS := ⟨_, PySem.W.mg_of X G h_c_UNITS, rfl⟩,
    q_UNITS := fun _ => .inr ⟨_, _, _, h_q_UNITS, rfl, rfl, (by show 8 ≤ sizeLine; decide), (.cons ⟨_, rfl⟩ (.cons ⟨_, rfl⟩ (.cons ⟨_, rfl⟩ (.cons ⟨_, rfl⟩ (.cons ⟨_, rfl⟩ (.cons ⟨_, rfl⟩ (.cons ⟨_, rfl⟩ (.cons ⟨_, rfl⟩ .nil))))))))⟩,
    m_isinstance := PySem.W.mg_none_of X G h_m_isinstance,
    m_int := PySem.W.mg_none_of X G h_m_int,
    m_bool := PySem.W.mg_none_of X G h_m_bool,
    m_list := PySem.W.mg_none_of X G h_m_list,
    m_tuple := PySem.W.mg_none_of X G h_m_tuple,
    m_all := PySem.W.mg_none_of X G h_m_all,
    m_len := PySem.W.mg_none_of X G h_m_len,
    m_sum := PySem.W.mg_none_of X G h_m_sum,
    m_enumerate := PySem.W.mg_none_of X G h_m_enumerate,
    m_range := PySem.W.mg_none_of X G h_m_range,
    m_zip := PySem.W.mg_none_of X G h_m_zip,
    m_min := PySem.W.mg_none_of X G h_m_min,
    m_repr := PySem.W.mg_none_of X G h_m_repr,
    v_BadValue := ⟨_, PySem.W.mg_of X G h_v_BadValue, rfl⟩,
    v_BadNumber := ⟨_, PySem.W.mg_of X G h_v_BadNumber, rfl⟩,
    v_BadCode := ⟨_, PySem.W.mg_of X G h_v_BadCode, rfl⟩,
    v_BadText := ⟨_, PySem.W.mg_of X G h_v_BadText, rfl⟩,
    v_BadBytes := ⟨_, PySem.W.mg_of X G h_v_BadBytes, rfl⟩,
    v_Misfit := ⟨_, PySem.W.mg_of X G h_v_Misfit, rfl⟩,
    v_Nothing := ⟨_, PySem.W.mg_of X G h_v_Nothing, rfl⟩,
    v_TooMany := ⟨_, PySem.W.mg_of X G h_v_TooMany, rfl⟩,
    v_AliveError := ⟨_, PySem.W.mg_of X G h_v_AliveError, rfl⟩,
    e_BadValue := { gC := PySem.W.mg_of X G h_v_BadValue, cls := ⟨_, _, _, _, _, _, _, _, _, _, _, _, _, _, _, h_L_BadValue, h_Lr_BadValue⟩, sa := h_sa_BadValue, noN := h_no_BadValue, iC := h_in_BadValue, tC := h_ti_BadValue, kC := h_ke_BadValue, exC := h_be_BadValue, tyC := h_ty_BadValue, su := h_su_BadValue, sub := h_mr_BadValue, ve := h_ve_BadValue, nsup := PySem.W.mg_none_of X G h_m_super, opq := h_opq, htop := h_htop, fn := ⟨_, _, _, _, _, _, _, _, _, _, _, _, _, _, _, _, _, _, _, _, _, _, h_fl_BadValue, h_fc_BadValue, h_fp_BadValue, ⟨_, _, _, _, _, _, h_fk_BadValue, h_fv_BadValue, h_ff_BadValue⟩, _, _, _, h_fe_BadValue⟩ },
    x_BadValue := ⟨h_ga_BadValue, h_gg_BadValue, h_be_BadValue, h_hd_BadValue, h_hc_BadValue, h_spG, h_tkG, h_mo_BadValue⟩,
    y_BadValue := ⟨h_ga_BadValue, h_gg_BadValue, h_be_BadValue, h_hd_BadValue⟩,
    z_BadValue := h_no_BadValue,
    i_BadValue_BadValue := h_i_BadValue_BadValue,
    i_BadValue_BadNumber := h_i_BadValue_BadNumber,
    i_BadValue_BadCode := h_i_BadValue_BadCode,
    i_BadValue_BadText := h_i_BadValue_BadText,
    i_BadValue_BadBytes := h_i_BadValue_BadBytes,
    i_BadValue_Misfit := h_i_BadValue_Misfit,
    i_BadValue_Nothing := h_i_BadValue_Nothing,
    i_BadValue_TooMany := h_i_BadValue_TooMany,
    j_BadValue := h_j_BadValue,
    e_BadBytes := { gC := PySem.W.mg_of X G h_v_BadBytes, cls := ⟨_, _, _, _, _, _, _, _, _, _, _, _, _, _, _, h_L_BadBytes, h_Lr_BadBytes⟩, sa := h_sa_BadBytes, noN := h_no_BadBytes, iC := h_in_BadBytes, tC := h_ti_BadBytes, kC := h_ke_BadBytes, exC := h_be_BadBytes, tyC := h_ty_BadBytes, su := h_su_BadBytes, sub := h_mr_BadBytes, ve := h_ve_BadBytes, nsup := PySem.W.mg_none_of X G h_m_super, opq := h_opq, htop := h_htop, fn := ⟨_, _, _, _, _, _, _, _, _, _, _, _, _, _, _, _, _, _, _, _, _, _, h_fl_BadBytes, h_fc_BadBytes, h_fp_BadBytes, ⟨_, _, _, _, _, _, h_fk_BadBytes, h_fv_BadBytes, h_ff_BadBytes⟩, _, _, _, h_fe_BadBytes⟩ },
    x_BadBytes := ⟨h_ga_BadBytes, h_gg_BadBytes, h_be_BadBytes, h_hd_BadBytes, h_hc_BadBytes, h_spG, h_tkG, h_mo_BadBytes⟩,
    y_BadBytes := ⟨h_ga_BadBytes, h_gg_BadBytes, h_be_BadBytes, h_hd_BadBytes⟩,
    z_BadBytes := h_no_BadBytes,
    i_BadBytes_BadValue := h_i_BadBytes_BadValue,
    i_BadBytes_BadNumber := h_i_BadBytes_BadNumber,
    i_BadBytes_BadCode := h_i_BadBytes_BadCode,
    i_BadBytes_BadText := h_i_BadBytes_BadText,
    i_BadBytes_BadBytes := h_i_BadBytes_BadBytes,
    i_BadBytes_Misfit := h_i_BadBytes_Misfit,
    i_BadBytes_Nothing := h_i_BadBytes_Nothing,
    i_BadBytes_TooMany := h_i_BadBytes_TooMany,
    j_BadBytes := h_j_BadBytes,
    cl_Unpack := ⟨h_pg_Unpack, h_ph_Unpack, h_po_Unpack, h_ps_Unpack⟩,
    na_Unpack_data := h_na_Unpack_data,
    na_Unpack_at := h_na_Unpack_at }
  refine ⟨AC, APT, _, _, _, _, _, _, h_l_law, rfl, rfl, h_codeL, h_tabL, h_noL, fun base H s a ns hl hb hg TB e0 ht hs => ?_⟩
  have A : All P w K mg base ad := {
    T := T,
    F_is_integer := F_is_integer,
    b_is_integer := b_is_integer,
    g_is_integer := PySem.W.mg_of X G h_g_is_integer,
    k_is_integer := h_k_is_integer,
    F_is_within := F_is_within,
    b_is_within := b_is_within,
    g_is_within := PySem.W.mg_of X G h_g_is_within,
    k_is_within := h_k_is_within,
    F_is_listed := F_is_listed,
    b_is_listed := b_is_listed,
    g_is_listed := PySem.W.mg_of X G h_g_is_listed,
    k_is_listed := h_k_is_listed,
    F_are_bits := F_are_bits,
    b_are_bits := b_are_bits,
    g_are_bits := PySem.W.mg_of X G h_g_are_bits,
    k_are_bits := h_k_are_bits,
    F_is_input_row := F_is_input_row,
    b_is_input_row := b_is_input_row,
    g_is_input_row := PySem.W.mg_of X G h_g_is_input_row,
    k_is_input_row := h_k_is_input_row,
    F_need_inputs := F_need_inputs,
    b_need_inputs := b_need_inputs,
    g_need_inputs := PySem.W.mg_of X G h_g_need_inputs,
    k_need_inputs := h_k_need_inputs,
    F_check_of := F_check_of,
    b_check_of := b_check_of,
    g_check_of := PySem.W.mg_of X G h_g_check_of,
    k_check_of := h_k_check_of,
    F_number_row := F_number_row,
    b_number_row := b_number_row,
    g_number_row := PySem.W.mg_of X G h_g_number_row,
    k_number_row := h_k_number_row,
    F_inputs_bytes := F_inputs_bytes,
    b_inputs_bytes := b_inputs_bytes,
    g_inputs_bytes := PySem.W.mg_of X G h_g_inputs_bytes,
    k_inputs_bytes := h_k_inputs_bytes,
    F_Unpack___init__ := F_Unpack___init__,
    b_Unpack___init__ := b_Unpack___init__,
    mk_Unpack := ⟨h_pm_Unpack, h_g_Unpack___init__, h_fn_Unpack___init__, h_pk_Unpack⟩,
    g_Unpack := PySem.W.mg_of X G h_pn_Unpack,
    F_Unpack_byte := F_Unpack_byte,
    b_Unpack_byte := b_Unpack_byte,
    me_Unpack_byte := ⟨h_g_Unpack_byte, h_fn_Unpack_byte, h_k_Unpack_byte⟩,
    F_Unpack_number := F_Unpack_number,
    b_Unpack_number := b_Unpack_number,
    me_Unpack_number := ⟨h_g_Unpack_number, h_fn_Unpack_number, h_k_Unpack_number⟩,
    F_Unpack_end := F_Unpack_end,
    b_Unpack_end := b_Unpack_end,
    me_Unpack_end := ⟨h_g_Unpack_end, h_fn_Unpack_end, h_k_Unpack_end⟩,
    F_read_inputs_bytes := F_read_inputs_bytes,
    b_read_inputs_bytes := b_read_inputs_bytes,
    g_read_inputs_bytes := PySem.W.mg_of X G h_g_read_inputs_bytes,
    k_read_inputs_bytes := h_k_read_inputs_bytes,
    F__law_pen := F__law_pen,
    b__law_pen := b__law_pen,
    g__law_pen := PySem.W.mg_of X G h_g__law_pen,
    k__law_pen := h_k__law_pen,
    F__law_draw := F__law_draw,
    b__law_draw := b__law_draw,
    g__law_draw := PySem.W.mg_of X G h_g__law_draw,
    k__law_draw := h_k__law_draw,
    F__law_pick := F__law_pick,
    b__law_pick := b__law_pick,
    g__law_pick := PySem.W.mg_of X G h_g__law_pick,
    k__law_pick := h_k__law_pick,
    F__law_caught := F__law_caught,
    b__law_caught := b__law_caught,
    g__law_caught := PySem.W.mg_of X G h_g__law_caught,
    k__law_caught := h_k__law_caught,
    F__law_sevens := F__law_sevens,
    b__law_sevens := b__law_sevens,
    g__law_sevens := PySem.W.mg_of X G h_g__law_sevens,
    k__law_sevens := h_k__law_sevens,
    F__law_check := F__law_check,
    b__law_check := b__law_check,
    g__law_check := PySem.W.mg_of X G h_g__law_check,
    k__law_check := h_k__law_check,
    F__law_byte := F__law_byte,
    b__law_byte := b__law_byte,
    g__law_byte := PySem.W.mg_of X G h_g__law_byte,
    k__law_byte := h_k__law_byte,
    F__law_read_sevens := F__law_read_sevens,
    b__law_read_sevens := b__law_read_sevens,
    g__law_read_sevens := PySem.W.mg_of X G h_g__law_read_sevens,
    k__law_read_sevens := h_k__law_read_sevens,
    F__law_read_end := F__law_read_end,
    b__law_read_end := b__law_read_end,
    g__law_read_end := PySem.W.mg_of X G h_g__law_read_end,
    k__law_read_end := h_k__law_read_end,
    F__law_bent_row := F__law_bent_row,
    b__law_bent_row := b__law_bent_row,
    g__law_bent_row := PySem.W.mg_of X G h_g__law_bent_row,
    k__law_bent_row := h_k__law_bent_row,
    F__law_inputs_row := F__law_inputs_row,
    b__law_inputs_row := b__law_inputs_row,
    g__law_inputs_row := PySem.W.mg_of X G h_g__law_inputs_row,
    k__law_inputs_row := h_k__law_inputs_row,
    F__law_inputs_bad := F__law_inputs_bad,
    b__law_inputs_bad := b__law_inputs_bad,
    g__law_inputs_bad := PySem.W.mg_of X G h_g__law_inputs_bad,
    k__law_inputs_bad := h_k__law_inputs_bad,
    F_law := F_law,
    b_law := b_law,
    g_law := PySem.W.mg_of X G h_g_law,
    k_law := h_k_law }
  exact law_run (v := .ref a) (sa := a) (ns := ns) A TB h_l_law h_d_law ⟨rfl, by decide, by decide⟩ e0 (.of_eq rfl) rfl (fun p hp => by rw [List.mem_singleton.mp hp]; exact ⟨#[], ht, trivial, fun _ _ z => nomatch z⟩) rfl hs (Nat.le_trans hl (by decide)) fun _ => rfl

end K87

set_option Elab.async false
open PySem PySem.W PyProof.Rows
set_option maxRecDepth 100000 in
set_option maxHeartbeats 0 in
theorem PySem.Challenge.cw_aliveatonce_k87_inputs_told_in_bytes_holds : PySem.Challenge.rw_aliveatonce_k87_inputs_told_in_bytes.Holds := by
  w_on; o_law; k_head; (case hw => w_witness2)
  k_fill
  refine LamA.walk_own1 (l := PySem.Challenge.rw_aliveatonce_k87_inputs_told_in_bytes) (n := 63) rfl (by decide) rfl ?hrec (fun w h Y => PySem.W.km_in_of Y) ?F
  case hrec => rfl
  case F =>
    intro w mg fa h KX G hmg
    refine' K87.all_mk KX G hmg ?h_c_MOST_INPUTS ?h_c_INPUTS ?h_c_BYTE ?h_c_HALF ?h_c_UNITS ?h_q_UNITS ?h_m_isinstance ?h_m_int ?h_m_bool ?h_m_list ?h_m_tuple ?h_m_all ?h_m_len ?h_m_sum ?h_m_enumerate ?h_m_range ?h_m_zip ?h_m_min ?h_m_repr ?h_m_super ?h_v_BadValue ?h_v_BadNumber ?h_v_BadCode ?h_v_BadText ?h_v_BadBytes ?h_v_Misfit ?h_v_Nothing ?h_v_TooMany ?h_v_AliveError ?h_L_BadValue ?h_Lr_BadValue ?h_sa_BadValue ?h_no_BadValue ?h_in_BadValue ?h_ti_BadValue ?h_ke_BadValue ?h_be_BadValue ?h_ty_BadValue ?h_su_BadValue ?h_mr_BadValue ?h_ve_BadValue ?h_fl_BadValue ?h_fc_BadValue ?h_fp_BadValue ?h_fk_BadValue ?h_fv_BadValue ?h_ff_BadValue ?h_fe_BadValue ?h_ga_BadValue ?h_gg_BadValue ?h_hd_BadValue ?h_hc_BadValue ?h_mo_BadValue ?h_i_BadValue_BadValue ?h_i_BadValue_BadNumber ?h_i_BadValue_BadCode ?h_i_BadValue_BadText ?h_i_BadValue_BadBytes ?h_i_BadValue_Misfit ?h_i_BadValue_Nothing ?h_i_BadValue_TooMany ?h_j_BadValue ?h_L_BadBytes ?h_Lr_BadBytes ?h_sa_BadBytes ?h_no_BadBytes ?h_in_BadBytes ?h_ti_BadBytes ?h_ke_BadBytes ?h_be_BadBytes ?h_ty_BadBytes ?h_su_BadBytes ?h_mr_BadBytes ?h_ve_BadBytes ?h_fl_BadBytes ?h_fc_BadBytes ?h_fp_BadBytes ?h_fk_BadBytes ?h_fv_BadBytes ?h_ff_BadBytes ?h_fe_BadBytes ?h_ga_BadBytes ?h_gg_BadBytes ?h_hd_BadBytes ?h_hc_BadBytes ?h_mo_BadBytes ?h_i_BadBytes_BadValue ?h_i_BadBytes_BadNumber ?h_i_BadBytes_BadCode ?h_i_BadBytes_BadText ?h_i_BadBytes_BadBytes ?h_i_BadBytes_Misfit ?h_i_BadBytes_Nothing ?h_i_BadBytes_TooMany ?h_j_BadBytes ?h_opq ?h_htop ?h_spG ?h_tkG ?h_pn_Unpack ?h_pg_Unpack ?h_ph_Unpack ?h_po_Unpack ?h_ps_Unpack ?h_pk_Unpack ?h_pm_Unpack ?h_na_Unpack_data ?h_na_Unpack_at ?h_g_is_integer ?h_l_is_integer ?h_d_is_integer ?h_k_is_integer ?h_g_is_within ?h_l_is_within ?h_d_is_within ?h_k_is_within ?h_g_is_listed ?h_l_is_listed ?h_d_is_listed ?h_k_is_listed ?h_g_are_bits ?h_l_are_bits ?h_d_are_bits ?h_k_are_bits ?h_g_is_input_row ?h_l_is_input_row ?h_d_is_input_row ?h_k_is_input_row ?h_g_need_inputs ?h_l_need_inputs ?h_d_need_inputs ?h_k_need_inputs ?h_g_check_of ?h_l_check_of ?h_d_check_of ?h_k_check_of ?h_g_number_row ?h_l_number_row ?h_d_number_row ?h_k_number_row ?h_g_inputs_bytes ?h_l_inputs_bytes ?h_d_inputs_bytes ?h_k_inputs_bytes ?h_g_Unpack___init__ ?h_l_Unpack___init__ ?h_d_Unpack___init__ ?h_k_Unpack___init__ ?h_fn_Unpack___init__ ?h_g_Unpack_byte ?h_l_Unpack_byte ?h_d_Unpack_byte ?h_k_Unpack_byte ?h_fn_Unpack_byte ?h_g_Unpack_number ?h_l_Unpack_number ?h_d_Unpack_number ?h_k_Unpack_number ?h_fn_Unpack_number ?h_g_Unpack_end ?h_l_Unpack_end ?h_d_Unpack_end ?h_k_Unpack_end ?h_fn_Unpack_end ?h_g_read_inputs_bytes ?h_l_read_inputs_bytes ?h_d_read_inputs_bytes ?h_k_read_inputs_bytes ?h_g__law_pen ?h_l__law_pen ?h_d__law_pen ?h_k__law_pen ?h_g__law_draw ?h_l__law_draw ?h_d__law_draw ?h_k__law_draw ?h_g__law_pick ?h_l__law_pick ?h_d__law_pick ?h_k__law_pick ?h_g__law_caught ?h_l__law_caught ?h_d__law_caught ?h_k__law_caught ?h_g__law_sevens ?h_l__law_sevens ?h_d__law_sevens ?h_k__law_sevens ?h_g__law_check ?h_l__law_check ?h_d__law_check ?h_k__law_check ?h_g__law_byte ?h_l__law_byte ?h_d__law_byte ?h_k__law_byte ?h_g__law_read_sevens ?h_l__law_read_sevens ?h_d__law_read_sevens ?h_k__law_read_sevens ?h_g__law_read_end ?h_l__law_read_end ?h_d__law_read_end ?h_k__law_read_end ?h_g__law_bent_row ?h_l__law_bent_row ?h_d__law_bent_row ?h_k__law_bent_row ?h_g__law_inputs_row ?h_l__law_inputs_row ?h_d__law_inputs_row ?h_k__law_inputs_row ?h_g__law_inputs_bad ?h_l__law_inputs_bad ?h_d__law_inputs_bad ?h_k__law_inputs_bad ?h_g_law ?h_l_law ?h_d_law ?h_k_law ?h_codeL ?h_tabL ?h_noL
    (case h_c_MOST_INPUTS => k_is)
    (case h_c_INPUTS => k_is)
    (case h_c_BYTE => k_is)
    (case h_c_HALF => k_is)
    (case h_c_UNITS => k_is)
    (case h_q_UNITS => k_is)
    (case h_m_isinstance => k_is)
    (case h_m_int => k_is)
    (case h_m_bool => k_is)
    (case h_m_list => k_is)
    (case h_m_tuple => k_is)
    (case h_m_all => k_is)
    (case h_m_len => k_is)
    (case h_m_sum => k_is)
    (case h_m_enumerate => k_is)
    (case h_m_range => k_is)
    (case h_m_zip => k_is)
    (case h_m_min => k_is)
    (case h_m_repr => k_is)
    (case h_m_super => k_is)
    (case h_v_BadValue => k_is)
    (case h_v_BadNumber => k_is)
    (case h_v_BadCode => k_is)
    (case h_v_BadText => k_is)
    (case h_v_BadBytes => k_is)
    (case h_v_Misfit => k_is)
    (case h_v_Nothing => k_is)
    (case h_v_TooMany => k_is)
    (case h_v_AliveError => k_is)
    (case h_L_BadValue => k_is)
    (case h_Lr_BadValue => first | rfl | decide +kernel)
    (case h_sa_BadValue => k_is)
    (case h_no_BadValue => k_is)
    (case h_in_BadValue => k_is)
    (case h_ti_BadValue => k_is)
    (case h_ke_BadValue => k_is)
    (case h_be_BadValue => k_is)
    (case h_ty_BadValue => k_is)
    (case h_su_BadValue => first | kernel_rfl | rfl)
    (case h_mr_BadValue => k_is)
    (case h_ve_BadValue => k_is)
    (case h_fl_BadValue => k_is)
    (case h_fc_BadValue => k_is)
    (case h_fp_BadValue => first | rfl | decide +kernel)
    (case h_fk_BadValue => k_is)
    (case h_fv_BadValue => exact rfl)
    (case h_ff_BadValue => first | rfl | decide +kernel)
    (case h_fe_BadValue => k_is)
    (case h_ga_BadValue => k_is)
    (case h_gg_BadValue => k_is)
    (case h_hd_BadValue => k_is)
    (case h_hc_BadValue => k_is)
    (case h_mo_BadValue => k_is)
    (case h_i_BadValue_BadValue => first | kernel_rfl | rfl)
    (case h_i_BadValue_BadNumber => first | kernel_rfl | rfl)
    (case h_i_BadValue_BadCode => first | kernel_rfl | rfl)
    (case h_i_BadValue_BadText => first | kernel_rfl | rfl)
    (case h_i_BadValue_BadBytes => first | kernel_rfl | rfl)
    (case h_i_BadValue_Misfit => first | kernel_rfl | rfl)
    (case h_i_BadValue_Nothing => first | kernel_rfl | rfl)
    (case h_i_BadValue_TooMany => first | kernel_rfl | rfl)
    (case h_j_BadValue => first | kernel_rfl | rfl)
    (case h_L_BadBytes => k_is)
    (case h_Lr_BadBytes => first | rfl | decide +kernel)
    (case h_sa_BadBytes => k_is)
    (case h_no_BadBytes => k_is)
    (case h_in_BadBytes => k_is)
    (case h_ti_BadBytes => k_is)
    (case h_ke_BadBytes => k_is)
    (case h_be_BadBytes => k_is)
    (case h_ty_BadBytes => k_is)
    (case h_su_BadBytes => first | kernel_rfl | rfl)
    (case h_mr_BadBytes => k_is)
    (case h_ve_BadBytes => k_is)
    (case h_fl_BadBytes => k_is)
    (case h_fc_BadBytes => k_is)
    (case h_fp_BadBytes => first | rfl | decide +kernel)
    (case h_fk_BadBytes => k_is)
    (case h_fv_BadBytes => exact rfl)
    (case h_ff_BadBytes => first | rfl | decide +kernel)
    (case h_fe_BadBytes => k_is)
    (case h_ga_BadBytes => k_is)
    (case h_gg_BadBytes => k_is)
    (case h_hd_BadBytes => k_is)
    (case h_hc_BadBytes => k_is)
    (case h_mo_BadBytes => k_is)
    (case h_i_BadBytes_BadValue => first | kernel_rfl | rfl)
    (case h_i_BadBytes_BadNumber => first | kernel_rfl | rfl)
    (case h_i_BadBytes_BadCode => first | kernel_rfl | rfl)
    (case h_i_BadBytes_BadText => first | kernel_rfl | rfl)
    (case h_i_BadBytes_BadBytes => first | kernel_rfl | rfl)
    (case h_i_BadBytes_Misfit => first | kernel_rfl | rfl)
    (case h_i_BadBytes_Nothing => first | kernel_rfl | rfl)
    (case h_i_BadBytes_TooMany => first | kernel_rfl | rfl)
    (case h_j_BadBytes => first | kernel_rfl | rfl)
    (case h_opq => k_is)
    (case h_htop => first | rfl | decide +kernel)
    (case h_spG => k_is)
    (case h_tkG => k_is)
    (case h_pn_Unpack => k_is)
    (case h_pg_Unpack => k_is)
    (case h_ph_Unpack => k_is)
    (case h_po_Unpack => k_is)
    (case h_ps_Unpack => k_is)
    (case h_pk_Unpack => k_is)
    (case h_pm_Unpack => k_is)
    (case h_na_Unpack_data => k_is)
    (case h_na_Unpack_at => k_is)
    (case h_g_is_integer => k_is)
    (case h_l_is_integer => k_is)
    (case h_d_is_integer => k_is)
    (case h_k_is_integer => k_is)
    (case h_g_is_within => k_is)
    (case h_l_is_within => k_is)
    (case h_d_is_within => k_is)
    (case h_k_is_within => k_is)
    (case h_g_is_listed => k_is)
    (case h_l_is_listed => k_is)
    (case h_d_is_listed => k_is)
    (case h_k_is_listed => k_is)
    (case h_g_are_bits => k_is)
    (case h_l_are_bits => k_is)
    (case h_d_are_bits => k_is)
    (case h_k_are_bits => k_is)
    (case h_g_is_input_row => k_is)
    (case h_l_is_input_row => k_is)
    (case h_d_is_input_row => k_is)
    (case h_k_is_input_row => k_is)
    (case h_g_need_inputs => k_is)
    (case h_l_need_inputs => k_is)
    (case h_d_need_inputs => k_is)
    (case h_k_need_inputs => k_is)
    (case h_g_check_of => k_is)
    (case h_l_check_of => k_is)
    (case h_d_check_of => k_is)
    (case h_k_check_of => k_is)
    (case h_g_number_row => k_is)
    (case h_l_number_row => k_is)
    (case h_d_number_row => k_is)
    (case h_k_number_row => k_is)
    (case h_g_inputs_bytes => k_is)
    (case h_l_inputs_bytes => k_is)
    (case h_d_inputs_bytes => k_is)
    (case h_k_inputs_bytes => k_is)
    (case h_g_Unpack___init__ => k_is)
    (case h_l_Unpack___init__ => k_is)
    (case h_d_Unpack___init__ => k_is)
    (case h_k_Unpack___init__ => k_is)
    (case h_fn_Unpack___init__ => k_is)
    (case h_g_Unpack_byte => k_is)
    (case h_l_Unpack_byte => k_is)
    (case h_d_Unpack_byte => k_is)
    (case h_k_Unpack_byte => k_is)
    (case h_fn_Unpack_byte => k_is)
    (case h_g_Unpack_number => k_is)
    (case h_l_Unpack_number => k_is)
    (case h_d_Unpack_number => k_is)
    (case h_k_Unpack_number => k_is)
    (case h_fn_Unpack_number => k_is)
    (case h_g_Unpack_end => k_is)
    (case h_l_Unpack_end => k_is)
    (case h_d_Unpack_end => k_is)
    (case h_k_Unpack_end => k_is)
    (case h_fn_Unpack_end => k_is)
    (case h_g_read_inputs_bytes => k_is)
    (case h_l_read_inputs_bytes => k_is)
    (case h_d_read_inputs_bytes => k_is)
    (case h_k_read_inputs_bytes => k_is)
    (case h_g__law_pen => k_is)
    (case h_l__law_pen => k_is)
    (case h_d__law_pen => k_is)
    (case h_k__law_pen => k_is)
    (case h_g__law_draw => k_is)
    (case h_l__law_draw => k_is)
    (case h_d__law_draw => k_is)
    (case h_k__law_draw => k_is)
    (case h_g__law_pick => k_is)
    (case h_l__law_pick => k_is)
    (case h_d__law_pick => k_is)
    (case h_k__law_pick => k_is)
    (case h_g__law_caught => k_is)
    (case h_l__law_caught => k_is)
    (case h_d__law_caught => k_is)
    (case h_k__law_caught => k_is)
    (case h_g__law_sevens => k_is)
    (case h_l__law_sevens => k_is)
    (case h_d__law_sevens => k_is)
    (case h_k__law_sevens => k_is)
    (case h_g__law_check => k_is)
    (case h_l__law_check => k_is)
    (case h_d__law_check => k_is)
    (case h_k__law_check => k_is)
    (case h_g__law_byte => k_is)
    (case h_l__law_byte => k_is)
    (case h_d__law_byte => k_is)
    (case h_k__law_byte => k_is)
    (case h_g__law_read_sevens => k_is)
    (case h_l__law_read_sevens => k_is)
    (case h_d__law_read_sevens => k_is)
    (case h_k__law_read_sevens => k_is)
    (case h_g__law_read_end => k_is)
    (case h_l__law_read_end => k_is)
    (case h_d__law_read_end => k_is)
    (case h_k__law_read_end => k_is)
    (case h_g__law_bent_row => k_is)
    (case h_l__law_bent_row => k_is)
    (case h_d__law_bent_row => k_is)
    (case h_k__law_bent_row => k_is)
    (case h_g__law_inputs_row => k_is)
    (case h_l__law_inputs_row => k_is)
    (case h_d__law_inputs_row => k_is)
    (case h_k__law_inputs_row => k_is)
    (case h_g__law_inputs_bad => k_is)
    (case h_l__law_inputs_bad => k_is)
    (case h_d__law_inputs_bad => k_is)
    (case h_k__law_inputs_bad => k_is)
    (case h_g_law => k_is)
    (case h_l_law => k_is)
    (case h_d_law => k_is)
    (case h_k_law => k_is)
    (case h_codeL => k_is)
    (case h_tabL => exact rfl)
    (case h_noL => first | kernel_rfl | rfl)

