import PyProof.Rows.All
import Wide.All
import OpenK.AllK
import Wide.FinOn
import KE.KExcSuper
import HandS.ForMost
import HandS.ForExc
import HandS.ExcInit
import HandS.HeadWalk
import HandS.Defaults
import HandS.Lambda
import HandS.ExcIs
import HandS.IsInst
import KE.KExcIs
import HandS.Rev
import HandS.DeepEq
import HandS.RaiseMore
import PyProof.NeKinds
import PyProof.Draws
import PyProof.EnumMake
import PyProof.Rows.NestShow
import PySem.Challenge.RW_entrybook_k88_values_written
import HandS.Walk
import HandS.WordsList
import HandS.Head0
import HandS.Head1
import HandS.Head2
import HandS.HeadEnd
import HandS.HeadHook1
import HandS.HeadHook2
import HandS.HeadHook3
import HandS.HeadHook4
import HandS.NestedK
set_option Elab.async false
set_option linter.all false
set_option maxRecDepth 100000
set_option maxHeartbeats 4000000
/-! An own error class whose __init__(self, text, line=None) says super().__init__(text) and keeps line. -/
namespace Nt
open PySem PySem.W PySem.Calls PyProof.Rows PySem.HandSPX
/-! ### the text of __init__ -/
def nA (p1 p2 p3 p4 : Pos) (j : Nat) : Arguments :=
  { posonlyargs := [], args := [{ arg := "self", annotation := none, pos := p1 }, { arg := "text", annotation := none, pos := p2 }, { arg := "line", annotation := none, pos := p3 }],
    vararg := none, kwonlyargs := [], kw_defaults := [], kwarg := none, defaults := [.Constant .none j p4] }
def nB (q1 q2 q3 q4 q5 q6 r1 r2 r3 r4 : Pos) : List Stmt :=
  [.Expr (.Call (.Attribute (.Call (.Name "super" q1) [] [] q2) "__init__" q3) [.Name "text" q4] [] q5) q6, .Assign [.Attribute (.Name "self" r1) "line" r2] (.Name "line" r3) r4]
def nS : Scope := { kind := .function, names := [(PySem.Str.ofString "self", .local), (PySem.Str.ofString "text", .local), (PySem.Str.ofString "line", .local), (PySem.Str.ofString "__class__", .free), (PySem.Str.ofString "super", .globalImplicit)], isGenerator := false, isCoroutine := false, more := [] }
/-- what the written part says of the class at C and its __init__ at fI -/
theorem super_eval {env : Env} {q1 q2 q3 q4 q5 : Pos} (hl : (q3.endLine == q5.line) = true) :
    eval (.Call (.Attribute (.Call (.Name "super" q1) [] [] q2) "__init__" q3) [.Name "text" q4] [] q5) env = (do
      let ov ← attributeBase (.Call (.Name "super" q1) [] [] q2) "__init__" env (eval (.Call (.Name "super" q1) [] [] q2) env)
      standAt q3.atName
      let (f, first) ← holding [ov] (getMethod ov "__init__" (L2.plainOf (.Call (.Name "super" q1) [] [] q2) env))
      callWith q5 f first (backTo q5 (starEach [.Name "text" q4] env)) []) := by
  rw [arm_eval_Call]
  have e : ∀ ov, methodCall (.Call (.Name "super" q1) [] [] q2) "__init__" q3 q5 env ov ([Expr.Name "text" q4].length + ([] : List Keyword).length) (backTo q5 (starEach [.Name "text" q4] env)) (backToKw q5 (keywordEach [] env)) = (do
      let (f, first) ← holding [ov] (getMethod ov "__init__" (L2.plainOf (.Call (.Name "super" q1) [] [] q2) env))
      callWith q5 f first (backTo q5 (starEach [.Name "text" q4] env)) (backToKw q5 (keywordEach [] env))) := fun ov => L2.mcall_line rfl hl
  simp only [e]
  rfl
structure NtC (prog : Program) (K : Frag) (mg : Str → Option Value) (nm : Str) (C fI : Addr) : Prop where
  gC : mg nm = some (.ref C)
  cls : ∃ cn q N bs bm sn sub ab col dd k0 k1 k2 k3 k5, K.lookup C = some (excClassObj cn q C N bs bm true sn sub ab col dd k0 k1 k2 k3 k5 "ValueError.__new__") ∧ refsVE bm = true ∧ alongIn K "__init__" bm = some (some (.builtin "ValueError.__init__"))
  sa : findIn K (.ref C) "__setattr__" = some (some (.builtin "object.__setattr__"))
  ga : findIn K (.ref C) "__getattribute__" = some (some (.builtin "BaseException.__getattribute__"))
  gg : findIn K (.ref C) "__getattr__" = some none
  noN : findIn K (.ref C) "line" = some none
  iC : findIn K (.ref C) "__init__" = some (some (.ref fI))
  tI : typeIn K (.ref fI) = some (.type "function")
  kC : keepIn K (.ref C) = true
  exC : subIn K (.ref C) (.type "BaseException") = some true
  veC : subIn K (.ref C) (.type "ValueError") = some true
  tyC : typeIn K (.ref C) = some (.type "type")
  hdC : hasDictIn K C = true
  opq : nsIn K cStatics "thirdparty.any" = some none
  sup : mg "super" = none
  fn : ∃ (oc : Value) (od : Option Addr) (qual : Str) (kV doc pm : Value) (an : Option Addr) (cdv ct : Value) (osl : Array (Option Value)) (cc T : Addr) (p1 p2 p3 p4 : Pos) (j : Nat) (q1 q2 q3 q4 q5 q6 r1 r2 r3 r4 : Pos),
    (q3.endLine == q5.line) = true ∧ K.lookup fI = some ⟨oc, od, .func (ksFn "__init__" qual (nA p1 p2 p3 p4 j) (nB q1 q2 q3 q4 q5 q6 r1 r2 r3 r4) nS (.ref T) kV doc pm an cdv ct cc), osl⟩ ∧ codeIn K cdv qual = true ∧
    (∃ oT dv nT, K.lookup T = some oT ∧ oT.data = .seq #[dv] nT) ∧
    (∃ cl cld csl, K.lookup cc = some ⟨cl, cld, .cell (some (.ref C)), csl⟩) ∧
    ∃ (cda : Addr) (ccl : Value) (cdd : Option Addr) (vs : Array Value) (ccs : Array (Option Value)) (file : Str) (tf : Tok), cdv = .ref cda ∧ K.lookup cda = some ⟨ccl, cdd, .fields vs, ccs⟩ ∧ vs[2]? = some (.str file tf) ∧ ((prog.main.file : Str) == file) = true
  top : (prog.main.scope.names.lookup ("super" : Str)).isSome = false
/-- what __init__ leaves of a fresh error at x -/
structure Left (h h' : Heap) (x C dx : Addr) (v : Value) : Prop where
  keep : ∀ b o, b ≠ x → h.get? b = some o → h'.get? b = some o
  obj : ∃ t1, h'.get? x = some { cls := .ref C, dict := some dx, data := .fields #[.ref t1, .none, .none, .none, .bool false, .none] }
  dbig : h.objs.size ≤ dx
  dne : dx ≠ x
  ns : h'.Ns1 dx (fun y => if y = "line" then some v else none)
section
variable {prog : Program} {w : World} {A : Around} {E : Value → Shared → Prop} {R : Result → Shared → Prop} {s : Shared} {K : Frag} {mg : Str → Option Value} {base : Heap} {nm : Str} {C fI : Addr}
theorem call_wrapper {cn q : Str} {N u e t0 : Addr} {bs bm : List Value} {hdct : Bool} {sn : List Str} {sub : List Value} {ab : Bool} {col : Option Bool} {dd : Option Addr} {k0 k1 k2 k3 k5 : Option Value} {rest : List Value} {Q : Value → Shared → Prop}
    {h : Heap} {g : Array GenState} {d : Drawn} {t : Nat} {os : OsState}
    (hC : h.get? C = some (excClassObj cn q C N bs bm hdct sn sub ab col dd k0 k1 k2 k3 k5 "ValueError.__new__")) (he : h.get? e = some (excO C t0)) (hu : h.get? u = some (kxs_mw "ValueError.__init__" e)) (hz : rest.length ≤ sizeLine)
    (hq : ∀ h' t1, (∀ b o, b ≠ e → h.get? b = some o → h'.get? b = some o) → h'.get? e = some (excO C t1) → Q .none ⟨h', g, d, t, os⟩) :
    wpAny (model prog w) A (call (.ref u) rest) Q E ⟨h, g, d, t, os⟩ := by
  refine wpAny_call (codeAny_of_tree ?_)
  show wpAny _ A.in1 (callAny (.ref u) ⟨rest, []⟩) _ _ _
  simp only [callAny]
  refine wpAny_bind (wpAny_load hu ?_)
  simp only [kxs_mw, show (Value.type "method-wrapper" == Value.type "method" || Value.type "method-wrapper" == Value.type "builtin_function_or_method" || Value.type "method-wrapper" == Value.type "method-wrapper") = true by decide, if_true]
  refine KFB.if_so (by decide) ?_
  refine wpAny_bind (check_bound_init F.excBase_ValueError.toExcCallFacts hC he rfl ?_)
  refine wpAny_bind (wpAny_pure (wpAny_pure ?_))
  refine ⟨plainId_quiet F.excBase_ValueError.init.plain _, codeAny_builtin F.excBase_ValueError.initEntry ?_⟩
  exact exc_init_tree (cls := .ref C) (t0 := t0) (dv := none) (c2 := .none) (c3 := .none) (b4 := .bool false) he hz fun h' k e' _ => hq h' _ k e'
theorem nt_init (T : NtC prog K mg nm C fI) {x t0 : Addr} {v1 v2 : Value} (M : L2.Mod K mg base) (bk : ∀ b o, base.get? b = some o → s.heap.get? b = some o) (hx : s.heap.get? x = some (excO C t0)) (hnx : base.get? x = none) (hroom : A.depth < recursionLimit)
    (hq : ∀ h' tk dx, Left s.heap h' x C dx v2 → R (.ok (.ret .none)) { s with heap := h', toks := tk }) :
    codeAny (model prog w) A (.call (.ref fI) ⟨[.ref x, v1, v2], []⟩) R s := by
  obtain ⟨oc, od, qual, kV, doc, pm, an, cdv, ct, osl, cc, T0, p1, p2, p3, p4, j, q1, q2, q3, q4, q5, q6, r1, r2, r3, r4, hln, ho, hcd, ⟨oT, dv, nT, hT, hTd⟩, ⟨cl, cld, csl, hcell⟩, cda, ccl, cdd, vs, ccs, file, tf, rfl, hcode, hvs, hfile⟩ := T.fn
  obtain ⟨cn, q, N, bs, bm, sn, sub, ab, col, dd, k0, k1, k2, k3, k5, hC, hbm, hal⟩ := T.cls
  have X : K.In s.heap := M.kin.keeps bk
  have hcl : clsIn K C = some { name := cn, bases := bs, mro := .ref C :: bm, ns := N, qualname := q, hasDict := true, slotNames := sn, subclasses := sub, abstract := ab, collection := col, hasDel := false } := by unfold clsIn; rw [hC] <;> rfl
  have hmro : mroIn K C (.ref C) = some true := by
    unfold mroIn
    rw [hcl, Option.bind_some]
    simp
  have hbd : BindsTo s (ksFn "__init__" qual (nA p1 p2 p3 p4 j) (nB q1 q2 q3 q4 q5 q6 r1 r2 r3 r4) nS (.ref T0) kV doc pm an (.ref cda) ct cc) ⟨[.ref x, v1, v2], []⟩ [(("self" : Str), Value.ref x), ("text", v1), ("line", v2)] := by
    refine L2.BindsTo.of_looks fun M => ?_
    have e : ∃ k, bindArgs (ksFn "__init__" qual (nA p1 p2 p3 p4 j) (nB q1 q2 q3 q4 q5 q6 r1 r2 r3 r4) nS (.ref T0) kV doc pm an (.ref cda) ct cc) ⟨[.ref x, v1, v2], []⟩ = seqItems? (.ref T0) >>= k ∧ k (some #[dv]) = pure [(("self" : Str), Value.ref x), ("text", v1), ("line", v2)] := by
      refine ⟨_, rfl, ?_⟩
      first | with_unfolding_all rfl | kernel_rfl
    obtain ⟨k, e1, e2⟩ := e
    rw [e1]
    exact L2.looks_items X hT hTd (Looks.of_pure e2)
  refine ks_codeAny_call_defAt (fd := ksFn "__init__" qual (nA p1 p2 p3 p4 j) (nB q1 q2 q3 q4 q5 q6 r1 r2 r3 r4) nS (.ref T0) kV doc pm an (.ref cda) ct cc) (body := nB q1 q2 q3 q4 q5 q6 r1 r2 r3 r4) (binds := [(("self" : Str), Value.ref x), ("text", v1), ("line", v2)])
    hroom (X _ _ ho) rfl (M.nolimit.keeps bk) (codeRec_of X hcd) rfl hbd (fun y hy => (show ∀ y ∈ nS.names, y.2 ≠ .cell from by decide) y hy) (fun y hy => ?bl) (fun h₁ hns hk => ?_) rfl rfl rfl
  case bl =>
    have hy2 : y.1 ∈ ([("self" : Str), "text", "line"] : List Str) := List.mem_map_of_mem (f := fun (z : Str × Value) => z.1) hy
    exact (show ∀ z ∈ ([("self" : Str), "text", "line"] : List Str), nS.names.lookup z = some .local from by decide +kernel) _ hy2
  have X₁ : K.In h₁ := X.keeps hk
  have hx₁ := hk _ _ hx
  have I₁ : InstAt h₁ x (excO C t0) C none := ⟨hx₁, rfl, rfl, trivial⟩
  obtain ⟨mb, hmb, hbb⟩ := M.blt
  have nX : x ≠ C := ks_ne X₁ I₁ hcl
  show PySem.wpAt _ (A.deeper (ksEnv qual nS s.heap.objs.size fI (.ref cda) cc)) (.func _ (ksEnv qual nS s.heap.objs.size fI (.ref cda) cc)) (execs _ (ksEnv qual nS s.heap.objs.size fI (.ref cda) cc)) _ _ _
  obtain ⟨hs, g, d, t, os⟩ := s
  generalize hL : hs.objs.size = L at hns ⊢
  refine ks_wpAt_execs_cons (ks_wpAt_Expr_any (ks_wpAt_MethodCall ?_ (super_eval hln)))
  have hCd : ∃ oD, h₁.get? C = some oD ∧ ∃ cdD, oD.data = .cls cdD := ⟨_, X₁ _ _ hC, _, rfl⟩
  obtain ⟨oD, hD1, cdD, hD2⟩ := hCd
  refine ks_wpAt_super_base (env := ksEnv qual nS L fI (.ref cda) cc) rfl rfl rfl rfl (X₁ _ _ ho) rfl rfl rfl (X₁ _ _ hcode) rfl hvs hfile T.top ?_
  refine ks_loadName_global rfl rfl (loadGlobal_builtin (env := ksEnv qual nS L fI (.ref cda) cc) (M.glob.keeps fun b o e => hk b o (bk b o e)) T.sup (hmb.keeps fun b o e => hk b o (bk b o e)) ((hbb _ (by decide +kernel)).trans (by first | boot_by_name | rfl | kernel_rfl)) ⟨rfl, ?_⟩)
  refine wpAny_loadName_free rfl rfl rfl ⟨_, X₁ _ _ hcell, rfl⟩ ?_
  refine wpAny_loadName_local rfl rfl hns rfl ?_
  refine ks_wpAny_isType_cls hD1 hD2 ⟨rfl, ?_⟩
  refine ks_wpAny_call_super hD1 hD2 hx₁ rfl (fun c e => by cases e) (looks_mroIn X₁ hmro) (fun h₂ e₂ k₂ => ?_)
  -- the bound __init__
  have X₂ : K.In h₂ := X₁.keeps k₂
  have I₂ : InstAt h₂ x (excO C t0) C none := ⟨k₂ _ _ hx₁, rfl, rfl, trivial⟩
  have hns₂ : h₂.Ns L _ := hns.keeps k₂
  refine kxs_getMethod kxs_ValueError e₂ (looks_opaque X₂ T.opq) (l₀ := .ref C :: bm) (l := bm) (fun A Q E s k q => wpAny_bind ((looks_clsIn X₂ hcl) A _ E s k (wpAny_pure q))) (by simp) X₂ hal (I₂.type.andThen (looks_subIn X₂ T.veC)) nX (by decide +kernel) ?_
  dsimp only
  have k₃ : ∀ b o, h₂.get? b = some o → (h₂.push (kxs_mw "ValueError.__init__" x)).get? b = some o := fun b o e => Heap.get?_push_of_some _ e
  have e₃ : (h₂.push (kxs_mw "ValueError.__init__" x)).get? h₂.objs.size = some (kxs_mw "ValueError.__init__" x) := Heap.get?_push_at rfl rfl
  generalize h₂.push (kxs_mw "ValueError.__init__" x) = h₃ at k₃ e₃ ⊢
  generalize h₂.objs.size = u at e₃ ⊢
  have X₃ : K.In h₃ := X₂.keeps k₃
  have hns₃ := hns₂.keeps k₃
  have hx₃ := k₃ _ _ (k₂ _ _ hx₁)
  have k03 : ∀ b o, hs.get? b = some o → h₃.get? b = some o := fun b o e => k₃ _ _ (k₂ _ _ (hk _ _ e))
  refine kxs_callWith (i := "ValueError.__init__") (x := x) rfl (evalArgs_plain (Calls.spliced_cons ?_))
  refine wpAny_Name (wpAny_loadName_local rfl rfl hns₃ (v := v1) rfl ?_) (by decide +kernel)
  refine Calls.spliced_nil ⟨e₃, ?_⟩
  dsimp only
  refine call_wrapper (X₃ _ _ hC) hx₃ e₃ (by show 1 ≤ sizeLine; rw [sizeLine_eq]; omega) fun h₄ t1 k₄ hx₄ => ?_
  -- self.line = line
  have LL : L ≠ x := by
    rw [← hL]
    exact Nat.ne_of_gt (Heap.lt_size hx)
  have hns₄ : h₄.Ns L (fun y => ([(("self" : Str), Value.ref x), ("text", v1), ("line", v2)] : List (Str × Value)).reverse.lookup y) := by
    obtain ⟨o, es, ep, e, r⟩ := hns₃
    exact ⟨o, es, ep, k₄ _ _ LL e, r⟩
  have X₄ : K.In h₄ := fun a o e => k₄ a o (fun z => by
    have e2 := M.kin a o e
    rw [z, hnx] at e2
    cases e2) (X₃ a o e)
  have dead : ∀ (fl : Flow) (s' : Shared), (∀ st : Unit, True) → True := fun _ _ _ => True.intro
  show PySem.wpAt _ _ _ _ _ _ _
  refine wpAt_of_wpAny (wpAny_execs_cons (plainObj_wpAny_Assign_Attribute ?_))
  refine wpAny_Name (wpAny_loadName_local rfl rfl hns₄ (v := v2) rfl ?_) (by decide +kernel)
  refine wpAny_Name (wpAny_loadName_local rfl rfl hns₄ (v := .ref x) rfl ?_) (by decide +kernel)
  refine set_plain X₄ (ox := excO C t1) (od := none) ⟨hx₄, rfl, rfl, trivial⟩ T.sa ?_
  refine exc_osa X₄ hx₄ hcl (show refsVE (.ref C :: bm) = true from hbm) rfl T.noN (fun h₅ tk₅ dx k₅ dn dne hx₅ hn₅ => ?_)
  refine wpAny_execs_nil ?_
  refine hq h₅ _ dx ⟨fun b o hb e => k₅ b o hb (k₄ b o hb (k03 b o e)), ⟨_, hx₅⟩, ?_, dne, hn₅⟩
  have z4 : L < h₄.objs.size := hns₄.lt
  rw [hL]
  exact Nat.le_of_lt (Nat.lt_of_lt_of_le z4 dn)
/-- an error made: kept heap, the error and its dict new -/
structure Made (h h' : Heap) (e C d : Addr) (v : Value) : Prop where
  keep : ∀ b o, h.get? b = some o → h'.get? b = some o
  new : h.objs.size ≤ e
  obj : ∃ oe fv, h'.get? e = some oe ∧ oe.cls = .ref C ∧ oe.dict = some d ∧ oe.data = .fields fv ∧ fv[1]? = some .none
  dbig : h.objs.size ≤ d
  dne : d ≠ e
  ns : h'.Ns1 d (fun y => if y = "line" then some v else none)
theorem nt_made (T : NtC prog K mg nm C fI) {v1 v2 : Value} (M : L2.Mod K mg base) (bk : ∀ b o, base.get? b = some o → s.heap.get? b = some o) (hsz : base.objs.size ≤ s.heap.objs.size) (hroom : A.depth + 1 < recursionLimit)
    (hq : ∀ h' tk e d, Made s.heap h' e C d v2 → R (.ok (.ret (.ref e))) { s with heap := h', toks := tk }) :
    codeAny (model prog w) A (.call (.ref C) ⟨[v1, v2], []⟩) R s := by
  obtain ⟨cn, q, N, bs, bm, sn, sub, ab, col, dd, k0, k1, k2, k3, k5, hC, hbm, hal⟩ := T.cls
  obtain ⟨hp, g, dr, tk, os⟩ := s
  have X : K.In hp := M.kin.keeps bk
  have k : ∀ b o, hp.get? b = some o → ((hp.push (kdv_tup [v1, v2])).push (excO C hp.objs.size)).get? b = some o := fun b o e => Heap.get?_push_of_some _ (Heap.get?_push_of_some _ e)
  have hget : ((hp.push (kdv_tup [v1, v2])).push (excO C hp.objs.size)).get? (hp.objs.size + 1) = some (excO C hp.objs.size) := by heap_get
  have hbn : base.get? (hp.objs.size + 1) = none := Heap.get?_none_of_le (Nat.le_trans hsz (Nat.le_succ _))
  refine call_own F.excBase_ValueError (fun Y => refsVE_contains Y bm hbm) (X _ _ hC) (looks_findIn X T.iC) (fun self => bind_fn X self T.tI) (by show 2 ≤ sizeLine; rw [sizeLine_eq]; omega) ?_
  refine nt_init (s := ⟨(hp.push (kdv_tup [v1, v2])).push (excO C hp.objs.size), g, dr, tk, os⟩) T M (fun b o e => k b o (bk b o e)) hget hbn ?_ fun h' tk' dx Z => ?_
  · show A.depth + 1 < recursionLimit
    exact hroom
  · have dn := Z.dbig
    rw [Heap.size_push, Heap.size_push] at dn
    obtain ⟨t1, hx⟩ := Z.obj
    exact ⟨rfl, hq h' tk' (hp.objs.size + 1) dx ⟨fun b o e => Z.keep b o (Nat.ne_of_lt (Nat.lt_succ_of_lt (Heap.lt_size e))) (k b o e), Nat.le_succ _, ⟨_, _, hx, rfl, rfl, rfl, rfl⟩, Nat.le_trans (Nat.le_trans (Nat.le_succ _) (Nat.le_succ _)) dn, Z.dne, Z.ns⟩⟩
end
end Nt
namespace L2
open PySem PySem.Spec PyProof.Rows
theorem relO_line {v : V} {u : Value} (r : RelV v u) (f : Str) : RelO (List.lookup f [(("line" : Str), v)]) (if f = "line" then some u else none) := by
  by_cases hw : f = "line"
  · subst hw
    rw [if_pos rfl]
    have q : List.lookup ("line" : Str) [(("line" : Str), v)] = some v := by simp [List.lookup]
    rw [q]
    exact r
  · rw [if_neg hw]
    have qw : (f == ("line" : Str)) = false := by simpa using hw
    have q2 : List.lookup f [(("line" : Str), v)] = none := by simp [List.lookup, qw]
    rw [q2]
    trivial
section
variable {X : Cx} {C fI : Addr} {nm : Str}
/-- nm(text, line) -/
def tMkNt (C : Addr) (ta : TA) : St → Hp → XK → Prop := fun σ H Q => ta σ H fun vs H1 => ∃ v1 v2, vs = [v1, v2] ∧ ∀ d, H1 d = none → Q (.ref C) (some d) (upd H1 d (.xd [(("line" : Str), v2)]))
theorem pmk_nt {a b : Expr} {ta : TA} {p pos : Pos} {k : Nat} (T : Nt.NtC X.prog X.K X.mg nm C fI) (hr : Room k X.A) (ha : PA X [a, b] ta) (hg : Gl X nm) (hdb : (nm == ("__debug__" : Str)) = false)
    (he : starEach (a :: [b]) X.env = (false, eval a X.env) :: starEach [b] X.env := by rfl) (hpl : (backTo pos (starEach [b] X.env)).any (·.1) = false := by rfl) :
    PMk X (.Call (.Name nm p) [a, b] [] pos) (tMkNt C ta) := by
  intro pins s σ H Q I h
  refine wpAny_Call_Name_kw (ld_glob I hg T.gC ?_ hdb)
  refine PySem.W.callWith_K (h₀ := X.base) I.ok.mod.kin T.kC (thn (ha.run pos pins s σ H _ I h) fun us s1 hh => ?_) he hpl
  obtain ⟨vs, H1, I1, r1, v1, v2, ev, q1⟩ := hh
  subst ev
  refine ⟨I1.kIn, ?_⟩
  match r1 with
  | @Paired.cons _ _ _ _ u1 _ _ ra (@Paired.cons _ _ _ _ u2 _ _ rb .nil) =>
      show wpAny _ _ (call (.ref C) [u1, u2]) _ _ _
      obtain ⟨hp, g, dr, tk, os⟩ := s1
      refine wpAny_call (Nt.nt_made T I1.mod I1.bk (Nat.le_trans I1.ok.bsz I1.sz) (by have := hr.dp; omega) fun h' tk' e d M => ?_)
      show MkP X pins σ Q (.ref e) ⟨h', g, dr, tk', os⟩
      obtain ⟨oe, fv, hoe, hc, hd, hdat, h1⟩ := M.obj
      have hns := M.ns
      obtain ⟨G', g1, g2⟩ := restrict h' fun b => decide (b ≠ e)
      have gk : ∀ b, b ≠ e → G'.get? b = h'.get? b := fun b hb => g1 b (decide_eq_true hb)
      have ge : G'.get? e = none := g2 e (by simp)
      have old : ∀ b o, hp.get? b = some o → G'.get? b = some o := fun b o q => (gk b (Nat.ne_of_lt (Nat.lt_of_lt_of_le (Heap.lt_size q) M.new))).trans (M.keep b o q)
      have ob : ObjOk X.prog X.w (upd H1 d (.xd [(("line" : Str), v2)])) G' d (.xd [(("line" : Str), v2)]) :=
        ⟨_, hns.at (fun o q => (gk d M.dne).trans q), fun f => relO_line rb f⟩
      have J : Inv X pins σ (upd H1 d (.xd [(("line" : Str), v2)])) ⟨G', g, dr, tk', os⟩ := I1.laid (t' := tk') old M.dbig ob
      refine ⟨e, oe, fv, ⟨G', g, dr, tk', os⟩, _, .ref C, some d, rfl, J, fun b o q => ?_, ge, hoe, ⟨hc, hd⟩, hdat, h1, ?_, rfl, I1.bare, raises_own T.exC T.tyC, q1 d (I1.hok.fresh M.dbig)⟩
      · by_cases hb : b = e
        · have q' : G'.get? b = some o := q
          rw [hb, ge] at q'; cases q'
        · exact (gk b hb).symm.trans q
      · rw [upd_ne (Ne.symm M.dne)]
        exact I1.hok.fresh M.new
/-- raise nm(text, line) -/
def tRaiseNt (C : Addr) (W : WX) (ta : TA) : TS := fun _ σ H => tMkNt C ta σ H fun cls d H' => W cls d σ H'
theorem ps_raiseNt {a b : Expr} {ta : TA} {W : WX} {p pos pos2 : Pos} {k : Nat} (hc : X.calm = true) (T : Nt.NtC X.prog X.K X.mg nm C fI) (hr : Room k X.A) (tk : Takes X W) (ha : PA X [a, b] ta) (hg : Gl X nm) (hdb : (nm == ("__debug__" : Str)) = false)
    (he : starEach (a :: [b]) X.env = (false, eval a X.env) :: starEach [b] X.env := by rfl) (hpl : (backTo pos (starEach [b] X.env)).any (·.1) = false := by rfl) :
    PS X (.Raise (some (.Call (.Name nm p) [a, b] [] pos)) none pos2) (tRaiseNt C W ta) := ps_raise hc tk (pmk_nt T hr ha hg hdb he hpl)
end
end L2
set_option maxHeartbeats 4000000
/-! try: .. except X as n: .. where the caught error is held on behind the suite, as a value. -/
namespace L2
open PySem PySem.Spec PyProof.Rows
/-- an error object of the class cls with its own dict d, held as a value at a -/
def Er (cls : Value) (d : Option Addr) (a : Addr) : HO := .ext fun h => ∃ (oe : Obj) (vs : Array Value), h.get? a = some oe ∧ Zc cls d oe ∧ oe.data = .fields vs
theorem er_ok {P : Program} {w : World} {H : Hp} {h : Heap} {a : Addr} {cls : Value} {d : Option Addr} {oe : Obj} {vs : Array Value} (e : h.get? a = some oe) (z : Zc cls d oe) (f : oe.data = .fields vs) : ObjOk P w H h a (Er cls d a) :=
  ⟨⟨oe, vs, e, z, f⟩, ⟨oe, e⟩, fun _ _ ⟨o, us, q, r⟩ k => ⟨o, us, k o q, r⟩⟩
section
variable {X : Cx} {pins : List (Addr × Obj)} {σ : St} {H : Hp} {s : Shared}
/-- an object that came behind the entry and is not tracked yet is tracked from now on -/
theorem Inv.held {a : Addr} {cls : Value} {d : Option Addr} {oe : Obj} {vs : Array Value} (I : Inv X pins σ H s) (ha : s.heap.get? a = some oe) (hz : Zc cls d oe) (hd : oe.data = .fields vs) (na : H a = none) (nL : a ≠ X.env.locals) (n0 : X.s_0.heap.get? a = none)
    (np : ∀ p ∈ X.pn ++ pins, p.1 ≠ a) : Inv X pins σ (upd H a (Er cls d a)) s := by
  have ne0 : ∀ b o, X.s_0.heap.get? b = some o → b ≠ a := fun b o e z => by
    rw [z, n0] at e
    cases e
  have neS : ∀ b u, H b = some u → b ≠ a := fun b u e z => by
    rw [z, na] at e
    cases e
  have ncell : ∀ x c, X.env.cells.lookup x = some c → c ≠ a := fun x c e z => by
    obtain ⟨v, o, ho, hv⟩ := I.cell x c e
    rw [z, ha] at ho
    cases ho
    rw [hd] at hv
    cases hv
  refine ⟨I.ok, I.os, I.bare, ⟨I.base.keep, I.base.slot, fun b o e n hx => ?_, I.base.there, fun b xs e => ?_, fun b o u e => ?_, fun b ps e => ?_⟩, I.loc, I.cell, ?_, fun x c e => ?_, fun p hp => ?_, fun b u e => ?_, I.len⟩
  · rw [upd_ne (ne0 b o e)]
    exact I.base.free b o e n hx
  · have q := I.base.tups b xs e
    rw [upd_ne (neS b _ q)]
    exact q
  · have q := I.base.frzs b o u e
    rw [upd_ne (neS b _ q)]
    exact q
  · obtain ⟨m, q⟩ := I.base.tbls b ps e
    exact ⟨m, by rw [upd_ne (neS b _ q)]; exact q⟩
  · rw [upd_ne (Ne.symm nL)]
    exact I.free
  · rw [upd_ne (ncell x c e)]
    exact I.freeC x c e
  · obtain ⟨e, n, ne, nf, q⟩ := I.pin p hp
    exact ⟨e, by rw [upd_ne (np p hp)]; exact n, ne, nf, q⟩
  · by_cases hb : b = a
    · subst hb
      rw [upd_same] at e
      cases e
      exact er_ok ha hz hd
    · rw [upd_ne hb] at e
      refine (I.hok b u e).stay (fun _ _ _ q => q) (fun c q => ?_) fun c xs q => ?_
      · rw [upd_ne (neS c _ q)]
        exact q
      · rw [upd_ne (neS c _ q)]
        exact q
end
/-- what 'except x as n' wishes of an error of the body: slot i is n's; behind the suite the error is held -/
def wKeep (K : PySem.W.Frag) (c : Value) (i : Nat) (ts : Addr → Value → Option Addr → TS) (Wout : WX) (D : Ends) : WX := fun cls d σ H =>
  ∃ b, PySem.W.exmOne K cls c = some b ∧ (b = true → ∀ a, H a = none → ts a cls d { nx := fun σ' H' => H' a = none → D.nx (σ'.set i none) (upd H' a (Er cls d a)), rt := fun _ _ => False } (σ.set i (some (.ref a))) H) ∧ (b = false → Wout cls d σ H)
section
variable {X : Cx} {x n : Str} {c : Value} {i : Nat} {body suite : List Stmt} {b₀ : Stmt} {np pos pos' : Pos} {tb : WX → TS} {ts : Addr → Value → Option Addr → TS} {Wout : WX}
theorem ps_try_keep (hs : X.stack = X.env :: X.outer) (hf : X.env.frame = some X.env.locals) (hex : X.ex = []) (hN : X.N.Nodup) (hi : X.N[i]? = some n) (hln : X.env.kindOf n = some .local) (hc : Names X x c) (tk : Takes X Wout)
    (hb : ∀ (W : WX) (pn : List (Addr × Obj)) (xe : Value → Shared → Prop), Takes (X.tr pn xe) W → PassesOwn (model X.prog X.w) X.A X.env xe → PSs (X.tr pn xe) body (tb W))
    (hsu : ∀ (a : Addr) (oe : Obj) (cls : Value) (d : Option Addr) (pn : List (Addr × Obj)), Zc cls d oe → (∃ vs, oe.data = .fields vs) → PSs (X.suite a ((a, oe) :: pn)) (b₀ :: suite) (ts a cls d)) :
    PS X (.Try body [.ExceptHandler (some (.Name x np)) (some n) (b₀ :: suite) pos'] [] [] pos) (fun D σ H => tb (wKeep X.K c i ts Wout D) D σ H) := by
  refine ⟨fun pins s σ H D I h => ?_⟩
  have ok := I.ok
  have hfr : X.A.frames = some (X.env :: X.outer) := by rw [ok.frames, hs]
  refine wpAny_Try_except ?_
  let air : Value → Shared → Prop := fun e s₁ => wpAny (model X.prog X.w) X.A (noteFrame e X.env) (fun _ s₂ => wpAny (model X.prog X.w) X.A (setFlight e none) (fun _ s₃ =>
      wpAny (model X.prog X.w) X.A (handleBy e X.env [.ExceptHandler (some (.Name x np)) (some n) (b₀ :: suite) pos']) (SP X pins D) X.xe s₃) X.xe s₂) X.xe s₁
  refine wpAny_mono ((hb (wKeep X.K c i ts Wout D) (X.pn ++ pins) air (fun u s' xx => ?caught) PassesOwn.looking).run [] s σ H D (I.toTry _) h) (fun f s1 hsp => ?through) (fun e s1 he => he)
  case through =>
    cases f with
    | next =>
      obtain ⟨σ2, H2, J2, q⟩ := hsp
      exact wpAny_execs_nil ⟨σ2, H2, J2.ofTry ok, q⟩
    | brk =>
      obtain ⟨σ2, H2, J2, q⟩ := hsp
      exact ⟨σ2, H2, J2.ofTry ok, q⟩
    | cont =>
      obtain ⟨σ2, H2, J2, q⟩ := hsp
      exact ⟨σ2, H2, J2.ofTry ok, q⟩
    | ret u =>
      obtain ⟨v, σ2, H2, J2, r, q⟩ := hsp
      exact ⟨v, σ2, H2, J2.ofTry ok, r, q⟩
  case caught =>
    obtain ⟨a, B, sI, pins2, σ2, H2, cls, d, rfl, J2, nb, up, sky, na, os, ag, b, hb1, hyes, hno⟩ := xx
    have J : Inv X pins σ2 H2 sI := J2.ofTry ok
    have sky2 : Sky B (X.env :: X.outer) a (Zc cls d) X.env.locals s'.heap := by rw [← hs]; exact sky
    show wpAny (model X.prog X.w) X.A (noteFrame (.ref a) X.env) _ _ _
    refine Sky.land Zc.steady hfr hf sky2 fun h3 fl3 up3 => ?_
    have J3 : Inv X pins σ2 H2 { s' with heap := h3 } := J.landed nb fl3.1 (up.trans up3) os ag
    obtain ⟨oe3, vs3, he3, hz3, hd3⟩ := fl3.there
    have nfr : a ∉ frs (X.env :: X.outer) := fun hm => by
      obtain ⟨_, o2, e2, hnf⟩ := fl3.2.2.1.mem hm
      rw [he3] at e2
      cases e2
      exact hnf _ hd3
    have nL : a ≠ X.env.locals := fun z => nfr (List.mem_filterMap.mpr ⟨X.env, List.mem_cons_self, by rw [hf, z]⟩)
    have nF : a ∉ X.fs := fun hm => by
      obtain ⟨e, he, q⟩ := List.mem_filterMap.mp hm
      exact nfr (List.mem_filterMap.mpr ⟨e, List.mem_cons_of_mem _ he, q⟩)
    have gone : ∀ {b : Addr} {o : Obj}, sI.heap.get? b = some o → b ∉ frs X.stack → b ≠ a := fun {b o} e hm z => by
      have q := nb b o e hm
      rw [z, fl3.2.1] at q
      cases q
    have nst : a ∉ frs X.stack := by rw [hs]; exact nfr
    have n0 : X.s_0.heap.get? a = none := by
      cases e : X.s_0.heap.get? a with
      | none => rfl
      | some o =>
        obtain ⟨o2, e2⟩ := J.base.there a o e (by rw [hex]; exact fun z => nomatch z)
        exact absurd rfl (gone e2 nst)
    have np2 : ∀ p ∈ X.pn ++ pins, p.1 ≠ a := fun p hp => by
      obtain ⟨e, _, ne, nf, _⟩ := J.pin p hp
      exact gone e fun hm => (List.mem_cons.mp (J.stkSub _ hm)).elim ne nf
    have S3 := J3.suite he3 hd3 na nL nF
    refine wpAny_handleBy_cons (codeAny_handlers_test ?_) (by intro q; cases q)
    have LT : PySem.W.Looks (model X.prog X.w) h3 (typeOf (.ref a)) cls := fun A Q E s k q => wpAny_typeOf_ref (k _ _ he3) (by rw [hz3.1]; exact q)
    have LM := PySem.W.exm_one (M := model X.prog X.w) J3.kIn LT hb1
    have asked : ∀ {Q : Value → Shared → Prop} {E : Value → Shared → Prop}, Q c { s' with heap := h3 } → wpAny (model X.prog X.w) (X.A.mark (some (.ref a))) (eval (.Name x np) X.env) Q E { s' with heap := h3 } := fun {Q E} q => by
      obtain ⟨hg, hdbg, hm | ⟨hm, hv, hnn⟩⟩ := hc
      · exact ld_glob (X := X.suite a ((a, oe3) :: (X.pn ++ pins))) S3 hg hm q hdbg
      · exact ld_blt (X := X.suite a ((a, oe3) :: (X.pn ++ pins))) S3 hg hm hv q hnn hdbg
    refine asked (LM.here ?_)
    cases b with
    | false =>
      show wpAny _ X.A (handleBy (.ref a) X.env []) _ _ _
      refine wpAny_handleBy_nil ?_
      obtain ⟨_, _, _, oe, vs, T, oT, ts2, he, hz, hd, h1, hr⟩ := id fl3
      unfold PySem.passOn
      refine wpAny_bind (wpAny_field he hd h1 ?_)
      rw [if_neg (show ¬ ((Value.ref T == Value.none) = true) from by simp)]
      have on : wpAny (model X.prog X.w) X.A (setFlight (.ref a) X.env.frame) (fun _ s4 => wpAny (model X.prog X.w) X.A (throw (.ref a) : Sem Flow) (SP X pins D) X.xe s4) X.xe { s' with heap := h3 } := by
        rw [hf]
        refine HandSPX.setFlight_upZ fl3 fun h4 hh4 up4 => wpAny_throw (tk _ _ ?_)
        exact ⟨a, B, sI, pins, σ2, H2, cls, d, rfl, J, nb, (up.trans up3).trans up4, .inr (.inr (by rw [hs]; exact hh4)), na, os, ag, hno rfl⟩
      first
        | exact wpAny_bind (wpAny_pure (wpAny_bind on))
        | exact wpAny_bind on
    | true =>
      refine codeAny_handlers_suite_as ?_
      refine HandSPX.lands_againZ fl3 fun h4 fl4 up4 => ?_
      have J4 : Inv X pins σ2 H2 { s' with heap := h4 } := J.landed nb fl4.1 ((up.trans up3).trans up4) os ag
      obtain ⟨oe4, vs4, he4, hz4, hd4⟩ := fl4.there
      have S4 := J4.suite he4 hd4 na nL nF
      refine store_ok (X := X.suite a ((a, oe4) :: (X.pn ++ pins))) (v := .ref a) S4 hN hi (.inl hln) rfl (fun s5 S5 => ?_) (.inr hln)
      refine wpAny_mono ((hsu a oe4 cls d (X.pn ++ pins) hz4 ⟨_, hd4⟩).run [] s5 _ H2 _ S5 (hyes rfl a na)) (fun f s6 hsp => ?_) (fun _ _ z => False.elim z)
      cases f with
      | next =>
        obtain ⟨σ6, H6, S6, q6⟩ := hsp
        refine gone_ok (X := X.suite a ((a, oe4) :: (X.pn ++ pins))) S6 hN hi hln fun s7 S7 => ?_
        obtain ⟨e7, n7, _⟩ := S7.pin (a, oe4) (List.mem_append_left _ List.mem_cons_self)
        exact ⟨_, _, (S7.unsuite ok).held e7 hz4 hd4 n7 nL n0 np2, q6 n7⟩
      | brk =>
        obtain ⟨_, _, _, q6⟩ := hsp
        exact q6.elim
      | cont =>
        obtain ⟨_, _, _, q6⟩ := hsp
        exact q6.elim
      | ret u =>
        obtain ⟨_, _, _, _, _, q6⟩ := hsp
        exact q6.elim
end
end L2
namespace L2
open PySem PySem.Spec PyProof.Rows
/-- the object of a held error, with its dict -/
theorem er_at {X : Cx} {pins : List (Addr × Obj)} {σ : St} {H : Hp} {s : Shared} {a C dd : Addr} {fs : List (Str × V)} (I : Inv X pins σ H s) (ha : H a = some (Er (.ref C) (some dd) a)) (hd : H dd = some (.xd fs)) :
    ∃ oe od, PySem.W.InstAt s.heap a oe C (some od) ∧ ∀ f, RelO (fs.lookup f) ((fun f => (PySem.W.lookIn f od).getD none) f) ∧ ∃ r, PySem.W.lookIn f od = some r := by
  have x : ObjOk X.prog X.w H s.heap a (.ext fun h => ∃ (oe : Obj) (vs : Array Value), h.get? a = some oe ∧ Zc (.ref C) (some dd) oe ∧ oe.data = .fields vs) := I.hok a _ ha
  obtain ⟨⟨oe, vs, e, z, f⟩, _⟩ := x
  have y : ObjOk X.prog X.w H s.heap dd (.xd fs) := I.hok dd _ hd
  obtain ⟨mA, hns, hr⟩ := y
  obtain ⟨od, ho, hl⟩ := lookIn_ns hns
  refine ⟨oe, od, ⟨e, z.1, by unfold PySem.W.notCls; rw [f] <;> rfl, by rw [z.2]; exact ho⟩, fun g => ⟨?_, _, hl g⟩⟩
  dsimp only
  rw [hl g]
  exact hr g
/-- what a class of errors must say so that isinstance and fields of held ones are read -/
structure ErC (K : PySem.W.Frag) (C : Addr) : Prop where
  hdC : PySem.W.hasDictIn K C = true
  ga : PySem.W.findIn K (.ref C) "__getattribute__" = some (some (.builtin "BaseException.__getattribute__"))
  gg : PySem.W.findIn K (.ref C) "__getattr__" = some none
  exC : PySem.W.subIn K (.ref C) (.type "BaseException") = some true
  ca : PySem.W.findIn K (.ref C) "__class__" = some (some (.builtin "object.__class__"))
  cn : PySem.W.specialIn K (.builtin "object.__class__") "__get__" = some (some (.builtin "getset_descriptor.__get__"))
  ct : PySem.W.takesIn K (.builtin "object.__class__") = some true
  cm : PySem.W.mroIn K C (.type "object") = some true
def rIsH (K : PySem.W.Frag) : List V → Hp → VK → Prop := fun xs H Q => ∃ (a C dd : Addr) (fs : List (Str × V)) (c : V) (u : Value) (b : Bool), xs = [.ref a, c] ∧ ClsV c u ∧ H a = some (Er (.ref C) (some dd) a) ∧ H dd = some (.xd fs) ∧ ErC K C ∧
  PySem.W.kitOne K (.ref C) u = some b ∧ Q (.bl b) H
theorem call_isH {X : Cx} : CallR X (.builtin "isinstance") (rIsH X.K) := by
  intro pins s σ H xs us Q I r h
  obtain ⟨a, C, dd, fs, c, u, b, rfl, k, ha, hd, T, e, q⟩ := h
  obtain ⟨u1, u2, rfl, r1, r2⟩ := vals2 r
  have e2 := k.eq r2
  subst e2
  cases (show u1 = Value.ref a from r1)
  obtain ⟨oe, od, J, _⟩ := er_at I ha hd
  have hcl : (PySem.W.clsIn X.K C).isSome = true := by
    obtain ⟨cd, hc, _⟩ := PySem.W.any_some T.hdC
    rw [hc]
    rfl
  exact PySem.W.kia_one (PySem.W.kitx_exc hcl T.ga T.gg T.exC T.ca T.cn T.ct T.cm) I.kIn J e (fun z => nomatch z) fun tk => ⟨.bl b, H, I.tok tk, rfl, q⟩
/-- e.f, e a held error -/
def tXh (K : PySem.W.Frag) (f : Str) (te : TE) : TE := fun σ H Q => te σ H fun x H1 => ∃ (a C dd : Addr) (fs : List (Str × V)) (v : V), x = .ref a ∧ H1 a = some (Er (.ref C) (some dd) a) ∧ H1 dd = some (.xd fs) ∧ ErC K C ∧ PySem.W.findIn K (.ref C) f = some none ∧ fs.lookup f = some v ∧ Q v H1
theorem pe_xh {X : Cx} {e : Expr} {te : TE} {pos : Pos} {n : Str} (he : PE X e te) (hb : attributeBase e n X.env (eval e X.env) = eval e X.env := by rfl) : PE X (.Attribute e n pos) (tXh X.K n te) := by
  refine ⟨fun pins s σ H Q I h => ?_⟩
  refine attr_of hb (thn (he.run pins s σ H _ I h) fun u s1 hh => ?_)
  obtain ⟨x, H1, I1, rx, a, C, dd, fs, v, rfl, ha, hd, T, hno, hl, q⟩ := hh
  obtain rfl : u = Value.ref a := rx
  obtain ⟨oe, od, J, hr⟩ := er_at I1 ha hd
  obtain ⟨h1, r, h2⟩ := hr n
  simp only [h2, Option.getD_some] at h1
  rw [hl] at h1
  cases r with
  | none => exact h1.elim
  | some w => exact HandSPX.exc_get I1.kIn J T.ga T.gg T.exC (PySem.W.findObj_own T.hdC hno rfl h2) (handed_of h1) ⟨v, H1, I1.tok _, h1, q⟩
end L2
set_option maxHeartbeats 4000000
/-! A lambda without parameters that is called somewhere below its maker: from any context over the same text. -/
namespace LamG
open PySem PySem.Spec PyProof.Rows L2 LamX
section
variable {X : Cx} {pins : List (Addr × Obj)} {σ : L2.St} {H HZ : Hp} {s s1 : Shared} {fs : List Addr}
/-- the lambda's body is entered at s1, its maker stood at s -/
theorem begun {A : Around} {outer : List Env} {E : XK} {scope : Scope} {f c' : Addr} {h₁ : Heap} {tk : Nat} (I : Inv X pins σ H s) (L : LamS X.env.scope scope) (e0 : Env0 X.prog X.w X.K X.mg X.base A outer s1 HZ) (hd : A.handled = none)
    (un : Un fs [] H HZ s.heap s1.heap) (hns : h₁.Ns s1.heap.objs.size fun y => ([] : List (Str × Value)).reverse.lookup y) (kp : ∀ b o, s1.heap.get? b = some o → h₁.get? b = some o) :
    Inv (lamCx X A outer s1 HZ E scope f c') [] σ HZ { s1 with heap := h₁, toks := tk } := by
  have hfree := L.has I.ok
  have back : ∀ {y c}, (cloFrom X.env.cells scope.names []).lookup y = some c → X.env.cells.lookup y = some c := fun {y c} e => by
    rcases cloFrom_mem (PySem.mem_of_lookup e) with hm | ⟨h1, h2⟩
    · cases hm
    · obtain ⟨c1, hc⟩ := hfree _ h1 rfl
      have hc : X.env.cells.lookup y = some c1 := hc
      rw [h2, hc]
      rfl
  have look : ∀ {y}, scope.names.lookup y = some .free → ∃ c, (cloFrom X.env.cells scope.names []).lookup y = some c := fun {y} hl =>
    mem_lookup (cloFrom_has (cells := X.env.cells) (acc := []) (PySem.mem_of_lookup hl))
  have cellK : ∀ {c : Addr} {v : Option Value}, H c = none → s.heap.IsCell c v → h₁.IsCell c v := fun {c v} n ⟨o, ho, hd⟩ => by
    obtain ⟨sl, q⟩ := un.any ho n (by simp)
    exact ⟨_, kp _ _ q, hd⟩
  have noA : ∀ b : Addr, b ∉ (lamCx X A outer s1 HZ E scope f c').ex := fun b z => absurd (show b ∈ ([] : List Addr) from z) (by simp)
  have okL : (lamCx X A outer s1 HZ E scope f c').Ok := by
    refine ⟨e0.mod, L.kind, rfl, rfl, Nat.le_refl _, fun y z c e1 e2 => I.ok.inj y z c (back e1) (back e2), fun y hy => ?_, fun y c z _ => ?_, fun _ => hd, Around.frames_deeper e0.frames, .inr ⟨rfl, rfl⟩, fun b z => absurd z (noA b), e0.bs, e0.bsz, fun b _ _ => noA b,
      fun b z => absurd z (noA b), e0.funs, e0.frf⟩
    · have hy : scope.names.lookup y = some .cell ∨ scope.names.lookup y = some .free := hy
      rcases hy with hy | hy
      · exact absurd rfl (L.own _ (PySem.mem_of_lookup hy)).2
      · exact look hy
    · have z : false = true := z
      cases z
  refine ⟨okL, rfl, e0.bare, Un.kept kp, ⟨_, hns, fun i y v e1 e2 e3 => ?_⟩, fun y c e => ?_, e0.hok.fresh (Nat.le_refl _), fun y c e => ?_, fun q hq => absurd (show q ∈ ([] : List (Addr × Obj)) ++ [] from hq) (by simp), e0.hok.kept kp, I.len⟩
  · have e3 : Vis scope y := e3
    rcases e3 with k | k | k
    · exact absurd rfl (L.own _ (PySem.mem_of_lookup k)).1
    · exact absurd rfl (L.own _ (PySem.mem_of_lookup k)).2
    · obtain ⟨m, hn, hl⟩ := I.loc
      have hvis : Vis X.env.scope y := (L.free _ (PySem.mem_of_lookup k) rfl).elim (fun k => .inr (.inl k)) (fun k => .inr (.inr k))
      obtain ⟨u, r, q⟩ := hl i y v e1 e2 hvis
      obtain ⟨c2, h2⟩ := look k
      refine ⟨u, r, .inr ⟨.inr k, c2, h2, ?_⟩⟩
      have c1 := back h2
      rcases q with ⟨k2, _⟩ | ⟨_, c3, e4, z⟩
      · have k2 : X.env.scope.names.lookup y = some .local := k2
        rcases L.free _ (PySem.mem_of_lookup k) rfl with k3 | k3 <;> rw [show X.env.scope.names.lookup y = _ from k3] at k2 <;> cases k2
      · rw [c1] at e4
        cases e4
        exact cellK (I.freeC y _ c1) z
  · obtain ⟨u, z⟩ := I.cell y c (back e)
    exact ⟨u, cellK (I.freeC y c (back e)) z⟩
  · obtain ⟨v, o, ho, _⟩ := I.cell y c (back e)
    exact un.free c o ho (I.freeC y c (back e)) (by simp)
/-- the lambda is called at s1 -/
theorem acted {A : Around} {outer : List Env} {E : XK} {f c' : Addr} {pm ctv : Value} {params : Arguments} {body : Expr} {scope : Scope} {k : Nat} {tb : TE} {Q : VK}
    (I : Inv X pins σ H s) (L : LamS X.env.scope scope) (of1 : s1.heap.get? f = some (PySem.W.kla_obj "<lambda>" (X.env.qual ++ "<lambda>") params body scope (cloFrom X.env.cells scope.names []) pm c' ctv))
    (hbind : bindArgs (PySem.W.kla_fn "<lambda>" (X.env.qual ++ "<lambda>") params body scope (cloFrom X.env.cells scope.names []) pm (.ref c') ctv) ⟨[], []⟩ = pure [])
    (e0 : Env0 X.prog X.w X.K X.mg X.base A outer s1 HZ) (un : Un fs [] H HZ s.heap s1.heap) (hc : HZ c' = some (CodeO c' (X.env.qual ++ "<lambda>"))) (hr : Room (k + 1) A)
    (hbody : Room k (A.deeper (lamEnv X scope s1.heap.objs.size f c')) → PE (lamCx X A outer s1 HZ E scope f c') body tb) (ht : tb σ HZ Q) :
    codeAny (model X.prog X.w) A (.call (.ref f) ⟨[], []⟩) (CR (L2.CX X.prog X.w) outer X.prog X.w HZ s1 Q E) s1 := by
  obtain ⟨⟨oc, vs, t, hoc, hdc, hvc⟩, _, _⟩ := e0.hok c' _ hc
  refine PySem.W.kla_callFunE hr.depth of1 rfl L.co L.gen rfl ⟨c', oc, vs, t, rfl, hoc, hdc, hvc⟩ ?_
  rw [hbind]
  have lim : s1.heap.NoLimit := e0.mod.nolimit.keeps fun b o e => (e0.bs b o e).1
  refine wpAny_pure (wpAny_newFunctionEnv (fun y hy => (L.own y hy).2) (fun y hy => absurd hy (by simp)) (fun h₁ hns hsb => ⟨lim.fresh _ hsb, ?_⟩) L.kind)
  show codeAny _ _ (.expr body (lamEnv X scope s1.heap.objs.size f c')) _ _
  have kp : ∀ b o, s1.heap.get? b = some o → h₁.get? b = some o := fun b o e => hsb.extBut b o (Nat.ne_of_lt (Heap.lt_size e)) (Heap.get?_push_of_some _ e)
  have J : Inv (lamCx X A outer s1 HZ E scope f c') [] σ HZ { s1 with heap := h₁, toks := s1.toks + ([] : List (Str × Value)).length } := begun I L e0 hr.hd un hns kp
  refine PySem.W.kla_codeExpr (wpAny_mono ((hbody (hr.deeper _)).run [] _ _ HZ Q J ht) (fun v s' hq => ?_) fun e s' hq => hq)
  obtain ⟨u, H', J', rv, q⟩ := hq
  exact ⟨u, H', J'.os, J'.bare, J'.base, J'.hok, rv, q⟩
/-- x() in any context Z over the same text -/
theorem pe_acted {A : Around} {N : List Str} {s0 : Shared} {H0 : Hp} {env : Env} {outer stack : List Env} {ex : List Addr} {fn : Str → Bool} {calm : Bool} {pn : List (Addr × Obj)} {xe : Value → Shared → Prop}
    {f c' : Addr} {pm ctv : Value} {params : Arguments} {body : Expr} {scope : Scope} {k i : Nat} {a : Str} {W : WX} {tb : XK → TE} {p1 p2 : Pos}
    (I : Inv X pins σ H s) (L : LamS X.env.scope scope) (hf : s.heap.get? f = some (PySem.W.kla_obj "<lambda>" (X.env.qual ++ "<lambda>") params body scope (cloFrom X.env.cells scope.names []) pm c' ctv)) (hfn : H f = none)
    (hbind : bindArgs (PySem.W.kla_fn "<lambda>" (X.env.qual ++ "<lambda>") params body scope (cloFrom X.env.cells scope.names []) pm (.ref c') ctv) ⟨[], []⟩ = pure [])
    (chain : ∀ pinsZ sZ σZ HZ, Inv ⟨X.prog, X.w, X.K, X.mg, X.base, A, N, s0, H0, env, outer, stack, ex, fn, calm, pn, xe⟩ pinsZ σZ HZ sZ → Un fs [] H HZ s.heap sZ.heap) (nf : f ∉ fs)
    (tk : Takes ⟨X.prog, X.w, X.K, X.mg, X.base, A, N, s0, H0, env, outer, stack, ex, fn, calm, pn, xe⟩ W) (hr : Room (k + 1) A)
    (hbody : ∀ (E : XK) (s : Shared) (HZ : Hp), Env0 X.prog X.w X.K X.mg X.base A stack s HZ → (∃ pinsZ σZ, Inv ⟨X.prog, X.w, X.K, X.mg, X.base, A, N, s0, H0, env, outer, stack, ex, fn, calm, pn, xe⟩ pinsZ σZ HZ s) →
      Room k (A.deeper (lamEnv X scope s.heap.objs.size f c')) → PE (lamCx X A stack s HZ E scope f c') body (tb E))
    (hN : N[i]? = some a) (hv : Vis env.scope a) (hd : (a == ("__debug__" : Str)) = false := by decide) (hcd : (a == ("__classdict__" : Str)) = false := by decide) :
    PE ⟨X.prog, X.w, X.K, X.mg, X.base, A, N, s0, H0, env, outer, stack, ex, fn, calm, pn, xe⟩ (.Call (.Name a p1) [] [] p2)
      (fun σZ HZ Q => σZ[i]? = some (some (.ref f)) ∧ HZ c' = some (CodeO c' (X.env.qual ++ "<lambda>")) ∧ tb (WE W σZ) σ HZ Q) := by
  refine ⟨fun pinsZ sZ σZ HZ Q IZ h => ?_⟩
  obtain ⟨hs, hc, ht⟩ := h
  refine wpAny_Call_Name_kw (thn ((pe_var (pos := p1) (i := i) hN hv hd hcd).run pinsZ sZ σZ HZ (fun v H1 => v = .ref f ∧ H1 = HZ) IZ ⟨.ref f, hs, rfl, rfl⟩) fun u s1 ⟨v, H1, I1, r1, q1⟩ => ?_)
  obtain ⟨ev, eH⟩ := q1
  subst ev
  rw [eH] at I1
  obtain rfl : u = Value.ref f := r1
  have un := chain _ _ _ _ I1
  have of1 := un.keep f _ hf hfn nf (fun z => nomatch z)
  refine PySem.W.callWith_F0 ⟨_, _, _, _, of1⟩ ?_
  have e0 : Env0 X.prog X.w X.K X.mg X.base A stack s1 HZ := I1.env0
  have rc : codeAny (model X.prog X.w) A (.call (.ref f) ⟨[], []⟩) (CR (L2.CX X.prog X.w) stack X.prog X.w HZ s1 Q (WE W σZ)) s1 := acted (E := WE W σZ) I L of1 hbind e0 un hc hr (hbody _ s1 HZ e0 ⟨_, _, I1⟩) ht
  have hx := passAt tk σZ
  refine wpAny_call (codeAny_mono rc fun r s' hq => ?_)
  cases r with
  | error e => exact hx pinsZ HZ s1 e s' I1 hq
  | ok fl =>
    cases fl with
    | ret u => exact I1.after hq
    | next => exact False.elim hq
    | brk => exact False.elim hq
    | cont => exact False.elim hq
end
end LamG
set_option maxHeartbeats 4000000
/-! Small rules: == [], extend by a tuple, str of an int or a text, enumerate(reversed(tuple)), repr of data. -/
namespace L2
open PySem PySem.Spec PyProof.Rows
section
variable {X : Cx}
/-- xs == [], whatever the items are -/
def rEqNil (K : PySem.W.Frag) : R2 := fun x y H Q => ∃ (a b : Addr) (xs : List V), x = .ref a ∧ y = .ref b ∧ SqL K H a xs ∧ SqL K H b [] ∧ Q (.bl xs.isEmpty) H
def rNeNil (K : PySem.W.Frag) : R2 := fun x y H Q => ∃ (a b : Addr) (xs : List V), x = .ref a ∧ y = .ref b ∧ SqL K H a xs ∧ SqL K H b [] ∧ Q (.bl (!xs.isEmpty)) H
theorem vals_nil {us : List Value} (r : Vals [] us) : us = [] := by cases r; rfl
theorem op_eqNil (hu : X.A.units < cLine) : OpR X (compareOp .Eq) (rEqNil X.K) := by
  intro pins s σ H x y v u Q I rx ry h
  obtain ⟨a, b, xs, rfl, rfl, ha, hb, q⟩ := h
  obtain rfl : v = Value.ref a := rx
  obtain rfl : u = Value.ref b := ry
  obtain ⟨us, r1, p1, _⟩ := I.list ha
  obtain ⟨ws, r2, p2, _⟩ := I.list hb
  obtain rfl := vals_nil r2
  cases xs with
  | nil =>
    obtain rfl := vals_nil r1
    exact SeqAt.RcAt.lists (e := fun _ => true) p1.isList p2.isList rfl hu (fun j h1 _ => absurd h1 (by simp)) X.prog X.w _ _ ⟨.bl true, H, I, rfl, q⟩
  | cons x xs =>
    have hl := r1.length
    refine SeqAt.RcAt.lists_lengths p1.isList p2.isList ?_ hu X.prog X.w _ _ ⟨.bl false, H, I, rfl, q⟩
    simp only [List.size_toArray, ← hl, List.length_cons, List.length_nil, bne_iff_ne, ne_eq]
    omega
theorem op_neNil (hu : X.A.units < cLine) : OpR X (compareOp .NotEq) (rNeNil X.K) := by
  intro pins s σ H x y v u Q I rx ry h
  obtain ⟨a, b, xs, rfl, rfl, ha, hb, q⟩ := h
  obtain rfl : v = Value.ref a := rx
  obtain rfl : u = Value.ref b := ry
  obtain ⟨us, r1, p1, _⟩ := I.list ha
  obtain ⟨ws, r2, p2, _⟩ := I.list hb
  obtain rfl := vals_nil r2
  cases xs with
  | nil =>
    obtain rfl := vals_nil r1
    exact SeqAt.RcNeAt.lists (e := fun _ => true) p1.isList p2.isList rfl hu (fun j h1 _ => absurd h1 (by simp)) X.prog X.w _ _ ⟨.bl false, H, I, rfl, q⟩
  | cons x xs =>
    have hl := r1.length
    refine SeqAt.RcNeAt.lists_lengths p1.isList p2.isList ?_ hu X.prog X.w _ _ ⟨.bl true, H, I, rfl, q⟩
    simp only [List.size_toArray, ← hl, List.length_cons, List.length_nil, bne_iff_ne, ne_eq]
    omega
/-- xs.extend(t), t a tuple -/
def rExtendT (K : PySem.W.Frag) : V → List V → Hp → VK → Prop := fun x vs H Q => ∃ (l b : Addr) (xs zs : List V), x = .ref l ∧ vs = [.ref b] ∧ H l = some (.lst xs) ∧ SqT K H b zs ∧ xs.length + zs.length ≤ sizeLine ∧ Q .non (upd H l (.lst (xs ++ zs)))
end

theorem extend_tupG (l : Addr) (items : Array Value) (n : Nat) (b : Addr) (items2 : Array Value) (n2 : Nat) (dd2 : Option Addr) (sl2 : Array (Option Value)) (hs0 : ¬(!items.isEmpty && Builtin.List.listTooLong (items.size + items2.size)) = true) (hs1 : items.size ≤ sizeLine) (hs2 : items.size + items2.size ≤ sizeLine + 1) :
    Meets (Builtin.«list.extend» ⟨[.ref l, .ref b], []⟩) (fun _ R s => s.heap.get? l = some { cls := .type "list", dict := none, data := .seq items n, slots := #[] } ∧ s.heap.get? b = some { cls := .type "tuple", dict := dd2, data := .seq items2 n2, slots := sl2 } ∧ R (.ok (.ret Value.none)) { s with heap := s.heap.update l (Obj.mapSeq fun x => x ++ items2), toks := s.toks }) :=
  .of_wp fun prog w A R s h => by
    obtain ⟨hp, g, d, tk, os⟩ := s; obtain ⟨hl, hb, h⟩ := h; have f1 := AutoSeq1.idx_int; have f2 := AutoSeq1.sub_tuple_tuple; have f3 := AutoSeq1.sub_list_list; have f4 := AutoSeq1.sub_tuple_list; have f5 := AutoSeq1.sub_list_tuple;
    have hz' : (items ++ items2).size ≤ sizeLine + 1 := by rw [Array.size_append]; exact hs2
    wp_walk using (wpAny_updateSeq hl rfl (hz := hs1) (_hz' := hz')), AutoSeq1.wpAny_loadPart' hl, AutoSeq1.wpAny_loadPart' hb; exact ⟨_, rfl, h⟩
section
variable {X : Cx}
theorem mt_extendT : MtR X "list.extend" (rExtendT X.K) := by
  intro pins s σ H x vs v us Q I rx rv h
  obtain ⟨l, b, xs, zs, rfl, rfl, hH, hB, hz, q⟩ := h
  cases rx
  obtain ⟨u, rfl, ru⟩ := rv.one
  cases ru
  obtain ⟨z, its, n, r, hl, e⟩ := I.lstM hH
  obtain ⟨its2, r2, ⟨⟨c2, dd2, dt2, sl2⟩, e2, hc2, n2, hd2⟩, hl2⟩ := I.tuple hB
  simp only at hc2 hd2
  subst hc2 hd2
  have h1 := r2.length
  have hsz : its.toArray.size + its2.toArray.size ≤ sizeLine := by rw [List.size_toArray, List.size_toArray]; omega
  have hlong : ¬ (!its.toArray.isEmpty && Builtin.List.listTooLong (its.toArray.size + its2.toArray.size)) = true := by
    rw [notLongL hsz, Bool.and_false]
    exact Bool.false_ne_true
  refine call_meets PySem.F.slot_list_extend ⟨_, e, rfl⟩ PySem.F.entry_list_extend (PySem.F.args_list_extend_2 _ _)
    (extend_tupG l its.toArray n b its2.toArray n2 dd2 sl2 hlong (by rw [List.size_toArray]; omega) (by omega)) ⟨e, e2, ?_⟩
  refine ⟨.non, _, I.lset (its' := its ++ its2) hH e (by simp) (r.append r2) ?_, rfl, q⟩
  rw [List.length_append]
  omega
/-- str(x), x an int or a text -/
theorem call_strB : CallR X (.type "str") (fun xs H Q => (∃ i, xs = [.int i] ∧ i.natAbs.log2 < 1920 ∧ Q (.str (toString i)) H) ∨ ∃ a, xs = [.str a] ∧ Q (.str a) H) := by
  intro pins s σ H xs us Q I r h
  rcases h with h | h
  · exact call_str_int pins s σ H xs us Q I r h
  · exact SkE.call_str_str pins s σ H xs us Q I r h
/-- repr(x), x data of any depth; no repr is under way -/
theorem repr_any {h : Heap} {prog : Program} {w : World} {A : Around} {E : Value → Shared → Prop} {Q : Value → Shared → Prop} {s : Shared} {v : Value} {d : PyData} {as : List Addr} (r : Reads s.heap v d as) (hs : d.showable = true) (hsm : d.hasDict = false) (hg : A.guards = some []) (hu : A.units + (d.depth + 1) < cLine)
    (hi : ∀ i, d = .int i → i.natAbs.log2 < 1920) (hQ : ∀ h' u tk, (∀ b o, s.heap.get? b = some o → h'.get? b = some o) → Q (.str d.shown u) { s with heap := h', toks := tk }) (hsz : d.shown.length ≤ sizeLine) : wpAny (model prog w) A (call (.builtin "repr") [v]) Q E s := by
  cases hd : PyProof.Rows.isDisplay d with
  | true =>
    obtain ⟨a, rfl⟩ := PyProof.Rows.isRef_of_reads r hd
    exact repr_of_reads' r hs (PyData.noDict_hsm hsm) hg hu (fun _ _ e => e) hQ hsz
  | false =>
    cases r with
    | list _ _ _ _ => cases hd
    | tuple _ _ _ _ => cases hd
    | none => exact PySem.P.repr_of_none (hQ _ _ _ fun _ _ e => e)
    | bool b => exact PySem.P.repr_of_bool (hQ _ _ _ fun _ _ e => e)
    | int i t => exact PySem.P.repr_of_int (hi i rfl) (hQ _ _ _ fun _ _ e => e)
    | str x t => exact PySem.P.repr_of_str (hQ _ _ _ fun _ _ e => e) hsz
    | dict _ _ _ _ _ => cases hsm
theorem call_reprD (hg : X.A.guards = some []) (hu : X.A.units + 70 < cLine) : CallR X (.builtin "repr") (fun xs H Q => ∃ (x : V) (d : PyData), xs = [x] ∧ Dp X.K H x d ∧ d.showable = true ∧ d.hasDict = false ∧ d.depth ≤ 64 ∧ (∀ i, d = .int i → i.natAbs.log2 < 1920) ∧ d.shown.length ≤ sizeLine ∧ Q (.str d.shown) H) := by
  intro pins s σ H xs us Q I r h
  obtain ⟨x, d, rfl, hd, h1, h2, h3, h4, h5, q⟩ := h
  obtain ⟨u, rfl, ru⟩ := r.one
  obtain ⟨as, rd⟩ := Dp.reads I d x u hd ru
  exact repr_any (h := s.heap) rd h1 h2 hg (by omega) h4 (fun h' t tk k => ⟨.str d.shown, H, I.kept k, ⟨t, rfl⟩, q⟩) h5
end
end L2
namespace RT
open PySem PySem.Spec PyProof.Rows L2
/-! ### for i, x in enumerate(reversed(t)), t a tuple -/
section
variable {prog : Program} {w : World} {A : Around} {E : Value → Shared → Prop} {s : Shared}
theorem nextOf_rt_item {it t : Addr} {i : Nat} {items : Array Value} {x : Value} {Q : Value → Shared → Prop} (hit : IsRt s.heap it t (i : Int)) (ht : IsTup s.heap t items) (hx : items[i]? = some x) (hsz : items.size ≤ sizeLine)
    (hQ : ∀ h', IsRt h' it t ((i : Int) - 1) → Heap.SameBut it s.heap h' → Q x { s with heap := h', toks := s.toks + 1 }) : wpAny (model prog w) A (Builtin.SmallTypes.nextOf (.ref it)) Q E s := by
  obtain ⟨o, ho, hc, hd⟩ := id hit
  have hi : i < items.size := (Array.getElem?_eq_some_iff.mp hx).1
  have hT : s.TypeIs (.ref t) "tuple" := IsTup.typeOf' ht
  rw [sizeLine_eq] at hsz
  unfold Builtin.SmallTypes.nextOf
  refine wpAny_bind (wpAny_callSpecial?_slot (name := Str.ofString "__next__") hit.typeIs slot_rt_next
    (wpAny_call_entry slot_rt_next hit.typeIs entry_rt_next ?_ (args_rt_next _)))
  unfold Builtin.«reversed.__next__»
  refine wpAny_bind (wpAny_of_eq (a := (Value.ref it, [])) rfl ?_)
  try dsimp only
  refine wpAny_bind (wpAny_field ho hd (x := .ref t) rfl ?_)
  try dsimp only
  refine wpAny_bind (wpAny_field ho hd (x := rawInt (i : Int)) rfl ?_)
  show wpAny _ _ (if (i : Int) < 0 then _ else _) _ _ s
  rw [if_neg (by omega)]
  try dsimp only
  refine wpAny_bind (wpAny_specialOf hT get_tuple ?_)
  try dsimp only
  try rw [if_neg (by decide)]
  try dsimp only
  refine wpAny_bind (wpAny_mkInt ?_)
  refine wpAny_bind (wpAny_attempt ?_)
  have fin : seqIndex? (i : Int) items.size = some i := seqIndex_of (by omega) (by omega)
  refine PyProof.Rows.getItem_tuple (s := { s with toks := s.toks + 1 }) ht (by omega) (by omega) fin hx ?_
  try dsimp only
  refine wpAny_bind (wpAny_field (s := { s with toks := s.toks + 1 }) ho hd (x := rawInt (i : Int)) rfl ?_)
  try dsimp only
  refine wpAny_bind (wpAny_setField (s := { s with toks := s.toks + 1 }) ho hd (by simp) ?_)
  have fin2 : IsRt (s.heap.update it (Obj.mapFields (·.setIfInBounds 1 (rawInt ((i : Int) - 1))))) it t ((i : Int) - 1) :=
    ⟨_, Heap.get?_update_self _ ho (Obj.isFreed_of_fields (Obj.data_mapFields hd _)), (Obj.cls_mapFields ..).trans hc, by rw [Obj.data_mapFields hd]; simp⟩
  first
  | exact wpAny_pure ⟨x, rfl, wpAny_pure (hQ _ fin2 (Heap.SameBut.update ..))⟩
  | exact wpAny_bind (wpAny_pure (wpAny_pure ⟨x, rfl, wpAny_pure (hQ _ fin2 (Heap.SameBut.update ..))⟩))
theorem nextOf_rt_end {it t : Addr} {Q : Value → Shared → Prop} (hh : A.handled = none) (hit : IsRt s.heap it t (-1))
    (hE : ∀ h' e, Heap.ExtBut it s.heap h' → (∃ o, h'.get? e = some o ∧ o.cls = .type "StopIteration") → E (.ref e) { s with heap := h' }) : wpAny (model prog w) A (Builtin.SmallTypes.nextOf (.ref it)) Q E s := by
  obtain ⟨o, ho, hc, hd⟩ := id hit
  unfold Builtin.SmallTypes.nextOf
  refine wpAny_bind (wpAny_callSpecial?_slot (name := Str.ofString "__next__") hit.typeIs slot_rt_next
    (wpAny_call_entry slot_rt_next hit.typeIs entry_rt_next ?_ (args_rt_next _)))
  unfold Builtin.«reversed.__next__»
  refine wpAny_bind (wpAny_of_eq (a := (Value.ref it, [])) rfl ?_)
  try dsimp only
  refine wpAny_bind (wpAny_field ho hd (x := .ref t) rfl ?_)
  try dsimp only
  refine wpAny_bind (wpAny_field ho hd (x := rawInt (-1)) rfl ?_)
  show wpAny _ _ (if (-1 : Int) < 0 then _ else _) _ _ s
  rw [if_pos (by decide)]
  try dsimp only
  refine wpAny_bind (wpAny_rule ?_)
  refine wpAny_bind ?_
  wp_delta
  refine wpAny_bind (wpAny_setField ho hd (by simp) ?_)
  have ho2 := Heap.get?_update_self (Obj.mapFields (·.setIfInBounds 1 (rawInt (-1)))) ho (Obj.isFreed_of_fields (Obj.data_mapFields hd _))
  refine wpAny_setField (s := { s with heap := s.heap.update it (Obj.mapFields (·.setIfInBounds 1 (rawInt (-1)))) }) ho2 (Obj.data_mapFields hd _) (by simp) ?_
  try dsimp only
  first
  | show wpAny _ _ (newExc (.type "StopIteration") [] >>= _) _ _ _
  | (refine wpAny_bind ?_; show wpAny _ _ (newExc (.type "StopIteration") [] >>= _) _ _ _)
  | (refine wpAny_bind ?_; wp_delta; show wpAny _ _ (newExc (.type "StopIteration") [] >>= _) _ _ _)
  refine wpAny_bind ?_
  simp only [newExc, newTuple]
  refine wpAny_bind (wpAny_newObj_type ?_ (by size_fits))
  refine wpAny_bind (m := firstArgMember _ _) (wpAny_of_eq (a := Value.none) (by first | rfl | (simp only [firstArgMember]; rfl)) ?_)
  refine wpAny_newObj_type ?_ (by size_fits)
  simp only [raiseNew]
  refine wpAny_bind (wpAny_handled ?_)
  first | rw [show A.in1.handled = none from hh] | rw [hh]
  refine wpAny_bind (wpAny_pure (wpAny_throw ?_))
  refine hE _ _ ?_ ⟨_, Heap.get?_push_size _ rfl, rfl⟩
  refine ((?_ : Heap.ExtBut it s.heap _).push _).push _
  exact fun b ob hb e => (Heap.get?_update_other _ _ (Ne.symm hb)).trans ((Heap.get?_update_other _ _ (Ne.symm hb)).trans e)
theorem IsTup.at' {h h' : Heap} {a : Addr} {items : Array Value} (x : IsTup h a items) (k : ∀ o, h.get? a = some o → h'.get? a = some o) : IsTup h' a items := let ⟨o, ho, r⟩ := x; ⟨o, k _ ho, r⟩
theorem draws_rt (hh : A.handled = none) (it t : Addr) (hne : t ≠ it) (items : Array Value) (hsz : items.size ≤ sizeLine) :
    Draws prog w A it [it, t] items.size (fun i v => items[items.size - 1 - i]? = some v) (fun i h => i ≤ items.size ∧ IsRt h it t ((items.size : Int) - 1 - (i : Nat)) ∧ IsTup h t items) where
  live := fun _ _ st => let ⟨_, ⟨o, ho, _⟩, _⟩ := st; ⟨o, ho⟩
  frame := fun _ _ _ st hk => ⟨st.1, st.2.1.at fun o e => hk it (by simp) o e, IsTup.at' st.2.2 fun o e => hk t (by simp) o e⟩
  item := fun i s Q E hi st hQ => by
    obtain ⟨h1, h2, h3⟩ := st
    have e1 : (items.size : Int) - 1 - ((i : Nat) : Int) = ((items.size - 1 - i : Nat) : Int) := by omega
    rw [e1] at h2
    have hlt : items.size - 1 - i < items.size := by omega
    refine nextOf_rt_item h2 h3 (x := items[items.size - 1 - i]) (by simp [hlt]) hsz fun h' hit' hs' => ?_
    have e2 : ((items.size - 1 - i : Nat) : Int) - 1 = (items.size : Int) - 1 - ((i + 1 : Nat) : Int) := by omega
    rw [e2] at hit'
    exact hQ _ h' (s.toks + 1) (by simp [hlt]) ⟨hi, hit', IsTup.at' h3 fun o e => (hs'.2 t hne).trans e⟩ hs'
  done := fun s Q E st hE => by
    obtain ⟨h1, h2, h3⟩ := st
    have e1 : (items.size : Int) - 1 - ((items.size : Nat) : Int) = -1 := by omega
    rw [e1] at h2
    exact nextOf_rt_end hh h2 hE
theorem enumerate_newR (r t : Addr) (i : Int) :
    Meets (Builtin.«enumerate.__new__» ⟨[.type "enumerate", .ref r], []⟩) (fun _ R s => IsRt s.heap r t i ∧
      R (.ok (.ret (.ref s.heap.objs.size))) { s with heap := s.heap.push { cls := .type "enumerate", data := .fields #[.none, .bool false, .ref r, rawInt 0, .none, .none] } }) :=
  .of_wp fun prog w A R s h => by
    obtain ⟨hp, g, d, tk, os⟩ := s; obtain ⟨hl, h⟩ := h
    have hsub := sub_enumerate
    have hI : ∀ {A : Around} {E : Value → Shared → Prop} {Q : Value → Shared → Prop}, Q (.ref r) ⟨hp, g, d, tk, os⟩ → wpAny (model prog w) A (pyIter (.ref r)) Q E ⟨hp, g, d, tk, os⟩ := fun q => iter_rt (s := ⟨hp, g, d, tk, os⟩) hl q
    wp_walk
    refine wpAny_stack_any fun st => wpAny_pure ?_
    split
    · rename_i c _ _ _ _ _
      cases (c == Value.type "enumerate")
      · wp_walk using hI
        exact ⟨_, rfl, h⟩
      · wp_walk using hI
        exact ⟨_, rfl, h⟩
    · wp_walk using hI
      exact ⟨_, rfl, h⟩
theorem call_enumerate_rt {r t : Addr} {i : Int} {Q : Value → Shared → Prop} (hr : IsRt s.heap r t i)
    (h : Q (.ref s.heap.objs.size) { s with heap := s.heap.push { cls := .type "enumerate", data := .fields #[.none, .bool false, .ref r, rawInt 0, .none, .none] } }) :
    wpAny (model prog w) A (call (.type "enumerate") [.ref r]) Q E s := by
  refine callType_new F.called_enumerate (by decide) (F.typeCall_enumerate_1 _) (F.newCall_enumerate_1 _) (fun obj => F.args_object_init_2 obj _) F.entry_enumerate_new
    (enumerate_newR r t i) ⟨hr, ?_⟩
  exact ⟨⟨_, Heap.get?_push_size _ rfl, rfl⟩, h⟩
end
/-- the pairs (i, t[n - 1 - i]), each a new one -/
def IteR (K : PySem.W.Frag) (a : Addr) (n : Nat) : It :=
  ⟨fun i H => i < n ∧ ∃ (xs : List V) (x : V), SqT K H a xs ∧ xs.length = n ∧ xs[n - 1 - i]? = some x, fun i H v H' => ∃ T x, v = .ref T ∧ H T = none ∧ H' = upd H T (.tup [.int (i : Nat), x]) ∧ ∀ xs, SqT K H a xs → xs[n - 1 - i]? = some x,
    fun i H => n ≤ i ∧ ∃ (xs : List V), SqT K H a xs ∧ xs.length = n⟩
theorem turn_enumR {P : Program} {w : World} {K : PySem.W.Frag} {elts : List Expr} {kk : Nat} {tpos : Pos} (a e it : Addr) (n : Nat) :
    Turn P w K (.Tuple elts kk tpos) (IteR K a n) [e, it] e (fun i h => (∃ old, IsEnum h e it ((i : Nat) : Int) old) ∧ i ≤ n ∧ IsRt h it a ((n : Int) - 1 - (i : Nat)) ∧ e ≠ it ∧ a ≠ it ∧ e ≠ a) where
  mem := by simp
  obj := fun i h st b hb => by
    obtain ⟨⟨old, he⟩, _, ⟨o, ho, hc, hd⟩, _⟩ := st
    have e' : b = e ∨ b = it := by simpa using hb
    rcases e' with z | z
    · rw [z]; exact ⟨_, he, fun v q => nomatch q⟩
    · rw [z]; exact ⟨o, ho, fun v q => by rw [hd] at q; cases q⟩
  keep := fun i h h' st k => let ⟨⟨old, he⟩, hl, hi, hne⟩ := st; ⟨⟨old, k e (by simp) _ he⟩, hl, hi.at fun o q => k it (by simp) o q, hne⟩
  item := by
    intro X hP hw hK hc i pins s σ H E I hf st hg
    subst hP hw hK
    obtain ⟨⟨old, he⟩, hle, hit, hne, hai, hea⟩ := st
    obtain ⟨hin, xs, x, hq, hn, hx⟩ := hg
    obtain ⟨its, rv, p, hz⟩ := I.tuple hq
    obtain ⟨u, hu, ru⟩ := rv.get hx
    have hlen := rv.length
    have hsn : its.toArray.size = n := by rw [List.size_toArray, ← hlen, hn]
    have hel : e < s.heap.objs.size := Heap.lt_size he
    have hil : it < s.heap.objs.size := by obtain ⟨_, q, _⟩ := hit; exact Heap.lt_size q
    have D := draws_rt (prog := X.prog) (w := X.w) (A := X.A.in1) (I.ok.hd hc) it a hai its.toArray (by rw [hsn, ← hn]; exact hz)
    have st0 : i ≤ its.toArray.size ∧ IsRt s.heap it a ((its.toArray.size : Int) - 1 - (i : Nat)) ∧ IsTup s.heap a its.toArray := ⟨by omega, by rw [hsn]; exact hit, p⟩
    refine wpAny_pyNext_enum_itemD D he st0 (by omega) hne (by simp [hne, hea]) fun y h' tk hy ho hst' hT hsz hk => ?_
    obtain ⟨_, hit', _⟩ := hst'
    rw [hsn] at hit' hy
    have hyu : y = u := by
      have e1 : its.toArray[n - 1 - i]? = some u := by simpa using hu
      rw [e1] at hy
      exact (Option.some.inj hy).symm
    subst hyu
    refine ⟨_, rfl, wpAny_letOwnedTupleGo_enum (s := { s with heap := h', toks := tk + 1 }) ho fun h'' he' sb => ?_⟩
    have hT2 : h''.get? s.heap.objs.size = some { cls := .type "tuple", data := .seq #[.int i tk, y] } := (sb.2 _ (Nat.ne_of_gt hel)).trans hT
    have new : ObjOk X.prog X.w (upd H s.heap.objs.size (.tup [.int (i : Nat), x])) h'' s.heap.objs.size (.tup [.int (i : Nat), x]) :=
      ⟨by show 2 ≤ sizeLine; decide, [.int i tk, y], .cons ⟨_, rfl⟩ (.cons ru .nil), ⟨_, hT2, rfl, _, rfl⟩⟩
    have I1 : Inv X pins σ (upd H s.heap.objs.size (.tup [.int (i : Nat), x])) { s with heap := h'', toks := tk + 1 } :=
      I.turnedNew (ch := [e, it]) (fun b ob hb q => (sb.2 b (fun z => hb (by simp [z]))).trans (hk b ob (fun z => hb (by simp [z])) (fun z => hb (by simp [z])) q)) hf (Nat.le_refl _) new
    refine ⟨.ref s.heap.objs.size, _, I1, rfl, ⟨_, x, rfl, I.hok.fresh (Nat.le_refl _), rfl, fun ys hy => by rw [I.tuple_inj hy hq]; exact hx⟩, ⟨⟨y, ?_⟩, hin, hit'.at fun o q => (sb.2 it (Ne.symm hne)).trans q, hne, hai, hea⟩, fun b hb => ?_⟩
    · have e1 : ((i + 1 : Nat) : Int) = (i : Int) + 1 := by omega
      rw [e1]; exact he'
    · have hb' : b < s.heap.objs.size := by
        have e' : b = e ∨ b = it := by simpa using hb
        rcases e' with z | z
        · rw [z]; exact hel
        · rw [z]; exact hil
      rw [upd_ne (Nat.ne_of_lt hb')]
      exact (hf b hb).1
  done := by
    intro X hP hw hK hc i pins s σ H E I hf st hg
    subst hP hw hK
    obtain ⟨⟨old, he⟩, hle, hit, hne, hai, hea⟩ := st
    obtain ⟨hge, xs, hq, hn⟩ := hg
    obtain ⟨its, rv, p, hz⟩ := I.tuple hq
    have hlen := rv.length
    have hsn : its.toArray.size = n := by rw [List.size_toArray, ← hlen, hn]
    have hin : i = n := by omega
    subst hin
    have D := draws_rt (prog := X.prog) (w := X.w) (A := X.A.in1) (I.ok.hd hc) it a hai its.toArray (by rw [hsn, ← hn]; exact hz)
    obtain ⟨f0, f1, f2, f3, f4, f5⟩ := hf it (by simp)
    have st0 : its.toArray.size ≤ its.toArray.size ∧ IsRt s.heap it a ((its.toArray.size : Int) - 1 - (its.toArray.size : Nat)) ∧ IsTup s.heap a its.toArray := ⟨Nat.le_refl _, by rw [hsn]; exact hit, p⟩
    exact wpAny_pyNext_enum_endD D he st0 fun h' eb => ⟨rfl, I.turned (t' := s.toks) (fun b o hb q => eb b o hb q) f0 f1 f3 f4 f5⟩
  self := fun A i s Q E st h => let ⟨⟨_, he⟩, _⟩ := st; wpAny_pyIter_enum he h
def iEnumR (K : PySem.W.Frag) (te : TE) : TI := fun σ H R => te σ H fun v H1 => ∃ a xs, v = .ref a ∧ SqT K H1 a xs ∧ R (IteR K a xs.length) H1
theorem pi_enumR {X : Cx} {e : Expr} {te : TE} {p p2 pos pos2 tpos : Pos} {elts : List Expr} {kk : Nat} (hg : Gl X "enumerate") (hm : X.mg "enumerate" = none) (hg2 : Gl X "reversed") (hm2 : X.mg "reversed" = none) (he : PE X e te)
    (hs : starEach [.Call (.Name "reversed" p2) [e] [] pos2] X.env = (false, eval (.Call (.Name "reversed" p2) [e] [] pos2) X.env) :: starEach [] X.env := by rfl)
    (hs2 : starEach [e] X.env = (false, eval e X.env) :: starEach [] X.env := by rfl) :
    PI X (.Tuple elts kk tpos) (.Call (.Name "enumerate" p) [.Call (.Name "reversed" p2) [e] [] pos2] [] pos) (iEnumR X.K te) := by
  refine ⟨fun pins s σ H R I h => ?_⟩
  refine Call_ (ld_blt I hg hm boot_enumerate (PyProof.Rows.callWith_type1 (args_cons (Call_ (ld_blt I hg2 hm2 PyProof.Rows.boot_reversed (PyProof.Rows.callWith_type1 (args_cons (thn (he.run pins s σ H _ I h) fun u s1 ⟨v, H1, I1, r1, q1⟩ => args_nil ?_) hs2) hs2 rfl))) hs) hs rfl))
  obtain ⟨a, xs, ev, hq, q⟩ := q1
  subst ev
  obtain rfl : u = Value.ref a := r1
  obtain ⟨its, rv, p', hz⟩ := I1.tuple hq
  have hl := rv.length
  have hn := line63
  have hal : a < s1.heap.objs.size := by obtain ⟨_, z, _⟩ := p'; exact Heap.lt_size z
  have e1 : ((its.toArray.size : Nat) : Int) - 1 = (xs.length : Int) - 1 - ((0 : Nat) : Int) := by simp only [List.size_toArray]; omega
  refine call_reversed_tup p' (fun A E Q k => len_tuple p' (by simp only [List.size_toArray] <;> omega) k) (args_nil ?_)
  have hr0 : IsRt (s1.heap.push (rtObj a ((its.toArray.size : Int) - 1))) s1.heap.objs.size a ((its.toArray.size : Int) - 1) := ⟨_, Heap.get?_push_size _ rfl, rfl, rfl⟩
  refine call_enumerate_rt (s := { s1 with heap := s1.heap.push (rtObj a ((its.toArray.size : Int) - 1)), toks := s1.toks + 1 + 1 }) hr0 ?_
  have hz1 : (s1.heap.push (rtObj a ((its.toArray.size : Int) - 1))).objs.size = s1.heap.objs.size + 1 := Heap.size_push ..
  have hk : ∀ b o, s1.heap.get? b = some o → ((s1.heap.push (rtObj a ((its.toArray.size : Int) - 1))).push { cls := .type "enumerate", data := .fields #[.none, .bool false, .ref s1.heap.objs.size, rawInt 0, .none, .none] }).get? b = some o := fun b o z => Heap.get?_push_of_some _ (Heap.get?_push_of_some _ z)
  have hE : IsEnum ((s1.heap.push (rtObj a ((its.toArray.size : Int) - 1))).push { cls := .type "enumerate", data := .fields #[.none, .bool false, .ref s1.heap.objs.size, rawInt 0, .none, .none] }) (s1.heap.objs.size + 1) s1.heap.objs.size ((0 : Nat) : Int) .none := by
    have := Heap.get?_push_size (s1.heap.push (rtObj a ((its.toArray.size : Int) - 1))) (o := { cls := .type "enumerate", data := .fields #[.none, .bool false, .ref s1.heap.objs.size, rawInt 0, .none, .none] }) rfl
    rw [hz1] at this
    exact this
  have hR := hr0.at (h' := (s1.heap.push (rtObj a ((its.toArray.size : Int) - 1))).push { cls := .type "enumerate", data := .fields #[.none, .bool false, .ref s1.heap.objs.size, rawInt 0, .none, .none] }) fun o z => Heap.get?_push_of_some _ z
  simp only [hz1]
  refine wpAny_pyIter_enum hE ?_
  have I2 := I1.kept (t' := s1.toks + 1 + 1) hk
  refine ⟨s1.heap.objs.size + 1, [s1.heap.objs.size + 1, s1.heap.objs.size], _, _, H1, rfl, I2, turn_enumR a (s1.heap.objs.size + 1) s1.heap.objs.size xs.length, ⟨⟨.none, hE⟩, Nat.zero_le _, by rw [← e1]; exact hR, Nat.succ_ne_self _, Nat.ne_of_lt hal, Nat.ne_of_gt (Nat.lt_succ_of_lt hal)⟩, fun b hb => ?_, q⟩
  have e' : b = s1.heap.objs.size + 1 ∨ b = s1.heap.objs.size := by simpa using hb
  have hle : s1.heap.objs.size ≤ b := by
    rcases e' with z | z
    · rw [z]; exact Nat.le_add_right _ _
    · rw [z]; exact Nat.le_refl _
  exact I1.fpOk hle (I1.hok.fresh hle)
end RT
set_option maxHeartbeats 4000000
/-! _law_caught(lambda: ..) and _law_word(lambda: ..): the error of an action as a value. -/
namespace LamG
open PySem PySem.Spec PyProof.Rows L2 LamX
def top (i : Nat) : Stmt := PySem.Challenge.pw_entrybook_k88_values_written.main.body.getD i (.Pass ⟨0, 0, 0, 0⟩)
abbrev sCaught : Stmt := top 38
abbrev sWord : Stmt := top 39
abbrev nCaught : List Str := ["action", "found", "error"]
abbrev nWord : List Str := ["action", "told", "error", "word", "is_one"]
theorem scCaught : FnScope nCaught ["action"] (defScope sCaught) := ⟨rfl, rfl, rfl, by decide +kernel, rfl, by decide +kernel, by decide +kernel⟩
theorem scWord : FnScope nWord ["action"] (defScope sWord) := ⟨rfl, rfl, rfl, by decide +kernel, rfl, by decide +kernel, by decide +kernel⟩
/-- a def that calls what it got catches what it raises: _law_caught's way out, told of the heap behind the action -/
def qcOk (a : Addr) (Q : VK) : VK := fun _ H' => H' a = some (.lst []) ∧ ∀ b, H' b = none → Q .non (upd H' b (.lst []))
def ecOk (K : PySem.W.Frag) (CE : Addr) (a : Addr) (Q : VK) : XK := fun cls d H' => PySem.W.exmOne K cls (.ref CE) = some true ∧ H' a = some (.lst []) ∧
  ∀ x, H' x = none → x ≠ a → ∀ b, b ≠ a → b ≠ x → H' b = none → Q (.ref x) (upd (upd (upd H' a (.lst [.ref x])) x (Er cls d x)) b (.lst []))
def tCaught (K : PySem.W.Frag) (CE : Addr) (T : List (Addr × Str)) (t : XK → TE) : TE := fun σ H Q => Tabs T H ∧ ∀ H1, ExtN H H1 → Tabs T H1 → ∀ a, H1 a = none →
  ∀ E' Q', (∀ cls d H', ecOk K CE a Q cls d H' → E' cls d H') → (∀ v H', qcOk a Q v H' → Q' v H') → t E' σ (upd H1 a (.lst [])) Q'
section
variable {Y : Cx}
theorem pe_caught {T : List (Addr × Str)} {g c P CE : Addr} {k : Nat} {dV kV doc pm cdv ct oc : Value} {an od : Option Addr} {osl : Array (Option Value)}
    {params : Arguments} {body : Expr} {scope : Scope} {t : XK → TE} {p lpos pos : Pos} (hg : Gl Y "_law_caught") (hm : Y.mg "_law_caught" = some (.ref g)) (hk : PySem.W.keepIn Y.K (.ref g) = true) (gE : Y.mg "EntryError" = some (.ref CE))
    (lk : Y.K.lookup g = some ⟨oc, od, .func (PySem.W.fnOf "_law_caught" "_law_caught" (defArgs sCaught) (defBody sCaught) (defScope sCaught) dV kV doc pm an cdv ct), osl⟩) (hcg : PySem.W.codeIn Y.K cdv "_law_caught" = true)
    (hb : L2.Binds Y.K (PySem.W.fnOf "_law_caught" "_law_caught" (defArgs sCaught) (defBody sCaught) (defScope sCaught) dV kV doc pm an cdv ct) ["action"] [])
    (TB : TabB Y.base Y.mg c P) (hcode : Y.env.code = .ref c) (hmT : (P, Y.env.qual ++ "<lambda>") ∈ T) (hu : ∀ p ∈ T, p.1 = P → p.2 = Y.env.qual ++ "<lambda>") (hr : Room (k + 2) Y.A) (L : LamS Y.env.scope scope) (hdef : defaultsOf params Y.env = ([], []))
    (hbind : ∀ (q : Str) (cl : List (Str × Addr)) (pm cv ctv : Value), bindArgs (PySem.W.kla_fn "<lambda>" q params body scope cl pm cv ctv) ⟨[], []⟩ = pure [])
    (hbody : ∀ (pinsY : List (Addr × Obj)) (σY : L2.St) (sY : Shared) (HY : Hp), Inv Y pinsY σY HY sY → ∀ (A : Around) (fr : Env) (s : Shared) (H : Hp) (E : XK) (f c' : Addr), (∀ l, fr.frame = some l → sY.heap.objs.size ≤ l) → Env0 Y.prog Y.w Y.K Y.mg Y.base A (fr :: Y.stack) s H →
      Un (frs Y.stack) [] HY H sY.heap s.heap → Room k (A.deeper (lamEnv Y scope s.heap.objs.size f c')) → PE (lamCx Y A (fr :: Y.stack) s H E scope f c') body (t E)) :
    PE Y (.Call (.Name "_law_caught" p) [.Lambda params body scope lpos] [] pos) (tCaught Y.K CE T t) := by
  refine ⟨fun pins s σ H Q I h => ?_⟩
  obtain ⟨hT, h⟩ := h
  refine wpAny_Call_Name_kw (ld_glob I hg hm ?_ (by decide))
  refine PySem.W.callWith_K (h₀ := Y.base) I.ok.mod.kin hk ?_ (by rfl) (by rfl)
  show wpAny _ _ (spliced ((false, eval (.Lambda params body scope lpos) Y.env) :: backTo pos (starEach [] Y.env))) _ _ s
  refine Calls.spliced_cons (lam_make2 I TB hcode hmT hu hT hdef (L.has I.ok) fun f c' pm' ctv H1 s' I1 eN T1 hf hfn hfr hco => ?_)
  refine Calls.spliced_nil ⟨I1.kIn, ?_⟩
  have rc : codeAny (model Y.prog Y.w) Y.A (.call (.ref g) ⟨[.ref f], []⟩) (CR C8.CX0 Y.stack Y.prog Y.w H1 s' Q C8.E0) s' := by
    refine run_ofS (N := nCaught) (ps := ["action"]) (us := [.ref f]) (vs := [.ref f]) lk hcg scCaught hr I1.env0 (hb s' [.ref f] I1.kIn rfl) (.cons rfl .nil) rfl fun hr' => ?_
    have hN0 : nCaught[0]? = some ("action" : Str) := rfl
    have hgl : Gl (cxOf C8.CX0 Y.prog Y.w Y.K Y.mg Y.base nCaught "_law_caught" (defScope sCaught) g cdv Y.A Y.stack s' H1 C8.E0).nox "EntryError" := by rfl
    refine ⟨_, PSs.nox (pss_cons (ps_set (i := 1) scCaught.nd rfl (.inl rfl) (pe_lst pa_nil))
      (pss_cons (ps_try_keep (i := 2) (c := .ref CE) (ts := fun _ _ _ => tDrop (tBM Y.K "list" rAppend (tVar 1) (tCons (tVar 2) tNil)))
        (tb := fun W => tDrop (fun σZ HZ Q => σZ[0]? = some (some (.ref f)) ∧ HZ c' = some (CodeO c' (Y.env.qual ++ "<lambda>")) ∧ t (WE W σZ) σ HZ Q))
        rfl rfl rfl scCaught.nd rfl rfl ⟨hgl, rfl, .inl gE⟩ L2.takes0 (fun W pn xe tk _ => pss_one (ps_expr ?act)) (fun a oe cls d pn hz hf => pss_one (ps_expr (pe_bm PySem.F.plainAttrs_list PySem.F.slot_list_append PySem.F.type_list_append mt_append (pv 1) (pa_cons (pv 2) pa_nil)))))
      (pss_one (ps_ret (pe_ifExp (pt_cmpR (op_neNil (by have := hu_of hr'; exact Nat.lt_of_succ_lt this)) (pv 1) (pe_lst pa_nil) (nomark _)) (pe_ix ix_list (pv 1) pe_int (fun _ _ => rfl)) pe_non))))), ?_⟩
    case act =>
      have := @pe_acted Y pins σ H1 s' (frs Y.stack) (Y.A.deeper (envOfC "_law_caught" (defScope sCaught) s'.heap.objs.size g cdv)) nCaught s' H1 (envOfC "_law_caught" (defScope sCaught) s'.heap.objs.size g cdv) Y.stack (envOfC "_law_caught" (defScope sCaught) s'.heap.objs.size g cdv :: Y.stack) [] (fun _ => true) true pn xe
        f c' pm' ctv params body scope k 0 "action" W t
      refine this I1 L hf hfn (hbind _ _ _ _ _) (fun pinsZ sZ σZ HZ IZ => IZ.base) hfr tk hr' (fun E s2 HZ e0 ⟨pinsZ, σZ, IZ⟩ hr2 => ?_) hN0 (.inl (by rfl))
      exact hbody _ _ _ _ I1 _ _ s2 HZ E f c' (fun l hl => by cases hl; exact Nat.le_refl _) e0 IZ.base hr2
    · refine ⟨by decide, fun a ha => ?_⟩
      have hac : c' ≠ a := ne_of_none hco ha
      refine ⟨rfl, (upd_ne hac).trans hco, h H1 eN T1 a ha _ _ (fun cls d H' ⟨h1, h2, h3⟩ => ?_) (fun v H' ⟨h2, h3⟩ => ?_)⟩
      · refine ⟨true, h1, fun _ x hx => ?_, fun q => nomatch q⟩
        have hxa : x ≠ a := fun z => by rw [z, h2] at hx; cases hx
        refine ⟨.ref a, rfl, .inl ⟨rfl, _, .inl (.inl h2)⟩, .ref x, rfl, a, [], .ref x, rfl, rfl, h2, by decide, fun hx' => ?_⟩
        have e1 : (upd (upd H' a (.lst ([] ++ [V.ref x]))) x (Er cls d x)) a = some (.lst [.ref x]) := by rw [upd_ne hxa.symm, upd_same]; rfl
        refine ⟨.ref a, rfl, by decide, fun b hb => ⟨a, b, [.ref x], rfl, rfl, ?_, .inl (.inl upd_same), _, rfl, ?_⟩⟩
        · have hba : a ≠ b := ne_of_none e1 hb
          exact .inl (.inl ((upd_ne hba).trans e1))
        · have hba : a ≠ b := ne_of_none e1 hb
          have hbx : b ≠ x := fun z => by rw [z, upd_same] at hb; cases hb
          have hb' : H' b = none := by
            rw [upd_ne hbx, upd_ne (Ne.symm hba)] at hb
            exact hb
          show tOp (rIxL _) (tVar 1) (tC (.int 0)) _ _ _
          exact ⟨.ref a, rfl, a, [.ref x], 0, .ref x, rfl, rfl, .inl (.inl ((upd_ne hba).trans e1)), rfl, h3 x hx hxa b (Ne.symm hba) hbx hb'⟩
      · refine ⟨.ref a, rfl, by decide, fun b hb => ⟨a, b, [], rfl, rfl, ?_, .inl (.inl upd_same), _, rfl, ?_⟩⟩
        · have hba : a ≠ b := ne_of_none h2 hb
          exact .inl (.inl ((upd_ne hba).trans h2))
        · exact h3 b hb
  refine wpAny_call (codeAny_mono rc fun r s2 hq => ?_)
  cases r with
  | error e => exact (show False from hq).elim
  | ok fl =>
    cases fl with
    | ret u => exact I1.after hq
    | next => exact False.elim hq
    | brk => exact False.elim hq
    | cont => exact False.elim hq
end

theorem ifT {c : Bool} {A B : Prop} (hc : c = true) (h : A) : if c = true then A else B := by
  rw [if_pos hc]
  exact h
theorem ifF {c : Bool} {A B : Prop} (hc : c = false) (h : B) : if c = true then A else B := by
  rw [if_neg (by rw [hc]; exact Bool.false_ne_true)]
  exact h
/-! ### _law_word(lambda: ..) -/
/-- tuples stay -/
def TupK (H H' : Hp) : Prop := ∀ b xs, H b = some (.tup xs) → H' b = some (.tup xs)
def qWord (T : List (Addr × Str)) (H Hc : Hp) (Q : VK) : VK := fun v H' => ExtN Hc H' ∧ Tabs T H' ∧ ∀ H2, ExtN H H2 → TupK H' H2 → Tabs T H2 → Q v H2
def eWord (CN : Addr) (T : List (Addr × Str)) (H Hc : Hp) (Q : VK) : XK := fun cls d H' => ExtN Hc H' ∧ Tabs T H' ∧ ∃ (dd : Addr) (v : V), cls = .ref CN ∧ d = some dd ∧ H' dd = some (.xd [(("line" : Str), v)]) ∧
  ∀ H2 p, ExtN H H2 → Tabs T H2 → H2 p = some (.tup [.str "text", v]) → Q (.ref p) H2
def tWord (CN : Addr) (T : List (Addr × Str)) (t : XK → TE) : TE := fun σ H Q => Tabs T H ∧ ∀ Hc, ExtN H Hc → Tabs T Hc →
  ∀ E' Q', (∀ cls d H', eWord CN T H Hc Q cls d H' → E' cls d H') → (∀ v H', qWord T H Hc Q v H' → Q' v H') → t E' σ Hc Q'
theorem Tabs.upd_lst {T : List (Addr × Str)} {H : Hp} {p : Addr} {xs ys : List V} (t : Tabs T H) (hp : H p = some (.lst xs)) : Tabs T (upd H p (.lst ys)) := fun q hq => by
  obtain ⟨ps, h1, h2, h3⟩ := t q hq
  have ne : ∀ {b o}, H b = some o → (∀ zs, o ≠ .lst zs) → b ≠ p := fun {b o} e n z => by
    rw [z, hp] at e
    exact n xs (Option.some.inj e).symm
  refine ⟨ps, by rw [upd_ne (ne h1 (fun _ z => by cases z))]; exact h1, h2, fun pos cv hc => ?_⟩
  obtain ⟨c, e1, e2⟩ := h3 pos cv hc
  exact ⟨c, e1, by rw [upd_ne (ne e2 (fun _ z => by unfold CodeO at z; cases z))]; exact e2⟩
theorem Tabs.new {T : List (Addr × Str)} {H : Hp} {p : Addr} {o : HO} (t : Tabs T H) (hp : H p = none) : Tabs T (upd H p o) := t.ext fun b u e => by
  rw [upd_ne (ne_of_none e hp)]
  exact e
theorem ExtN.new {H H' : Hp} {p : Addr} {o : HO} (e : ExtN H H') (hp : H' p = none) : ExtN H (upd H' p o) := fun b u h n => by
  rw [upd_ne (ne_of_none (e b u h n) hp)]
  exact e b u h n
structure WT (K : PySem.W.Frag) (mg : Str → Option Value) (base : Heap) (gW gC cW PW CN CE CU CM : Addr) : Prop where
  mW : mg "_law_word" = some (.ref gW)
  mC : mg "_law_caught" = some (.ref gC)
  kW : PySem.W.keepIn K (.ref gW) = true
  kC : PySem.W.keepIn K (.ref gC) = true
  mE : mg "EntryError" = some (.ref CE)
  mN : mg "NoText" = some (.ref CN)
  mU : mg "Used" = some (.ref CU)
  mM : mg "TooMany" = some (.ref CM)
  mI : mg "isinstance" = none
  lkW : ∃ (oc : Value) (od an : Option Addr) (dV kV doc pm ct : Value) (osl : Array (Option Value)), K.lookup gW = some ⟨oc, od, .func (PySem.W.fnOf "_law_word" "_law_word" (defArgs sWord) (defBody sWord) (defScope sWord) dV kV doc pm an (.ref cW) ct), osl⟩ ∧ PySem.W.codeIn K (.ref cW) "_law_word" = true ∧
    L2.Binds K (PySem.W.fnOf "_law_word" "_law_word" (defArgs sWord) (defBody sWord) (defScope sWord) dV kV doc pm an (.ref cW) ct) ["action"] []
  lkC : ∃ (oc : Value) (od an : Option Addr) (dV kV doc pm cdv ct : Value) (osl : Array (Option Value)), K.lookup gC = some ⟨oc, od, .func (PySem.W.fnOf "_law_caught" "_law_caught" (defArgs sCaught) (defBody sCaught) (defScope sCaught) dV kV doc pm an cdv ct), osl⟩ ∧ PySem.W.codeIn K cdv "_law_caught" = true ∧
    L2.Binds K (PySem.W.fnOf "_law_caught" "_law_caught" (defArgs sCaught) (defBody sCaught) (defScope sCaught) dV kV doc pm an cdv ct) ["action"] []
  er : ErC K CN
  no : PySem.W.findIn K (.ref CN) "line" = some none
  ex : PySem.W.exmOne K (.ref CN) (.ref CE) = some true
  iU : PySem.W.kitOne K (.ref CN) (.ref CU) = some false
  iM : PySem.W.kitOne K (.ref CN) (.ref CM) = some false
  iN : PySem.W.kitOne K (.ref CN) (.ref CN) = some true
  tb : TabB base mg cW PW
/-- the frame's own name in what it makes -/
abbrev qW : Str := (envOfC "_law_word" (defScope sWord) 0 0 .none).qual ++ "<lambda>"
section
variable {X : Cx} {gW gC cW PW CN CE CU CM : Addr}
theorem pe_word {T : List (Addr × Str)} {c P : Addr} {k : Nat} {params : Arguments} {body : Expr} {scope : Scope} {t : XK → TE} {p lpos pos : Pos} (WX : WT X.K X.mg X.base gW gC cW PW CN CE CU CM) (hg : Gl X "_law_word")
    (TB : TabB X.base X.mg c P) (hcode : X.env.code = .ref c) (hmT : (P, X.env.qual ++ "<lambda>") ∈ T) (hu : ∀ p ∈ T, p.1 = P → p.2 = X.env.qual ++ "<lambda>") (hmW : (PW, qW) ∈ T) (huW : ∀ p ∈ T, p.1 = PW → p.2 = qW) (hr : Room (k + 4) X.A) (L : LamS X.env.scope scope) (hdef : defaultsOf params X.env = ([], []))
    (hbind : ∀ (q : Str) (cl : List (Str × Addr)) (pm cv ctv : Value), bindArgs (PySem.W.kla_fn "<lambda>" q params body scope cl pm cv ctv) ⟨[], []⟩ = pure [])
    (hbody : ∀ (A : Around) (outer : List Env) (s : Shared) (H : Hp) (E : XK) (f c' : Addr), Room k (A.deeper (lamEnv X scope s.heap.objs.size f c')) → PE (lamCx X A outer s H E scope f c') body (t E)) :
    PE X (.Call (.Name "_law_word" p) [.Lambda params body scope lpos] [] pos) (tWord CN T t) := by
  refine ⟨fun pins s σ H Q I h => ?_⟩
  obtain ⟨hT, h⟩ := h
  refine wpAny_Call_Name_kw (ld_glob I hg WX.mW ?_ (by decide))
  refine PySem.W.callWith_K (h₀ := X.base) I.ok.mod.kin WX.kW ?_ (by rfl) (by rfl)
  show wpAny _ _ (spliced ((false, eval (.Lambda params body scope lpos) X.env) :: backTo pos (starEach [] X.env))) _ _ s
  refine Calls.spliced_cons (lam_make2 I TB hcode hmT hu hT hdef (L.has I.ok) fun f c' pm' ctv H1 s' I1 eN T1 hf hfn hfr hco => ?_)
  refine Calls.spliced_nil ⟨I1.kIn, ?_⟩
  have rc : codeAny (model X.prog X.w) X.A (.call (.ref gW) ⟨[.ref f], []⟩) (CR C8.CX0 X.stack X.prog X.w H1 s' Q C8.E0) s' := by
    obtain ⟨oc, od, an, dV, kV, doc, pm, ct, osl, lk, hcd, hb⟩ := WX.lkW
    obtain ⟨oc2, od2, an2, dV2, kV2, doc2, pm2, cdv2, ct2, osl2, lk2, hcd2, hb2⟩ := WX.lkC
    refine run_ofS (N := nWord) (ps := ["action"]) (us := [.ref f]) (vs := [.ref f]) lk hcd scWord hr I1.env0 (hb s' [.ref f] I1.kIn rfl) (.cons rfl .nil) rfl fun hr' => ?_
    have gl : ∀ {x : Str}, (defScope sWord).names.lookup x = some .globalImplicit → Gl (cxOf C8.CX0 X.prog X.w X.K X.mg X.base nWord "_law_word" (defScope sWord) gW (.ref cW) X.A X.stack s' H1 C8.E0).nox x := fun e => e
    let tAct : XK → TE := fun E => tBM X.K "list" rAppend (tVar 1) (tCons (fun σZ HZ Q => σZ[0]? = some (some (.ref f)) ∧ HZ c' = some (CodeO c' (X.env.qual ++ "<lambda>")) ∧ t (WE (fun cls d _ H => E cls d H) σZ) σ HZ Q) tNil)
    refine ⟨_, PSs.nox (pss_cons (ps_set (i := 1) scWord.nd rfl (.inr rfl) (pe_lst pa_nil))
      (pss_cons (ps_set (i := 2) scWord.nd rfl (.inl rfl) (pe_caught (CE := CE) (k := k + 1) (t := tAct) (by rfl) WX.mC WX.kC WX.mE lk2 hcd2 hb2 WX.tb rfl hmW huW hr' ?lam ?dfl ?bind ?act))
      (pss_cons (ps_if (pt_cmpR op_isN (pv 2) pe_non (nomark _)) (pss_one (ps_ret (pe_ix ix_list (pv 1) pe_int (fun _ _ => rfl)))) pss_nil)
      (pss_cons (ps_if (pt_val (pe_callB call_isH (by rfl) WX.mI PyProof.Rows.boot_isinstance (pa_cons (pv 2) (pa_cons (pe_glob (v := .ref CU) (by rfl) WX.mU rfl) pa_nil)))) (pss_one ps_never) pss_nil)
      (pss_cons (ps_if (pt_val (pe_callB call_isH (by rfl) WX.mI PyProof.Rows.boot_isinstance (pa_cons (pv 2) (pa_cons (pe_glob (v := .ref CM) (by rfl) WX.mM rfl) pa_nil)))) (pss_one ps_never) pss_nil)
      (pss_cons (ps_if (pt_val (pe_callB call_isH (by rfl) WX.mI PyProof.Rows.boot_isinstance (pa_cons (pv 2) (pa_cons (pe_glob (v := .ref CN) (by rfl) WX.mN rfl) pa_nil)))) (pss_one (ps_ret (pe_tup (pa_cons pe_str (pa_cons (pe_xh (pv 2)) pa_nil))))) pss_nil)
        pss_never)))))), ?_⟩
    case lam =>
      refine lamS_by ?_
      show lamSB (defScope sWord) _ = true
      decide +kernel
    case dfl => rfl
    case bind => intro _ _ _ _ _; first | rfl | with_unfolding_all rfl
    case act =>
      intro pinsY σY sY HY IY A fr s2 H2 E f2 c2 hfrm e0 un hr2
      refine pe_bm PySem.F.plainAttrs_list PySem.F.slot_list_append PySem.F.type_list_append mt_append (pv 1) (pa_cons ?ac pa_nil)
      case ac =>
        have IYb : Un (frs X.stack) [] H1 HY s'.heap sY.heap := IY.base
        have IYs : s'.heap.objs.size ≤ sY.heap.objs.size := IY.sz
        have hfl : f < s'.heap.objs.size := Heap.lt_size hf
        have sub1 : ∀ b ∈ frs X.stack, b ∈ frs (fr :: envOfC "_law_word" (defScope sWord) s'.heap.objs.size gW (.ref cW) :: X.stack) := fun b hb => by
          obtain ⟨e, he, hh⟩ := List.mem_filterMap.mp hb
          exact List.mem_filterMap.mpr ⟨e, List.mem_cons_of_mem _ (List.mem_cons_of_mem _ he), hh⟩
        have sub2 : ∀ b ∈ frs (envOfC "_law_word" (defScope sWord) s'.heap.objs.size gW (.ref cW) :: X.stack), b ∈ frs (fr :: envOfC "_law_word" (defScope sWord) s'.heap.objs.size gW (.ref cW) :: X.stack) := fun b hb => by
          obtain ⟨e, he, hh⟩ := List.mem_filterMap.mp hb
          exact List.mem_filterMap.mpr ⟨e, List.mem_cons_of_mem _ he, hh⟩
        have nf : f ∉ frs (fr :: envOfC "_law_word" (defScope sWord) s'.heap.objs.size gW (.ref cW) :: X.stack) := fun hb => by
          obtain ⟨e, he, hh⟩ := List.mem_filterMap.mp hb
          rcases List.mem_cons.mp he with rfl | he
          · exact absurd (Nat.lt_of_lt_of_le hfl (Nat.le_trans IYs (hfrm f hh))) (Nat.lt_irrefl _)
          · rcases List.mem_cons.mp he with rfl | he
            · have e1 : s'.heap.objs.size = f := Option.some.inj hh
              rw [e1] at hfl
              exact absurd hfl (Nat.lt_irrefl _)
            · exact hfr (List.mem_filterMap.mpr ⟨e, he, hh⟩)
        have base12 : Un (frs (fr :: envOfC "_law_word" (defScope sWord) s'.heap.objs.size gW (.ref cW) :: X.stack)) [] H1 H2 s'.heap s2.heap := (IYb.mono sub1 fun _ z => z).trans (un.mono sub2 fun _ z => z)
        refine (@pe_acted X pins σ H1 s' _ _ nWord s2 H2 _ _ _ [] (fun _ => false) true [] _ f c' pm' ctv params body scope k 0 "action" (fun cls d _ H => E cls d H) t _ _ I1 L hf hfn (hbind _ _ _ _ _) ?chain nf ?tk hr2 ?hb rfl (.inr (.inr (by rfl))) (by decide) (by decide))
        case chain => exact fun pinsZ sZ σZ HZ IZ => base12.trans IZ.base
        case tk => exact takes_of (E := E) rfl rfl rfl rfl
        case hb => exact fun E3 s3 HZ e3 _ hr3 => hbody _ _ s3 HZ E3 f c' hr3
    · refine ⟨by decide, fun p0 hp0 => ?_⟩
      have T1' : Tabs T (upd H1 p0 (.lst [])) := Tabs.new T1 hp0
      refine ⟨T1', fun H3 e3 T3 a ha E' Q' hE hQ => ?_⟩
      have hp3 : H3 p0 = some (.lst []) := e3 _ _ upd_same fun _ z => by cases z
      have hap : p0 ≠ a := ne_of_none hp3 ha
      have hpc : (upd H3 a (.lst [])) p0 = some (.lst []) := (upd_ne hap).trans hp3
      have hco3 : H3 c' = some (CodeO c' (X.env.qual ++ "<lambda>")) := e3 _ _ ((upd_ne (ne_of_none hco hp0)).trans hco) codeO_ne
      have hcoc : (upd H3 a (.lst [])) c' = some (CodeO c' (X.env.qual ++ "<lambda>")) := (upd_ne (ne_of_none hco3 ha)).trans hco3
      have extH1 : ExtN H (upd H1 p0 (.lst [])) := LamG.ExtN.new eN hp0
      have extHc : ExtN H (upd H3 a (.lst [])) := LamG.ExtN.new (extH1.trans e3) ha
      have Tc : Tabs T (upd H3 a (.lst [])) := Tabs.new T3 ha
      -- what stood ahead of the call is neither told nor found
      have old : ∀ b o, H b = some o → (∀ ps, o ≠ .tbl ps) → b ≠ p0 ∧ b ≠ a := fun b o e n => ⟨ne_of_none (eN b o e n) hp0, ne_of_none ((extH1.trans e3) b o e n) ha⟩
      refine ⟨.ref p0, rfl, .inl ⟨rfl, _, .inl (.inl hpc)⟩, rfl, hcoc, h _ extHc Tc _ _ (fun cls d H' hw => ?_) (fun v H' hw => ?_)⟩
      · obtain ⟨eH', T', dd, v, rfl, rfl, hdd, hk⟩ := hw
        have hpa : H' a = some (.lst []) := eH' _ _ upd_same fun _ z => by cases z
        have hpp : H' p0 = some (.lst []) := eH' _ _ hpc fun _ z => by cases z
        refine hE _ _ _ ⟨WX.ex, hpa, fun x hx hxa b hba hbx hb => ?_⟩
        generalize hG : upd (upd (upd H' a (.lst [.ref x])) x (Er (.ref CN) (some dd) x)) b (.lst []) = G
        have gx : G x = some (Er (.ref CN) (some dd) x) := by rw [← hG, upd_ne hbx.symm, upd_same]
        have gd : G dd = some (.xd [(("line" : Str), v)]) := by
          have n1 : dd ≠ a := fun z => by rw [z, hpa] at hdd; cases hdd
          rw [← hG, upd_ne (ne_of_none hdd hb), upd_ne (ne_of_none hdd hx), upd_ne n1]
          exact hdd
        have ge : ExtN H G := fun q o e n => by
          obtain ⟨n1, n2⟩ := old q o e n
          have e' := eH' _ _ (extHc q o e n) n
          rw [← hG, upd_ne (ne_of_none e' hb), upd_ne (ne_of_none e' hx), upd_ne n2]
          exact e'
        have gT : Tabs T G := by
          rw [← hG]
          refine Tabs.new (Tabs.new (Tabs.upd_lst T' hpa) ?_) ?_
          · rw [upd_ne hxa]; exact hx
          · rw [upd_ne hbx, upd_ne hba]; exact hb
        refine ⟨.ref x, rfl, rfl, _, rfl, ifF (decide_eq_false (fun z => nomatch z)) ?_⟩
        refine ⟨.ref x, rfl, x, CN, dd, _, .ref CU, .ref CU, false, rfl, .own CU, gx, gd, WX.er, WX.iU, _, rfl, ifF rfl ?_⟩
        refine ⟨.ref x, rfl, x, CN, dd, _, .ref CM, .ref CM, false, rfl, .own CM, gx, gd, WX.er, WX.iM, _, rfl, ifF rfl ?_⟩
        refine ⟨.ref x, rfl, x, CN, dd, _, .ref CN, .ref CN, true, rfl, .own CN, gx, gd, WX.er, WX.iN, _, rfl, ifT rfl ?_⟩
        refine ⟨.ref x, rfl, x, CN, dd, [(("line" : Str), v)], v, rfl, gx, gd, WX.er, WX.no, by simp [List.lookup], by show 2 ≤ sizeLine; decide, fun p hp => hk _ p ?_ ?_ upd_same⟩
        · exact LamG.ExtN.new ge hp
        · exact Tabs.new gT hp
      · obtain ⟨eH', T', hk⟩ := hw
        have hpa : H' a = some (.lst []) := eH' _ _ upd_same fun _ z => by cases z
        have hpp : H' p0 = some (.lst []) := eH' _ _ hpc fun _ z => by cases z
        refine ⟨p0, [], v, rfl, rfl, hpp, by decide, hQ _ _ ⟨(upd_ne hap.symm).trans hpa, fun b hb => ?_⟩⟩
        have hbp : p0 ≠ b := fun z => by rw [← z, upd_same] at hb; cases hb
        have hb' : H' b = none := by rw [upd_ne hbp.symm] at hb; exact hb
        refine ⟨.non, rfl, rfl, _, rfl, ifT (decide_eq_true rfl) ⟨.ref p0, rfl, p0, [v], 0, v, rfl, rfl, .inl (.inl ((upd_ne hbp).trans upd_same)), rfl, hk _ (fun q o e n => ?_) (fun q xs e => ?_) ?_⟩⟩
        · obtain ⟨n1, n2⟩ := old q o e n
          have e' := eH' _ _ (extHc q o e n) n
          rw [upd_ne (ne_of_none e' hb'), upd_ne n1]
          exact e'
        · have n1 : q ≠ p0 := fun z => by rw [z, hpp] at e; cases e
          rw [upd_ne (ne_of_none e hb'), upd_ne n1]
          exact e
        · exact Tabs.new (Tabs.upd_lst T' hpp) hb
  refine wpAny_call (codeAny_mono rc fun r s2 hq => ?_)
  cases r with
  | error e => exact (show False from hq).elim
  | ok fl =>
    cases fl with
    | ret u => exact I1.after hq
    | next => exact False.elim hq
    | brk => exact False.elim hq
    | cont => exact False.elim hq
end
end LamG
set_option maxHeartbeats 4000000
/-! Entry values, their texts, how they are read: plain. -/
namespace NtP
open PySem PySem.Spec
/-! ### leaves -/
abbrev smalls : Str := "abcdefghijklmnopqrstuvwxyz"
abbrev figs : Str := "0123456789"
def S (l : List Nat) : Str := ⟨l.toArray⟩
theorem S_list (z : Str) : S z.cps.toList = z := by
  obtain ⟨c⟩ := z
  simp [S]
theorem list_S (l : List Nat) : (S l).cps.toList = l := by simp [S]
theorem S_inj {a b : List Nat} (h : S a = S b) : a = b := by
  have := congrArg (fun z : Str => z.cps.toList) h
  simpa [S] using this
def isLow (c : Nat) : Bool := decide (c ∈ smalls.cps.toList)
def isDig (c : Nat) : Bool := decide (c ∈ figs.cps.toList)
def wordT (z : Str) : Bool := !decide (z = ("" : Str)) && z.cps.toList.all isLow
def isWord : PyData → Bool
  | .str z => wordT z
  | _ => false
def isFig : PyData → Bool
  | .int i => decide ((if i < 0 then -i else i) < 1000000000000)
  | _ => false
def isNon : PyData → Bool
  | .none => true
  | _ => false
def leafB (d : PyData) : Bool := isNon d || isWord d || isFig d
def tupB : PyData → Bool
  | .tuple _ => true
  | _ => false
def ch : PyData → List PyData
  | .tuple ds => ds
  | _ => []
def okAt : Nat → PyData → Bool
  | 0, d => leafB d
  | n + 1, d => (tupB d || leafB d) && (ch d).all (okAt n)
mutual
def nodes : PyData → Nat
  | .tuple ds => 1 + nodesL ds
  | .list ds => 1 + nodesL ds
  | _ => 1
def nodesL : List PyData → Nat
  | [] => 0
  | d :: r => nodes d + nodesL r
end
mutual
def vt : PyData → List Nat
  | .none => [45]
  | .str z => z.cps.toList
  | .int i => (Str.ofString (toString i)).cps.toList
  | .tuple ds => 40 :: (vts ds ++ [41])
  | _ => []
def vts : List PyData → List Nat
  | [] => []
  | d :: r => vt d ++ vtr r
def vtr : List PyData → List Nat
  | [] => []
  | d :: r => 32 :: (vt d ++ vtr r)
end
/-! ### pieces -/
def isDel (c : Nat) : Bool := c == 40 || c == 41 || c == 32
def addc (c : Nat) (ps : List (List Nat)) : List (List Nat) :=
  if isDel c then [c] :: ps else match ps with
    | (a :: h) :: t => if isDel a then [c] :: (a :: h) :: t else (c :: a :: h) :: t
    | _ => [c] :: ps
def pcs (l : List Nat) : List (List Nat) := l.foldr addc []
theorem pcs_del {c : Nat} (h : isDel c = true) (l : List Nat) : pcs (c :: l) = [c] :: pcs l := by
  show addc c (pcs l) = _
  unfold addc
  rw [if_pos h]
/-- a first sign that ends a piece, or none -/
def endB : List Nat → Bool
  | [] => true
  | c :: _ => isDel c
theorem pcs_head : ∀ l : List Nat, pcs l = [] ∧ l = [] ∨ ∃ a h t r, pcs l = (a :: h) :: t ∧ l = a :: r
  | [] => .inl ⟨rfl, rfl⟩
  | c :: l => by
    refine .inr ?_
    show ∃ a h t r, addc c (pcs l) = (a :: h) :: t ∧ c :: l = a :: r
    unfold addc
    by_cases hc : isDel c
    · exact ⟨c, [], pcs l, l, by rw [if_pos hc], rfl⟩
    · rw [if_neg hc]
      split
      · split
        · exact ⟨c, _, _, l, rfl, rfl⟩
        · exact ⟨c, _, _, l, rfl, rfl⟩
      · exact ⟨c, [], _, l, rfl, rfl⟩
theorem pcs_tok : ∀ (t r : List Nat), t ≠ [] → t.all (fun c => !isDel c) = true → endB r = true → pcs (t ++ r) = t :: pcs r
  | [], _, h, _, _ => absurd rfl h
  | [c], r, _, hc, he => by
    have hc : isDel c = false := by simpa using hc
    show addc c (pcs r) = _
    unfold addc
    rw [if_neg (by rw [hc]; exact Bool.false_ne_true)]
    rcases pcs_head r with ⟨e1, e2⟩ | ⟨a, h, t, r', e1, e2⟩
    · rw [e1]
    · rw [e1]
      rw [e2] at he
      have he : isDel a = true := he
      show (if isDel a = true then _ else _) = _
      rw [if_pos he]
  | c :: c2 :: t, r, _, hc, he => by
    have h1 : isDel c = false ∧ (c2 :: t).all (fun c => !isDel c) = true := by
      rw [List.all_cons, Bool.and_eq_true] at hc
      exact ⟨by simpa using hc.1, hc.2⟩
    have h2 : isDel c2 = false := by
      have := h1.2
      rw [List.all_cons, Bool.and_eq_true] at this
      simpa using this.1
    have ih := pcs_tok (c2 :: t) r (by simp) h1.2 he
    show addc c (pcs ((c2 :: t) ++ r)) = _
    rw [ih]
    unfold addc
    rw [if_neg (by rw [h1.1]; exact Bool.false_ne_true)]
    show (if isDel c2 = true then _ else _) = _
    rw [if_neg (by rw [h2]; exact Bool.false_ne_true)]
/-! ### one piece -/
def bareOf (p : List Nat) : List Nat := if p.take 1 = [45] then p.drop 1 else p
def readP (p : List Nat) : Option PyData :=
  if p = [45] then some .none else if wordT (S p) then some (.str (S p)) else
    if (decide (1 ≤ (bareOf p).length) && decide ((bareOf p).length ≤ 12)) && (bareOf p).all isDig then
      match intText? (S p) with
      | some n => if Str.ofString (toString n) = S p then some (.int n) else none
      | none => none
    else none
theorem isDig_iff {c : Nat} : isDig c = true ↔ 48 ≤ c ∧ c ≤ 57 := by
  have e : figs.cps.toList = [48, 49, 50, 51, 52, 53, 54, 55, 56, 57] := by decide +kernel
  unfold isDig
  rw [e, decide_eq_true_iff]
  simp only [List.mem_cons, List.not_mem_nil, or_false]
  omega
theorem dv_lt : ∀ (cs : List Nat) (acc : Nat), NumText.AllDigits cs → cs.foldl (fun acc c => acc * 10 + (c - 48)) acc < (acc + 1) * 10 ^ cs.length
  | [], acc, _ => by simp
  | c :: cs, acc, h => by
    have h1 := dv_lt cs (acc * 10 + (c - 48)) h.tail
    have h2 := h.head
    rw [List.foldl_cons, List.length_cons, Nat.pow_succ]
    refine Nat.lt_of_lt_of_le h1 ?_
    have h3 : acc * 10 + (c - 48) + 1 ≤ (acc + 1) * 10 := by omega
    calc (acc * 10 + (c - 48) + 1) * 10 ^ cs.length ≤ ((acc + 1) * 10) * 10 ^ cs.length := Nat.mul_le_mul_right _ h3
      _ = (acc + 1) * (10 ^ cs.length * 10) := by rw [Nat.mul_assoc, Nat.mul_comm 10]
theorem dv_bound {cs : List Nat} (h : NumText.AllDigits cs) (hl : cs.length ≤ 12) : NumText.digitsVal cs < 1000000000000 := by
  have h1 := dv_lt cs 0 h
  have h2 : 10 ^ cs.length ≤ 10 ^ 12 := Nat.pow_le_pow_right (by decide) hl
  unfold NumText.digitsVal
  have h3 : (10 : Nat) ^ 12 = 1000000000000 := by decide
  omega
/-- what int() reads from such a piece -/
theorem int_piece {p : List Nat} (h1 : 1 ≤ (bareOf p).length) (h2 : (bareOf p).length ≤ 12) (h3 : (bareOf p).all isDig = true) : ∃ n, intText? (S p) = some n ∧ n.natAbs < 1000000000000 := by
  have hd : NumText.AllDigits (bareOf p) := fun c hc => isDig_iff.mp (List.all_eq_true.mp h3 c hc)
  have hne : bareOf p ≠ [] := fun z => by rw [z] at h1; simp at h1
  by_cases h : p.take 1 = [45]
  · have e : bareOf p = p.drop 1 := if_pos h
    obtain ⟨r, rfl⟩ : ∃ r, p = 45 :: r := by
      cases p with
      | nil => simp at h
      | cons a r =>
        simp at h
        exact ⟨r, by rw [h]⟩
    have e2 : bareOf (45 :: r) = r := by rw [e]; rfl
    rw [e2] at hd hne h2
    exact ⟨_, intText_neg (list_S _) hd hne (by show (45 :: r).toArray.size ≤ 4300; simp; omega), by have := dv_bound hd h2; omega⟩
  · have e : bareOf p = p := if_neg h
    rw [e] at hd hne h2
    refine ⟨_, intText_digits (x := S p) (by rw [list_S]; exact hd) (by rw [list_S]; exact hne) (by show p.toArray.size ≤ 4300; simp; omega), by rw [list_S]; have := dv_bound hd h2; omega⟩
/-! ### many pieces: a stack, its top first -/
def put (st : List (List PyData)) (dn : Option PyData) (d : PyData) : Option (List (List PyData) × Option PyData) :=
  match st, dn with
  | [], some _ => none
  | [], none => some ([], some d)
  | h :: t, dn => some ((h ++ [d]) :: t, dn)
def stepV (st : List (List PyData)) (dn : Option PyData) (p : List Nat) : Option (List (List PyData) × Option PyData) :=
  if p = [40] then some ([] :: st, dn) else if p = [32] then some (st, dn) else if p = [41] then
    (match st with
    | [] => none
    | h :: t => put t dn (.tuple h)) else
    match readP p with
    | none => none
    | some d => put st dn d
def go : List (List Nat) → List (List PyData) → Option PyData → Option PyData
  | [], [], dn => dn
  | [], _ :: _, _ => none
  | p :: ps, st, dn => match stepV st dn p with
    | none => none
    | some q => go ps q.1 q.2
def valueOf (ps : List (List Nat)) : Option PyData := go ps [] none
def readV (z : List Nat) : Option PyData := match valueOf (pcs z) with
  | none => none
  | some d => if okAt 59 d && decide (vt d = z) then some d else none
/-! ### the menus -/
def menuW : List Str := ["a", "on", "zz", "entry", "abcdefghijklm"]
def menuI : List Int := [0, 1, -1, 7, -42, 999999999999, -999999999999]
def menu : List PyData := menuW.map .str ++ menuI.map .int ++ [.none]
def mv : Nat → PyData → Prop
  | 0, d => d ∈ menu
  | n + 1, d => d ∈ menu ∨ ∃ ds, d = .tuple ds ∧ ds.length ≤ 3 ∧ ∀ e ∈ ds, mv n e
def leafEq : PyData → PyData → Bool
  | .none, .none => true
  | .str a, .str b => decide (a = b)
  | .int a, .int b => decide (a = b)
  | _, _ => false
theorem leafEq_eq {a b : PyData} (h : leafEq a b = true) : a = b := by
  unfold leafEq at h
  split at h
  · rfl
  · rw [of_decide_eq_true h]
  · rw [of_decide_eq_true h]
  · cases h
def leafGood (d : PyData) : Bool := !(vt d).isEmpty && ((vt d).all fun c => !isDel c) && leafB d && !tupB d && decide ((vt d).length ≤ 13) && (match readP (vt d) with
  | some e => leafEq e d
  | none => false)
theorem menu_good : ∀ d ∈ menu, leafGood d = true := List.all_eq_true.mp (by decide +kernel)
structure Leaf (d : PyData) : Prop where
  ne : vt d ≠ []
  nd : (vt d).all (fun c => !isDel c) = true
  lf : leafB d = true
  nt : tupB d = false
  sz : (vt d).length ≤ 13
  pl : readP (vt d) = some d
theorem leaf_of {d : PyData} (h : d ∈ menu) : Leaf d := by
  have g := menu_good d h
  unfold leafGood at g
  simp only [Bool.and_eq_true] at g
  obtain ⟨⟨⟨⟨⟨h1, h2⟩, h3⟩, h4⟩, h5⟩, h6⟩ := g
  refine ⟨(fun z => by rw [z] at h1; cases h1), h2, h3, by simpa using h4, of_decide_eq_true h5, ?_⟩
  split at h6
  · rename_i e he
    rw [he, leafEq_eq h6]
  · cases h6
theorem okAt_leaf {d : PyData} (h1 : leafB d = true) (h2 : tupB d = false) : ∀ n, okAt n d = true
  | 0 => h1
  | n + 1 => by
    have e : ch d = [] := by
      cases d <;> first | rfl | cases h2
    show ((tupB d || leafB d) && (ch d).all (okAt n)) = true
    rw [h1, e, Bool.or_true]
    rfl
theorem mv_ok : ∀ (n : Nat) (d : PyData), mv n d → ∀ m, n ≤ m → okAt m d = true
  | 0, d, h, m, _ => okAt_leaf (leaf_of h).lf (leaf_of h).nt m
  | n + 1, d, h, m, hm => by
    rcases h with h | ⟨ds, rfl, _, h⟩
    · exact okAt_leaf (leaf_of h).lf (leaf_of h).nt m
    · obtain ⟨k, rfl⟩ : ∃ k, m = k + 1 := ⟨m - 1, by omega⟩
      show ((true || _) && ds.all (okAt k)) = true
      rw [Bool.true_or, Bool.true_and, List.all_eq_true]
      exact fun e he => mv_ok n e (h e he) k (by omega)
theorem stepV_leaf {d : PyData} (L : Leaf d) (st : List (List PyData)) (dn : Option PyData) : stepV st dn (vt d) = put st dn d := by
  have n : ∀ c, isDel c = true → vt d ≠ [c] := fun c hc z => by
    have h := L.nd
    rw [z] at h
    simp [hc] at h
  unfold stepV
  rw [if_neg (n 40 rfl), if_neg (n 32 rfl), if_neg (n 41 rfl), L.pl]
theorem endB_vtr (ds : List PyData) (r : List Nat) (h : endB r = true) : endB (vtr ds ++ r) = true := by
  cases ds with
  | nil => simpa [vtr] using h
  | cons d ds => simp only [vtr]; rfl
def goP (q : Option (List (List PyData) × Option PyData)) (ps : List (List Nat)) : Option PyData := match q with
  | none => none
  | some q => go ps q.1 q.2
theorem go_cons (p : List Nat) (ps : List (List Nat)) (st : List (List PyData)) (dn : Option PyData) : go (p :: ps) st dn = goP (stepV st dn p) ps := by
  show (match stepV st dn p with | none => none | some q => go ps q.1 q.2) = _
  unfold goP
  cases stepV st dn p <;> rfl
theorem go_items {ok : PyData → Prop} (ih : ∀ d, ok d → ∀ (r : List Nat) (st : List (List PyData)) (dn : Option PyData), endB r = true → go (pcs (vt d ++ r)) st dn = goP (put st dn d) (pcs r)) :
    ∀ (ds : List PyData), (∀ e ∈ ds, ok e) → ∀ (r : List Nat) (h : List PyData) (st : List (List PyData)) (dn : Option PyData), endB r = true → go (pcs (vtr ds ++ r)) (h :: st) dn = go (pcs r) ((h ++ ds) :: st) dn
  | [], _, r, h, st, dn, _ => by simp [vtr]
  | d :: ds, hd, r, h, st, dn, hr => by
    have e1 : vtr (d :: ds) ++ r = 32 :: (vt d ++ (vtr ds ++ r)) := by simp [vtr]
    rw [e1, pcs_del rfl, go_cons]
    show go (pcs (vt d ++ (vtr ds ++ r))) (h :: st) dn = _
    rw [ih d (hd d (List.mem_cons_self ..)) _ _ _ (endB_vtr ds r hr)]
    show go (pcs (vtr ds ++ r)) ((h ++ [d]) :: st) dn = _
    rw [go_items ih ds (fun e he => hd e (List.mem_cons_of_mem _ he)) r (h ++ [d]) st dn hr]
    simp
theorem go_vt : ∀ (n : Nat) (d : PyData), mv n d → ∀ (r : List Nat) (st : List (List PyData)) (dn : Option PyData), endB r = true → go (pcs (vt d ++ r)) st dn = goP (put st dn d) (pcs r)
  | 0, d, h, r, st, dn, hr => by
    rw [pcs_tok _ _ (leaf_of h).ne (leaf_of h).nd hr, go_cons, stepV_leaf (leaf_of h)]
  | n + 1, d, h, r, st, dn, hr => by
    rcases h with h | ⟨ds, rfl, _, h⟩
    · rw [pcs_tok _ _ (leaf_of h).ne (leaf_of h).nd hr, go_cons, stepV_leaf (leaf_of h)]
    · have e1 : vt (.tuple ds) ++ r = 40 :: (vts ds ++ (41 :: r)) := by simp [vt]
      rw [e1, pcs_del rfl, go_cons]
      show go (pcs (vts ds ++ (41 :: r))) ([] :: st) dn = _
      have fin : go (pcs (41 :: r)) (ds :: st) dn = goP (put st dn (.tuple ds)) (pcs r) := by
        rw [pcs_del rfl, go_cons]
        rfl
      cases ds with
      | nil => simpa [vts] using fin
      | cons d ds =>
        have e2 : vts (d :: ds) ++ (41 :: r) = vt d ++ (vtr ds ++ (41 :: r)) := by simp [vts]
        rw [e2, go_vt n d (h d (List.mem_cons_self ..)) _ _ _ (endB_vtr ds _ rfl)]
        show go (pcs (vtr ds ++ (41 :: r))) (([] ++ [d]) :: st) dn = _
        rw [go_items (ok := mv n) (go_vt n) ds (fun e he => h e (List.mem_cons_of_mem _ he)) _ _ _ _ rfl]
        exact fin
/-- what is written is read again -/
theorem read_vt {n : Nat} (hn : n ≤ 59) {d : PyData} (h : mv n d) : readV (vt d) = some d := by
  have e : valueOf (pcs (vt d)) = some d := by
    have := go_vt n d h [] [] none rfl
    rw [List.append_nil] at this
    exact this
  unfold readV
  rw [e]
  show (if (okAt 59 d && decide (vt d = vt d)) = true then some d else none) = some d
  rw [mv_ok n d h 59 hn, decide_eq_true rfl]
  rfl
theorem vt_inj {n : Nat} (hn : n ≤ 59) {d e : PyData} (h1 : mv n d) (h2 : mv n e) (h : vt d = vt e) : d = e := by
  have a := read_vt hn h1
  have b := read_vt hn h2
  rw [h, b] at a
  exact (Option.some.inj a).symm
theorem vtr_len {N : Nat} : ∀ ds : List PyData, (∀ e ∈ ds, (vt e).length ≤ N) → (vtr ds).length ≤ ds.length * (N + 1)
  | [], _ => by simp [vtr]
  | d :: ds, h => by
    have h1 := vtr_len ds fun e he => h e (List.mem_cons_of_mem _ he)
    have h2 := h d (List.mem_cons_self ..)
    simp only [vtr, List.length_cons, List.length_append]
    rw [Nat.succ_mul]
    omega
theorem vts_len {N : Nat} (ds : List PyData) (h : ∀ e ∈ ds, (vt e).length ≤ N) : (vts ds).length ≤ ds.length * (N + 1) := by
  cases ds with
  | nil => simp [vts]
  | cons d ds =>
    have h1 := vtr_len ds fun e he => h e (List.mem_cons_of_mem _ he)
    have h2 := h d (List.mem_cons_self ..)
    simp only [vts, List.length_cons, List.length_append]
    rw [Nat.succ_mul]
    omega
def tlen : Nat → Nat
  | 0 => 13
  | n + 1 => 3 * (tlen n + 1) + 15
theorem mv_len : ∀ (n : Nat) (d : PyData), mv n d → (vt d).length ≤ tlen n
  | 0, d, h => (leaf_of h).sz
  | n + 1, d, h => by
    rcases h with h | ⟨ds, rfl, hl, h⟩
    · have := (leaf_of h).sz
      show _ ≤ 3 * (tlen n + 1) + 15
      omega
    · have h1 := vts_len (N := tlen n) ds fun e he => mv_len n e (h e he)
      have h2 : ds.length * (tlen n + 1) ≤ 3 * (tlen n + 1) := Nat.mul_le_mul_right _ hl
      simp only [vt, List.length_cons, List.length_append, List.length_nil, tlen]
      omega
theorem nodesL_mul {N : Nat} : ∀ ds : List PyData, (∀ e ∈ ds, nodes e ≤ N) → nodesL ds ≤ ds.length * N
  | [], _ => by simp [nodesL]
  | d :: ds, h => by
    have h1 := nodesL_mul ds fun e he => h e (List.mem_cons_of_mem _ he)
    have h2 := h d (List.mem_cons_self ..)
    simp only [nodesL, List.length_cons]
    rw [Nat.succ_mul]
    omega
end NtP
set_option maxHeartbeats 4000000
/-! The values of an entry in the heap; is_word, is_figure, is_value. -/
namespace K88
open PySem PySem.Spec PyProof.Rows L2 LamG NtP
mutual
/-- v stands for the data d -/
inductive Dt (H : Hp) : V → PyData → Prop
  | non : Dt H .non .none
  | bl (b : Bool) : Dt H (.bl b) (.bool b)
  | int (i : Int) : Dt H (.int i) (.int i)
  | str (z : Str) : Dt H (.str z) (.str z)
  | lst {a : Addr} {xs : List V} {ds : List PyData} : H a = some (.lst xs) → DtAll H xs ds → Dt H (.ref a) (.list ds)
  | tup {a : Addr} {xs : List V} {ds : List PyData} : H a = some (.tup xs) → DtAll H xs ds → Dt H (.ref a) (.tuple ds)
inductive DtAll (H : Hp) : List V → List PyData → Prop
  | nil : DtAll H [] []
  | cons {v : V} {vs : List V} {d : PyData} {ds : List PyData} : Dt H v d → DtAll H vs ds → DtAll H (v :: vs) (d :: ds)
end
mutual
theorem Dt.same {H H' : Hp} (s : Same H H') : ∀ {d : PyData} {v : V}, Dt H v d → Dt H' v d
  | _, _, .non => .non
  | _, _, .bl b => .bl b
  | _, _, .int i => .int i
  | _, _, .str z => .str z
  | _, _, .lst h t => .lst (s _ _ h) (DtAll.same s t)
  | _, _, .tup h t => .tup (s _ _ h) (DtAll.same s t)
theorem DtAll.same {H H' : Hp} (s : Same H H') : ∀ {ds : List PyData} {vs : List V}, DtAll H vs ds → DtAll H' vs ds
  | _, _, .nil => .nil
  | _, _, .cons h t => .cons (Dt.same s h) (DtAll.same s t)
end
mutual
theorem Dt.dp {K : PySem.W.Frag} {H : Hp} : ∀ {d : PyData} {v : V}, Dt H v d → Dp K H v d
  | _, _, .non => .non
  | _, _, .bl b => .bl b
  | _, _, .int i => .int i
  | _, _, .str z => .str z
  | _, _, .lst h t => .lst (.inl (.inl h)) (DtAll.dp t)
  | _, _, .tup h t => .tup (.inl (.inl h)) (DtAll.dp t)
theorem DtAll.dp {K : PySem.W.Frag} {H : Hp} : ∀ {ds : List PyData} {vs : List V}, DtAll H vs ds → DpAll K H vs ds
  | _, _, .nil => .nil
  | _, _, .cons h t => .cons (Dt.dp h) (DtAll.dp t)
end
/-! no lists within: tuples alone must stay -/
mutual
def noL : PyData → Bool
  | .list _ => false
  | .dict _ => false
  | .tuple ds => noLs ds
  | _ => true
def noLs : List PyData → Bool
  | [] => true
  | d :: r => noL d && noLs r
end
mutual
theorem Dt.tupk {H H' : Hp} (s : TupK H H') : ∀ {d : PyData} {v : V}, Dt H v d → noL d = true → Dt H' v d
  | _, _, .non, _ => .non
  | _, _, .bl b, _ => .bl b
  | _, _, .int i, _ => .int i
  | _, _, .str z, _ => .str z
  | _, _, .lst _ _, h => by cases h
  | _, _, .tup h t, n => .tup (s _ _ h) (DtAll.tupk s t (by simpa [noL] using n))
theorem DtAll.tupk {H H' : Hp} (s : TupK H H') : ∀ {ds : List PyData} {vs : List V}, DtAll H vs ds → noLs ds = true → DtAll H' vs ds
  | _, _, .nil, _ => .nil
  | _, _, .cons h t, n => by
    simp only [noLs, Bool.and_eq_true] at n
    exact .cons (Dt.tupk s h n.1) (DtAll.tupk s t n.2)
end
theorem noLs_of {ds : List PyData} (h : ∀ d ∈ ds, noL d = true) : noLs ds = true := by
  induction ds with
  | nil => rfl
  | cons d r ih =>
    simp only [noLs, Bool.and_eq_true]
    exact ⟨h d (List.mem_cons_self ..), ih fun e he => h e (List.mem_cons_of_mem _ he)⟩
theorem noL_ok : ∀ (n : Nat) (d : PyData), okAt n d = true → noL d = true
  | 0, d, h => by
    cases d <;> first | rfl | cases h
  | n + 1, d, h => by
    cases d with
    | tuple ds =>
      have h' : ds.all (okAt n) = true := by
        have : ((true || leafB (.tuple ds)) && ds.all (okAt n)) = true := h
        simpa using this
      simp only [noL]
      exact noLs_of fun d hd => noL_ok n d (List.all_eq_true.mp h' d hd)
    | list ds => cases h
    | dict ds => cases h
    | _ => rfl
theorem DtAll.get {H : Hp} {vs : List V} {ds : List PyData} (h : DtAll H vs ds) : ∀ {i : Nat} {v : V}, vs[i]? = some v → ∃ d, ds[i]? = some d ∧ Dt H v d := by
  induction vs generalizing ds with
  | nil => intro i v e; simp at e
  | cons x xs ih =>
    intro i v e
    cases h with
    | cons hd ht =>
      cases i with
      | zero =>
        have e' : x = v := by simpa using e
        subst e'
        exact ⟨_, rfl, hd⟩
      | succ j => exact ih ht (by simpa using e)
theorem DtAll.len {H : Hp} {vs : List V} {ds : List PyData} (h : DtAll H vs ds) : vs.length = ds.length := by
  induction vs generalizing ds with
  | nil => cases h; rfl
  | cons x xs ih =>
    cases h with
    | cons hd ht => simp [ih ht]
theorem DtAll.app {H : Hp} {vs us : List V} {ds es : List PyData} (h : DtAll H vs ds) (g : DtAll H us es) : DtAll H (vs ++ us) (ds ++ es) := by
  induction vs generalizing ds with
  | nil => cases h; exact g
  | cons x xs ih =>
    cases h with
    | cons hd ht => exact .cons hd (ih ht)
/-! ### types -/
def tyN : PyData → String
  | .none => "NoneType"
  | .bool _ => "bool"
  | .int _ => "int"
  | .str _ => "str"
  | .list _ => "list"
  | .tuple _ => "tuple"
  | .dict _ => "dict"
theorem Dt.ty {K : PySem.W.Frag} {H : Hp} {v : V} {d : PyData} (h : Dt H v d) : TyX K H v (.type (tyN d)) := by
  cases h with
  | non => exact .base .non
  | bl b => exact .base (.bl b)
  | int i => exact .base (.int i)
  | str z => exact .base (.str z)
  | lst e _ => exact .base (.lst e)
  | tup e _ => exact .base (.tup e)
def isStr : PyData → Bool
  | .str _ => true
  | _ => false
def isInt : PyData → Bool
  | .int _ => true
  | .bool _ => true
  | _ => false
def isBool : PyData → Bool
  | .bool _ => true
  | _ => false
def isLst : PyData → Bool
  | .list _ => true
  | _ => false
def isDct : PyData → Bool
  | .dict _ => true
  | _ => false
theorem kit_str {K : PySem.W.Frag} (d : PyData) : PySem.W.kitOne K (.type (tyN d)) (.type "str") = some (isStr d) := by
  refine kit_ty ?_
  cases d <;> (dsimp only [tyN, isStr]; decide +kernel)
theorem kit_int {K : PySem.W.Frag} (d : PyData) : PySem.W.kitOne K (.type (tyN d)) (.type "int") = some (isInt d) := by
  refine kit_ty ?_
  cases d <;> (dsimp only [tyN, isInt]; decide +kernel)
theorem kit_bool {K : PySem.W.Frag} (d : PyData) : PySem.W.kitOne K (.type (tyN d)) (.type "bool") = some (isBool d) := by
  refine kit_ty ?_
  cases d <;> (dsimp only [tyN, isBool]; decide +kernel)
theorem kit_tuple {K : PySem.W.Frag} (d : PyData) : PySem.W.kitOne K (.type (tyN d)) (.type "tuple") = some (tupB d) := by
  refine kit_ty ?_
  cases d <;> (dsimp only [tyN, tupB]; decide +kernel)
theorem kit_list {K : PySem.W.Frag} (d : PyData) : PySem.W.kitOne K (.type (tyN d)) (.type "list") = some (isLst d) := by
  refine kit_ty ?_
  cases d <;> (dsimp only [tyN, isLst]; decide +kernel)
theorem kit_dict {K : PySem.W.Frag} (d : PyData) : PySem.W.kitOne K (.type (tyN d)) (.type "dict") = some (isDct d) := by
  refine kit_ty ?_
  cases d <;> (dsimp only [tyN, isDct]; decide +kernel)
/-- a written instance: isinstance(x, T), x in slot i -/
theorem Same.new {H H' : Hp} {p : Addr} {o : HO} (s : Same H H') (hp : H p = none) : Same H (upd H' p o) := fun b u e => by
  rw [upd_ne (ne_of_none e hp)]
  exact s b u e
theorem Same.free' {H H' : Hp} (s : Same H H') {p : Addr} (hp : H' p = none) : H p = none := by
  cases q : H p with
  | none => rfl
  | some o =>
    rw [s p o q] at hp
    cases hp
abbrev FnP (K : PySem.W.Frag) (x : Str) (st : Stmt) (f : Addr) (fd : FuncData) : Prop := FunD K x x (defArgs st) (defBody st) (defScope st) [] [] f fd
/-- the built-ins that the program reads are the built-ins -/
structure Blt (mg : Str → Option Value) : Prop where
  isi : mg "isinstance" = none
  all : mg "all" = none
  abs : mg "abs" = none
  str : mg "str" = none
  int : mg "int" = none
  bool : mg "bool" = none
  tuple : mg "tuple" = none
  list : mg "list" = none
  dict : mg "dict" = none
  len : mg "len" = none
  range : mg "range" = none
  enum : mg "enumerate" = none
  rev : mg "reversed" = none
  repr : mg "repr" = none
  min : mg "min" = none
theorem yesT {σ : L2.St} {H : Hp} {A B : Hp → Prop} (h : A H) : tYes σ H fun b H3 => if b = true then A H3 else B H3 := by
  show if true = true then A H else B H
  rw [if_pos rfl]
  exact h
/-! ### is_word -/
abbrev sIsWord : Stmt := top 23
def spIsWord : Sp := fun vs H Q _ => ∃ (v : V) (d : PyData), vs = [v] ∧ Dt H v d ∧ (∀ z, d = .str z → z.length ≤ 100000) ∧ ∀ H', Same H H' → Q (.bl (isWord d)) H'
theorem scIsWord : FnScope ["thing", "sign"] ["thing"] (defScope sIsWord) := ⟨rfl, rfl, rfl, by decide +kernel, rfl, by decide +kernel, by decide +kernel⟩
section
variable {P : Program} {w : World} {K : PySem.W.Frag} {mg : Str → Option Value} {base : Heap} {f : Addr} {fd : FuncData}
theorem boot_str : bootBuiltins "str" = some (.type "str") := by decide +kernel
theorem ok_isWord (F : FnP K "is_word" sIsWord f fd) (B : Blt mg) (gS : ∃ t, mg "SMALL" = some (.str smalls t)) : FnOk P w K mg base CX0 1 f fd ["thing"] spIsWord := by
  obtain ⟨ts, gS⟩ := gS
  refine F.ok scIsWord (fun vs H Q E h => ?_) (fun cdv A outer s H vs Q E hr h => ⟨_, PSs.nox
    (pss_one (ps_ret (pe_and (pe_callB call_isi (by rfl) B.isi PyProof.Rows.boot_isinstance (pa_cons (pv 0) (pa_cons (pe_bltn (v := .ty "str") (by rfl) B.str boot_str rfl) pa_nil)))
      (pe_and (pe_cmpR op_ne (pv 0) pe_str (nomark _))
      (pe_one (pe_callB (cr_all rfl) (by rfl) B.all (by decide +kernel) (pa_cons (pe_lc (own := [("sign", 1)]) (g := gName 1) (tt := tYes) rfl scIsWord.nd (pi_str (pv 0))
        (blkOk_by (N := ["thing", "sign"]) (sc := defScope sIsWord) (by decide +kernel)) (fun _ _ _ _ _ => pg_name (i := 1) scIsWord.nd rfl (Or.inl rfl)) (fun _ _ _ _ _ => pts_nil)
        (fun _ _ _ _ _ => pe_cmpR op_in_sign (pv 1) (pe_glob (v := .str smalls) (by rfl) gS ⟨_, rfl⟩) rfl)) pa_nil))))))), ?_⟩)
  · obtain ⟨v, d, rfl, _⟩ := h
    rfl
  · obtain ⟨v, d, rfl, hd, hz, hq⟩ := h
    refine ⟨v, rfl, v, .ty "str", _, .type "str", _, rfl, .ty _, hd.ty, kit_str d, _, rfl, ?_⟩
    cases d with
    | str z =>
      cases hd
      refine ifT rfl ⟨.str z, rfl, rfl, _, rfl, ?_⟩
      have hzl := hz z rfl
      by_cases he : z = ("" : Str)
      · have e1 : (!decide (V.str z = V.str ("" : Str))) = false := by rw [he]; rfl
        refine ifF e1 ?_
        have := hq H (Same.refl H)
        have e2 : isWord (.str z) = false := by simp [isWord, wordT, he]
        rw [e2] at this
        exact this
      · have e1 : (!decide (V.str z = V.str ("" : Str))) = true := by
          rw [decide_eq_false (fun e => he (by injection e))]
          rfl
        refine ifT e1 ⟨.str z, rfl, z, rfl, fun D hD => lc_it walk_str (fun i H' => ∃ acc : List Bool, Same H H' ∧ H' D = some (.lst (acc.map V.bl)) ∧ acc = (z.cps.toList.take i).map isLow) ⟨[], Same.new (Same.refl H) hD, upd_same, rfl⟩ (fun _ _ _ _ => trivial) (fun i x H1 H2 hi ⟨acc, s1, e, ea⟩ hy => ?_) (fun H1 ⟨acc, s1, e, ea⟩ => ?_)⟩
        · obtain ⟨rfl, c, hc, rfl⟩ := hy
          refine ⟨rfl, yesT ⟨.str ⟨#[c]⟩, rfl, c, smalls, rfl, rfl, acc.map V.bl, e, ?_, acc ++ [isLow c], ?_, ?_, ?_⟩⟩
          · have hs : sizeLine = 16777216 := sizeLine_eq
            have h1 : acc.length ≤ z.cps.toList.length := by rw [ea]; simp; omega
            have h2 : z.cps.toList.length = z.length := Array.length_toList
            rw [List.length_map]
            omega
          · exact Same.new s1 hD
          · rw [upd_same, List.map_append]
            rfl
          · have h3 : z.cps.toList[i]? = some c := by simpa using hc
            have h4 : z.cps.toList.take (i + 1) = z.cps.toList.take i ++ [c] := by
              rw [List.take_succ, h3]
              rfl
            rw [h4, List.map_append, ea]
            rfl
        · refine ⟨D, acc, rfl, .inl (.inl e), ?_⟩
          have e2 : isWord (.str z) = acc.all id := by
            rw [ea]
            show (!decide (z = ("" : Str)) && z.cps.toList.all isLow) = _
            rw [decide_eq_false he]
            have h5 : z.cps.size = z.cps.toList.length := Array.length_toList.symm
            rw [h5, List.take_length, List.all_map]
            simp [Function.comp_def]
          have := hq H1 s1
          rw [e2] at this
          exact this
    | _ => exact ifF rfl (hq H (Same.refl H))
end
end K88
set_option maxHeartbeats 4000000
/-! is_figure, is_value. -/
namespace K88
open PySem PySem.Spec PyProof.Rows L2 LamG NtP
/-- the module's constants -/
structure Cn (mg : Str → Option Value) : Prop where
  small : ∃ t, mg "SMALL" = some (.str smalls t)
  figs : ∃ t, mg "FIGURES" = some (.str figs t)
  deep : ∃ t, mg "MOST_DEEP" = some (.int 60 t)
  few : ∃ t, mg "MOST_FIGURES" = some (.int 12 t)
  num : ∃ t, mg "MOST_NUMBER" = some (.int 1000000000000 t)
abbrev sIsFig : Stmt := top 24
abbrev sIsVal : Stmt := top 25
def spIsFig : Sp := fun vs H Q _ => ∃ (v : V) (d : PyData), vs = [v] ∧ Dt H v d ∧ ∀ H', Same H H' → Q (.bl (isFig d)) H'
theorem scIsFig : FnScope ["thing"] ["thing"] (defScope sIsFig) := ⟨rfl, rfl, rfl, by decide +kernel, rfl, by decide +kernel, by decide +kernel⟩
theorem scIsVal : FnScope ["thing", "layer", "deep", "later", "one"] ["thing"] (defScope sIsVal) := ⟨rfl, rfl, rfl, by decide +kernel, rfl, by decide +kernel, by decide +kernel⟩
theorem boot_int : bootBuiltins "int" = some (.type "int") := by decide +kernel
theorem boot_bool : bootBuiltins "bool" = some (.type "bool") := by decide +kernel
theorem boot_tuple : bootBuiltins "tuple" = some (.type "tuple") := by decide +kernel
theorem boot_list : bootBuiltins "list" = some (.type "list") := by decide +kernel
theorem boot_dict : bootBuiltins "dict" = some (.type "dict") := by decide +kernel
section
variable {P : Program} {w : World} {K : PySem.W.Frag} {mg : Str → Option Value} {base : Heap} {f fW fF : Addr} {fd fdW fdF : FuncData}
theorem ok_isFig (F : FnP K "is_figure" sIsFig f fd) (B : Blt mg) (C : Cn mg) : FnOk P w K mg base CX0 1 f fd ["thing"] spIsFig := by
  obtain ⟨ts, gN⟩ := C.num
  refine F.ok scIsFig (fun vs H Q E h => ?_) (fun cdv A outer s H vs Q E hr h => ⟨_, PSs.nox
    (pss_one (ps_ret (pe_and (pe_callB call_isi (by rfl) B.isi PyProof.Rows.boot_isinstance (pa_cons (pv 0) (pa_cons (pe_bltn (v := .ty "int") (by rfl) B.int boot_int rfl) pa_nil)))
      (pe_and (pe_not (pe_callB call_isi (by rfl) B.isi PyProof.Rows.boot_isinstance (pa_cons (pv 0) (pa_cons (pe_bltn (v := .ty "bool") (by rfl) B.bool boot_bool rfl) pa_nil))))
      (pe_one (pe_cmpR op_lt (pe_callB call_abs (by rfl) B.abs (by decide +kernel) (pa_cons (pv 0) pa_nil)) (pe_glob (v := .int 1000000000000) (by rfl) gN ⟨_, rfl⟩) (nomark _))))))), ?_⟩)
  · obtain ⟨v, d, rfl, _⟩ := h
    rfl
  · obtain ⟨v, d, rfl, hd, hq⟩ := h
    refine ⟨v, rfl, v, .ty "int", _, .type "int", _, rfl, .ty _, hd.ty, kit_int d, _, rfl, ?_⟩
    have hq' := hq H (Same.refl H)
    cases d with
    | int i =>
      cases hd
      refine ifT rfl ⟨.int i, rfl, .int i, .ty "bool", _, .type "bool", _, rfl, .ty _, (Dt.int i).ty, kit_bool (.int i), _, rfl, _, rfl, ifT rfl ?_⟩
      exact ⟨.int i, rfl, i, rfl, _, _, rfl, rfl, hq'⟩
    | bool b =>
      cases hd
      exact ifT rfl ⟨.bl b, rfl, .bl b, .ty "bool", _, .type "bool", _, rfl, .ty _, (Dt.bl b).ty, kit_bool (.bool b), _, rfl, _, rfl, ifF rfl hq'⟩
    | _ => exact ifF rfl hq'
end
/-! ### is_value: the layers -/
mutual
def short : PyData → Bool
  | .str z => decide (z.length ≤ 100000)
  | .tuple ds => shorts ds
  | _ => true
def shorts : List PyData → Bool
  | [] => true
  | d :: r => short d && shorts r
end
def chI (i : Nat) (e : PyData) : List PyData := if i < 59 then ch e else []
def condI (i : Nat) (e : PyData) : Bool := (tupB e && decide (i < 59)) || leafB e
theorem okAt_split {i : Nat} (hi : i ≤ 59) (e : PyData) : okAt (59 - i) e = (condI i e && (chI i e).all (okAt (58 - i))) := by
  by_cases h : i < 59
  · have e1 : 59 - i = (58 - i) + 1 := by omega
    rw [e1]
    unfold condI chI
    rw [decide_eq_true h, Bool.and_true, if_pos h]
    rfl
  · have e1 : i = 59 := by omega
    subst e1
    show leafB e = ((tupB e && false || leafB e) && [].all _)
    rw [Bool.and_false, Bool.false_or]
    simp
theorem all_split {i : Nat} (hi : i ≤ 59) : ∀ L : List PyData, L.all (okAt (59 - i)) = (L.all (condI i) && (L.flatMap (chI i)).all (okAt (58 - i)))
  | [] => rfl
  | e :: L => by
    rw [List.all_cons, List.all_cons, List.flatMap_cons, List.all_append, okAt_split hi e, all_split hi L]
    cases condI i e <;> cases (chI i e).all (okAt (58 - i)) <;> simp
theorem len_nodes : ∀ L : List PyData, L.length ≤ nodesL L
  | [] => Nat.le_refl _
  | d :: L => by
    have h := len_nodes L
    have h1 : 1 ≤ nodes d := by cases d <;> simp [nodes]
    simp only [List.length_cons, nodesL]
    omega
theorem nodesL_app : ∀ a b : List PyData, nodesL (a ++ b) = nodesL a + nodesL b
  | [], b => by simp [nodesL]
  | d :: a, b => by
    simp only [List.cons_append, nodesL]
    rw [nodesL_app a b]
    omega
theorem nodesL_ch (i : Nat) (d : PyData) : nodesL (chI i d) ≤ nodes d := by
  unfold chI
  split
  · cases d <;> simp [ch, nodes, nodesL]
  · simp [nodesL]
theorem nodesL_flat (i : Nat) : ∀ L : List PyData, nodesL (L.flatMap (chI i)) ≤ nodesL L
  | [] => Nat.le_refl _
  | d :: L => by
    rw [List.flatMap_cons, nodesL_app]
    have h1 := nodesL_ch i d
    have h2 := nodesL_flat i L
    simp only [nodesL]
    omega
theorem nodesL_take (L : List PyData) (j : Nat) : nodesL (L.take j) ≤ nodesL L := by
  have h := nodesL_app (L.take j) (L.drop j)
  rw [List.take_append_drop] at h
  omega
theorem shorts_mem : ∀ {L : List PyData}, shorts L = true → ∀ e ∈ L, short e = true
  | d :: L, h, e, he => by
    simp only [shorts, Bool.and_eq_true] at h
    rcases List.mem_cons.mp he with rfl | he
    · exact h.1
    · exact shorts_mem h.2 e he
theorem shorts_of : ∀ {L : List PyData}, (∀ e ∈ L, short e = true) → shorts L = true
  | [], _ => rfl
  | d :: L, h => by
    simp only [shorts, Bool.and_eq_true]
    exact ⟨h d (List.mem_cons_self ..), shorts_of fun e he => h e (List.mem_cons_of_mem _ he)⟩
theorem shorts_flat (i : Nat) {L : List PyData} (h : shorts L = true) : shorts (L.flatMap (chI i)) = true := by
  refine shorts_of fun e he => ?_
  obtain ⟨d, hd, hc⟩ := List.mem_flatMap.mp he
  have h1 := shorts_mem h d hd
  unfold chI at hc
  split at hc
  · cases d with
    | tuple ds =>
      have h2 : shorts ds = true := by simpa [short] using h1
      exact shorts_mem h2 e hc
    | _ => simp [ch] at hc
  · simp at hc
theorem take_next {α : Type} {l : List α} {i : Nat} {x : α} (h : l[i]? = some x) : l.take (i + 1) = l.take i ++ [x] := by
  rw [List.take_succ, h]
  rfl
def spIsVal : Sp := fun vs H Q _ => ∃ (v : V) (d : PyData), vs = [v] ∧ Dt H v d ∧ nodes d ≤ 100000 ∧ short d = true ∧ ∀ H', Same H H' → Q (.bl (okAt 59 d)) H'
section
variable {P : Program} {w : World} {K : PySem.W.Frag} {mg : Str → Option Value} {base : Heap} {f fW fF : Addr} {fd fdW fdF : FuncData}
theorem ok_isVal (F : FnP K "is_value" sIsVal f fd) (FW : FnP K "is_word" sIsWord fW fdW) (FF : FnP K "is_figure" sIsFig fF fdF) (gW : mg "is_word" = some (.ref fW)) (gF : mg "is_figure" = some (.ref fF)) (B : Blt mg) (C : Cn mg) : FnOk P w K mg base CX0 2 f fd ["thing"] spIsVal := by
  obtain ⟨ts, gD⟩ := C.deep
  have GW : FnOk P w K mg base CX0 1 fW fdW ["thing"] spIsWord := ok_isWord FW B C.small
  have GF : FnOk P w K mg base CX0 1 fF fdF ["thing"] spIsFig := ok_isFig FF B C
  have bW : Binds K fdW ["thing"] [] := FW.bindsN fun _ _ _ _ _ _ us hl => match us, hl with | [_], _ => rfl
  have bF : Binds K fdF ["thing"] [] := FF.bindsN fun _ _ _ _ _ _ us hl => match us, hl with | [_], _ => rfl
  have nd := scIsVal.nd
  refine F.ok scIsVal (fun vs H Q E h => ?_) (fun cdv A outer s H vs Q E hr h => ⟨_, PSs.nox
    (pss_cons (ps_set (i := 1) nd rfl (.inl rfl) (pe_lst (pa_cons (pv 0) pa_nil)))
    (pss_cons (ps_for PassesOwn.never rfl (pi_range1 (by rfl) B.range (pa_cons (pe_glob (v := .int 60) (by rfl) gD ⟨_, rfl⟩) pa_nil)) (pg_name (i := 2) nd rfl (.inl rfl))
      (pss_cons (ps_set (i := 3) nd rfl (.inl rfl) (pe_lst pa_nil))
      (pss_cons (ps_for PassesOwn.never rfl (pi_list (pv 1)) (pg_name (i := 4) nd rfl (.inl rfl))
        (pss_one (ps_if (PW.pt (pw_and (pt_val (pe_callB call_isi (by rfl) B.isi PyProof.Rows.boot_isinstance (pa_cons (pv 4) (pa_cons (pe_bltn (v := .ty "tuple") (by rfl) B.tuple boot_tuple rfl) pa_nil))))
            (pw_and1 (pt_cmpR op_lt (pv 2) (pe_op op_sub (pe_glob (v := .int 60) (by rfl) gD ⟨_, rfl⟩) pe_int) (nomark _)))))
          (pss_one (ps_expr (pe_bm PySem.F.plainAttrs_list PySem.F.slot_list_extend PySem.F.type_list_extend mt_extendT (pv 3) (pa_cons (pv 4) pa_nil))))
          (pss_one (ps_if (PW.pt (pw_and (pt_cmpR op_notN (pv 4) pe_non (nomark _)) (pw_and (pt_not (pt_val (pe_call GW hr (by rfl) gW FW.kp bW .nil pass0 (pa_cons (pv 4) pa_nil)))) (pw_and1 (pt_not (pt_val (pe_call GF hr (by rfl) gF FF.kp bF .nil pass0 (pa_cons (pv 4) pa_nil))))))))
            (pss_one (ps_ret pe_bl)) pss_nil)))))
      (pss_cons (ps_if (pt_cmpR (op_eqNil (Nat.lt_of_succ_lt (hu_of hr))) (pv 3) (pe_lst pa_nil) (nomark _)) (pss_one (ps_ret pe_bl)) pss_nil)
      (pss_one (ps_set (i := 1) nd rfl (.inl rfl) (pv 3)))))))
    (pss_one (ps_ret pe_bl)))), ?_⟩)
  · obtain ⟨v, d, rfl, _⟩ := h
    rfl
  · obtain ⟨v, d, rfl, hd, hn, hsh, hq⟩ := h
    have hsl : sizeLine = 16777216 := sizeLine_eq
    refine ⟨v, rfl, (by show 1 ≤ sizeLine; decide), fun p hp => ⟨60, rfl, by decide, by decide, for_range (lo := 0) (n := 60) (fun i σ H' => i ≤ 59 ∧ ∃ (p : Addr) (xs : List V) (L : List PyData) (a b c : Option V), σ = [some v, some (.ref p), a, b, c] ∧ Same H H' ∧ H p = none ∧ H' p = some (.lst xs) ∧ DtAll H xs L ∧ nodesL L ≤ 100000 ∧ shorts L = true ∧ okAt 59 d = L.all (okAt (59 - i)))
      ⟨by decide, p, [v], [d], none, none, none, rfl, Same.new (Same.refl H) hp, hp, upd_same, .cons hd .nil, by simp [nodesL]; exact hn, by simp [shorts, hsh], by simp⟩ (fun i σ H1 hi60 hP => ?_) (fun σ H' h => absurd h.1 (by decide))⟩⟩
    obtain ⟨hi, p, xs, L, sa, sb, sc, rfl, s1, hpn, hpx, hL, hnl, hshl, hok⟩ := hP
    refine ⟨by decide, fun q hq0 => ?_⟩
    have hqn : H q = none := Same.free s1 hq0
    have hqp : p ≠ q := ne_of_none hpx hq0
    refine ⟨.ref p, rfl, p, rfl, ⟨xs, .inl (.inl ((upd_ne hqp).trans hpx))⟩, for_list (K := K) (a := p) (xs := xs) (fun j σ H' => ∃ (ys : List V) (o : Option V), σ = [some v, some (.ref p), some (.int ((0 : Int) + (i : Nat))), some (.ref q), o] ∧ Same H H' ∧ H' p = some (.lst xs) ∧ H' q = some (.lst ys) ∧ DtAll H ys ((L.take j).flatMap (chI i)) ∧ (L.take j).all (condI i) = true)
      ⟨[], sc, rfl, Same.new s1 hqn, (upd_ne hqp).trans hpx, upd_same, by simpa using DtAll.nil, by simp⟩ (fun j σ H' _ h => .inl (.inl h.choose_spec.choose_spec.2.2.1)) (fun j x σ H2 hx hP => ?_) (fun σ H2 hP => ?_)⟩
    · obtain ⟨ys, o, rfl, s2, hp2, hq2, hys, hall⟩ := hP
      obtain ⟨e, he, hde⟩ := hL.get hx
      have hde2 : Dt H2 x e := hde.same s2
      have hsh1 : short e = true := shorts_mem hshl e (List.mem_of_getElem? he)
      have htk : L.take (j + 1) = L.take j ++ [e] := take_next he
      have hfl : (L.take (j + 1)).flatMap (chI i) = (L.take j).flatMap (chI i) ++ chI i e := by rw [htk, List.flatMap_append]; simp
      have hal : (L.take (j + 1)).all (condI i) = ((L.take j).all (condI i) && condI i e) := by rw [htk, List.all_append]; simp
      -- the elif
      have other : (tupB e && decide (i < 59)) = false → ∀ D : Ends, (∀ σ' H', σ' = [some v, some (.ref p), some (.int ((0 : Int) + (i : Nat))), some (.ref q), some x] → Same H2 H' → leafB e = true → D.nx σ' H') → (∀ H', Same H2 H' → leafB e = false → D.rt (.bl false) H') →
          tIfS (tAnd (tTest (tOp (fun x y H Q => y = V.non ∧ Q (V.bl (!decide (x = V.non))) H) (tVar 4) (tC .non))) (tAnd (tNot (tB (tCall spIsWord [] E0 (tCons (tVar 4) tNil)))) (tNot (tB (tCall spIsFig [] E0 (tCons (tVar 4) tNil)))))) (tRet (tC (.bl false))) tNext D [some v, some (.ref p), some (.int ((0 : Int) + (i : Nat))), some (.ref q), some x] H2 := by
        intro _ D hnx hrt
        by_cases hnon : x = V.non
        · subst hnon
          have en : e = .none := by cases hde; rfl
          refine ⟨.non, rfl, rfl, _, rfl, ifF (by simp) ?_⟩
          exact hnx _ _ rfl (Same.refl _) (by rw [en]; rfl)
        · have en : isNon e = false := by
            cases e with
            | none => cases hde; exact absurd rfl hnon
            | _ => rfl
          refine ⟨x, rfl, rfl, _, rfl, ifT (by rw [decide_eq_false hnon]; rfl) ?_⟩
          refine ⟨x, rfl, x, e, rfl, hde2, (fun z hz => ?_), fun H3 s3 => ⟨_, rfl, ?_⟩⟩
          · rw [hz] at hsh1
            exact of_decide_eq_true hsh1
          cases hw : isWord e with
          | true => exact hnx _ _ rfl s3 (by unfold leafB; rw [hw, Bool.or_true, Bool.true_or])
          | false =>
            refine ifT rfl ⟨x, rfl, x, e, rfl, hde2.same s3, fun H4 s4 => ⟨_, rfl, ?_⟩⟩
            cases hf : isFig e with
            | true => exact hnx _ _ rfl (s3.trans s4) (by unfold leafB; rw [hf, Bool.or_true])
            | false => exact hrt _ (s3.trans s4) (by unfold leafB; rw [hw, hf, en]; rfl)
      refine ⟨x, rfl, x, .ty "tuple", _, .type "tuple", _, rfl, .ty _, hde2.ty, kit_tuple e, _, rfl, ?_⟩
      have keep : ∀ σ' H', σ' = [some v, some (.ref p), some (.int ((0 : Int) + (i : Nat))), some (.ref q), some x] → Same H2 H' → chI i e = [] → condI i e = true →
          ∃ (ys : List V) (o : Option V), σ' = [some v, some (.ref p), some (.int ((0 : Int) + (i : Nat))), some (.ref q), o] ∧ Same H H' ∧ H' p = some (.lst xs) ∧ H' q = some (.lst ys) ∧ DtAll H ys ((L.take (j + 1)).flatMap (chI i)) ∧ (L.take (j + 1)).all (condI i) = true := fun σ' H' e1 s3 e2 e3 =>
        ⟨ys, _, e1, Same.trans s2 s3, s3 _ _ hp2, s3 _ _ hq2, by rw [hfl, e2, List.append_nil]; exact hys, by rw [hal, hall, e3]; rfl⟩
      have gone : ∀ H', Same H2 H' → condI i e = false → Q (.bl false) H' := fun H' s3 e3 => by
        have h1 : L.all (okAt (59 - i)) = false := by
          rw [all_split hi L]
          have h2 : L.all (condI i) = false := by
            rw [List.all_eq_false]
            exact ⟨e, List.mem_of_getElem? he, by rw [e3]; simp⟩
          rw [h2, Bool.false_and]
        have := hq H' (Same.trans s2 s3)
        rw [hok, h1] at this
        exact this
      by_cases ht : (tupB e && decide (i < 59)) = true
      · have ht1 : tupB e = true := by rw [Bool.and_eq_true] at ht; exact ht.1
        have ht2 : i < 59 := by rw [Bool.and_eq_true] at ht; exact of_decide_eq_true ht.2
        cases e with
        | tuple ds =>
          cases hde with
          | tup ha hds =>
            rename_i a zs
            refine ifT rfl ⟨_, rfl, _, _, rfl, rfl, _, _, rfl, rfl, _, rfl, ifT (decide_eq_true (by show (0 : Int) + (i : Nat) < 60 - 1; omega)) ?_⟩
            have ech : chI i (.tuple ds) = ds := by unfold chI; rw [if_pos ht2]; rfl
            refine ⟨.ref q, rfl, .inl ⟨rfl, _, .inl (.inl hq2)⟩, .ref a, rfl, q, a, ys, zs, rfl, rfl, hq2, .inl (.inl (s2 _ _ ha)), ?_, ?_⟩
            · have h1 := hys.len
              have h2 := hds.len
              have h3 := len_nodes ((L.take (j + 1)).flatMap (chI i))
              have h4 := Nat.le_trans (nodesL_flat i (L.take (j + 1))) (nodesL_take L (j + 1))
              rw [hfl, ech, List.length_append] at h3
              rw [hfl, ech] at h4
              omega
            · exact ⟨ys ++ zs, _, rfl, Same.new s2 hqn, (upd_ne hqp).trans hp2, upd_same, by rw [hfl, ech]; exact hys.app hds, by rw [hal, hall]; unfold condI; rw [ht]; rfl⟩
        | _ => cases ht1
      · have ht' : (tupB e && decide (i < 59)) = false := by simpa using ht
        have k1 := (fun σ' H' (e1 : σ' = [some v, some (.ref p), some (.int ((0 : Int) + (i : Nat))), some (.ref q), some x]) (s3 : Same H2 H') (e2 : leafB e = true) => keep σ' H' e1 s3 (by
          unfold chI
          split
          · rename_i h59
            cases e with
            | tuple ds => rw [decide_eq_true h59] at ht'; cases ht'
            | _ => rfl
          · rfl) (by unfold condI; rw [e2, Bool.or_true]))
        have k2 := (fun H' (s3 : Same H2 H') (e2 : leafB e = false) => gone H' s3 (by unfold condI; rw [ht', e2]; rfl))
        cases ht1 : tupB e with
        | false => exact ifF rfl (other ht' _ k1 k2)
        | true =>
          have h59 : ¬ i < 59 := fun z => by rw [ht1, decide_eq_true z] at ht'; cases ht'
          refine ifT rfl ⟨_, rfl, _, _, rfl, rfl, _, _, rfl, rfl, _, rfl, ifF (decide_eq_false (by show ¬ (0 : Int) + (i : Nat) < 60 - 1; omega)) ?_⟩
          exact other ht' _ k1 k2
    · obtain ⟨ys, o, rfl, s2, hp2, hq2, hys, hall⟩ := hP
      have hxl : xs.length = L.length := hL.len
      rw [hxl, List.take_length] at hys hall
      refine ⟨.ref q, rfl, by decide, fun b hb => ⟨q, b, ys, rfl, rfl, .inl (.inl ((upd_ne (ne_of_none hq2 hb)).trans hq2)), .inl (.inl upd_same), _, rfl, ?_⟩⟩
      have sp := all_split hi L
      rw [hall, Bool.true_and] at sp
      cases ys with
      | nil =>
        cases hfm : L.flatMap (chI i) with
        | nil =>
          rw [hfm] at sp
          have hok2 : okAt 59 d = true := by rw [hok, sp]; rfl
          have := hq (upd H2 b (.lst [])) (Same.new s2 (Same.free s2 hb))
          rw [hok2] at this
          exact this
        | cons a r => rw [hfm] at hys; cases hys
      | cons y ys' =>
        have hi58 : i < 59 := by
          by_cases h : i < 59
          · exact h
          · have hz : L.flatMap (chI i) = [] := by
              rw [List.flatMap_eq_nil_iff]
              intro e _
              unfold chI
              rw [if_neg h]
            rw [hz] at hys
            cases hys
        refine ⟨.ref q, rfl, ⟨by omega, q, y :: ys', L.flatMap (chI i), _, _, _, rfl, Same.new s2 (Same.free s2 hb), hqn, (upd_ne (ne_of_none hq2 hb)).trans hq2, hys, Nat.le_trans (nodesL_flat i L) hnl, shorts_flat i hshl, ?_⟩⟩
        rw [hok, sp]
        have e1 : 59 - (i + 1) = 58 - i := by omega
        rw [e1]
end
end K88
set_option maxHeartbeats 4000000
/-! value_text. -/
namespace K88
open PySem PySem.Spec PyProof.Rows L2 LamG NtP
/-! ### what is still to be written -/
inductive Wk where
  | mk (c : Nat)
  | va (d : PyData)
def wkT : Wk → List Nat
  | .mk c => [c]
  | .va d => vt d
mutual
def wt : PyData → Nat
  | .tuple ds => 3 + wtL ds
  | _ => 1
def wtL : List PyData → Nat
  | [] => 0
  | d :: r => 1 + (wt d + wtL r)
end
def wkN : Wk → Nat
  | .mk _ => 1
  | .va d => wt d
def wksN : List Wk → Nat
  | [] => 0
  | a :: r => wkN a + wksN r
def wksT : List Wk → List Nat
  | [] => []
  | a :: r => wkT a ++ wksT r
theorem wksN_app : ∀ a b : List Wk, wksN (a ++ b) = wksN a + wksN b
  | [], b => by simp [wksN]
  | x :: a, b => by
    simp only [List.cons_append, wksN]
    rw [wksN_app a b]
    omega
theorem wksT_app : ∀ a b : List Wk, wksT (a ++ b) = wksT a ++ wksT b
  | [], b => rfl
  | x :: a, b => by
    simp only [List.cons_append, wksT]
    rw [wksT_app a b, List.append_assoc]
theorem wt_pos (d : PyData) : 1 ≤ wt d := by cases d <;> simp [wt] <;> omega
theorem len_wks : ∀ a : List Wk, a.length ≤ wksN a
  | [] => Nat.le_refl _
  | x :: a => by
    have h := len_wks a
    have h1 : 1 ≤ wkN x := by
      cases x with
      | mk c => exact Nat.le_refl _
      | va d => exact wt_pos d
    simp only [List.length_cons, wksN]
    omega
mutual
theorem wt_nodes : ∀ d : PyData, wt d + 1 ≤ 4 * nodes d
  | .tuple ds => by
    have h := wtL_nodes ds
    simp only [wt, nodes]
    omega
  | .none => by simp [wt, nodes]
  | .bool _ => by simp [wt, nodes]
  | .int _ => by simp [wt, nodes]
  | .str _ => by simp [wt, nodes]
  | .list ds => by simp [wt, nodes]; omega
  | .dict _ => by simp [wt, nodes]
theorem wtL_nodes : ∀ ds : List PyData, wtL ds ≤ 4 * nodesL ds
  | [] => by simp [wtL]
  | d :: r => by
    have h1 := wt_nodes d
    have h2 := wtL_nodes r
    simp only [wtL, nodesL]
    omega
end
def expR : List PyData → List Wk
  | [] => []
  | d :: r => .mk 32 :: .va d :: expR r
def expd : List PyData → List Wk
  | [] => []
  | d :: r => .va d :: expR r
theorem expR_T : ∀ ds : List PyData, wksT (expR ds) = vtr ds
  | [] => rfl
  | d :: r => by
    simp only [expR, wksT, wkT, vtr]
    rw [expR_T r]
    simp
theorem expd_T (ds : List PyData) : wksT (expd ds) = vts ds := by
  cases ds with
  | nil => rfl
  | cons d r =>
    simp only [expd, wksT, wkT, vts]
    rw [expR_T r]
theorem expR_N : ∀ ds : List PyData, wksN (expR ds) = wtL ds
  | [] => rfl
  | d :: r => by
    simp only [expR, wksN, wkN, wtL]
    rw [expR_N r]
theorem expd_N (ds : List PyData) : wksN (expd ds) ≤ wtL ds := by
  cases ds with
  | nil => exact Nat.le_refl _
  | cons d r =>
    simp only [expd, wksN, wkN, wtL]
    rw [expR_N r]
    omega
/-- behind i turns of the loop over the reversed items -/
def expAt (ds : List PyData) (i : Nat) : List Wk := if i = ds.length then expd ds else expR (ds.drop (ds.length - i))
theorem expAt_0 (ds : List PyData) : expAt ds 0 = [] := by
  unfold expAt
  split
  · rename_i h
    cases ds with
    | nil => rfl
    | cons d r => simp at h
  · simp [expR]
theorem drop_get {α : Type} {l : List α} {k : Nat} {x : α} (h : l[k]? = some x) : l.drop k = x :: l.drop (k + 1) := by
  obtain ⟨hk, e⟩ := List.getElem?_eq_some_iff.mp h
  rw [List.drop_eq_getElem_cons hk, e]
theorem expAt_next {ds : List PyData} {i : Nat} {d : PyData} (hi : i < ds.length) (h : ds[ds.length - 1 - i]? = some d) : expAt ds (i + 1) = if i = ds.length - 1 then .va d :: expAt ds i else .mk 32 :: .va d :: expAt ds i := by
  have h1 := drop_get h
  have e0 : expAt ds i = expR (ds.drop (ds.length - i)) := by
    unfold expAt
    rw [if_neg (by omega)]
  have e2 : ds.length - 1 - i + 1 = ds.length - i := by omega
  rw [e2] at h1
  rw [e0]
  by_cases hl : i = ds.length - 1
  · rw [if_pos hl]
    unfold expAt
    rw [if_pos (by omega)]
    have e3 : ds.length - 1 - i = 0 := by omega
    rw [e3] at h1
    have e4 : ds = d :: ds.drop (ds.length - i) := h1
    have e5 : expd ds = expd (d :: ds.drop (ds.length - i)) := congrArg expd e4
    rw [e5]
    rfl
  · rw [if_neg hl]
    unfold expAt
    rw [if_neg (by omega)]
    have e3 : ds.length - (i + 1) = ds.length - 1 - i := by omega
    rw [e3, h1]
    rfl
/-! ### the work as it stands in the heap: its last place is the next thing to be written -/
inductive WkR (H H' : Hp) (fo l : Addr) : V → Wk → Prop
  | mk {m : Addr} {c : Nat} : H' m = some (.lst [.str ⟨#[c]⟩]) → m ≠ fo → m ≠ l → WkR H H' fo l (.ref m) (.mk c)
  | va {v : V} {d : PyData} : Dt H v d → (∃ n, okAt n d = true) → WkR H H' fo l v (.va d)
inductive WksR (H H' : Hp) (fo l : Addr) : List V → List Wk → Prop
  | nil : WksR H H' fo l [] []
  | cons {v : V} {a : Wk} {vs : List V} {as : List Wk} : WkR H H' fo l v a → WksR H H' fo l vs as → WksR H H' fo l (v :: vs) (a :: as)
theorem WksR.mono {H H1 H2 : Hp} {fo l : Addr} (k : ∀ b o, b ≠ fo → b ≠ l → H1 b = some o → H2 b = some o) : ∀ {vs : List V} {as : List Wk}, WksR H H1 fo l vs as → WksR H H2 fo l vs as
  | _, _, .nil => .nil
  | _, _, .cons h t => .cons (match h with
    | .mk e n1 n2 => .mk (k _ _ n1 n2 e) n1 n2
    | .va hd hk => .va hd hk) (WksR.mono k t)
theorem WksR.len {H H1 : Hp} {fo l : Addr} : ∀ {vs : List V} {as : List Wk}, WksR H H1 fo l vs as → vs.length = as.length
  | _, _, .nil => rfl
  | _, _, .cons _ t => by simp [WksR.len t]
theorem joinL_nil : ∀ ps : List (List Nat), TL.joinL [] ps = ps.flatten
  | [] => rfl
  | [p] => by simp [TL.joinL]
  | p :: q :: r => by
    simp only [TL.joinL, List.nil_append, List.flatten_cons]
    rw [joinL_nil (q :: r)]
    simp
theorem join_S (sep : List Nat) (ps : List (List Nat)) : Txt.join (S sep) (ps.map S) = S (TL.joinL sep ps) := by
  have e : TL.tl (Txt.join (S sep) (ps.map S)) = TL.joinL sep ps := by
    rw [TL.join_eq, TL.tl_join, List.map_map, show (TL.tl ∘ S) = id from funext fun l => list_S l, List.map_id, show TL.tl (S sep) = sep from list_S sep]
  rw [← e]
  exact (S_list _).symm
abbrev sVT : Stmt := top 26
def spVT (CN : Addr) : Sp := fun vs H Q E => ∃ (v : V) (d : PyData), vs = [v] ∧ Dt H v d ∧ nodes d ≤ 100000 ∧ short d = true ∧
  (okAt 59 d = true → (vt d).length ≤ 1000000 ∧ ∀ H', Same H H' → Q (.str (S (vt d))) H') ∧
  (okAt 59 d = false → ∀ H' dd, Same H H' → H' dd = none → E (.ref CN) (some dd) (upd H' dd (.xd [(("line" : Str), .int 0)])))
abbrev nVT : List Str := ["value", "found", "left", "here", "at", "one"]
theorem scVT : FnScope nVT ["value"] (defScope sVT) := ⟨rfl, rfl, rfl, by decide +kernel, rfl, by decide +kernel, by decide +kernel⟩
theorem walk_enumR {K : PySem.W.Frag} {a : Addr} {xs : List V} : Walk (RT.IteR K a xs.length) xs.length (fun H => SqT K H a xs) (YPair (fun i => some (.int (i : Nat))) (fun i => xs[xs.length - 1 - i]?)) := by
  refine ⟨fun i _ hi q => ⟨hi, xs, xs[xs.length - 1 - i]'(by omega), q, rfl, by simp [show xs.length - 1 - i < xs.length by omega]⟩, fun _ q => ⟨Nat.le_refl _, xs, q, rfl⟩, fun i H v H' _ q y => ?_⟩
  obtain ⟨T, x, h1, h2, h3, h4⟩ := y
  exact ⟨T, .int (i : Nat), x, h1, h2, h3, rfl, h4 xs q⟩
/-- found holds fs, left the work as -/
structure VI (H H' : Hp) (fo l : Addr) (fs : List (List Nat)) (ts : List V) (as : List Wk) : Prop where
  s : Same H H'
  f : H' fo = some (.lst (fs.map fun z => V.str (S z)))
  t : H' l = some (.lst ts.reverse)
  r : WksR H H' fo l ts as
section
variable {H H' : Hp} {fo l e : Addr} {fs : List (List Nat)} {ts ts2 : List V} {as as2 : List Wk} {o : HO}
theorem VI.new (x : VI H H' fo l fs ts as) (he : H' e = none) : VI H (upd H' e o) fo l fs ts as :=
  ⟨Same.new x.s (Same.free x.s he), by rw [upd_ne (ne_of_none x.f he)]; exact x.f, by rw [upd_ne (ne_of_none x.t he)]; exact x.t, x.r.mono fun b u _ _ q => by rw [upd_ne (ne_of_none q he)]; exact q⟩
theorem VI.setL (x : VI H H' fo l fs ts as) (nl : H l = none) (ne : fo ≠ l) (r : WksR H H' fo l ts2 as2) : VI H (upd H' l (.lst ts2.reverse)) fo l fs ts2 as2 :=
  ⟨Same.new x.s nl, by rw [upd_ne ne]; exact x.f, upd_same, r.mono fun b u _ n q => by rw [upd_ne n]; exact q⟩
theorem VI.setF (x : VI H H' fo l fs ts as) (nf : H fo = none) (ne : fo ≠ l) (z : List Nat) : VI H (upd H' fo (.lst (fs.map (fun z => V.str (S z)) ++ [.str (S z)]))) fo l (fs ++ [z]) ts as :=
  ⟨Same.new x.s nf, by rw [upd_same, List.map_append]; rfl, by rw [upd_ne (Ne.symm ne)]; exact x.t, x.r.mono fun b u n _ q => by rw [upd_ne n]; exact q⟩
theorem VI.more (x : VI H H' fo l fs ts as) {p : Addr} {u : HO} (hp : H p = some u) : H' p = some u := x.s _ _ hp
end
theorem dash : ("-" : Str) = S [45] := by decide +kernel
theorem s40 : ("(" : Str) = S [40] := by decide +kernel
theorem s41 : (")" : Str) = S [41] := by decide +kernel
theorem s32 : (" " : Str) = S [32] := by decide +kernel
theorem s0 : ("" : Str) = S [] := by decide +kernel
theorem flatten_sum : ∀ fs : List (List Nat), ((fs.map S).map (·.length)).sum = fs.flatten.length
  | [] => rfl
  | z :: fs => by
    have h := flatten_sum fs
    simp only [List.map_cons, List.sum_cons, List.flatten_cons, List.length_append, h]
    have e : (S z).length = z.length := by show z.toArray.size = z.length; simp
    rw [e]
section
variable {P : Program} {w : World} {K : PySem.W.Frag} {mg : Str → Option Value} {base : Heap} {f fV CN fI : Addr} {fd fdV : FuncData}
theorem ok_VT (F : FnP K "value_text" sVT f fd) (FV : FnP K "is_value" sIsVal fV fdV) (GV : FnOk P w K mg base CX0 2 fV fdV ["thing"] spIsVal) (gV : mg "is_value" = some (.ref fV)) (T : Nt.NtC P K mg "NoText" CN fI) (B : Blt mg) : FnOk P w K mg base (L2.CX P w) 3 f fd ["value"] (spVT CN) := by
  have bV : Binds K fdV ["thing"] [] := FV.bindsN fun _ _ _ _ _ _ us hl => match us, hl with | [_], _ => rfl
  have nd := scVT.nd
  refine F.ok scVT (fun vs H Q E h => ?_) (fun cdv A outer s H vs Q E hr h => ⟨_, 
    pss_cons (ps_if (pt_not (pt_val (pe_call GV hr (by rfl) gV FV.kp bV .nil pass0 (pa_cons (pv 0) pa_nil)))) (pss_one (ps_raiseNt rfl T hr (takes_of (E := E) rfl rfl rfl rfl) (pa_cons pe_str (pa_cons pe_int pa_nil)) (by rfl) (by decide))) pss_nil) <| PSs.nox <|
    pss_cons (ps_par (i := 1) (j := 2) rfl nd rfl rfl (by decide) rfl rfl (pa_cons (pe_lst pa_nil) (pa_cons (pe_lst (pa_cons (pv 0) pa_nil)) pa_nil)) (by rfl)) <|
    pss_cons (ps_while PassesOwn.never (pt_cmpR (op_neNil (Nat.lt_of_succ_lt (hu_of hr))) (pv 2) (pe_lst pa_nil) (nomark _)) <|
      pss_cons (ps_set (i := 3) nd rfl (.inl rfl) (pe_bm0 PySem.F.plainAttrs_list PySem.F.slot_list_pop PySem.F.type_list_pop mt_pop (pv 2))) <|
      pss_one (ps_if (pt_val (pe_callB call_isi (by rfl) B.isi PyProof.Rows.boot_isinstance (pa_cons (pv 3) (pa_cons (pe_bltn (v := .ty "list") (by rfl) B.list boot_list rfl) pa_nil))))
        (pss_one (ps_expr (pe_bm PySem.F.plainAttrs_list PySem.F.slot_list_append PySem.F.type_list_append mt_append (pv 1) (pa_cons (pe_ix ix_list (pv 3) pe_int (fun _ _ => rfl)) pa_nil)))) <|
        pss_one (ps_if (pt_val (pe_callB call_isi (by rfl) B.isi PyProof.Rows.boot_isinstance (pa_cons (pv 3) (pa_cons (pe_bltn (v := .ty "tuple") (by rfl) B.tuple boot_tuple rfl) pa_nil))))
          (pss_cons (ps_expr (pe_bm PySem.F.plainAttrs_list PySem.F.slot_list_append PySem.F.type_list_append mt_append (pv 2) (pa_cons (pe_lst (pa_cons pe_str pa_nil)) pa_nil))) <|
           pss_cons (ps_for PassesOwn.never rfl (RT.pi_enumR (by rfl) B.enum (by rfl) B.rev (pv 3)) (pg_tup rfl (pgs_cons (pg_name (i := 4) nd rfl (.inl rfl)) (pgs_cons (pg_name (i := 5) nd rfl (.inl rfl)) pgs_nil))) <|
             pss_one (ps_expr (pe_bm PySem.F.plainAttrs_list PySem.F.slot_list_extend PySem.F.type_list_extend mt_extend (pv 2)
               (pa_cons (pe_ifExp (pt_cmpR op_eq (pv 4) (pe_op op_sub (pe_callB call_len_seq (by rfl) B.len PySem.boot_len (pa_cons (pv 3) pa_nil)) pe_int) (nomark _)) (pe_lst (pa_cons (pv 5) pa_nil)) (pe_lst (pa_cons (pv 5) (pa_cons (pe_lst (pa_cons pe_str pa_nil)) pa_nil)))) pa_nil)))) <|
           pss_one (ps_expr (pe_bm PySem.F.plainAttrs_list PySem.F.slot_list_append PySem.F.type_list_append mt_append (pv 2) (pa_cons (pe_lst (pa_cons pe_str pa_nil)) pa_nil)))) <|
          pss_one (ps_expr (pe_bm PySem.F.plainAttrs_list PySem.F.slot_list_append PySem.F.type_list_append mt_append (pv 1)
            (pa_cons (pe_ifExp (pt_cmpR op_isN (pv 3) pe_non (nomark _)) pe_str (pe_callTy call_strB (by rfl) B.str boot_str (pa_cons (pv 3) pa_nil))) pa_nil)))))) <|
    pss_one (ps_ret (pe_join pe_str (pv 1))), ?_⟩)
  · obtain ⟨v, d, rfl, _⟩ := h
    rfl
  · obtain ⟨v, d, rfl, hd, hn, hsh, hok, hbad⟩ := h
    have hsl : sizeLine = 16777216 := sizeLine_eq
    refine ⟨v, rfl, v, d, rfl, hd, hn, hsh, fun H1 s1 => ⟨_, rfl, ?_⟩⟩
    cases ho : okAt 59 d with
    | false => exact ifT rfl ⟨_, _, rfl, fun dd hdd => hbad ho H1 dd s1 hdd⟩
    | true =>
      obtain ⟨htl, hq⟩ := hok ho
      refine ifF rfl ⟨by decide, fun fo hfo => ⟨v, rfl, (by show 1 ≤ sizeLine; decide), fun l hl => ⟨_, _, rfl, ?_⟩⟩⟩
      have nfo : H fo = none := Same.free s1 hfo
      have hl1 : H1 l = none := by
        have hne : l ≠ fo := fun z => by rw [z, upd_same] at hl; cases hl
        rw [upd_ne hne] at hl
        exact hl
      have nl : H l = none := Same.free s1 hl1
      have ne : fo ≠ l := fun z => by rw [← z, upd_same] at hl; cases hl
      have wn := wt_nodes d
      refine ⟨fun m σ H' => ∃ (fs : List (List Nat)) (ts : List V) (as : List Wk) (a b c : Option V), wksN as = m ∧ σ = [some v, some (.ref fo), some (.ref l), a, b, c] ∧ VI H H' fo l fs ts as ∧ fs.flatten ++ wksT as = vt d ∧ fs.length + wksN as ≤ 400000, ⟨_, [], [v], [.va d], none, none, none, rfl, rfl, ⟨Same.new (Same.new s1 nfo) nl, by rw [upd_ne ne, upd_same]; rfl, by rw [upd_same]; rfl, .cons (.va hd ⟨59, ho⟩) .nil⟩, by simp [wksT, wkT], by simp [wksN, wkN]; omega⟩, fun m σ H' hP => ?_⟩
      obtain ⟨fs, ts, as, sa, sb, sc, rfl, rfl, I, htx, hsz⟩ := hP
      refine ⟨.ref l, rfl, by decide, fun e he => ⟨l, e, ts.reverse, rfl, rfl, .inl (.inl (by rw [upd_ne (ne_of_none I.t he)]; exact I.t)), .inl (.inl upd_same), _, rfl, ?_⟩⟩
      have I2 := I.new (o := .lst []) he
      cases I.r with
      | nil =>
        refine ifF rfl ⟨⟨_, rfl⟩, .ref fo, rfl, ("" : Str), fo, fs.map S, rfl, rfl, .inl (.inl (.inl (by rw [I2.f, List.map_map]; rfl))), ?_, ?_⟩
        · have e1 : fs.flatten.length = (vt d).length := by rw [← htx]; simp [wksT]
          have e2 : (("" : Str)).length = 0 := rfl
          rw [flatten_sum, e1, e2]
          omega
        · have e1 : Txt.join ("" : Str) (fs.map S) = S (vt d) := by
            rw [s0, join_S, joinL_nil, ← htx]
            simp [wksT]
          rw [e1]
          exact hq _ I2.s
      | cons hr1 hr =>
        rename_i t wk ts' as'
        have hxs : (t :: ts').reverse = ts'.reverse ++ [t] := by simp
        refine ifT (by rw [hxs]; simp) ⟨fun σ' H' => ∃ m', m' < wksN (wk :: as') ∧ ∃ (fs2 : List (List Nat)) (ts2 : List V) (as2 : List Wk) (a b c : Option V), wksN as2 = m' ∧ σ' = [some v, some (.ref fo), some (.ref l), a, b, c] ∧ VI H H' fo l fs2 ts2 as2 ∧ fs2.flatten ++ wksT as2 = vt d ∧ fs2.length + wksN as2 ≤ 400000, fun σ' H' h => h, ?_⟩
        refine ⟨.ref l, rfl, .inl ⟨rfl, _, .inl (.inl I2.t)⟩, l, (t :: ts').reverse, t, rfl, rfl, I2.t, by rw [hxs]; simp, ?_⟩
        have hdl : (t :: ts').reverse.dropLast = ts'.reverse := by rw [hxs]; simp
        rw [hdl]
        have hr' : WksR H (upd H' e (.lst [])) fo l ts' as' := hr.mono fun b u _ _ q => by rw [upd_ne (ne_of_none q he)]; exact q
        have I3 := I2.setL nl ne hr'
        have hN : wksN (wk :: as') = wkN wk + wksN as' := rfl
        have hT : wksT (wk :: as') = wkT wk ++ wksT as' := rfl
        rw [hT] at htx
        -- one more piece is found
        have fin : ∀ {H4 : Hp} {z : List Nat} {σ' : L2.St} {a b c : Option V}, VI H H4 fo l fs ts' as' → wkT wk = z → 1 ≤ wkN wk → σ' = [some v, some (.ref fo), some (.ref l), a, b, c] →
            ∃ m', m' < wksN (wk :: as') ∧ ∃ (fs2 : List (List Nat)) (ts2 : List V) (as2 : List Wk) (a b c : Option V), wksN as2 = m' ∧ σ' = [some v, some (.ref fo), some (.ref l), a, b, c] ∧ VI H (upd H4 fo (.lst (fs.map (fun z => V.str (S z)) ++ [.str (S z)]))) fo l fs2 ts2 as2 ∧ fs2.flatten ++ wksT as2 = vt d ∧ fs2.length + wksN as2 ≤ 400000 := by
          intro H4 z σ' a b c I4 hz h1 hσ
          refine ⟨wksN as', by rw [hN]; omega, fs ++ [z], ts', as', a, b, c, rfl, hσ, I4.setF nfo ne z, ?_, ?_⟩
          · rw [← htx, hz]
            simp
          · rw [hN] at hsz
            simp only [List.length_append, List.length_cons, List.length_nil]
            omega
        have hfl : fs.length < 16777216 := by omega
        cases hr1 with
        | mk hm nm1 nm2 =>
          rename_i m c
          have hm3 : (upd (upd H' e (.lst [])) l (.lst ts'.reverse)) m = some (.lst [.str ⟨#[c]⟩]) := by rw [upd_ne nm2, upd_ne (ne_of_none hm he)]; exact hm
          refine ⟨.ref m, rfl, .ref m, .ty "list", .type "list", .type "list", true, rfl, .ty _, .base (.lst hm3), kit_ty (by decide +kernel), _, rfl, ifT rfl ?_⟩
          refine ⟨.ref fo, rfl, .inl ⟨rfl, _, .inl (.inl I3.f)⟩, .ref m, rfl, m, [.str ⟨#[c]⟩], 0, .str ⟨#[c]⟩, rfl, rfl, .inl (.inl hm3), rfl, fo, _, .str ⟨#[c]⟩, rfl, rfl, I3.f, by rw [List.length_map]; omega, ?_⟩
          exact fin (z := [c]) I3 rfl (Nat.le_refl _) rfl
        | va hd' hk =>
          rename_i d'
          obtain ⟨n, hk⟩ := hk
          have hd3 := hd'.same I3.s
          have hnl : isLst d' = false := by
            cases d' with
            | list ds => cases n <;> cases hk
            | _ => rfl
          refine ⟨t, rfl, t, .ty "list", _, .type "list", _, rfl, .ty _, hd3.ty, kit_list d', _, rfl, ifF hnl ?_⟩
          refine ⟨t, rfl, t, .ty "tuple", _, .type "tuple", _, rfl, .ty _, hd3.ty, kit_tuple d', _, rfl, ?_⟩
          cases ht : tupB d' with
          | false =>
            have hlf : leafB d' = true := by
              cases n with
              | zero => exact hk
              | succ n =>
                have hk : ((tupB d' || leafB d') && (ch d').all (okAt n)) = true := hk
                rw [ht, Bool.false_or, Bool.and_eq_true] at hk
                exact hk.1
            refine ifF rfl ⟨.ref fo, rfl, .inl ⟨rfl, _, .inl (.inl I3.f)⟩, ?_⟩
            cases hd' with
            | non =>
              refine ⟨.non, rfl, rfl, _, rfl, ifT (decide_eq_true rfl) ⟨fo, _, .str ("-" : Str), rfl, rfl, I3.f, by rw [List.length_map]; omega, ?_⟩⟩
              rw [dash]
              exact fin (z := [45]) I3 (by simp [wkT, vt]) (wt_pos _) rfl
            | str z =>
              refine ⟨.str z, rfl, rfl, _, rfl, ifF (decide_eq_false (fun q => nomatch q)) ⟨.str z, rfl, .inr ⟨z, rfl, fo, _, .str z, rfl, rfl, I3.f, by rw [List.length_map]; omega, ?_⟩⟩⟩
              have := fin (z := z.cps.toList) (σ' := [some v, some (.ref fo), some (.ref l), some (.str z), sb, sc]) I3 (by simp [wkT, vt]) (wt_pos _) rfl
              rw [S_list] at this
              exact this
            | int i =>
              refine ⟨.int i, rfl, rfl, _, rfl, ifF (decide_eq_false (fun q => nomatch q)) ⟨.int i, rfl, .inl ⟨i, rfl, ?_, fo, _, .str (toString i), rfl, rfl, I3.f, by rw [List.length_map]; omega, ?_⟩⟩⟩
              · have hf : isFig (.int i) = true := hlf
                have hlt := of_decide_eq_true (show decide ((if i < 0 then -i else i) < 1000000000000) = true from hf)
                have hna : i.natAbs < 1000000000000 := by
                  split at hlt <;> omega
                by_cases h0 : i.natAbs = 0
                · rw [h0]; decide
                · have : i.natAbs < 2 ^ 40 := by omega
                  have := (Nat.log2_lt h0).mpr this
                  omega
              · have := fin (z := (Str.ofString (toString i)).cps.toList) (σ' := [some v, some (.ref fo), some (.ref l), some (.int i), sb, sc]) I3 (by simp [wkT, vt]) (wt_pos _) rfl
                rw [S_list] at this
                exact this
            | bl b => cases hlf
            | lst _ _ => cases hlf
            | tup _ _ => cases ht
          | true =>
            cases hd' with
            | non => cases ht
            | bl _ => cases ht
            | int _ => cases ht
            | str _ => cases ht
            | lst _ _ => cases ht
            | tup ha hds =>
              rename_i a zs ds
              obtain ⟨k, rfl⟩ : ∃ k, n = k + 1 := by
                cases n with
                | zero => cases hk
                | succ k => exact ⟨k, rfl⟩
              have hall : ∀ e ∈ ds, okAt k e = true := by
                have hk : ((true || leafB (.tuple ds)) && ds.all (okAt k)) = true := hk
                rw [Bool.true_or, Bool.true_and] at hk
                exact List.all_eq_true.mp hk
              have hlen : zs.length = ds.length := hds.len
              have htl' : ts'.length ≤ 400000 := by
                have h1 := hr.len
                have h2 := len_wks as'
                rw [hN] at hsz
                omega
              have wnd : wksN (Wk.mk 41 :: as') = 1 + wksN as' := rfl
              have hN' : wkN (.va (.tuple ds)) = 3 + wtL ds := by simp [wkN, wt]
              have hsz' : fs.length + (3 + wtL ds + wksN as') ≤ 400000 := by rw [hN, hN'] at hsz; exact hsz
              refine ifT rfl ⟨.ref l, rfl, .inl ⟨rfl, _, .inl (.inl I3.t)⟩, (by show 1 ≤ sizeLine; decide), fun m1 hm1 => ?_⟩
              have I4 := I3.new (o := .lst [.str (")" : Str)]) hm1
              refine ⟨l, ts'.reverse, .ref m1, rfl, rfl, I4.t, by rw [List.length_reverse]; omega, ?_⟩
              rw [show ts'.reverse ++ [V.ref m1] = (V.ref m1 :: ts').reverse from by simp]
              have r5 : WksR H (upd (upd (upd H' e (.lst [])) l (.lst ts'.reverse)) m1 (.lst [.str (")" : Str)])) fo l (.ref m1 :: ts') (.mk 41 :: as') :=
                .cons (.mk (by rw [upd_same, s41]; rfl) (fun z => by rw [z, I3.f] at hm1; cases hm1) (fun z => by rw [z, I3.t] at hm1; cases hm1)) I4.r
              have I5 := I4.setL nl ne r5
              have lenAt : ∀ i, (expAt ds i ++ (Wk.mk 41 :: as')).length ≤ 400000 := fun i => by
                have h1 := len_wks (expAt ds i ++ (Wk.mk 41 :: as'))
                rw [wksN_app] at h1
                have h2 : wksN (expAt ds i) ≤ wtL ds := by
                  unfold expAt
                  split
                  · exact expd_N ds
                  · rw [expR_N]
                    have h3 : ∀ (l : List PyData) (j : Nat), wtL (l.drop j) ≤ wtL l := by
                      intro l
                      induction l with
                      | nil => intro j; simp
                      | cons x l ih =>
                        intro j
                        cases j with
                        | zero => simp
                        | succ j =>
                          have := ih j
                          simp only [List.drop_succ_cons, wtL]
                          omega
                    exact h3 ds _
                omega
              refine ⟨.ref a, rfl, a, zs, rfl, .inl (.inl (I5.more ha)), for_it walk_enumR (fun i σ H' => ∃ (b c : Option V) (ts6 : List V), σ = [some v, some (.ref fo), some (.ref l), some (.ref a), b, c] ∧ VI H H' fo l fs ts6 (expAt ds i ++ (.mk 41 :: as')))
                ⟨sb, sc, _, rfl, by rw [expAt_0]; exact I5⟩ (fun i σ Ha _ h => .inl (.inl (h.choose_spec.choose_spec.choose_spec.2.more ha))) (fun i x σ Ha Hb hi hP hY => ?_) (fun σ Ha hP => ?_)⟩
              · obtain ⟨b, c, ts6, rfl, I6⟩ := hP
                obtain ⟨Tp, i', y, rfl, hTp, rfl, hi', hy⟩ := hY
                obtain rfl : V.int (i : Nat) = i' := Option.some.inj hi'
                have I7 := I6.new (o := .tup [.int (i : Nat), y]) hTp
                obtain ⟨e1, he1, hye⟩ := hds.get hy
                rw [hlen] at he1
                have hi2 : i < ds.length := by omega
                have nx := expAt_next hi2 he1
                have hok1 : okAt k e1 = true := hall e1 (List.mem_of_getElem? he1)
                have ht6 : ts6.length ≤ 400000 := by rw [I6.r.len]; exact lenAt i
                refine ⟨Tp, [.int (i : Nat), y], rfl, .inl (.inl upd_same), rfl, .int (i : Nat), [y], rfl, y, [], rfl, rfl, .ref l, rfl, .inl ⟨rfl, _, .inl (.inl I7.t)⟩, .int (i : Nat), rfl, .ref a, rfl, a, zs, rfl, .inr (.inl (.inl (I7.more ha))), _, _, rfl, rfl, rfl, _, rfl, ?_⟩
                by_cases hlast : i = ds.length - 1
                · rw [if_pos hlast] at nx
                  refine ifT (decide_eq_true (by congr 1; omega)) ⟨y, rfl, (by show 1 ≤ sizeLine; decide), fun b1 hb1 => ?_⟩
                  have I8 := I7.new (o := .lst [y]) hb1
                  refine ⟨l, b1, ts6.reverse, [y], rfl, rfl, I8.t, upd_same, by rw [List.length_reverse]; simp; omega, ?_⟩
                  rw [show ts6.reverse ++ [y] = (y :: ts6).reverse from by simp]
                  refine ⟨_, _, y :: ts6, rfl, ?_⟩
                  rw [nx]
                  exact I8.setL nl ne (.cons (.va hye ⟨k, hok1⟩) I8.r)
                · rw [if_neg hlast] at nx
                  refine ifF (decide_eq_false (fun z => by injection z with z; omega)) ⟨y, rfl, (by show 1 ≤ sizeLine; decide), fun b2 hb2 => ⟨(by show 2 ≤ sizeLine; decide), fun b3 hb3 => ?_⟩⟩
                  have I8 := I7.new (o := .lst [.str (" " : Str)]) hb2
                  have I9 := I8.new (o := .lst [y, .ref b2]) hb3
                  refine ⟨l, b3, ts6.reverse, [y, .ref b2], rfl, rfl, I9.t, upd_same, by rw [List.length_reverse]; simp; omega, ?_⟩
                  rw [show ts6.reverse ++ [y, V.ref b2] = (V.ref b2 :: y :: ts6).reverse from by simp]
                  refine ⟨_, _, .ref b2 :: y :: ts6, rfl, ?_⟩
                  rw [nx]
                  refine I9.setL nl ne (.cons (.mk ?_ (fun z => by rw [z, I7.f] at hb2; cases hb2) (fun z => by rw [z, I7.t] at hb2; cases hb2)) (.cons (.va hye ⟨k, hok1⟩) I9.r))
                  have hbb : b2 ≠ b3 := fun z => by rw [← z, upd_same] at hb3; cases hb3
                  rw [upd_ne hbb, upd_same, s32]
                  rfl
              · obtain ⟨b, c, ts6, rfl, I6⟩ := hP
                have ht6 : ts6.length ≤ 400000 := by rw [I6.r.len]; exact lenAt zs.length
                have eE : expAt ds zs.length = expd ds := by unfold expAt; rw [if_pos hlen]
                rw [eE] at I6
                refine ⟨.ref l, rfl, .inl ⟨rfl, _, .inl (.inl I6.t)⟩, (by show 1 ≤ sizeLine; decide), fun m2 hm2 => ?_⟩
                have I7 := I6.new (o := .lst [.str ("(" : Str)]) hm2
                refine ⟨l, ts6.reverse, .ref m2, rfl, rfl, I7.t, by rw [List.length_reverse]; omega, ?_⟩
                rw [show ts6.reverse ++ [V.ref m2] = (V.ref m2 :: ts6).reverse from by simp]
                have hw := expd_N ds
                have hNN : wksN (Wk.mk 40 :: (expd ds ++ (Wk.mk 41 :: as'))) = 1 + (wksN (expd ds) + (1 + wksN as')) := by
                  simp only [wksN, wkN]
                  rw [wksN_app]
                  simp only [wksN, wkN]
                refine ⟨wksN (Wk.mk 40 :: (expd ds ++ (Wk.mk 41 :: as'))), by rw [hNN, hN, hN']; omega, fs, .ref m2 :: ts6, Wk.mk 40 :: (expd ds ++ (Wk.mk 41 :: as')), _, _, _, rfl, rfl, I7.setL nl ne (.cons (.mk (by rw [upd_same, s40]; rfl) (fun z => by rw [z, I6.f] at hm2; cases hm2) (fun z => by rw [z, I6.t] at hm2; cases hm2)) I7.r), ?_, by rw [hNN]; omega⟩
                rw [← htx]
                have : wksT (Wk.mk 40 :: (expd ds ++ (Wk.mk 41 :: as'))) = wkT (.va (.tuple ds)) ++ wksT as' := by
                  simp only [wksT, wkT]
                  rw [wksT_app, expd_T]
                  simp [wksT, wkT, vt]
                rw [this]
end
end K88
set_option maxHeartbeats 4000000
/-! pieces_of, plain_of. -/
namespace K88
open PySem PySem.Spec PyProof.Rows L2 LamG NtP
abbrev sPcs : Stmt := top 27
abbrev sPlain : Stmt := top 28
def SV (q : List Nat) : V := .str (S q)
def spPcs : Sp := fun vs H Q _ => ∃ z : Str, vs = [.str z] ∧ z.length ≤ 100000 ∧ ∀ H' p, Same H H' → H p = none → H' p = some (.lst ((pcs z.cps.toList).map SV)) → Q (.ref p) H'
abbrev nPcs : List Str := ["text", "found", "at", "end"]
theorem scPcs : FnScope nPcs ["text"] (defScope sPcs) := ⟨rfl, rfl, rfl, by decide +kernel, rfl, by decide +kernel, by decide +kernel⟩
theorem dels : ∀ c : Nat, decide (c ∈ ("() " : Str).cps.toList) = isDel c := by
  intro c
  have e : ("() " : Str).cps.toList = [40, 41, 32] := by decide +kernel
  rw [e]
  unfold isDel
  rw [Bool.eq_iff_iff, decide_eq_true_iff]
  simp only [List.mem_cons, List.not_mem_nil, or_false, Bool.or_eq_true, beq_iff_eq]
  constructor <;> intro h <;> omega
theorem cut_nat {z : Str} {a e : Nat} (h1 : a ≤ e) (h2 : e ≤ z.length) : cutS z (some (a : Int)) (some (e : Int)) = S ((z.cps.toList.drop a).take (e - a)) := by
  unfold cutS
  rw [HT.sIx_nat, HT.sIx_nat, Nat.min_eq_left h2, Nat.min_eq_left (Nat.le_trans h1 h2)]
  rfl
theorem take_snoc {l : List Nat} {a e c : Nat} (h1 : a ≤ e) (h : l[e]? = some c) : (l.drop a).take (e + 1 - a) = (l.drop a).take (e - a) ++ [c] := by
  have h2 : (l.drop a)[e - a]? = some c := by
    rw [List.getElem?_drop]
    have : a + (e - a) = e := by omega
    rw [this]
    exact h
  have h3 : e + 1 - a = e - a + 1 := by omega
  rw [h3]
  exact take_next h2
section
variable {P : Program} {w : World} {K : PySem.W.Frag} {mg : Str → Option Value} {base : Heap} {f fW : Addr} {fd fdW : FuncData}
theorem ok_pcs (F : FnP K "pieces_of" sPcs f fd) (B : Blt mg) : FnOk P w K mg base CX0 1 f fd ["text"] spPcs := by
  have nd := scPcs.nd
  refine F.ok scPcs (fun vs H Q E h => ?_) (fun cdv A outer s H vs Q E hr h => ⟨_, PSs.nox <|
    pss_cons (ps_par (i := 1) (j := 2) rfl nd rfl rfl (by decide) rfl rfl (pa_cons (pe_lst pa_nil) (pa_cons pe_int pa_nil)) (by rfl)) <|
    pss_cons (ps_while PassesOwn.never (pt_cmpR op_lt (pv 2) (pe_callB call_len_str (by rfl) B.len PySem.boot_len (pa_cons (pv 0) pa_nil)) (nomark _)) <|
      pss_cons (ps_set (i := 3) nd rfl (.inl rfl) (pe_op op_add (pv 2) pe_int)) <|
      pss_cons (ps_if (pt_cmpR op_notIn_sign (pe_ix ix_str (pv 0) (pv 2) (fun _ _ => rfl)) pe_str rfl)
        (pss_one (ps_while PassesOwn.never (PW.pt (pw_and (pt_cmpR op_lt (pv 3) (pe_callB call_len_str (by rfl) B.len PySem.boot_len (pa_cons (pv 0) pa_nil)) (nomark _)) (pw_and1 (pt_cmpR op_notIn_sign (pe_ix ix_str (pv 0) (pv 3) (fun _ _ => rfl)) pe_str rfl))))
          (pss_one (ps_aug (i := 3) nd rfl (.inl rfl) pe_int ip_add)))) pss_nil) <|
      pss_cons (ps_expr (pe_bm PySem.F.plainAttrs_list PySem.F.slot_list_append PySem.F.type_list_append mt_append (pv 1) (pa_cons (pe_slice sl_str (pv 0) (po_some (pv 2)) (po_some (pv 3))) pa_nil))) <|
      pss_one (ps_set (i := 2) nd rfl (.inl rfl) (pv 3))) <|
    pss_one (ps_ret (pv 1)), ?_⟩)
  · obtain ⟨z, rfl, _⟩ := h
    rfl
  · obtain ⟨z, rfl, hz, hq⟩ := h
    have hsl : sizeLine = 16777216 := sizeLine_eq
    have hzl : z.cps.toList.length = z.length := Array.length_toList
    refine ⟨by decide, fun fo hfo => ⟨_, _, rfl, ?_⟩⟩
    refine ⟨fun m σ H' => ∃ (a : Nat) (fs : List (List Nat)) (e : Option V), m = z.length - a ∧ a ≤ z.length ∧ σ = [some (.str z), some (.ref fo), some (.int (a : Nat)), e] ∧ Same H H' ∧ H' fo = some (.lst (fs.map SV)) ∧ fs ++ pcs (z.cps.toList.drop a) = pcs z.cps.toList ∧ fs.length ≤ a,
      ⟨_, 0, [], none, rfl, Nat.zero_le _, rfl, Same.new (Same.refl H) hfo, upd_same, by simp, Nat.le_refl _⟩, fun m σ H' hP => ?_⟩
    obtain ⟨a, fs, e0, rfl, ha, rfl, s1, hf, hfs, hfl⟩ := hP
    refine ⟨_, rfl, .str z, rfl, z, rfl, by omega, _, _, rfl, rfl, _, rfl, ?_⟩
    by_cases hlt : a < z.length
    · refine ifT (decide_eq_true (by omega)) ⟨fun σ' H' => ∃ m', m' < z.length - a ∧ ∃ (a : Nat) (fs : List (List Nat)) (e : Option V), m' = z.length - a ∧ a ≤ z.length ∧ σ' = [some (.str z), some (.ref fo), some (.int (a : Nat)), e] ∧ Same H H' ∧ H' fo = some (.lst (fs.map SV)) ∧ fs ++ pcs (z.cps.toList.drop a) = pcs z.cps.toList ∧ fs.length ≤ a, fun σ' H' h => h, ?_⟩
      obtain ⟨c, hc⟩ : ∃ c, z.cps.toList[a]? = some c := ⟨z.cps.toList[a]'(by omega), by simp⟩
      -- behind the search: the end of the piece
      have fin : ∀ (e : Nat) (H2 : Hp), a < e → e ≤ z.length → Same H H2 → H2 fo = some (.lst (fs.map SV)) → pcs (z.cps.toList.drop a) = (z.cps.toList.drop a).take (e - a) :: pcs (z.cps.toList.drop e) →
          ∃ m', m' < z.length - a ∧ ∃ (a' : Nat) (fs2 : List (List Nat)) (e' : Option V), m' = z.length - a' ∧ a' ≤ z.length ∧ [some (.str z), some (.ref fo), some (.int (e : Nat)), some (.int (e : Nat))] = [some (.str z), some (.ref fo), some (.int (a' : Nat)), e'] ∧ Same H (upd H2 fo (.lst (fs.map SV ++ [.str (cutS z (some (a : Nat)) (some (e : Nat)))]))) ∧
            (upd H2 fo (.lst (fs.map SV ++ [.str (cutS z (some (a : Nat)) (some (e : Nat)))]))) fo = some (.lst (fs2.map SV)) ∧ fs2 ++ pcs (z.cps.toList.drop a') = pcs z.cps.toList ∧ fs2.length ≤ a' := by
        intro e H2 h1 h2 s2 h3 h4
        refine ⟨z.length - e, by omega, e, fs ++ [(z.cps.toList.drop a).take (e - a)], _, rfl, h2, rfl, Same.new s2 hfo, ?_, ?_, ?_⟩
        · rw [upd_same, cut_nat (by omega) h2, List.map_append]
          rfl
        · rw [← hfs, h4]
          simp
        · simp
          omega
      refine ⟨.int a, rfl, _, _, rfl, rfl, .str z, rfl, _, rfl, z, (a : Int), c, rfl, rfl, by omega, atI_nat hc, c, ("() " : Str), rfl, rfl, _, rfl, ?_⟩
      rw [dels]
      have hd1 : z.cps.toList.drop a = c :: z.cps.toList.drop (a + 1) := drop_get hc
      cases hdel : isDel c with
      | true =>
        refine ifF rfl ?_
        refine ⟨.ref fo, rfl, .inl ⟨rfl, _, .inl (.inl hf)⟩, .str z, rfl, _, rfl, _, rfl, _, rfl, _, rfl, z, rfl, by omega, fo, fs.map SV, _, rfl, rfl, hf, by rw [List.length_map]; omega, ?_⟩
        refine ⟨_, rfl, fin (a + 1) H' (by omega) (by omega) s1 hf ?_⟩
        have e1 : a + 1 - a = 1 := by omega
        rw [e1, hd1, pcs_del hdel]
        rfl
      | false =>
        refine ifT rfl ?_
        have out : ∀ (e : Nat) (H2 : Hp), a < e → e ≤ z.length → ((z.cps.toList.drop a).take (e - a)).all (fun c => !isDel c) = true → endB (z.cps.toList.drop e) = true → pcs (z.cps.toList.drop a) = (z.cps.toList.drop a).take (e - a) :: pcs (z.cps.toList.drop e) := by
          intro e H2 h1 h2 h3 h4
          have e1 : z.cps.toList.drop a = (z.cps.toList.drop a).take (e - a) ++ z.cps.toList.drop e := by
            have := List.take_append_drop (e - a) (z.cps.toList.drop a)
            rw [List.drop_drop, show a + (e - a) = e from by omega] at this
            exact this.symm
          have hne : (z.cps.toList.drop a).take (e - a) ≠ [] := fun q => by
            have := congrArg List.length q
            have hsz : z.cps.size = z.length := rfl
            simp at this
            omega
          have := pcs_tok _ _ hne h3 h4
          rw [← e1] at this
          exact this
        refine ⟨fun m σ H2 => ∃ e : Nat, m = z.length - e ∧ a < e ∧ e ≤ z.length ∧ σ = [some (.str z), some (.ref fo), some (.int (a : Nat)), some (.int (e : Nat))] ∧ Same H H2 ∧ H2 fo = some (.lst (fs.map SV)) ∧ ((z.cps.toList.drop a).take (e - a)).all (fun c => !isDel c) = true,
          ⟨_, a + 1, rfl, by omega, by omega, rfl, s1, hf, ?_⟩, fun m σ H2 hP2 => ?_⟩
        · rw [show a + 1 - a = 1 from by omega, hd1]
          simp [hdel]
        · obtain ⟨e, rfl, hae, hel, rfl, s2, hf2, hall⟩ := hP2
          have leave : endB (z.cps.toList.drop e) = true → tSeq (tDrop (tBM K "list" rAppend (tVar 1) (tCons (tSl rSlS (tVar 0) (tPart (tVar 2)) (tPart (tVar 3))) tNil))) (tAsg (tVar 3) (gName 2)) { nx := fun σ' H' => ∃ m', m' < z.length - a ∧ ∃ (a : Nat) (fs : List (List Nat)) (e : Option V), m' = z.length - a ∧ a ≤ z.length ∧ σ' = [some (.str z), some (.ref fo), some (.int (a : Nat)), e] ∧ Same H H' ∧ H' fo = some (.lst (fs.map SV)) ∧ fs ++ pcs (z.cps.toList.drop a) = pcs z.cps.toList ∧ fs.length ≤ a, rt := Q } [some (.str z), some (.ref fo), some (.int (a : Nat)), some (.int (e : Nat))] H2 := by
            intro hend
            refine ⟨.ref fo, rfl, .inl ⟨rfl, _, .inl (.inl hf2)⟩, .str z, rfl, _, rfl, _, rfl, _, rfl, _, rfl, z, rfl, by omega, fo, fs.map SV, _, rfl, rfl, hf2, by rw [List.length_map]; omega, ?_⟩
            exact ⟨_, rfl, fin e H2 hae hel s2 hf2 (out e H2 hae hel hall hend)⟩
          refine ⟨.int (e : Nat), rfl, .str z, rfl, z, rfl, by omega, _, _, rfl, rfl, _, rfl, ?_⟩
          by_cases he : e < z.length
          · obtain ⟨c2, hc2⟩ : ∃ c, z.cps.toList[e]? = some c := ⟨z.cps.toList[e]'(by omega), by simp⟩
            have hd2 : z.cps.toList.drop e = c2 :: z.cps.toList.drop (e + 1) := drop_get hc2
            refine ifT (decide_eq_true (by omega)) ⟨.str z, rfl, .int (e : Nat), rfl, z, (e : Int), c2, rfl, rfl, by omega, atI_nat hc2, c2, ("() " : Str), rfl, rfl, _, rfl, ?_⟩
            rw [dels]
            cases hdel2 : isDel c2 with
            | true => exact ifF rfl (leave (by rw [hd2]; exact hdel2))
            | false =>
              refine ifT rfl ⟨fun σ' H' => ∃ m', m' < z.length - e ∧ ∃ e : Nat, m' = z.length - e ∧ a < e ∧ e ≤ z.length ∧ σ' = [some (.str z), some (.ref fo), some (.int (a : Nat)), some (.int (e : Nat))] ∧ Same H H' ∧ H' fo = some (.lst (fs.map SV)) ∧ ((z.cps.toList.drop a).take (e - a)).all (fun c => !isDel c) = true, fun _ _ h => h, ?_⟩
              refine ⟨.int (e : Nat), rfl, (e : Int), 1, rfl, rfl, z.length - (e + 1), by omega, e + 1, rfl, by omega, by omega, rfl, s2, hf2, ?_⟩
              rw [take_snoc (by omega) hc2, List.all_append, hall]
              simp [hdel2]
          · refine ifF (decide_eq_false (by omega)) (leave ?_)
            have : z.cps.toList.drop e = [] := by rw [List.drop_eq_nil_iff]; omega
            rw [this]
            rfl
    · refine ifF (decide_eq_false (by omega)) ?_
      have hae : a = z.length := by omega
      refine ⟨_, rfl, hq _ _ s1 hfo ?_⟩
      rw [hf]
      have e1 : z.cps.toList.drop a = [] := by rw [List.drop_eq_nil_iff]; omega
      rw [e1] at hfs
      have e2 : pcs [] = [] := rfl
      rw [e2, List.append_nil] at hfs
      rw [hfs]
end
end K88
set_option maxHeartbeats 4000000
/-! plain_of. -/
namespace K88
open PySem PySem.Spec PyProof.Rows L2 LamG NtP
/-- what plain_of's list holds -/
def PlR (o : Option PyData) (xs : List V) : Prop := match o with
  | none => xs = []
  | some d => ∃ v, xs = [v] ∧ tupB d = false ∧ noL d = true ∧ ∀ H, Dt H v d
def spPlainOf : Sp := fun vs H Q _ => ∃ z : Str, vs = [.str z] ∧ z.length ≤ 100000 ∧ ∀ H' p xs, Same H H' → H p = none → H' p = some (.lst xs) → PlR (readP z.cps.toList) xs → Q (.ref p) H'
abbrev nPlain : List Str := ["piece", "bare", "sign"]
theorem scPlain : FnScope nPlain ["piece"] (defScope sPlain) := ⟨rfl, rfl, rfl, by decide +kernel, rfl, by decide +kernel, by decide +kernel⟩
theorem cut_take (z : Str) : cutS z none (some 1) = S (z.cps.toList.take 1) := by
  unfold cutS
  have : HT.sIx z.length z.length (some 1) = min 1 z.length := HT.sIx_nat z.length z.length 1
  rw [HT.sIx_none, this, List.drop_zero, Nat.sub_zero]
  have hz : z.cps.toList.length = z.length := Array.length_toList
  show S _ = _
  congr 1
  rw [← hz]
  cases z.cps.toList <;> simp
theorem cut_drop (z : Str) : cutS z (some 1) none = S (z.cps.toList.drop 1) := by
  unfold cutS
  have : HT.sIx z.length 0 (some 1) = min 1 z.length := HT.sIx_nat z.length 0 1
  rw [HT.sIx_none, this]
  have hz : z.cps.toList.length = z.length := Array.length_toList
  show S _ = _
  congr 1
  rw [← hz]
  cases z.cps.toList with
  | nil => simp
  | cons a r => simp
section
variable {P : Program} {w : World} {K : PySem.W.Frag} {mg : Str → Option Value} {base : Heap} {f fW : Addr} {fd fdW : FuncData}
theorem ok_plain (F : FnP K "plain_of" sPlain f fd) (FW : FnP K "is_word" sIsWord fW fdW) (GW : FnOk P w K mg base CX0 1 fW fdW ["thing"] spIsWord) (gW : mg "is_word" = some (.ref fW)) (B : Blt mg) (C : Cn mg) : FnOk P w K mg base CX0 2 f fd ["piece"] spPlainOf := by
  have nd := scPlain.nd
  obtain ⟨t1, gF⟩ := C.figs
  obtain ⟨t2, gM⟩ := C.few
  have bW : Binds K fdW ["thing"] [] := FW.bindsN fun _ _ _ _ _ _ us hl => match us, hl with | [_], _ => rfl
  refine F.ok scPlain (fun vs H Q E h => ?_) (fun cdv A outer s H vs Q E hr h => ⟨_, PSs.nox <|
    pss_cons (ps_if (pt_cmpR op_eq (pv 0) pe_str (nomark _)) (pss_one (ps_ret (pe_lst (pa_cons pe_non pa_nil)))) pss_nil) <|
    pss_cons (ps_if (pt_val (pe_call GW hr (by rfl) gW FW.kp bW .nil pass0 (pa_cons (pv 0) pa_nil))) (pss_one (ps_ret (pe_lst (pa_cons (pv 0) pa_nil)))) pss_nil) <|
    pss_cons (ps_set (i := 1) nd rfl (.inl rfl) (pe_ifExp (pt_cmpR op_eq (pe_slice sl_str (pv 0) po_none (po_some pe_int)) pe_str (nomark _)) (pe_slice sl_str (pv 0) (po_some pe_int) po_none) (pv 0))) <|
    pss_cons (ps_if (PW.pt (pw_or (pt_not (pt_chain op_le op_le pe_int (pe_callB call_len_str (by rfl) B.len PySem.boot_len (pa_cons (pv 1) pa_nil)) (pe_glob (v := .int 12) (by rfl) gM ⟨_, rfl⟩)))
        (pw_or1 (pt_not (pt_val (pe_callB (cr_all rfl) (by rfl) B.all (by decide +kernel) (pa_cons (pe_lc (own := [("sign", 2)]) (g := gName 2) (tt := tYes) rfl nd (pi_str (pv 1))
          (blkOk_by (N := nPlain) (sc := defScope sPlain) (by decide +kernel)) (fun _ _ _ _ _ => pg_name (i := 2) nd rfl (Or.inl rfl)) (fun _ _ _ _ _ => pts_nil)
          (fun _ _ _ _ _ => pe_cmpR op_in_sign (pv 2) (pe_glob (v := .str figs) (by rfl) gF ⟨_, rfl⟩) rfl)) pa_nil)))))))
      (pss_one (ps_ret (pe_lst pa_nil))) pss_nil) <|
    pss_one (ps_ret (pe_ifExp (pt_cmpR op_eq (pe_callTy call_strB (by rfl) B.str boot_str (pa_cons (pe_callTy call_int_str (by rfl) B.int boot_int (pa_cons (pv 0) pa_nil)) pa_nil)) (pv 0) (nomark _))
      (pe_lst (pa_cons (pe_callTy call_int_str (by rfl) B.int boot_int (pa_cons (pv 0) pa_nil)) pa_nil)) (pe_lst pa_nil))), ?_⟩)
  · obtain ⟨z, rfl, _⟩ := h
    rfl
  · obtain ⟨z, rfl, hz, hq⟩ := h
    have hsl : sizeLine = 16777216 := sizeLine_eq
    have hzl : z.cps.toList.length = z.length := Array.length_toList
    refine ⟨.str z, rfl, rfl, _, rfl, ?_⟩
    by_cases h1 : z = ("-" : Str)
    · refine ifT (decide_eq_true (by rw [h1])) ⟨(by show 1 ≤ sizeLine; decide), fun p hp => hq _ _ [.non] (Same.new (Same.refl H) hp) hp upd_same ?_⟩
      rw [h1, dash, list_S]
      exact ⟨.non, rfl, rfl, rfl, fun _ => .non⟩
    · have n1 : z.cps.toList ≠ [45] := fun q => h1 (by rw [← S_list z, q, dash])
      refine ifF (decide_eq_false (fun q => h1 (by injection q))) ⟨.str z, rfl, .str z, .str z, rfl, .str z, (fun z' e => by injection e with e; rw [← e]; exact hz), fun H1 s1 => ⟨_, rfl, ?_⟩⟩
      cases hw : isWord (.str z) with
      | true =>
        refine ifT rfl ⟨.str z, rfl, (by show 1 ≤ sizeLine; decide), fun p hp => hq _ _ [.str z] (Same.new s1 (Same.free s1 hp)) (Same.free s1 hp) upd_same ?_⟩
        have e1 : readP z.cps.toList = some (.str z) := by
          unfold readP
          have hw' : wordT z = true := hw
          rw [if_neg n1, S_list, if_pos hw']
        rw [e1]
        exact ⟨.str z, rfl, rfl, rfl, fun _ => .str z⟩
      | false =>
        refine ifF rfl ?_
        -- bare
        have hb : ∃ bz : Str, bz.cps.toList = bareOf z.cps.toList ∧ bz.length ≤ 100000 ∧ ∀ Qb : VK, Qb (.str bz) H1 →
            tIf (tTest (tOp rEq (tSl rSlS (tVar 0) tNoPart (tPart (tC (.int 1)))) (tC (.str ("-" : Str))))) (tSl rSlS (tVar 0) (tPart (tC (.int 1))) tNoPart) (tVar 0) [some (.str z), none, none] H1 Qb := by
          by_cases ht : z.cps.toList.take 1 = [45]
          · have e1 : bareOf z.cps.toList = z.cps.toList.drop 1 := if_pos ht
            refine ⟨S (z.cps.toList.drop 1), by rw [list_S, e1], ?_, fun Qb hQb => ?_⟩
            · show (z.cps.toList.drop 1).toArray.size ≤ 100000
              simp only [List.size_toArray, List.length_drop]
              omega
            · refine ⟨.str z, rfl, 1, rfl, z, rfl, by omega, rfl, _, rfl, ifT (decide_eq_true (by rw [cut_take, ht, dash])) ⟨.str z, rfl, 1, rfl, z, rfl, by omega, ?_⟩⟩
              rw [cut_drop]
              exact hQb
          · have e1 : bareOf z.cps.toList = z.cps.toList := if_neg ht
            refine ⟨z, e1.symm, hz, fun Qb hQb => ?_⟩
            refine ⟨.str z, rfl, 1, rfl, z, rfl, by omega, rfl, _, rfl, ifF (decide_eq_false (fun q => ht (by injection q with q; rw [cut_take, dash] at q; exact S_inj q))) ⟨.str z, rfl, hQb⟩⟩
        obtain ⟨bz, hbz, hbl, hbq⟩ := hb
        have hbzl : bz.cps.toList.length = bz.length := Array.length_toList
        refine hbq _ ?_
        have hwf : ¬ wordT z = true := fun q => by
          have hw' : wordT z = false := hw
          rw [hw'] at q
          cases q
        -- no figures
        have bad : ((decide (1 ≤ (bareOf z.cps.toList).length) && decide ((bareOf z.cps.toList).length ≤ 12)) && (bareOf z.cps.toList).all isDig) = false → ∀ H2, Same H H2 → tRet (tLst tNil) { nx := fun _ H' => Q .non H', rt := Q } [some (.str z), some (.str bz), none] H2 := by
          intro hf H2 s2
          refine ⟨by decide, fun p hp => hq _ _ [] (Same.new s2 (Same.free s2 hp)) (Same.free s2 hp) upd_same ?_⟩
          unfold readP
          rw [if_neg n1, S_list, if_neg hwf, if_neg (by rw [hf]; exact Bool.false_ne_true)]
          rfl
        rw [← hbz, hbzl] at bad
        refine ⟨.str bz, rfl, bz, rfl, by omega, _, _, rfl, rfl, _, rfl, ?_⟩
        by_cases hl1 : 1 ≤ bz.length
        · refine ifT (decide_eq_true (by omega)) ⟨_, _, rfl, rfl, _, rfl, ?_⟩
          by_cases hl2 : bz.length ≤ 12
          · have e12 : decide ((bz.length : Int) ≤ 12) = true := decide_eq_true (by omega)
            refine ifF (by rw [e12]; rfl) ⟨.str bz, rfl, bz, rfl, fun D hD => lc_it walk_str (fun i H' => ∃ acc : List Bool, Same H H' ∧ H' D = some (.lst (acc.map V.bl)) ∧ acc = (bz.cps.toList.take i).map isDig) ⟨[], Same.new s1 (Same.free s1 hD), upd_same, rfl⟩ (fun _ _ _ _ => trivial) (fun i x H2 H3 hi ⟨acc, s2, e, ea⟩ hy => ?_) (fun H2 ⟨acc, s2, e, ea⟩ => ?_)⟩
            · obtain ⟨rfl, c, hc, rfl⟩ := hy
              refine ⟨rfl, yesT ⟨.str ⟨#[c]⟩, rfl, c, figs, rfl, rfl, acc.map V.bl, e, ?_, acc ++ [isDig c], ?_, ?_, ?_⟩⟩
              · have h1 : acc.length ≤ bz.cps.toList.length := by rw [ea]; simp; omega
                rw [List.length_map]
                omega
              · exact Same.new s2 (Same.free s1 hD)
              · rw [upd_same, List.map_append]
                rfl
              · have h3 : bz.cps.toList[i]? = some c := by simpa using hc
                rw [take_next h3, List.map_append, ea]
                rfl
            · have e2 : acc.all id = bz.cps.toList.all isDig := by
                rw [ea]
                have h5 : bz.cps.size = bz.cps.toList.length := Array.length_toList.symm
                rw [h5, List.take_length, List.all_map]
                simp [Function.comp_def]
              refine ⟨D, acc, rfl, .inl (.inl e), _, rfl, ?_⟩
              rw [e2]
              cases hdg : bz.cps.toList.all isDig with
              | false => exact ifT rfl (bad (by rw [hdg, Bool.and_false]) H2 s2)
              | true =>
                refine ifF rfl ?_
                have hb1 : 1 ≤ (bareOf z.cps.toList).length := by rw [← hbz, hbzl]; exact hl1
                have hb2 : (bareOf z.cps.toList).length ≤ 12 := by rw [← hbz, hbzl]; exact hl2
                have hb3 : (bareOf z.cps.toList).all isDig = true := by rw [← hbz]; exact hdg
                obtain ⟨n, hn, hnb⟩ := int_piece hb1 hb2 hb3
                rw [S_list] at hn
                have hz13 : z.length ≤ 640 := by
                  rw [← hzl]
                  unfold bareOf at hb2
                  split at hb2
                  · rw [List.length_drop] at hb2
                    omega
                  · omega
                have hlog : n.natAbs.log2 < 1920 := by
                  by_cases h0 : n.natAbs = 0
                  · rw [h0]; decide
                  · have : n.natAbs < 2 ^ 40 := by omega
                    have := (Nat.log2_lt h0).mpr this
                    omega
                have er : readP z.cps.toList = if Str.ofString (toString n) = z then some (.int n) else none := by
                  unfold readP
                  rw [if_neg n1, S_list, if_neg hwf, if_pos (by rw [decide_eq_true hb1, decide_eq_true hb2, hb3]; rfl), hn]
                refine ⟨.str z, rfl, z, n, rfl, hn, hz13, .inl ⟨n, rfl, hlog, .str z, rfl, rfl, _, rfl, ?_⟩⟩
                by_cases heq : Str.ofString (toString n) = z
                · refine ifT (decide_eq_true (by rw [heq])) ⟨.str z, rfl, z, n, rfl, hn, hz13, (by show 1 ≤ sizeLine; decide), fun p hp => hq _ _ [.int n] (Same.new s2 (Same.free s2 hp)) (Same.free s2 hp) upd_same ?_⟩
                  rw [er, if_pos heq]
                  exact ⟨.int n, rfl, rfl, rfl, fun _ => .int n⟩
                · refine ifF (decide_eq_false (fun q => heq (by injection q))) ⟨by decide, fun p hp => hq _ _ [] (Same.new s2 (Same.free s2 hp)) (Same.free s2 hp) upd_same ?_⟩
                  rw [er, if_neg heq]
                  rfl
          · have e12 : decide ((bz.length : Int) ≤ 12) = false := decide_eq_false (by omega)
            refine ifT (by rw [e12]; rfl) (bad (by rw [decide_eq_false hl2, Bool.and_false, Bool.false_and]) H1 s1)
        · have e1 : decide ((1 : Int) ≤ (bz.length : Int)) = false := decide_eq_false (by omega)
          exact ifF e1 ⟨_, rfl, ifT rfl (bad (by rw [decide_eq_false hl1, Bool.false_and, Bool.false_and]) H1 s1)⟩
end
end K88
set_option maxHeartbeats 4000000
/-! value_of. -/
namespace K88
open PySem PySem.Spec PyProof.Rows L2 LamG NtP
abbrev sValOf : Stmt := top 29
theorem ne_mem {a o : Addr} {as : List Addr} (h : a ∈ as) (n : o ∉ as) : a ≠ o := fun z => by
  subst z
  exact n h
/-- a list of one value, or none -/
def VoR (H : Hp) (o : Option PyData) (xs : List V) : Prop := match o with
  | none => xs = []
  | some d => ∃ v, xs = [v] ∧ Dt H v d ∧ noL d = true
theorem VoR.tupk {H H' : Hp} (k : TupK H H') : ∀ {o : Option PyData} {xs : List V}, VoR H o xs → VoR H' o xs
  | none, _, h => h
  | some _, _, ⟨v, e, h, n⟩ => ⟨v, e, h.tupk k n, n⟩
/-- the open lists, the innermost first -/
inductive StR (H : Hp) : List Addr → List (List PyData) → Prop
  | nil : StR H [] []
  | cons {a : Addr} {xs : List V} {h : List PyData} {as : List Addr} {st : List (List PyData)} : H a = some (.lst xs) → DtAll H xs h → noLs h = true → StR H as st → StR H (a :: as) (h :: st)
theorem StR.mono {H H' : Hp} (k : TupK H H') : ∀ {as : List Addr} {st : List (List PyData)}, StR H as st → (∀ a ∈ as, ∀ u, H a = some u → H' a = some u) → StR H' as st
  | _, _, .nil, _ => .nil
  | _, _, .cons e d n t, h => .cons (h _ (List.mem_cons_self ..) _ e) (d.tupk k n) n (StR.mono k t fun a ha => h a (List.mem_cons_of_mem _ ha))
structure VO (H H' : Hp) (o q : Addr) (as : List Addr) (st : List (List PyData)) (dn : Option PyData) (ys : List V) : Prop where
  s : Same H H'
  ho : H' o = some (.lst (as.map V.ref).reverse)
  st : StR H' as st
  nd : as.Nodup
  no : o ∉ as
  nn : ∀ a ∈ as, H a = none
  hq : H' q = some (.lst ys)
  nq : q ≠ o
  nqa : q ∉ as
  hqn : H q = none
  d : VoR H' dn ys
theorem tupk_new {H : Hp} {e : Addr} {u : HO} (he : H e = none) : TupK H (upd H e u) := fun b xs q => by
  rw [upd_ne (ne_of_none q he)]
  exact q
theorem tupk_lst {H : Hp} {e : Addr} {xs : List V} {u : HO} (he : H e = some (.lst xs)) : TupK H (upd H e u) := fun b ys q => by
  rw [upd_ne (fun z => by rw [z, he] at q; cases q)]
  exact q
section
variable {H H' : Hp} {o q e : Addr} {as : List Addr} {st : List (List PyData)} {dn : Option PyData} {ys : List V} {u : HO}
theorem VO.new (x : VO H H' o q as st dn ys) (he : H' e = none) : VO H (upd H' e u) o q as st dn ys :=
  ⟨Same.new x.s (Same.free x.s he), by rw [upd_ne (ne_of_none x.ho he)]; exact x.ho, x.st.mono (tupk_new he) (fun a _ w h => by rw [upd_ne (ne_of_none h he)]; exact h), x.nd, x.no, x.nn, by rw [upd_ne (ne_of_none x.hq he)]; exact x.hq, x.nq, x.nqa, x.hqn, x.d.tupk (tupk_new he)⟩
theorem StR.at {H : Hp} : ∀ {as : List Addr} {st : List (List PyData)}, StR H as st → ∀ a ∈ as, ∃ xs, H a = some (.lst xs)
  | _, _, .cons e _ _ t, a, ha => by
    rcases List.mem_cons.mp ha with rfl | ha
    · exact ⟨_, e⟩
    · exact StR.at t a ha
theorem StR.len {H : Hp} : ∀ {as : List Addr} {st : List (List PyData)}, StR H as st → as.length = st.length
  | _, _, .nil => rfl
  | _, _, .cons _ _ _ t => by simp [StR.len t]
theorem VO.apart (x : VO H H' o q as st dn ys) (he : H' e = none) : e ≠ o ∧ e ∉ as ∧ e ≠ q ∧ H e = none :=
  ⟨fun z => (by rw [z, x.ho] at he; cases he), fun z => (by
    obtain ⟨xs, h⟩ := x.st.at e z
    rw [h] at he
    cases he), fun z => (by rw [z, x.hq] at he; cases he), Same.free x.s he⟩
theorem VO.same {H2 : Hp} (x : VO H H' o q as st dn ys) (k : Same H' H2) : VO H H2 o q as st dn ys :=
  ⟨Same.trans x.s k, k _ _ x.ho, x.st.mono (fun _ _ h => k _ _ h) (fun _ _ _ h => k _ _ h), x.nd, x.no, x.nn, k _ _ x.hq, x.nq, x.nqa, x.hqn, x.d.tupk fun _ _ h => k _ _ h⟩
theorem TupK.trans {H1 H2 H3 : Hp} (a : TupK H1 H2) (b : TupK H2 H3) : TupK H1 H3 := fun c xs h => b c xs (a c xs h)
/-- open_ones.append([]) -/
theorem VO.push (x : VO H H' o q as st dn ys) (hon : H o = none) (he : H' e = none) : VO H (upd (upd H' e (.lst [])) o (.lst ((as.map V.ref).reverse ++ [.ref e]))) o q (e :: as) ([] :: st) dn ys := by
  have x2 := x.new (u := .lst []) he
  have n1 : e ≠ o := fun z => by rw [z, x.ho] at he; cases he
  have n2 : e ∉ as := fun z => by
    obtain ⟨xs, h⟩ := x.st.at e z
    rw [h] at he
    cases he
  have n3 : e ≠ q := fun z => by rw [z, x.hq] at he; cases he
  have tk : TupK (upd H' e (.lst [])) (upd (upd H' e (.lst [])) o (.lst ((as.map V.ref).reverse ++ [.ref e]))) := tupk_lst x2.ho
  refine ⟨Same.new x2.s hon, by rw [upd_same]; simp, .cons (xs := []) (by rw [upd_ne n1, upd_same]) .nil rfl (x2.st.mono tk fun a ha w h => by rw [upd_ne (ne_mem ha x.no)]; exact h), List.nodup_cons.mpr ⟨n2, x.nd⟩, ?_, ?_, by rw [upd_ne x.nq]; exact x2.hq, x.nq, ?_, x.hqn, x2.d.tupk tk⟩
  · intro z
    rcases List.mem_cons.mp z with z | z
    · exact n1 z.symm
    · exact x.no z
  · intro a ha
    rcases List.mem_cons.mp ha with rfl | ha
    · exact Same.free x.s he
    · exact x.nn a ha
  · intro z
    rcases List.mem_cons.mp z with z | z
    · exact n3 z.symm
    · exact x.nqa z
/-- open_ones.pop() -/
theorem VO.pop {a : Addr} {h : List PyData} (x : VO H H' o q (a :: as) (h :: st) dn ys) (hon : H o = none) : VO H (upd H' o (.lst (as.map V.ref).reverse)) o q as st dn ys := by
  have tk : TupK H' (upd H' o (.lst (as.map V.ref).reverse)) := tupk_lst x.ho
  cases x.st with
  | cons e d n t =>
    exact ⟨Same.new x.s hon, upd_same, t.mono tk fun b hb w hw => by rw [upd_ne (ne_mem (List.mem_cons_of_mem _ hb) x.no)]; exact hw, (List.nodup_cons.mp x.nd).2, fun z => x.no (List.mem_cons_of_mem _ z), fun b hb => x.nn b (List.mem_cons_of_mem _ hb),
      by rw [upd_ne x.nq]; exact x.hq, x.nq, fun z => x.nqa (List.mem_cons_of_mem _ z), x.hqn, x.d.tupk tk⟩
/-- open_ones[-1].append(v) -/
theorem VO.app {a : Addr} {h : List PyData} {xs : List V} {v : V} {d : PyData} (x : VO H H' o q (a :: as) (h :: st) dn ys) (ha : H' a = some (.lst xs)) (hv : Dt H' v d) (hd : noL d = true) : VO H (upd H' a (.lst (xs ++ [v]))) o q (a :: as) ((h ++ [d]) :: st) dn ys := by
  have tk : TupK H' (upd H' a (.lst (xs ++ [v]))) := tupk_lst ha
  have na : a ∉ as := (List.nodup_cons.mp x.nd).1
  cases x.st with
  | cons e dd n t =>
    rw [ha] at e
    cases e
    refine ⟨Same.new x.s (x.nn a (List.mem_cons_self ..)), by rw [upd_ne (fun z => x.no (by rw [z]; exact List.mem_cons_self ..))]; exact x.ho, .cons upd_same (DtAll.tupk tk (dd.app (.cons hv .nil)) ?_) ?_ (t.mono tk fun b hb w hw => by rw [upd_ne (ne_mem hb na)]; exact hw), x.nd, x.no, x.nn, by rw [upd_ne (fun z => x.nqa (by rw [z]; exact List.mem_cons_self ..))]; exact x.hq, x.nq, x.nqa, x.hqn, x.d.tupk tk⟩
    all_goals
      refine noLs_of fun z hz => ?_
      rcases List.mem_append.mp hz with hz | hz
      · have : ∀ {L : List PyData}, noLs L = true → ∀ z ∈ L, noL z = true := by
          intro L
          induction L with
          | nil => intro _ z hz; cases hz
          | cons y L ih =>
            intro h z hz
            simp only [noLs, Bool.and_eq_true] at h
            rcases List.mem_cons.mp hz with rfl | hz
            · exact h.1
            · exact ih h.2 z hz
        exact this n z hz
      · rw [List.mem_singleton.mp hz]
        exact hd
/-- done = one -/
theorem VO.done {p : Addr} {zs : List V} {dn2 : Option PyData} (x : VO H H' o q as st dn ys) (hp : H' p = some (.lst zs)) (n1 : p ≠ o) (n2 : p ∉ as) (n3 : H p = none) (h : VoR H' dn2 zs) : VO H H' o p as st dn2 zs :=
  ⟨x.s, x.ho, x.st, x.nd, x.no, x.nn, hp, n1, n2, n3, h⟩
end
def stN (st : List (List PyData)) : Nat := match st with
  | [] => 0
  | h :: t => 1 + h.length + stN t
theorem len_stN : ∀ st : List (List PyData), st.length ≤ stN st
  | [] => Nat.le_refl _
  | h :: t => by
    have := len_stN t
    simp only [List.length_cons, stN]
    omega
def popV (st : List (List PyData)) (dn : Option PyData) : Option (List (List PyData) × Option PyData) := match st with
  | [] => none
  | h :: t => put t dn (.tuple h)
def spValOf : Sp := fun vs H Q _ => ∃ (p : Addr) (ps : List (List Nat)), vs = [.ref p] ∧ H p = some (.lst (ps.map SV)) ∧ ps.length ≤ 100000 ∧ (∀ z ∈ ps, z.length ≤ 100000) ∧ ∀ H' q xs, Same H H' → H q = none → H' q = some (.lst xs) → VoR H' (valueOf ps) xs → Q (.ref q) H'
abbrev nValOf : List Str := ["pieces", "open_ones", "done", "piece", "one"]
theorem scValOf : FnScope nValOf ["pieces"] (defScope sValOf) := ⟨rfl, rfl, rfl, by decide +kernel, rfl, by decide +kernel, by decide +kernel⟩
section
variable {P : Program} {w : World} {K : PySem.W.Frag} {mg : Str → Option Value} {base : Heap} {f fP : Addr} {fd fdP : FuncData}
theorem ok_valOf (F : FnP K "value_of" sValOf f fd) (FP : FnP K "plain_of" sPlain fP fdP) (GP : FnOk P w K mg base CX0 2 fP fdP ["piece"] spPlainOf) (gP : mg "plain_of" = some (.ref fP)) (B : Blt mg) : FnOk P w K mg base CX0 3 f fd ["pieces"] spValOf := by
  have nd := scValOf.nd
  have bP : Binds K fdP ["piece"] [] := FP.bindsN fun _ _ _ _ _ _ us hl => match us, hl with | [_], _ => rfl
  refine F.ok scValOf (fun vs H Q E h => ?_) (fun cdv A outer s H vs Q E hr h => ⟨_, PSs.nox <|
    pss_cons (ps_par (i := 1) (j := 2) rfl nd rfl rfl (by decide) rfl rfl (pa_cons (pe_lst pa_nil) (pa_cons (pe_lst pa_nil) pa_nil)) (by rfl)) <|
    pss_cons (ps_for PassesOwn.never rfl (pi_list (pv 0)) (pg_name (i := 3) nd rfl (.inl rfl)) <|
      pss_cons (ps_if (pt_cmpR op_eq (pv 3) pe_str (nomark _)) (pss_cons (ps_expr (pe_bm PySem.F.plainAttrs_list PySem.F.slot_list_append PySem.F.type_list_append mt_append (pv 1) (pa_cons (pe_lst pa_nil) pa_nil))) <| pss_one ps_continue) pss_nil) <|
      pss_cons (ps_if (pt_cmpR op_eq (pv 3) pe_str (nomark _)) (pss_one ps_continue) pss_nil) <|
      pss_cons (ps_if (pt_cmpR op_eq (pv 3) pe_str (nomark _))
        (pss_cons (ps_if (pt_cmpR (op_eqNil (Nat.lt_of_succ_lt (hu_of hr))) (pv 1) (pe_lst pa_nil) (nomark _)) (pss_one (ps_ret (pe_lst pa_nil))) pss_nil) <|
         pss_one (ps_set (i := 4) nd rfl (.inl rfl) (pe_lst (pa_cons (pe_callTy call_tuple_of (by rfl) B.tuple boot_tuple (pa_cons (pe_bm0 PySem.F.plainAttrs_list PySem.F.slot_list_pop PySem.F.type_list_pop mt_pop (pv 1)) pa_nil)) pa_nil))))
        (pss_one (ps_set (i := 4) nd rfl (.inl rfl) (pe_call GP hr (by rfl) gP FP.kp bP .nil pass0 (pa_cons (pv 3) pa_nil))))) <|
      pss_cons (ps_if (PW.pt (pw_or (pt_cmpR (op_eqNil (Nat.lt_of_succ_lt (hu_of hr))) (pv 4) (pe_lst pa_nil) (nomark _)) (pw_or1 (PW.pt (pw_and (pt_cmpR (op_eqNil (Nat.lt_of_succ_lt (hu_of hr))) (pv 1) (pe_lst pa_nil) (nomark _)) (pw_and1 (pt_cmpR (op_neNil (Nat.lt_of_succ_lt (hu_of hr))) (pv 2) (pe_lst pa_nil) (nomark _))))))))
        (pss_one (ps_ret (pe_lst pa_nil))) pss_nil) <|
      pss_one (ps_if (pt_cmpR (op_eqNil (Nat.lt_of_succ_lt (hu_of hr))) (pv 1) (pe_lst pa_nil) (nomark _))
        (pss_one (ps_set (i := 2) nd rfl (.inl rfl) (pv 4)))
        (pss_one (ps_expr (pe_bm PySem.F.plainAttrs_list PySem.F.slot_list_append PySem.F.type_list_append mt_append (pe_ix ix_list (pv 1) (pe_un un_neg pe_int) (fun _ _ => rfl)) (pa_cons (pe_ix ix_list (pv 4) pe_int (fun _ _ => rfl)) pa_nil)))))) <|
    pss_one (ps_ret (pe_ifExp (pt_cmpR (op_eqNil (Nat.lt_of_succ_lt (hu_of hr))) (pv 1) (pe_lst pa_nil) (nomark _)) (pv 2) (pe_lst pa_nil))), ?_⟩)
  · obtain ⟨p, ps, rfl, _⟩ := h
    rfl
  · obtain ⟨p, ps, rfl, hp, hpl, hpz, hq⟩ := h
    have hsl : sizeLine = 16777216 := sizeLine_eq
    refine ⟨by decide, fun o ho => ⟨by decide, fun q0 hq0 => ⟨_, _, rfl, ?_⟩⟩⟩
    have nqo : q0 ≠ o := fun z => by rw [z, upd_same] at hq0; cases hq0
    have hq00 : H q0 = none := by rw [upd_ne nqo] at hq0; exact hq0
    refine ⟨.ref p, rfl, p, rfl, ⟨_, .inl (.inl ((upd_ne (ne_of_none hp hq00)).trans ((upd_ne (ne_of_none hp ho)).trans hp)))⟩, for_list (K := K) (a := p) (xs := ps.map SV)
      (fun i σ H' => ∃ (as : List Addr) (st : List (List PyData)) (dn : Option PyData) (q : Addr) (ys : List V) (x3 x4 : Option V), σ = [some (.ref p), some (.ref o), some (.ref q), x3, x4] ∧ VO H H' o q as st dn ys ∧ valueOf ps = go (ps.drop i) st dn ∧ stN st ≤ i)
      ⟨[], [], none, q0, [], none, none, rfl, ⟨Same.new (Same.new (Same.refl H) ho) hq00, by rw [upd_ne nqo.symm, upd_same]; rfl, .nil, List.nodup_nil, by simp, by simp, upd_same, nqo, by simp, hq00, rfl⟩, rfl, Nat.le_refl _⟩
      (fun i σ H1 _ h => ?_) (fun i x σ H1 hx hP => ?_) (fun σ H1 hP => ?_)⟩
    · obtain ⟨as, st, dn, q, ys, x3, x4, rfl, I, _⟩ := h
      exact .inl (.inl (I.s _ _ hp))
    · obtain ⟨as, st, dn, q, ys, x3, x4, rfl, I, hgo, hsn⟩ := hP
      obtain ⟨z, hz, rfl⟩ : ∃ z, ps[i]? = some z ∧ SV z = x := by
        rw [List.getElem?_map] at hx
        cases e : ps[i]? with
        | none => rw [e] at hx; cases hx
        | some z =>
          rw [e] at hx
          exact ⟨z, rfl, Option.some.inj hx⟩
      have hi : i < ps.length := (List.getElem?_eq_some_iff.mp hz).1
      have hlenst : st.length ≤ 100000 := by
        have := len_stN st
        omega
      have hlenas : as.length ≤ 100000 := by rw [I.st.len]; exact hlenst
      rw [drop_get hz, go_cons] at hgo
      have eqz : ∀ (w : Str) (c : Nat), w = S [c] → ∀ b : Bool, decide (z = [c]) = b → decide (V.str (S z) = V.str w) = b := by
        intro w c hw b hb
        rw [← hb, hw, Bool.eq_iff_iff, decide_eq_true_iff, decide_eq_true_iff]
        constructor
        · intro h
          injection h with h
          exact S_inj h
        · intro h
          rw [h]
      -- behind the choice of one
      have cont : ∀ (H2 : Hp) (r : Addr) (zs : List V) (as : List Addr) (st : List (List PyData)), VO H H2 o q as st dn ys → as.length ≤ 100000 → H2 r = some (.lst zs) → r ≠ o → r ∉ as → r ≠ q → H r = none → stN st ≤ i →
          ((zs = [] ∧ valueOf ps = none) ∨ ∃ v d, zs = [v] ∧ Dt H2 v d ∧ noL d = true ∧ valueOf ps = goP (put st dn d) (ps.drop (i + 1))) →
          tSeq (tIfS (tOr (tTest (tOp (rEqNil K) (tVar 4) (tLst tNil))) (tAnd (tTest (tOp (rEqNil K) (tVar 1) (tLst tNil))) (tTest (tOp (rNeNil K) (tVar 2) (tLst tNil))))) (tRet (tLst tNil)) tNext)
            (tIfS (tTest (tOp (rEqNil K) (tVar 1) (tLst tNil))) (tAsg (tVar 4) (gName 2)) (tDrop (tBM K "list" rAppend (tOp (rIxL K) (tVar 1) (tUn (rU fun i => .int (-i)) (tC (.int 1)))) (tCons (tOp (rIxL K) (tVar 4) (tC (.int 0))) tNil))))
            { nx := fun σ H' => ∃ (as : List Addr) (st : List (List PyData)) (dn : Option PyData) (q : Addr) (ys : List V) (x3 x4 : Option V), σ = [some (.ref p), some (.ref o), some (.ref q), x3, x4] ∧ VO H H' o q as st dn ys ∧ valueOf ps = go (ps.drop (i + 1)) st dn ∧ stN st ≤ i + 1, rt := Q,
              ct := fun σ H' => ∃ (as : List Addr) (st : List (List PyData)) (dn : Option PyData) (q : Addr) (ys : List V) (x3 x4 : Option V), σ = [some (.ref p), some (.ref o), some (.ref q), x3, x4] ∧ VO H H' o q as st dn ys ∧ valueOf ps = go (ps.drop (i + 1)) st dn ∧ stN st ≤ i + 1,
              bk := fun σ H' => tRet (tIf (tTest (tOp (rEqNil K) (tVar 1) (tLst tNil))) (tVar 2) (tLst tNil)) { nx := fun _ H' => Q .non H', rt := Q } σ H' }
            [some (.ref p), some (.ref o), some (.ref q), some (SV z), some (.ref r)] H2 := by
        intro H2 r zs as st I hla hr nro nra nrq hrn hst hzs
        refine ⟨.ref r, rfl, by decide, fun b hb => ⟨r, b, zs, rfl, rfl, .inl (.inl ((upd_ne (ne_of_none hr hb)).trans hr)), .inl (.inl upd_same), _, rfl, ?_⟩⟩
        have I2 := I.new (u := .lst []) hb
        have hr2 : (upd H2 b (.lst [])) r = some (.lst zs) := (upd_ne (ne_of_none hr hb)).trans hr
        have stop : ∀ (H3 : Hp) (σ : L2.St) (D : Ends), Same H H3 → valueOf ps = none → D.rt = Q → tRet (tLst tNil) D σ H3 := fun H3 σ D s3 hv hD => ⟨by decide, fun r2 hr2 => by
          rw [hD]
          exact hq _ r2 [] (Same.new s3 (Same.free s3 hr2)) (Same.free s3 hr2) upd_same (by rw [hv]; rfl)⟩
        rcases hzs with ⟨rfl, hv⟩ | ⟨v, d, rfl, hvd, hnd, hv⟩
        · exact ifT rfl (ifT rfl (stop _ _ _ I2.s hv rfl))
        · refine ifF rfl ⟨.ref o, rfl, by decide, fun b2 hb2 => ⟨o, b2, (as.map V.ref).reverse, rfl, rfl, .inl (.inl ((upd_ne (ne_of_none I2.ho hb2)).trans I2.ho)), .inl (.inl upd_same), _, rfl, ?_⟩⟩
          have I3 := I2.new (u := .lst []) hb2
          have hr3 : (upd (upd H2 b (.lst [])) b2 (.lst [])) r = some (.lst [v]) := (upd_ne (ne_of_none hr2 hb2)).trans hr2
          have tk3 : TupK H2 (upd (upd H2 b (.lst [])) b2 (.lst [])) := fun w xs hw => tupk_new hb2 w xs (tupk_new hb w xs hw)
          have hv3 := hvd.tupk tk3 hnd
          cases hI : I3.st with
          | nil =>
            refine ifT rfl ⟨.ref q, rfl, by decide, fun b3 hb3 => ⟨q, b3, ys, rfl, rfl, .inl (.inl ((upd_ne (ne_of_none I3.hq hb3)).trans I3.hq)), .inl (.inl upd_same), _, rfl, ?_⟩⟩
            have I4 := I3.new (u := .lst []) hb3
            cases dn with
            | none =>
              have hy : ys = [] := I3.d
              subst hy
              refine ifF rfl ⟨.ref o, rfl, by decide, fun b4 hb4 => ⟨o, b4, [], rfl, rfl, .inl (.inl ((upd_ne (ne_of_none I4.ho hb4)).trans I4.ho)), .inl (.inl upd_same), _, rfl, ifT rfl ⟨.ref r, rfl, ?_⟩⟩⟩
              have I5 := I4.new (u := .lst []) hb4
              have hr4 := (upd_ne (H := (upd (upd H2 b (.lst [])) b2 (.lst []))) (o := .lst []) (ne_of_none hr3 hb3)).trans hr3
              have hr5 := (upd_ne (H := (upd (upd (upd H2 b (.lst [])) b2 (.lst [])) b3 (.lst []))) (o := .lst []) (ne_of_none hr4 hb4)).trans hr4
              refine ⟨[], [], some d, r, [v], _, _, rfl, I5.done hr5 nro nra hrn ⟨v, rfl, hv3.tupk (fun w xs hw => tupk_new hb4 w xs (tupk_new hb3 w xs hw)) hnd, hnd⟩, by rw [hv]; rfl, by simp [stN]⟩
            | some d0 =>
              obtain ⟨v0, hy, _⟩ := I3.d
              subst hy
              exact ifT rfl (stop _ _ _ I4.s (by rw [hv]; rfl) rfl)
          | cons ea dda na ta =>
            rename_i a xs h as' st'
            refine ifF (by simp) (ifF rfl ⟨.ref o, rfl, by decide, fun b4 hb4 => ⟨o, b4, ((a :: as').map V.ref).reverse, rfl, rfl, .inl (.inl ((upd_ne (ne_of_none I3.ho hb4)).trans I3.ho)), .inl (.inl upd_same), _, rfl, ifF (by simp) ?_⟩⟩)
            have I4 := I3.new (u := .lst []) hb4
            have hr4 := (upd_ne (H := (upd (upd H2 b (.lst [])) b2 (.lst []))) (o := .lst []) (ne_of_none hr3 hb4)).trans hr3
            have ea4 := (upd_ne (H := (upd (upd H2 b (.lst [])) b2 (.lst []))) (o := .lst []) (ne_of_none ea hb4)).trans ea
            have hv4 := hv3.tupk (tupk_new (u := .lst []) hb4) hnd
            have hxl : xs.length ≤ 100000 := by
              rw [dda.len]
              have h1 : stN (h :: st') = 1 + h.length + stN st' := rfl
              omega
            refine ⟨.ref o, rfl, 1, rfl, o, ((a :: as').map V.ref).reverse, -1, .ref a, rfl, rfl, .inl (.inl I4.ho), ?_, .inl ⟨rfl, _, .inl (.inl ea4)⟩, .ref r, rfl, r, [v], 0, v, rfl, rfl, .inl (.inl hr4), rfl, a, xs, v, rfl, rfl, ea4, by omega, ?_⟩
            · rw [List.map_cons, List.reverse_cons]
              exact atI_last _ _
            · exact ⟨a :: as', (h ++ [d]) :: st', dn, q, ys, _, _, rfl, I4.app ea4 hv4 hnd, by rw [hv]; rfl, by simp [stN] at hst ⊢; omega⟩
      refine ⟨SV z, rfl, rfl, _, rfl, ?_⟩
      by_cases h40 : z = [40]
      · refine ifT (eqz _ 40 s40 true (decide_eq_true h40)) ⟨.ref o, rfl, .inl ⟨rfl, _, .inl (.inl I.ho)⟩, by decide, fun e he => ⟨o, _, .ref e, rfl, rfl, (upd_ne (ne_of_none I.ho he)).trans I.ho, by simp; omega, ?_⟩⟩
        refine ⟨e :: as, [] :: st, dn, q, ys, _, _, rfl, I.push ho he, ?_, by simp [stN]; omega⟩
        rw [hgo]
        unfold stepV
        rw [if_pos h40]
        rfl
      · refine ifF (eqz _ 40 s40 false (decide_eq_false h40)) ⟨SV z, rfl, rfl, _, rfl, ?_⟩
        by_cases h32 : z = [32]
        · refine ifT (eqz _ 32 s32 true (decide_eq_true h32)) ⟨as, st, dn, q, ys, _, _, rfl, I, ?_, by omega⟩
          rw [hgo]
          unfold stepV
          rw [if_neg h40, if_pos h32]
          rfl
        · refine ifF (eqz _ 32 s32 false (decide_eq_false h32)) ⟨SV z, rfl, rfl, _, rfl, ?_⟩
          by_cases h41 : z = [41]
          · refine ifT (eqz _ 41 s41 true (decide_eq_true h41)) ⟨.ref o, rfl, by decide, fun b hb => ⟨o, b, (as.map V.ref).reverse, rfl, rfl, .inl (.inl ((upd_ne (ne_of_none I.ho hb)).trans I.ho)), .inl (.inl upd_same), _, rfl, ?_⟩⟩
            have I2 := I.new (u := .lst []) hb
            have est : stepV st dn z = popV st dn := by
              unfold stepV
              rw [if_neg h40, if_neg h32, if_pos h41]
              cases st <;> rfl
            cases hI : I2.st with
            | nil =>
              refine ifT rfl ⟨by decide, fun r hr => hq _ r [] (Same.new I2.s (Same.free I2.s hr)) (Same.free I2.s hr) upd_same ?_⟩
              rw [hgo, est]
              rfl
            | cons ea dda na ta =>
              rename_i a xs h as' st'
              have hrev : ((a :: as').map V.ref).reverse = (as'.map V.ref).reverse ++ [.ref a] := by simp
              refine ifF (by simp) ⟨.ref o, rfl, .inl ⟨rfl, _, .inl (.inl I2.ho)⟩, o, ((a :: as').map V.ref).reverse, .ref a, rfl, rfl, I2.ho, by rw [hrev]; simp, ?_⟩
              have hdl : ((a :: as').map V.ref).reverse.dropLast = (as'.map V.ref).reverse := by rw [hrev]; simp
              rw [hdl]
              have I3 := I2.pop ho
              have nao : a ≠ o := ne_mem (List.mem_cons_self ..) I2.no
              have ea3 := (upd_ne (H := upd H1 b (.lst [])) (o := .lst (as'.map V.ref).reverse) nao).trans ea
              refine ⟨a, xs, rfl, .inl ⟨.inl (.inl ea3), fun l hl => ⟨(by show 1 ≤ sizeLine; decide), fun r hr => ?_⟩⟩⟩
              have I4 := I3.new (u := .tup xs) hl
              have I5 := I4.new (u := .lst [.ref l]) hr
              have tk0 : TupK (upd H1 b (.lst [])) (upd (upd H1 b (.lst [])) o (.lst (as'.map V.ref).reverse)) := tupk_lst I2.ho
              have dd3 := dda.tupk (TupK.trans tk0 (TupK.trans (tupk_new (u := .tup xs) hl) (tupk_new (u := .lst [.ref l]) hr))) na
              obtain ⟨n1, n2, n3, n4⟩ := I4.apart hr
              have hlr : l ≠ r := fun z => by rw [← z, upd_same] at hr; cases hr
              have hst' : stN (h :: st') = 1 + h.length + stN st' := rfl
              refine cont _ r [.ref l] as' st' I5 (by simp at hlenas; omega) upd_same n1 n2 n3 n4 (by omega) (.inr ⟨.ref l, .tuple h, rfl, .tup ((upd_ne hlr).trans upd_same) dd3, by simpa [noL] using na, ?_⟩)
              rw [hgo, est]
              rfl
          · refine ifF (eqz _ 41 s41 false (decide_eq_false h41)) ⟨SV z, rfl, S z, rfl, ?_, fun H2 r xs s2 hrn hr2 hpr => ?_⟩
            · have := hpz z (List.mem_of_getElem? hz)
              show z.toArray.size ≤ 100000
              simpa using this
            · rw [list_S] at hpr
              obtain ⟨n1, n2, n3, n4⟩ := I.apart hrn
              refine cont H2 r xs as st (I.same s2) hlenas hr2 n1 n2 n3 n4 hsn ?_
              have est : stepV st dn z = match readP z with
                | none => none
                | some d => put st dn d := by
                unfold stepV
                rw [if_neg h40, if_neg h32, if_neg h41]
                try rfl
              cases hrd : readP z with
              | none =>
                rw [hrd] at hpr est
                refine .inl ⟨hpr, ?_⟩
                rw [hgo, est]
                rfl
              | some d =>
                rw [hrd] at hpr est
                obtain ⟨v, hv, _, hnl, hdt⟩ := hpr
                refine .inr ⟨v, d, hv, hdt H2, hnl, ?_⟩
                rw [hgo, est]
    · obtain ⟨as, st, dn, q, ys, x3, x4, rfl, I, hgo, hsn⟩ := hP
      have e0 : ps.drop (ps.map SV).length = [] := by rw [List.length_map]; exact List.drop_length
      rw [e0] at hgo
      refine ⟨.ref o, rfl, by decide, fun b hb => ⟨o, b, (as.map V.ref).reverse, rfl, rfl, .inl (.inl ((upd_ne (ne_of_none I.ho hb)).trans I.ho)), .inl (.inl upd_same), _, rfl, ?_⟩⟩
      have I2 := I.new (u := .lst []) hb
      cases I.st with
      | nil =>
        refine ifT rfl ⟨.ref q, rfl, hq _ q ys I2.s I2.hqn I2.hq ?_⟩
        rw [hgo]
        have : go [] [] dn = dn := by cases dn <;> rfl
        rw [this]
        exact I2.d
      | cons e d n t =>
        refine ifF (by simp) ⟨by decide, fun r hr => hq _ r [] (Same.new I2.s (Same.free I2.s hr)) (Same.free I2.s hr) upd_same ?_⟩
        rw [hgo]
        rfl
end
end K88
set_option maxHeartbeats 4000000
/-! read_value. -/
namespace K88
open PySem PySem.Spec PyProof.Rows L2 LamG NtP
/-! ### how large what is read can be -/
mutual
def tw : PyData → Nat
  | .tuple ds => 3 + twL ds
  | d => (vt d).length + 1
def twL : List PyData → Nat
  | [] => 0
  | d :: r => tw d + twL r
end
theorem twL_app : ∀ a b : List PyData, twL (a ++ b) = twL a + twL b
  | [], b => by simp [twL]
  | d :: a, b => by
    simp only [List.cons_append, twL]
    rw [twL_app a b]
    omega
def twS (st : List (List PyData)) : Nat := match st with
  | [] => 0
  | h :: t => 2 + twL h + twS t
def twD (dn : Option PyData) : Nat := match dn with
  | none => 0
  | some d => tw d
def sumP (ps : List (List Nat)) : Nat := match ps with
  | [] => 0
  | p :: r => p.length + 1 + sumP r
theorem readP_len {p : List Nat} {d : PyData} (h : readP p = some d) : tw d ≤ p.length + 1 := by
  unfold readP at h
  split at h
  · rename_i e
    rw [← Option.some.inj h, e]
    simp [tw, vt]
  · split at h
    · rw [← Option.some.inj h]
      simp only [tw, vt]
      rw [list_S]
      exact Nat.le_refl _
    · split at h
      · split at h
        · split at h
          · rename_i e
            rw [← Option.some.inj h]
            simp only [tw, vt]
            rw [e, list_S]
            exact Nat.le_refl _
          · cases h
        · cases h
      · cases h
theorem put_tw {st st' : List (List PyData)} {dn dn' : Option PyData} {d : PyData} (h : put st dn d = some (st', dn')) : twS st' + twD dn' ≤ twS st + twD dn + tw d := by
  cases st with
  | nil =>
    cases dn with
    | none =>
      have e : some (([] : List (List PyData)), some d) = some (st', dn') := h
      cases e
      simp [twS, twD]
    | some d0 => cases h
  | cons a t =>
    have e : some ((a ++ [d]) :: t, dn) = some (st', dn') := h
    cases e
    simp only [twS, twL_app, twL]
    omega
theorem stepV_tw {st st' : List (List PyData)} {dn dn' : Option PyData} {p : List Nat} (h : stepV st dn p = some (st', dn')) : twS st' + twD dn' ≤ twS st + twD dn + (p.length + 1) := by
  unfold stepV at h
  split at h
  · rename_i e
    cases h
    rw [e]
    simp only [twS, twL, List.length_cons, List.length_nil]
    omega
  · split at h
    · cases h
      omega
    · split at h
      · rename_i e
        cases st with
        | nil => cases h
        | cons a t =>
          have h1 := put_tw (st := t) (dn := dn) (d := .tuple a) h
          rw [e]
          simp only [twS, tw, List.length_cons, List.length_nil] at h1 ⊢
          omega
      · cases hr : readP p with
        | none => rw [hr] at h; cases h
        | some d =>
          rw [hr] at h
          have h1 := put_tw h
          have h2 := readP_len hr
          omega
theorem go_tw : ∀ (ps : List (List Nat)) (st : List (List PyData)) (dn : Option PyData) (d : PyData), go ps st dn = some d → tw d ≤ twS st + twD dn + sumP ps
  | [], [], dn, d, h => by
    have h : dn = some d := h
    rw [h]
    simp [twD, twS, sumP]
  | [], _ :: _, _, _, h => by cases h
  | p :: ps, st, dn, d, h => by
    rw [go_cons] at h
    cases hs : stepV st dn p with
    | none => rw [hs] at h; cases h
    | some q =>
      rw [hs] at h
      obtain ⟨st', dn'⟩ := q
      have h1 := go_tw ps st' dn' d h
      have h2 := stepV_tw hs
      simp only [sumP]
      omega
theorem sum_addc (c : Nat) (ps : List (List Nat)) : sumP (addc c ps) ≤ sumP ps + 2 := by
  unfold addc
  split
  · simp only [sumP, List.length_cons, List.length_nil]; omega
  · split
    · split
      · simp only [sumP, List.length_cons, List.length_nil]; omega
      · simp only [sumP, List.length_cons]; omega
    · simp only [sumP, List.length_cons, List.length_nil]; omega
theorem sum_pcs : ∀ l : List Nat, sumP (pcs l) ≤ 2 * l.length
  | [] => Nat.le_refl _
  | c :: l => by
    have h1 := sum_pcs l
    have h2 := sum_addc c (pcs l)
    have e : pcs (c :: l) = addc c (pcs l) := rfl
    rw [e, List.length_cons]
    omega
theorem len_sumP : ∀ ps : List (List Nat), ps.length ≤ sumP ps
  | [] => Nat.le_refl _
  | p :: ps => by
    have := len_sumP ps
    simp only [List.length_cons, sumP]
    omega
theorem mem_sumP : ∀ {ps : List (List Nat)}, ∀ z ∈ ps, z.length ≤ sumP ps
  | p :: ps, z, h => by
    simp only [sumP]
    rcases List.mem_cons.mp h with rfl | h
    · omega
    · have := mem_sumP z h
      omega
theorem valueOf_tw {l : List Nat} {d : PyData} (h : valueOf (pcs l) = some d) : tw d ≤ 2 * l.length := by
  have h1 := go_tw _ _ _ _ h
  have h2 := sum_pcs l
  simp only [twS, twD] at h1
  omega
mutual
theorem nodes_tw : ∀ d : PyData, noL d = true → nodes d ≤ tw d
  | .tuple ds, h => by
    have := nodesL_tw ds (by simpa [noL] using h)
    simp only [nodes, tw]
    omega
  | .none, _ => by simp [nodes, tw]
  | .bool _, _ => by simp [nodes, tw]
  | .int _, _ => by simp [nodes, tw]
  | .str _, _ => by simp [nodes, tw]
  | .list _, h => by cases h
  | .dict _, h => by cases h
theorem nodesL_tw : ∀ ds : List PyData, noLs ds = true → nodesL ds ≤ twL ds
  | [], _ => by simp [nodesL]
  | d :: r, h => by
    simp only [noLs, Bool.and_eq_true] at h
    have h1 := nodes_tw d h.1
    have h2 := nodesL_tw r h.2
    simp only [nodesL, twL]
    omega
end
mutual
theorem short_tw : ∀ d : PyData, tw d ≤ 100000 → short d = true
  | .tuple ds, h => by
    simp only [tw] at h
    have := shorts_tw ds (by omega)
    simpa [short] using this
  | .str z, h => by
    simp only [tw, vt] at h
    have e : z.cps.toList.length = z.length := Array.length_toList
    exact decide_eq_true (by omega)
  | .none, _ => rfl
  | .bool _, _ => rfl
  | .int _, _ => rfl
  | .list _, _ => rfl
  | .dict _, _ => rfl
theorem shorts_tw : ∀ ds : List PyData, twL ds ≤ 100000 → shorts ds = true
  | [], _ => rfl
  | d :: r, h => by
    simp only [twL] at h
    simp only [shorts, Bool.and_eq_true]
    exact ⟨short_tw d (by omega), shorts_tw r (by omega)⟩
end
mutual
theorem vt_tw : ∀ d : PyData, (vt d).length + 1 ≤ tw d
  | .tuple ds => by
    have h := vts_tw ds
    simp only [vt, tw, List.length_cons, List.length_append, List.length_nil]
    omega
  | .none => by simp [tw]
  | .bool _ => by simp [tw]
  | .int _ => by simp [tw]
  | .str _ => by simp [tw]
  | .list _ => by simp [tw]
  | .dict _ => by simp [tw]
theorem vts_tw : ∀ ds : List PyData, (vts ds).length ≤ twL ds
  | [] => by simp [vts]
  | d :: r => by
    have h1 := vt_tw d
    have h2 := vtr_tw r
    simp only [vts, twL, List.length_append]
    omega
theorem vtr_tw : ∀ ds : List PyData, (vtr ds).length ≤ twL ds
  | [] => by simp [vtr]
  | d :: r => by
    have h1 := vt_tw d
    have h2 := vtr_tw r
    simp only [vtr, twL, List.length_append, List.length_cons]
    omega
end
def rdAny : PyData → Option PyData
  | .str z => readV z.cps.toList
  | _ => none
abbrev sRead : Stmt := top 30
def spRead (CN : Addr) : Sp := fun vs H Q E => ∃ (v : V) (d : PyData), vs = [v] ∧ Dt H v d ∧ (∀ z, d = .str z → z.length ≤ 20000) ∧
  (∀ e, rdAny d = some e → ∀ H' v', Same H H' → Dt H' v' e → noL e = true → Q v' H') ∧
  (rdAny d = none → ∀ H' dd, Same H H' → H' dd = none → E (.ref CN) (some dd) (upd H' dd (.xd [(("line" : Str), .int 0)])))
abbrev nRead : List Str := ["text", "found"]
theorem scRead : FnScope nRead ["text"] (defScope sRead) := ⟨rfl, rfl, rfl, by decide +kernel, rfl, by decide +kernel, by decide +kernel⟩
section
variable {P : Program} {w : World} {K : PySem.W.Frag} {mg : Str → Option Value} {base : Heap} {f fV fT fP fO CN fI : Addr} {fd fdV fdT fdP fdO : FuncData}
theorem ok_read (F : FnP K "read_value" sRead f fd) (FV : FnP K "is_value" sIsVal fV fdV) (GV : FnOk P w K mg base CX0 2 fV fdV ["thing"] spIsVal) (gV : mg "is_value" = some (.ref fV))
    (FT : FnP K "value_text" sVT fT fdT) (GT : FnOk P w K mg base (L2.CX P w) 3 fT fdT ["value"] (spVT CN)) (gT : mg "value_text" = some (.ref fT))
    (FP : FnP K "pieces_of" sPcs fP fdP) (GP : FnOk P w K mg base CX0 1 fP fdP ["text"] spPcs) (gP : mg "pieces_of" = some (.ref fP))
    (FO : FnP K "value_of" sValOf fO fdO) (GO : FnOk P w K mg base CX0 3 fO fdO ["pieces"] spValOf) (gO : mg "value_of" = some (.ref fO))
    (T : Nt.NtC P K mg "NoText" CN fI) (B : Blt mg) : FnOk P w K mg base (L2.CX P w) 4 f fd ["text"] (spRead CN) := by
  have nd := scRead.nd
  have bV : Binds K fdV ["thing"] [] := FV.bindsN fun _ _ _ _ _ _ us hl => match us, hl with | [_], _ => rfl
  have bT : Binds K fdT ["value"] [] := FT.bindsN fun _ _ _ _ _ _ us hl => match us, hl with | [_], _ => rfl
  have bP : Binds K fdP ["text"] [] := FP.bindsN fun _ _ _ _ _ _ us hl => match us, hl with | [_], _ => rfl
  have bO : Binds K fdO ["pieces"] [] := FO.bindsN fun _ _ _ _ _ _ us hl => match us, hl with | [_], _ => rfl
  refine F.ok scRead (fun vs H Q E h => ?_) (fun cdv A outer s H vs Q E hr h => ⟨_, 
    pss_cons (ps_if (pt_not (pt_val (pe_callB call_isi (by rfl) B.isi PyProof.Rows.boot_isinstance (pa_cons (pv 0) (pa_cons (pe_bltn (v := .ty "str") (by rfl) B.str boot_str rfl) pa_nil))))) (pss_one (ps_raiseNt rfl T hr (takes_of (E := E) rfl rfl rfl rfl) (pa_cons pe_str (pa_cons pe_int pa_nil)) (by rfl) (by decide))) pss_nil) <|
    pss_cons (ps_set (i := 1) nd rfl (.inl rfl) (pe_call GO hr (by rfl) gO FO.kp bO .nil pass0 (pa_cons (pe_call GP (hr.mono (by decide)) (by rfl) gP FP.kp bP .nil pass0 (pa_cons (pv 0) pa_nil)) pa_nil))) <|
    pss_cons (ps_if (PW.pt (pw_or (pt_cmpR (op_eqNil (Nat.lt_of_succ_lt (hu_of hr))) (pv 1) (pe_lst pa_nil) (nomark _))
        (pw_or (pt_not (pt_val (pe_call GV (hr.mono (by decide)) (by rfl) gV FV.kp bV .nil pass0 (pa_cons (pe_ix ix_list (pv 1) pe_int (fun _ _ => rfl)) pa_nil))))
        (pw_or1 (pt_cmpR op_ne (pe_call GT hr (by rfl) gT FT.kp bT .nil (passes_call (E := E) (takes_of (E := E) rfl rfl rfl rfl) (fun _ _ _ _ h => h)) (pa_cons (pe_ix ix_list (pv 1) pe_int (fun _ _ => rfl)) pa_nil)) (pv 0) (nomark _))))))
      (pss_one (ps_raiseNt rfl T hr (takes_of (E := E) rfl rfl rfl rfl) (pa_cons pe_str (pa_cons pe_int pa_nil)) (by rfl) (by decide))) pss_nil) <|
    pss_one (ps_ret (pe_ix ix_list (pv 1) pe_int (fun _ _ => rfl))), ?_⟩)
  · obtain ⟨v, d, rfl, _⟩ := h
    rfl
  · obtain ⟨v, d, rfl, hd, hz, hok, hbad⟩ := h
    refine ⟨v, rfl, v, .ty "str", _, .type "str", _, rfl, .ty _, hd.ty, kit_str d, _, rfl, ?_⟩
    cases hs : isStr d with
    | false =>
      have hn : rdAny d = none := by cases d <;> first | rfl | cases hs
      exact ifT rfl ⟨_, _, rfl, fun dd hdd => hbad hn H dd (Same.refl H) hdd⟩
    | true =>
      cases hd with
      | str z =>
        have hzl := hz z rfl
        have hzz : z.cps.toList.length = z.length := Array.length_toList
        have hsum := sum_pcs z.cps.toList
        refine ifF rfl ⟨.str z, rfl, z, rfl, by omega, fun H1 p s1 hpn hp => ?_⟩
        refine ⟨p, pcs z.cps.toList, rfl, hp, ?_, fun y hy => ?_, fun H2 q xs s2 hqn hq hvo => ?_⟩
        · have := len_sumP (pcs z.cps.toList)
          omega
        · have := mem_sumP y hy
          omega
        · have s12 := Same.trans s1 s2
          refine ⟨.ref q, rfl, by decide, fun b hb => ⟨q, b, xs, rfl, rfl, .inl (.inl ((upd_ne (ne_of_none hq hb)).trans hq)), .inl (.inl upd_same), _, rfl, ?_⟩⟩
          have s3 : Same H (upd H2 b (.lst [])) := Same.new s12 (Same.free s12 hb)
          cases hv : valueOf (pcs z.cps.toList) with
          | none =>
            rw [hv] at hvo
            have hx : xs = [] := hvo
            subst hx
            have hn : rdAny (.str z) = none := by
              show readV z.cps.toList = none
              unfold readV
              rw [hv]
            exact ifT rfl (ifT rfl ⟨_, _, rfl, fun dd hdd => hbad hn _ dd s3 hdd⟩)
          | some e =>
            rw [hv] at hvo
            obtain ⟨v', hx, hde, hnl⟩ := hvo
            subst hx
            have htw := valueOf_tw hv
            have hde3 : Dt (upd H2 b (.lst [])) v' e := hde.tupk (tupk_new hb) hnl
            have hq3 : (upd H2 b (.lst [])) q = some (.lst [v']) := (upd_ne (ne_of_none hq hb)).trans hq
            have hnd := nodes_tw e hnl
            have hsh := short_tw e (by omega)
            refine ifF rfl ⟨.ref q, rfl, q, [v'], 0, v', rfl, rfl, .inl (.inl hq3), rfl, v', e, rfl, hde3, by omega, hsh, fun H4 s4 => ⟨_, rfl, ?_⟩⟩
            have s5 := Same.trans s3 s4
            have erd : rdAny (.str z) = if (okAt 59 e && decide (vt e = z.cps.toList)) = true then some e else none := by
              show readV z.cps.toList = _
              unfold readV
              rw [hv]
            cases hoke : okAt 59 e with
            | false =>
              have hn : rdAny (.str z) = none := by rw [erd, hoke]; rfl
              exact ifT rfl (ifT rfl ⟨_, _, rfl, fun dd hdd => hbad hn _ dd s5 hdd⟩)
            | true =>
              have hvl := vt_tw e
              refine ifF rfl ⟨.ref q, rfl, q, [v'], 0, v', rfl, rfl, .inl (.inl (s4 _ _ hq3)), rfl, v', e, rfl, hde3.same s4, by omega, hsh, fun _ => ⟨by omega, fun H5 s6 => ?_⟩, fun h => ?_⟩
              · have s7 := Same.trans s5 s6
                refine ⟨.str z, rfl, rfl, _, rfl, ?_⟩
                by_cases heq : vt e = z.cps.toList
                · refine ifF (by rw [heq, S_list, decide_eq_true rfl]; rfl) ⟨.ref q, rfl, q, [v'], 0, v', rfl, rfl, .inl (.inl (s6 _ _ (s4 _ _ hq3))), rfl, hok e (by rw [erd, hoke, decide_eq_true heq]; rfl) _ v' s7 ((hde3.same s4).same s6) hnl⟩
                · have hn : rdAny (.str z) = none := by rw [erd, hoke, decide_eq_false heq]; rfl
                  refine ifT (by rw [decide_eq_false (fun w => heq (by injection w with w; rw [← w, list_S]))]; rfl) ⟨_, _, rfl, fun dd hdd => hbad hn _ dd s7 hdd⟩
              · rw [hoke] at h
                cases h
      | _ => cases hs
end
end K88
set_option maxHeartbeats 4000000
/-! The draws: _law_begun, _law_mixed, _law_draw, _law_pick. -/
namespace K88
open PySem PySem.Spec PyProof.Rows L2 LamG NtP
/-! ### the state of the draws -/
def stK (g c : Addr) (r t : Int) : List (Key × V) := [(.inr "great", .ref g), (.inr "cells", .ref c), (.inr "rest", .int r), (.inr "turn", .int t)]
theorem val_great (g c : Addr) (r t : Int) : valV (stK g c r t) (.inr "great") = some (.ref g) := by
  unfold stK
  rw [valV_pos rfl]
theorem ne_key {a b : Str} (h : decide (a = b) = false) : ¬ (Sum.inr a : Key) = Sum.inr b := fun z => by
  injection z with z
  exact of_decide_eq_false h z
theorem val_cells (g c : Addr) (r t : Int) : valV (stK g c r t) (.inr "cells") = some (.ref c) := by
  unfold stK
  rw [valV_neg (ne_key (by decide +kernel)), valV_pos rfl]
theorem val_rest (g c : Addr) (r t : Int) : valV (stK g c r t) (.inr "rest") = some (.int r) := by
  unfold stK
  rw [valV_neg (ne_key (by decide +kernel)), valV_neg (ne_key (by decide +kernel)), valV_pos rfl]
theorem val_turn (g c : Addr) (r t : Int) : valV (stK g c r t) (.inr "turn") = some (.int t) := by
  unfold stK
  rw [valV_neg (ne_key (by decide +kernel)), valV_neg (ne_key (by decide +kernel)), valV_neg (ne_key (by decide +kernel)), valV_pos rfl]
theorem put_rest (g c : Addr) (r t r' : Int) : putK (stK g c r t) (.inr "rest") (.int r') = stK g c r' t := by
  have h1 := ne_key (a := "great") (b := "rest") (by decide +kernel)
  have h2 := ne_key (a := "cells") (b := "rest") (by decide +kernel)
  have h3 := ne_key (a := "turn") (b := "rest") (by decide +kernel)
  unfold putK stK
  simp only [List.any_cons, List.map_cons, List.map_nil, decide_eq_false h1, decide_eq_false h2, decide_true, Bool.false_or, Bool.true_or, if_true, if_neg h1, if_neg h2, if_neg h3]
theorem put_turn (g c : Addr) (r t t' : Int) : putK (stK g c r t) (.inr "turn") (.int t') = stK g c r t' := by
  have h1 := ne_key (a := "great") (b := "turn") (by decide +kernel)
  have h2 := ne_key (a := "cells") (b := "turn") (by decide +kernel)
  have h3 := ne_key (a := "rest") (b := "turn") (by decide +kernel)
  unfold putK stK
  simp only [List.any_cons, List.map_cons, List.map_nil, decide_eq_false h1, decide_eq_false h2, decide_eq_false h3, decide_true, Bool.false_or, Bool.true_or, if_true, if_neg h1, if_neg h2, if_neg h3]
/-- the state at s, its lists at g and c, at most n turns -/
def StO (H : Hp) (s g c : Addr) (n : Int) : Prop := ∃ (gs cs : List Int) (r t : Int), H s = some (.dK (stK g c r t)) ∧ H g = some (.lst (gs.map V.int)) ∧ H c = some (.lst (cs.map V.int)) ∧ g ≠ c ∧ 0 ≤ t ∧ t ≤ n
/-- all but s and g is as it was -/
def Fr3 (s g : Addr) (H H' : Hp) : Prop := ∀ b o, H b = some o → b ≠ s → b ≠ g → H' b = some o
theorem Fr3.refl (s g : Addr) (H : Hp) : Fr3 s g H H := fun _ _ h _ _ => h
theorem Fr3.trans {s g : Addr} {H1 H2 H3 : Hp} (a : Fr3 s g H1 H2) (b : Fr3 s g H2 H3) : Fr3 s g H1 H3 := fun x o h n1 n2 => b x o (a x o h n1 n2) n1 n2
theorem Fr3.of {s g : Addr} {H H' : Hp} (k : Same H H') : Fr3 s g H H' := fun b o h _ _ => k b o h
theorem Fr3.set_s {s g : Addr} {H H' : Hp} {u : HO} (k : Fr3 s g H H') : Fr3 s g H (upd H' s u) := fun b o h n1 n2 => by
  rw [upd_ne n1]
  exact k b o h n1 n2
theorem Fr3.set_g {s g : Addr} {H H' : Hp} {u : HO} (k : Fr3 s g H H') : Fr3 s g H (upd H' g u) := fun b o h n1 n2 => by
  rw [upd_ne n2]
  exact k b o h n1 n2
theorem Fr3.new {s g e : Addr} {H H' : Hp} {u : HO} (k : Fr3 s g H H') (he : H' e = none) : Fr3 s g H (upd H' e u) := fun b o h n1 n2 => by
  have h2 := k b o h n1 n2
  rw [upd_ne (ne_of_none h2 he)]
  exact h2
theorem StO.same {H H' : Hp} {s g c : Addr} {n : Int} (x : StO H s g c n) (k : Same H H') : StO H' s g c n := by
  obtain ⟨gs, cs, r, t, h1, h2, h3, h⟩ := x
  exact ⟨gs, cs, r, t, k _ _ h1, k _ _ h2, k _ _ h3, h⟩
theorem StO.more {H : Hp} {s g c : Addr} {n m : Int} (x : StO H s g c n) (k : n ≤ m) : StO H s g c m := by
  obtain ⟨gs, cs, r, t, h1, h2, h3, h4, h5, h6⟩ := x
  exact ⟨gs, cs, r, t, h1, h2, h3, h4, h5, by omega⟩
theorem StO.new {H : Hp} {s g c e : Addr} {n : Int} {u : HO} (x : StO H s g c n) (he : H e = none) : StO (upd H e u) s g c n := x.same (Same.new (Same.refl H) he)
theorem StO.ne_sg {H : Hp} {s g c : Addr} {n : Int} (x : StO H s g c n) : s ≠ g ∧ s ≠ c ∧ g ≠ c := by
  obtain ⟨gs, cs, r, t, h1, h2, h3, h4, _⟩ := x
  refine ⟨fun z => ?_, fun z => ?_, h4⟩
  · rw [z, h2] at h1
    cases h1
  · rw [z, h3] at h1
    cases h1
theorem merge_st (g c : Addr) (r t : Int) : mergeK [] (stK g c r t) = stK g c r t := by
  have h1 : ¬ ("great" : Str) = "cells" := of_decide_eq_false (by decide +kernel)
  have h2 : ¬ ("great" : Str) = "rest" := of_decide_eq_false (by decide +kernel)
  have h3 : ¬ ("great" : Str) = "turn" := of_decide_eq_false (by decide +kernel)
  have h4 : ¬ ("cells" : Str) = "rest" := of_decide_eq_false (by decide +kernel)
  have h5 : ¬ ("cells" : Str) = "turn" := of_decide_eq_false (by decide +kernel)
  have h6 : ¬ ("rest" : Str) = "turn" := of_decide_eq_false (by decide +kernel)
  unfold mergeK stK
  simp [putK, h1, h2, h3, h4, h5, h6]
abbrev sBegun : Stmt := top 32
abbrev sMixed : Stmt := top 33
abbrev sDraw : Stmt := top 34
abbrev sPick : Stmt := top 35
def spMixed : Sp := fun vs H Q _ => ∃ (s g c : Addr) (n : Int), vs = [.ref s] ∧ StO H s g c n ∧ n ≤ 1000000 ∧ ∀ H' i, Fr3 s g H H' → StO H' s g c (n + 1) → Q (.int i) H'
abbrev nMixed : List Str := ["state", "turn", "found", "prime", "blend", "cell"]
theorem scMixed : FnScope nMixed ["state"] (defScope sMixed) := ⟨rfl, rfl, rfl, by decide +kernel, rfl, by decide +kernel, by decide +kernel⟩
section
variable {P : Program} {w : World} {K : PySem.W.Frag} {mg : Str → Option Value} {base : Heap} {f fM fD : Addr} {fd fdM fdD : FuncData}
theorem ok_mixed (F : FnP K "_law_mixed" sMixed f fd) (B : Blt mg) : FnOk P w K mg base CX0 1 f fd ["state"] spMixed := by
  have nd := scMixed.nd
  refine F.ok scMixed (fun vs H Q E h => ?_) (fun cdv A outer s H vs Q E hr h => ⟨_, PSs.nox <|
    pss_cons (ps_par (i := 1) (j := 2) rfl nd rfl rfl (by decide) rfl rfl (pa_cons (pe_op op_add (pe_dget (hu_of hr) (pv 0) pe_str (fun _ _ => rfl)) pe_int) (pa_cons pe_int pa_nil)) (by rfl)) <|
    pss_cons (ps_dput (hu_of hr) (pv 0) pe_str (pv 1) rfl) <|
    pss_cons (ps_for PassesOwn.never rfl (pi_list (pe_lst (pa_cons pe_int (pa_cons pe_int (pa_cons pe_int (pa_cons pe_int pa_nil)))))) (pg_name (i := 3) nd rfl (.inl rfl)) <|
      pss_cons (ps_set (i := 4) nd rfl (.inl rfl) (pe_op op_add (pe_op op_mul pe_int (pv 1)) (pe_op op_fdivN (pv 3) pe_int))) <|
      pss_cons (ps_for PassesOwn.never rfl (pi_list (pe_dget (hu_of hr) (pv 0) pe_str (fun _ _ => rfl))) (pg_name (i := 5) nd rfl (.inl rfl)) <|
        pss_one (ps_set (i := 4) nd rfl (.inl rfl) (pe_op op_mod (pe_callTy call_int1 (by rfl) B.int boot_int (pa_cons (pe_op op_add (pe_op op_add (pe_op op_mul (pv 4) pe_int) (pv 5)) (pv 1)) pa_nil)) (pv 3)))) <|
      pss_one (ps_set (i := 2) nd rfl (.inl rfl) (pe_op op_add (pe_op op_mul (pv 2) pe_int) (pe_op op_mod (pe_callTy call_int1 (by rfl) B.int boot_int (pa_cons (pe_op op_pow (pv 4) pe_int) pa_nil)) (pv 3))))) <|
    pss_one (ps_ret (pv 2)), ?_⟩)
  · obtain ⟨s, g, c, n, rfl, _⟩ := h
    rfl
  · obtain ⟨st, g, c, n, rfl, hS, hn, hq⟩ := h
    have hne := hS.ne_sg
    obtain ⟨gs, cs, r, t, h1, h2, h3, h4, h5, h6⟩ := hS
    have hsl : sizeLine = 16777216 := sizeLine_eq
    have gt := DGet.k (k := .inr ("turn" : Str)) h1
    rw [val_turn] at gt
    refine ⟨.ref st, rfl, st, .int t, rfl, gt, t, 1, rfl, rfl, _, _, rfl, ?_⟩
    refine ⟨_, rfl, .ref st, rfl, st, _, rfl, DPut.k (k := .inr ("turn" : Str)) h1 (by show 4 < sizeLine; omega), ?_⟩
    rw [put_turn]
    have e1 : (upd H st (.dK (stK g c r (t + 1)))) st = some (.dK (stK g c r (t + 1))) := upd_same
    have e2 : (upd H st (.dK (stK g c r (t + 1)))) g = some (.lst (gs.map V.int)) := (upd_ne hne.1.symm).trans h2
    have e3 : (upd H st (.dK (stK g c r (t + 1)))) c = some (.lst (cs.map V.int)) := (upd_ne hne.2.1.symm).trans h3
    refine ⟨by decide, fun a ha => ?_⟩
    generalize hG : upd (upd H st (.dK (stK g c r (t + 1)))) a (.lst [.int 2147483629, .int 2147483587, .int 2147483579, .int 2147483563]) = G
    have ga : G a = some (.lst [.int 2147483629, .int 2147483587, .int 2147483579, .int 2147483563]) := by rw [← hG, upd_same]
    have g1 : G st = some (.dK (stK g c r (t + 1))) := by rw [← hG, upd_ne (ne_of_none e1 ha)]; exact e1
    have g2 : G g = some (.lst (gs.map V.int)) := by rw [← hG, upd_ne (ne_of_none e2 ha)]; exact e2
    have g3 : G c = some (.lst (cs.map V.int)) := by rw [← hG, upd_ne (ne_of_none e3 ha)]; exact e3
    have hfr : Fr3 st g H G := by rw [← hG]; exact Fr3.new (Fr3.set_s (Fr3.refl _ _ _)) ha
    refine ⟨a, rfl, ⟨_, .inl (.inl ga)⟩, for_list (K := K) (a := a) (xs := [.int 2147483629, .int 2147483587, .int 2147483579, .int 2147483563]) (fun i σ H' => H' = G ∧ ∃ (fo : Int) (p b x : Option V), σ = [some (.ref st), some (.int (t + 1)), some (.int fo), p, b, x])
      ⟨rfl, _, _, _, _, rfl⟩ (fun i σ H' _ h => by rw [h.1]; exact .inl (.inl ga)) (fun i x σ H' hx hP => ?_) (fun σ H' hP => ?_)⟩
    · obtain ⟨rfl, fo, p, b, x5, rfl⟩ := hP
      obtain ⟨pr, rfl, hp1, hp2⟩ : ∃ pr : Int, x = .int pr ∧ 0 < pr ∧ pr ≤ 2147483629 := by
        have := List.mem_of_getElem? hx
        simp only [List.mem_cons, List.not_mem_nil, or_false] at this
        rcases this with h | h | h | h <;> exact ⟨_, h, by decide, by decide⟩
      refine ⟨_, rfl, 69621, t + 1, rfl, rfl, .inl ⟨by decide, by decide⟩, _, rfl, pr, 41, rfl, rfl, ⟨by decide, by decide⟩, _, _, rfl, rfl, ?_⟩
      have gc := DGet.k (k := .inr ("cells" : Str)) g1
      rw [val_cells] at gc
      have hb0 : -(2 ^ 50) < 69621 * (t + 1) + pr.fdiv 41 ∧ 69621 * (t + 1) + pr.fdiv 41 < 2 ^ 50 := by
        have : pr.fdiv 41 = pr / 41 := Int.fdiv_eq_ediv_of_nonneg _ (by decide)
        rw [this]
        omega
      refine ⟨.ref st, rfl, st, .ref c, rfl, gc, c, rfl, ⟨_, .inl (.inl g3)⟩, for_list (K := K) (a := c) (xs := cs.map V.int) (fun i σ H'' => H'' = H' ∧ ∃ (bl : Int) (x : Option V), -(2 ^ 50) < bl ∧ bl < 2 ^ 50 ∧ σ = [some (.ref st), some (.int (t + 1)), some (.int fo), some (.int pr), some (.int bl), x])
        ⟨rfl, _, _, hb0.1, hb0.2, rfl⟩ (fun i σ H'' _ h => by rw [h.1]; exact .inl (.inl g3)) (fun j x σ H'' hx hP => ?_) (fun σ H'' hP => ?_)⟩
      · obtain ⟨rfl, bl, x6, hb1, hb2, rfl⟩ := hP
        obtain ⟨ce, rfl⟩ : ∃ ce : Int, x = .int ce := by
          obtain ⟨ce, _, h⟩ := List.mem_map.mp (List.mem_of_getElem? hx)
          exact ⟨ce, h.symm⟩
        refine ⟨.int bl, rfl, bl, 48271, rfl, rfl, .inr ⟨by decide, by decide⟩, .int ce, rfl, _, ce, rfl, rfl, .int (t + 1), rfl, _, t + 1, rfl, rfl, .inl ⟨_, rfl, .int pr, rfl, _, pr, rfl, rfl, hp1, rfl, _, _, ?_, ?_, rfl⟩⟩
        · have := Int.emod_nonneg (bl * 48271 + ce + (t + 1)) (show pr ≠ 0 by omega)
          omega
        · have := Int.emod_lt_of_pos (bl * 48271 + ce + (t + 1)) hp1
          omega
      · obtain ⟨rfl, bl, x6, hb1, hb2, rfl⟩ := hP
        refine ⟨.int fo, rfl, fo, 2147483659, rfl, rfl, .inr ⟨by decide, by decide⟩, .int bl, rfl, bl, 5, rfl, rfl, ⟨by decide, by decide, by omega⟩, .inl ⟨_, rfl, .int pr, rfl, _, pr, rfl, rfl, hp1, _, _, rfl, rfl, rfl, _, _, _, _, rfl⟩⟩
    · obtain ⟨rfl, fo, p, b, x5, rfl⟩ := hP
      exact ⟨_, rfl, hq _ fo hfr ⟨gs, cs, r, t + 1, g1, g2, g3, h4, by omega, by omega⟩⟩
end
def spDraw : Sp := fun vs H Q _ => ∃ (s g c : Addr) (n room : Int), vs = [.ref s, .int room] ∧ StO H s g c n ∧ n ≤ 1000000 ∧ 0 < room ∧ room < 1000000 ∧ ∀ H' i, Fr3 s g H H' → StO H' s g c (n + 1) → 0 ≤ i → i < room → Q (.int i) H'
abbrev nDraw : List Str := ["state", "room", "found"]
theorem scDraw : FnScope nDraw ["state", "room"] (defScope sDraw) := ⟨rfl, rfl, rfl, by decide +kernel, rfl, by decide +kernel, by decide +kernel⟩
def spPick : Sp := fun vs H Q _ => ∃ (s g c l : Addr) (n : Int) (xs : List V), vs = [.ref s, .ref l] ∧ StO H s g c n ∧ n ≤ 1000000 ∧ H l = some (.lst xs) ∧ l ≠ s ∧ l ≠ g ∧ 0 < xs.length ∧ xs.length < 1000000 ∧ ∀ H' v, Fr3 s g H H' → StO H' s g c (n + 1) → v ∈ xs → Q v H'
abbrev nPick : List Str := ["state", "some"]
theorem scPick : FnScope nPick ["state", "some"] (defScope sPick) := ⟨rfl, rfl, rfl, by decide +kernel, rfl, by decide +kernel, by decide +kernel⟩
def spBegun (K : PySem.W.Frag) : Sp := fun vs H Q _ => ∃ (a : Addr) (ns : List Int), vs = [.ref a] ∧ SqL K H a (ns.map V.int) ∧ ns.length ≤ 1000 ∧ ∀ H' s g c, Same H H' → StO H' s g c 0 → Q (.ref s) H'
abbrev nBegun : List Str := ["script", "great", "cell"]
theorem scBegun : FnScope nBegun ["script"] (defScope sBegun) := ⟨rfl, rfl, rfl, by decide +kernel, rfl, by decide +kernel, by decide +kernel⟩
section
variable {P : Program} {w : World} {K : PySem.W.Frag} {mg : Str → Option Value} {base : Heap} {f fM fD : Addr} {fd fdM fdD : FuncData}
theorem ok_draw (F : FnP K "_law_draw" sDraw f fd) (FM : FnP K "_law_mixed" sMixed fM fdM) (gM : mg "_law_mixed" = some (.ref fM)) (B : Blt mg) : FnOk P w K mg base CX0 2 f fd ["state", "room"] spDraw := by
  have nd := scDraw.nd
  have GM : FnOk P w K mg base CX0 1 fM fdM ["state"] spMixed := ok_mixed FM B
  have bM : Binds K fdM ["state"] [] := FM.bindsN fun _ _ _ _ _ _ us hl => match us, hl with | [_], _ => rfl
  refine F.ok scDraw (fun vs H Q E h => ?_) (fun cdv A outer s H vs Q E hr h => ⟨_, PSs.nox <|
    pss_cons (ps_if (pt_cmpR op_eq (pe_dget (hu_of hr) (pv 0) pe_str (fun _ _ => rfl)) pe_int (nomark _))
      (pss_one (ps_dput (hu_of hr) (pv 0) pe_str (pe_ifExp (pt_cmpR (op_neNil (Nat.lt_of_succ_lt (hu_of hr))) (pe_dget (hu_of hr) (pv 0) pe_str (fun _ _ => rfl)) (pe_lst pa_nil) (nomark _))
        (pe_bm PySem.F.plainAttrs_list PySem.F.slot_list_pop PySem.F.type_list_pop mt_popAt (pe_dget (hu_of hr) (pv 0) pe_str (fun _ _ => rfl)) (pa_cons pe_int pa_nil))
        (pe_call GM hr (by rfl) gM FM.kp bM .nil pass0 (pa_cons (pv 0) pa_nil))) rfl)) pss_nil) <|
    pss_cons (ps_set (i := 2) nd rfl (.inl rfl) (pe_op op_mod (pe_callTy call_int1 (by rfl) B.int boot_int (pa_cons (pe_dget (hu_of hr) (pv 0) pe_str (fun _ _ => rfl)) pa_nil)) (pv 1))) <|
    pss_cons (ps_dput (hu_of hr) (pv 0) pe_str (pe_op op_fdivN (pe_dget (hu_of hr) (pv 0) pe_str (fun _ _ => rfl)) (pv 1)) rfl) <|
    pss_one (ps_ret (pv 2)), ?_⟩)
  · obtain ⟨s, g, c, n, room, rfl, _⟩ := h
    rfl
  · obtain ⟨st, g, c, n, room, rfl, hS, hn, hr0, hr1, hq⟩ := h
    have hsl : sizeLine = 16777216 := sizeLine_eq
    -- the last three statements
    have tail : ∀ H1, Fr3 st g H H1 → StO H1 st g c (n + 1) → tSeq (tAsg (tOp (rI (fun _ j => 0 < j) fun i j => .int (i % j)) (tCB (fun xs H Q => (∃ i, xs = [.int i] ∧ Q (.int i) H) ∨ ∃ k, xs = [.bl k] ∧ Q (.int (if k then 1 else 0)) H) (tCons (tDGet (tVar 0) (tC (.str ("rest" : Str)))) tNil)) (tVar 1)) (gName 2))
        (tSeq (sDPut (tVar 0) (tC (.str ("rest" : Str))) (tOp (rI CDivN fun i j => .int (i.fdiv j)) (tDGet (tVar 0) (tC (.str ("rest" : Str)))) (tVar 1))) (tRet (tVar 2))) { nx := fun _ H' => Q .non H', rt := Q } [some (.ref st), some (.int room), none] H1 := by
      intro H1 k1 hS1
      obtain ⟨gs, cs, r, t, h1, h2, h3, h4, h5, h6⟩ := hS1
      have gr := DGet.k (k := .inr ("rest" : Str)) h1
      rw [val_rest] at gr
      have hne : st ≠ g := fun z => by rw [z, h2] at h1; cases h1
      have hnc : st ≠ c := fun z => by rw [z, h3] at h1; cases h1
      refine ⟨.ref st, rfl, st, .int r, rfl, gr, .inl ⟨r, rfl, .int room, rfl, r, room, rfl, rfl, hr0, .ref st, rfl, st, .int r, rfl, gr, .int room, rfl, r, room, rfl, rfl, ⟨by omega, by omega⟩, .ref st, rfl, st, _, rfl, DPut.k (k := .inr ("rest" : Str)) h1 (by show 4 < sizeLine; omega), _, rfl, ?_⟩⟩
      rw [put_rest]
      exact hq _ _ (Fr3.set_s k1) ⟨gs, cs, _, t, upd_same, (upd_ne hne.symm).trans h2, (upd_ne hnc.symm).trans h3, h4, h5, h6⟩ (Int.emod_nonneg _ (by omega)) (Int.emod_lt_of_pos _ hr0)
    have hS0 := hS
    obtain ⟨gs, cs, r, t, h1, h2, h3, h4, h5, h6⟩ := hS
    have gr := DGet.k (k := .inr ("rest" : Str)) h1
    rw [val_rest] at gr
    have gg := DGet.k (k := .inr ("great" : Str)) h1
    rw [val_great] at gg
    refine ⟨.ref st, rfl, st, .int r, rfl, gr, rfl, _, rfl, ?_⟩
    by_cases hr0' : r = 0
    · refine ifT (decide_eq_true (by rw [hr0'])) ⟨.ref st, rfl, st, .ref g, rfl, gg, by decide, fun b hb => ⟨g, b, gs.map V.int, rfl, rfl, .inl (.inl ((upd_ne (ne_of_none h2 hb)).trans h2)), .inl (.inl upd_same), _, rfl, ?_⟩⟩
      have b1 := (upd_ne (H := H) (o := .lst []) (ne_of_none h1 hb)).trans h1
      have b2 := (upd_ne (H := H) (o := .lst []) (ne_of_none h2 hb)).trans h2
      have b3 := (upd_ne (H := H) (o := .lst []) (ne_of_none h3 hb)).trans h3
      have hne : st ≠ g := fun z => by rw [z, h2] at h1; cases h1
      have hnc : st ≠ c := fun z => by rw [z, h3] at h1; cases h1
      cases gs with
      | nil =>
        refine ifF rfl ⟨.ref st, rfl, st, g, c, n, rfl, hS0.new hb, hn, fun H2 i k2 hS2 => ?_⟩
        obtain ⟨gs2, cs2, r2, t2, q1, q2, q3, q4, q5, q6⟩ := hS2
        refine ⟨.ref st, rfl, st, _, rfl, DPut.k (k := .inr ("rest" : Str)) q1 (by show 4 < sizeLine; omega), tail _ (Fr3.set_s (Fr3.trans (Fr3.new (Fr3.refl _ _ _) hb) k2)) ?_⟩
        rw [put_rest]
        exact ⟨gs2, cs2, _, t2, upd_same, (upd_ne hne.symm).trans q2, (upd_ne hnc.symm).trans q3, q4, q5, q6⟩
      | cons g0 gs' =>
        have bg := DGet.k (k := .inr ("great" : Str)) b1
        rw [val_great] at bg
        refine ifT rfl ⟨.ref st, rfl, st, .ref g, rfl, bg, .inl ⟨rfl, _, .inl (.inl b2)⟩, g, _, 0, 0, .int g0, rfl, rfl, b2, by decide, by decide, ?_, rfl, ?_⟩
        · simp [seqIndex?]
        · have c1 := (upd_ne (H := upd H b (.lst [])) (o := .lst (((g0 :: gs').map V.int).eraseIdx 0)) hne).trans b1
          have c3 := (upd_ne (H := upd H b (.lst [])) (o := .lst (((g0 :: gs').map V.int).eraseIdx 0)) h4.symm).trans b3
          refine ⟨.ref st, rfl, st, _, rfl, DPut.k (k := .inr ("rest" : Str)) c1 (by show 4 < sizeLine; omega), tail _ (Fr3.set_s (Fr3.set_g (Fr3.new (Fr3.refl _ _ _) hb))) ?_⟩
          rw [put_rest]
          refine ⟨gs', cs, _, t, upd_same, ?_, (upd_ne hnc.symm).trans c3, h4, h5, by omega⟩
          rw [upd_ne hne.symm, upd_same]
          rfl
    · refine ifF (decide_eq_false (fun z => hr0' (by injection z))) ?_
      exact tail H (Fr3.refl _ _ _) (hS0.more (by omega))
theorem ok_pick (F : FnP K "_law_pick" sPick f fd) (FD : FnP K "_law_draw" sDraw fD fdD) (GD : FnOk P w K mg base CX0 2 fD fdD ["state", "room"] spDraw) (gD : mg "_law_draw" = some (.ref fD)) (B : Blt mg) : FnOk P w K mg base CX0 3 f fd ["state", "some"] spPick := by
  have nd := scPick.nd
  have bD : Binds K fdD ["state", "room"] [] := FD.bindsN fun _ _ _ _ _ _ us hl => match us, hl with | [_, _], _ => rfl
  refine F.ok scPick (fun vs H Q E h => ?_) (fun cdv A outer s H vs Q E hr h => ⟨_, PSs.nox <|
    pss_one (ps_ret (pe_ix ix_list (pv 1) (pe_call GD hr (by rfl) gD FD.kp bD .nil pass0 (pa_cons (pv 0) (pa_cons (pe_callB call_len_seq (by rfl) B.len PySem.boot_len (pa_cons (pv 1) pa_nil)) pa_nil))) (fun _ _ => rfl))), ?_⟩)
  · obtain ⟨s, g, c, l, n, xs, rfl, _⟩ := h
    rfl
  · obtain ⟨st, g, c, l, n, xs, rfl, hS, hn, hl, n1, n2, h0, h1, hq⟩ := h
    refine ⟨.ref l, rfl, .ref st, rfl, .ref l, rfl, l, xs, rfl, .inl (.inl (.inl hl)), st, g, c, n, _, rfl, hS, hn, by omega, by omega, fun H' i k hS' hi0 hi1 => ?_⟩
    obtain ⟨j, rfl⟩ : ∃ j : Nat, i = (j : Int) := ⟨i.toNat, by omega⟩
    have hj : j < xs.length := by omega
    exact ⟨l, xs, (j : Int), xs[j], rfl, rfl, .inl (.inl (k _ _ hl n1 n2)), atI_nat (by simp [hj]), hq _ _ k hS' (List.getElem_mem hj)⟩
theorem ok_begun (F : FnP K "_law_begun" sBegun f fd) (B : Blt mg) : FnOk P w K mg base CX0 1 f fd ["script"] (spBegun K) := by
  have nd := scBegun.nd
  refine F.ok scBegun (fun vs H Q E h => ?_) (fun cdv A outer s H vs Q E hr h => ⟨_, PSs.nox <|
    pss_cons (ps_setLc (i := 1) (own := [("cell", 2)]) (g := gName 2) rfl nd rfl rfl (sw_true rfl rfl rfl (by decide +kernel)) (pi_list (pv 0)) (blkOk_by (N := nBegun) (sc := defScope sBegun) (by decide +kernel)) (fun _ _ _ _ _ => pg_name (i := 2) nd rfl (Or.inl rfl))
      (fun _ _ _ _ _ => pts_one (pt_cmpR op_ge (pe_callB call_abs (by rfl) B.abs (by decide +kernel) (pa_cons (pv 2) pa_nil)) (pe_op op_pow pe_int pe_int) (nomark _)))
      (fun _ _ _ _ _ => pe_op op_sub (pe_callB call_abs (by rfl) B.abs (by decide +kernel) (pa_cons (pv 2) pa_nil)) (pe_op op_pow pe_int pe_int))) <|
    pss_one (ps_ret (pe_disp (pps_cons pe_str (pv 1) (pps_cons pe_str (pe_lc (own := [("cell", 2)]) (g := gName 2) (tt := tYes) rfl nd (pi_list (pv 0)) (blkOk_by (N := nBegun) (sc := defScope sBegun) (by decide +kernel)) (fun _ _ _ _ _ => pg_name (i := 2) nd rfl (Or.inl rfl)) (fun _ _ _ _ _ => pts_nil)
      (fun _ _ _ _ _ => pe_callB call_abs (by rfl) B.abs (by decide +kernel) (pa_cons (pv 2) pa_nil))) (pps_cons pe_str pe_int (pps_cons pe_str pe_int pps_nil)))) (by rfl) (by rfl) (fun z => by cases z) (by decide))), ?_⟩)
  · obtain ⟨a, ns, rfl, _⟩ := h
    rfl
  · obtain ⟨a, ns, rfl, hS, hl, hq⟩ := h
    have hsl : sizeLine = 16777216 := sizeLine_eq
    refine ⟨.ref a, rfl, a, rfl, ⟨_, hS⟩, fun D hD => lc_list (K := K) (a := a) (xs := ns.map V.int) (fun i H' => ∃ gs : List Int, Same H H' ∧ H' D = some (.lst (gs.map V.int)) ∧ gs.length ≤ i)
      ⟨[], Same.new (Same.refl H) hD, upd_same, Nat.le_refl _⟩ (fun i H' _ h => by obtain ⟨gs, s1, _⟩ := h; exact s1.seq hS) (fun i x H' hx hP => ?_) (fun H1 hP => ?_)⟩
    · obtain ⟨gs, s1, e, hgl⟩ := hP
      obtain ⟨m, _, rfl⟩ := List.mem_map.mp (List.mem_of_getElem? hx)
      have hi : i < ns.length := by
        have := (List.getElem?_eq_some_iff.mp hx).1
        rw [List.length_map] at this
        exact this
      refine ⟨rfl, .int m, rfl, m, rfl, 10, 18, rfl, rfl, ⟨by decide, by decide, by decide⟩, _, _, rfl, rfl, _, rfl, ?_⟩
      cases hge : decide ((10 : Int) ^ (18 : Int).toNat ≤ if m < 0 then -m else m) with
      | true =>
        refine ifT rfl ⟨.int m, rfl, m, rfl, 10, 18, rfl, rfl, ⟨by decide, by decide, by decide⟩, _, _, rfl, rfl, gs.map V.int, e, by rw [List.length_map]; omega, gs ++ [(if m < 0 then -m else m) - 10 ^ (18 : Int).toNat], Same.new s1 hD, ?_, ?_⟩
        · rw [upd_same, List.map_append]
          rfl
        · simp
          omega
      | false => exact ifF rfl ⟨gs, s1, e, by omega⟩
    · obtain ⟨gs, s1, e, hgl⟩ := hP
      refine fun p hp => ?_
      have s2 : Same H (upd H1 p (.dK [])) := Same.new s1 (Same.free s1 hp)
      have e2 : (upd H1 p (.dK [])) D = some (.lst (gs.map V.int)) := (upd_ne (ne_of_none e hp)).trans e
      refine ⟨.ref D, rfl, .ref a, rfl, a, rfl, ⟨_, Same.seq s2 hS⟩, fun C hC => lc_list (K := K) (a := a) (xs := ns.map V.int) (fun i H' => ∃ cs : List Int, Same H H' ∧ H' D = some (.lst (gs.map V.int)) ∧ H' p = some (.dK []) ∧ H' C = some (.lst (cs.map V.int)) ∧ cs.length ≤ i)
        ⟨[], Same.new s2 (Same.free s2 hC), (upd_ne (ne_of_none e2 hC)).trans e2, (upd_ne (ne_of_none upd_same hC)).trans upd_same, upd_same, Nat.le_refl _⟩ (fun i H' _ h => by obtain ⟨cs, s3, _⟩ := h; exact s3.seq hS) (fun i x H' hx hP => ?_) (fun H2 hP => ?_)⟩
      · obtain ⟨cs, s3, e3, e4, e5, hcl⟩ := hP
        obtain ⟨m, _, rfl⟩ := List.mem_map.mp (List.mem_of_getElem? hx)
        have hi : i < ns.length := by
          have := (List.getElem?_eq_some_iff.mp hx).1
          rw [List.length_map] at this
          exact this
        have nCD : D ≠ C := ne_of_none e2 hC
        have nCp : p ≠ C := ne_of_none upd_same hC
        refine ⟨rfl, yesT ⟨.int m, rfl, m, rfl, cs.map V.int, e5, by rw [List.length_map]; omega, cs ++ [if m < 0 then -m else m], Same.new s3 (Same.free s2 hC), (upd_ne nCD).trans e3, (upd_ne nCp).trans e4, ?_, ?_⟩⟩
        · rw [upd_same, List.map_append]
          rfl
        · simp
          omega
      · obtain ⟨cs, s3, e3, e4, e5, hcl⟩ := hP
        refine ⟨e4, stK D C 0 0, rfl, by show 4 ≤ 15; decide, ?_⟩
        rw [merge_st]
        have nCD : D ≠ C := ne_of_none e2 hC
        have nDp : D ≠ p := ne_of_none e hp
        have nCp : p ≠ C := ne_of_none upd_same hC
        exact hq _ p D C (Same.new s3 (Same.free s1 hp)) ⟨gs, cs, 0, 0, upd_same, (upd_ne nDp).trans e3, (upd_ne nCp.symm).trans e5, nCD, Int.le_refl _, Int.le_refl _⟩
end
end K88
set_option maxHeartbeats 4000000
/-! _law_plain, _law_is, _law_value_text, _law_some_value, _law_nested. -/
namespace K88
open PySem PySem.Spec PyProof.Rows L2 LamG NtP
/-! ### a def that is called where no repr is under way -/
structure FnG (P : Program) (w : World) (K : PySem.W.Frag) (mg : Str → Option Value) (base : Heap) (CX : CXT) (k : Nat) (f : Addr) (fd : FuncData) (ps : List Str) (sp : Sp) : Prop where
  len : ∀ vs H Q E, sp vs H Q E → vs.length = ps.length
  run : ∀ (A : Around) (outer : List Env) (s : Shared) (H : Hp) (args : Args) (us : List Value) (vs : List V) (Q : VK) (E : XK), A.guards = some [] → Room k A → Env0 P w K mg base A outer s H → BindsTo s fd args (ps.zip us) → Vals vs us → sp vs H Q E →
    codeAny (model P w) A (.call (.ref f) args) (CR CX outer P w H s Q E) s
theorem FnG.of {P : Program} {w : World} {K : PySem.W.Frag} {mg : Str → Option Value} {base : Heap} {CX : CXT} {N ps : List Str} {k : Nat} {sp : Sp} {f : Addr} {fd : FuncData} {x qual : Str} {params : Arguments} {body : List Stmt} {scope : Scope} {dvs : List V} {kws : List (Str × V)}
    (F : FunD K x qual params body scope dvs kws f fd) (S : FnScope N ps scope) (len : ∀ vs H Q E, sp vs H Q E → vs.length = ps.length)
    (hbody : ∀ (cdv : Value) (A : Around) (outer : List Env) (s : Shared) (H : Hp) (vs : List V) (Q : VK) (E : XK), A.guards = some [] → Room k (A.deeper (envOfC qual scope s.heap.objs.size f cdv)) → sp vs H Q E →
      ∃ t, PSs (cxOf CX P w K mg base N qual scope f cdv A outer s H E) body t ∧ t { nx := fun _ H' => Q .non H', rt := Q } (L2.start N vs) H) : FnG P w K mg base CX (k + 1) f fd ps sp := by
  obtain ⟨oc, od, dV, kV, doc, pm, an, cdv, ct, osl, rfl, lk, hcd, _, _⟩ := F.ex
  exact ⟨len, fun A outer s H args us vs Q E hg hr e0 hb r h => LamX.run_ofS lk hcd S hr e0 hb r (len _ _ _ _ h) fun hr' => hbody cdv A outer s H vs Q E hg hr' h⟩
section
variable {X : Cx} {CX : CXT} {k : Nat} {f : Addr} {fd : FuncData} {ps ks : List Str} {sp : Sp} {ds : List Value} {dvs : List V} {E : XK} {x : Str} {p pos : Pos} {e : Expr} {es : List Expr} {t tk : TA} {kws : List Keyword} {g : List Value → List Value → List Value} {gV : List V → List V → List V}
theorem pe_callG (F : FnG X.prog X.w X.K X.mg X.base CX k f fd ps sp) (hgd : X.A.guards = some []) (hr : Room k X.A) (hg : Gl X x) (hm : X.mg x = some (.ref f)) (hk : PySem.W.keepIn X.K (.ref f) = true) (hb : L2.Binds X.K fd ps ds) (hd : Vals dvs ds) (hx : Passes CX X E)
    (ha : PA X (e :: es) t) (hdb : (x == ("__debug__" : Str)) = false := by decide) (he : starEach (e :: es) X.env = (false, eval e X.env) :: starEach es X.env := by rfl) (hpl : (backTo pos (starEach es X.env)).any (·.1) = false := by rfl) :
    PE X (.Call (.Name x p) (e :: es) [] pos) (tCall sp dvs E t) := by
  refine ⟨fun pins s σ H Q I h => ?_⟩
  refine wpAny_Call_Name_kw (ld_glob I hg hm ?_ hdb)
  refine PySem.W.callWith_K (h₀ := X.base) I.ok.mod.kin hk (thn (ha.run pos pins s σ H _ I h) fun us s1 ⟨vs, H1, I1, r, q⟩ => ⟨I1.kIn, ?_⟩) he hpl
  have r2 : Vals (vs ++ dvs) (us ++ ds) := r.append hd
  have hl : (us ++ ds).length = ps.length := by rw [← r2.length]; exact F.len _ _ _ _ q
  refine wpAny_call (codeAny_mono (F.run X.A X.stack s1 H1 ⟨us, []⟩ (us ++ ds) (vs ++ dvs) Q E hgd hr I1.env0 (hb s1 us I1.kIn hl) r2 q) fun r s' hq => ?_)
  cases r with
  | error e => exact hx pins σ H1 s1 e s' I1 hq
  | ok fl =>
    cases fl with
    | ret u => exact I1.after hq
    | next => exact False.elim hq
    | brk => exact False.elim hq
    | cont => exact False.elim hq
/-- f(k = v, ..), no more -/
theorem pe_callK0 (F : FnOk X.prog X.w X.K X.mg X.base CX k f fd ps sp) (hr : Room k X.A) (hg : Gl X x) (hm : X.mg x = some (.ref f)) (hk : PySem.W.keepIn X.K (.ref f) = true) (hb : KBinds X.K fd ps ks g gV) (hx : Passes CX X E) (hkw : PK X kws tk)
    (hall : (backToKw pos (keywordEach kws X.env)).all (·.1.isSome) = true := by rfl) (hks : (backToKw pos (keywordEach kws X.env)).filterMap (·.1) = ks := by rfl) (hdb : (x == ("__debug__" : Str)) = false := by decide)
    (hpl : ((backTo pos (starEach [] X.env)).any (·.1) || (backToKw pos (keywordEach kws X.env)).any (·.1.isNone)) = false := by rfl) :
    PE X (.Call (.Name x p) [] kws pos) (tCallK sp gV E tNil tk) := by
  refine ⟨fun pins s σ H Q I h => ?_⟩
  refine wpAny_Call_Name_kw (ld_glob I hg hm ?_ hdb)
  refine PySem.W.callWith_KW0 (h₀ := X.base) I.ok.mod.kin hk hall ?_ hpl
  refine thn (hkw.run pos pins s σ H _ I h) fun ws s2 ⟨zs, H2, I2, rz, q2⟩ => ⟨I2.kIn, ?_⟩
  rw [hks]
  exact run_fnk (us := []) (vs := []) F hr hb hx I2 .nil rz q2
end
theorem room_u {k : Nat} {A : Around} (hr : Room k A) : A.units < cLine := by
  have := hr.un
  omega
theorem room_64 {k : Nat} {A : Around} (hr : Room k A) : A.units + 64 < cLine := by
  have := hr.un
  omega
theorem room_70 {k : Nat} {A : Around} (hr : Room k A) : A.units + 70 < cLine := by
  have := hr.un
  omega
/-! ### _law_plain -/
def leafPl : PyData → Bool
  | .none => true
  | .bool _ => true
  | .int _ => true
  | .str _ => true
  | _ => false
def plAt : Nat → PyData → Bool
  | 0, d => leafPl d
  | n + 1, d => (tupB d || leafPl d) && (ch d).all (plAt n)
theorem leafPl_of {d : PyData} (h : leafB d = true) : leafPl d = true := by cases d <;> first | rfl | cases h
theorem plAt_ok : ∀ (n : Nat) (d : PyData), okAt n d = true → plAt n d = true
  | 0, d, h => leafPl_of h
  | n + 1, d, h => by
    have h : ((tupB d || leafB d) && (ch d).all (okAt n)) = true := h
    rw [Bool.and_eq_true] at h
    show ((tupB d || leafPl d) && (ch d).all (plAt n)) = true
    rw [Bool.and_eq_true]
    refine ⟨?_, List.all_eq_true.mpr fun e he => plAt_ok n e (List.all_eq_true.mp h.2 e he)⟩
    cases ht : tupB d with
    | true => rfl
    | false =>
      have h1 := h.1
      rw [ht, Bool.false_or] at h1
      rw [Bool.false_or]
      exact leafPl_of h1
abbrev sPl : Stmt := top 36
abbrev sIs : Stmt := top 37
abbrev sLVT : Stmt := top 40
abbrev sSome : Stmt := top 41
abbrev sNest : Stmt := top 42
theorem kitA_lt {K : PySem.W.Frag} (d : PyData) : PySem.W.kitAny K (.type (tyN d)) [.type "list", .type "tuple"] = some (isLst d || tupB d) := by
  refine kitAny_cons (kit_list d) (fun h => ?_) fun h => by rw [h]; rfl
  rw [h, Bool.false_or]
  exact kitAny_cons (kit_tuple d) (fun h => by rw [h]; exact kitAny_nil) fun h => h
theorem kitA_is {K : PySem.W.Frag} (d : PyData) : PySem.W.kitAny K (.type (tyN d)) [.type "int", .type "str"] = some (isInt d || isStr d) := by
  refine kitAny_cons (kit_int d) (fun h => ?_) fun h => by rw [h]; rfl
  rw [h, Bool.false_or]
  exact kitAny_cons (kit_str d) (fun h => by rw [h]; exact kitAny_nil) fun h => h
def spPl : Nat → Sp
  | 0 => fun _ _ _ _ => False
  | n + 1 => fun vs H Q _ => ∃ (v : V) (d : PyData), vs = [v] ∧ Dt H v d ∧ plAt n d = true ∧ ∀ H', Same H H' → Q (.bl true) H'
theorem scPl : FnScope ["value", "one"] ["value"] (defScope sPl) := ⟨rfl, rfl, rfl, by decide +kernel, rfl, by decide +kernel, by decide +kernel⟩
theorem spPl_len (n : Nat) : ∀ vs H Q E, spPl n vs H Q E → vs.length = ["value"].length := fun vs H Q E h => by
  cases n with
  | zero => exact False.elim h
  | succ n =>
    obtain ⟨v, d, rfl, _⟩ := h
    rfl
section
variable {P : Program} {w : World} {K : PySem.W.Frag} {mg : Str → Option Value} {base : Heap} {f : Addr} {fd : FuncData}
theorem ok_pl (F : FnP K "_law_plain" sPl f fd) (g : mg "_law_plain" = some (.ref f)) (B : Blt mg) : ∀ n, FnOk P w K mg base CX0 n f fd ["value"] (spPl n)
  | 0 => ⟨spPl_len 0, fun _ _ _ _ _ _ _ _ _ _ _ _ _ h => False.elim h⟩
  | n + 1 => by
    have nd := scPl.nd
    have G := ok_pl F g B n
    have b : Binds K fd ["value"] [] := F.bindsN fun _ _ _ _ _ _ us hl => match us, hl with | [_], _ => rfl
    refine F.ok scPl (spPl_len (n + 1)) (fun cdv A outer s H vs Q E hr h => ⟨_, PSs.nox <|
      pss_cons (ps_if (pt_val (pe_callB call_isiT (by rfl) B.isi PyProof.Rows.boot_isinstance (pa_cons (pv 0) (pa_cons (pe_tup (pa_cons (pe_bltn (v := .ty "list") (by rfl) B.list boot_list rfl) (pa_cons (pe_bltn (v := .ty "tuple") (by rfl) B.tuple boot_tuple rfl) pa_nil))) pa_nil))))
        (pss_one (ps_ret (pe_cmpR (op_eqNil (room_u hr)) (pe_lc (own := [("one", 1)]) (g := gName 1) rfl nd (pi_tup (pv 0)) (blkOk_by (N := ["value", "one"]) (sc := defScope sPl) (by decide +kernel)) (fun _ _ _ _ _ => pg_name (i := 1) nd rfl (Or.inl rfl))
          (fun _ _ _ _ _ => pts_one (pt_not (pt_val (pe_call G hr (by rfl) g F.kp b .nil pass0 (pa_cons (pv 1) pa_nil))))) (fun _ _ _ _ _ => pe_int)) (pe_lst pa_nil) (nomark _)))) pss_nil) <|
      pss_cons (ps_if (pt_val (pe_callB call_isi (by rfl) B.isi PyProof.Rows.boot_isinstance (pa_cons (pv 0) (pa_cons (pe_bltn (v := .ty "dict") (by rfl) B.dict boot_dict rfl) pa_nil)))) (pss_one ps_never) pss_nil) <|
      pss_one (ps_ret (pe_or (pe_cmpR op_isN (pv 0) pe_non (nomark _)) (pe_one (pe_callB call_isiT (by rfl) B.isi PyProof.Rows.boot_isinstance (pa_cons (pv 0) (pa_cons (pe_tup (pa_cons (pe_bltn (v := .ty "int") (by rfl) B.int boot_int rfl) (pa_cons (pe_bltn (v := .ty "str") (by rfl) B.str boot_str rfl) pa_nil))) pa_nil)))))), ?_⟩)
    obtain ⟨v, d, rfl, hd, hok, hq⟩ := h
    refine ⟨v, rfl, (by show 2 ≤ sizeLine; decide), fun tp htp => ⟨v, tp, [.ty "list", .ty "tuple"], _, [.type "list", .type "tuple"], _, rfl, upd_same, .cons (.ty _) (.cons (.ty _) .nil), (hd.same (Same.new (Same.refl H) htp)).ty, kitA_lt d, _, rfl, ?_⟩⟩
    have s1 : Same H (upd H tp (.tup [.ty "list", .ty "tuple"])) := Same.new (Same.refl H) htp
    have hd1 := hd.same s1
    have hnl : isLst d = false := by
      cases d with
      | list ds => cases n <;> cases hok
      | _ => rfl
    have hnd : isDct d = false := by
      cases d with
      | dict ds => cases n <;> cases hok
      | _ => rfl
    cases ht : tupB d with
    | true =>
      refine ifT (by rw [Bool.or_true]) ?_
      cases hd with
      | non => cases ht
      | bl _ => cases ht
      | int _ => cases ht
      | str _ => cases ht
      | lst _ _ => cases ht
      | tup ha hds =>
        rename_i a xs ds
        obtain ⟨m, rfl⟩ : ∃ m, n = m + 1 := by
          cases n with
          | zero => cases hok
          | succ m => exact ⟨m, rfl⟩
        have hall : ∀ e ∈ ds, plAt m e = true := by
          have hk : ((true || leafPl (.tuple ds)) && ds.all (plAt m)) = true := hok
          rw [Bool.true_or, Bool.true_and] at hk
          exact List.all_eq_true.mp hk
        refine ⟨.ref a, rfl, a, rfl, ⟨xs, .inl (.inl (s1 _ _ ha))⟩, fun D hD => lc_tup (K := K) (a := a) (xs := xs) (fun i H' => Same H H' ∧ H' D = some (.lst [])) ⟨Same.new s1 (Same.free s1 hD), upd_same⟩ (fun i H' _ h => .inl (.inl (h.1 _ _ ha))) (fun i x H' hx hP => ?_) (fun H' hP => ?_)⟩
        · obtain ⟨s2, hD2⟩ := hP
          obtain ⟨e, he, hde⟩ := hds.get hx
          exact ⟨rfl, x, rfl, x, e, rfl, hde.same s2, hall e (List.mem_of_getElem? he), fun H3 s3 => ⟨_, rfl, ifF rfl ⟨Same.trans s2 s3, s3 _ _ hD2⟩⟩⟩
        · obtain ⟨s2, hD2⟩ := hP
          refine ⟨by decide, fun c hc => ⟨D, c, [], rfl, rfl, .inl (.inl ((upd_ne (ne_of_none hD2 hc)).trans hD2)), .inl (.inl upd_same), hq _ (Same.new s2 (Same.free s2 hc))⟩⟩
    | false =>
      have hlf : leafPl d = true := by
        cases n with
        | zero => exact hok
        | succ m =>
          have hk : ((tupB d || leafPl d) && (ch d).all (plAt m)) = true := hok
          rw [ht, Bool.false_or, Bool.and_eq_true] at hk
          exact hk.1
      refine ifF (by rw [hnl]; rfl) ⟨v, rfl, v, .ty "dict", _, .type "dict", _, rfl, .ty _, hd1.ty, kit_dict d, _, rfl, ifF hnd ?_⟩
      by_cases hn : v = V.non
      · refine ⟨v, rfl, rfl, _, rfl, ifT (decide_eq_true hn) (hq _ s1)⟩
      · refine ⟨v, rfl, rfl, _, rfl, ifF (decide_eq_false hn) ⟨v, rfl, (by show 2 ≤ sizeLine; decide), fun tp2 htp2 => ⟨v, tp2, [.ty "int", .ty "str"], _, [.type "int", .type "str"], _, rfl, upd_same, .cons (.ty _) (.cons (.ty _) .nil), (hd1.same (Same.new (Same.refl _) htp2)).ty, kitA_is d, ?_⟩⟩⟩
        have e1 : (isInt d || isStr d) = true := by
          cases hd with
          | non => exact absurd rfl hn
          | bl _ => rfl
          | int _ => rfl
          | str _ => rfl
          | lst _ _ => cases hnl
          | tup _ _ => cases ht
        rw [e1]
        exact hq _ (Same.new s1 (Same.free s1 htp2))
end
/-! ### _law_is -/
structure IsOk (d : PyData) : Prop where
  pl : plAt 60 d = true
  sh : SeqAt.shaped d = true
  show_ : d.showable = true
  nd : d.hasDict = false
  dp : d.depth ≤ 64
  lg : ∀ i, d = .int i → i.natAbs.log2 < 1920
  sz : d.shown.length ≤ sizeLine
  lay : d.canLay0 = true
def spIs : Sp := fun vs H Q _ => ∃ (v u : V) (d : PyData), vs = [v, u] ∧ Dt H v d ∧ Dt H u d ∧ IsOk d ∧ ∀ H', Same H H' → Q (.bl true) H'
theorem scIs : FnScope ["found", "due"] ["found", "due"] (defScope sIs) := ⟨rfl, rfl, rfl, by decide +kernel, rfl, by decide +kernel, by decide +kernel⟩
section
variable {P : Program} {w : World} {K : PySem.W.Frag} {mg : Str → Option Value} {base : Heap} {f fP : Addr} {fd fdP : FuncData}
theorem ok_is (F : FnP K "_law_is" sIs f fd) (FP : FnP K "_law_plain" sPl fP fdP) (gP : mg "_law_plain" = some (.ref fP)) (B : Blt mg) : FnG P w K mg base CX0 62 f fd ["found", "due"] spIs := by
  have nd := scIs.nd
  have GP : FnOk P w K mg base CX0 61 fP fdP ["value"] (spPl 61) := ok_pl FP gP B 61
  have bP : Binds K fdP ["value"] [] := FP.bindsN fun _ _ _ _ _ _ us hl => match us, hl with | [_], _ => rfl
  refine FnG.of F scIs (fun vs H Q E h => ?_) (fun cdv A outer s H vs Q E hg hr h => ⟨_, PSs.nox <|
    pss_one (ps_ret (pe_and (pe_call GP hr (by rfl) gP FP.kp bP .nil pass0 (pa_cons (pv 0) pa_nil)) (pe_and (pe_cmpR (op_eqD (room_64 hr)) (pv 0) (pv 1) (nomark _)) (pe_and (pe_cmpR (op_eqD (room_64 hr)) (pv 1) (pv 0) (nomark _))
      (pe_one (pe_cmpR op_eq (pe_callB (call_reprD hg (room_70 hr)) (by rfl) B.repr (by decide +kernel) (pa_cons (pv 0) pa_nil)) (pe_callB (call_reprD hg (room_70 hr)) (by rfl) B.repr (by decide +kernel) (pa_cons (pv 1) pa_nil)) (nomark _))))))), ?_⟩)
  · obtain ⟨v, u, d, rfl, _⟩ := h
    rfl
  · obtain ⟨v, u, d, rfl, hv, hu, hok, hq⟩ := h
    have refl : PyData.eqv d d = true := SeqAt.eqv_refl d hok.lay
    refine ⟨v, rfl, v, d, rfl, hv, hok.pl, fun H1 s1 => ⟨_, rfl, ifT rfl ⟨v, rfl, u, rfl, d, d, (hv.same s1).dp, (hu.same s1).dp, hok.sh, hok.sh, _, rfl, ifT refl ⟨u, rfl, v, rfl, d, d, (hu.same s1).dp, (hv.same s1).dp, hok.sh, hok.sh, _, rfl, ifT refl
      ⟨v, rfl, v, d, rfl, (hv.same s1).dp, hok.show_, hok.nd, hok.dp, hok.lg, hok.sz, u, rfl, u, d, rfl, (hu.same s1).dp, hok.show_, hok.nd, hok.dp, hok.lg, hok.sz, rfl, ?_⟩⟩⟩⟩⟩
    have e1 : decide (V.str d.shown = V.str d.shown) = true := decide_eq_true rfl
    rw [e1]
    exact hq H1 s1
end
/-! ### _law_nested -/
def nestD : Nat → PyData → PyData
  | 0, d => d
  | n + 1, d => .tuple [nestD n d]
def spNest : Sp := fun vs H Q _ => ∃ (m : Nat) (v : V) (d : PyData), vs = [.int (m : Nat), v] ∧ m ≤ 100 ∧ Dt H v d ∧ ∀ H' v', Same H H' → Dt H' v' (nestD m d) → Q v' H'
abbrev nNest : List Str := ["many", "one", "lap"]
theorem scNest : FnScope nNest ["many", "one"] (defScope sNest) := ⟨rfl, rfl, rfl, by decide +kernel, rfl, by decide +kernel, by decide +kernel⟩
section
variable {P : Program} {w : World} {K : PySem.W.Frag} {mg : Str → Option Value} {base : Heap} {f fP : Addr} {fd fdP : FuncData}
theorem ok_nest (F : FnP K "_law_nested" sNest f fd) (B : Blt mg) : FnOk P w K mg base CX0 1 f fd ["many", "one"] spNest := by
  have nd := scNest.nd
  refine F.ok scNest (fun vs H Q E h => ?_) (fun cdv A outer s H vs Q E hr h => ⟨_, PSs.nox <|
    pss_cons (ps_for PassesOwn.never rfl (pi_range1 (by rfl) B.range (pa_cons (pv 0) pa_nil)) (pg_name (i := 2) nd rfl (.inl rfl)) <| pss_one (ps_set (i := 1) nd rfl (.inl rfl) (pe_tup (pa_cons (pv 1) pa_nil)))) <|
    pss_one (ps_ret (pv 1)), ?_⟩)
  · obtain ⟨m, v, d, rfl, _⟩ := h
    rfl
  · obtain ⟨m, v, d, rfl, hm, hd, hq⟩ := h
    refine ⟨.int m, rfl, (m : Int), rfl, by omega, by omega, for_range (lo := 0) (n := (m : Int).toNat) (fun i σ H' => ∃ (v : V) (x : Option V), σ = [some (.int (m : Nat)), some v, x] ∧ Same H H' ∧ Dt H' v (nestD i d)) ⟨v, none, rfl, Same.refl H, hd⟩ (fun i σ H' hi hP => ?_) (fun σ H' hP => ?_)⟩
    · obtain ⟨v', x, rfl, s1, hd'⟩ := hP
      refine ⟨v', rfl, (by show 1 ≤ sizeLine; decide), fun p hp => ⟨.ref p, _, rfl, Same.new s1 (Same.free s1 hp), .tup upd_same (.cons (hd'.same (Same.new (Same.refl _) hp)) .nil)⟩⟩
    · obtain ⟨v', x, rfl, s1, hd'⟩ := hP
      exact ⟨v', rfl, hq H' v' s1 hd'⟩
end
end K88
set_option maxHeartbeats 4000000
/-! _law_value_text, _law_some_value. -/
namespace K88
open PySem PySem.Spec PyProof.Rows L2 LamG NtP
/-! ### _law_value_text -/
def spLVT : Nat → Sp
  | 0 => fun _ _ _ _ => False
  | n + 1 => fun vs H Q _ => ∃ (v : V) (d : PyData), vs = [v] ∧ Dt H v d ∧ okAt n d = true ∧ (vt d).length ≤ 1000000 ∧ ∀ H', Same H H' → Q (.str (S (vt d))) H'
theorem scLVT : FnScope ["value", "one"] ["value"] (defScope sLVT) := ⟨rfl, rfl, rfl, by decide +kernel, rfl, by decide +kernel, by decide +kernel⟩
theorem spLVT_len (n : Nat) : ∀ vs H Q E, spLVT n vs H Q E → vs.length = ["value"].length := fun vs H Q E h => by
  cases n with
  | zero => exact False.elim h
  | succ n =>
    obtain ⟨v, d, rfl, _⟩ := h
    rfl
theorem joinL_vts : ∀ ds : List PyData, TL.joinL [32] (ds.map vt) = vts ds
  | [] => by simp [TL.joinL, vts]
  | [d] => by simp [TL.joinL, vts, vtr]
  | d :: e :: r => by
    have h := joinL_vts (e :: r)
    simp only [List.map_cons] at h ⊢
    simp only [TL.joinL, vts, vtr]
    rw [h]
    simp [vts]
theorem sum_vtr : ∀ ds : List PyData, ((ds.map fun e => S (vt e)).map (·.length)).sum + ds.length = (vtr ds).length
  | [] => by simp [vtr]
  | d :: r => by
    have h := sum_vtr r
    have e : (S (vt d)).length = (vt d).length := by show (vt d).toArray.size = _; simp
    simp only [List.map_cons, List.sum_cons, List.length_cons, vtr, List.length_append]
    rw [e]
    omega
theorem sum_vts (ds : List PyData) : ((ds.map fun e => S (vt e)).map (·.length)).sum + ds.length ≤ (vts ds).length + 1 := by
  cases ds with
  | nil => simp
  | cons d r =>
    have h := sum_vtr r
    have e : (S (vt d)).length = (vt d).length := by show (vt d).toArray.size = _; simp
    simp only [List.map_cons, List.sum_cons, List.length_cons, vts, List.length_append]
    rw [e]
    omega
theorem mem_vtr {ds : List PyData} : ∀ e ∈ ds, (vt e).length ≤ (vtr ds).length := by
  induction ds with
  | nil => intro e h; cases h
  | cons d r ih =>
    intro e h
    simp only [vtr, List.length_cons, List.length_append]
    rcases List.mem_cons.mp h with rfl | h
    · omega
    · have := ih e h
      omega
theorem mem_vts {ds : List PyData} : ∀ e ∈ ds, (vt e).length ≤ (vts ds).length := by
  cases ds with
  | nil => intro e h; cases h
  | cons d r =>
    intro e h
    simp only [vts, List.length_append]
    rcases List.mem_cons.mp h with rfl | h
    · omega
    · have := mem_vtr e h
      omega
theorem S_app (a b : List Nat) : S a ++ S b = S (a ++ b) := by
  show (⟨a.toArray ++ b.toArray⟩ : Str) = ⟨(a ++ b).toArray⟩
  simp
theorem len_S (a : List Nat) : (S a).length = a.length := by show a.toArray.size = _; simp
section
variable {P : Program} {w : World} {K : PySem.W.Frag} {mg : Str → Option Value} {base : Heap} {f : Addr} {fd : FuncData}
theorem ok_LVT (F : FnP K "_law_value_text" sLVT f fd) (g : mg "_law_value_text" = some (.ref f)) (B : Blt mg) : ∀ n, FnOk P w K mg base CX0 n f fd ["value"] (spLVT n)
  | 0 => ⟨spLVT_len 0, fun _ _ _ _ _ _ _ _ _ _ _ _ _ h => False.elim h⟩
  | n + 1 => by
    have nd := scLVT.nd
    have G := ok_LVT F g B n
    have b : Binds K fd ["value"] [] := F.bindsN fun _ _ _ _ _ _ us hl => match us, hl with | [_], _ => rfl
    refine F.ok scLVT (spLVT_len (n + 1)) (fun cdv A outer s H vs Q E hr h => ⟨_, PSs.nox <|
      pss_cons (ps_if (pt_val (pe_callB call_isi (by rfl) B.isi PyProof.Rows.boot_isinstance (pa_cons (pv 0) (pa_cons (pe_bltn (v := .ty "tuple") (by rfl) B.tuple boot_tuple rfl) pa_nil))))
        (pss_one (ps_ret (pe_op op_add_str (pe_op op_add_str pe_str (pe_join pe_str (pe_lc (own := [("one", 1)]) (g := gName 1) (tt := tYes) rfl nd (pi_tup (pv 0)) (blkOk_by (N := ["value", "one"]) (sc := defScope sLVT) (by decide +kernel)) (fun _ _ _ _ _ => pg_name (i := 1) nd rfl (Or.inl rfl))
          (fun _ _ _ _ _ => pts_nil) (fun _ _ _ _ _ => pe_call G hr (by rfl) g F.kp b .nil pass0 (pa_cons (pv 1) pa_nil))))) pe_str))) pss_nil) <|
      pss_one (ps_ret (pe_ifExp (pt_cmpR op_isN (pv 0) pe_non (nomark _)) pe_str (pe_callTy call_strB (by rfl) B.str boot_str (pa_cons (pv 0) pa_nil)))), ?_⟩)
    obtain ⟨v, d, rfl, hd, hok, hlen, hq⟩ := h
    have hsl : sizeLine = 16777216 := sizeLine_eq
    refine ⟨v, rfl, v, .ty "tuple", _, .type "tuple", _, rfl, .ty _, hd.ty, kit_tuple d, _, rfl, ?_⟩
    cases ht : tupB d with
    | true =>
      cases hd with
      | non => cases ht
      | bl _ => cases ht
      | int _ => cases ht
      | str _ => cases ht
      | lst _ _ => cases ht
      | tup ha hds =>
        rename_i a xs ds
        obtain ⟨m, rfl⟩ : ∃ m, n = m + 1 := by
          cases n with
          | zero => cases hok
          | succ m => exact ⟨m, rfl⟩
        have hall : ∀ e ∈ ds, okAt m e = true := by
          have hk : ((true || leafB (.tuple ds)) && ds.all (okAt m)) = true := hok
          rw [Bool.true_or, Bool.true_and] at hk
          exact List.all_eq_true.mp hk
        have hvl : (vts ds).length + 2 ≤ 1000000 := by simp only [vt, List.length_cons, List.length_append, List.length_nil] at hlen; omega
        have hsum := sum_vts ds
        have hxl : xs.length = ds.length := hds.len
        refine ifT rfl ⟨⟨_, rfl⟩, .ref a, rfl, a, rfl, ⟨xs, .inl (.inl ha)⟩, fun D hD => lc_tup (K := K) (a := a) (xs := xs) (fun i H' => Same H H' ∧ H' D = some (.lst ((ds.take i).map fun e => V.str (S (vt e))))) ⟨Same.new (Same.refl H) hD, upd_same⟩ (fun i H' _ h => .inl (.inl (h.1 _ _ ha))) (fun i x H' hx hP => ?_) (fun H' hP => ?_)⟩
        · obtain ⟨s2, hD2⟩ := hP
          obtain ⟨e, he, hde⟩ := hds.get hx
          have hme := List.mem_of_getElem? he
          have h1 := mem_vts e hme
          refine ⟨rfl, yesT ⟨x, rfl, x, e, rfl, hde.same s2, hall e hme, by omega, fun H3 s3 => ⟨_, s3 _ _ hD2, ?_, Same.new (Same.trans s2 s3) hD, ?_⟩⟩⟩
          · rw [List.length_map, List.length_take]
            omega
          · rw [upd_same, take_next he, List.map_append]
            rfl
        · obtain ⟨s2, hD2⟩ := hP
          rw [hxl, List.take_length] at hD2
          have e1 : Txt.join (" " : Str) (ds.map fun e => S (vt e)) = S (vts ds) := by
            have : (ds.map fun e => S (vt e)) = (ds.map vt).map S := by rw [List.map_map]; rfl
            rw [this, s32, join_S, joinL_vts]
          have l1 : (" " : Str).length = 1 := rfl
          refine ⟨(" " : Str), D, ds.map fun e => S (vt e), rfl, rfl, .inl (.inl (.inl (by rw [hD2, List.map_map]; rfl))), ?_, ?_⟩
          · rw [l1, List.length_map]
            omega
          · rw [e1]
            refine ⟨_, _, rfl, rfl, ?_, _, _, rfl, rfl, ?_, ?_⟩
            · have : ("(" : Str).length = 1 := rfl
              rw [this, len_S]
              omega
            · rw [s40, S_app, s41, len_S, len_S]
              simp
              omega
            · have e2 : (("(" : Str) ++ S (vts ds)) ++ (")" : Str) = S (vt (.tuple ds)) := by
                rw [s40, s41, S_app, S_app]
                simp [vt]
              rw [e2]
              exact hq H' s2
    | false =>
      have hlf : leafB d = true := by
        cases n with
        | zero => exact hok
        | succ m =>
          have hk : ((tupB d || leafB d) && (ch d).all (okAt m)) = true := hok
          rw [ht, Bool.false_or, Bool.and_eq_true] at hk
          exact hk.1
      have hq0 := hq H (Same.refl H)
      refine ifF rfl ?_
      cases hd with
      | non =>
        refine ⟨.non, rfl, rfl, _, rfl, ifT (decide_eq_true rfl) ?_⟩
        show Q (.str ("-" : Str)) H
        rw [dash]
        have : vt .none = [45] := by simp [vt]
        rw [this] at hq0
        exact hq0
      | str z =>
        refine ⟨.str z, rfl, rfl, _, rfl, ifF (decide_eq_false (fun q => nomatch q)) ⟨.str z, rfl, .inr ⟨z, rfl, ?_⟩⟩⟩
        have : vt (.str z) = z.cps.toList := by simp [vt]
        rw [this, S_list] at hq0
        exact hq0
      | int i =>
        refine ⟨.int i, rfl, rfl, _, rfl, ifF (decide_eq_false (fun q => nomatch q)) ⟨.int i, rfl, .inl ⟨i, rfl, ?_, ?_⟩⟩⟩
        · have hf : isFig (.int i) = true := hlf
          have hlt := of_decide_eq_true (show decide ((if i < 0 then -i else i) < 1000000000000) = true from hf)
          have hna : i.natAbs < 1000000000000 := by
            split at hlt <;> omega
          by_cases h0 : i.natAbs = 0
          · rw [h0]; decide
          · have : i.natAbs < 2 ^ 40 := by omega
            have := (Nat.log2_lt h0).mpr this
            omega
        · have : vt (.int i) = (Str.ofString (toString i)).cps.toList := by simp [vt]
          rw [this, S_list] at hq0
          exact hq0
      | bl b => cases hlf
      | lst _ _ => cases hlf
      | tup _ _ => cases ht
end
/-! ### _law_some_value -/
def dr : Nat → Int
  | 0 => 2
  | n + 1 => 2 + 3 * dr n
theorem dr_pos : ∀ n, 2 ≤ dr n
  | 0 => Int.le_refl _
  | n + 1 => by
    have := dr_pos n
    show 2 ≤ 2 + 3 * dr n
    omega
def spSome : Nat → Sp := fun n vs H Q _ => ∃ (s g c : Addr) (t : Int), vs = [.ref s, .int (n : Nat)] ∧ StO H s g c t ∧ 0 ≤ t ∧ t + dr n ≤ 1000000 ∧ ∀ H' v d, Fr3 s g H H' → StO H' s g c (t + dr n) → mv n d → Dt H' v d → Q v H'
abbrev nSome : List Str := ["state", "deep", "way", "lap"]
theorem scSome : FnScope nSome ["state", "deep"] (defScope sSome) := ⟨rfl, rfl, rfl, by decide +kernel, rfl, by decide +kernel, by decide +kernel⟩
theorem Fr3.tupk {s g c : Addr} {n : Int} {H H' : Hp} (k : Fr3 s g H H') (x : StO H s g c n) : TupK H H' := fun b xs h => by
  obtain ⟨gs, cs, r, t, h1, h2, _⟩ := x
  exact k b _ h (fun z => by rw [z, h1] at h; cases h) (fun z => by rw [z, h2] at h; cases h)
theorem mv_noL {n : Nat} (hn : n ≤ 59) {d : PyData} (h : mv n d) : noL d = true := noL_ok 59 d (mv_ok n d h 59 hn)
theorem mv_leaf {n : Nat} {d : PyData} (h : d ∈ menu) : mv n d := by
  cases n with
  | zero => exact h
  | succ n => exact .inl h
theorem Fr3.setNew {s g D : Addr} {H H2 H3 : Hp} {u : HO} (k0 : Fr3 s g H H2) (hD : H2 D = none) (k : Fr3 s g H H3) : Fr3 s g H (upd H3 D u) := fun b o h n1 n2 => by
  rw [upd_ne (ne_of_none (k0 b o h n1 n2) hD)]
  exact k b o h n1 n2
theorem StO.setO {H : Hp} {s g c D : Addr} {n : Int} {u : HO} (x : StO H s g c n) (n1 : D ≠ s) (n2 : D ≠ g) (n3 : D ≠ c) : StO (upd H D u) s g c n := by
  obtain ⟨gs, cs, r, t, h1, h2, h3, h⟩ := x
  exact ⟨gs, cs, r, t, (upd_ne n1.symm).trans h1, (upd_ne n2.symm).trans h2, (upd_ne n3.symm).trans h3, h⟩
theorem StO.ne_new {H : Hp} {s g c D : Addr} {n : Int} (x : StO H s g c n) (hD : H D = none) : D ≠ s ∧ D ≠ g ∧ D ≠ c := by
  obtain ⟨gs, cs, r, t, h1, h2, h3, h⟩ := x
  exact ⟨(ne_of_none h1 hD).symm, (ne_of_none h2 hD).symm, (ne_of_none h3 hD).symm⟩
def spSomeP : Nat → Sp
  | 0 => fun _ _ _ _ => False
  | n + 1 => spSome n
theorem spSomeP_len (n : Nat) : ∀ vs H Q E, spSomeP n vs H Q E → vs.length = ["state", "deep"].length := fun vs H Q E h => by
  cases n with
  | zero => exact False.elim h
  | succ n =>
    obtain ⟨s, g, c, t, rfl, _⟩ := h
    rfl
section
variable {P : Program} {w : World} {K : PySem.W.Frag} {mg : Str → Option Value} {base : Heap} {f fD fP : Addr} {fd fdD fdP : FuncData}
theorem ok_some (F : FnP K "_law_some_value" sSome f fd) (g : mg "_law_some_value" = some (.ref f)) (FD : FnP K "_law_draw" sDraw fD fdD) (GD : FnOk P w K mg base CX0 2 fD fdD ["state", "room"] spDraw) (gD : mg "_law_draw" = some (.ref fD))
    (FP : FnP K "_law_pick" sPick fP fdP) (GP : FnOk P w K mg base CX0 3 fP fdP ["state", "some"] spPick) (gP : mg "_law_pick" = some (.ref fP)) (B : Blt mg) : ∀ n, FnOk P w K mg base CX0 (n + 3) f fd ["state", "deep"] (spSomeP n)
  | 0 => ⟨spSomeP_len 0, fun _ _ _ _ _ _ _ _ _ _ _ _ _ h => False.elim h⟩
  | n + 1 => by
    have nd := scSome.nd
    have G := ok_some F g FD GD gD FP GP gP B n
    have bD : Binds K fdD ["state", "room"] [] := FD.bindsN fun _ _ _ _ _ _ us hl => match us, hl with | [_, _], _ => rfl
    have bP : Binds K fdP ["state", "some"] [] := FP.bindsN fun _ _ _ _ _ _ us hl => match us, hl with | [_, _], _ => rfl
    have b : Binds K fd ["state", "deep"] [] := F.bindsN fun _ _ _ _ _ _ us hl => match us, hl with | [_, _], _ => rfl
    refine F.ok scSome (spSomeP_len (n + 1)) (fun cdv A outer s H vs Q E hr h => ⟨_, PSs.nox <|
      pss_cons (ps_set (i := 2) nd rfl (.inl rfl) (pe_ifExp (pt_cmpR op_gt (pv 1) pe_int (nomark _)) (pe_call GD (hr.mono (by omega)) (by rfl) gD FD.kp bD .nil pass0 (pa_cons (pv 0) (pa_cons pe_int pa_nil))) (pe_call GD (hr.mono (by omega)) (by rfl) gD FD.kp bD .nil pass0 (pa_cons (pv 0) (pa_cons pe_int pa_nil))))) <|
      pss_cons (ps_if (pt_cmpR op_eq (pv 2) pe_int (nomark _)) (pss_one (ps_ret (pe_call GP (hr.mono (by omega)) (by rfl) gP FP.kp bP .nil pass0 (pa_cons (pv 0) (pa_cons (pe_lst (pa_cons pe_str (pa_cons pe_str (pa_cons pe_str (pa_cons pe_str (pa_cons pe_str pa_nil)))))) pa_nil))))) pss_nil) <|
      pss_cons (ps_if (pt_cmpR op_eq (pv 2) pe_int (nomark _)) (pss_one (ps_ret (pe_call GP (hr.mono (by omega)) (by rfl) gP FP.kp bP .nil pass0 (pa_cons (pv 0) (pa_cons (pe_lst (pa_cons pe_int (pa_cons pe_int (pa_cons (pe_op op_sub pe_int pe_int) (pa_cons pe_int (pa_cons (pe_op op_sub pe_int pe_int) (pa_cons pe_int (pa_cons (pe_op op_sub pe_int pe_int) pa_nil)))))))) pa_nil))))) pss_nil) <|
      pss_cons (ps_if (pt_cmpR op_eq (pv 2) pe_int (nomark _)) (pss_one (ps_ret pe_non)) pss_nil) <|
      pss_one (ps_ret (pe_callTy call_tuple_of (by rfl) B.tuple boot_tuple (pa_cons (pe_lc (own := [("lap", 3)]) (g := gName 3) (tt := tYes) rfl nd (pi_range1 (by rfl) B.range (pa_cons (pe_call GD (hr.mono (by omega)) (by rfl) gD FD.kp bD .nil pass0 (pa_cons (pv 0) (pa_cons pe_int pa_nil))) pa_nil)) (blkOk_by (N := nSome) (sc := defScope sSome) (by decide +kernel))
        (fun _ _ _ _ _ => pg_name (i := 3) nd rfl (Or.inl rfl)) (fun _ _ _ _ _ => pts_nil) (fun _ _ _ _ _ => pe_call G hr (by rfl) g F.kp b .nil pass0 (pa_cons (pv 0) (pa_cons (pe_op op_sub (pv 1) pe_int) pa_nil)))) pa_nil))), ?_⟩)
    obtain ⟨st, gg, c, t, rfl, hS, ht0, htb, hq⟩ := h
    have hsl : sizeLine = 16777216 := sizeLine_eq
    have hdr := dr_pos n
    -- behind the first draw
    have rest : ∀ (H1 : Hp) (i : Int), Fr3 st gg H H1 → StO H1 st gg c (t + 1) → 0 ≤ i → (n = 0 → i < 3) → tSeq (tIfS (tTest (tOp rEq (tVar 2) (tC (.int 0)))) (tRet (tCall spPick [] E0 (tCons (tVar 0) (tCons (tLst (tCons (tC (.str ("a" : Str))) (tCons (tC (.str ("on" : Str))) (tCons (tC (.str ("zz" : Str))) (tCons (tC (.str ("entry" : Str))) (tCons (tC (.str ("abcdefghijklm" : Str))) tNil)))))) tNil)))) tNext)
        (tSeq (tIfS (tTest (tOp rEq (tVar 2) (tC (.int 1)))) (tRet (tCall spPick [] E0 (tCons (tVar 0) (tCons (tLst (tCons (tC (.int 0)) (tCons (tC (.int 1)) (tCons (tOp (rI0 fun i j => .int (i - j)) (tC (.int 0)) (tC (.int 1))) (tCons (tC (.int 7)) (tCons (tOp (rI0 fun i j => .int (i - j)) (tC (.int 0)) (tC (.int 42))) (tCons (tC (.int 999999999999)) (tCons (tOp (rI0 fun i j => .int (i - j)) (tC (.int 0)) (tC (.int 999999999999))) tNil)))))))) tNil)))) tNext)
        (tSeq (tIfS (tTest (tOp rEq (tVar 2) (tC (.int 2)))) (tRet (tC .non)) tNext)
          (tRet (tCB (fun xs H Q => ∃ p ys, xs = [.ref p] ∧ ((SqL K H p ys ∧ ∀ l, H l = none → Q (.ref l) (upd H l (.tup ys))) ∨ (SqT K H p ys ∧ Q (.ref p) H))) (tCons (tLc (iRng1 (tCons (tCall spDraw [] E0 (tCons (tVar 0) (tCons (tC (.int 4)) tNil))) tNil)) (gName 3) tYes (tCall (spSomeP n) [] E0 (tCons (tVar 0) (tCons (tOp (rI0 fun i j => .int (i - j)) (tVar 1) (tC (.int 1))) tNil))) [3]) tNil)))))
        { nx := fun _ H' => Q .non H', rt := Q } [some (.ref st), some (.int (n : Nat)), some (.int i), none] H1 := by
      intro H1 i k1 hS1 hi0 hi3
      refine ⟨.int i, rfl, rfl, _, rfl, ?_⟩
      by_cases h0 : i = 0
      · refine ifT (decide_eq_true (by rw [h0])) ⟨.ref st, rfl, (by show 5 ≤ sizeLine; omega), fun l hl => ?_⟩
        obtain ⟨n1, n2, n3⟩ := hS1.ne_new hl
        refine ⟨st, gg, c, l, t + 1, _, rfl, hS1.new hl, by omega, upd_same, n1, n2, by decide, by decide, fun H2 v k2 hS2 hv => ?_⟩
        have hv' : v ∈ menuW.map V.str := hv
        obtain ⟨z, hz, rfl⟩ := List.mem_map.mp hv'
        exact hq H2 _ (.str z) (k1.trans ((Fr3.new (Fr3.refl _ _ _) hl).trans k2)) (hS2.more (by omega)) (mv_leaf (List.mem_append_left _ (List.mem_append_left _ (List.mem_map_of_mem hz)))) (.str z)
      · refine ifF (decide_eq_false (fun z => h0 (by injection z))) ⟨.int i, rfl, rfl, _, rfl, ?_⟩
        by_cases h1 : i = 1
        · refine ifT (decide_eq_true (by rw [h1])) ⟨.ref st, rfl, _, _, rfl, rfl, _, _, rfl, rfl, _, _, rfl, rfl, (by show 7 ≤ sizeLine; omega), fun l hl => ?_⟩
          obtain ⟨n1, n2, n3⟩ := hS1.ne_new hl
          refine ⟨st, gg, c, l, t + 1, _, rfl, hS1.new hl, by omega, upd_same, n1, n2, by decide, by decide, fun H2 v k2 hS2 hv => ?_⟩
          have hv' : v ∈ menuI.map V.int := hv
          obtain ⟨z, hz, rfl⟩ := List.mem_map.mp hv'
          exact hq H2 _ (.int z) (k1.trans ((Fr3.new (Fr3.refl _ _ _) hl).trans k2)) (hS2.more (by omega)) (mv_leaf (List.mem_append_left _ (List.mem_append_right _ (List.mem_map_of_mem hz)))) (.int z)
        · refine ifF (decide_eq_false (fun z => h1 (by injection z))) ⟨.int i, rfl, rfl, _, rfl, ?_⟩
          by_cases h2 : i = 2
          · refine ifT (decide_eq_true (by rw [h2])) (hq H1 .non .none k1 (hS1.more (by omega)) (mv_leaf (List.mem_append_right _ (List.mem_singleton.mpr rfl))) .non)
          · refine ifF (decide_eq_false (fun z => h2 (by injection z))) ?_
            obtain ⟨m, rfl⟩ : ∃ m, n = m + 1 := by
              cases n with
              | zero =>
                have := hi3 rfl
                omega
              | succ m => exact ⟨m, rfl⟩
            have hdm := dr_pos m
            have hde : dr (m + 1) = 2 + 3 * dr m := rfl
            refine ⟨.ref st, rfl, st, gg, c, t + 1, 4, rfl, hS1, by omega, by decide, by decide, fun H2 j k2 hS2 hj0 hj1 => ⟨j, rfl, by omega, by omega, fun D hD => ?_⟩⟩
            obtain ⟨n1, n2, n3⟩ := hS2.ne_new hD
            have k02 := k1.trans k2
            refine lc_range (lo := 0) (n := j.toNat) (fun i H' => Fr3 st gg H H' ∧ StO H' st gg c (t + 2 + (i : Nat) * dr m) ∧ ∃ (xs : List V) (ds : List PyData), H' D = some (.lst xs) ∧ DtAll H' xs ds ∧ ds.length = i ∧ ∀ e ∈ ds, mv m e)
              ⟨Fr3.new k02 hD, (hS2.new hD).more (by simp; omega), [], [], upd_same, .nil, rfl, by simp⟩ (fun i H' hi hP => ?_) (fun H' hP => ?_)
            · obtain ⟨k3, hS3, xs, ds, hDx, hdt, hdl, hmv⟩ := hP
              have hij : (i : Int) ≤ 2 := by omega
              have hmul : (i : Int) * dr m ≤ 2 * dr m := Int.mul_le_mul_of_nonneg_right hij (by omega)
              have hmul0 : 0 ≤ (i : Int) * dr m := Int.mul_nonneg (by omega) (by omega)
              refine ⟨rfl, yesT ⟨.ref st, rfl, .int ((m + 1 : Nat) : Int), rfl, _, _, rfl, rfl, st, gg, c, t + 2 + (i : Nat) * dr m, ?_, hS3, by omega, by omega, fun H4 v d k4 hS4 hmd hdv => ?_⟩⟩
              · have em : (((m + 1 : Nat) : Int) - 1) = ((m : Nat) : Int) := by omega
                show [V.ref st, V.int (((m + 1 : Nat) : Int) - 1)] = [V.ref st, V.int ((m : Nat) : Int)]
                rw [em]
              · have hD4 := k4 _ _ hDx n1 n2
                have tk := TupK.trans (Fr3.tupk k4 hS3) (tupk_lst (u := .lst (xs ++ [v])) hD4)
                have hns : noLs ds = true := noLs_of fun e he => noL_ok m e (mv_ok m e (hmv e he) m (Nat.le_refl _))
                refine ⟨xs, hD4, ?_, Fr3.setNew k02 hD (k3.trans k4), (hS4.setO n1 n2 n3).more ?_, xs ++ [v], ds ++ [d], upd_same, (hdt.tupk tk hns).app (.cons (hdv.tupk (tupk_lst hD4) (noL_ok m d (mv_ok m d hmd m (Nat.le_refl _)))) .nil), by simp [hdl], fun e he => ?_⟩
                · rw [hdt.len, hdl]
                  omega
                · have e1 : ((i + 1 : Nat) : Int) * dr m = (i : Int) * dr m + dr m := by
                    rw [show ((i + 1 : Nat) : Int) = (i : Int) + 1 from by omega, Int.add_mul, Int.one_mul]
                  rw [e1]
                  omega
                · rcases List.mem_append.mp he with he | he
                  · exact hmv e he
                  · rw [List.mem_singleton.mp he]
                    exact hmd
            · obtain ⟨k3, hS3, xs, ds, hDx, hdt, hdl, hmv⟩ := hP
              have hns : noLs ds = true := noLs_of fun e he => noL_ok m e (mv_ok m e (hmv e he) m (Nat.le_refl _))
              refine ⟨D, xs, rfl, .inl ⟨.inl (.inl hDx), fun l hl => hq _ (.ref l) (.tuple ds) (Fr3.new k3 hl) ((hS3.new hl).more ?_) (.inr ⟨ds, rfl, by omega, hmv⟩) (.tup upd_same (hdt.tupk (tupk_new hl) hns))⟩⟩
              have hmul : ((j.toNat : Nat) : Int) * dr m ≤ 3 * dr m := Int.mul_le_mul_of_nonneg_right (by omega) (by omega)
              omega
    refine ⟨.int (n : Nat), rfl, _, _, rfl, rfl, _, rfl, ?_⟩
    by_cases hn0 : n = 0
    · refine ifF (decide_eq_false (by omega)) ⟨.ref st, rfl, st, gg, c, t, 3, rfl, hS, by omega, by decide, by decide, fun H1 i k1 hS1 hi0 hi1 => ?_⟩
      exact rest H1 i k1 hS1 hi0 (fun _ => hi1)
    · refine ifT (decide_eq_true (by omega)) ⟨.ref st, rfl, st, gg, c, t, 6, rfl, hS, by omega, by decide, by decide, fun H1 i k1 hS1 hi0 hi1 => ?_⟩
      exact rest H1 i k1 hS1 hi0 (fun z => absurd z hn0)
end
end K88
set_option maxHeartbeats 4000000
/-! What the law asks of plain data. -/
namespace K88
open PySem PySem.Spec PyProof.Rows L2 LamG NtP
/-! ### equal data are the same -/
mutual
theorem eqv_ok : ∀ (d e : PyData) (n : Nat), okAt n d = true → okAt n e = true → PyData.eqv d e = true → d = e
  | .none, e, n, h1, h2, h => by cases e <;> first | rfl | (simp [PyData.eqv] at h)
  | .bool b, e, n, h1, h2, h => by cases n <;> cases h1
  | .int i, e, n, h1, h2, h => by
    cases e with
    | int j => simp [PyData.eqv] at h; rw [h]
    | bool b => cases n <;> cases h2
    | _ => simp [PyData.eqv] at h
  | .str x, e, n, h1, h2, h => by
    cases e with
    | str y => simp [PyData.eqv] at h; rw [h]
    | _ => simp [PyData.eqv] at h
  | .list ds, e, n, h1, h2, h => by cases n <;> cases h1
  | .dict ds, e, n, h1, h2, h => by cases n <;> cases h1
  | .tuple ds, e, n, h1, h2, h => by
    cases e with
    | tuple es =>
      cases n with
      | zero => cases h1
      | succ n =>
        have k1 : ds.all (okAt n) = true := by
          have hk : ((true || leafB (.tuple ds)) && ds.all (okAt n)) = true := h1
          simpa using hk
        have k2 : es.all (okAt n) = true := by
          have hk : ((true || leafB (.tuple es)) && es.all (okAt n)) = true := h2
          simpa using hk
        have := eqvAll_ok ds es n k1 k2 (by simpa [PyData.eqv] using h)
        rw [this]
    | _ => simp [PyData.eqv] at h
theorem eqvAll_ok : ∀ (ds es : List PyData) (n : Nat), ds.all (okAt n) = true → es.all (okAt n) = true → PyData.eqvAll ds es = true → ds = es
  | [], [], _, _, _, _ => rfl
  | [], _ :: _, _, _, _, h => by simp [PyData.eqvAll] at h
  | _ :: _, [], _, _, _, h => by simp [PyData.eqvAll] at h
  | d :: ds, e :: es, n, h1, h2, h => by
    simp only [List.all_cons, Bool.and_eq_true] at h1 h2
    simp only [PyData.eqvAll, Bool.and_eq_true] at h
    rw [eqv_ok d e n h1.1 h2.1 h.1, eqvAll_ok ds es n h1.2 h2.2 h.2]
end
/-! ### data that can be compared and shown -/
theorem wordT_low {z : Str} (h : wordT z = true) : PyData.strOk z = true := by
  unfold wordT at h
  rw [Bool.and_eq_true] at h
  have h2 := List.all_eq_true.mp h.2
  have e : smalls.cps.toList.all (fun c => decide (c < 128)) = true := by decide +kernel
  unfold PyData.strOk
  rw [← Array.all_toList, List.all_eq_true]
  intro c hc
  have h3 := of_decide_eq_true (h2 c hc)
  have h4 := of_decide_eq_true (List.all_eq_true.mp e c h3)
  exact decide_eq_true (by omega)
mutual
theorem lay_ok : ∀ (d : PyData) (n : Nat), okAt n d = true → d.canLay0 = true
  | .none, _, _ => by simp [PyData.canLay0]
  | .bool _, _, _ => by simp [PyData.canLay0]
  | .int _, _, _ => by simp [PyData.canLay0]
  | .str z, n, h => by
    have hw : wordT z = true := by
      cases n with
      | zero =>
        have h : (false || wordT z || false) = true := h
        simpa using h
      | succ n =>
        have h : ((false || (false || wordT z || false)) && true) = true := h
        simpa using h
    simp only [PyData.canLay0]
    exact wordT_low hw
  | .list ds, n, h => by cases n <;> cases h
  | .dict ds, n, h => by cases n <;> cases h
  | .tuple ds, n, h => by
    cases n with
    | zero => cases h
    | succ n =>
      have k1 : ds.all (okAt n) = true := by
        have hk : ((true || leafB (.tuple ds)) && ds.all (okAt n)) = true := h
        simpa using hk
      simp only [PyData.canLay0]
      exact layAll_ok ds n k1
theorem layAll_ok : ∀ (ds : List PyData) (n : Nat), ds.all (okAt n) = true → PyData.canLayAll0 ds = true
  | [], _, _ => by simp [PyData.canLayAll0]
  | d :: ds, n, h => by
    simp only [List.all_cons, Bool.and_eq_true] at h
    simp only [PyData.canLayAll0, Bool.and_eq_true]
    exact ⟨lay_ok d n h.1, layAll_ok ds n h.2⟩
end
mutual
theorem depth_ok : ∀ (d : PyData) (n : Nat), okAt n d = true → d.depth ≤ n
  | .none, _, _ => by simp [PyData.depth]
  | .bool _, _, _ => by simp [PyData.depth]
  | .int _, _, _ => by simp [PyData.depth]
  | .str z, n, h => by simp [PyData.depth]
  | .list ds, n, h => by cases n <;> cases h
  | .dict ds, n, h => by cases n <;> cases h
  | .tuple ds, n, h => by
    cases n with
    | zero => cases h
    | succ n =>
      have k1 : ds.all (okAt n) = true := by
        have hk : ((true || leafB (.tuple ds)) && ds.all (okAt n)) = true := h
        simpa using hk
      have := depthAll_ok ds n k1
      simp only [PyData.depth]
      omega
theorem depthAll_ok : ∀ (ds : List PyData) (n : Nat), ds.all (okAt n) = true → PyData.depthAll ds ≤ n
  | [], _, _ => by simp [PyData.depthAll]
  | d :: ds, n, h => by
    simp only [List.all_cons, Bool.and_eq_true] at h
    have h1 := depth_ok d n h.1
    have h2 := depthAll_ok ds n h.2
    simp only [PyData.depthAll]
    omega
end
theorem shaped_ok {n : Nat} (hn : n ≤ 64) {d : PyData} (h : okAt n d = true) : SeqAt.shaped d = true := by
  have h1 := lay_ok d n h
  have h2 := depth_ok d n h
  show (d.canLay0 && decide (d.depth ≤ 64)) = true
  rw [h1, decide_eq_true (by omega)]
  rfl
mutual
theorem show_ok : ∀ (d : PyData) (n : Nat), okAt n d = true → d.showable = true ∧ d.hasDict = false
  | .none, _, _ => by simp [PyData.showable, PyData.hasDict]
  | .bool _, _, _ => by simp [PyData.showable, PyData.hasDict]
  | .int i, n, h => by
    have hf : isFig (.int i) = true := by
      cases n with
      | zero =>
        have h : (false || false || isFig (.int i)) = true := h
        simpa using h
      | succ n =>
        have h : ((false || (false || false || isFig (.int i))) && true) = true := h
        simpa using h
    have hlt := of_decide_eq_true (show decide ((if i < 0 then -i else i) < 1000000000000) = true from hf)
    have hna : i.natAbs < 1000000000000 := by split at hlt <;> omega
    simp only [PyData.showable, PyData.hasDict, and_true]
    refine decide_eq_true ?_
    by_cases h0 : i.natAbs = 0
    · rw [h0]; decide
    · have : i.natAbs < 2 ^ 40 := by omega
      have := (Nat.log2_lt h0).mpr this
      omega
  | .str z, n, h => by simp [PyData.showable, PyData.hasDict]
  | .list ds, n, h => by cases n <;> cases h
  | .dict ds, n, h => by cases n <;> cases h
  | .tuple ds, n, h => by
    cases n with
    | zero => cases h
    | succ n =>
      have k1 : ds.all (okAt n) = true := by
        have hk : ((true || leafB (.tuple ds)) && ds.all (okAt n)) = true := h
        simpa using hk
      have := showAll_ok ds n k1
      simp only [PyData.showable, PyData.hasDict]
      exact this
theorem showAll_ok : ∀ (ds : List PyData) (n : Nat), ds.all (okAt n) = true → PyData.showableAll ds = true ∧ PyData.hasDictAll ds = false
  | [], _, _ => by simp [PyData.showableAll, PyData.hasDictAll]
  | d :: ds, n, h => by
    simp only [List.all_cons, Bool.and_eq_true] at h
    have h1 := show_ok d n h.1
    have h2 := showAll_ok ds n h.2
    simp only [PyData.showableAll, PyData.hasDictAll, h1.1, h1.2, h2.1, h2.2]
    exact ⟨rfl, rfl⟩
end
/-! ### how long what is shown can be -/
theorem join_le (N : Nat) : ∀ ts : List Str, (∀ t ∈ ts, t.length ≤ N) → (Str.join ", " ts).length ≤ ts.length * (N + 2)
  | [], _ => by show (0 : Nat) ≤ _; omega
  | [x], h => by
    have := h x (List.mem_cons_self ..)
    show x.length ≤ 1 * (N + 2)
    omega
  | x :: y :: r, h => by
    have h1 := join_le N (y :: r) fun t ht => h t (List.mem_cons_of_mem _ ht)
    have h2 := h x (List.mem_cons_self ..)
    have e : (Str.join ", " (x :: y :: r)).length = x.length + 2 + (Str.join ", " (y :: r)).length := by
      show ((x.cps ++ (", " : Str).cps) ++ (Str.join ", " (y :: r)).cps).size = _
      rw [Array.size_append, Array.size_append]
      rfl
    rw [e, List.length_cons, Nat.succ_mul]
    omega
def shLen : Nat → Nat
  | 0 => 40
  | n + 1 => 3 * (shLen n + 2) + 40
theorem menu_shown : ∀ d ∈ menu, d.shown.length ≤ 40 := fun d hd => of_decide_eq_true (List.all_eq_true.mp (show menu.all (fun d => decide (d.shown.length ≤ 40)) = true by decide +kernel) d hd)
theorem shownAll_map : ∀ ds : List PyData, PyData.shownAll ds = ds.map PyData.shown
  | [] => by simp [PyData.shownAll]
  | d :: ds => by simp [PyData.shownAll, shownAll_map ds]
theorem mv_shown : ∀ (n : Nat) (d : PyData), mv n d → d.shown.length ≤ shLen n
  | 0, d, h => menu_shown d h
  | n + 1, d, h => by
    rcases h with h | ⟨ds, rfl, hl, h⟩
    · have := menu_shown d h
      show _ ≤ 3 * (shLen n + 2) + 40
      omega
    · have h1 := join_le (shLen n) (ds.map PyData.shown) fun t ht => by
        obtain ⟨e, he, rfl⟩ := List.mem_map.mp ht
        exact mv_shown n e (h e he)
      rw [List.length_map] at h1
      have h2 : ds.length * (shLen n + 2) ≤ 3 * (shLen n + 2) := Nat.mul_le_mul_right _ hl
      simp only [PyData.shown]
      rw [shownAll_map]
      unfold tupleText
      have e : ∀ a b : Str, (a ++ b).length = a.length + b.length := fun a b => by
        show (a.cps ++ b.cps).size = _
        rw [Array.size_append]
        rfl
      rw [e, e]
      have l1 : ("(" : Str).length = 1 := rfl
      have l2 : (Str.ofString (if (ds.map PyData.shown).length == 1 then ",)" else ")" : String)).length ≤ 2 := by split <;> decide +kernel
      rw [l1]
      show 1 + (Str.join ", " (ds.map PyData.shown)).length + (Str.ofString (if (ds.map PyData.shown).length == 1 then ",)" else ")" : String)).length ≤ 3 * (shLen n + 2) + 40
      omega
theorem isOk_mv {n : Nat} (hn : n ≤ 3) {d : PyData} (h : mv n d) : IsOk d := by
  have hok := mv_ok n d h 59 (by omega)
  have hok60 := mv_ok n d h 60 (by omega)
  have hs := show_ok d 59 hok
  have hsl : sizeLine = 16777216 := sizeLine_eq
  refine ⟨plAt_ok 60 d hok60, shaped_ok (by decide) hok, hs.1, hs.2, Nat.le_trans (depth_ok d 59 hok) (by decide), fun i hi => ?_, ?_, lay_ok d 59 hok⟩
  · rw [hi] at hs
    exact of_decide_eq_true (by simpa [PyData.showable] using hs.1)
  · have h1 := mv_shown n d h
    have h2 : shLen n ≤ shLen 3 := by
      match n, hn with
      | 0, _ => decide
      | 1, _ => decide
      | 2, _ => decide
      | 3, _ => decide
    have h3 : shLen 3 ≤ 100000 := by decide
    omega
theorem isOk_str {z : Str} (h1 : z.length ≤ 100000) (h2 : z.cps.toList.all (fun c => decide (c < 128)) = true) : IsOk (.str z) := by
  have hsl : sizeLine = 16777216 := sizeLine_eq
  have hlow : ∀ c ∈ z.cps.toList, c < 128 := fun c hc => of_decide_eq_true (List.all_eq_true.mp h2 c hc)
  have hlay : (PyData.str z).canLay0 = true := by
    simp only [PyData.canLay0]
    unfold PyData.strOk
    rw [← Array.all_toList, List.all_eq_true]
    intro c hc
    have := hlow c hc
    exact decide_eq_true (by omega)
  refine ⟨rfl, ?_, by simp [PyData.showable], by simp [PyData.hasDict], by simp [PyData.depth], (fun i hi => nomatch hi), ?_, hlay⟩
  · show ((PyData.str z).canLay0 && decide ((PyData.str z).depth ≤ 64)) = true
    rw [hlay]
    simp [PyData.depth]
  · have := PySem.StrLaws.reprText_len z fun c hc => by have := hlow c hc; omega
    simp only [PyData.shown]
    omega
theorem menu_low : ∀ d ∈ menu, (vt d).all (fun c => decide (c < 128)) = true := List.all_eq_true.mp (show menu.all (fun d => (vt d).all (fun c => decide (c < 128))) = true by decide +kernel)
theorem vtr_low : ∀ ds : List PyData, (∀ e ∈ ds, (vt e).all (fun c => decide (c < 128)) = true) → (vtr ds).all (fun c => decide (c < 128)) = true
  | [], _ => by simp [vtr]
  | d :: r, h => by
    have h1 := h d (List.mem_cons_self ..)
    have h2 := vtr_low r fun e he => h e (List.mem_cons_of_mem _ he)
    simp only [vtr, List.all_cons, List.all_append, h1, h2]
    rfl
theorem mv_low : ∀ (n : Nat) (d : PyData), mv n d → (vt d).all (fun c => decide (c < 128)) = true
  | 0, d, h => menu_low d h
  | n + 1, d, h => by
    rcases h with h | ⟨ds, rfl, hl, h⟩
    · exact menu_low d h
    · have h1 : (vts ds).all (fun c => decide (c < 128)) = true := by
        cases ds with
        | nil => simp [vts]
        | cons d r =>
          have k1 := mv_low n d (h d (List.mem_cons_self ..))
          have k2 := vtr_low r fun e he => mv_low n e (h e (List.mem_cons_of_mem _ he))
          simp only [vts, List.all_append, k1, k2]
          rfl
      simp only [vt, List.all_cons, List.all_append, h1]
      rfl
/-! ### what is read, what is refused -/
theorem readV_spec {z : List Nat} {e : PyData} (h : readV z = some e) : okAt 59 e = true ∧ vt e = z ∧ tw e ≤ 2 * z.length := by
  unfold readV at h
  cases hv : valueOf (pcs z) with
  | none => rw [hv] at h; cases h
  | some d =>
    rw [hv] at h
    have h : (if (okAt 59 d && decide (vt d = z)) = true then some d else none) = some e := h
    split at h
    · rename_i hc
      rw [Bool.and_eq_true] at hc
      rw [← Option.some.inj h]
      exact ⟨hc.1, of_decide_eq_true hc.2, valueOf_tw hv⟩
    · cases h
def bad1 : List PyData := [.str "A", .str "", .str "a b", .str "a1", .str "-", .int (10 ^ 12), .int (0 - 10 ^ 12), .bool true, .list [.str "a"], .tuple [.str "a", .list [.str "b"]], .tuple [.str "a", .str "B"], nestD 60 (.str "a"), .tuple [.str "a", .bool true]]
theorem bad1_ok : ∀ d ∈ bad1, okAt 59 d = false ∧ nodes d ≤ 100000 ∧ short d = true := fun d hd => by
  have h := List.all_eq_true.mp (show bad1.all (fun d => !okAt 59 d && decide (nodes d ≤ 100000) && short d) = true by decide +kernel) d hd
  simp only [Bool.and_eq_true] at h
  exact ⟨by simpa using h.1.1, of_decide_eq_true h.1.2, h.2⟩
def bad2 : List PyData := [.none, .int 5, .str "", .str " ", .str "A", .str "a b", .str "01", .str "-0", .str "--1", .str "+1", .str "1000000000000", .str "(", .str ")", .str "(a", .str "a)", .str "(a))", .str "( a)", .str "(a )", .str "(a  b)", .str "()()", .str "(a)(b)", .str "a()", .str "1a", .str "a1", .str "- 1", .str "(-)-", .str "(a\nb)", .str "1/2"]
theorem bad2_ok : ∀ d ∈ bad2, rdAny d = none := fun d hd => by
  have h := List.all_eq_true.mp (show bad2.all (fun d => (rdAny d).isNone) = true by decide +kernel) d hd
  exact Option.isNone_iff_eq_none.mp h
def zDeep (n : Nat) : Str := Txt.mul "(" n ++ "a" ++ Txt.mul ")" n
def deep59 : PyData := nestD 59 (.str "a")
theorem deep_text : S (vt deep59) = zDeep 59 := by decide +kernel
theorem deep_ok : okAt 59 deep59 = true ∧ nodes deep59 ≤ 100000 ∧ short deep59 = true ∧ (vt deep59).length ≤ 1000000 := ⟨by decide +kernel, by decide +kernel, by decide +kernel, by decide +kernel⟩
theorem deep_read : readV (zDeep 59).cps.toList = some deep59 := by
  have h : (match readV (zDeep 59).cps.toList with
    | some e => PyData.eqv e deep59
    | none => false) = true := by decide +kernel
  cases hr : readV (zDeep 59).cps.toList with
  | none => rw [hr] at h; cases h
  | some e =>
    rw [hr] at h
    rw [eqv_ok e deep59 59 (readV_spec hr).1 deep_ok.1 h]
theorem deep_bad : readV (zDeep 60).cps.toList = none := by
  have h : (readV (zDeep 60).cps.toList).isNone = true := by decide +kernel
  exact Option.isNone_iff_eq_none.mp h
theorem isOk_deep : IsOk (.str (zDeep 59)) := isOk_str (by decide +kernel) (by decide +kernel)
end K88
set_option maxHeartbeats 4000000
/-! The law: words of refused things, what stays. -/
namespace K88
open PySem PySem.Spec PyProof.Rows L2 LamG NtP LamX
mutual
theorem Dt.extn {H H' : Hp} (s : ExtN H H') : ∀ {d : PyData} {v : V}, Dt H v d → Dt H' v d
  | _, _, .non => .non
  | _, _, .bl b => .bl b
  | _, _, .int i => .int i
  | _, _, .str z => .str z
  | _, _, .lst h t => .lst (s _ _ h fun _ z => nomatch z) (DtAll.extn s t)
  | _, _, .tup h t => .tup (s _ _ h fun _ z => nomatch z) (DtAll.extn s t)
theorem DtAll.extn {H H' : Hp} (s : ExtN H H') : ∀ {ds : List PyData} {vs : List V}, DtAll H vs ds → DtAll H' vs ds
  | _, _, .nil => .nil
  | _, _, .cons h t => .cons (Dt.extn s h) (DtAll.extn s t)
end
theorem StO.extn {H H' : Hp} {s g c : Addr} {n : Int} (x : StO H s g c n) (k : ExtN H H') : StO H' s g c n := by
  obtain ⟨gs, cs, r, t, h1, h2, h3, h⟩ := x
  exact ⟨gs, cs, r, t, k _ _ h1 (fun _ z => nomatch z), k _ _ h2 (fun _ z => nomatch z), k _ _ h3 (fun _ z => nomatch z), h⟩
theorem seq_extn {K : PySem.W.Frag} {H H' : Hp} {a : Addr} {xs : List V} (k : ExtN H H') (h : SqL K H a xs) : SqL K H' a xs := by
  rcases h with (h | ⟨o, h⟩) | h
  · exact .inl (.inl (k _ _ h fun _ z => nomatch z))
  · exact .inl (.inr ⟨o, k _ _ h fun _ z => nomatch z⟩)
  · exact .inr h
theorem codeO_dK {c : Addr} {q : Str} {kvs : List (Key × V)} : CodeO c q ≠ .dK kvs := fun z => by
  unfold CodeO at z
  cases z
theorem codeO_lst {c : Addr} {q : Str} {xs : List V} : CodeO c q ≠ .lst xs := fun z => by
  unfold CodeO at z
  cases z
theorem Tabs.fr3 {T : List (Addr × Str)} {H H' : Hp} {s g c : Addr} {n : Int} (t : Tabs T H) (x : StO H s g c n) (k : Fr3 s g H H') : Tabs T H' := fun p hp => by
  obtain ⟨ps, h1, h2, h3⟩ := t p hp
  obtain ⟨gs, cs, r, tt, e1, e2, _⟩ := x
  refine ⟨ps, k _ _ h1 (fun z => by rw [z, e1] at h1; cases h1) (fun z => by rw [z, e2] at h1; cases h1), h2, fun pos cv hc => ?_⟩
  obtain ⟨cc, q1, q2⟩ := h3 pos cv hc
  refine ⟨cc, q1, k _ _ q2 (fun z => ?_) fun z => ?_⟩
  · rw [z, e1] at q2
    exact codeO_dK (Option.some.inj q2).symm
  · rw [z, e2] at q2
    exact codeO_lst (Option.some.inj q2).symm
theorem Fr3.seq {K : PySem.W.Frag} {H H' : Hp} {s g c a : Addr} {n : Int} {xs : List V} (k : Fr3 s g H H') (x : StO H s g c n) (hg : a ≠ g) (h : SqL K H a xs) : SqL K H' a xs := by
  obtain ⟨gs, cs, r, tt, e1, e2, _⟩ := x
  rcases h with (h | ⟨o, h⟩) | h
  · exact .inl (.inl (k _ _ h (fun z => by rw [z, e1] at h; cases h) hg))
  · exact .inl (.inr ⟨o, k _ _ h (fun z => by rw [z, e1] at h; cases h) hg⟩)
  · exact .inr h
/-- ('text', 0) -/
abbrev txt0 : PyData := .tuple [.str "text", .int 0]
theorem dt_txt0 {H : Hp} {p : Addr} (h : H p = some (.tup [.str "text", .int 0])) : Dt H (.ref p) txt0 := .tup h (.cons (.str _) (.cons (.int _) .nil))
theorem sh_txt0 : SeqAt.shaped txt0 = true := by decide +kernel
theorem eq_txt0 : PyData.eqv txt0 txt0 = true := SeqAt.eqv_refl _ (by decide +kernel)
section
variable {CN : Addr} {T : List (Addr × Str)} {H : Hp} {σ : L2.St} {Q : VK} {v : V} {d : PyData}
theorem word_VT {i : Nat} (hT : Tabs T H) (hσ : σ[i]? = some (some v)) (hd : Dt H v d) (hb : okAt 59 d = false ∧ nodes d ≤ 100000 ∧ short d = true) (hQ : ∀ H2 p, ExtN H H2 → Tabs T H2 → H2 p = some (.tup [.str "text", .int 0]) → Q (.ref p) H2) :
    tWord CN T (fun E => tCall (spVT CN) [] E (tCons (tVar i) tNil)) σ H Q := by
  refine ⟨hT, fun Hc eC TC E' Q' hE hQ' => ⟨v, hσ, v, d, rfl, hd.extn eC, hb.2.1, hb.2.2, fun h => ?_, fun _ H' dd s hdd => hE _ _ _ ?_⟩⟩
  · rw [hb.1] at h
    cases h
  · exact ⟨LamG.ExtN.new (ExtN.of s) hdd, LamG.Tabs.new (TC.ext s) hdd, dd, .int 0, rfl, rfl, upd_same, hQ⟩
theorem word_RD {ta : TA} (hT : Tabs T H) (hta : ∀ (Hc : Hp) (R : List V → Hp → Prop), R [v] Hc → ta σ Hc R) (hd : Dt H v d) (hz : ∀ z, d = .str z → z.length ≤ 20000)
    (hno : rdAny d = none → ∀ H2 p, ExtN H H2 → Tabs T H2 → H2 p = some (.tup [.str "text", .int 0]) → Q (.ref p) H2) (hyes : ∀ e, rdAny d = some e → ∀ H2 v', ExtN H H2 → Tabs T H2 → Dt H2 v' e → Q v' H2) :
    tWord CN T (fun E => tCall (spRead CN) [] E ta) σ H Q := by
  refine ⟨hT, fun Hc eC TC E' Q' hE hQ' => hta Hc _ ⟨v, d, rfl, hd.extn eC, hz, fun e he H' v' s hv' hn => hQ' _ _ ?_, fun hr H' dd s hdd => hE _ _ _ ?_⟩⟩
  · exact ⟨ExtN.of s, TC.ext s, fun H2 e2 tk T2 => hyes e he H2 v' e2 T2 (hv'.tupk tk hn)⟩
  · exact ⟨LamG.ExtN.new (ExtN.of s) hdd, LamG.Tabs.new (TC.ext s) hdd, dd, .int 0, rfl, rfl, upd_same, hno hr⟩
end
section
variable {X : Cx}
theorem op_mul_str : OpR X (binaryOp .Mult) (fun x y H Q => ∃ (z : Str) (n : Int), x = .str z ∧ y = .int n ∧ MulOk z n ∧ Q (.str (Txt.mul z n)) H) := by
  intro pins s σ H x y v u Q I rx ry h
  obtain ⟨z, n, rfl, rfl, hok, q⟩ := h
  obtain ⟨t, rfl⟩ := rx
  obtain ⟨t', rfl⟩ := ry
  exact SB.mul hok fun t2 k => ⟨.str (Txt.mul z n), H, I.tok _, ⟨t2, rfl⟩, q⟩
end
theorem mulOk_par (z : Str) (hz : z.length = 1) (n : Int) (h0 : 2 ≤ n) (h1 : n ≤ 100) : MulOk z n := by
  have hsl : sizeLine = 16777216 := sizeLine_eq
  refine ⟨?_, fun _ _ => ?_, fun _ _ => ?_⟩
  · rw [Bool.or_eq_false_iff]
    exact ⟨decide_eq_false (by omega), decide_eq_false (by omega)⟩
  · rw [hz]
    have : (1 : Int) ≤ (2 ^ 63 - 1) / n := by
      rw [Int.le_ediv_iff_mul_le (by omega)]
      omega
    omega
  · rw [hz, Nat.one_mul]
    unfold Builtin.Str.tooLong
    exact decide_eq_false (by omega)
/-- '(' * n + 'a' + ')' * n -/
abbrev tDeep (n : Int) : TE := tOp (fun x y H Q => ∃ a b, x = .str a ∧ y = .str b ∧ a.length + b.length ≤ sizeLine ∧ Q (.str (a ++ b)) H) (tOp (fun x y H Q => ∃ a b, x = .str a ∧ y = .str b ∧ a.length + b.length ≤ sizeLine ∧ Q (.str (a ++ b)) H)
  (tOp (fun x y H Q => ∃ (z : Str) (n : Int), x = .str z ∧ y = .int n ∧ MulOk z n ∧ Q (.str (Txt.mul z n)) H) (tC (.str ("(" : Str))) (tC (.int n))) (tC (.str ("a" : Str)))) (tOp (fun x y H Q => ∃ (z : Str) (n : Int), x = .str z ∧ y = .int n ∧ MulOk z n ∧ Q (.str (Txt.mul z n)) H) (tC (.str (")" : Str))) (tC (.int n)))
theorem deep_59 {σ : L2.St} {H : Hp} {Q : VK} (h : Q (.str (zDeep 59)) H) : tDeep 59 σ H Q :=
  ⟨("(" : Str), 59, rfl, rfl, mulOk_par _ rfl _ (by decide) (by decide), _, _, rfl, rfl, by decide +kernel, (")" : Str), 59, rfl, rfl, mulOk_par _ rfl _ (by decide) (by decide), _, _, rfl, rfl, by decide +kernel, h⟩
theorem deep_60 {σ : L2.St} {H : Hp} {Q : VK} (h : Q (.str (zDeep 60)) H) : tDeep 60 σ H Q :=
  ⟨("(" : Str), 60, rfl, rfl, mulOk_par _ rfl _ (by decide) (by decide), _, _, rfl, rfl, by decide +kernel, (")" : Str), 60, rfl, rfl, mulOk_par _ rfl _ (by decide) (by decide), _, _, rfl, rfl, by decide +kernel, h⟩
theorem deep_60c {σ : L2.St} {H : Hp} {R : List V → Hp → Prop} (h : R [.str (zDeep 60)] H) : tCons (tDeep 60) tNil σ H R := deep_60 (Q := fun v H1 => R [v] H1) h
end K88
set_option maxHeartbeats 4000000
/-! The law's body. -/
namespace K88
open PySem PySem.Spec PyProof.Rows L2 LamG NtP LamX
abbrev sLaw : Stmt := top 43
abbrev nLaw : List Str := ["script", "state", "thing", "deepest", "turn", "one", "other", "text", "at", "bent", "told"]
theorem scLaw : FnScope nLaw ["script"] (defScope sLaw) := ⟨rfl, rfl, rfl, by decide +kernel, rfl, by decide +kernel, by decide +kernel⟩
abbrev qL : Str := (envOfC "law" (defScope sLaw) 0 0 .none).qual ++ "<lambda>"
/-- the defs that the law calls, each with its promise -/
structure Fns (P : Program) (w : World) (K : PySem.W.Frag) (mg : Str → Option Value) (base : Heap) (CN : Addr) where
  fT : Addr
  fR : Addr
  fB : Addr
  fN : Addr
  fI : Addr
  fS : Addr
  fL : Addr
  fD : Addr
  fP : Addr
  fPl : Addr
  dT : FuncData
  dR : FuncData
  dB : FuncData
  dN : FuncData
  dI : FuncData
  dS : FuncData
  dL : FuncData
  dD : FuncData
  dP : FuncData
  dPl : FuncData
  FT : FnP K "value_text" sVT fT dT
  FR : FnP K "read_value" sRead fR dR
  FB : FnP K "_law_begun" sBegun fB dB
  FN : FnP K "_law_nested" sNest fN dN
  FI : FnP K "_law_is" sIs fI dI
  FS : FnP K "_law_some_value" sSome fS dS
  FL : FnP K "_law_value_text" sLVT fL dL
  FD : FnP K "_law_draw" sDraw fD dD
  FP : FnP K "_law_pick" sPick fP dP
  FPl : FnP K "_law_plain" sPl fPl dPl
  gT : mg "value_text" = some (.ref fT)
  gR : mg "read_value" = some (.ref fR)
  gB : mg "_law_begun" = some (.ref fB)
  gN : mg "_law_nested" = some (.ref fN)
  gI : mg "_law_is" = some (.ref fI)
  gS : mg "_law_some_value" = some (.ref fS)
  gL : mg "_law_value_text" = some (.ref fL)
  gD : mg "_law_draw" = some (.ref fD)
  gP : mg "_law_pick" = some (.ref fP)
  gPl : mg "_law_plain" = some (.ref fPl)
  GT : FnOk P w K mg base (L2.CX P w) 3 fT dT ["value"] (spVT CN)
  GR : FnOk P w K mg base (L2.CX P w) 4 fR dR ["text"] (spRead CN)
  GB : FnOk P w K mg base CX0 1 fB dB ["script"] (spBegun K)
  GN : FnOk P w K mg base CX0 1 fN dN ["many", "one"] spNest
  GI : FnG P w K mg base CX0 62 fI dI ["found", "due"] spIs
  GS : FnOk P w K mg base CX0 7 fS dS ["state", "deep"] (spSomeP 4)
  GL : ∀ n, FnOk P w K mg base CX0 n fL dL ["value"] (spLVT n)
  GD : FnOk P w K mg base CX0 2 fD dD ["state", "room"] spDraw
  GP : FnOk P w K mg base CX0 3 fP dP ["state", "some"] spPick
  GPl : ∀ n, FnOk P w K mg base CX0 n fPl dPl ["value"] (spPl n)
section
variable {P : Program} {w : World} {K : PySem.W.Frag} {mg : Str → Option Value} {base : Heap} {CN : Addr}
theorem b1 {x : Str} {st : Stmt} {f : Addr} {fd : FuncData} {p : Str} (F : FnP K x st f fd) (h : ∀ (kV doc pm : Value) (an : Option Addr) (cdv ct : Value) (us : List Value), us.length = [p].length → bindArgs (PySem.W.fnOf x x (defArgs st) (defBody st) (defScope st) .none kV doc pm an cdv ct) ⟨us, []⟩ = pure ([p].zip us)) : L2.Binds K fd [p] [] := F.bindsN h
/-- the only argument by its name -/
theorem kb1 {x : Str} {st : Stmt} {f : Addr} {fd : FuncData} {p : Str} (F : FnP K x st f fd) (h : ∀ (kV doc pm : Value) (an : Option Addr) (cdv ct : Value) (u : Value), bindArgs (PySem.W.fnOf x x (defArgs st) (defBody st) (defScope st) .none kV doc pm an cdv ct) ⟨[], [(p, u)]⟩ = pure [(p, u)])
    (h2 : ∀ (kV doc pm : Value) (an : Option Addr) (cdv ct : Value) (u : Value), bindArgs (PySem.W.fnOf x x (defArgs st) (defBody st) (defScope st) .none kV doc pm an cdv ct) ⟨[u], []⟩ = pure [(p, u)]) :
    KBinds K fd [p] [p] (fun us ws => us ++ ws) (fun vs zs => vs ++ zs) := by
  obtain ⟨oc, od, dV, kV, doc, pm, an, cdv, ct, osl, rfl, lk, hcd, hD, hK⟩ := F.ex
  rcases hD with ⟨_, rfl⟩ | ⟨e, _⟩
  · refine ⟨fun s us ws _ hl => ?_, fun r1 r2 => r1.append r2⟩
    match us, ws, hl with
    | [], [u], _ => exact .of_eq (h kV doc pm an cdv ct u)
    | [u], [], _ => exact .of_eq (h2 kV doc pm an cdv ct u)
  · exact absurd rfl e
/-- a text's parts are no longer than the text -/
theorem cut_len (z : Str) (lo hi : Option Int) : (cutS z lo hi).length ≤ z.length := by
  show ((z.cps.toList.drop _).take _).toArray.size ≤ z.cps.size
  rw [List.size_toArray, List.length_take, List.length_drop, Array.length_toList]
  omega
theorem len_app (a b : Str) : (a ++ b).length = a.length + b.length := by
  show (a.cps ++ b.cps).size = _
  rw [Array.size_append]
  rfl
/-- what a turn holds -/
structure LI (T : List (Addr × Str)) (st g c : Addr) (v1 v2 : V) (d1 d2 : PyData) (H : Hp) (t : Int) : Prop where
  T : Tabs T H
  o : StO H st g c t
  h1 : Dt H v1 d1
  h2 : Dt H v2 d2
section
variable {T : List (Addr × Str)} {st g c : Addr} {v1 v2 : V} {d1 d2 : PyData} {H H' : Hp} {t t' : Int}
theorem LI.same (x : LI T st g c v1 v2 d1 d2 H t) (s : Same H H') : LI T st g c v1 v2 d1 d2 H' t := ⟨x.T.ext s, x.o.same s, x.h1.same s, x.h2.same s⟩
theorem LI.new {e : Addr} {u : HO} (x : LI T st g c v1 v2 d1 d2 H t) (he : H e = none) : LI T st g c v1 v2 d1 d2 (upd H e u) t := x.same (Same.new (Same.refl H) he)
theorem LI.fr (x : LI T st g c v1 v2 d1 d2 H t) (n1 : noL d1 = true) (n2 : noL d2 = true) (k : Fr3 st g H H') (o : StO H' st g c t') : LI T st g c v1 v2 d1 d2 H' t' :=
  ⟨LamGTabs x.T x.o k, o, x.h1.tupk (Fr3.tupk k x.o) n1, x.h2.tupk (Fr3.tupk k x.o) n2⟩
where LamGTabs {T : List (Addr × Str)} {H H' : Hp} {s g c : Addr} {n : Int} (t : Tabs T H) (x : StO H s g c n) (k : Fr3 s g H H') : Tabs T H' := Tabs.fr3 t x k
theorem LI.extn (x : LI T st g c v1 v2 d1 d2 H t) (e : ExtN H H') (hT : Tabs T H') : LI T st g c v1 v2 d1 d2 H' t := ⟨hT, x.o.extn e, x.h1.extn e, x.h2.extn e⟩
end
theorem read_mv {d : PyData} (h : mv 3 d) : rdAny (.str (S (vt d))) = some d := by
  show readV (S (vt d)).cps.toList = some d
  rw [list_S]
  exact read_vt (by decide) h
def twB : Nat → Nat
  | 0 => 14
  | n + 1 => 3 * twB n + 20
theorem twL_le {N : Nat} : ∀ ds : List PyData, (∀ e ∈ ds, tw e ≤ N) → twL ds ≤ ds.length * N
  | [], _ => by simp [twL]
  | d :: ds, h => by
    have h1 := twL_le ds fun e he => h e (List.mem_cons_of_mem _ he)
    have h2 := h d (List.mem_cons_self ..)
    simp only [twL, List.length_cons]
    rw [Nat.succ_mul]
    omega
theorem tw_leaf {d : PyData} (h : d ∈ menu) : tw d ≤ 14 := by
  have L := leaf_of h
  have h1 := L.sz
  have h2 := L.nt
  cases d with
  | tuple ds => cases h2
  | _ => simp only [tw]; omega
theorem mv_tw : ∀ (n : Nat) (d : PyData), mv n d → tw d ≤ twB n
  | 0, d, h => tw_leaf h
  | n + 1, d, h => by
    rcases h with h | ⟨ds, rfl, hl, h⟩
    · have := tw_leaf h
      show _ ≤ 3 * twB n + 20
      omega
    · have h1 := twL_le (N := twB n) ds fun e he => mv_tw n e (h e he)
      have h2 : ds.length * twB n ≤ 3 * twB n := Nat.mul_le_mul_right _ hl
      simp only [tw, twB]
      omega
theorem mv_small {d : PyData} (h : mv 3 d) : nodes d ≤ 100000 ∧ short d = true := by
  have h1 := mv_tw 3 d h
  have h2 : twB 3 ≤ 1000 := by decide
  have h3 := nodes_tw d (mv_noL (by decide) h)
  exact ⟨by omega, short_tw d (by omega)⟩
theorem same_text {d e : PyData} (h1 : mv 3 d) (h2 : mv 3 e) : decide (V.str (S (vt d)) = V.str (S (vt e))) = PyData.eqv d e := by
  by_cases h : d = e
  · subst h
    rw [decide_eq_true rfl, SeqAt.eqv_refl d (lay_ok d 59 (mv_ok 3 d h1 59 (by decide)))]
  · have n1 : decide (V.str (S (vt d)) = V.str (S (vt e))) = false := decide_eq_false fun z => by
      injection z with z
      exact h (vt_inj (n := 3) (by decide) h1 h2 (S_inj z))
    have n2 : PyData.eqv d e = false := by
      cases q : PyData.eqv d e with
      | false => rfl
      | true => exact absurd (eqv_ok d e 59 (mv_ok 3 d h1 59 (by decide)) (mv_ok 3 e h2 59 (by decide)) q) h
    rw [n1, n2]
theorem dec_bl' {a b : Bool} (h : a = b) : (!decide (V.bl a = V.bl b)) = false := by
  rw [h, decide_eq_true rfl]
  rfl
/-- the law, called where no repr is under way; cL, PL: its code object and the table of its lambdas -/
theorem run_law {gW gC cW Pw CE CU CM cL PL fLw : Addr} (G : Fns P w K mg base CN) (WX : WT K mg base gW gC cW Pw CN CE CU CM) (B : Blt mg) (TB : TabB base mg cL PL) (hPP : PL ≠ Pw)
    {dV kV doc pm ct oc : Value} {an od : Option Addr} {osl : Array (Option Value)} (lk : K.lookup fLw = some ⟨oc, od, .func (PySem.W.fnOf "law" "law" (defArgs sLaw) (defBody sLaw) (defScope sLaw) dV kV doc pm an (.ref cL) ct), osl⟩) (hcd : PySem.W.codeIn K (.ref cL) "law" = true)
    {A : Around} {outer : List Env} {s : Shared} {H : Hp} {args : Args} {a : Addr} {ns : List Int} (hr : Room 64 A) (hgd : A.guards = some []) (e0 : Env0 P w K mg base A outer s H) (hb : BindsTo s (PySem.W.fnOf "law" "law" (defArgs sLaw) (defBody sLaw) (defScope sLaw) dV kV doc pm an (.ref cL) ct) args [("script", .ref a)])
    (hT : Tabs [(PL, qL), (Pw, qW)] H) (hS : SqL K H a (ns.map V.int)) (hns : ns.length ≤ 1000) :
    codeAny (model P w) A (.call (.ref fLw) args) (CR C8.CX0 outer P w H s (fun v _ => v = .bl true) C8.E0) s := by
  refine run_ofS (N := nLaw) (ps := ["script"]) (us := [.ref a]) (vs := [.ref a]) lk hcd scLaw hr e0 hb (.cons rfl .nil) rfl fun hr' => ?_
  have nd := scLaw.nd
  have hg' : (A.deeper (envOfC "law" (defScope sLaw) s.heap.objs.size fLw (.ref cL))).guards = some [] := hgd
  have hmL : (PL, qL) ∈ ([(PL, qL), (Pw, qW)] : List (Addr × Str)) := List.mem_cons_self ..
  have hmW : (Pw, qW) ∈ ([(PL, qL), (Pw, qW)] : List (Addr × Str)) := List.mem_cons_of_mem _ (List.mem_singleton.mpr rfl)
  have huL : ∀ p ∈ ([(PL, qL), (Pw, qW)] : List (Addr × Str)), p.1 = PL → p.2 = qL := fun p hp e => by
    rcases List.mem_cons.mp hp with rfl | hp
    · rfl
    · rw [List.mem_singleton.mp hp] at e
      exact absurd e.symm hPP
  have huW : ∀ p ∈ ([(PL, qL), (Pw, qW)] : List (Addr × Str)), p.1 = Pw → p.2 = qW := fun p hp e => by
    rcases List.mem_cons.mp hp with rfl | hp
    · exact absurd e hPP
    · rw [List.mem_singleton.mp hp]
  have bT : L2.Binds K G.dT ["value"] [] := G.FT.bindsN fun _ _ _ _ _ _ us hl => match us, hl with | [_], _ => rfl
  have bR : L2.Binds K G.dR ["text"] [] := G.FR.bindsN fun _ _ _ _ _ _ us hl => match us, hl with | [_], _ => rfl
  have bB : L2.Binds K G.dB ["script"] [] := G.FB.bindsN fun _ _ _ _ _ _ us hl => match us, hl with | [_], _ => rfl
  have bN : L2.Binds K G.dN ["many", "one"] [] := G.FN.bindsN fun _ _ _ _ _ _ us hl => match us, hl with | [_, _], _ => rfl
  have bI : L2.Binds K G.dI ["found", "due"] [] := G.FI.bindsN fun _ _ _ _ _ _ us hl => match us, hl with | [_, _], _ => rfl
  have bS : L2.Binds K G.dS ["state", "deep"] [] := G.FS.bindsN fun _ _ _ _ _ _ us hl => match us, hl with | [_, _], _ => rfl
  have bL : L2.Binds K G.dL ["value"] [] := G.FL.bindsN fun _ _ _ _ _ _ us hl => match us, hl with | [_], _ => rfl
  have bD : L2.Binds K G.dD ["state", "room"] [] := G.FD.bindsN fun _ _ _ _ _ _ us hl => match us, hl with | [_, _], _ => rfl
  have bP : L2.Binds K G.dP ["state", "some"] [] := G.FP.bindsN fun _ _ _ _ _ _ us hl => match us, hl with | [_, _], _ => rfl
  have bPl : L2.Binds K G.dPl ["value"] [] := G.FPl.bindsN fun _ _ _ _ _ _ us hl => match us, hl with | [_], _ => rfl
  have kT := kb1 G.FT (fun _ _ _ _ _ _ _ => rfl) (fun _ _ _ _ _ _ _ => rfl)
  have kR := kb1 G.FR (fun _ _ _ _ _ _ _ => rfl) (fun _ _ _ _ _ _ _ => rfl)
  have nox : ∀ {X : Cx}, Passes (L2.CX P w) X (fun _ _ _ => False) := fun {X} _ _ _ _ _ _ _ h => by
    obtain ⟨_, _, _, _, _, _, _, _, _, _, _, _, hE⟩ := h
    exact hE.elim
  refine ⟨_, PSs.nox <|
    pss_cons (ps_set (i := 1) nd rfl (.inl rfl) (pe_call G.GB (hr'.mono (by decide)) (by rfl) G.gB G.FB.kp bB .nil pass0 (pa_cons (pv 0) pa_nil))) <|
    pss_cons (ps_for PassesOwn.never rfl (pi_list (pe_lst (pa_cons pe_str (pa_cons pe_str (pa_cons pe_str (pa_cons pe_str (pa_cons pe_str (pa_cons (pe_op op_pow pe_int pe_int) (pa_cons (pe_op op_sub pe_int (pe_op op_pow pe_int pe_int)) (pa_cons pe_bl (pa_cons (pe_lst (pa_cons pe_str pa_nil)) (pa_cons (pe_tup (pa_cons pe_str (pa_cons (pe_lst (pa_cons pe_str pa_nil)) pa_nil))) (pa_cons (pe_tup (pa_cons pe_str (pa_cons pe_str pa_nil))) (pa_cons (pe_call G.GN (hr'.mono (by decide)) (by rfl) G.gN G.FN.kp bN .nil pass0 (pa_cons pe_int (pa_cons pe_str pa_nil))) (pa_cons (pe_tup (pa_cons pe_str (pa_cons pe_bl pa_nil))) pa_nil))))))))))))))) (pg_name (i := 2) nd rfl (.inr rfl)) <|
      pss_one (ps_if (pt_cmpR (op_neD (room_64 hr')) (pe_word (T := [(PL, qL), (Pw, qW)]) (k := 4) (t := fun E => tCall (spVT CN) [] E (tCons (tVar 2) tNil)) WX (by rfl) TB rfl hmL huL hmW huW (hr'.mono (by decide)) ?lam1 ?dfl1 ?bnd1 (fun A outer s H E f c' hr2 => pe_call G.GT (hr2.mono (by decide)) (by rfl) G.gT G.FT.kp bT .nil (passes_call (E := E) (takes_of (E := E) rfl rfl rfl rfl) (fun _ _ _ _ h => h)) (pa_cons (pv 2) pa_nil))) (pe_tup (pa_cons pe_str (pa_cons pe_int pa_nil))) (nomark _)) (pss_one (ps_ret pe_bl)) pss_nil)) <|
    pss_cons (ps_set (i := 3) nd rfl (.inl rfl) (pe_call G.GN (hr'.mono (by decide)) (by rfl) G.gN G.FN.kp bN .nil pass0 (pa_cons pe_int (pa_cons pe_str pa_nil)))) <|
    pss_cons (ps_if (PW.pt (pw_or (pt_not (pt_val (pe_callG G.GI hg' (hr'.mono (by decide)) (by rfl) G.gI G.FI.kp bI .nil pass0 (pa_cons (pe_call G.GT (hr'.mono (by decide)) (by rfl) G.gT G.FT.kp bT .nil nox (pa_cons (pv 3) pa_nil)) (pa_cons (pe_op op_add_str (pe_op op_add_str (pe_op op_mul_str pe_str pe_int) pe_str) (pe_op op_mul_str pe_str pe_int)) pa_nil))))) (pw_or (pt_cmpR (op_neD (room_64 hr')) (pe_call G.GR (hr'.mono (by decide)) (by rfl) G.gR G.FR.kp bR .nil nox (pa_cons (pe_op op_add_str (pe_op op_add_str (pe_op op_mul_str pe_str pe_int) pe_str) (pe_op op_mul_str pe_str pe_int)) pa_nil)) (pv 3) (nomark _)) (pw_or1 (pt_cmpR (op_neD (room_64 hr')) (pe_word (T := [(PL, qL), (Pw, qW)]) (k := 4) (t := fun E => tCall (spRead CN) [] E (tCons (tDeep 60) tNil)) WX (by rfl) TB rfl hmL huL hmW huW (hr'.mono (by decide)) ?lam3 ?dfl3 ?bnd3 (fun A outer s H E f c' hr2 => pe_call G.GR hr2 (by rfl) G.gR G.FR.kp bR .nil (passes_call (E := E) (takes_of (E := E) rfl rfl rfl rfl) (fun _ _ _ _ h => h)) (pa_cons (pe_op op_add_str (pe_op op_add_str (pe_op op_mul_str pe_str pe_int) pe_str) (pe_op op_mul_str pe_str pe_int)) pa_nil))) (pe_tup (pa_cons pe_str (pa_cons pe_int pa_nil))) (nomark _)))))) (pss_one (ps_ret pe_bl)) pss_nil) <|
    pss_cons (ps_for PassesOwn.never rfl (pi_list (pe_lst (pa_cons pe_non (pa_cons pe_int (pa_cons pe_str (pa_cons pe_str (pa_cons pe_str (pa_cons pe_str (pa_cons pe_str (pa_cons pe_str (pa_cons pe_str (pa_cons pe_str (pa_cons pe_str (pa_cons pe_str (pa_cons pe_str (pa_cons pe_str (pa_cons pe_str (pa_cons pe_str (pa_cons pe_str (pa_cons pe_str (pa_cons pe_str (pa_cons pe_str (pa_cons pe_str (pa_cons pe_str (pa_cons pe_str (pa_cons pe_str (pa_cons pe_str (pa_cons pe_str (pa_cons pe_str (pa_cons pe_str pa_nil)))))))))))))))))))))))))))))) (pg_name (i := 2) nd rfl (.inr rfl)) <|
      pss_one (ps_if (pt_cmpR (op_neD (room_64 hr')) (pe_word (T := [(PL, qL), (Pw, qW)]) (k := 4) (t := fun E => tCall (spRead CN) [] E (tCons (tVar 2) tNil)) WX (by rfl) TB rfl hmL huL hmW huW (hr'.mono (by decide)) ?lam2 ?dfl2 ?bnd2 (fun A outer s H E f c' hr2 => pe_call G.GR hr2 (by rfl) G.gR G.FR.kp bR .nil (passes_call (E := E) (takes_of (E := E) rfl rfl rfl rfl) (fun _ _ _ _ h => h)) (pa_cons (pv 2) pa_nil))) (pe_tup (pa_cons pe_str (pa_cons pe_int pa_nil))) (nomark _)) (pss_one (ps_ret pe_bl)) pss_nil)) <|
    pss_cons (ps_for PassesOwn.never rfl (pi_range1 (by rfl) B.range (pa_cons (pe_op op_add pe_int (pe_callB (call_min2 rfl) (by rfl) B.min (by decide +kernel) (pa_cons (pe_callB call_len_seq (by rfl) B.len PySem.boot_len (pa_cons (pv 0) pa_nil)) (pa_cons pe_int pa_nil)))) pa_nil)) (pg_name (i := 4) nd rfl (.inl rfl)) <|
      pss_cons (ps_par (i := 5) (j := 6) rfl nd rfl rfl (by decide) rfl rfl (pa_cons (pe_call G.GS (hr'.mono (by decide)) (by rfl) G.gS G.FS.kp bS .nil pass0 (pa_cons (pv 1) (pa_cons pe_int pa_nil))) (pa_cons (pe_call G.GS (hr'.mono (by decide)) (by rfl) G.gS G.FS.kp bS .nil pass0 (pa_cons (pv 1) (pa_cons pe_int pa_nil))) pa_nil)) (by rfl)) <|
      pss_cons (ps_set (i := 7) nd rfl (.inl rfl) (pe_call (G.GL 4) (hr'.mono (by decide)) (by rfl) G.gL G.FL.kp bL .nil pass0 (pa_cons (pv 5) pa_nil))) <|
      pss_cons (ps_if (PW.pt (pw_or (pt_not (pt_val (pe_callG G.GI hg' (hr'.mono (by decide)) (by rfl) G.gI G.FI.kp bI .nil pass0 (pa_cons (pe_call G.GT (hr'.mono (by decide)) (by rfl) G.gT G.FT.kp bT .nil nox (pa_cons (pv 5) pa_nil)) (pa_cons (pv 7) pa_nil))))) (pw_or (pt_not (pt_val (pe_callG G.GI hg' (hr'.mono (by decide)) (by rfl) G.gI G.FI.kp bI .nil pass0 (pa_cons (pe_call G.GR (hr'.mono (by decide)) (by rfl) G.gR G.FR.kp bR .nil nox (pa_cons (pv 7) pa_nil)) (pa_cons (pv 5) pa_nil))))) (pw_or (pt_not (pt_val (pe_callG G.GI hg' (hr'.mono (by decide)) (by rfl) G.gI G.FI.kp bI .nil pass0 (pa_cons (pe_callK0 G.GR (hr'.mono (by decide)) (by rfl) G.gR G.FR.kp kR nox (pk_cons (pv 7) pk_nil)) (pa_cons (pv 5) pa_nil))))) (pw_or1 (pt_not (pt_val (pe_callG G.GI hg' (hr'.mono (by decide)) (by rfl) G.gI G.FI.kp bI .nil pass0 (pa_cons (pe_callK0 G.GT (hr'.mono (by decide)) (by rfl) G.gT G.FT.kp kT nox (pk_cons (pv 5) pk_nil)) (pa_cons (pv 7) pa_nil)))))))))) (pss_one (ps_ret pe_bl)) pss_nil) <|
      pss_cons (ps_if (pt_cmpR op_ne (pe_cmpR op_eq (pe_call G.GT (hr'.mono (by decide)) (by rfl) G.gT G.FT.kp bT .nil nox (pa_cons (pv 5) pa_nil)) (pe_call G.GT (hr'.mono (by decide)) (by rfl) G.gT G.FT.kp bT .nil nox (pa_cons (pv 6) pa_nil)) (nomark _)) (pe_cmpR (op_eqD (room_64 hr')) (pv 5) (pv 6) (nomark _)) (nomark _)) (pss_one (ps_ret pe_bl)) pss_nil) <|
      pss_cons (ps_set (i := 8) nd rfl (.inl rfl) (pe_call G.GD (hr'.mono (by decide)) (by rfl) G.gD G.FD.kp bD .nil pass0 (pa_cons (pv 1) (pa_cons (pe_op op_add (pe_callB call_len_str (by rfl) B.len PySem.boot_len (pa_cons (pv 7) pa_nil)) pe_int) pa_nil)))) <|
      pss_cons (ps_set (i := 9) nd rfl (.inr rfl) (pe_call G.GP (hr'.mono (by decide)) (by rfl) G.gP G.FP.kp bP .nil pass0 (pa_cons (pv 1) (pa_cons (pe_lst (pa_cons (pe_op op_add_str (pe_op op_add_str (pe_slice sl_str (pv 7) po_none (po_some (pv 8))) (pe_call G.GP (hr'.mono (by decide)) (by rfl) G.gP G.FP.kp bP .nil pass0 (pa_cons (pv 1) (pa_cons (pe_lst (pa_cons pe_str (pa_cons pe_str (pa_cons pe_str (pa_cons pe_str pa_nil))))) pa_nil)))) (pe_slice sl_str (pv 7) (po_some (pv 8)) po_none)) (pa_cons (pe_op op_add_str (pe_slice sl_str (pv 7) po_none (po_some (pv 8))) (pe_slice sl_str (pv 7) (po_some (pe_op op_add (pv 8) pe_int)) po_none)) pa_nil))) pa_nil)))) <|
      pss_cons (ps_set (i := 10) nd rfl (.inl rfl) (pe_word (T := [(PL, qL), (Pw, qW)]) (k := 4) (t := fun E => tCall (spRead CN) [] E (tCons (tVar 9) tNil)) WX (by rfl) TB rfl hmL huL hmW huW (hr'.mono (by decide)) ?lam4 ?dfl4 ?bnd4 (fun A outer s H E f c' hr2 => pe_call G.GR hr2 (by rfl) G.gR G.FR.kp bR .nil (passes_call (E := E) (takes_of (E := E) rfl rfl rfl rfl) (fun _ _ _ _ h => h)) (pa_cons (pv 9) pa_nil)))) <|
      pss_one (ps_if (PW.pt (pw_and (pt_cmpR (op_neD (room_64 hr')) (pv 10) (pe_tup (pa_cons pe_str (pa_cons pe_int pa_nil))) (nomark _)) (pw_and1 (PW.pt (pw_or (pt_not (pt_val (pe_call (G.GPl 60) (hr'.mono (by decide)) (by rfl) G.gPl G.FPl.kp bPl .nil pass0 (pa_cons (pv 10) pa_nil)))) (pw_or1 (pt_cmpR op_ne (pe_call (G.GL 60) (hr'.mono (by decide)) (by rfl) G.gL G.FL.kp bL .nil pass0 (pa_cons (pv 10) pa_nil)) (pv 9) (nomark _)))))))) (pss_one (ps_ret pe_bl)) pss_nil)) <|
    pss_one (ps_ret pe_bl), ?_⟩
  case lam1 => exact lamS_by (show lamSB (defScope sLaw) _ = true by decide +kernel)
  case dfl1 => rfl
  case bnd1 => intro _ _ _ _ _; first | rfl | with_unfolding_all rfl
  case lam2 => exact lamS_by (show lamSB (defScope sLaw) _ = true by decide +kernel)
  case dfl2 => rfl
  case bnd2 => intro _ _ _ _ _; first | rfl | with_unfolding_all rfl
  case lam3 => exact lamS_by (show lamSB (defScope sLaw) _ = true by decide +kernel)
  case dfl3 => rfl
  case bnd3 => intro _ _ _ _ _; first | rfl | with_unfolding_all rfl
  case lam4 => exact lamS_by (show lamSB (defScope sLaw) _ = true by decide +kernel)
  case dfl4 => rfl
  case bnd4 => intro _ _ _ _ _; first | rfl | with_unfolding_all rfl
  · have hsl : sizeLine = 16777216 := sizeLine_eq
    have hHT : ∀ {H0 H9 : Hp}, Same H0 H9 → Tabs [(PL, qL), (Pw, qW)] H0 → Tabs [(PL, qL), (Pw, qW)] H9 := fun s t => t.ext s
    refine ⟨.ref a, rfl, a, ns, rfl, hS, hns, fun H1 st g c s1 hSt => ?_⟩
    have T1 := hHT s1 hT
    refine ⟨10, 12, rfl, rfl, ⟨by decide, by decide, by decide⟩, 10, 12, rfl, rfl, ⟨by decide, by decide, by decide⟩, _, _, rfl, rfl, (by show 1 ≤ sizeLine; decide), fun l1 hl1 => ⟨(by show 1 ≤ sizeLine; decide), fun l2 hl2 => ⟨(by show 2 ≤ sizeLine; decide), fun p1 hp1 => ⟨(by show 2 ≤ sizeLine; decide), fun p2 hp2 => ⟨60, .str ("a" : Str), .str ("a" : Str), rfl, by decide, .str _, fun He v60 se hv60 => ⟨(by show 2 ≤ sizeLine; decide), fun p3 hp3 => ⟨(by show 13 ≤ sizeLine; decide), fun L hL => ?_⟩⟩⟩⟩⟩⟩⟩
    -- the refused things as they stand
    have sb := Same.new (o := .lst [.str ("b" : Str)]) (Same.refl _) hl2
    have sc := Same.new (o := .tup [.str ("a" : Str), .ref l2]) (Same.refl _) hp1
    have sd := Same.new (o := .tup [.str ("a" : Str), .str ("B" : Str)]) (Same.refl _) hp2
    have sf := Same.new (o := .tup [.str ("a" : Str), .bl true]) (Same.refl _) hp3
    have t4 := Same.trans se sf
    have t3 := Same.trans sd t4
    have t2 := Same.trans sc t3
    have t1 := Same.trans sb t2
    have t0 := Same.trans (Same.new (o := .lst [.str ("a" : Str)]) (Same.refl _) hl1) t1
    have tg := Same.new (o := .lst [.str ("A" : Str), .str ("" : Str), .str ("a b" : Str), .str ("a1" : Str), .str ("-" : Str), .int (10 ^ 12), .int (0 - 10 ^ 12), .bl true, .ref l1, .ref p1, .ref p2, v60, .ref p3]) (Same.refl _) hL
    have hall := DtAll.same tg (show DtAll _ [.str ("A" : Str), .str ("" : Str), .str ("a b" : Str), .str ("a1" : Str), .str ("-" : Str), .int (10 ^ 12), .int (0 - 10 ^ 12), .bl true, .ref l1, .ref p1, .ref p2, v60, .ref p3] bad1 from
      .cons (.str _) (.cons (.str _) (.cons (.str _) (.cons (.str _) (.cons (.str _) (.cons (.int _) (.cons (.int _) (.cons (.bl _) (.cons (.lst (t1 _ _ upd_same) (.cons (.str _) .nil)) (.cons (.tup (t3 _ _ upd_same) (.cons (.str _) (.cons (.lst (t2 _ _ upd_same) (.cons (.str _) .nil)) .nil))) (.cons (.tup (t4 _ _ upd_same) (.cons (.str _) (.cons (.str _) .nil))) (.cons (hv60.same sf) (.cons (.tup upd_same (.cons (.str _) (.cons (.bl _) .nil))) .nil)))))))))))))
    have tt := Same.trans t0 tg
    have Tg := hHT tt T1
    have hStg := hSt.same tt
    have hSg := Same.seq tt (Same.seq s1 hS)
    refine ⟨L, rfl, ⟨_, .inl (.inl upd_same)⟩, for_list (K := K) (a := L) (xs := [.str ("A" : Str), .str ("" : Str), .str ("a b" : Str), .str ("a1" : Str), .str ("-" : Str), .int (10 ^ 12), .int (0 - 10 ^ 12), .bl true, .ref l1, .ref p1, .ref p2, v60, .ref p3])
      (fun i σ H' => ∃ x2, σ = [some (.ref a), some (.ref st), x2, none, none, none, none, none, none, none, none] ∧ ExtN (upd (upd He p3 (.tup [.str ("a" : Str), .bl true])) L (.lst [.str ("A" : Str), .str ("" : Str), .str ("a b" : Str), .str ("a1" : Str), .str ("-" : Str), .int (10 ^ 12), .int (0 - 10 ^ 12), .bl true, .ref l1, .ref p1, .ref p2, v60, .ref p3])) H' ∧ Tabs [(PL, qL), (Pw, qW)] H')
      ⟨none, rfl, ExtN.refl _, Tg⟩ (fun i σ H' _ h => by obtain ⟨x2, _, e2, _⟩ := h; exact .inl (.inl (e2 _ _ upd_same fun _ z => nomatch z))) (fun i x σ H' hx hP => ?_) (fun σ H5 hP => ?_)⟩
    · obtain ⟨x2, rfl, e2, T2⟩ := hP
      obtain ⟨d, hd, hxd⟩ := hall.get hx
      refine word_VT T2 rfl (hxd.extn e2) (bad1_ok d (List.mem_of_getElem? hd)) (fun H3 p e3 T3 hp => ?_)
      refine ⟨(by show 2 ≤ sizeLine; decide), fun q hq => ⟨txt0, txt0, (dt_txt0 ((upd_ne (ne_of_none hp hq)).trans hp)).dp, (dt_txt0 upd_same).dp, sh_txt0, sh_txt0, _, rfl, ifF (by rw [eq_txt0]; rfl) ?_⟩⟩
      exact ⟨_, rfl, LamG.ExtN.new (e2.trans e3) hq, LamG.Tabs.new T3 hq⟩
    · obtain ⟨x2, rfl, e5, T5⟩ := hP
      have hS5 := seq_extn e5 hSg
      have hSt5 := hStg.extn e5
      refine ⟨59, .str ("a" : Str), .str ("a" : Str), rfl, by decide, .str _, fun H6 vD s6 hvD => ?_⟩
      -- the deepest
      refine ⟨vD, rfl, vD, deep59, rfl, hvD, deep_ok.2.1, deep_ok.2.2.1, fun _ => ⟨deep_ok.2.2.2, fun H7 s7 => deep_59 ?_⟩, fun h => ?_⟩
      · refine ⟨.str (S (vt deep59)), .str (zDeep 59), .str (zDeep 59), rfl, by rw [deep_text]; exact .str _, .str _, isOk_deep, fun H8 s8 => ⟨_, rfl, ifF rfl ?_⟩⟩
        have hvD8 := (hvD.same s7).same s8
        refine ⟨("(" : Str), 59, rfl, rfl, mulOk_par _ rfl _ (by decide) (by decide), _, _, rfl, rfl, by decide +kernel, (")" : Str), 59, rfl, rfl, mulOk_par _ rfl _ (by decide) (by decide), _, _, rfl, rfl, by decide +kernel, .str (zDeep 59), .str (zDeep 59), rfl, .str _, fun z hz => ?_, fun e he H9 v' s9 hv' hn => ?_, fun hno => ?_⟩
        · injection hz with hz
          rw [← hz]
          decide +kernel
        · have he2 : readV (zDeep 59).cps.toList = some e := he
          rw [deep_read] at he2
          obtain rfl := Option.some.inj he2
          have hshp := shaped_ok (n := 59) (by decide) deep_ok.1
          refine ⟨vD, rfl, deep59, deep59, hv'.dp, (hvD8.same s9).dp, hshp, hshp, _, rfl, ifF (by rw [SeqAt.eqv_refl _ (lay_ok _ 59 deep_ok.1)]; rfl) ?_⟩
          have s69 := Same.trans s6 (Same.trans s7 (Same.trans s8 s9))
          have T9 := hHT s69 T5
          refine word_RD (v := .str (zDeep 60)) (d := .str (zDeep 60)) T9 (fun Hc R hR => deep_60c hR) (.str _) (fun z hz => ?_) (fun _ H10 p e10 T10 hp => ?_) (fun e he => ?_)
          · injection hz with hz
            rw [← hz]
            decide +kernel
          · refine ⟨(by show 2 ≤ sizeLine; decide), fun q hq => ⟨txt0, txt0, (dt_txt0 ((upd_ne (ne_of_none hp hq)).trans hp)).dp, (dt_txt0 upd_same).dp, sh_txt0, sh_txt0, _, rfl, ifF (by rw [eq_txt0]; rfl) ?_⟩⟩
            have T11 := LamG.Tabs.new (o := .tup [.str ("text" : Str), .int 0]) T10 hq
            have e11 : ExtN H5 (upd H10 q (.tup [.str ("text" : Str), .int 0])) := LamG.ExtN.new ((ExtN.of s69).trans e10) hq
            have hS11 := seq_extn e11 hS5
            have hSt11 := hSt5.extn e11
            generalize upd H10 q (.tup [.str ("text" : Str), .int 0]) = H11 at T11 e11 hS11 hSt11 ⊢
            refine ⟨(by show 28 ≤ sizeLine; decide), fun L2 hL2 => ?_⟩
            have hall2 : DtAll H11 [.non, .int 5, .str ("" : Str), .str (" " : Str), .str ("A" : Str), .str ("a b" : Str), .str ("01" : Str), .str ("-0" : Str), .str ("--1" : Str), .str ("+1" : Str), .str ("1000000000000" : Str), .str ("(" : Str), .str (")" : Str), .str ("(a" : Str), .str ("a)" : Str), .str ("(a))" : Str), .str ("( a)" : Str), .str ("(a )" : Str), .str ("(a  b)" : Str), .str ("()()" : Str), .str ("(a)(b)" : Str), .str ("a()" : Str), .str ("1a" : Str), .str ("a1" : Str), .str ("- 1" : Str), .str ("(-)-" : Str), .str ("(a\nb)" : Str), .str ("1/2" : Str)] bad2 := .cons .non (.cons (.int _) (.cons (.str _) (.cons (.str _) (.cons (.str _) (.cons (.str _) (.cons (.str _) (.cons (.str _) (.cons (.str _) (.cons (.str _) (.cons (.str _) (.cons (.str _) (.cons (.str _) (.cons (.str _) (.cons (.str _) (.cons (.str _) (.cons (.str _) (.cons (.str _) (.cons (.str _) (.cons (.str _) (.cons (.str _) (.cons (.str _) (.cons (.str _) (.cons (.str _) (.cons (.str _) (.cons (.str _) (.cons (.str _) (.cons (.str _) (.nil))))))))))))))))))))))))))))
            have n12 := ExtN.of (Same.new (o := .lst [.non, .int 5, .str ("" : Str), .str (" " : Str), .str ("A" : Str), .str ("a b" : Str), .str ("01" : Str), .str ("-0" : Str), .str ("--1" : Str), .str ("+1" : Str), .str ("1000000000000" : Str), .str ("(" : Str), .str (")" : Str), .str ("(a" : Str), .str ("a)" : Str), .str ("(a))" : Str), .str ("( a)" : Str), .str ("(a )" : Str), .str ("(a  b)" : Str), .str ("()()" : Str), .str ("(a)(b)" : Str), .str ("a()" : Str), .str ("1a" : Str), .str ("a1" : Str), .str ("- 1" : Str), .str ("(-)-" : Str), .str ("(a\nb)" : Str), .str ("1/2" : Str)]) (Same.refl H11) hL2)
            refine ⟨L2, rfl, ⟨_, .inl (.inl upd_same)⟩, for_list (K := K) (a := L2) (xs := [.non, .int 5, .str ("" : Str), .str (" " : Str), .str ("A" : Str), .str ("a b" : Str), .str ("01" : Str), .str ("-0" : Str), .str ("--1" : Str), .str ("+1" : Str), .str ("1000000000000" : Str), .str ("(" : Str), .str (")" : Str), .str ("(a" : Str), .str ("a)" : Str), .str ("(a))" : Str), .str ("( a)" : Str), .str ("(a )" : Str), .str ("(a  b)" : Str), .str ("()()" : Str), .str ("(a)(b)" : Str), .str ("a()" : Str), .str ("1a" : Str), .str ("a1" : Str), .str ("- 1" : Str), .str ("(-)-" : Str), .str ("(a\nb)" : Str), .str ("1/2" : Str)])
              (fun i σ H' => ∃ x2, σ = [some (.ref a), some (.ref st), x2, some vD, none, none, none, none, none, none, none] ∧ ExtN (upd H11 L2 (.lst [.non, .int 5, .str ("" : Str), .str (" " : Str), .str ("A" : Str), .str ("a b" : Str), .str ("01" : Str), .str ("-0" : Str), .str ("--1" : Str), .str ("+1" : Str), .str ("1000000000000" : Str), .str ("(" : Str), .str (")" : Str), .str ("(a" : Str), .str ("a)" : Str), .str ("(a))" : Str), .str ("( a)" : Str), .str ("(a )" : Str), .str ("(a  b)" : Str), .str ("()()" : Str), .str ("(a)(b)" : Str), .str ("a()" : Str), .str ("1a" : Str), .str ("a1" : Str), .str ("- 1" : Str), .str ("(-)-" : Str), .str ("(a\nb)" : Str), .str ("1/2" : Str)])) H' ∧ Tabs [(PL, qL), (Pw, qW)] H')
              ⟨_, rfl, ExtN.refl _, LamG.Tabs.new T11 hL2⟩ (fun i σ H' _ h => by obtain ⟨x2, _, e2, _⟩ := h; exact .inl (.inl (e2 _ _ upd_same fun _ z => nomatch z))) (fun i x σ H' hx hP => ?_) (fun σ H12 hP => ?_)⟩
            · obtain ⟨x2, rfl, e2, T2⟩ := hP
              obtain ⟨d, hd, hxd⟩ := hall2.get hx
              have hdm := List.mem_of_getElem? hd
              refine word_RD T2 (fun Hc R hR => ⟨_, rfl, hR⟩) ((hxd.extn n12).extn e2) (fun z hz => ?_) (fun _ H3 p e3 T3 hp => ?_) (fun e he => ?_)
              · rw [hz] at hdm
                have := List.all_eq_true.mp (show bad2.all (fun d => short d && (match d with | .str z => decide (z.length ≤ 20000) | _ => true)) = true by decide +kernel) _ hdm
                rw [Bool.and_eq_true] at this
                exact of_decide_eq_true this.2
              · refine ⟨(by show 2 ≤ sizeLine; decide), fun q hq => ⟨txt0, txt0, (dt_txt0 ((upd_ne (ne_of_none hp hq)).trans hp)).dp, (dt_txt0 upd_same).dp, sh_txt0, sh_txt0, _, rfl, ifF (by rw [eq_txt0]; rfl) ?_⟩⟩
                exact ⟨_, rfl, LamG.ExtN.new (e2.trans e3) hq, LamG.Tabs.new T3 hq⟩
              · rw [bad2_ok d hdm] at he
                cases he
            · obtain ⟨x2, rfl, e12, T12⟩ := hP
              have hS12 := seq_extn (n12.trans e12) hS11
              have hSt12 := hSt11.extn (n12.trans e12)
              have hmin : ∀ (m : Int), m = (if (10 : Int) < ((ns.map V.int).length : Int) then 10 else ((ns.map V.int).length : Int)) → 0 ≤ m ∧ m ≤ 10 := fun m hm => by
                split at hm <;> omega
              have hm := hmin _ rfl
              refine ⟨.ref a, rfl, a, _, rfl, .inl hS12, _, _, rfl, _, _, rfl, rfl, _, rfl, by omega, by omega, for_range (lo := 0) (n := _)
                (fun i σ H' => ∃ x2 x4 x5 x6 x7 x8 x9 x10, σ = [some (.ref a), some (.ref st), x2, some vD, x4, x5, x6, x7, x8, x9, x10] ∧ Tabs [(PL, qL), (Pw, qW)] H' ∧ StO H' st g c ((i : Nat) * 164))
                ⟨_, _, _, _, _, _, _, _, rfl, T12, by simpa using hSt12⟩ (fun i σ H1 hi hP => ?_) (fun σ H' hP => ?_)⟩
              · obtain ⟨x2, x4, x5, x6, x7, x8, x9, x10, rfl, T, hO⟩ := hP
                have hi17 : i ≤ 17 := by omega
                -- one, other
                refine ⟨.ref st, rfl, st, g, c, (i : Nat) * 164, rfl, hO, by omega, by show _ + 80 ≤ _; omega, fun H2 v1 d1 k1 hO2 hm1 hd1 => ?_⟩
                have hO2' : StO H2 st g c ((i : Nat) * 164 + 80) := hO2
                refine ⟨.ref st, rfl, st, g, c, (i : Nat) * 164 + 80, rfl, hO2', by omega, by show _ + 80 ≤ _; omega, fun H3 v2 d2 k2 hO3 hm2 hd2 => ⟨_, _, rfl, ?_⟩⟩
                have hO3' : StO H3 st g c ((i : Nat) * 164 + 160) := by
                  have e : (i : Int) * 164 + 80 + dr 3 = (i : Nat) * 164 + 160 := by show _ + 80 + 80 = _; omega
                  rw [e] at hO3
                  exact hO3
                have nl1 := mv_noL (by decide) hm1
                have nl2 := mv_noL (by decide) hm2
                have I3 : LI [(PL, qL), (Pw, qW)] st g c v1 v2 d1 d2 H3 ((i : Nat) * 164 + 160) := ⟨Tabs.fr3 (Tabs.fr3 T hO k1) hO2' k2, hO3', hd1.tupk (Fr3.tupk k2 hO2') nl1, hd2⟩
                clear hO3 hO3' hd1 hd2 k1 k2 T hO hO2 hO2'
                have ok1 := mv_ok 3 d1 hm1 59 (by decide)
                have ok2 := mv_ok 3 d2 hm2 59 (by decide)
                have tl3 : tlen 3 ≤ 1000 := by decide
                have len1 := Nat.le_trans (mv_len 3 d1 hm1) tl3
                have len2 := Nat.le_trans (mv_len 3 d2 hm2) tl3
                have hz1 : (S (vt d1)).length ≤ 1000 := by rw [len_S]; exact len1
                have rd1 := read_mv hm1
                -- text
                refine ⟨v1, rfl, v1, d1, rfl, I3.h1, mv_ok 3 d1 hm1 3 (by decide), by omega, fun H4 s4 => ?_⟩
                have I4 := I3.same s4
                have tw1 := mv_small hm1
                have tw2 := mv_small hm2
                have isT : IsOk (.str (S (vt d1))) := isOk_str (by omega) (by rw [list_S]; exact mv_low 3 d1 hm1)
                have is1 := isOk_mv (by decide) hm1
                -- value_text(one) is text
                refine ⟨v1, rfl, v1, d1, rfl, I4.h1, tw1.1, tw1.2, fun _ => ⟨by omega, fun H5 s5 => ?_⟩, fun h => by rw [ok1] at h; cases h⟩
                refine ⟨.str (S (vt d1)), rfl, .str (S (vt d1)), .str (S (vt d1)), .str (S (vt d1)), rfl, .str _, .str _, isT, fun H6 s6 => ⟨_, rfl, ifF rfl ?_⟩⟩
                have I6 := (I4.same s5).same s6
                -- read_value(text) is one
                refine ⟨.str (S (vt d1)), rfl, .str (S (vt d1)), .str (S (vt d1)), rfl, .str _, (fun z hz => by injection hz with hz; rw [← hz]; omega), fun e he H7 v' s7 hv' hn => ?_, fun h => by rw [rd1] at h; cases h⟩
                rw [rd1] at he
                obtain rfl := Option.some.inj he
                have I7 := I6.same s7
                refine ⟨v1, rfl, v', v1, d1, rfl, hv', I7.h1, is1, fun H8 s8 => ⟨_, rfl, ifF rfl ?_⟩⟩
                have I8 := I7.same s8
                -- read_value(text=text) is one
                refine ⟨.str (S (vt d1)), rfl, .str (S (vt d1)), .str (S (vt d1)), rfl, .str _, (fun z hz => by injection hz with hz; rw [← hz]; omega), fun e he H9 v'' s9 hv'' hn' => ?_, fun h => by rw [rd1] at h; cases h⟩
                rw [rd1] at he
                obtain rfl := Option.some.inj he
                have I9 := I8.same s9
                refine ⟨v1, rfl, v'', v1, d1, rfl, hv'', I9.h1, is1, fun H10 s10 => ⟨_, rfl, ifF rfl ?_⟩⟩
                have I10 := I9.same s10
                -- value_text(value=one) is text
                refine ⟨v1, rfl, v1, d1, rfl, I10.h1, tw1.1, tw1.2, fun _ => ⟨by omega, fun H11 s11 => ?_⟩, fun h => by rw [ok1] at h; cases h⟩
                refine ⟨.str (S (vt d1)), rfl, .str (S (vt d1)), .str (S (vt d1)), .str (S (vt d1)), rfl, .str _, .str _, isT, fun H12 s12 => ⟨_, rfl, ifF rfl ?_⟩⟩
                have I12 := (I10.same s11).same s12
                -- the texts are the same where the values are
                refine ⟨v1, rfl, v1, d1, rfl, I12.h1, tw1.1, tw1.2, fun _ => ⟨by omega, fun H13 s13 => ?_⟩, fun h => by rw [ok1] at h; cases h⟩
                have I13 := I12.same s13
                refine ⟨v2, rfl, v2, d2, rfl, I13.h2, tw2.1, tw2.2, fun _ => ⟨by omega, fun H14 s14 => ?_⟩, fun h => by rw [ok2] at h; cases h⟩
                have I14 := I13.same s14
                refine ⟨rfl, v1, rfl, v2, rfl, d1, d2, I14.h1.dp, I14.h2.dp, is1.sh, (isOk_mv (by decide) hm2).sh, rfl, _, rfl, ifF (dec_bl' ?_) ?_⟩
                · exact same_text hm1 hm2
                -- at
                · refine ⟨.ref st, rfl, .str (S (vt d1)), rfl, S (vt d1), rfl, by omega, _, _, rfl, rfl, st, g, c, (i : Nat) * 164 + 160, _, rfl, I14.o, by omega, by omega, by omega, fun H15 at_ k15 hO15 ha0 ha1 => ?_⟩
                  have hO15' : StO H15 st g c ((i : Nat) * 164 + 161) := hO15.more (by omega)
                  have I15 := I14.fr nl1 nl2 k15 hO15'
                  -- bent
                  have cl : ∀ lo hi, (cutS (S (vt d1)) lo hi).length ≤ 1000 := fun lo hi => Nat.le_trans (cut_len _ lo hi) hz1
                  refine ⟨.ref st, rfl, .str (S (vt d1)), rfl, .int at_, rfl, _, rfl, S (vt d1), rfl, by omega, .ref st, rfl, (by show 4 ≤ sizeLine; decide), fun l3 hl3 => ?_⟩
                  obtain ⟨m1, m2, m3⟩ := I15.o.ne_new hl3
                  have I15b := I15.new (u := .lst [.str ("(" : Str), .str (")" : Str), .str (" " : Str), .str ("A" : Str)]) hl3
                  refine ⟨st, g, c, l3, (i : Nat) * 164 + 161, [.str ("(" : Str), .str (")" : Str), .str (" " : Str), .str ("A" : Str)], rfl, I15b.o, by omega, upd_same, m1, m2, by decide, by decide, fun H16 pk k16 hO16 hpk => ?_⟩
                  obtain ⟨pz, rfl, hpz⟩ : ∃ pz : Str, pk = .str pz ∧ pz.length = 1 := by
                    simp only [List.mem_cons, List.not_mem_nil, or_false] at hpk
                    rcases hpk with h | h | h | h <;> exact ⟨_, h, rfl⟩
                  have hO16' : StO H16 st g c ((i : Nat) * 164 + 162) := hO16.more (by omega)
                  have I16 := I15b.fr nl1 nl2 k16 hO16'
                  have c1 := cl none (some at_)
                  have c2 := cl (some at_) none
                  have c3 := cl (some (at_ + 1)) none
                  refine ⟨_, _, rfl, rfl, by omega, .str (S (vt d1)), rfl, .int at_, rfl, _, rfl, S (vt d1), rfl, by omega, _, _, rfl, rfl, by rw [len_app]; omega, .str (S (vt d1)), rfl, .int at_, rfl, _, rfl, S (vt d1), rfl, by omega, .str (S (vt d1)), rfl, .int at_, rfl, _, _, rfl, rfl, _, rfl, S (vt d1), rfl, by omega, _, _, rfl, rfl, by omega, (by show 2 ≤ sizeLine; decide), fun l4 hl4 => ?_⟩
                  obtain ⟨q1, q2, q3⟩ := I16.o.ne_new hl4
                  have I16b := I16.new (u := .lst [.str (cutS (S (vt d1)) none (some at_) ++ pz ++ cutS (S (vt d1)) (some at_) none), .str (cutS (S (vt d1)) none (some at_) ++ cutS (S (vt d1)) (some (at_ + 1)) none)]) hl4
                  refine ⟨st, g, c, l4, (i : Nat) * 164 + 162, [.str (cutS (S (vt d1)) none (some at_) ++ pz ++ cutS (S (vt d1)) (some at_) none), .str (cutS (S (vt d1)) none (some at_) ++ cutS (S (vt d1)) (some (at_ + 1)) none)], rfl, I16b.o, by omega, upd_same, q1, q2, (by show 0 < 2; decide), (by show 2 < 1000000; decide), fun H17 bv k17 hO17 hbv => ?_⟩
                  obtain ⟨bz, rfl, hbz⟩ : ∃ bz : Str, bv = .str bz ∧ bz.length ≤ 20000 := by
                    simp only [List.mem_cons, List.not_mem_nil, or_false] at hbv
                    rcases hbv with h | h
                    · exact ⟨_, h, by rw [len_app, len_app]; omega⟩
                    · exact ⟨_, h, by rw [len_app]; omega⟩
                  have hO17' : StO H17 st g c (((i + 1 : Nat) : Int) * 164) := hO17.more (by omega)
                  have I17 := I16b.fr nl1 nl2 k17 hO17'
                  -- told
                  refine word_RD I17.T (fun Hc R hR => ⟨_, rfl, hR⟩) (.str bz) (fun z hz => by injection hz with hz; rw [← hz]; exact hbz) (fun _ H18 p e18 T18 hp => ?_) (fun e he H18 v' e18 T18 hv' => ?_)
                  · refine ⟨.ref p, rfl, (by show 2 ≤ sizeLine; decide), fun q hq => ⟨txt0, txt0, (dt_txt0 ((upd_ne (ne_of_none hp hq)).trans hp)).dp, (dt_txt0 upd_same).dp, sh_txt0, sh_txt0, _, rfl, ifF (by rw [eq_txt0]; rfl) (ifF rfl ?_)⟩⟩
                    exact ⟨_, _, _, _, _, _, _, _, rfl, LamG.Tabs.new T18 hq, (I17.o.extn e18).new hq⟩
                  · obtain ⟨oke, hvt, htw⟩ := readV_spec (show readV bz.cps.toList = some e from he)
                    have hI18 := I17.extn e18 T18
                    refine ⟨v', rfl, (by show 2 ≤ sizeLine; decide), fun q hq => ⟨e, txt0, (hv'.same (Same.new (Same.refl _) hq)).dp, (dt_txt0 upd_same).dp, shaped_ok (by decide) oke, sh_txt0, _, rfl, ?_⟩⟩
                    have I18 := hI18.new (u := .tup [.str ("text" : Str), .int 0]) hq
                    have hv18 := hv'.same (Same.new (o := .tup [.str ("text" : Str), .int 0]) (Same.refl _) hq)
                    cases hne : (!PyData.eqv e txt0) with
                    | false => exact ifF rfl (ifF rfl ⟨_, _, _, _, _, _, _, _, rfl, I18.T, I18.o⟩)
                    | true =>
                      refine ifT rfl ⟨v', rfl, v', e, rfl, hv18, plAt_ok 59 e oke, fun H19 s19 => ⟨_, rfl, ifF rfl ?_⟩⟩
                      have I19 := I18.same s19
                      refine ⟨v', rfl, v', e, rfl, hv18.same s19, oke, ?_, fun H20 s20 => ⟨.str bz, rfl, rfl, _, rfl, ifF ?_ ?_⟩⟩
                      · rw [hvt]
                        have : bz.cps.toList.length = bz.length := Array.length_toList
                        omega
                      · rw [hvt, S_list, decide_eq_true rfl]
                        rfl
                      · exact ⟨_, _, _, _, _, _, _, _, rfl, (I19.same s20).T, (I19.same s20).o⟩
              · obtain ⟨x2, x4, x5, x6, x7, x8, x9, x10, rfl, _⟩ := hP
                exact rfl
          · have he2 : readV (zDeep 60).cps.toList = some e := he
            rw [deep_bad] at he2
            cases he2
        · have hno2 : readV (zDeep 59).cps.toList = none := hno
          rw [deep_read] at hno2
          cases hno2
      · rw [deep_ok.1] at h
        cases h
end
end K88
set_option maxHeartbeats 4000000
/-! The end of a law row whose defs make lambdas, told of the call from outside alone: there no repr is under way. -/
namespace K88
open PySem PySem.Spec PyProof.Rows L2 LamG NtP LamX
/-- an empty table, as it stands -/
abbrev tab0 : Obj := { cls := .none, data := .fields #[] }
section
variable {P : Program} {w : World} {K : PySem.W.Frag} {mg mb : Str → Option Value} {a fa : Addr} {cs : List (Addr × Addr)} {s₁ : Shared} {vs : List Value} {ns : List Int}
/-- what is tracked at the entry: the tables; the script, if it is not written -/
def hpAt (K : PySem.W.Frag) (cs : List (Addr × Addr)) (a : Addr) (vs : List Value) (ns : List Int) : Hp := fun b =>
  if b ∈ cs.map (·.2) then some (.tbl #[]) else if b = a ∧ K.lookup a = none then some (.frz { cls := .type "list", data := .seq vs.toArray } (.lst (ns.map V.int))) else none
theorem hpAt_tab {b : Addr} (h : b ∈ cs.map (·.2)) : hpAt K cs a vs ns b = some (.tbl #[]) := if_pos h
theorem hpAt_cases {b : Addr} {u : HO} (h : hpAt K cs a vs ns b = some u) : (b ∈ cs.map (·.2) ∧ u = .tbl #[]) ∨ (b = a ∧ K.lookup a = none ∧ u = .frz { cls := .type "list", data := .seq vs.toArray } (.lst (ns.map V.int))) := by
  unfold hpAt at h
  split at h
  · rename_i hb
    exact .inl ⟨hb, (Option.some.inj h).symm⟩
  · split at h
    · rename_i hb
      exact .inr ⟨hb.1, hb.2, (Option.some.inj h).symm⟩
    · cases h
theorem end_law (KX : K.In s₁.heap) (hns : s₁.heap.Ns mainGlobals mg) (hb : s₁.heap.Ns builtinsNs mb) (hbb : ∀ x : Str, x ≠ "__name__" → mb x = bootBuiltins x) (hlim : s₁.heap.NoLimit) (hg : s₁.gens = #[])
    (hT : ∀ p ∈ cs, s₁.heap.get? p.2 = some tab0) (nT : ∀ p ∈ cs, K.lookup p.2 = none) (C : ∀ p ∈ cs, PySem.W.CodeHd s₁.heap p.1 p.2)
    (hbm : ∃ (bm : Addr) (ob : Obj), mg "__builtins__" = some (.ref bm) ∧ bm ≠ builtinsNs ∧ s₁.heap.get? bm = some ob ∧ ob.cls = .type "module" ∧ ob.dict = some builtinsNs ∧ ob.data = .plain)
    (ha : s₁.heap.get? a = some { cls := .type "list", data := .seq vs.toArray }) (hi : IntsAre vs ns) (hl : ns.length ≤ sizeLine)
    (run : ∀ (base : Heap) (H : Hp), K.In base → base.Ns mainGlobals mg → (∀ p ∈ cs, TabB base mg p.1 p.2) → Env0 P w K mg base callerA [] s₁ H → (∀ p ∈ cs, H p.2 = some (.tbl #[])) → SqL K H a (ns.map V.int) →
      codeAny (model P w) callerA (.call (.ref fa) ⟨[.ref a], []⟩) (CR C8.CX0 [] P w H s₁ (fun v _ => v = .bl true) C8.E0) s₁) :
    codeAny (model P w) callerA (.call (.ref fa) ⟨[.ref a], []⟩) (fun r s' => r = .ok (.ret (.bool true)) ∧ OldK s₁.heap s'.heap ∧ s'.os = s₁.os ∧ AllBare s'.gens) s₁ := by
  have rv := vals_ints hi
  have lenV := hi.length
  have tabAt : ∀ b ∈ cs.map (·.2), s₁.heap.get? b = some tab0 ∧ K.lookup b = none := fun b hb => by
    obtain ⟨p, hp, rfl⟩ := List.mem_map.mp hb
    exact ⟨hT p hp, nT p hp⟩
  have aT : a ∉ cs.map (·.2) := fun z => by
    have q := (tabAt a z).1
    rw [ha] at q
    cases q
  -- what is tracked is neither a dict nor a plain thing, and not written
  have free : ∀ {b : Addr} {o : Obj}, s₁.heap.get? b = some o → (∀ us n, o.data ≠ .seq us n) → o.data ≠ .fields #[] → hpAt K cs a vs ns b = none := fun {b o} e h1 h2 => by
    cases q : hpAt K cs a vs ns b with
    | none => rfl
    | some u =>
      rcases hpAt_cases q with ⟨hb, _⟩ | ⟨rfl, _, _⟩
      · rw [(tabAt b hb).1] at e
        cases e
        exact absurd rfl h2
      · rw [ha] at e
        cases e
        exact absurd rfl (h1 _ _)
  have freeK : ∀ {b : Addr} {o : Obj}, K.lookup b = some o → hpAt K cs a vs ns b = none := fun {b o} e => by
    cases q : hpAt K cs a vs ns b with
    | none => rfl
    | some u =>
      rcases hpAt_cases q with ⟨hb, _⟩ | ⟨rfl, hn, _⟩
      · rw [(tabAt b hb).2] at e
        cases e
      · rw [hn] at e
        cases e
  have nsB : ∀ {b : Addr} {m : Str → Option Value}, s₁.heap.Ns b m → (hidT s₁.heap (hpAt K cs a vs ns)).Ns b m := fun {b m} h => by
    obtain ⟨o, es, ep, e, d, r⟩ := h
    refine ⟨o, es, ep, hidT_get e (free e (fun us n z => ?_) fun z => ?_), d, r⟩ <;> (rw [d] at z; cases z)
  have kB : K.In (hidT s₁.heap (hpAt K cs a vs ns)) := fun b o e => hidT_get (KX b o e) (freeK e)
  have hok : HOk P w (hpAt K cs a vs ns) s₁.heap := fun b u q => by
    rcases hpAt_cases q with ⟨hb, rfl⟩ | ⟨rfl, _, rfl⟩
    · exact (tabAt b hb).1
    · exact ⟨ha, by rw [List.length_map]; exact hl, vs, _, rv, ha⟩
  have hsq : SqL K (hpAt K cs a vs ns) a (ns.map V.int) := by
    cases hk : K.lookup a with
    | none => exact .inl (.inr ⟨_, by unfold hpAt; rw [if_neg aT, if_pos ⟨rfl, hk⟩]⟩)
    | some o =>
      have e := KX a o hk
      rw [ha] at e
      cases e
      exact .inr ⟨_, vs.toArray, _, hk, rfl, rfl, rfl, by rw [List.size_toArray, lenV]; exact hl, by simpa using rv⟩
  have tb : ∀ p ∈ cs, TabB (hidT s₁.heap (hpAt K cs a vs ns)) mg p.1 p.2 := fun p hp => by
    have hTp := hT p hp
    refine ⟨?_, ?_, fun z => ?_⟩
    · obtain ⟨o, us, file, tf, flags, tg, inF, text, tt, e1, r1, r2, r3, r⟩ := C p hp
      refine ⟨o, us, file, tf, flags, tg, inF, text, tt, hidT_get e1 (free e1 (fun us n z => ?_) fun z => ?_), r1, r2, r3, r⟩
      · rw [r2] at z
        cases z
      · rw [r2] at z
        cases z
        simp at r3
    · obtain ⟨bm, ob, b1, b2, b3, b4, b5, b6⟩ := hbm
      refine ⟨bm, ob, b1, b2, fun q => ?_, fun q => ?_, hidT_get b3 (free b3 (fun us n z => ?_) fun z => ?_), b4, b5, b6⟩
      · obtain ⟨o, es, ep, e, hd, _⟩ := hns
        rw [q, e] at b3
        cases b3
        rw [hd] at b6
        cases b6
      · rw [q, hTp] at b3
        cases b3
        cases b6
      · rw [b6] at z
        cases z
      · rw [b6] at z
        cases z
    · obtain ⟨o, es, ep, e, hd, _⟩ := hns
      rw [z, hTp] at e
      cases e
      cases hd
  have e0 : Env0 P w K mg (hidT s₁.heap (hpAt K cs a vs ns)) callerA [] s₁ (hpAt K cs a vs ns) :=
    ⟨rfl, ⟨kB, nsB hns, ⟨mb, nsB hb, hbb⟩, let ⟨mc, h1, h2⟩ := hlim; ⟨mc, nsB h1, h2⟩⟩, fun b o e => of_hidT e, Nat.le_of_eq (hidT_size _ _), trivial, fun b hb => absurd (show b ∈ ([] : List Addr) from hb) (by simp), hok, .of_eq hg⟩
  refine codeAny_mono (run _ _ kB (nsB hns) tb e0 (fun p hp => hpAt_tab (List.mem_map.mpr ⟨p, hp, rfl⟩)) hsq) fun r s' h => ?_
  cases r with
  | error e => exact (show False from h).elim
  | ok fl =>
    cases fl with
    | next => exact False.elim h
    | brk => exact False.elim h
    | cont => exact False.elim h
    | ret u =>
      obtain ⟨v, H', os, bare, un, hok', r', q⟩ := h
      have q' : v = .bl true := q
      subst q'
      obtain rfl : u = Value.bool true := r'
      have grown : ∀ p ∈ cs, ∃ more : Array Value, s'.heap.get? p.2 = some { cls := .none, data := .fields more } := fun p hp => by
        obtain ⟨more, z⟩ := un.tbls p.2 #[] (hpAt_tab (List.mem_map.mpr ⟨p, hp, rfl⟩))
        exact ⟨_, hok' p.2 _ z⟩
      have kept : ∀ b o, b ∉ cs.map (·.2) → s₁.heap.get? b = some o → s'.heap.get? b = some o := fun b o nb e => by
        cases q : hpAt K cs a vs ns b with
        | none => exact un.keep b o e q (fun z => absurd (show b ∈ ([] : List Addr) from z) (by simp)) (by simp)
        | some u =>
          rcases hpAt_cases q with ⟨hb, _⟩ | ⟨_, _, rfl⟩
          · exact absurd hb nb
          · obtain ⟨e1, _⟩ := hok b _ q
            obtain ⟨e2, _⟩ := hok' b _ (un.frzs b _ _ q)
            rw [e] at e1
            cases e1
            exact e2
      refine ⟨rfl, ⟨fun b o e => ?_, fun b o e => ?_⟩, os, bare⟩
      · by_cases hb : b ∈ cs.map (·.2)
        · obtain ⟨p, hp, rfl⟩ := List.mem_map.mp hb
          obtain ⟨more, hm⟩ := grown p hp
          rw [hT p hp] at e
          cases e
          exact .inr (.inl ⟨((C p hp).tab (hT p hp)).isCodeTable, rfl, #[], more, rfl, by rw [Array.empty_append]; exact hm⟩)
        · exact .inl (kept b o hb e)
      · by_cases hb : b ∈ cs.map (·.2)
        · obtain ⟨p, hp, rfl⟩ := List.mem_map.mp hb
          obtain ⟨more, hm⟩ := grown p hp
          exact ⟨_, hm⟩
        · exact ⟨o, kept b o hb e⟩
end
end K88
set_option maxHeartbeats 0
/-! The head: what the top leaves. -/
namespace K88
open PySem PySem.Spec PyProof.Rows L2 LamG NtP LamX
open He (DefD Fa)
/-! ### what is looked at -/
def frK (g : Addr → Option Obj) (n : Nat) : PySem.W.Frag := He.frT g (He.asD g n ++ [cStatics])
def ntC (K : PySem.W.Frag) : Addr := He.ga K "NoText"
def ntI (K : PySem.W.Frag) : Addr := He.ma K (ntC K) "__init__"
/-- the def of NoText's __init__ in the top -/
def sInit : Stmt := match top 14 with
  | .ClassDef _ _ _ body _ _ _ _ _ _ _ => body.headD (.Pass ⟨0, 0, 0, 0⟩)
  | _ => .Pass ⟨0, 0, 0, 0⟩
abbrev InV : Type := Option (Str × Str × Arguments × FuncBody × Scope × Addr × Addr)
def inObs (K : PySem.W.Frag) : InV := match K.lookup (ntI K) with
  | some ⟨_, _, .func fd, _⟩ => some (fd.name, fd.qualname, fd.params, fd.body, fd.scope, fd.globals, fd.builtins)
  | _ => none
def inVal : InV := some ("__init__", "NoText.__init__", defArgs sInit, .stmts (defBody sInit), defScope sInit, mainGlobals, builtinsNs)
def clsB (K : PySem.W.Frag) (C : Addr) : Bool := match K.lookup C with
  | some ⟨.type "type", _, .cls cd, sl⟩ => (match cd.mro, sl.toList with
    | .ref C' :: bm, [_, _, _, _, some (.builtin n), _] => C' == C && n == "ValueError.__new__" && !cd.hasDel && cd.hasDict && PySem.HandSPX.refsVE bm && decide (PySem.W.alongIn K "__init__" bm = some (some (.builtin "ValueError.__init__")))
    | _, _ => false)
  | _ => false
def iniB (prog : Program) (K : PySem.W.Frag) : Bool := match K.lookup (ntI K) with
  | some ⟨_, _, .func fd, _⟩ => PySem.W.codeIn K fd.code fd.qualname && (match fd.closure, fd.defaults, fd.code with
    | [(n, cc)], .ref T, .ref cda => decide (n = "__class__") && (match K.lookup cc with
      | some ⟨_, _, .cell (some (.ref c)), _⟩ => c == ntC K
      | _ => false) && (match K.lookup T with
      | some ⟨_, _, .seq its _, _⟩ => its.size == 1
      | _ => false) && (match K.lookup cda with
      | some ⟨_, _, .fields vs, _⟩ => (match vs[2]? with
        | some (Value.str file _) => (prog.main.file : Str) == file
        | _ => false)
      | _ => false)
    | _, _, _ => false)
  | _ => false
def eqV (a b : Option Value) : Bool := decide (a = b)
def exB (prog : Program) (K : PySem.W.Frag) : Bool :=
  clsB K (ntC K) && iniB prog K &&
  He.eqO (PySem.W.findIn K (.ref (ntC K)) "__setattr__") (some (some (.builtin "object.__setattr__"))) &&
  He.eqO (PySem.W.findIn K (.ref (ntC K)) "__getattribute__") (some (some (.builtin "BaseException.__getattribute__"))) &&
  He.eqO (PySem.W.findIn K (.ref (ntC K)) "__getattr__") (some none) &&
  He.eqO (PySem.W.findIn K (.ref (ntC K)) "line") (some none) &&
  He.eqO (PySem.W.findIn K (.ref (ntC K)) "__init__") (some (some (.ref (ntI K)))) &&
  eqV (PySem.W.typeIn K (.ref (ntI K))) (some (.type "function")) &&
  PySem.W.keepIn K (.ref (ntC K)) &&
  decide (PySem.W.subIn K (.ref (ntC K)) (.type "BaseException") = some true) &&
  decide (PySem.W.subIn K (.ref (ntC K)) (.type "ValueError") = some true) &&
  eqV (PySem.W.typeIn K (.ref (ntC K))) (some (.type "type")) &&
  PySem.W.hasDictIn K (ntC K) &&
  He.eqO (PySem.W.nsIn K cStatics "thirdparty.any") (some none) &&
  He.eqO (PySem.W.findIn K (.ref (ntC K)) "__class__") (some (some (.builtin "object.__class__"))) &&
  He.eqO (PySem.W.specialIn K (.builtin "object.__class__") "__get__") (some (some (.builtin "getset_descriptor.__get__"))) &&
  decide (PySem.W.takesIn K (.builtin "object.__class__") = some true) &&
  decide (PySem.W.mroIn K (ntC K) (.type "object") = some true) &&
  decide (PySem.W.exmOne K (.ref (ntC K)) (.ref (He.ga K "EntryError")) = some true) &&
  decide (PySem.W.kitOne K (.ref (ntC K)) (.ref (He.ga K "Used")) = some false) &&
  decide (PySem.W.kitOne K (.ref (ntC K)) (.ref (He.ga K "TooMany")) = some false) &&
  decide (PySem.W.kitOne K (.ref (ntC K)) (.ref (ntC K)) = some true) &&
  decide ((He.cT K ("law", none)).2 ≠ (He.cT K ("_law_word", none)).2)
def dd (x : Str) (st : Stmt) : DefD := ⟨(x, none), x, x, defArgs st, defBody st, defScope st, [], []⟩
def fn : List DefD := [dd "is_word" sIsWord, dd "is_figure" sIsFig, dd "is_value" sIsVal, dd "value_text" sVT, dd "pieces_of" sPcs, dd "plain_of" sPlain, dd "value_of" sValOf, dd "read_value" sRead, dd "_law_begun" sBegun, dd "_law_mixed" sMixed, dd "_law_draw" sDraw, dd "_law_pick" sPick, dd "_law_plain" sPl, dd "_law_is" sIs, dd "_law_caught" sCaught, dd "_law_word" sWord, dd "_law_value_text" sLVT, dd "_law_some_value" sSome, dd "_law_nested" sNest, dd "law" sLaw]
def fa : List Fa := (fn.map fun d => Fa.glo d.name) ++ [.glo "EntryError", .glo "NoText", .glo "Used", .glo "TooMany"] ++ (["isinstance", "all", "abs", "str", "int", "bool", "tuple", "list", "dict", "len", "range", "enumerate", "reversed", "repr", "min", "super"] : List Str).map Fa.free ++
  [.str "SMALL" smalls, .str "FIGURES" figs, .int "MOST_DEEP" 60, .int "MOST_FIGURES" 12, .int "MOST_NUMBER" 1000000000000]
def tf : List He.Defn := [("law", none), ("_law_word", none)]
abbrev theLaw : PySem.W.OpenLaw := PySem.Challenge.rw_entrybook_k88_values_written
abbrev Rw : PySem.W.OpenRow := PySem.W.OpenLaw.row theLaw
abbrev AlK : Type := He.AlD × InV × Bool
def obsK (n : Nat) (g : Addr → Option Obj) : AlK := (He.obsD fa fn (frK g n), inObs (frK g n), exB theLaw.prog (frK g n) && He.tabsB g tf (frK g n))
def valK : AlK := (He.valD fn, inVal, true)
structure Says (h : Heap) (K : PySem.W.Frag) : Prop where
  d : He.SaysD fa fn K
  i : inObs K = inVal
  ex : exB theLaw.prog K = true
  hd : ∀ p ∈ tf, PySem.W.codeHdIn K (He.cT K p).1 (He.cT K p).2 = true
  out : ∀ p ∈ tf, K.lookup (He.cT K p).2 = none
  empty : ∀ p ∈ tf, h.get? (He.cT K p).2 = some tab0
theorem says_of {n : Nat} {h : Heap} (e : obsK n h.get? = valK) : Says h (frK h.get? n) := by
  have e1 : He.obsD fa fn (frK h.get? n) = He.valD fn := congrArg (fun z : AlK => z.1) e
  have e2 : inObs (frK h.get? n) = inVal := congrArg (fun z : AlK => z.2.1) e
  have e3 : (exB theLaw.prog (frK h.get? n) && He.tabsB h.get? tf (frK h.get? n)) = true := congrArg (fun z : AlK => z.2.2) e
  obtain ⟨h1, h2⟩ := He.ba e3
  have key : ∀ p ∈ tf, PySem.W.codeHdIn (frK h.get? n) (He.cT (frK h.get? n) p).1 (He.cT (frK h.get? n) p).2 = true ∧ ∃ o, h.get? (He.cT (frK h.get? n) p).2 = some o ∧ He.emptyTab o = true := fun p hp => by
    obtain ⟨h3, h4⟩ := He.ba (List.all_eq_true.mp h2 p hp)
    refine ⟨h3, ?_⟩
    cases q : h.get? (He.cT (frK h.get? n) p).2 with
    | none =>
      rw [q] at h4
      cases h4
    | some o =>
      rw [q] at h4
      exact ⟨o, rfl, h4⟩
  refine ⟨e1, e2, h1, fun p hp => (key p hp).1, fun p hp => ?_, fun p hp => ?_⟩
  · obtain ⟨_, o, q, z⟩ := key p hp
    exact He.frT_none q z
  · obtain ⟨_, o, q, z⟩ := key p hp
    rw [q, He.emptyTab_eq z]
def hookK (n : Nat) : PySem.W.Hook where
  α := AlK
  obs := fun s => obsK n s.heap.get?
  val := fun _ => valK
  says := fun _ h => ∃ K : PySem.W.Frag, K.In h ∧ Says h K
  of := fun _ _ e => ⟨_, He.frT_in, says_of e⟩
  keeps := fun _ _ _ ⟨K, hK, c⟩ k => ⟨K, PySem.W.Frag.In.keeps hK k, ⟨c.d, c.i, c.ex, c.hd, c.out, fun p hp => k _ _ (c.empty p hp)⟩⟩
abbrev hk : PySem.W.Hook := hookK 6
def ob (s : PySem.W.SharedT) : AlK := obsK 6 (HandSHeadRun.getT s)
theorem ob_eq (s : PySem.W.SharedT) : ob s = hk.obs s.abs := by
  have e : HandSHeadRun.getT s = s.abs.heap.get? := funext (HandSHeadRun.getT_eq s)
  unfold ob
  rw [e]
  rfl
def others : List Str := ["EntryError", "NoName", "NoNumber", "NoPlace", "NoRow", "NoBook", "NoState", "NoExpression", "NoDefinition", "NoLaw", "NoDeed", "NoPast", "Twice", "NoText", "Used", "TooMany", "MOST_DEEP", "MOST_FIGURES", "MOST_NUMBER", "SMALL", "FIGURES", "is_word", "is_figure", "is_value", "value_text", "pieces_of", "plain_of", "value_of", "read_value"]
def others2 : List Str := ["_law_begun", "_law_mixed", "_law_draw", "_law_pick", "_law_plain", "_law_is", "_law_caught", "_law_word", "_law_value_text", "_law_some_value", "_law_nested"]
theorem run (w : World) : HandSHeadRun.RunEq Rw (PySem.W.view Rw.prog [43]) hk ob 20000 (others ++ others2) w := by
  intro os
  kernel_rfl
end K88
set_option maxHeartbeats 4000000
/-! From the head's facts to the law. -/
namespace K88
open PySem PySem.Spec PyProof.Rows L2 LamG NtP LamX
section
variable {K : PySem.W.Frag} {h : Heap} {mg : Str → Option Value}
theorem clsB_ok {C : Addr} (q : clsB K C = true) : ∃ cn q N bs bm sn sub ab col dd k0 k1 k2 k3 k5, K.lookup C = some (excClassObj cn q C N bs bm true sn sub ab col dd k0 k1 k2 k3 k5 "ValueError.__new__") ∧ PySem.HandSPX.refsVE bm = true ∧ PySem.W.alongIn K "__init__" bm = some (some (.builtin "ValueError.__init__")) := by
  unfold clsB at q
  split at q
  · rename_i dd cd sl ho
    split at q
    · rename_i C' bm k0 k1 k2 k3 n k5 hm hs
      simp only [Bool.and_eq_true, beq_iff_eq, Bool.not_eq_true', decide_eq_true_eq] at q
      obtain ⟨⟨⟨⟨⟨rfl, rfl⟩, hdel⟩, hdict⟩, hve⟩, hal⟩ := q
      obtain ⟨nm, bs, mro, ns, qn, hd, sn, sub, ab, col, del⟩ := cd
      dsimp only at hm hdel hdict
      subst hm hdel hdict
      have hsl : sl = #[k0, k1, k2, k3, some (.builtin "ValueError.__new__"), k5] := by
        obtain ⟨l⟩ := sl
        simp only at hs
        rw [hs]
      subst hsl
      exact ⟨nm, qn, ns, bs, bm, sn, sub, ab, col, dd, k0, k1, k2, k3, k5, ho, hve, hal⟩
    · cases q
  · cases q
theorem ini_ok {prog : Program} (e : inObs K = inVal) (q : iniB prog K = true) :
    ∃ (oc : Value) (od : Option Addr) (qual : Str) (kV doc pm : Value) (an : Option Addr) (cdv ct : Value) (osl : Array (Option Value)) (cc T : Addr) (p1 p2 p3 p4 : Pos) (j : Nat) (q1 q2 q3 q4 q5 q6 r1 r2 r3 r4 : Pos),
    (q3.endLine == q5.line) = true ∧ K.lookup (ntI K) = some ⟨oc, od, .func (PySem.W.ksFn "__init__" qual (Nt.nA p1 p2 p3 p4 j) (Nt.nB q1 q2 q3 q4 q5 q6 r1 r2 r3 r4) Nt.nS (.ref T) kV doc pm an cdv ct cc), osl⟩ ∧ PySem.W.codeIn K cdv qual = true ∧
    (∃ oT dv nT, K.lookup T = some oT ∧ oT.data = .seq #[dv] nT) ∧
    (∃ cl cld csl, K.lookup cc = some ⟨cl, cld, .cell (some (.ref (ntC K))), csl⟩) ∧
    ∃ (cda : Addr) (ccl : Value) (cdd : Option Addr) (vs : Array Value) (ccs : Array (Option Value)) (file : Str) (tf : Tok), cdv = .ref cda ∧ K.lookup cda = some ⟨ccl, cdd, .fields vs, ccs⟩ ∧ vs[2]? = some (.str file tf) ∧ ((prog.main.file : Str) == file) = true := by
  unfold inObs at e
  unfold iniB at q
  cases hk : K.lookup (ntI K) with
  | none => rw [hk] at q; cases q
  | some o =>
    obtain ⟨oc, od, dt, osl⟩ := o
    rw [hk] at q e
    cases dt with
    | func fd =>
      obtain ⟨n1, n2, n3, n4, n5, n6, n7, n8, n9, n10, n11, n12, n13, n14, n15⟩ := fd
      have e2 : (some (n1, n2, n3, n4, n5, n6, n15) : InV) = some (Str.ofString "__init__", Str.ofString "NoText.__init__", defArgs sInit, FuncBody.stmts (defBody sInit), defScope sInit, mainGlobals, builtinsNs) := e
      simp only [Option.some.injEq, Prod.mk.injEq] at e2
      obtain ⟨h1, h2, h3, h4, h5, h6, h7⟩ := e2
      subst h1 h2 h3 h4 h5 h6 h7
      have q2 := q
      dsimp only at q2
      obtain ⟨hcd, q3⟩ := He.ba q2
      split at q3
      · rename_i n cc T cda
        simp only [Bool.and_eq_true] at q3
        obtain ⟨⟨⟨k1, k2⟩, k3⟩, k4⟩ := q3
        have k1 := of_decide_eq_true k1
        subst k1
        split at k2
        · rename_i x1 x2 c x3 hcc
          have k2 : c = ntC K := by simpa using k2
          subst k2
          split at k3
          · rename_i y1 y2 its y3 y4 hT
            have k3 : its.size = 1 := by simpa using k3
            split at k4
            · rename_i z1 z2 vs z3 hcda
              split at k4
              · rename_i file tt hfile
                refine ⟨oc, od, "NoText.__init__", n9, n10, n11, n12, .ref cda, n14, osl, cc, T, _, _, _, _, _, _, _, _, _, _, _, _, _, _, _, ?_, rfl, hcd, ⟨_, its[0]'(by omega), y3, hT, ?_⟩, ⟨_, _, _, hcc⟩, cda, _, _, vs, _, file, tt, rfl, hcda, hfile, k4⟩
                · rfl
                · show Data.seq its y3 = Data.seq #[its[0]'(by omega)] y3
                  congr 1
                  exact Array.ext (by simpa using k3) fun i h1 h2 => by
                    have : i = 0 := by simp at h2; omega
                    subst this
                    rfl
              · cases k4
            · cases k4
          · cases k3
        · cases k2
      · cases q3
    | _ => cases q
theorem he_glo (X : K.In h) (G : h.Ns mainGlobals mg) (c : Says h K) (i : Nat) (x : Str) (e : fa[i]? = some (.glo x)) : mg x = some (.ref (He.ga K x)) := He.glo_ok X G (c.d.fact i e)
theorem he_free (X : K.In h) (G : h.Ns mainGlobals mg) (c : Says h K) (i : Nat) (x : Str) (e : fa[i]? = some (.free x)) : mg x = none := He.free_ok X G (c.d.fact i e)
theorem he_fn (c : Says h K) (i : Nat) (x : Str) (st : Stmt) (e : fn[i]? = some (dd x st)) : ∃ fd, FnP K x st (He.ga K x) fd := c.d.def_ i e
theorem blt_of (X : K.In h) (G : h.Ns mainGlobals mg) (c : Says h K) : Blt mg :=
  ⟨he_free X G c 24 _ rfl, he_free X G c 25 _ rfl, he_free X G c 26 _ rfl, he_free X G c 27 _ rfl, he_free X G c 28 _ rfl, he_free X G c 29 _ rfl, he_free X G c 30 _ rfl, he_free X G c 31 _ rfl, he_free X G c 32 _ rfl, he_free X G c 33 _ rfl, he_free X G c 34 _ rfl, he_free X G c 35 _ rfl, he_free X G c 36 _ rfl, he_free X G c 37 _ rfl, he_free X G c 38 _ rfl⟩
theorem cn_of (X : K.In h) (G : h.Ns mainGlobals mg) (c : Says h K) : Cn mg :=
  ⟨He.str_ok X G (c.d.fact 40 (f := .str "SMALL" smalls) rfl), He.str_ok X G (c.d.fact 41 (f := .str "FIGURES" figs) rfl), He.int_ok X G (c.d.fact 42 (f := .int "MOST_DEEP" 60) rfl), He.int_ok X G (c.d.fact 43 (f := .int "MOST_FIGURES" 12) rfl), He.int_ok X G (c.d.fact 44 (f := .int "MOST_NUMBER" 1000000000000) rfl)⟩
/-- all of what exB says -/
structure ExF (prog : Program) (K : PySem.W.Frag) : Prop where
  cls : clsB K (ntC K) = true
  ini : iniB prog K = true
  sa : PySem.W.findIn K (.ref (ntC K)) "__setattr__" = some (some (.builtin "object.__setattr__"))
  ga : PySem.W.findIn K (.ref (ntC K)) "__getattribute__" = some (some (.builtin "BaseException.__getattribute__"))
  gg : PySem.W.findIn K (.ref (ntC K)) "__getattr__" = some none
  no : PySem.W.findIn K (.ref (ntC K)) "line" = some none
  iC : PySem.W.findIn K (.ref (ntC K)) "__init__" = some (some (.ref (ntI K)))
  tI : PySem.W.typeIn K (.ref (ntI K)) = some (.type "function")
  kC : PySem.W.keepIn K (.ref (ntC K)) = true
  exC : PySem.W.subIn K (.ref (ntC K)) (.type "BaseException") = some true
  veC : PySem.W.subIn K (.ref (ntC K)) (.type "ValueError") = some true
  tyC : PySem.W.typeIn K (.ref (ntC K)) = some (.type "type")
  hdC : PySem.W.hasDictIn K (ntC K) = true
  opq : PySem.W.nsIn K cStatics "thirdparty.any" = some none
  ca : PySem.W.findIn K (.ref (ntC K)) "__class__" = some (some (.builtin "object.__class__"))
  cn : PySem.W.specialIn K (.builtin "object.__class__") "__get__" = some (some (.builtin "getset_descriptor.__get__"))
  ct : PySem.W.takesIn K (.builtin "object.__class__") = some true
  cm : PySem.W.mroIn K (ntC K) (.type "object") = some true
  ex : PySem.W.exmOne K (.ref (ntC K)) (.ref (He.ga K "EntryError")) = some true
  iU : PySem.W.kitOne K (.ref (ntC K)) (.ref (He.ga K "Used")) = some false
  iM : PySem.W.kitOne K (.ref (ntC K)) (.ref (He.ga K "TooMany")) = some false
  iN : PySem.W.kitOne K (.ref (ntC K)) (.ref (ntC K)) = some true
  ne : (He.cT K ("law", none)).2 ≠ (He.cT K ("_law_word", none)).2
theorem exF_of {prog : Program} (q : exB prog K = true) : ExF prog K := by
  unfold exB at q
  obtain ⟨q, a23⟩ := He.ba q
  obtain ⟨q, a22⟩ := He.ba q
  obtain ⟨q, a21⟩ := He.ba q
  obtain ⟨q, a20⟩ := He.ba q
  obtain ⟨q, a19⟩ := He.ba q
  obtain ⟨q, a18⟩ := He.ba q
  obtain ⟨q, a17⟩ := He.ba q
  obtain ⟨q, a16⟩ := He.ba q
  obtain ⟨q, a15⟩ := He.ba q
  obtain ⟨q, a14⟩ := He.ba q
  obtain ⟨q, a13⟩ := He.ba q
  obtain ⟨q, a12⟩ := He.ba q
  obtain ⟨q, a11⟩ := He.ba q
  obtain ⟨q, a10⟩ := He.ba q
  obtain ⟨q, a9⟩ := He.ba q
  obtain ⟨q, a8⟩ := He.ba q
  obtain ⟨q, a7⟩ := He.ba q
  obtain ⟨q, a6⟩ := He.ba q
  obtain ⟨q, a5⟩ := He.ba q
  obtain ⟨q, a4⟩ := He.ba q
  obtain ⟨q, a3⟩ := He.ba q
  obtain ⟨a1, a2⟩ := He.ba q
  exact ⟨a1, a2, He.eqO_ok a3, He.eqO_ok a4, He.eqO_ok a5, He.eqO_ok a6, He.eqO_ok a7, of_decide_eq_true a8, a9, of_decide_eq_true a10, of_decide_eq_true a11, of_decide_eq_true a12, a13, He.eqO_ok a14, He.eqO_ok a15, He.eqO_ok a16, of_decide_eq_true a17, of_decide_eq_true a18, of_decide_eq_true a19, of_decide_eq_true a20, of_decide_eq_true a21, of_decide_eq_true a22, of_decide_eq_true a23⟩
theorem nt_of (X : K.In h) (G : h.Ns mainGlobals mg) (c : Says h K) : Nt.NtC theLaw.prog K mg "NoText" (ntC K) (ntI K) := by
  have e := exF_of c.ex
  exact ⟨he_glo X G c 21 _ rfl, clsB_ok e.cls, e.sa, e.ga, e.gg, e.no, e.iC, e.tI, e.kC, e.exC, e.veC, e.tyC, e.hdC, e.opq, he_free X G c 39 _ rfl, ini_ok c.i e.ini, by decide +kernel⟩
theorem fns_of {w : World} {base : Heap} (X : K.In h) (G : h.Ns mainGlobals mg) (c : Says h K) : Nonempty (Fns theLaw.prog w K mg base (ntC K)) := by
  have B := blt_of X G c
  have C := cn_of X G c
  have T := nt_of X G c
  obtain ⟨d0, F0⟩ := he_fn c 0 "is_word" sIsWord rfl
  have g0 := he_glo X G c 0 "is_word" rfl
  obtain ⟨d1, F1⟩ := he_fn c 1 "is_figure" sIsFig rfl
  have g1 := he_glo X G c 1 "is_figure" rfl
  obtain ⟨d2, F2⟩ := he_fn c 2 "is_value" sIsVal rfl
  have g2 := he_glo X G c 2 "is_value" rfl
  obtain ⟨d3, F3⟩ := he_fn c 3 "value_text" sVT rfl
  have g3 := he_glo X G c 3 "value_text" rfl
  obtain ⟨d4, F4⟩ := he_fn c 4 "pieces_of" sPcs rfl
  have g4 := he_glo X G c 4 "pieces_of" rfl
  obtain ⟨d5, F5⟩ := he_fn c 5 "plain_of" sPlain rfl
  have g5 := he_glo X G c 5 "plain_of" rfl
  obtain ⟨d6, F6⟩ := he_fn c 6 "value_of" sValOf rfl
  have g6 := he_glo X G c 6 "value_of" rfl
  obtain ⟨d7, F7⟩ := he_fn c 7 "read_value" sRead rfl
  have g7 := he_glo X G c 7 "read_value" rfl
  obtain ⟨d8, F8⟩ := he_fn c 8 "_law_begun" sBegun rfl
  have g8 := he_glo X G c 8 "_law_begun" rfl
  obtain ⟨d9, F9⟩ := he_fn c 9 "_law_mixed" sMixed rfl
  have g9 := he_glo X G c 9 "_law_mixed" rfl
  obtain ⟨d10, F10⟩ := he_fn c 10 "_law_draw" sDraw rfl
  have g10 := he_glo X G c 10 "_law_draw" rfl
  obtain ⟨d11, F11⟩ := he_fn c 11 "_law_pick" sPick rfl
  have g11 := he_glo X G c 11 "_law_pick" rfl
  obtain ⟨d12, F12⟩ := he_fn c 12 "_law_plain" sPl rfl
  have g12 := he_glo X G c 12 "_law_plain" rfl
  obtain ⟨d13, F13⟩ := he_fn c 13 "_law_is" sIs rfl
  have g13 := he_glo X G c 13 "_law_is" rfl
  obtain ⟨d14, F14⟩ := he_fn c 14 "_law_caught" sCaught rfl
  have g14 := he_glo X G c 14 "_law_caught" rfl
  obtain ⟨d15, F15⟩ := he_fn c 15 "_law_word" sWord rfl
  have g15 := he_glo X G c 15 "_law_word" rfl
  obtain ⟨d16, F16⟩ := he_fn c 16 "_law_value_text" sLVT rfl
  have g16 := he_glo X G c 16 "_law_value_text" rfl
  obtain ⟨d17, F17⟩ := he_fn c 17 "_law_some_value" sSome rfl
  have g17 := he_glo X G c 17 "_law_some_value" rfl
  obtain ⟨d18, F18⟩ := he_fn c 18 "_law_nested" sNest rfl
  have g18 := he_glo X G c 18 "_law_nested" rfl
  have G0 : FnOk theLaw.prog w K mg base CX0 1 _ d0 ["thing"] spIsWord := ok_isWord F0 B C.small
  have G2 : FnOk theLaw.prog w K mg base CX0 2 _ d2 ["thing"] spIsVal := ok_isVal F2 F0 F1 g0 g1 B C
  have G3 : FnOk theLaw.prog w K mg base (L2.CX theLaw.prog w) 3 _ d3 ["value"] (spVT (ntC K)) := ok_VT F3 F2 G2 g2 T B
  have G4 : FnOk theLaw.prog w K mg base CX0 1 _ d4 ["text"] spPcs := ok_pcs F4 B
  have G5 : FnOk theLaw.prog w K mg base CX0 2 _ d5 ["piece"] spPlainOf := ok_plain F5 F0 G0 g0 B C
  have G6 : FnOk theLaw.prog w K mg base CX0 3 _ d6 ["pieces"] spValOf := ok_valOf F6 F5 G5 g5 B
  have G7 : FnOk theLaw.prog w K mg base (L2.CX theLaw.prog w) 4 _ d7 ["text"] (spRead (ntC K)) := ok_read F7 F2 G2 g2 F3 G3 g3 F4 G4 g4 F6 G6 g6 T B
  have G10 : FnOk theLaw.prog w K mg base CX0 2 _ d10 ["state", "room"] spDraw := ok_draw F10 F9 g9 B
  have G11 : FnOk theLaw.prog w K mg base CX0 3 _ d11 ["state", "some"] spPick := ok_pick F11 F10 G10 g10 B
  exact ⟨⟨_, _, _, _, _, _, _, _, _, _, d3, d7, d8, d18, d13, d17, d16, d10, d11, d12, F3, F7, F8, F18, F13, F17, F16, F10, F11, F12, g3, g7, g8, g18, g13, g17, g16, g10, g11, g12, G3, G7, ok_begun F8 B, ok_nest F18 B, ok_is F13 F12 g12 B, ok_some F17 g17 F10 G10 g10 F11 G11 g11 B 4, ok_LVT F16 g16 B, G10, G11, ok_pl F12 g12 B⟩⟩
/-- the defs that make lambdas: their code objects, the tables -/
theorem law_holds_at {w : World} {mb : Str → Option Value} {s₁ : Shared} {a fl : Addr} {vs : List Value} {ns : List Int} (X : K.In s₁.heap) (c : Says s₁.heap K) (hns : s₁.heap.Ns mainGlobals mg) (hb : s₁.heap.Ns builtinsNs mb) (hbb : ∀ x : Str, x ≠ "__name__" → mb x = bootBuiltins x) (hlim : s₁.heap.NoLimit) (hg : s₁.gens = #[])
    (hbm : ∃ (bm : Addr) (ob : Obj), mg "__builtins__" = some (.ref bm) ∧ bm ≠ builtinsNs ∧ s₁.heap.get? bm = some ob ∧ ob.cls = .type "module" ∧ ob.dict = some builtinsNs ∧ ob.data = .plain)
    (ha : s₁.heap.get? a = some { cls := .type "list", data := .seq vs.toArray }) (hi : IntsAre vs ns) (hl : ns.length ≤ 63) (hmg : mg "law" = some (.ref fl)) :
    codeAny (model theLaw.prog w) callerA (.call (.ref fl) ⟨[.ref a], []⟩) (fun r s' => r = .ok (.ret (.bool true)) ∧ OldK s₁.heap s'.heap ∧ s'.os = s₁.os ∧ AllBare s'.gens) s₁ := by
  have hsl : sizeLine = 16777216 := sizeLine_eq
  have e := exF_of c.ex
  have B := blt_of X hns c
  obtain ⟨dW, FW⟩ := he_fn c 15 "_law_word" sWord rfl
  obtain ⟨dC, FC⟩ := he_fn c 14 "_law_caught" sCaught rfl
  obtain ⟨dL, FL⟩ := he_fn c 19 "law" sLaw rfl
  obtain rfl : He.ga K "law" = fl := by
    have := (he_glo X hns c 19 "law" rfl).symm.trans hmg
    cases this
    rfl
  obtain ⟨cs, hcs⟩ : ∃ cs : List (Addr × Addr), cs = tf.map (He.cT K) := ⟨_, rfl⟩
  have mem : ∀ p ∈ cs, ∃ q ∈ tf, He.cT K q = p := fun p hp => by
    rw [hcs] at hp
    exact List.mem_map.mp hp
  refine end_law (mb := mb) (cs := cs) X hns hb hbb hlim hg (fun p hp => ?_) (fun p hp => ?_) (fun p hp => ?_) hbm ha hi (by omega) fun base H kB gB tb e0 hH hS => ?_
  · obtain ⟨q, hq, rfl⟩ := mem p hp
    exact c.empty q hq
  · obtain ⟨q, hq, rfl⟩ := mem p hp
    exact c.out q hq
  · obtain ⟨q, hq, rfl⟩ := mem p hp
    exact PySem.W.codeHd_of_K X (c.hd q hq)
  · have mL : He.cT K ("law", none) ∈ cs := by rw [hcs]; exact List.mem_map_of_mem (List.mem_cons_self ..)
    have mW : He.cT K ("_law_word", none) ∈ cs := by rw [hcs]; exact List.mem_map_of_mem (List.mem_cons_of_mem _ (List.mem_singleton.mpr rfl))
    obtain ⟨G⟩ := fns_of (w := w) (base := base) X hns c
    have bW : L2.Binds K dW ["action"] [] := FW.bindsN fun _ _ _ _ _ _ us hl => match us, hl with | [_], _ => rfl
    have bC : L2.Binds K dC ["action"] [] := FC.bindsN fun _ _ _ _ _ _ us hl => match us, hl with | [_], _ => rfl
    have bL := FunD.bindsA (ps := ["script"]) FL fun _ _ _ _ _ _ us hl => match us, hl with | [_], _ => rfl
    have kW := FW.kp
    have kC := FC.kp
    obtain ⟨ocW, odW, dVW, kVW, docW, pmW, anW, cdvW, ctW, oslW, rfl, lkW, hcdW, _, _⟩ := FW.ex
    obtain ⟨ocC, odC, dVC, kVC, docC, pmC, anC, cdvC, ctC, oslC, rfl, lkC, hcdC, _, _⟩ := FC.ex
    obtain ⟨ocL, odL, dVL, kVL, docL, pmL, anL, cdvL, ctL, oslL, rfl, lkL, hcdL, _, _⟩ := FL.ex
    obtain ⟨cW, rfl⟩ := He.codeIn_ref hcdW
    obtain ⟨cL, rfl⟩ := He.codeIn_ref hcdL
    have ecW : He.codeOf K ("_law_word", none) = cW := He.codeOf_eq lkW rfl
    have ecL : He.codeOf K ("law", none) = cL := He.codeOf_eq lkL rfl
    have tW : TabB base mg cW (He.cT K ("_law_word", none)).2 := by
      have := tb _ mW
      rw [show (He.cT K ("_law_word", none)).1 = cW from ecW] at this
      exact this
    have tL : TabB base mg cL (He.cT K ("law", none)).2 := by
      have := tb _ mL
      rw [show (He.cT K ("law", none)).1 = cL from ecL] at this
      exact this
    have WX : WT K mg base (He.ga K "_law_word") (He.ga K "_law_caught") cW (He.cT K ("_law_word", none)).2 (ntC K) (He.ga K "EntryError") (He.ga K "Used") (He.ga K "TooMany") :=
      ⟨he_glo X hns c 15 _ rfl, he_glo X hns c 14 _ rfl, kW, kC, he_glo X hns c 20 _ rfl, he_glo X hns c 21 _ rfl, he_glo X hns c 22 _ rfl, he_glo X hns c 23 _ rfl, he_free X hns c 24 _ rfl, ⟨ocW, odW, anW, dVW, kVW, docW, pmW, ctW, oslW, lkW, hcdW, bW⟩, ⟨ocC, odC, anC, dVC, kVC, docC, pmC, cdvC, ctC, oslC, lkC, hcdC, bC⟩,
        ⟨e.hdC, e.ga, e.gg, e.exC, e.ca, e.cn, e.ct, e.cm⟩, e.no, e.ex, e.iU, e.iM, e.iN, tW⟩
    refine run_law G WX B tL e.ne lkL hcdL ⟨rfl, by decide, by decide⟩ rfl e0 (bL s₁ [.ref a] rfl) (fun p hp => ?_) hS (by omega)
    rcases List.mem_cons.mp hp with rfl | hp
    · exact TabS.nil (hH _ mL)
    · rw [List.mem_singleton.mp hp]
      exact TabS.nil (hH _ mW)
end
end K88
set_option maxHeartbeats 4000000
open PySem PySem.W PySem.Calls PyProof.Rows
theorem PySem.Challenge.cw_entrybook_k88_values_written_holds : PySem.Challenge.rw_entrybook_k88_values_written.Holds := by
  w_on; o_law
  refine HandSHeadRun.head_any (r := OpenLaw.row PySem.Challenge.rw_entrybook_k88_values_written) (q := view (OpenLaw.row PySem.Challenge.rw_entrybook_k88_values_written).prog [43]) (H := K88.hk) (ob := K88.ob) (M := 20000) (loose := K88.others ++ K88.others2) (d := HandSHeadRun.topDef (OpenLaw.row PySem.Challenge.rw_entrybook_k88_values_written).prog 43) (kwd := []) K88.ob_eq
    (by kernel_rfl) (fun s => by kernel_rfl) K88.run (by kernel_rfl) (by kernel_rfl) (by kernel_rfl) (by rfl) (by first | assumption | decide +kernel) (by decide +kernel) ⟨rfl, rfl, rfl, rfl, rfl, by decide +kernel⟩ ?hw ?hc
  case hw => w_witness2
  case hc =>
    refine Att.attach_callB (l := PySem.Challenge.rw_entrybook_k88_values_written) (n := 63) rfl (by kernel_rfl) fun w s₀ s₁ mg mb fa o pm cd doc a vs ns G Y ho hd hcd hmg hobj hints hlen hbits hg => ?_
    obtain ⟨K, KX, c⟩ := Y
    have hmg2 : mg ("law" : PySem.Str) = some (.ref fa) := by
      have e : (HandSHeadRun.topDef (OpenLaw.row PySem.Challenge.rw_entrybook_k88_values_written).prog 43).name = ("law" : PySem.Str) := by kernel_rfl
      rw [← e]
      exact hmg
    exact K88.law_holds_at (w := w) KX c G.T.g G.T.b G.T.builtins G.T.nolimit hg G.T.bmain hobj hints hlen hmg2
