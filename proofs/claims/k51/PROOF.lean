import PyProof.Rows.All
import Wide.All
import OpenK.AllK
import Wide.FinOn
import PyProof.EqAt
import PyProof.EqKinds
import PyProof.TupleCall
import KE.KExcSuper
import KE.KExcInit
import KE.KNest
import KE.KNestM
import HandS.ForMost
import HandS.ForExc
import HandS.ExcInit
import HandS.ExcField
import HandS.ExcIs
import HandS.ExcValue
import HandS.RaiseMore
import HandS.Small
import HandS.IsInst
import HandS.Lambda
import HandS.Defaults
import HandS.HeadWalk
import KE.GoesEnum
import KE.KExcIs
import HandS.Iter
import HandS.Walk
import HandS.Style
import HandS.Strs
import HandS.TupAny
import HandS.NoneIn
import HandS.EndTab
import HandS.HeadHook4
import HandS.Evl
import PySem.Challenge.RW_judgedunrun_k51_whole_talks_and_their_pi
import HandS.Head0
import HandS.Head1
import HandS.Head2
import KE.KStateDown
set_option Elab.async false
set_option linter.all false
set_option maxRecDepth 100000
set_option maxHeartbeats 4000000
/-! own exceptions whose __init__ calls super().__init__ with a text and stores one field -/
namespace JX
open PySem PySem.W PySem.Calls PyProof.Rows PySem.HandSPX
/-- the body: super().__init__(msg); self.fld = fld -/
def supBody (msg fld : Str) (q1 q2 q3 q4 q5 q6 q7 q8 q9 q10 : Pos) : List Stmt :=
  [.Expr (.Call (.Attribute (.Call (.Name "super" q1) [] [] q2) "__init__" q3) [.Constant (.str msg) 0 q4] [] q5) q6,
   .Assign [.Attribute (.Name "self" q7) fld q8] (.Name fld q9) q10]
def supArgs (fld : Str) (p1 p2 : Pos) : Arguments :=
  { posonlyargs := [], args := [{ arg := "self", annotation := none, pos := p1 }, { arg := fld, annotation := none, pos := p2 }], vararg := none, kwonlyargs := [], kw_defaults := [], kwarg := none, defaults := [] }
/-- what is asked of the names of that body -/
structure SupScope (fld : Str) (sc : Scope) : Prop where
  kind : sc.kind = .function
  co : sc.isCoroutine = false
  gen : sc.isGenerator = false
  nocell : ∀ x ∈ sc.names, x.2 ≠ .cell
  sup : sc.names.lookup ("super" : Str) = some .globalImplicit
  cls : sc.names.lookup ("__class__" : Str) = some .free
  slf : sc.names.lookup ("self" : Str) = some .local
  fl : sc.names.lookup fld = some .local
  ne : (fld == ("self" : Str)) = false
  nd : (fld == ("__debug__" : Str)) = false
/-- the written part about a class at C with such an __init__ at fI -/
structure SupTxt (prog : Program) (K : Frag) (mg : Str → Option Value) (C fI : Addr) (cname msg fld : Str) : Prop where
  gC : mg cname = some (.ref C)
  cls : ∃ nm q N bs bm sn sub ab col dd k0 k1 k2 k3 k5, K.lookup C = some (excClassObj nm q C N bs bm true sn sub ab col dd k0 k1 k2 k3 k5 "ValueError.__new__") ∧ refsVE bm = true
  sa : findIn K (.ref C) "__setattr__" = some (some (.builtin "object.__setattr__"))
  noN : findIn K (.ref C) fld = some none
  iC : findIn K (.ref C) "__init__" = some (some (.ref fI))
  tI : typeIn K (.ref fI) = some (.type "function")
  kC : keepIn K (.ref C) = true
  exC : subIn K (.ref C) (.type "BaseException") = some true
  tyC : typeIn K (.ref C) = some (.type "type")
  su : ks_superIn K C C "__init__" = some (some (.builtin "ValueError.__init__"))
  op : nsIn K cStatics "thirdparty.any" = some none
  ve : subIn K (.ref C) (.type "ValueError") = some true
  me : mroIn K C (.ref C) = some true
  ns : mg "super" = none
  top : (prog.main.scope.names.lookup ("super" : Str)).isSome = false
  fn : ∃ (oc : Value) (od : Option Addr) (qual : Str) (scope : Scope) (doc pm ct : Value) (an : Option Addr) (osl : Array (Option Value)) (p1 p2 q1 q2 q3 q4 q5 q6 q7 q8 q9 q10 : Pos)
      (cda cc : Addr) (ccl cl : Value) (cdd cld : Option Addr) (vs : Array Value) (ccs csl : Array (Option Value)) (file : Str) (tf : Tok),
    K.lookup fI = some ⟨oc, od, .func (ksFn "__init__" qual (supArgs fld p1 p2) (supBody msg fld q1 q2 q3 q4 q5 q6 q7 q8 q9 q10) scope .none .none doc pm an (.ref cda) ct cc), osl⟩ ∧
      SupScope fld scope ∧ codeIn K (.ref cda) qual = true ∧ K.lookup cda = some ⟨ccl, cdd, .fields vs, ccs⟩ ∧ vs[2]? = some (.str file tf) ∧ ((prog.main.file : Str) == file) = true ∧
      K.lookup cc = some ⟨cl, cld, .cell (some (.ref C)), csl⟩ ∧
      (∀ (x : Addr) (v : Value), bindArgs (ksFn "__init__" qual (supArgs fld p1 p2) (supBody msg fld q1 q2 q3 q4 q5 q6 q7 q8 q9 q10) scope .none .none doc pm an (.ref cda) ct cc) ⟨[.ref x, v], []⟩ = pure [(("self" : Str), .ref x), (fld, v)]) ∧
      ∀ env : Env, eval (.Call (.Attribute (.Call (.Name "super" q1) [] [] q2) "__init__" q3) [.Constant (.str msg) 0 q4] [] q5) env = (do
        let ov ← attributeBase (.Call (.Name "super" q1) [] [] q2) "__init__" env (eval (.Call (.Name "super" q1) [] [] q2) env)
        standAt q3.atName
        let (f, first) ← holding [ov] (getMethod ov "__init__" (L2.plainOf (.Call (.Name "super" q1) [] [] q2) env))
        callWith q5 f first (backTo q5 (starEach [.Constant (.str msg) 0 q4] env)) [])
theorem one_len (v : Value) : [v].length ≤ sizeLine := by rw [sizeLine_eq]; exact (by decide : 1 ≤ 16777216)
/-- what __init__ leaves -/
structure SupEnd (h h' : Heap) (x C dx t1 : Addr) (fld : Str) (v : Value) : Prop where
  keep : ∀ b o, b ≠ x → h.get? b = some o → h'.get? b = some o
  obj : h'.get? x = some (excObj C t1 (some dx) .none)
  dbig : h.objs.size ≤ dx
  dne : dx ≠ x
  ns : h'.Ns1 dx (fun y => if y = fld then some v else none)
section
variable {prog : Program} {w : World} {A : Around} {E : Value → Shared → Prop} {R : Result → Shared → Prop} {s : Shared} {K : Frag} {mg mb : Str → Option Value} {C fI : Addr} {cname msg fld : Str}
/-- the bound built-in __init__ is called -/
theorem mw_call {h : Heap} {g : Array GenState} {d : Drawn} {t : Nat} {os : OsState} {u x t0 : Addr} {rest : List Value} {nm q : Str} {N : Addr} {bs bm : List Value} {hdct : Bool} {sn : List Str} {sub : List Value} {ab : Bool} {col : Option Bool} {dd : Option Addr} {k0 k1 k2 k3 k5 : Option Value} {Q : Value → Shared → Prop}
    (hC : h.get? C = some (excClassObj nm q C N bs bm hdct sn sub ab col dd k0 k1 k2 k3 k5 "ValueError.__new__")) (hx : h.get? x = some (excObj C t0 none .none)) (hu : h.get? u = some (kxs_mw "ValueError.__init__" x)) (hz : rest.length ≤ sizeLine)
    (fin : ∀ h', (∀ b o, b ≠ x → h.get? b = some o → h'.get? b = some o) → h'.get? x = some (excObj C h.objs.size none .none) → Q .none ⟨h', g, d, t, os⟩) :
    wpAny (model prog w) A (call (.ref u) rest) Q E ⟨h, g, d, t, os⟩ := by
  refine wpAny_call (codeAny_of_tree ?_)
  show wpAny _ A.in1 (callAny (.ref u) ⟨rest, []⟩) _ _ _
  simp only [callAny]
  refine wpAny_bind (wpAny_load hu ?_)
  simp only [kxs_mw, show (Value.type "method-wrapper" == Value.type "method" || Value.type "method-wrapper" == Value.type "builtin_function_or_method" || Value.type "method-wrapper" == Value.type "method-wrapper") = true by decide, if_true]
  refine KFB.if_so (by decide) ?_
  have FB := PySem.F.excBase_ValueError
  refine wpAny_bind (check_bound_init FB.toExcCallFacts hC hx rfl ?_)
  refine wpAny_bind (wpAny_pure (wpAny_pure ⟨plainId_quiet FB.init.plain _, codeAny_builtin FB.initEntry ?_⟩))
  exact exc_init_tree (cls := .ref C) (t0 := t0) (dv := none) (c2 := .none) (c3 := .none) (b4 := .bool false) hx hz fun h' k e' _ => fin h' k e'
theorem sup_init (T : SupTxt prog K mg C fI cname msg fld) {x t0 : Addr} {v : Value} (X : K.In s.heap) (hG : s.heap.Ns mainGlobals mg) (hB : s.heap.Ns builtinsNs mb) (hbb : ∀ y : Str, y ≠ "__name__" → mb y = bootBuiltins y)
    (hlim : s.heap.NoLimit) (hx : s.heap.get? x = some (excObj C t0 none .none)) (hnx : K.lookup x = none) (hroom : A.depth < recursionLimit)
    (hq : ∀ h' tk dx t1, SupEnd s.heap h' x C dx t1 fld v → R (.ok (.ret .none)) { s with heap := h', toks := tk }) :
    codeAny (model prog w) A (.call (.ref fI) ⟨[.ref x, v], []⟩) R s := by
  obtain ⟨oc, od, qual, scope, doc, pm, ct, an, osl, p1, p2, q1, q2, q3, q4, q5, q6, q7, q8, q9, q10, cda, cc, ccl, cl, cdd, cld, vs, ccs, csl, file, tf, ho, S, hcd, hcda, hvs, hfile, hcc, hbd, hml⟩ := T.fn
  obtain ⟨nm, q, N, bs, bm, sn, sub, ab, col, dd, k0, k1, k2, k3, k5, hC, hbm⟩ := T.cls
  have hcl : clsIn K C = some { name := nm, bases := bs, mro := .ref C :: bm, ns := N, qualname := q, hasDict := true, slotNames := sn, subclasses := sub, abstract := ab, collection := col, hasDel := false } := by unfold clsIn; rw [hC] <;> rfl
  have hsne : ("self" == fld) = false := by
    have e := S.ne
    cases z : ("self" == fld) with
    | false => rfl
    | true =>
      rw [eq_of_beq z] at e
      simp at e
  refine ks_codeAny_call_defAt (fd := ksFn "__init__" qual (supArgs fld p1 p2) (supBody msg fld q1 q2 q3 q4 q5 q6 q7 q8 q9 q10) scope .none .none doc pm an (.ref cda) ct cc) (body := supBody msg fld q1 q2 q3 q4 q5 q6 q7 q8 q9 q10) (binds := [("self", .ref x), (fld, v)])
    hroom (X _ _ ho) rfl hlim (codeRec_of X hcd) rfl (BindsTo.of_eq ?hb) S.nocell (fun y hy => ?hl) (fun h₁ hns kp => ?_) S.co S.gen S.kind
  case hb => exact hbd _ _
  case hl =>
    rcases List.mem_cons.mp hy with e | hy
    · rw [e]; exact S.slf
    · rw [List.mem_singleton.mp hy]; exact S.fl
  have X₁ : K.In h₁ := X.keeps kp
  have hx₁ := kp _ _ hx
  have hxC : x ≠ C := fun z => by
    have e := X _ _ hC
    rw [← z, hx] at e
    cases e
  have hxL : s.heap.objs.size ≠ x := Nat.ne_of_gt (Heap.lt_size hx)
  have hi : interactive (ksEnv qual scope s.heap.objs.size fI (.ref cda) cc) = false := by simp [interactive, ksEnv, envX, S.kind]
  show _root_.PySem.wpAt (model prog w) (A.deeper (ksEnv qual scope s.heap.objs.size fI (.ref cda) cc)) (.func (supBody msg fld q1 q2 q3 q4 q5 q6 q7 q8 q9 q10) (ksEnv qual scope s.heap.objs.size fI (.ref cda) cc)) (execs (supBody msg fld q1 q2 q3 q4 q5 q6 q7 q8 q9 q10) (ksEnv qual scope s.heap.objs.size fI (.ref cda) cc)) _ _ _
  refine ks_wpAt_execs_cons (ks_wpAt_Expr_any ?_ hi rfl)
  refine ks_wpAt_MethodCall ?_ (hml _)
  refine ks_wpAt_super_base (env := ksEnv qual scope s.heap.objs.size fI (.ref cda) cc) (ar := { arg := "self", annotation := none, pos := p1 }) S.sup S.cls (by decide) rfl (X₁ _ _ ho) rfl rfl rfl (X₁ _ _ hcda) rfl hvs hfile T.top ?_
  refine ks_loadName_global S.kind S.sup (loadGlobal_builtin (hG.keeps kp) T.ns (hB.keeps kp) ((hbb _ (by decide +kernel)).trans (by first | rfl | kernel_rfl)) ⟨rfl, ?_⟩)
  refine wpAny_loadName_free S.kind S.cls rfl ⟨_, X₁ _ _ hcc, rfl⟩ ?_
  have ls0 : List.lookup ("self" : Str) [(("self" : Str), Value.ref x), (fld, v)].reverse = some (Value.ref x) := by
    show List.lookup ("self" : Str) [(fld, v), (("self" : Str), Value.ref x)] = some (Value.ref x)
    simp [List.lookup, hsne]
  refine wpAny_loadName_local (v := .ref x) S.kind S.slf hns ls0 ?_
  refine ks_wpAny_isType_cls (X₁ _ _ hC) rfl ⟨rfl, ?_⟩
  refine ks_wpAny_call_super (X₁ _ _ hC) rfl hx₁ rfl (fun c z => nomatch z) (looks_mroIn X₁ T.me) (fun h₂ e₂ k₂ => ?_)
  have X₂ : K.In h₂ := X₁.keeps k₂
  have hx₂ := k₂ _ _ hx₁
  have hcm : Looks (model prog w) h₂ (mroOf (.ref C)) (.ref C :: bm) := (looks_clsIn X₂ hcl).andThen .now
  have hsu : alongIn K "__init__" (((Value.ref C :: bm).dropWhile (· != .ref C)).drop 1) = some (some (.builtin "ValueError.__init__")) := by
    have e := T.su
    unfold ks_superIn at e
    rw [hcl] at e
    exact e
  have hI : Looks (model prog w) h₂ (isInstance (.ref x) (.type "ValueError")) true := (InstAt.type (od := none) ⟨hx₂, rfl, rfl, trivial⟩).andThen (looks_subIn X₂ T.ve)
  show wpAny _ _ (getMethod (.ref _) "__init__" _) _ _ _
  refine kxs_getMethod kxs_ValueError e₂ (looks_opaque X₂ T.op) hcm rfl X₂ hsu hI hxC (by decide) ?_
  have hq2 : (h₂.push (kxs_mw "ValueError.__init__" x)).get? h₂.objs.size = some (kxs_mw "ValueError.__init__" x) := Heap.get?_push_at rfl rfl
  have k₃ : ∀ b o, h₂.get? b = some o → (h₂.push (kxs_mw "ValueError.__init__" x)).get? b = some o := fun b o e => Heap.get?_push_of_some _ e
  show wpAny _ _ (callWith q5 (.ref _) [] (backTo q5 (starEach [.Constant (.str msg) 0 q4] _)) []) _ _ _
  refine kxs_callWith (i := "ValueError.__init__") (x := x) rfl (evalArgs_plain ?_)
  show wpAny _ _ (spliced ((false, eval (.Constant (.str msg) 0 q4) _) :: backTo q5 (starEach [] _))) _ _ _
  refine Calls.spliced_cons (Calls.Constant_str (Calls.spliced_nil ⟨hq2, ?_⟩))
  have hx₃ := k₃ _ _ hx₂
  have X₃ : K.In (h₂.push (kxs_mw "ValueError.__init__" x)) := X₂.keeps k₃
  refine mw_call (X₃ _ _ hC) hx₃ hq2 (one_len _) fun h₄ k₄ e₄ => ?_
  have k04 : ∀ b o, b ≠ x → h₁.get? b = some o → h₄.get? b = some o := fun b o hb e => k₄ b o hb (k₃ _ _ (k₂ _ _ e))
  have X₄ : K.In h₄ := fun b o e => k₄ b o (fun z => by rw [z, hnx] at e; cases e) (X₃ b o e)
  show _root_.PySem.wpAt _ _ _ (execs _ _) _ _ _
  refine wpAt_of_wpAny (wpAny_execs_cons (plainObj_wpAny_Assign_Attribute ?_ rfl))
  have nsx : s.heap.objs.size ≠ x := hxL
  have hns4 : h₄.Ns s.heap.objs.size fun y => List.lookup y [(("self" : Str), Value.ref x), (fld, v)].reverse := by
    obtain ⟨o, es, ep, e, r⟩ := hns
    exact ⟨o, es, ep, k04 _ _ nsx e, r⟩
  have lf : List.lookup fld [(("self" : Str), Value.ref x), (fld, v)].reverse = some v := by
    show List.lookup fld [(fld, v), (("self" : Str), Value.ref x)] = some v
    simp [List.lookup]
  have ls : List.lookup ("self" : Str) [(("self" : Str), Value.ref x), (fld, v)].reverse = some (Value.ref x) := by
    show List.lookup ("self" : Str) [(fld, v), (("self" : Str), Value.ref x)] = some (Value.ref x)
    simp [List.lookup, hsne]
  refine wpAny_Name (wpAny_loadName_local S.kind S.fl hns4 lf ?_) S.nd
  refine wpAny_Name (wpAny_loadName_local S.kind S.slf hns4 ls ?_) (by decide)
  refine set_plain X₄ (ox := excObj C (h₂.push (kxs_mw "ValueError.__init__" x)).objs.size none .none) (od := none) ⟨e₄, rfl, rfl, trivial⟩ T.sa ?_
  refine exc_osa X₄ e₄ hcl (show refsVE (.ref C :: bm) = true from hbm) rfl T.noN (fun h₅ tk₅ dx k₅ dn dne hx₅ hn₅ => ?_)
  refine wpAny_execs_nil (hq h₅ tk₅ dx _ ⟨fun b o hb e => k₅ b o hb (k04 b o hb (kp b o e)), hx₅, ?_, dne, hn₅⟩)
  exact Nat.le_of_lt (Nat.lt_of_lt_of_le hns4.lt dn)
/-- X(v) made -/
structure SupMade (h h' : Heap) (e C d : Addr) (fld : Str) (v : Value) : Prop where
  keep : ∀ b o, h.get? b = some o → h'.get? b = some o
  new : h.objs.size ≤ e
  obj : ∃ oe vs, h'.get? e = some oe ∧ oe.cls = .ref C ∧ oe.dict = some d ∧ oe.data = .fields vs ∧ vs[1]? = some .none
  dbig : h.objs.size ≤ d
  dne : d ≠ e
  ns : h'.Ns1 d (fun y => if y = fld then some v else none)
theorem sup_made (T : SupTxt prog K mg C fI cname msg fld) {v : Value} (X : K.In s.heap) (hG : s.heap.Ns mainGlobals mg) (hB : s.heap.Ns builtinsNs mb) (hbb : ∀ y : Str, y ≠ "__name__" → mb y = bootBuiltins y)
    (hlim : s.heap.NoLimit) (hroom : A.depth + 1 < recursionLimit)
    (hq : ∀ h' tk e d, SupMade s.heap h' e C d fld v → R (.ok (.ret (.ref e))) { s with heap := h', toks := tk }) :
    codeAny (model prog w) A (.call (.ref C) ⟨[v], []⟩) R s := by
  obtain ⟨nm, q, N, bs, bm, sn, sub, ab, col, dd, k0, k1, k2, k3, k5, hC, hbm⟩ := T.cls
  obtain ⟨hp, g, dr, tk, os⟩ := s
  have kk : ∀ b o, hp.get? b = some o → ((hp.push (kdv_tup [v])).push (excO C hp.objs.size)).get? b = some o := fun b o e => Heap.get?_push_of_some _ (Heap.get?_push_of_some _ e)
  have hget : ((hp.push (kdv_tup [v])).push (excO C hp.objs.size)).get? (hp.objs.size + 1) = some (excO C hp.objs.size) := by heap_get
  have hnx : K.lookup (hp.objs.size + 1) = none := by
    cases e : K.lookup (hp.objs.size + 1) with
    | none => rfl
    | some o => exact absurd (Nat.lt_of_succ_lt (Heap.lt_size (show hp.get? (hp.objs.size + 1) = some o from X _ _ e))) (Nat.lt_irrefl _)
  refine call_own F.excBase_ValueError (fun Y => refsVE_contains Y bm hbm) (X _ _ hC) (looks_findIn X T.iC) (fun self => bind_fn X self T.tI) (one_len v) ?_
  refine sup_init (s := ⟨(hp.push (kdv_tup [v])).push (excO C hp.objs.size), g, dr, tk, os⟩) T (X.keeps kk) (hG.keeps kk) (hB.keeps kk) hbb (hlim.keeps kk) hget hnx ?_ fun h' tk' dx t1 Z => ?_
  · show A.depth + 1 < recursionLimit
    exact hroom
  · have z : hp.objs.size + 1 + 1 ≤ dx := by
      have q := Z.dbig
      first
        | exact q
        | (rw [Heap.size_push, Heap.size_push] at q; exact q)
    exact ⟨rfl, hq h' tk' (hp.objs.size + 1) dx ⟨fun b o e => Z.keep b o (Nat.ne_of_lt (Nat.lt_succ_of_lt (Heap.lt_size e))) (kk b o e), Nat.le_succ _, ⟨_, _, Z.obj, rfl, rfl, rfl, rfl⟩, Nat.le_trans (Nat.le_trans (Nat.le_succ _) (Nat.le_succ _)) z, Z.dne, Z.ns⟩⟩
end
end JX
namespace L2
open PySem PySem.Spec PyProof.Rows
theorem relO_one {v : V} {v' : Value} (r : RelV v v') (fld f : Str) : RelO (List.lookup f [(fld, v)]) (if f = fld then some v' else none) := by
  by_cases hw : f = fld
  · subst hw
    rw [if_pos rfl]
    have q : List.lookup f [(f, v)] = some v := by simp [List.lookup]
    rw [q]
    exact r
  · rw [if_neg hw]
    have qw : (f == fld) = false := by simpa using hw
    have q2 : List.lookup f [(fld, v)] = none := by simp [List.lookup, qw]
    rw [q2]
    trivial
section
variable {X : Cx} {C fI : Addr} {cname msg fld : Str}
/-- X(e) -/
def tMkSup (C : Addr) (fld : Str) (ta : TA) : St → Hp → XK → Prop := fun σ H Q => ta σ H fun vs H1 => ∃ v, vs = [v] ∧ ∀ d, H1 d = none → Q (.ref C) (some d) (upd H1 d (.xd [(fld, v)]))
theorem pmk_sup {a : Expr} {ta : TA} {p pos : Pos} {k : Nat} (T : JX.SupTxt X.prog X.K X.mg C fI cname msg fld) (hr : Room k X.A) (ha : PA X [a] ta) (hg : Gl X cname) (hdb : (cname == ("__debug__" : Str)) = false)
    (he : starEach (a :: []) X.env = (false, eval a X.env) :: starEach [] X.env := by rfl) (hpl : (backTo pos (starEach [] X.env)).any (·.1) = false := by rfl) :
    PMk X (.Call (.Name cname p) [a] [] pos) (tMkSup C fld ta) := by
  intro pins s σ H Q I h
  refine wpAny_Call_Name_kw (ld_glob I hg T.gC ?_ hdb)
  refine PySem.W.callWith_K (h₀ := X.base) I.ok.mod.kin T.kC (thn (ha.run pos pins s σ H _ I h) fun us s1 hh => ?_) he hpl
  obtain ⟨vs, H1, I1, r1, v, ev, q1⟩ := hh
  subst ev
  refine ⟨I1.kIn, ?_⟩
  obtain ⟨v', rfl, rv⟩ := vals1 r1
  show wpAny _ _ (call (.ref C) [v']) _ _ _
  have hlim := I1.nolimit
  obtain ⟨mb, hB, hbb⟩ := I1.mod.blt
  have hGs := I1.mod.glob.keeps I1.bk
  have hBs := hB.keeps I1.bk
  obtain ⟨hp, g, dr, tk, os⟩ := s1
  refine wpAny_call (JX.sup_made T I1.kIn hGs hBs hbb hlim (by have := hr.dp; omega) fun h' tk' e d M => ?_)
  show MkP X pins σ Q (.ref e) ⟨h', g, dr, tk', os⟩
  obtain ⟨oe, fv, hoe, hc, hd, hdat, h1⟩ := M.obj
  have hns := M.ns
  obtain ⟨G', g1, g2⟩ := restrict h' fun b => decide (b ≠ e)
  have gk : ∀ b, b ≠ e → G'.get? b = h'.get? b := fun b hb => g1 b (decide_eq_true hb)
  have ge : G'.get? e = none := g2 e (by simp)
  have old : ∀ b o, hp.get? b = some o → G'.get? b = some o := fun b o q => (gk b (Nat.ne_of_lt (Nat.lt_of_lt_of_le (Heap.lt_size q) M.new))).trans (M.keep b o q)
  have ob : ObjOk X.prog X.w (upd H1 d (.xd [(fld, v)])) G' d (.xd [(fld, v)]) :=
    ⟨_, hns.at (fun o q => (gk d M.dne).trans q), fun f => relO_one rv fld f⟩
  have J : Inv X pins σ (upd H1 d (.xd [(fld, v)])) ⟨G', g, dr, tk', os⟩ := I1.laid (t' := tk') old M.dbig ob
  refine ⟨e, oe, fv, ⟨G', g, dr, tk', os⟩, _, .ref C, some d, rfl, J, fun b o q => ?_, ge, hoe, ⟨hc, hd⟩, hdat, h1, ?_, rfl, I1.bare, raises_own T.exC T.tyC, q1 d (I1.hok.fresh M.dbig)⟩
  · by_cases hb : b = e
    · have q' : G'.get? b = some o := q
      rw [hb, ge] at q'; cases q'
    · exact (gk b hb).symm.trans q
  · rw [upd_ne (Ne.symm M.dne)]
    exact I1.hok.fresh M.new
/-- raise X(e) -/
def tRaiseSup (C : Addr) (fld : Str) (W : WX) (ta : TA) : TS := fun _ σ H => tMkSup C fld ta σ H fun cls d H' => W cls d σ H'
theorem ps_raiseSup {a : Expr} {ta : TA} {W : WX} {p pos pos2 : Pos} {k : Nat} (hc : X.calm = true) (T : JX.SupTxt X.prog X.K X.mg C fI cname msg fld) (hr : Room k X.A) (tk : Takes X W) (ha : PA X [a] ta) (hg : Gl X cname) (hdb : (cname == ("__debug__" : Str)) = false := by decide)
    (he : starEach (a :: []) X.env = (false, eval a X.env) :: starEach [] X.env := by rfl) (hpl : (backTo pos (starEach [] X.env)).any (·.1) = false := by rfl) :
    PS X (.Raise (some (.Call (.Name cname p) [a] [] pos)) none pos2) (tRaiseSup C fld W ta) := ps_raise hc tk (pmk_sup T hr ha hg hdb he hpl)
end
end L2
set_option Elab.async false
set_option linter.all false
set_option maxRecDepth 100000
set_option maxHeartbeats 4000000
/-! a caught exception that is kept as a value; isinstance and fields of it; repr of data; enumerate of a tuple; a call with guards known -/
namespace L2
open PySem PySem.Spec PyProof.Rows
/-- at a: an exception of the class cls with its own dict d, caught and kept -/
def ExK (a : Addr) (cls : Value) (d : Option Addr) : HO := .ext fun h => ∃ (oe : Obj) (vs : Array Value), h.get? a = some oe ∧ Zc cls d oe ∧ oe.data = .fields vs
theorem exK_ok {P : Program} {w : World} {H : Hp} {h : Heap} {a : Addr} {cls : Value} {d : Option Addr} {oe : Obj} {vs : Array Value} (e : h.get? a = some oe) (z : Zc cls d oe) (hd : oe.data = .fields vs) : ObjOk P w H h a (ExK a cls d) :=
  ⟨⟨oe, vs, e, z, hd⟩, ⟨oe, e⟩, fun _ _ ⟨o, v, q, r⟩ k => ⟨o, v, k o q, r⟩⟩
theorem exK_at {P : Program} {w : World} {H : Hp} {h : Heap} {a : Addr} {cls : Value} {d : Option Addr} (hok : HOk P w H h) (e : H a = some (ExK a cls d)) : ∃ (oe : Obj) (vs : Array Value), h.get? a = some oe ∧ Zc cls d oe ∧ oe.data = .fields vs := by
  have x : ObjOk P w H h a (ExK a cls d) := hok a _ e
  exact x.1
section
variable {X : Cx} {pins : List (Addr × Obj)} {σ : St} {H : Hp} {s : Shared}
/-- an object made since the entry, not tracked yet, is tracked from now on -/
theorem Inv.track {a : Addr} {oe : Obj} {vs : Array Value} {cls : Value} {d : Option Addr} (I : Inv X pins σ H s) (ha : s.heap.get? a = some oe) (hz : Zc cls d oe) (hd : oe.data = .fields vs) (na : H a = none) (n0 : X.s_0.heap.get? a = none)
    (np : ∀ p ∈ X.pn ++ pins, p.1 ≠ a) (nL : a ≠ X.env.locals) : Inv X pins σ (upd H a (ExK a cls d)) s := by
  have ne0 : ∀ b o, X.s_0.heap.get? b = some o → b ≠ a := fun b o e z => by rw [z, n0] at e; cases e
  have neH : ∀ b u, H b = some u → b ≠ a := fun b u e z => by rw [z, na] at e; cases e
  have neC : ∀ x c, X.env.cells.lookup x = some c → c ≠ a := fun x c e z => by
    obtain ⟨v, o, ho, q⟩ := I.cell x c e
    rw [z, ha] at ho
    cases ho
    rw [hd] at q
    cases q
  refine ⟨I.ok, I.os, I.bare, ⟨I.base.keep, I.base.slot, fun b o e n hx => ?_, I.base.there, fun b xs e => ?_, fun b o u e => ?_, fun b ps e => ?_⟩, I.loc, I.cell, ?_, fun x c e => ?_, fun p hp => ?_, fun b u e => ?_, I.len⟩
  · rw [upd_ne (ne0 b o e)]
    exact I.base.free b o e n hx
  · have q := I.base.tups b xs e
    rw [upd_ne (neH b _ q)]
    exact q
  · have q := I.base.frzs b o u e
    rw [upd_ne (neH b _ q)]
    exact q
  · obtain ⟨m, q⟩ := I.base.tbls b ps e
    exact ⟨m, by rw [upd_ne (neH b _ q)]; exact q⟩
  · rw [upd_ne (Ne.symm nL)]
    exact I.free
  · rw [upd_ne (neC x c e)]
    exact I.freeC x c e
  · obtain ⟨e, n, ne, nf, q⟩ := I.pin p hp
    exact ⟨e, by rw [upd_ne (np p hp)]; exact n, ne, nf, q⟩
  · by_cases hb : b = a
    · subst hb
      rw [upd_same] at e
      cases e
      exact exK_ok ha hz hd
    · rw [upd_ne hb] at e
      exact (I.hok b u e).stay (fun _ _ _ q => q) (fun c q => by rw [upd_ne (neH c _ q)]; exact q) fun c xs q => by rw [upd_ne (neH c _ q)]; exact q
end
/-- what 'except x as n: suite' wishes of an exception of the body, where the suite may keep it: only the suite's end counts -/
def wKp (K : PySem.W.Frag) (c : Value) (i : Nat) (ts : Addr → Value → Option Addr → TS) (D : Ends) : WX := fun cls d σ H =>
  PySem.W.exmOne K cls c = some true ∧ ∀ a, H a = none → ts a cls d { nx := fun σ' H' => D.nx (σ'.set i none) (upd H' a (ExK a cls d)), rt := fun _ _ => False } (σ.set i (some (.ref a))) H
section
variable {X : Cx} {x n : Str} {c : Value} {i : Nat} {body suite : List Stmt} {b₀ : Stmt} {np pos pos' : Pos} {tb : WX → TS} {ts : Addr → Value → Option Addr → TS}
theorem ps_try_keep (hs : X.stack = X.env :: X.outer) (hf : X.env.frame = some X.env.locals) (hex : X.ex = []) (hN : X.N.Nodup) (hi : X.N[i]? = some n) (hln : X.env.kindOf n = some .local) (hc : Names X x c)
    (hb : ∀ (W : WX) (pn : List (Addr × Obj)) (xe : Value → Shared → Prop), Takes (X.tr pn xe) W → PassesOwn (model X.prog X.w) X.A X.env xe → PSs (X.tr pn xe) body (tb W))
    (hsu : ∀ (a : Addr) (oe : Obj) (cls : Value) (d : Option Addr) (pn : List (Addr × Obj)), Zc cls d oe → (∃ vs, oe.data = .fields vs) → PSs (X.suite a ((a, oe) :: pn)) (b₀ :: suite) (ts a cls d)) :
    PS X (.Try body [.ExceptHandler (some (.Name x np)) (some n) (b₀ :: suite) pos'] [] [] pos) (fun D σ H => tb (wKp X.K c i ts D) D σ H) := by
  refine ⟨fun pins s σ H D I h => ?_⟩
  have ok := I.ok
  have hfr : X.A.frames = some (X.env :: X.outer) := by rw [ok.frames, hs]
  have hloc : Loc X.env.scope n := .inl hln
  refine wpAny_Try_except ?_
  refine wpAny_mono ((hb (wKp X.K c i ts D) (X.pn ++ pins) (fun e s₁ => wpAny (model X.prog X.w) X.A (noteFrame e X.env) (fun _ s₂ => wpAny (model X.prog X.w) X.A (setFlight e none) (fun _ s₃ =>
    wpAny (model X.prog X.w) X.A (handleBy e X.env [.ExceptHandler (some (.Name x np)) (some n) (b₀ :: suite) pos']) (SP X pins D) X.xe s₃) X.xe s₂) X.xe s₁) (fun u s' xx => ?_) PassesOwn.looking).run [] s σ H D (I.toTry _) h) (fun f s1 hsp => ?_) (fun e s1 he => he)
  · obtain ⟨a, B, sI, pins', σ', H', cls, d, rfl, J', nb, up, sky, na, os, ag, hb1, hyes⟩ := xx
    have J : Inv X pins σ' H' sI := J'.ofTry ok
    have sky' : Sky B (X.env :: X.outer) a (Zc cls d) X.env.locals s'.heap := by rw [← hs]; exact sky
    show wpAny (model X.prog X.w) X.A (noteFrame (.ref a) X.env) _ _ _
    refine Sky.land Zc.steady hfr hf sky' fun h3 fl3 up3 => ?_
    have J3 : Inv X pins σ' H' { s' with heap := h3 } := J.landed nb fl3.1 (up.trans up3) os ag
    obtain ⟨oe3, vs3, he3, hz3, hd3⟩ := fl3.there
    have nfr : a ∉ frs (X.env :: X.outer) := fun hm => by
      obtain ⟨_, o', e', hnf⟩ := fl3.2.2.1.mem hm
      rw [he3] at e'; cases e'
      exact hnf _ hd3
    have nL : a ≠ X.env.locals := fun z => nfr (List.mem_filterMap.mpr ⟨X.env, List.mem_cons_self, by rw [hf, z]⟩)
    have nF : a ∉ X.fs := fun hm => by
      obtain ⟨e, he, q⟩ := List.mem_filterMap.mp hm
      exact nfr (List.mem_filterMap.mpr ⟨e, List.mem_cons_of_mem _ he, q⟩)
    have nI : sI.heap.get? a = none := by
      cases e : sI.heap.get? a with
      | none => rfl
      | some o =>
        have q := nb a o e (by rw [hs]; exact nfr)
        rw [fl3.2.1] at q
        cases q
    have n0 : X.s_0.heap.get? a = none := by
      cases e : X.s_0.heap.get? a with
      | none => rfl
      | some o =>
        obtain ⟨o', q⟩ := J.base.there a o e (by rw [hex]; simp)
        rw [nI] at q
        cases q
    have npp : ∀ p ∈ X.pn ++ pins, p.1 ≠ a := fun p hp z => by
      have q := (J.pin p hp).1
      rw [z, nI] at q
      cases q
    have S3 := J3.suite he3 hd3 na nL nF
    refine wpAny_handleBy_cons (codeAny_handlers_test ?_) (by intro q; cases q)
    have LT : PySem.W.Looks (model X.prog X.w) h3 (typeOf (.ref a)) cls := fun A Q E s k q => wpAny_typeOf_ref (k _ _ he3) (by rw [hz3.1]; exact q)
    have LM := PySem.W.exm_one (M := model X.prog X.w) (J3.kIn) LT hb1
    have test : ∀ {Q : Value → Shared → Prop} {E : Value → Shared → Prop}, Q c { s' with heap := h3 } → wpAny (model X.prog X.w) (X.A.mark (some (.ref a))) (eval (.Name x np) X.env) Q E { s' with heap := h3 } := fun {Q E} q => by
      obtain ⟨hg, hdbg, hm | ⟨hm, hv, hnn⟩⟩ := hc
      · exact ld_glob (X := X.suite a ((a, oe3) :: (X.pn ++ pins))) S3 hg hm q hdbg
      · exact ld_blt (X := X.suite a ((a, oe3) :: (X.pn ++ pins))) S3 hg hm hv q hnn hdbg
    refine test (LM.here ?_)
    refine codeAny_handlers_suite_as ?_
    refine HandSPX.lands_againZ fl3 fun h4 fl4 up4 => ?_
    have J4 : Inv X pins σ' H' { s' with heap := h4 } := J.landed nb fl4.1 ((up.trans up3).trans up4) os ag
    obtain ⟨oe4, vs4, he4, hz4, hd4⟩ := fl4.there
    have S4 := J4.suite he4 hd4 na nL nF
    refine store_ok (X := X.suite a ((a, oe4) :: (X.pn ++ pins))) (v := .ref a) S4 hN hi hloc rfl (fun s5 S5 => ?_) (.inr hln)
    refine wpAny_mono ((hsu a oe4 cls d (X.pn ++ pins) hz4 ⟨_, hd4⟩).run [] s5 _ H' _ S5 (hyes a na)) (fun f s6 hsp => ?_) (fun _ _ z => False.elim z)
    cases f with
    | next =>
      obtain ⟨σ6, H6, S6, q6⟩ := hsp
      obtain ⟨p1, p2, _⟩ := S6.pin (a, oe4) (List.mem_append_left _ List.mem_cons_self)
      have T6 : Inv X pins σ6 (upd H6 a (ExK a cls d)) s6 := (S6.unsuite ok).track p1 hz4 hd4 p2 n0 npp nL
      exact gone_ok T6 hN hi hln fun s7 J7 => ⟨_, _, J7, q6⟩
    | brk =>
      obtain ⟨σ6, H6, S6, q6⟩ := hsp
      exact q6.elim
    | cont =>
      obtain ⟨σ6, H6, S6, q6⟩ := hsp
      exact q6.elim
    | ret u =>
      obtain ⟨v6, σ6, H6, S6, r6, q6⟩ := hsp
      exact q6.elim
  · cases f with
    | next =>
      obtain ⟨σ', H', J', q⟩ := hsp
      exact wpAny_execs_nil ⟨σ', H', J'.ofTry ok, q⟩
    | brk =>
      obtain ⟨σ', H', J', q⟩ := hsp
      exact ⟨σ', H', J'.ofTry ok, q⟩
    | cont =>
      obtain ⟨σ', H', J', q⟩ := hsp
      exact ⟨σ', H', J'.ofTry ok, q⟩
    | ret u =>
      obtain ⟨v, σ', H', J', r, q⟩ := hsp
      exact ⟨v, σ', H', J'.ofTry ok, r, q⟩
end
end L2
set_option Elab.async false
set_option linter.all false
set_option maxRecDepth 100000
set_option maxHeartbeats 4000000
/-! isinstance and fields of a kept exception; repr of data; enumerate of a tuple; tuple.index of an int; calls with guards known; what a def that catches makes of a lambda -/
namespace PySem
open PyProof.Rows
theorem meets_enum1 {v : Value} {o : Obj} {H : Heap → Prop} (B : Begins v o H) :
    Meets (Builtin.«enumerate.__new__» ⟨[.type "enumerate", v], []⟩) (fun _ R s => H s.heap ∧
      R (.ok (.ret (.ref (s.heap.push o).objs.size))) { s with heap := (s.heap.push o).push { cls := .type "enumerate", data := .fields #[.none, .bool false, .ref s.heap.objs.size, rawInt 0, .none, .none] } }) :=
  .of_wp fun prog w A R s h => by
    obtain ⟨hp, g, d, tk, os⟩ := s; obtain ⟨h1, h⟩ := h
    have hsub := sub_enumerate
    have q1 : ∀ {A' : Around} {E : Value → Shared → Prop} {Q : Value → Shared → Prop}, Q (.ref hp.objs.size) ⟨hp.push o, g, d, tk, os⟩ → wpAny (model prog w) A' (pyIter v) Q E ⟨hp, g, d, tk, os⟩ :=
      fun q => B.iter prog w _ _ ⟨hp, g, d, tk, os⟩ _ h1 q
    wp_walk using q1
    refine wpAny_stack_any fun st => wpAny_pure ?_
    split
    · rename_i c _ _ _ _ _
      cases (c == Value.type "enumerate")
      · wp_walk using q1
        exact ⟨_, rfl, h⟩
      · wp_walk using q1
        exact ⟨_, rfl, h⟩
    · wp_walk using q1
      exact ⟨_, rfl, h⟩
theorem call_enum1 {prog : Program} {w : World} {A : Around} {E : Value → Shared → Prop} {s : Shared} {v : Value} {o : Obj} {H : Heap → Prop} {Q : Value → Shared → Prop} (B : Begins v o H) (h1 : H s.heap)
    (h : ∀ h', IsEnum h' (s.heap.objs.size + 1) s.heap.objs.size 0 .none → h'.get? s.heap.objs.size = some o → h'.objs.size = s.heap.objs.size + 2 →
      (∀ b o, s.heap.get? b = some o → h'.get? b = some o) → Q (.ref (s.heap.objs.size + 1)) { s with heap := h' }) :
    wpAny (model prog w) A (call (.type "enumerate") [v]) Q E s := by
  refine callType_new F.called_enumerate (by decide) (F.typeCall_enumerate_1 _) (F.newCall_enumerate_1 _) (fun obj => F.args_object_init_2 obj _) F.entry_enumerate_new (meets_enum1 B) ⟨h1, ?_⟩
  have hz : (s.heap.push o).objs.size = s.heap.objs.size + 1 := Heap.size_push ..
  show _ ∧ _
  rw [hz]
  have he : IsEnum ((s.heap.push o).push { cls := .type "enumerate", data := .fields #[.none, .bool false, .ref s.heap.objs.size, rawInt 0, .none, .none] }) (s.heap.objs.size + 1) s.heap.objs.size 0 .none := by
    have q := Heap.get?_push_size (s.heap.push o) (o := { cls := .type "enumerate", data := .fields #[.none, .bool false, .ref s.heap.objs.size, rawInt 0, .none, .none] }) rfl
    rw [hz] at q
    exact q
  exact ⟨⟨_, he, rfl⟩, h _ he (Heap.get?_push_of_some _ (Heap.get?_push_size _ B.free)) (by rw [Heap.size_push, hz]) fun b o x => Heap.get?_push_of_some _ (Heap.get?_push_of_some _ x)⟩
end PySem
namespace L2
open PySem PySem.Spec PyProof.Rows
/-! ### enumerate(tuple) -/
def IteT (K : PySem.W.Frag) (a : Addr) : It :=
  ⟨fun i H => ∃ (xs : List V) (x : V), SqT K H a xs ∧ xs[i]? = some x, fun i H v H' => ∃ T x, v = .ref T ∧ H T = none ∧ H' = upd H T (.tup [.int (i : Nat), x]) ∧ ∀ xs, SqT K H a xs → xs[i]? = some x, fun i H => ∃ xs : List V, SqT K H a xs ∧ xs.length = i⟩
theorem turn_enumT {P : Program} {w : World} {K : PySem.W.Frag} {elts : List Expr} {kk : Nat} {tpos : Pos} (a e it : Addr) :
    Turn P w K (.Tuple elts kk tpos) (IteT K a) [e, it] e (fun i h => (∃ old, IsEnum h e it ((i : Nat) : Int) old) ∧ h.IsTupleIter it a i ∧ e ≠ it ∧ a ≠ it ∧ a ≠ e) where
  mem := by simp
  obj := fun i h st b hb => by
    obtain ⟨⟨old, he⟩, ⟨o, ho, hc, hd⟩, _⟩ := st
    have e' : b = e ∨ b = it := by simpa using hb
    rcases e' with z | z
    · rw [z]; exact ⟨_, he, fun v q => nomatch q⟩
    · rw [z]; exact ⟨o, ho, fun v q => by rw [hd] at q; cases q⟩
  keep := fun i h h' st k => let ⟨⟨old, he⟩, hi, hne⟩ := st; ⟨⟨old, k e (by simp) _ he⟩, hi.at fun o q => k it (by simp) o q, hne⟩
  item := by
    intro X hP hw hK hc i pins s σ H E I hf st hg
    subst hP hw hK
    obtain ⟨⟨old, he⟩, hit, hne, hai, hae⟩ := st
    obtain ⟨xs, x, hq, hx⟩ := hg
    obtain ⟨its, rv, p, hz⟩ := I.tuple hq
    have hil : i < its.toArray.size := by
      have h1 := (List.getElem?_eq_some_iff.mp hx).1
      have h2 := rv.length
      simp only [List.size_toArray]
      omega
    have D := Draws.tuple (prog := X.prog) (w := X.w) (A := X.A.in1) (I.ok.hd hc) it a hai its.toArray
    have hel : e < s.heap.objs.size := Heap.lt_size he
    have hitl : it < s.heap.objs.size := by obtain ⟨_, q, _⟩ := hit; exact Heap.lt_size q
    refine wpAny_pyNext_enum_itemD D he ⟨hit, p⟩ hil hne (by simp [hne, Ne.symm hae]) fun u h' tk hu ho hst' hT hsz hk => ?_
    obtain ⟨u', hu', ru⟩ := rv.get hx
    have eu : u = u' := by
      have q : its[i]? = some u := by simpa using hu
      rw [hu'] at q
      exact (Option.some.inj q).symm
    subst eu
    refine ⟨_, rfl, wpAny_letOwnedTupleGo_enum (s := { s with heap := h', toks := tk + 1 }) ho fun h'' he' sb => ?_⟩
    have hT2 : h''.get? s.heap.objs.size = some { cls := .type "tuple", data := .seq #[.int i tk, u] } := (sb.2 _ (Nat.ne_of_gt hel)).trans hT
    have new : ObjOk X.prog X.w (upd H s.heap.objs.size (.tup [.int (i : Nat), x])) h'' s.heap.objs.size (.tup [.int (i : Nat), x]) :=
      ⟨by show 2 ≤ sizeLine; decide, [.int i tk, u], .cons ⟨_, rfl⟩ (.cons ru .nil), ⟨_, hT2, rfl, _, rfl⟩⟩
    have I1 : Inv X pins σ (upd H s.heap.objs.size (.tup [.int (i : Nat), x])) { s with heap := h'', toks := tk + 1 } :=
      I.turnedNew (ch := [e, it]) (fun b ob hb q => (sb.2 b (fun z => hb (by simp [z]))).trans (hk b ob (fun z => hb (by simp [z])) (fun z => hb (by simp [z])) q)) hf (Nat.le_refl _) new
    refine ⟨.ref s.heap.objs.size, _, I1, rfl, ⟨_, x, rfl, I.hok.fresh (Nat.le_refl _), rfl, fun ys hy => by rw [I.tuple_inj hy hq]; exact hx⟩, ⟨⟨u, ?_⟩, hst'.1.at fun o q => (sb.2 it (Ne.symm hne)).trans q, hne, hai, hae⟩, fun b hb => ?_⟩
    · have e1 : ((i + 1 : Nat) : Int) = (i : Int) + 1 := by omega
      rw [e1]; exact he'
    · have hb' : b < s.heap.objs.size := by
        have e' : b = e ∨ b = it := by simpa using hb
        rcases e' with z | z
        · rw [z]; exact hel
        · rw [z]; exact hitl
      rw [upd_ne (Nat.ne_of_lt hb')]
      exact (hf b hb).1
  done := by
    intro X hP hw hK hc i pins s σ H E I hf st hg
    subst hP hw hK
    obtain ⟨⟨old, he⟩, hit, hne, hai, hae⟩ := st
    obtain ⟨xs, hq, hx⟩ := hg
    obtain ⟨its, rv, p, hz⟩ := I.tuple hq
    obtain ⟨f0, f1, f2, f3, f4, f5⟩ := hf it (by simp)
    have D := Draws.tuple (prog := X.prog) (w := X.w) (A := X.A.in1) (I.ok.hd hc) it a hai its.toArray
    have en : i = its.toArray.size := by
      have h2 := rv.length
      simp only [List.size_toArray]
      omega
    subst en
    exact wpAny_pyNext_enum_endD D he ⟨hit, p⟩ fun h' eb => ⟨rfl, I.turned (t' := s.toks) (fun b o hb q => eb b o hb q) f0 f1 f3 f4 f5⟩
  self := fun A i s Q E st h => let ⟨⟨_, he⟩, _⟩ := st; wpAny_pyIter_enum he h
def iEnumT (K : PySem.W.Frag) (ta : TA) : TI := fun σ H R => ta σ H fun vs H1 => ∃ a xs, vs = [.ref a] ∧ SqT K H1 a xs ∧ R (IteT K a) H1
theorem pi_enumT {X : Cx} {e : Expr} {ta : TA} {p pos tpos : Pos} {elts : List Expr} {kk : Nat} (hg : Gl X "enumerate") (hm : X.mg "enumerate" = none) (ha : PA X [e] ta) (hs : starEach [e] X.env = [(false, eval e X.env)] := by rfl) :
    PI X (.Tuple elts kk tpos) (.Call (.Name "enumerate" p) [e] [] pos) (iEnumT X.K ta) := by
  refine ⟨fun pins s σ H R I h => ?_⟩
  refine Call_ (ld_blt I hg hm boot_enumerate (PyProof.Rows.callWith_type1 (thn (ha.run pos pins s σ H _ I h) fun us s1 ⟨vs, H1, I1, r1, q1⟩ => ?_) hs rfl))
  obtain ⟨a, xs, ex, hq, q⟩ := q1
  subst ex
  obtain ⟨u, rfl, ru⟩ := vals1 r1
  cases ru
  obtain ⟨its, rv, p', hz⟩ := I1.tuple hq
  have hal : a < s1.heap.objs.size := by obtain ⟨o, ho, _⟩ := p'; exact Heap.lt_size ho
  refine call_enum1 (begins_tuple a its.toArray) p' fun h' he hit hsz hk => wpAny_pyIter_enum he ?_
  have I2 : Inv X pins σ H1 { s1 with heap := h' } := I1.kept (t' := s1.toks) hk
  refine ⟨s1.heap.objs.size + 1, [s1.heap.objs.size + 1, s1.heap.objs.size], _, _, H1, rfl, I2, turn_enumT a (s1.heap.objs.size + 1) s1.heap.objs.size, ⟨⟨.none, he⟩, ⟨_, hit, rfl, rfl⟩, Nat.succ_ne_self _, Nat.ne_of_lt hal, Nat.ne_of_lt (Nat.lt_succ_of_lt hal)⟩, fun b hb => ?_, q⟩
  have e' : b = s1.heap.objs.size + 1 ∨ b = s1.heap.objs.size := by simpa using hb
  have hle : s1.heap.objs.size ≤ b := by
    rcases e' with z | z
    · rw [z]; exact Nat.le_add_right _ _
    · rw [z]; exact Nat.le_refl _
  exact I1.fpOk hle (I1.hok.fresh hle)
theorem walk_enumT {K : PySem.W.Frag} {a : Addr} {xs : List V} : Walk (IteT K a) xs.length (fun H => SqT K H a xs) (YPair (fun i => some (.int (i : Nat))) (fun i => xs[i]?)) := by
  refine ⟨fun i _ hi q => ⟨xs, xs[i], q, by simp [hi]⟩, fun _ q => ⟨xs, q, rfl⟩, fun i H v H' _ q y => ?_⟩
  obtain ⟨T, x, h1, h2, h3, h4⟩ := y
  exact ⟨T, .int (i : Nat), x, h1, h2, h3, rfl, h4 xs q⟩
section
variable {X : Cx}
/-! ### t.index(k), t a tuple of ints -/
theorem flat_ints (ys : List Int) : (ys.map V.int).all flatV = true := by
  rw [List.all_map]
  exact List.all_eq_true.mpr fun _ _ => rfl
theorem mt_tindexI : MtR X "tuple.index" (fun x xs H Q => ∃ (p : Addr) (ys : List Int) (z : Int) (j : Nat), x = .ref p ∧ xs = [.int z] ∧ SqT X.K H p (ys.map V.int) ∧ ys[j]? = some z ∧ (∀ m, m < j → ys[m]? ≠ some z) ∧ Q (.int (j : Nat)) H) := by
  intro pins s σ H x xs v us Q I rx rs h
  obtain ⟨p, ys, z, j, rfl, rfl, hq, hy, hno, q⟩ := h
  cases rx
  obtain ⟨u, rfl, t, rfl⟩ := vals1 rs
  obtain ⟨its, r, pl, hz⟩ := I.tuple hq
  obtain ⟨⟨cls, dd, dt, sl⟩, ho, hc, n, hd⟩ := pl
  simp only at hc hd
  subst hc
  subst hd
  have hl : its.toArray.size = ys.length := by rw [List.size_toArray, ← r.length, List.length_map]
  have hj : j < its.toArray.size := by rw [hl]; exact (List.getElem?_eq_some_iff.mp hy).1
  have at' : ∀ (m : Nat) (hm : m < its.toArray.size), ∃ y t', ys[m]? = some y ∧ its.toArray[m] = Value.int y t' := fun m hm => by
    have hm' : m < ys.length := by rw [← hl]; exact hm
    obtain ⟨w, hw, t', hw'⟩ := r.get (i := m) (x := .int ys[m]) (by simp [hm'])
    refine ⟨ys[m], t', List.getElem?_eq_getElem hm', ?_⟩
    have e := (List.getElem?_eq_some_iff.mp hw).2
    rw [← hw', ← e]
    simp
  refine call_meets PySem.F.slot_tuple_index ⟨_, ho, rfl⟩ PySem.F.entry_tuple_index (PySem.F.args_tuple_index_2 _ _) (TI.tuple_indexAt p its.toArray n dd sl (.int z t) (eqU (.int z)) j hj ?_ ?_)
    ⟨ho, fun w hw => mem_eqAt (x := .int z) ⟨t, rfl⟩ rfl r (flat_ints ys) w (by simpa using hw), ⟨.int (j : Nat), H, I.tok _, ⟨_, rfl⟩, q⟩⟩
  · obtain ⟨y, t', h1, h2⟩ := at' j hj
    rw [hy] at h1
    cases h1
    rw [h2]
    show decide (z = z) = true
    exact decide_eq_true rfl
  · intro m hm hmj
    obtain ⟨y, t', h1, h2⟩ := at' m hm
    rw [h2]
    show decide (y = z) = false
    exact decide_eq_false fun e => hno m hmj (e ▸ h1)
/-! ### a kept exception -/
/-- what its class must say -/
structure KepC (K : PySem.W.Frag) (D : Addr) : Prop where
  cl : (PySem.W.clsIn K D).isSome = true
  hg : PySem.W.findIn K (.ref D) "__getattribute__" = some (some (.builtin "BaseException.__getattribute__"))
  hk : PySem.W.findIn K (.ref D) "__getattr__" = some none
  hs : PySem.W.subIn K (.ref D) (.type "BaseException") = some true
  hd : PySem.W.hasDictIn K D = true
  ha : PySem.W.findIn K (.ref D) "__class__" = some (some (.builtin "object.__class__"))
  hn : PySem.W.specialIn K (.builtin "object.__class__") "__get__" = some (some (.builtin "getset_descriptor.__get__"))
  ht : PySem.W.takesIn K (.builtin "object.__class__") = some true
  hm : PySem.W.mroIn K D (.type "object") = some true
/-- isinstance(e, c), e a kept exception -/
def rIsK (K : PySem.W.Frag) : List V → Hp → VK → Prop := fun xs H Q => ∃ (a D C : Addr) (d : Option Addr) (b : Bool), xs = [.ref a, .ref C] ∧ KepC K D ∧ H a = some (ExK a (.ref D) d) ∧ (∀ dd, d = some dd → ∃ fs, H dd = some (.xd fs)) ∧ PySem.W.kitOne K (.ref D) (.ref C) = some b ∧ Q (.bl b) H
theorem exK_inst {pins : List (Addr × Obj)} {σ : St} {H : Hp} {s : Shared} {a D : Addr} {d : Option Addr} (I : Inv X pins σ H s) (he : H a = some (ExK a (.ref D) d)) (hdd : ∀ dd, d = some dd → ∃ fs, H dd = some (.xd fs)) :
    ∃ (oe : Obj) (od : Option Obj), PySem.W.InstAt s.heap a oe D od := by
  obtain ⟨oe, vs, e1, ⟨z1, z2⟩, e3⟩ := exK_at I.hok he
  have nc : PySem.W.notCls oe := by unfold PySem.W.notCls; rw [e3] <;> rfl
  cases d with
  | none => exact ⟨oe, none, e1, z1, nc, by rw [z2] <;> trivial⟩
  | some dd =>
    obtain ⟨fs, hf⟩ := hdd dd rfl
    obtain ⟨mA, ⟨od, es, ep, ho, _⟩, _⟩ := (show ObjOk X.prog X.w H s.heap dd (.xd fs) from I.hok dd _ hf)
    exact ⟨oe, some od, e1, z1, nc, by rw [z2]; exact ho⟩
theorem call_isK : CallR X (.builtin "isinstance") (rIsK X.K) := by
  intro pins s σ H xs us Q I r h
  obtain ⟨a, D, C, d, b, rfl, T, he, hdd, e, q⟩ := h
  obtain ⟨u1, u2, rfl, r1, r2⟩ := vals2 r
  cases r1
  cases r2
  obtain ⟨oe, od, J⟩ := exK_inst I he hdd
  exact PySem.W.kia_one (PySem.W.kitx_exc T.cl T.hg T.hk T.hs T.ha T.hn T.ht T.hm) I.kIn J e (fun z => nomatch z) fun tk => ⟨.bl b, H, I.kept (t' := tk) fun _ _ z => z, rfl, q⟩
/-- e.f, e a kept exception -/
def tXK (K : PySem.W.Frag) (n : Str) (te : TE) : TE := fun σ H Q => te σ H fun x H1 => ∃ (a C dd : Addr) (fs : List (Str × V)) (v : V), x = .ref a ∧ XfC K C ∧ PySem.W.findIn K (.ref C) n = some none ∧ H1 a = some (ExK a (.ref C) (some dd)) ∧ H1 dd = some (.xd fs) ∧ fs.lookup n = some v ∧ Q v H1
theorem pe_xk {e : Expr} {te : TE} {pos : Pos} {n : Str} (he : PE X e te) (hb : attributeBase e n X.env (eval e X.env) = eval e X.env := by rfl) : PE X (.Attribute e n pos) (tXK X.K n te) := by
  refine ⟨fun pins s σ H Q I h => ?_⟩
  refine attr_of hb (thn (he.run pins s σ H _ I h) fun u s1 hh => ?_)
  obtain ⟨x, H1, I1, rx, a, C, dd, fs, v, ex, T, hno, ha, hd, l, q⟩ := hh
  subst ex
  obtain rfl : u = Value.ref a := rx
  obtain ⟨oe, vs, e1, ⟨z1, z2⟩, e3⟩ := exK_at I1.hok ha
  obtain ⟨mA, hns, hr⟩ := (show ObjOk X.prog X.w H1 s1.heap dd (.xd fs) from I1.hok dd _ hd)
  obtain ⟨od, ho, hl⟩ := lookIn_ns hns
  obtain ⟨u, hu, ru⟩ := RelO.some_of (v := v) (o := mA n) (by rw [← l]; exact hr n)
  have J : PySem.W.InstAt s1.heap a oe C (some od) := ⟨e1, z1, by unfold PySem.W.notCls; rw [e3] <;> rfl, by rw [z2]; exact ho⟩
  exact HandSPX.exc_get I1.kIn J T.ga T.gg T.exC (PySem.W.findObj_own T.hdC hno rfl (by rw [hl, hu])) (handed_of ru) ⟨v, H1, I1.tok _, ru, q⟩
/-! ### repr of data -/
def rRepr (K : PySem.W.Frag) : List V → Hp → VK → Prop := fun xs H Q => ∃ (x : V) (d : PyData), xs = [x] ∧ Dp K H x d ∧ d.showable = true ∧ d.hasDict = false ∧ d.depth ≤ 64 ∧ d.shown.length ≤ sizeLine ∧ Q (.str d.shown) H
theorem call_reprD (hG : X.A.guards = some []) (hu : X.A.units + 80 < cLine) : CallR X (.builtin "repr") (rRepr X.K) := by
  intro pins s σ H xs us Q I r h
  obtain ⟨x, d, rfl, hd, hs, hn, hdp, hz, q⟩ := h
  obtain ⟨u, rfl, ru⟩ := vals1 r
  cases hd with
  | non =>
    cases ru
    simp only [PyData.shown] at q
    exact PySem.P.repr_of_none ⟨.str _, H, I.tok _, ⟨_, rfl⟩, q⟩
  | bl b =>
    cases ru
    simp only [PyData.shown] at q
    refine PySem.P.repr_of_bool ⟨.str _, H, I.tok _, ⟨_, rfl⟩, q⟩
  | int i =>
    obtain ⟨t, rfl⟩ := ru
    simp only [PyData.shown] at q
    exact PySem.P.repr_of_int (by simpa [PyData.showable] using hs) ⟨.str _, H, I.tok _, ⟨_, rfl⟩, q⟩
  | str y =>
    obtain ⟨t, rfl⟩ := ru
    simp only [PyData.shown] at q hz
    exact PySem.P.repr_of_str ⟨.str _, H, I.tok _, ⟨_, rfl⟩, q⟩ hz
  | @lst a ys ds hq ha =>
    cases ru
    obtain ⟨as, rr⟩ := Dp.reads I _ _ _ (Dp.lst hq ha) (show RelV (.ref a) (.ref a) from rfl)
    exact repr_of_reads' rr hs (PyData.noDict_hsm hn) hG (by omega) (fun _ _ e => e) (fun h' u tk hk => ⟨.str _, H, I.kept (t' := tk) hk, ⟨_, rfl⟩, q⟩) hz
  | @tup a ys ds hq ha =>
    cases ru
    obtain ⟨as, rr⟩ := Dp.reads I _ _ _ (Dp.tup hq ha) (show RelV (.ref a) (.ref a) from rfl)
    exact repr_of_reads' rr hs (PyData.noDict_hsm hn) hG (by omega) (fun _ _ e => e) (fun h' u tk hk => ⟨.str _, H, I.kept (t' := tk) hk, ⟨_, rfl⟩, q⟩) hz
end
end L2
set_option Elab.async false
set_option linter.all false
set_option maxRecDepth 100000
set_option maxHeartbeats 4000000
/-! defs whose promise leans on the guards (repr), their calls, the end of a law row by such a promise; what a def makes of a lambda that it calls in a try -/
namespace L2
open PySem PySem.Spec PyProof.Rows LamX
/-- a promise kept where no repr is under way -/
structure FnG (P : Program) (w : World) (K : PySem.W.Frag) (mg : Str → Option Value) (base : Heap) (k : Nat) (f : Addr) (fd : FuncData) (ps : List Str) (sp : Sp) : Prop where
  len : ∀ vs H Q E, sp vs H Q E → vs.length = ps.length
  run : ∀ (A : Around) (outer : List Env) (s : Shared) (H : Hp) (args : Args) (us : List Value) (vs : List V) (Q : VK) (E : XK), A.guards = some [] → Room k A → Env0 P w K mg base A outer s H →
    BindsTo s fd args (ps.zip us) → Vals vs us → sp vs H Q E → codeAny (model P w) A (.call (.ref f) args) (CR CX0 outer P w H s Q E) s
section
variable {P : Program} {w : World} {K : PySem.W.Frag} {mg : Str → Option Value} {base : Heap} {x qual : Str} {params : Arguments} {body : List Stmt} {scope : Scope} {dvs : List V} {kws : List (Str × V)} {f : Addr} {fd : FuncData}
theorem FunD.okG {N ps : List Str} {k : Nat} {sp : Sp} (F : FunD K x qual params body scope dvs kws f fd) (S : FnScope N ps scope) (len : ∀ vs H Q E, sp vs H Q E → vs.length = ps.length)
    (hbody : ∀ (cdv : Value) (A : Around) (outer : List Env) (s : Shared) (H : Hp) (vs : List V) (Q : VK) (E : XK), PySem.W.codeIn K cdv qual = true → (A.deeper (envOfC qual scope s.heap.objs.size f cdv)).guards = some [] → Room k (A.deeper (envOfC qual scope s.heap.objs.size f cdv)) → sp vs H Q E →
      ∃ t, PSs (cxOf CX0 P w K mg base N qual scope f cdv A outer s H E) body t ∧ t { nx := fun _ H' => Q .non H', rt := Q } (start N vs) H) : FnG P w K mg base (k + 1) f fd ps sp := by
  obtain ⟨oc, od, dV, kV, doc, pm, an, cdv, ct, osl, rfl, lk, hcd, _, _⟩ := F.ex
  exact ⟨len, fun A outer s H args us vs Q E hg hr e0 hb r hsp => run_ofS lk hcd S hr e0 hb r (len _ _ _ _ hsp) fun hr' => hbody cdv A outer s H vs Q E hcd hg hr' hsp⟩
theorem FnG.mono {j k : Nat} {ps : List Str} {sp : Sp} (F : FnG P w K mg base j f fd ps sp) (h : j ≤ k) : FnG P w K mg base k f fd ps sp :=
  ⟨F.len, fun A outer s H args us vs Q E hg hr => F.run A outer s H args us vs Q E hg (hr.mono h)⟩
end
section
variable {X : Cx} {k : Nat} {f : Addr} {fd : FuncData} {ps : List Str} {sp : Sp} {ds : List Value} {dvs : List V} {x : Str} {e : Expr} {es : List Expr} {t : TA} {p pos : Pos}
theorem pe_callG (F : FnG X.prog X.w X.K X.mg X.base k f fd ps sp) (hG : X.A.guards = some []) (hr : Room k X.A) (hg : Gl X x) (hm : X.mg x = some (.ref f)) (hk : PySem.W.keepIn X.K (.ref f) = true) (hb : Binds X.K fd ps ds) (hd : Vals dvs ds) (ha : PA X (e :: es) t)
    (hdb : (x == ("__debug__" : Str)) = false := by decide) (he : starEach (e :: es) X.env = (false, eval e X.env) :: starEach es X.env := by rfl) (hpl : (backTo pos (starEach es X.env)).any (·.1) = false := by rfl) :
    PE X (.Call (.Name x p) (e :: es) [] pos) (tCall sp dvs E0 t) := by
  refine ⟨fun pins s σ H Q I h => ?_⟩
  refine wpAny_Call_Name_kw (ld_glob I hg hm ?_ hdb)
  refine PySem.W.callWith_K (h₀ := X.base) I.ok.mod.kin hk (thn (ha.run pos pins s σ H _ I h) fun us s1 ⟨vs, H1, I1, r, q⟩ => ⟨I1.kIn, ?_⟩) he hpl
  have r2 : Vals (vs ++ dvs) (us ++ ds) := r.append hd
  have hl : (us ++ ds).length = ps.length := by rw [← r2.length]; exact F.len _ _ _ _ q
  refine wpAny_call (codeAny_mono (F.run X.A X.stack s1 H1 ⟨us, []⟩ (us ++ ds) (vs ++ dvs) Q E0 hG hr I1.env0 (hb s1 us I1.kIn hl) r2 q) fun r s' hq => ?_)
  cases r with
  | error e => exact (show False from hq).elim
  | ok fl =>
    cases fl with
    | ret u => exact I1.after hq
    | next => exact False.elim hq
    | brk => exact False.elim hq
    | cont => exact False.elim hq
end
/-! ### the end of a law row -/
section
/-- what may be tracked at the law's entry: the script, the tables -/
def lawH (K : PySem.W.Frag) (T : List Addr) (a : Addr) (oL : Obj) (ns : List Int) : Hp := fun b =>
  if b ∈ T then some (.tbl #[]) else if b = a ∧ K.lookup a = none then some (.frz oL (.lst (ns.map V.int))) else none
theorem law_callG {P : Program} {w : World} {K : PySem.W.Frag} {mg mb : Str → Option Value} {k : Nat} {fa a : Addr} {cs : List (Addr × Addr)} {fd : FuncData} {x : Str} {sp : Sp} {s₁ : Shared} {vs : List Value} {ns : List Int}
    (KX : K.In s₁.heap) (hns : s₁.heap.Ns mainGlobals mg) (hb : s₁.heap.Ns builtinsNs mb) (hbb : ∀ x : Str, x ≠ "__name__" → mb x = bootBuiltins x) (hlim : s₁.heap.NoLimit) (hg : s₁.gens = #[])
    (hT : ∀ p ∈ cs, s₁.heap.get? p.2 = some { cls := .none, data := .fields #[] }) (nT : ∀ p ∈ cs, K.lookup p.2 = none) (C : ∀ p ∈ cs, PySem.W.CodeHd s₁.heap p.1 p.2)
    (hbm : ∃ (bm : Addr) (ob : Obj), mg "__builtins__" = some (.ref bm) ∧ bm ≠ builtinsNs ∧ s₁.heap.get? bm = some ob ∧ ob.cls = .type "module" ∧ ob.dict = some builtinsNs ∧ ob.data = .plain)
    (ha : s₁.heap.get? a = some { cls := .type "list", data := .seq vs.toArray }) (hi : IntsAre vs ns) (hl : ns.length ≤ sizeLine) (hr : Room k callerA)
    (F : ∀ base : Heap, K.In base → base.Ns mainGlobals mg → (∀ p ∈ cs, TabB base mg p.1 p.2) → FnG P w K mg base k fa fd [x] sp) (hbind : ∀ (s : Shared) (u : Value), BindsTo s fd ⟨[u], []⟩ [(x, u)])
    (hsp : ∀ H : Hp, (∀ p ∈ cs, H p.2 = some (.tbl #[])) → SqL K H a (ns.map V.int) → sp [.ref a] H (fun v _ => v = .bl true) fun _ _ _ => False) :
    codeAny (model P w) callerA (.call (.ref fa) ⟨[.ref a], []⟩) (fun r s' => r = .ok (.ret (.bool true)) ∧ OldK s₁.heap s'.heap ∧ s'.os = s₁.os ∧ AllBare s'.gens) s₁ := by
  have rv := vals_ints hi
  have lenV := hi.length
  obtain ⟨T, hTd⟩ : ∃ T, T = cs.map (·.2) := ⟨_, rfl⟩
  have memT : ∀ p ∈ cs, p.2 ∈ T := fun p hp => by rw [hTd]; exact List.mem_map.mpr ⟨p, hp, rfl⟩
  have ofT : ∀ b ∈ T, ∃ p ∈ cs, p.2 = b := fun b hb => by rw [hTd] at hb; obtain ⟨p, hp, e⟩ := List.mem_map.mp hb; exact ⟨p, hp, e⟩
  have isT : ∀ b ∈ T, s₁.heap.get? b = some { cls := .none, data := .fields #[] } := fun b hb => by
    obtain ⟨p, hp, rfl⟩ := ofT b hb
    exact hT p hp
  have noT : ∀ b ∈ T, K.lookup b = none := fun b hb => by
    obtain ⟨p, hp, rfl⟩ := ofT b hb
    exact nT p hp
  have aT : a ∉ T := fun z => by
    have q := isT a z
    rw [ha] at q
    cases q
  obtain ⟨H, hH⟩ : ∃ H : Hp, H = lawH K T a { cls := .type "list", data := .seq vs.toArray } ns := ⟨_, rfl⟩
  have atT : ∀ b ∈ T, H b = some (.tbl #[]) := fun b hb => by rw [hH]; exact if_pos hb
  have off : ∀ b, b ∉ T → b ≠ a → H b = none := fun b h1 h2 => by
    rw [hH]
    unfold lawH
    rw [if_neg h1, if_neg (fun z => h2 z.1)]
  have atA : H a = (if K.lookup a = none then some (.frz { cls := .type "list", data := .seq vs.toArray } (.lst (ns.map V.int))) else none) := by
    rw [hH]
    unfold lawH
    rw [if_neg aT]
    by_cases z : K.lookup a = none
    · rw [if_pos ⟨rfl, z⟩, if_pos z]
    · rw [if_neg (fun q => z q.2), if_neg z]
  have kN : ∀ b o, K.lookup b = some o → H b = none := fun b o e => by
    by_cases h1 : b ∈ T
    · rw [noT b h1] at e
      cases e
    · by_cases h2 : b = a
      · subst h2
        rw [atA, if_neg (by rw [e]; simp)]
      · exact off b h1 h2
  have dN : ∀ {b : Addr} {o : Obj}, s₁.heap.get? b = some o → (∀ vs n, o.data ≠ .seq vs n) → o.data ≠ .fields #[] → H b = none := fun {b o} e h1 h2 => by
    refine off b (fun z => ?_) fun z => ?_
    · rw [isT b z] at e
      cases e
      exact h2 rfl
    · rw [z, ha] at e
      cases e
      exact h1 _ _ rfl
  have nsN : ∀ {b : Addr} {m : Str → Option Value}, s₁.heap.Ns b m → (hidT s₁.heap H).Ns b m := fun {b m} ⟨o, es, ep, e, d, r⟩ =>
    ⟨o, es, ep, hidT_get e (dN e (fun vs n z => by rw [d] at z; cases z) fun z => by rw [d] at z; cases z), d, r⟩
  have hS : SqL K H a (ns.map V.int) := by
    cases hk : K.lookup a with
    | none => exact .inl (.inr ⟨_, by rw [atA, if_pos hk]⟩)
    | some o =>
      have e := KX a o hk
      rw [ha] at e
      cases e
      exact .inr ⟨_, vs.toArray, _, hk, rfl, rfl, rfl, by rw [List.size_toArray, lenV]; exact hl, by simpa using rv⟩
  have hok : HOk P w H s₁.heap := fun b u z => by
    by_cases h1 : b ∈ T
    · rw [atT b h1] at z
      cases z
      exact isT b h1
    · by_cases h2 : b = a
      · subst h2
        rw [atA] at z
        split at z
        · cases z
          exact ⟨ha, by rw [List.length_map]; exact hl, vs, _, rv, ha⟩
        · cases z
      · rw [off b h1 h2] at z
        cases z
  have hKb : K.In (hidT s₁.heap H) := fun b o e => hidT_get (KX b o e) (kN b o e)
  have hM : L2.Mod K mg (hidT s₁.heap H) := ⟨hKb, nsN hns, ⟨mb, nsN hb, hbb⟩, let ⟨mc, h1, h2⟩ := hlim; ⟨mc, nsN h1, h2⟩⟩
  have TB : ∀ p ∈ cs, TabB (hidT s₁.heap H) mg p.1 p.2 := fun p hp => by
    refine ⟨?_, ?_, fun z => ?_⟩
    · obtain ⟨o, us, file, tf, flags, tg, inF, text, tt, e1, r1, r2, r3, r4, r5, r6, r7, r8, hne⟩ := C p hp
      exact ⟨o, us, file, tf, flags, tg, inF, text, tt, hidT_get e1 (dN e1 (fun vs n z => by rw [r2] at z; cases z) fun z => by rw [r2] at z; cases z; simp at r3), r1, r2, r3, r4, r5, r6, r7, r8, hne⟩
    · obtain ⟨bm, ob, b1, b2, b3, b4, b5, b6⟩ := hbm
      refine ⟨bm, ob, b1, b2, fun q => ?_, fun q => ?_, hidT_get b3 (dN b3 (fun vs n z => by rw [b6] at z; cases z) fun z => by rw [b6] at z; cases z), b4, b5, b6⟩
      · obtain ⟨o, es, ep, e, hd, _⟩ := hns
        rw [q, e] at b3
        cases b3
        rw [hd] at b6
        cases b6
      · rw [q, hT p hp] at b3
        cases b3
        cases b6
    · obtain ⟨o, es, ep, e, hd, _⟩ := hns
      rw [z, hT p hp] at e
      cases e
      cases hd
  have e0 : Env0 P w K mg (hidT s₁.heap H) callerA [] s₁ H := ⟨rfl, hM, fun b o e => of_hidT e, Nat.le_of_eq (hidT_size _ _), trivial, fun b hb => absurd (show b ∈ ([] : List Addr) from hb) (by simp), hok, .of_eq hg⟩
  refine codeAny_mono ((F _ hKb (nsN hns) TB).run callerA [] s₁ H ⟨[.ref a], []⟩ [.ref a] [.ref a] _ _ rfl hr e0 (hbind s₁ (.ref a)) (.cons rfl .nil) (hsp H (fun p hp => atT _ (memT p hp)) hS)) fun r s' h => ?_
  cases r with
  | error e => exact (show False from h).elim
  | ok fl =>
    cases fl with
    | next => exact False.elim h
    | brk => exact False.elim h
    | cont => exact False.elim h
    | ret u =>
      obtain ⟨v, H', os, bare, un, hok', r', q⟩ := h
      obtain rfl : v = .bl true := q
      obtain rfl : u = Value.bool true := r'
      have key : ∀ b o, b ∉ T → s₁.heap.get? b = some o → s'.heap.get? b = some o := fun b o nb e => by
        cases q : H b with
        | none => exact un.keep b o e q (by intro z; exact absurd (show b ∈ ([] : List Addr) from z) (by simp)) (by simp)
        | some u =>
          have hba : b = a := Classical.byContradiction fun z => by rw [off b nb z] at q; cases q
          subst hba
          rw [atA] at q
          split at q
          · rename_i hk
            cases q
            have z2 := un.frzs b _ _ (by rw [atA, if_pos hk])
            obtain ⟨e2, _⟩ := hok' b _ z2
            rw [ha] at e
            cases e
            exact e2
          · cases q
      have grown : ∀ b ∈ T, ∃ more : Array Value, s'.heap.get? b = some { cls := .none, data := .fields more } := fun b hb => by
        obtain ⟨more, z⟩ := un.tbls b #[] (atT b hb)
        exact ⟨_, hok' b _ z⟩
      refine ⟨rfl, ⟨fun b o e => ?_, fun b o e => ?_⟩, os, bare⟩
      · by_cases hb : b ∈ T
        · obtain ⟨more, hm⟩ := grown b hb
          obtain ⟨p, hp, ep⟩ := ofT b hb
          rw [isT b hb] at e
          cases e
          rw [← ep] at hm ⊢
          exact .inr (.inl ⟨((C p hp).tab (hT p hp)).isCodeTable, rfl, #[], more, rfl, by rw [Array.empty_append]; exact hm⟩)
        · exact .inl (key b o hb e)
      · by_cases hb : b ∈ T
        · obtain ⟨more, hm⟩ := grown b hb
          exact ⟨_, hm⟩
        · exact ⟨o, key b o hb e⟩
/-- what is known of the law's promise at the head's heap h -/
def LawAtG (l : PySem.W.OpenLaw) (w : World) (K : PySem.W.Frag) (k n : Nat) (x : Str) (mg : Str → Option Value) (fa : Addr) (h : Heap) : Prop :=
  ∃ (fd : FuncData) (cs : List (Addr × Addr)) (sp : Sp), (∀ p ∈ cs, h.get? p.2 = some { cls := .none, data := .fields #[] }) ∧ (∀ p ∈ cs, K.lookup p.2 = none) ∧ (∀ p ∈ cs, PySem.W.CodeHd h p.1 p.2) ∧ (∀ (s : Shared) (u : Value), BindsTo s fd ⟨[u], []⟩ [(x, u)]) ∧
    (∀ (H : Hp) (a : Addr) (ns : List Int), ns.length ≤ n → (∀ z ∈ ns, Builtin.Int.intBits z ≤ 1048576) → (∀ p ∈ cs, H p.2 = some (.tbl #[])) → SqL K H a (ns.map V.int) → sp [.ref a] H (fun v _ => v = .bl true) fun _ _ _ => False) ∧
    ∀ base : Heap, K.In base → base.Ns mainGlobals mg → (∀ p ∈ cs, TabB base mg p.1 p.2) → FnG l.prog w K mg base k fa fd [x] sp
theorem walk_ofG {l : PySem.W.OpenLaw} {n k : Nat} {q : Program} {loose : List Str} {XP : (Str → Option Value) → Heap → Prop} {YP : World → Heap → Prop} {d : DefRec} {x : Str}
    (hn : l.most = some n) (hn2 : n ≤ sizeLine) (hdf : d.params.defaults = []) (hr : Room k callerA)
    (F : ∀ (w : World) (mg : Str → Option Value) (fa : Addr) (h : Heap), YP w h → h.Ns mainGlobals mg → mg d.name = some (.ref fa) → ∃ K : PySem.W.Frag, K.In h ∧ LawAtG l w K k n x mg fa h) :
    PySem.W.WalkO q loose XP YP l.row.toRowW d [] (fun f vs => PySem.call f vs) := by
  refine Att.attach_callB hn hdf fun w s₀ s₁ mg mb fa o pm cd doc a vs ns G Y ho hd hcd hmg hobj hints hlen hbits hg => ?_
  obtain ⟨K, KX, fd, cs, sp, hT, nT, C, hb, hsp, hF⟩ := F w mg fa _ Y G.T.g hmg
  exact law_callG KX G.T.g G.T.b G.T.builtins G.T.nolimit hg hT nT C G.T.bmain hobj hints (Nat.le_trans hlen hn2) hr hF hb (fun H hH hS => hsp H a ns hlen hbits hH hS)
end
/-! ### caught = None; try: work() except C as error: caught = error; return caught -/
/-- what comes of a lambda whose reading is tl: an exception, kept; or None -/
def TKept (K : PySem.W.Frag) (c : Value) : (XK → Hp → VK → Prop) → Hp → VK → Prop := fun tl H Q =>
  tl (fun cls d H' => PySem.W.exmOne K cls c = some true ∧ ∀ a, H' a = none → Q (.ref a) (upd H' a (ExK a cls d))) H fun _ H' => Q .non H'
theorem takes_len {X : Cx} {W : WX} (tk : Takes X W) : Takes X (fun c d σ H => σ.length = X.N.length → W c d σ H) := fun u s' ⟨a, B, sI, pins, σ, H, cls, d, e, I, nb, up, sky, na, os, ag, w⟩ =>
  tk u s' ⟨a, B, sI, pins, σ, H, cls, d, e, I, nb, up, sky, na, os, ag, w I.len⟩
theorem kept_gives {X : Cx} {x ex q : Str} {sg : Scope} {g CJ : Addr} {cdg : Value} {j : Nat} {p1 p2 p3 p4 p5 p6 p7 p8 p9 p10 p11 p12 p13 p14 : Pos} (S : FnScope ["work", "caught", "error"] ["work"] sg) (hl1 : sg.names.lookup ("caught" : Str) = some .local) (hl2 : sg.names.lookup ("error" : Str) = some .local) (hge : sg.names.lookup ex = some .globalImplicit) (hde : (ex == ("__debug__" : Str)) = false) (hme : X.mg ex = some (.ref CJ)) :
    GivesTo X ["work", "caught", "error"] x sg g cdg [.Assign [.Name "caught" p1] (.Constant .none j p2) p3, .Try [.Expr (.Call (.Name "work" p4) [] [] p5) p6] [.ExceptHandler (some (.Name ex p7)) (some "error") [.Assign [.Name "caught" p8] (.Name "error" p9) p10] p11] [] [] p12, .Return (some (.Name "caught" p13)) p14]
      "work" q (TKept X.K (.ref CJ)) := by
  intro f c' s H Q tl act hc h
  have hgl : Gl (cxOf C8.CX0 X.prog X.w X.K X.mg X.base ["work", "caught", "error"] x sg g cdg X.A X.stack s H C8.E0).nox ex := hge
  have v1 : Vis (cxOf C8.CX0 X.prog X.w X.K X.mg X.base ["work", "caught", "error"] x sg g cdg X.A X.stack s H C8.E0).nox.env.scope "caught" := .inl hl1
  refine ⟨_, pss_cons (ps_set (i := 1) S.nd rfl (.inl hl1) pe_non rfl (.inr hl1)) (pss_cons (ps_try_keep (X := (cxOf C8.CX0 X.prog X.w X.K X.mg X.base ["work", "caught", "error"] x sg g cdg X.A X.stack s H C8.E0).nox) (c := .ref CJ) (i := 2)
      (tb := fun W D σ H => ∃ Ech : XK, (∀ cls d σ' H', Ech cls d H' → σ'.length = 3 → W cls d σ' H') ∧ σ[0]? = some (some (.ref f)) ∧ H c' = some (CodeO c' q) ∧ tl Ech H fun _ H1 => D.nx σ H1)
      (ts := fun _ _ _ => tAsg (tVar 2) (gName 1)) rfl rfl rfl S.nd rfl hl2 ⟨hgl, hde, .inl hme⟩ (fun W pn xe tk _ => ?_) (fun a oe cls d pn _ _ => pss_one (ps_set (i := 1) S.nd rfl (.inl hl1) (pe_var (i := 2) rfl (.inl hl2)) rfl (.inr hl1)))) (pss_one (ps_ret (pe_var (i := 1) rfl v1)))), ?_⟩
  · refine ⟨fun pins s' σ H' D I h' => ?_⟩
    obtain ⟨Ech, hW, h1, h2, h3⟩ := h'
    have hp := act (fun c d σ H => σ.length = 3 → W c d σ H) pn xe Ech p4 p5 (takes_len tk) hW
    exact (pss_one (ps_expr (pos := p6) hp rfl)).run pins s' σ H' D I ⟨h1, h2, h3⟩
  · refine ⟨fun cls d H' => PySem.W.exmOne X.K cls (.ref CJ) = some true ∧ ∀ a, H' a = none → Q (.ref a) (upd H' a (ExK a cls d)), fun cls d σ' H' ⟨e1, e2⟩ hlen => ⟨e1, fun a na => ?_⟩, rfl, hc, ?_⟩
    · obtain ⟨x0, x1, x2, rfl⟩ : ∃ x0 x1 x2, σ' = [x0, x1, x2] := by
        match σ', hlen with
        | [x0, x1, x2], _ => exact ⟨x0, x1, x2, rfl⟩
      exact ⟨.ref a, rfl, .ref a, rfl, e2 a na⟩
    · have e : (fun (x : V) (H1 : Hp) => Q .non H1) = fun _ H1 => tRet (tVar 1) { nx := fun _ H' => Q .non H', rt := Q } (List.set (L2.start ["work", "caught", "error"] [V.ref f]) 1 (some V.non)) H1 := by
        funext _ H1
        exact propext ⟨fun z => ⟨.non, rfl, z⟩, fun ⟨v, e, z⟩ => by cases e; exact z⟩
      have h2 := h
      unfold TKept at h2
      rw [e] at h2
      exact h2
end L2
set_option Elab.async false
set_option linter.all false
set_option maxRecDepth 100000
set_option maxHeartbeats 4000000
/-! data on the abstract heap: how it stays, its type; joined rules for tuples and lists -/
namespace L2
open PySem PySem.Spec PyProof.Rows
theorem Same.new {H : Hp} {p : Addr} {o : HO} (h : H p = none) : Same H (upd H p o) := fun b x e => by
  rw [upd_ne (ne_of_none e h)]
  exact e
theorem Same.seqT {K : PySem.W.Frag} {H H' : Hp} {a : Addr} {xs : List V} (e : Same H H') (h : SqT K H a xs) : SqT K H' a xs := by
  rcases h with (h | ⟨o, h⟩) | h
  · exact .inl (.inl (e _ _ h))
  · exact .inl (.inr ⟨o, e _ _ h⟩)
  · exact .inr h
mutual
theorem Dp.same {K : PySem.W.Frag} {H H' : Hp} (e : Same H H') : ∀ {v : V} {d : PyData}, Dp K H v d → Dp K H' v d
  | _, _, .non => .non
  | _, _, .bl b => .bl b
  | _, _, .int i => .int i
  | _, _, .str x => .str x
  | _, _, .lst h a => .lst (e.seq h) (DpAll.same e a)
  | _, _, .tup h a => .tup (e.seqT h) (DpAll.same e a)
theorem DpAll.same {K : PySem.W.Frag} {H H' : Hp} (e : Same H H') : ∀ {vs : List V} {ds : List PyData}, DpAll K H vs ds → DpAll K H' vs ds
  | _, _, .nil => .nil
  | _, _, .cons h a => .cons (Dp.same e h) (DpAll.same e a)
end
theorem DpAll.length {K : PySem.W.Frag} {H : Hp} : ∀ {vs : List V} {ds : List PyData}, DpAll K H vs ds → vs.length = ds.length
  | _, _, .nil => rfl
  | _, _, .cons _ a => congrArg Nat.succ a.length
theorem DpAll.get {K : PySem.W.Frag} {H : Hp} : ∀ {vs : List V} {ds : List PyData} {i : Nat} {v : V}, DpAll K H vs ds → vs[i]? = some v → ∃ d, ds[i]? = some d ∧ Dp K H v d
  | _, _, _, _, .nil, e => by simp at e
  | _, _, 0, _, .cons h _, e => by
    simp at e
    subst e
    exact ⟨_, rfl, h⟩
  | _, _, i + 1, v, .cons _ a, e => by
    obtain ⟨d, h1, h2⟩ := DpAll.get (i := i) (v := v) a (by simpa using e)
    exact ⟨d, by simpa using h1, h2⟩
theorem DpAll.append {K : PySem.W.Frag} {H : Hp} : ∀ {xs ys : List V} {ds es : List PyData}, DpAll K H xs ds → DpAll K H ys es → DpAll K H (xs ++ ys) (ds ++ es)
  | _, _, _, _, .nil, b => b
  | _, _, _, _, .cons h a, b => .cons h (a.append b)
theorem DpAll.take {K : PySem.W.Frag} {H : Hp} : ∀ {xs : List V} {ds : List PyData} (n : Nat), DpAll K H xs ds → DpAll K H (xs.take n) (ds.take n)
  | _, _, 0, _ => by simpa using DpAll.nil
  | _, _, n + 1, .nil => .nil
  | _, _, n + 1, .cons h a => .cons h (a.take n)
theorem DpAll.drop {K : PySem.W.Frag} {H : Hp} : ∀ {xs : List V} {ds : List PyData} (n : Nat), DpAll K H xs ds → DpAll K H (xs.drop n) (ds.drop n)
  | _, _, 0, a => a
  | _, _, n + 1, .nil => .nil
  | _, _, n + 1, .cons h a => a.drop n
theorem DpAll.ints {K : PySem.W.Frag} {H : Hp} : ∀ ns : List Int, DpAll K H (ns.map V.int) (ns.map PyData.int)
  | [] => .nil
  | n :: r => .cons (.int n) (DpAll.ints r)
/-- the name of a datum's type -/
def tyn : PyData → String
  | .none => "NoneType"
  | .bool _ => "bool"
  | .int _ => "int"
  | .str _ => "str"
  | .list _ => "list"
  | .tuple _ => "tuple"
  | .dict _ => "dict"
theorem tyD {K : PySem.W.Frag} {H : Hp} {v : V} {d : PyData} (h : Dp K H v d) : TyX K H v (.type (tyn d)) := by
  cases h with
  | non => exact .base .non
  | bl b => exact .base (.bl b)
  | int i => exact .base (.int i)
  | str x => exact .base (.str x)
  | lst h _ =>
    rcases h with (h | ⟨o, h⟩) | ⟨o, its, n, h1, h2, _⟩
    · exact .base (.lst h)
    · exact .base (.frz h)
    · exact .kList h1 h2
  | tup h _ =>
    rcases h with (h | ⟨o, h⟩) | ⟨o, its, n, h1, h2, _⟩
    · exact .base (.tup h)
    · exact .fTuple h
    · exact .kTuple h1 h2
/-- isinstance of a datum, for the built-in classes asked -/
def isD (T : String) : PyData → Bool
  | .int _ => T == "int"
  | .bool _ => T == "int" || T == "bool"
  | .tuple _ => T == "tuple"
  | .list _ => T == "list"
  | _ => false
theorem kitD (K : PySem.W.Frag) (T : String) (hT : T = "int" ∨ T = "bool" ∨ T = "tuple" ∨ T = "list") (d : PyData) : PySem.W.kitOne K (.type (tyn d)) (.type T) = some (isD T d) := by
  rcases hT with rfl | rfl | rfl | rfl <;> cases d <;> exact kit_ty (by kernel_rfl)
theorem isi_of {K : PySem.W.Frag} {H : Hp} {Q : VK} {x : V} {d : PyData} {T : String} (h : Dp K H x d) (q : Q (.bl (isD T d)) H) (hT : T = "int" ∨ T = "bool" ∨ T = "tuple" ∨ T = "list" := by decide) : rIsi K [x, .ty T] H Q :=
  ⟨x, .ty T, _, _, _, rfl, .ty T, tyD h, kitD K T hT d, q⟩
section
variable {X : Cx}
/-- t + u, whatever stands -/
def rCatS (K : PySem.W.Frag) : R2 := fun x y H Q => ∃ a b xs ys, x = .ref a ∧ y = .ref b ∧ SqT K H a xs ∧ SqT K H b ys ∧ xs.length + ys.length ≤ sizeLine ∧ ∀ r H', Same H H' → SqT K H' r (xs ++ ys) → Q (.ref r) H'
theorem op_catS : OpR X (binaryOp .Add) (rCatS X.K) := by
  intro pins s σ H x y v u Q I rx ry h
  obtain ⟨a, b, xs, ys, rfl, rfl, ha, hb, hz, q⟩ := h
  exact op_catA pins s σ H _ _ v u Q I rx ry ⟨a, b, xs, ys, rfl, rfl, ha, hb, hz, fun e => q b H (Same.refl H) (by rw [e]; exact hb), fun _ e => q a H (Same.refl H) (by rw [e, List.append_nil]; exact ha),
    fun _ _ p hp => q p _ (Same.new hp) (.inl (.inl upd_same))⟩
/-- t[lo:hi], whatever stands -/
def rSlU (K : PySem.W.Frag) : V → Option Int → Option Int → Hp → VK → Prop := fun x lo hi H Q => ∃ a xs, x = .ref a ∧ SqT K H a xs ∧ ∀ r H', Same H H' → SqT K H' r (cutV xs lo hi) → Q (.ref r) H'
theorem cut_whole {xs : List V} {lo hi : Option Int} (h : HT.sIx xs.length 0 lo = 0 ∧ HT.sIx xs.length xs.length hi = xs.length) : cutV xs lo hi = xs := by
  unfold cutV
  rw [h.1, h.2]
  simp
theorem sl_tupU : SlR X (rSlU X.K) := by
  intro pins s σ H x v vl vu lo hi sl Q I rx hs pl pu h
  obtain ⟨a, xs, rfl, hx, q⟩ := h
  exact sl_tupA pins s σ H _ v vl vu lo hi sl Q I rx hs pl pu ⟨a, xs, rfl, hx, fun e => q a H (Same.refl H) (by rw [cut_whole e]; exact hx), fun _ p hp => q p _ (Same.new hp) (.inl (.inl upd_same))⟩
end
theorem cut_to {xs : List V} {k : Nat} : cutV xs none (some (k : Int)) = xs.take k := by
  unfold cutV
  rw [HT.sIx_none, HT.sIx_nat]
  simp only [List.drop_zero, Nat.sub_zero]
  rw [← List.take_take, List.take_length]
theorem cut_from {xs : List V} {k : Nat} : cutV xs (some (k : Int)) none = xs.drop k := by
  unfold cutV
  rw [HT.sIx_none, HT.sIx_nat]
  by_cases h : k ≤ xs.length
  · rw [Nat.min_eq_left h, ← List.length_drop, List.take_length]
  · have h' : xs.length ≤ k := by omega
    rw [Nat.min_eq_right h', List.drop_of_length_le h', List.drop_of_length_le (Nat.le_refl _)]
    simp
end L2
set_option Elab.async false
set_option linter.all false
set_option maxRecDepth 100000
set_option maxHeartbeats 4000000
/-! a def that stands, by one datum; its call; an exception class without __init__ raised bare -/
namespace L2
open PySem PySem.Spec PyProof.Rows
/-- a def of the text with its promise -/
structure Dn (P : Program) (w : World) (K : PySem.W.Frag) (mg : Str → Option Value) (base : Heap) (CX : CXT) (k : Nat) (x : Str) (ps : List Str) (sp : Sp) where
  f : Addr
  fd : FuncData
  ok : FnOk P w K mg base CX k f fd ps sp
  g : mg x = some (.ref f)
  kp : PySem.W.keepIn K (.ref f) = true
  b : Binds K fd ps []
structure DnG (P : Program) (w : World) (K : PySem.W.Frag) (mg : Str → Option Value) (base : Heap) (k : Nat) (x : Str) (ps : List Str) (sp : Sp) where
  f : Addr
  fd : FuncData
  ok : FnG P w K mg base k f fd ps sp
  g : mg x = some (.ref f)
  kp : PySem.W.keepIn K (.ref f) = true
  b : Binds K fd ps []
section
variable {X : Cx} {k j : Nat} {x : Str} {ps : List Str} {sp : Sp} {e : Expr} {es : List Expr} {t : TA} {p pos : Pos}
/-- x(e, ..), nothing is raised -/
theorem pe_d (D : Dn X.prog X.w X.K X.mg X.base CX0 k x ps sp) (hr : Room j X.A) (hj : k ≤ j) (ha : PA X (e :: es) t) (hg : Gl X x := by rfl)
    (hdb : (x == ("__debug__" : Str)) = false := by decide) (he : starEach (e :: es) X.env = (false, eval e X.env) :: starEach es X.env := by rfl) (hpl : (backTo pos (starEach es X.env)).any (·.1) = false := by rfl) :
    PE X (.Call (.Name x p) (e :: es) [] pos) (tCall sp [] E0 t) := pe_call D.ok (hr.mono hj) hg D.g D.kp D.b .nil pass0 ha hdb he hpl
/-- x(e, ..), what is raised leaves this def too -/
theorem pe_dX {E : XK} {W : WX} (D : Dn X.prog X.w X.K X.mg X.base (CX X.prog X.w) k x ps sp) (tk : Takes X W) (hW : ∀ cls d σ H, E cls d H → W cls d σ H) (hr : Room j X.A) (hj : k ≤ j) (ha : PA X (e :: es) t) (hg : Gl X x := by rfl)
    (hdb : (x == ("__debug__" : Str)) = false := by decide) (he : starEach (e :: es) X.env = (false, eval e X.env) :: starEach es X.env := by rfl) (hpl : (backTo pos (starEach es X.env)).any (·.1) = false := by rfl) :
    PE X (.Call (.Name x p) (e :: es) [] pos) (tCall sp [] E t) := pe_call D.ok (hr.mono hj) hg D.g D.kp D.b .nil (passes_call tk hW) ha hdb he hpl
/-- x(e, ..), a def that may raise, where this call raises nothing -/
theorem pe_dN (D : Dn X.prog X.w X.K X.mg X.base (CX X.prog X.w) k x ps sp) (hr : Room j X.A) (hj : k ≤ j) (ha : PA X (e :: es) t) (hg : Gl X x := by rfl)
    (hdb : (x == ("__debug__" : Str)) = false := by decide) (he : starEach (e :: es) X.env = (false, eval e X.env) :: starEach es X.env := by rfl) (hpl : (backTo pos (starEach es X.env)).any (·.1) = false := by rfl) :
    PE X (.Call (.Name x p) (e :: es) [] pos) (tCall sp [] E0 t) := pe_call D.ok (hr.mono hj) hg D.g D.kp D.b .nil passL ha hdb he hpl
theorem pe_dG (D : DnG X.prog X.w X.K X.mg X.base k x ps sp) (hG : X.A.guards = some []) (hr : Room j X.A) (hj : k ≤ j) (ha : PA X (e :: es) t) (hg : Gl X x := by rfl)
    (hdb : (x == ("__debug__" : Str)) = false := by decide) (he : starEach (e :: es) X.env = (false, eval e X.env) :: starEach es X.env := by rfl) (hpl : (backTo pos (starEach es X.env)).any (·.1) = false := by rfl) :
    PE X (.Call (.Name x p) (e :: es) [] pos) (tCall sp [] E0 t) := pe_callG D.ok hG (hr.mono hj) hg D.g D.kp D.b .nil ha hdb he hpl
/-- X(), an own class without own __init__ -/
theorem pmk_own0 {C : Addr} {bmB : List Value} {B newId initId : String} (F : ExcBaseFacts B newId initId bmB) (q : PySem.W.excIn X.K C bmB newId = true) (gC : X.mg x = some (.ref C)) (kC : PySem.W.keepIn X.K (.ref C) = true) (r : Raises X (.ref C)) (hg : Gl X x)
    (hdb : (x == ("__debug__" : Str)) = false := by decide) : PMk X (.Call (.Name x p) [] [] pos) (fun _ H Q => Q (.ref C) none H) := by
  intro pins s σ H Q I h
  refine wpAny_Call_Name_kw (ld_glob I hg gC ?_ hdb)
  refine PySem.W.callWith_K0 I.kIn kC ?_
  obtain ⟨bm, N, nm, qn, bs, hdct, sn, sub, ab, col, dd, k0, k1, k2, k3, k5, mN, hC, hN, hni, T⟩ := exc_obj I.kIn q
  refine wpAny_call_exc_subT F T hC hN hni (fun h' e hm => ?_) (Nat.zero_le _)
  exact mk_of I hm r h (I.hok.gone hm.new)
/-- what the written part says of such a class -/
structure BareX (K : PySem.W.Frag) (mg : Str → Option Value) (C : Addr) (x : Str) : Prop where
  q : PySem.W.excIn K C He.veBase "ValueError.__new__" = true
  g : mg x = some (.ref C)
  k : PySem.W.keepIn K (.ref C) = true
  s : PySem.W.subIn K (.ref C) (.type "BaseException") = some true
  t : PySem.W.typeIn K (.ref C) = some (.type "type")
theorem ps_raise0 {C : Addr} {W : WX} {pos2 : Pos} (hc : X.calm = true) (T : BareX X.K X.mg C x) (tk : Takes X W) (hg : Gl X x := by rfl) (hdb : (x == ("__debug__" : Str)) = false := by decide) :
    PS X (.Raise (some (.Call (.Name x p) [] [] pos)) none pos2) (fun _ σ H => W (.ref C) none σ H) := ps_raise hc tk (pmk_own0 PySem.F.excBase_ValueError T.q T.g T.k (raises_own T.s T.t) hg hdb)
end
end L2
set_option Elab.async false
set_option linter.all false
set_option maxRecDepth 100000
set_option maxHeartbeats 4000000
/-! what readings come to, for data -/
namespace Evl
open PySem L2
section
variable {K : PySem.W.Frag} {σ : L2.St} {H H' : Hp} {ta tb tc te tx : TE} {t u : TT} {x y z v : V} {D : Ends} {tu tw tz : TS} {g : TG}
/-- a datum -/
def EvD (K : PySem.W.Frag) (te : TE) (σ : L2.St) (H : Hp) (d : PyData) : Prop := ∀ H1, Ex H H1 → ∀ Q : VK, (∀ v H2, Ex H1 H2 → Dp K H2 v d → Q v H2) → te σ H1 Q
theorem EvD.mono {d : PyData} (e : Ex H H') (h : EvD K te σ H d) : EvD K te σ H' d := fun H1 a Q q => h H1 (e.trans a) Q q
theorem evD_of {d : PyData} (h : Ev te σ H v) (hd : Dp K H v d) : EvD K te σ H d := fun H1 e Q q => h H1 e Q fun H2 e2 => q v H2 e2 (hd.same (e.trans e2))
theorem ev_ofD {i : Int} (h : EvD K te σ H (.int i)) : Ev te σ H (.int i) := fun H1 e Q q => h H1 e Q fun v H2 e2 hd => by
  cases hd
  exact q H2 e2
theorem ev_isi {T : String} {d : PyData} (ha : Ev ta σ H x) (hd : Dp K H x d) (hT : T = "int" ∨ T = "bool" ∨ T = "tuple" ∨ T = "list" := by decide) :
    Ev (tCB (rIsi K) (tCons ta (tCons (tC (.ty T)) tNil))) σ H (.bl (isD T d)) := fun H1 e Q q => ha H1 e _ fun H2 e2 => isi_of (hd.same (e.trans e2)) (q H2 e2) hT
theorem ev_isiD {T : String} {d : PyData} (ha : EvD K ta σ H d) (hT : T = "int" ∨ T = "bool" ∨ T = "tuple" ∨ T = "list" := by decide) :
    Ev (tCB (rIsi K) (tCons ta (tCons (tC (.ty T)) tNil))) σ H (.bl (isD T d)) := fun H1 e Q q => ha H1 e _ fun v H2 e2 hd => isi_of hd (q H2 e2) hT
theorem ev_chain {f g : Int → Int → Bool} {i j k : Int} (ha : Ev ta σ H (.int i)) (hb : Ev tb σ H (.int j)) (hc : Ev tc σ H (.int k)) :
    Ev (tChain (rI0 fun a b => .bl (f a b)) (rI0 fun a b => .bl (g a b)) ta tb tc) σ H (.bl (f i j && g j k)) := fun H1 e Q q => ha H1 e _ fun H2 e2 => hb H2 (e.trans e2) _ fun H3 e3 =>
  ⟨i, j, rfl, rfl, f i j, rfl, by
    cases hf : f i j with
    | true =>
      show tc σ H3 fun w' H4 => rI0 (fun a b => .bl (g a b)) (.int j) w' H4 Q
      refine hc H3 ((e.trans e2).trans e3) _ fun H4 e4 => ⟨j, k, rfl, rfl, ?_⟩
      have := q H4 ((e2.trans e3).trans e4)
      rwa [hf, Bool.true_and] at this
    | false =>
      show Q (.bl false) H3
      have := q H3 (e2.trans e3)
      rwa [hf, Bool.false_and] at this⟩
theorem ev_lenT {p : Addr} {xs : List V} (ha : Ev ta σ H (.ref p)) (h : SqT K H p xs) : Ev (tCB (rLenS K) (tCons ta tNil)) σ H (.int (xs.length : Int)) := fun H1 e Q q =>
  ha H1 e _ fun H2 e2 => ⟨p, xs, rfl, Or.inr (h.elim (fun h => .inl (ex_rd (e.trans e2) h)) .inr), q H2 e2⟩
theorem ev_lenD {ds : List PyData} (ha : EvD K ta σ H (.tuple ds)) : Ev (tCB (rLenS K) (tCons ta tNil)) σ H (.int (ds.length : Int)) := fun H1 e Q q =>
  ha H1 e _ fun v H2 e2 hd => by
    cases hd with
    | tup h a => exact ⟨_, _, rfl, Or.inr h, by rw [a.length]; exact q H2 e2⟩
theorem ev_lenLD {ds : List PyData} (ha : EvD K ta σ H (.list ds)) : Ev (tCB (rLenS K) (tCons ta tNil)) σ H (.int (ds.length : Int)) := fun H1 e Q q =>
  ha H1 e _ fun v H2 e2 hd => by
    cases hd with
    | lst h a => exact ⟨_, _, rfl, Or.inl h, by rw [a.length]; exact q H2 e2⟩
theorem ev_all {bs : List Bool} (ha : EvL ta σ H (bs.map V.bl)) : Ev (tCB (rAll K) (tCons ta tNil)) σ H (.bl (bs.all id)) := fun H1 e Q q =>
  ha H1 e _ fun p H2 hp e2 h => ⟨p, bs, rfl, sq_of h, q H2 e2⟩
/-- a tuple's item -/
theorem ed_ix {ds : List PyData} {d : PyData} {i : Nat} (ha : EvD K ta σ H (.tuple ds)) (hb : Ev tb σ H (.int (i : Int))) (hd : ds[i]? = some d) (hz : ds.length ≤ 100000) : EvD K (tOp (rIxT K) ta tb) σ H d := fun H1 e Q q =>
  ha H1 e _ fun v H2 e2 hv => by
    cases hv with
    | tup h a =>
      rename_i p xs
      refine hb H2 (e.trans e2) _ fun H3 e3 => ?_
      have hl := a.length
      have hi : i < ds.length := (List.getElem?_eq_some_iff.mp hd).1
      obtain ⟨w, hw⟩ : ∃ w, xs[i]? = some w := ⟨xs[i]'(by omega), List.getElem?_eq_getElem _⟩
      obtain ⟨d', h1, h2⟩ := a.get hw
      rw [hd] at h1
      cases h1
      refine ⟨p, xs, (i : Int), w, rfl, rfl, Same.seqT (show Same H2 H3 from e3) h, ?_, q w H3 (e2.trans e3) (h2.same e3)⟩
      unfold atI
      rw [ixN_nat (by omega)]
      exact hw
/-- over a tuple -/
theorem el_lcT {a : Addr} {xs : List V} {tl : TE} {j : Nat} {vs : List Nat} (f : Nat → Bool) (v : Nat → V) (h : Ev tl σ H (.ref a)) (hx : SqT K H a xs) (hz : xs.length ≤ 40000) (hw : ∀ x, wipe ((wipe σ vs).set j (some x)) vs = wipe σ vs)
    (ht : ∀ (i : Nat) (x : V) H1, Ex H H1 → xs[i]? = some x → EvT t ((wipe σ vs).set j (some x)) H1 (f i)) (he : ∀ (i : Nat) (x : V) H1, Ex H H1 → xs[i]? = some x → f i = true → Ev te ((wipe σ vs).set j (some x)) H1 (v i)) :
    EvL (tLc (iTup K tl) (gName j) t te vs) σ H (given xs.length f v) := fun H0 e Q q => h H0 e _ fun H1 e1 => ⟨a, rfl, ⟨xs, Same.seqT (show Same H H1 from e.trans e1) hx⟩, fun Dl hD =>
  lc_tup (xs := xs) (Cw H1 f v Dl) ⟨hD, Ex.new hD, upd_same⟩ (fun i H' _ p => Same.seqT (show Same H H' from (e.trans e1).trans p.2.1) hx) (fun i x H' hi p => ⟨hw x, cw_turn p (by have := (List.getElem?_eq_some_iff.mp hi).1; omega) (ht i x H1 (e.trans e1) hi) (fun hf => he i x H1 (e.trans e1) hi hf)⟩)
    (fun H' p => q Dl H' (fresh_back e1 p.1) (e1.trans p.2.1) p.2.2)⟩
theorem given_all (n : Nat) (v : Nat → V) : given n (fun _ => true) v = (List.range n).map v := by
  unfold given
  rw [List.filter_eq_self.mpr (fun _ _ => rfl)]
/-- all([f(x) for x in t]), t a tuple of data -/
theorem ev_allT {ds : List PyData} {tl : TE} {j : Nat} {vs : List Nat} (B : PyData → Bool) (hd : Dp K H x (.tuple ds)) (h : Ev tl σ H x) (hz : ds.length ≤ 40000) (hw : ∀ x, wipe ((wipe σ vs).set j (some x)) vs = wipe σ vs)
    (he : ∀ (y : V) (d : PyData) H1, Ex H H1 → d ∈ ds → Dp K H1 y d → Ev te ((wipe σ vs).set j (some y)) H1 (.bl (B d))) :
    Ev (tCB (rAll K) (tCons (tLc (iTup K tl) (gName j) (fun _ H Q => Q true H) te vs) tNil)) σ H (.bl (ds.all B)) := by
  cases hd with
  | tup hs a =>
    rename_i p xs
    have hl := a.length
    have key : EvL (tLc (iTup K tl) (gName j) (fun _ H Q => Q true H) te vs) σ H ((ds.map B).map V.bl) := by
      have := el_lcT (K := K) (t := fun _ H Q => Q true H) (te := te) (fun _ => true) (fun i => .bl (B (ds.getD i .none))) h hs (by omega) hw (fun i x H1 _ _ H2 _ Q q => q H2 (Ex.refl _))
        (fun i x H1 e hi _ => by
          obtain ⟨d, h1, h2⟩ := a.get hi
          rw [List.getD_eq_getElem?_getD, h1]
          exact he x d H1 e (List.mem_of_getElem? h1) (h2.same e))
      rw [given_all] at this
      have e2 : (List.range xs.length).map (fun i => V.bl (B (ds.getD i .none))) = (ds.map B).map V.bl := by
        apply List.ext_getElem?
        intro i
        simp only [List.getElem?_map]
        by_cases hi : i < ds.length
        · rw [List.getElem?_range (by omega)]
          simp [List.getD_eq_getElem?_getD, List.getElem?_eq_getElem hi]
        · rw [List.getElem?_eq_none (by simp; omega), List.getElem?_eq_none (by omega)]
          rfl
      rw [e2] at this
      exact this
    have r := ev_all (K := K) key
    have e3 : ((ds.map B).all id) = ds.all B := by
      rw [List.all_map]
      rfl
    rw [e3] at r
    exact r
theorem SpV.of {sp : Sp} {vs : List V} (h : ∀ H1, Ex H H1 → ∀ Q : VK, RetV z H1 Q → ∀ E : XK, sp vs H1 Q E) : SpV sp vs H z := fun H1 e Q q E => h H1 e Q q E
/-- what a made exception says: of the class at C, its field f is v -/
def Thr (C : Addr) (f : Str) (v : V) (H : Hp) (E : XK) : Prop := ∀ dd H', H dd = none → Ex H H' → H' dd = some (.xd [(f, v)]) → E (.ref C) (some dd) H'
theorem Thr.go {C : Addr} {f : Str} {E : XK} (h : Thr C f v H E) (e : Ex H H') : Thr C f v H' E := fun dd H1 hd e1 hx => h dd H1 (fresh_back e hd) (e.trans e1) hx
theorem s_thr {C : Addr} {f : Str} {E : XK} {ta : TA} (h : EvA ta σ H [v]) (q : Thr C f v H E) : L2.tRaiseSup C f (fun cls d _ H' => E cls d H') ta D σ H := h H (Ex.refl H) _ fun H2 e2 => ⟨v, rfl, fun dd hd =>
  q dd _ (fresh_back e2 hd) (e2.trans (Ex.new hd)) upd_same⟩
theorem s_par {i j : Nat} {ta : TA} (h : EvA ta σ H [v, x]) (k : ∀ H1, Ex H H1 → D.nx ((σ.set i (some v)).set j (some x)) H1) : tPar i j ta D σ H := h H (Ex.refl H) _ fun H1 e1 => ⟨v, x, rfl, k H1 e1⟩
theorem q_par {i j : Nat} {ta : TA} (h : EvA ta σ H [v, x]) (k : ∀ H1, Ex H H1 → tz D ((σ.set i (some v)).set j (some x)) H1) : tSeq (tPar i j ta) tz D σ H := s_par (D := { D with nx := tz D }) h k
theorem q_parL {i j : Nat} {xs : List V} (h : EvL ta σ H xs) (h2 : Ev tb σ H x) (k : ∀ l H1, H l = none → Ex H H1 → H1 l = some (.lst xs) → tz D ((σ.set i (some (.ref l))).set j (some x)) H1) : tSeq (tPar i j (tCons ta (tCons tb tNil))) tz D σ H :=
  h H (Ex.refl H) _ fun l H1 hl e1 h1 => h2 H1 e1 _ fun H2 e2 => ⟨_, _, rfl, k l H2 hl (e1.trans e2) (e2 l _ h1)⟩
/-- a call whose promise is shown as it stands -/
theorem x_call {sp : Sp} {dvs vs : List V} {E : XK} {ta : TA} {Q : VK} (h : EvA ta σ H vs) (k : ∀ H1, Ex H H1 → sp (vs ++ dvs) H1 Q E) : tCall sp dvs E ta σ H Q := h H (Ex.refl H) _ k
theorem q_call {sp : Sp} {dvs vs : List V} {E : XK} {ta : TA} (h : EvA ta σ H vs) (k : ∀ H1, Ex H H1 → sp (vs ++ dvs) H1 (fun _ H2 => tz D σ H2) E) : tSeq (tDrop (tCall sp dvs E ta)) tz D σ H := h H (Ex.refl H) _ k
theorem q_asgC {sp : Sp} {dvs vs : List V} {E : XK} {ta : TA} {i : Nat} (h : EvA ta σ H vs) (k : ∀ H1, Ex H H1 → sp (vs ++ dvs) H1 (fun x H2 => tz D (σ.set i (some x)) H2) E) : tSeq (tAsg (tCall sp dvs E ta) (gName i)) tz D σ H := h H (Ex.refl H) _ k
theorem s_retC {sp : Sp} {dvs vs : List V} {E : XK} {ta : TA} (h : EvA ta σ H vs) (k : ∀ H1, Ex H H1 → sp (vs ++ dvs) H1 D.rt E) : tRet (tCall sp dvs E ta) D σ H := h H (Ex.refl H) _ k
theorem s_ifNC {sp : Sp} {dvs vs : List V} {E : XK} {ta : TA} (h : EvA ta σ H vs) (k : ∀ H1, Ex H H1 → sp (vs ++ dvs) H1 (fun x H2 => ∃ b, x = .bl b ∧ (b = false → tu D σ H2) ∧ (b = true → tw D σ H2)) E) (mono : ∀ H1 Q Q', (∀ x H, Q x H → Q' x H) → sp (vs ++ dvs) H1 Q E → sp (vs ++ dvs) H1 Q' E) :
    tIfS (tNot (tB (tCall sp dvs E ta))) tu tw D σ H := h H (Ex.refl H) _ fun H1 e1 => mono H1 _ _ (fun x H2 ⟨b, e, q1, q2⟩ => ⟨b, e, by
      cases b with
      | true => exact q2 rfl
      | false => exact q1 rfl⟩) (k H1 e1)
def RetD (K : PySem.W.Frag) (d : PyData) (H : Hp) (Q : VK) : Prop := ∀ v H2, Ex H H2 → Dp K H2 v d → Q v H2
theorem RetD.mono {d : PyData} {Q : VK} (k : RetD K d H Q) (e : Ex H H') : RetD K d H' Q := fun v H2 e2 => k v H2 (e.trans e2)
theorem ed_call {sp : Sp} {dvs vs : List V} {E : XK} {ta : TA} {d : PyData} (h : EvA ta σ H vs) (hs : ∀ H1, Ex H H1 → ∀ Q : VK, RetD K d H1 Q → sp (vs ++ dvs) H1 Q E) : EvD K (tCall sp dvs E ta) σ H d := fun H1 e Q q =>
  h H1 e _ fun H2 e2 => hs H2 (e.trans e2) Q fun v H3 e3 hd => q v H3 (e2.trans e3) hd
/-- a call whose second argument is a datum just made -/
theorem ev_callD2 {sp : Sp} {E : XK} {d : PyData} {u : V} (ha : Ev ta σ H x) (hb : EvD K tb σ H d) (hc : Ev tc σ H y) (hs : ∀ v H1, Ex H H1 → Dp K H1 v d → ∀ Q : VK, RetV u H1 Q → sp [x, v, y] H1 Q E) :
    Ev (tCall sp [] E (tCons ta (tCons tb (tCons tc tNil)))) σ H u := fun H1 e Q q => ha H1 e _ fun H2 e2 => hb H2 (e.trans e2) _ fun v H3 e3 hd => hc H3 ((e.trans e2).trans e3) _ fun H4 e4 =>
  hs v H4 (((e.trans e2).trans e3).trans e4) (hd.same e4) Q fun H5 e5 => q H5 (((e2.trans e3).trans e4).trans e5)
theorem ev_ofS {z : Str} (h : EvD K te σ H (.str z)) : Ev te σ H (.str z) := fun H1 e Q q => h H1 e Q fun v H2 e2 hd => by
  cases hd
  exact q H2 e2
/-- for i, y in enumerate(t) -/
theorem s_forE {i0 j0 : Nat} {ds : List PyData} (h : Ev te σ H x) (hd : Dp K H x (.tuple ds)) (Pv : Nat → L2.St → Hp → Prop) (h0 : ∀ H1, Ex H H1 → Pv 0 σ H1) (hx : ∀ i σ' H', Pv i σ' H' → Ex H H')
    (hs : ∀ i d y σ' H', ds[i]? = some d → Pv i σ' H' → ∀ H2, Ex H' H2 → Dp K H2 y d → tu { D with nx := Pv (i + 1), ct := Pv (i + 1), bk := D.nx } ((σ'.set i0 (some (.int (i : Int)))).set j0 (some y)) H2)
    (hn : ∀ σ' H', Pv ds.length σ' H' → D.nx σ' H') : tFor (iEnumT K (tCons te tNil)) (gTup K 2 (gCons (gName i0) (gCons (gName j0) gNil))) tu D σ H := by
  cases hd with
  | tup hq a =>
    rename_i p xs
    have hl := a.length
    refine h H (Ex.refl H) _ fun H1 e1 => ⟨p, xs, rfl, Same.seqT (show Same H H1 from e1) hq, ?_⟩
    refine for_it (walk_enumT (xs := xs)) Pv (h0 H1 e1) (fun i σ' H' _ hP => Same.seqT (show Same H H' from hx i σ' H' hP) hq) (fun i y σ' H' H2 hi hP hy => ?_) (by rw [hl]; exact hn)
    obtain ⟨T, y1, y2, rfl, hT, rfl, z1, z2⟩ := hy
    cases z1
    obtain ⟨d, hd1, hd2⟩ := a.get z2
    have e2 : Ex H' (upd H' T (.tup [.int (i : Nat), y2])) := Ex.new hT
    refine ⟨T, [.int (i : Nat), y2], rfl, .inl (.inl upd_same), rfl, .int (i : Nat), [y2], rfl, y2, [], rfl, rfl, ?_⟩
    exact hs i d y2 σ' H' hd1 hP _ e2 (hd2.same ((hx i σ' H' hP).trans e2))
theorem q_forE {i0 j0 : Nat} {ds : List PyData} (h : Ev te σ H x) (hd : Dp K H x (.tuple ds)) (Pv : Nat → L2.St → Hp → Prop) (h0 : ∀ H1, Ex H H1 → Pv 0 σ H1) (hx : ∀ i σ' H', Pv i σ' H' → Ex H H')
    (hs : ∀ i d y σ' H', ds[i]? = some d → Pv i σ' H' → ∀ H2, Ex H' H2 → Dp K H2 y d → tu { D with nx := Pv (i + 1), ct := Pv (i + 1), bk := tz D } ((σ'.set i0 (some (.int (i : Int)))).set j0 (some y)) H2)
    (hn : ∀ σ' H', Pv ds.length σ' H' → tz D σ' H') : tSeq (tFor (iEnumT K (tCons te tNil)) (gTup K 2 (gCons (gName i0) (gCons (gName j0) gNil))) tu) tz D σ H := s_forE (D := { D with nx := tz D }) h hd Pv h0 hx hs hn
theorem RetV.mono {Q : VK} (k : RetV v H Q) (e : Ex H H') : RetV v H' Q := fun H2 e2 => k H2 (e.trans e2)
end
end Evl
set_option Elab.async false
set_option linter.all false
set_option maxRecDepth 100000
set_option maxHeartbeats 4000000
/-! data behind a veil: some tracked addresses do not count -/
namespace Evl
open PySem L2
def hide (h : Addr → Bool) (H : Hp) : Hp := fun b => if h b = true then none else H b
theorem hide_ex {h : Addr → Bool} {H : Hp} : Ex (hide h H) H := fun b o e => by
  unfold hide at e
  split at e
  · cases e
  · exact e
theorem hide_of {h : Addr → Bool} {H H' : Hp} (e : Ex H H') : Ex (hide h H) (hide h H') := fun b o q => by
  unfold hide at q ⊢
  split at q
  · cases q
  · rename_i hn
    rw [if_neg hn]
    exact e b o q
/-- what is hidden is tracked -/
def Hd (h : Addr → Bool) (H : Hp) : Prop := ∀ b, h b = true → H b ≠ none
theorem Hd.ex {h : Addr → Bool} {H H' : Hp} (k : Hd h H) (e : Ex H H') : Hd h H' := fun b hb z => by
  cases q : H b with
  | none => exact k b hb q
  | some o => rw [e b o q] at z; cases z
theorem hide_at {h : Addr → Bool} {H1 H2 : Hp} {p : Addr} {o : HO} (k : Hd h H1) (hp : H1 p = none) (e : H2 p = some o) : hide h H2 p = some o := by
  unfold hide
  rw [if_neg (fun z => k p z hp)]
  exact e
theorem hide_le {h h' : Addr → Bool} {H : Hp} (hh : ∀ b, h b = true → h' b = true) : Ex (hide h' H) (hide h H) := fun b o q => by
  unfold hide at q ⊢
  split at q
  · cases q
  · rename_i hn
    rw [if_neg (fun z => hn (hh b z))]
    exact q
def cutD (ds : List PyData) (lo hi : Option Int) : List PyData := (ds.drop (HT.sIx ds.length 0 lo)).take (HT.sIx ds.length ds.length hi - HT.sIx ds.length 0 lo)
theorem cutD_to {ds : List PyData} {k : Nat} : cutD ds none (some (k : Int)) = ds.take k := by
  unfold cutD
  rw [HT.sIx_none, HT.sIx_nat]
  simp only [List.drop_zero, Nat.sub_zero]
  rw [← List.take_take, List.take_length]
theorem cutD_from {ds : List PyData} {k : Nat} : cutD ds (some (k : Int)) none = ds.drop k := by
  unfold cutD
  rw [HT.sIx_none, HT.sIx_nat]
  by_cases h : k ≤ ds.length
  · rw [Nat.min_eq_left h, ← List.length_drop, List.take_length]
  · have h' : ds.length ≤ k := by omega
    rw [Nat.min_eq_right h', List.drop_of_length_le h', List.drop_of_length_le (Nat.le_refl _)]
    simp
theorem cutD_last {ds : List PyData} : cutD ds none (some (-1)) = ds.take (ds.length - 1) := by
  unfold cutD
  have : HT.sIx ds.length ds.length (some (-1)) = ds.length - 1 := by
    show ((-1 : Int) + (ds.length : Int)).toNat = _
    omega
  rw [HT.sIx_none, this]
  simp only [List.drop_zero, Nat.sub_zero]
theorem cut_all {K : PySem.W.Frag} {H : Hp} {xs : List V} {ds : List PyData} (lo hi : Option Int) (a : DpAll K H xs ds) : DpAll K H (cutV xs lo hi) (cutD ds lo hi) := by
  unfold cutV cutD
  rw [a.length]
  exact (a.drop _).take _
section
variable {K : PySem.W.Frag} {σ : L2.St} {H H' : Hp} {ta tb tc te tx : TE} {t u : TT} {x y z v : V} {D : Ends} {tu tw tz : TS} {g : TG} {h : Addr → Bool}
def EvH (K : PySem.W.Frag) (h : Addr → Bool) (te : TE) (σ : L2.St) (H : Hp) (d : PyData) : Prop := ∀ H1, Ex H H1 → ∀ Q : VK, (∀ v H2, Ex H1 H2 → Dp K (hide h H2) v d → Q v H2) → te σ H1 Q
def EvHs (K : PySem.W.Frag) (h : Addr → Bool) (ta : TA) (σ : L2.St) (H : Hp) (ds : List PyData) : Prop := ∀ H1, Ex H H1 → ∀ Q : List V → Hp → Prop, (∀ vs H2, Ex H1 H2 → DpAll K (hide h H2) vs ds → Q vs H2) → ta σ H1 Q
/-- a new list -/
def EvHL (K : PySem.W.Frag) (h : Addr → Bool) (te : TE) (σ : L2.St) (H : Hp) (ds : List PyData) : Prop := ∀ H1, Ex H H1 → ∀ Q : VK, (∀ p vs H2, H1 p = none → Ex H1 H2 → H2 p = some (.lst vs) → DpAll K (hide h H2) vs ds → Q (.ref p) H2) → te σ H1 Q
theorem EvH.mono {d : PyData} (e : Ex H H') (k : EvH K h te σ H d) : EvH K h te σ H' d := fun H1 a Q q => k H1 (e.trans a) Q q
theorem EvHL.mono {d : List PyData} (e : Ex H H') (k : EvHL K h te σ H d) : EvHL K h te σ H' d := fun H1 a Q q => k H1 (e.trans a) Q q
theorem eh_of {d : PyData} (k : Ev te σ H v) (hd : Dp K (hide h H) v d) : EvH K h te σ H d := fun H1 e Q q => k H1 e Q fun H2 e2 => q v H2 e2 (hd.same (hide_of (e.trans e2)))
theorem eh_int {i : Int} (k : Ev te σ H (.int i)) : EvH K h te σ H (.int i) := fun H1 e Q q => k H1 e Q fun H2 e2 => q _ H2 e2 (.int i)
theorem eh_non (k : Ev te σ H .non) : EvH K h te σ H .none := fun H1 e Q q => k H1 e Q fun H2 e2 => q _ H2 e2 .non
theorem eh_bl {b : Bool} (k : Ev te σ H (.bl b)) : EvH K h te σ H (.bool b) := fun H1 e Q q => k H1 e Q fun H2 e2 => q _ H2 e2 (.bl b)
theorem eh_str {b : Str} (k : Ev te σ H (.str b)) : EvH K h te σ H (.str b) := fun H1 e Q q => k H1 e Q fun H2 e2 => q _ H2 e2 (.str b)
theorem ed_ofH {d : PyData} (k : EvH K h te σ H d) : EvD K te σ H d := fun H1 e Q q => k H1 e Q fun v H2 e2 hd => q v H2 e2 (hd.same hide_ex)
theorem ehs_nil : EvHs K h tNil σ H [] := fun H1 _ Q q => q [] H1 (Ex.refl H1) .nil
theorem ehs_cons {tr : TA} {d : PyData} {ds : List PyData} (k : EvH K h te σ H d) (kr : EvHs K h tr σ H ds) : EvHs K h (tCons te tr) σ H (d :: ds) := fun H1 e Q q =>
  k H1 e _ fun v H2 e2 hd => kr H2 (e.trans e2) _ fun vs H3 e3 ha => q _ H3 (e2.trans e3) (.cons (hd.same (hide_of e3)) ha)
theorem ehl_lst {ta : TA} {ds : List PyData} (hh : Hd h H) (k : EvHs K h ta σ H ds) (hz : ds.length ≤ 100000) : EvHL K h (tLst ta) σ H ds := fun H1 e Q q =>
  k H1 e _ fun vs H2 e2 ha => ⟨by have := ha.length; exact sz_of (by omega), fun p hp => q p vs _ (fresh_back e2 hp) (e2.trans (Ex.new hp)) upd_same (ha.same (hide_of (Ex.new hp)))⟩
theorem eh_lst {ds : List PyData} (hh : Hd h H) (k : EvHL K h te σ H ds) : EvH K h te σ H (.list ds) := fun H1 e Q q =>
  k H1 e Q fun p vs H2 hp e2 hl ha => q _ H2 e2 (.lst (.inl (.inl (hide_at (hh.ex e) hp hl))) ha)
theorem eh_tup {ta : TA} {ds : List PyData} (hh : Hd h H) (k : EvHs K h ta σ H ds) (hz : ds.length ≤ 100000) : EvH K h (tTup ta) σ H (.tuple ds) := fun H1 e Q q =>
  k H1 e _ fun vs H2 e2 ha => ⟨by have := ha.length; exact sz_of (by omega), fun p hp => q _ _ (e2.trans (Ex.new hp)) (.tup (.inl (.inl (hide_at (hh.ex (e.trans e2)) hp upd_same))) (ha.same (hide_of (Ex.new hp))))⟩
theorem eh_cat {xs ys : List PyData} (hh : Hd h H) (ka : EvH K h ta σ H (.tuple xs)) (kb : EvH K h tb σ H (.tuple ys)) (hz : xs.length + ys.length ≤ 100000) : EvH K h (tOp (rCatA K) ta tb) σ H (.tuple (xs ++ ys)) := fun H1 e Q q =>
  ka H1 e _ fun v H2 e2 hv => kb H2 (e.trans e2) _ fun w H3 e3 hw => by
    have hv3 := hv.same (hide_of (h := h) e3)
    have e23 := e2.trans e3
    cases hv3 with
    | tup hs ha =>
      cases hw with
      | tup hs2 hb =>
        rename_i a xv b yv
        have l1 := ha.length
        have l2 := hb.length
        refine ⟨a, b, xv, yv, rfl, rfl, Same.seqT (show Same _ _ from hide_ex) hs, Same.seqT (show Same _ _ from hide_ex) hs2, sz_of (by omega), fun e1 => ?_, fun _ e1 => ?_, fun _ _ p hp => ?_⟩
        · subst e1
          cases ha
          exact q _ H3 e23 (.tup hs2 hb)
        · subst e1
          cases hb
          rw [List.append_nil] at q
          exact q _ H3 e23 (.tup hs ha)
        · exact q _ _ (e23.trans (Ex.new hp)) (.tup (.inl (.inl (hide_at (hh.ex (e.trans e23)) hp upd_same))) ((ha.append hb).same (hide_of (Ex.new hp))))
theorem eh_sl {tl th : TO} {ds : List PyData} {lo hi : Option Int} (hh : Hd h H) (ka : EvH K h ta σ H (.tuple ds)) (kl : EvO tl σ H lo) (kh : EvO th σ H hi) : EvH K h (tSl (rSlA K) ta tl th) σ H (.tuple (cutD ds lo hi)) := fun H1 e Q q =>
  ka H1 e _ fun v H2 e2 hv => kl H2 (e.trans e2) _ fun H3 e3 => kh H3 ((e.trans e2).trans e3) _ fun H4 e4 => by
    have hv3 := hv.same (hide_of (h := h) (e3.trans e4))
    have e24 := (e2.trans e3).trans e4
    cases hv3 with
    | tup hs ha =>
      rename_i a xv
      have hc := cut_all lo hi ha
      refine ⟨a, xv, rfl, Same.seqT (show Same _ _ from hide_ex) hs, fun hw => ?_, fun _ p hp => ?_⟩
      · rw [cut_whole hw] at hc
        exact q _ H4 e24 (.tup hs hc)
      · exact q _ _ (e24.trans (Ex.new hp)) (.tup (.inl (.inl (hide_at (hh.ex (e.trans e24)) hp upd_same))) (hc.same (hide_of (Ex.new hp))))
theorem ehl_sl {tl th : TO} {ds : List PyData} {lo hi : Option Int} (hh : Hd h H) (ka : EvH K h ta σ H (.list ds)) (kl : EvO tl σ H lo) (kh : EvO th σ H hi) : EvHL K h (tSl (rSlL K) ta tl th) σ H (cutD ds lo hi) := fun H1 e Q q =>
  ka H1 e _ fun v H2 e2 hv => kl H2 (e.trans e2) _ fun H3 e3 => kh H3 ((e.trans e2).trans e3) _ fun H4 e4 => by
    have hv3 := hv.same (hide_of (h := h) (e3.trans e4))
    have e24 := (e2.trans e3).trans e4
    cases hv3 with
    | lst hs ha =>
      rename_i a xv
      have hc := cut_all lo hi ha
      exact ⟨a, xv, rfl, Same.seq (show Same _ _ from hide_ex) hs, fun p hp => q p _ _ (fresh_back e24 hp) (e24.trans (Ex.new hp)) upd_same (hc.same (hide_of (Ex.new hp)))⟩
theorem ehl_cat {xs ys : List PyData} (hh : Hd h H) (ka : EvHL K h ta σ H xs) (kb : EvHL K h tb σ H ys) (hz : xs.length + ys.length ≤ 100000) : EvHL K h (tOp rCat ta tb) σ H (xs ++ ys) := fun H1 e Q q =>
  ka H1 e _ fun a xv H2 h1 e2 ha1 ha2 => kb H2 (e.trans e2) _ fun b yv H3 h3 e3 hb1 hb2 => by
    have l1 := ha2.length
    have l2 := hb2.length
    exact ⟨a, b, xv, yv, rfl, rfl, e3 a _ ha1, hb1, sz_of (by omega), fun p hp => q p _ _ (fresh_back (e2.trans e3) hp) ((e2.trans e3).trans (Ex.new hp)) upd_same (((ha2.same (hide_of e3)).append hb2).same (hide_of (Ex.new hp)))⟩
/-- list(t) -/
theorem eh_list {ds : List PyData} (hh : Hd h H) (ka : EvH K h ta σ H (.tuple ds)) : EvH K h (tCB (rListS K) (tCons ta tNil)) σ H (.list ds) := fun H1 e Q q =>
  ka H1 e _ fun v H2 e2 hv => by
    cases hv with
    | tup hs ha =>
      rename_i a xv
      exact ⟨a, xv, rfl, .inr (Same.seqT (show Same _ _ from hide_ex) hs), fun p hp => q _ _ (e2.trans (Ex.new hp)) (.lst (.inl (.inl (hide_at (hh.ex (e.trans e2)) hp upd_same))) (ha.same (hide_of (Ex.new hp))))⟩
theorem eh_ix {ds : List PyData} {d : PyData} {i : Nat} (ha : EvH K h ta σ H (.tuple ds)) (hb : Ev tb σ H (.int (i : Int))) (hd : ds[i]? = some d) : EvH K h (tOp (rIxT K) ta tb) σ H d := fun H1 e Q q =>
  ha H1 e _ fun v H2 e2 hv => by
    cases hv with
    | tup hs a =>
      rename_i p xs
      refine hb H2 (e.trans e2) _ fun H3 e3 => ?_
      have hl := a.length
      have hi : i < ds.length := (List.getElem?_eq_some_iff.mp hd).1
      obtain ⟨w, hw⟩ : ∃ w, xs[i]? = some w := ⟨xs[i]'(by omega), List.getElem?_eq_getElem _⟩
      obtain ⟨d', h1, h2⟩ := a.get hw
      rw [hd] at h1
      cases h1
      refine ⟨p, xs, (i : Int), w, rfl, rfl, Same.seqT (show Same _ H3 from hide_ex.trans e3) hs, ?_, q w H3 (e2.trans e3) (h2.same (hide_of e3))⟩
      unfold atI
      rw [ixN_nat (by omega)]
      exact hw
/-- x = e, a datum -/
theorem s_asgH {i : Nat} {d : PyData} (k : EvH K h te σ H d) (q : ∀ v H1, Ex H H1 → Dp K (hide h H1) v d → D.nx (σ.set i (some v)) H1) : tAsg te (gName i) D σ H := k H (Ex.refl H) _ q
theorem q_asgH {i : Nat} {d : PyData} (k : EvH K h te σ H d) (q : ∀ v H1, Ex H H1 → Dp K (hide h H1) v d → tz D (σ.set i (some v)) H1) : tSeq (tAsg te (gName i)) tz D σ H := s_asgH (D := { D with nx := tz D }) k q
theorem s_asgHL {i : Nat} {ds : List PyData} (k : EvHL K h te σ H ds) (q : ∀ p vs H1, H p = none → Ex H H1 → H1 p = some (.lst vs) → DpAll K (hide h H1) vs ds → D.nx (σ.set i (some (.ref p))) H1) : tAsg te (gName i) D σ H := k H (Ex.refl H) _ fun p vs H1 a b c d => q p vs H1 a b c d
theorem q_asgHL {i : Nat} {ds : List PyData} (k : EvHL K h te σ H ds) (q : ∀ p vs H1, H p = none → Ex H H1 → H1 p = some (.lst vs) → DpAll K (hide h H1) vs ds → tz D (σ.set i (some (.ref p))) H1) : tSeq (tAsg te (gName i)) tz D σ H := s_asgHL (D := { D with nx := tz D }) k q
/-- tuple(l), l a new list -/
def rTupOf (K : PySem.W.Frag) : List V → Hp → VK → Prop := fun xs H Q => ∃ p ys, xs = [.ref p] ∧ ((SqL K H p ys ∧ ∀ l, H l = none → Q (.ref l) (upd H l (.tup ys))) ∨ (SqT K H p ys ∧ Q (.ref p) H))
theorem eu_tupOf {xs : List V} (k : EvL ta σ H xs) : EvU (tCB (rTupOf K) (tCons ta tNil)) σ H xs := fun H1 e Q q =>
  k H1 e _ fun p H2 hp e2 hl => ⟨p, xs, rfl, .inl ⟨sq_of hl, fun l h0 => q l _ (fresh_back e2 h0) (e2.trans (Ex.new h0)) upd_same⟩⟩
/-- [e for j in range(n)], each e a new tuple -/
theorem el_lcU {ta : TA} {j : Nat} {vs : List Nat} {n : Nat} (row : Nat → List V) (k : EvA ta σ H [.int (n : Int)]) (hn : n ≤ 40000) (hw : ∀ x, wipe ((wipe σ vs).set j (some x)) vs = wipe σ vs)
    (he : ∀ (i : Nat) H1, Ex H H1 → i < n → EvU te ((wipe σ vs).set j (some (.int (i : Int)))) H1 (row i)) :
    ∀ H1, Ex H H1 → ∀ Q : VK, (∀ p (ps : List Addr) H2, H1 p = none → Ex H1 H2 → H2 p = some (.lst (ps.map V.ref)) → ps.length = n → (∀ (i : Nat) b, ps[i]? = some b → H1 b = none ∧ H2 b = some (.tup (row i))) → Q (.ref p) H2) → tLc (iRng1 ta) (gName j) tYes te vs σ H1 Q := fun H0 e Q q =>
  k H0 e _ fun H1 e1 => ⟨(n : Int), rfl, by omega, by omega, fun Dl hD =>
  lc_range (lo := 0) (n := (n : Int).toNat) (fun i H' => H1 Dl = none ∧ Ex H1 H' ∧ ∃ ps : List Addr, ps.length = i ∧ H' Dl = some (.lst (ps.map V.ref)) ∧ ∀ (m : Nat) b, ps[m]? = some b → (H1 b = none ∧ b ≠ Dl) ∧ H' b = some (.tup (row m)))
    ⟨hD, Ex.new hD, [], rfl, upd_same, fun m b hb => by cases hb⟩ (fun i H' hi p => by
    have e0 : (0 : Int) + (i : Int) = (i : Int) := Int.zero_add _
    have hi' : i < n := by omega
    show wipe ((wipe σ vs).set j (some (.int ((0 : Int) + (i : Int))))) vs = wipe σ vs ∧ tYes ((wipe σ vs).set j (some (.int ((0 : Int) + (i : Int))))) H' fun b H3 => if b = true then te ((wipe σ vs).set j (some (.int ((0 : Int) + (i : Int))))) H3 fun y H4 => ∃ acc, H4 Dl = some (.lst acc) ∧ acc.length < sizeLine ∧ _ else _
    rw [e0]
    refine ⟨hw _, ?_⟩
    obtain ⟨p1, p2, ps, pl, pd, pa⟩ := p
    show te ((wipe σ vs).set j (some (.int (i : Int)))) H' fun y H4 => ∃ acc, H4 Dl = some (.lst acc) ∧ acc.length < sizeLine ∧ _
    refine he i H' ((e.trans e1).trans p2) hi' H' (Ex.refl _) _ fun b H4 hb e4 h4 => ⟨ps.map V.ref, e4 _ _ pd, by rw [List.length_map, pl]; exact sz_lt (by omega), p1, ?_, ps ++ [b], by simp [pl], ?_, ?_⟩
    · exact Ex.mut (p2.trans e4) p1
    · rw [List.map_append]
      exact upd_same
    · intro m c hc
      have bD : b ≠ Dl := fun z => by
        rw [z, pd] at hb
        cases hb
      by_cases hm : m < ps.length
      · rw [List.getElem?_append_left hm] at hc
        obtain ⟨⟨q1, q2⟩, q3⟩ := pa m c hc
        exact ⟨⟨q1, q2⟩, (upd_ne q2).trans (e4 _ _ q3)⟩
      · rw [List.getElem?_append_right (by omega)] at hc
        have hm' : m = ps.length := by
          cases hz : m - ps.length with
          | zero => omega
          | succ r => rw [hz] at hc; cases hc
        rw [hm', Nat.sub_self] at hc
        cases hc
        exact ⟨⟨fresh_back p2 hb, bD⟩, (upd_ne bD).trans (by rw [hm', pl]; exact h4)⟩)
    (fun H' p => by
      obtain ⟨p1, p2, ps, pl, pd, pa⟩ := p
      exact q Dl ps H' (fresh_back e1 p1) (e1.trans p2) pd (by omega) fun i b hb => ⟨fresh_back e1 (pa i b hb).1.1, (pa i b hb).2⟩)⟩
end
end Evl
set_option Elab.async false
set_option linter.all false
set_option maxRecDepth 100000
set_option maxHeartbeats 4000000
namespace K51
open PySem PySem.Spec PyProof.Rows L2 Evl
abbrev topS (i : Nat) : Stmt := PySem.Challenge.pw_judgedunrun_k51_whole_talks_and_their_pi.main.body.getD i (.Pass ⟨0, 0, 0, 0⟩)
abbrev FnP (K : PySem.W.Frag) (x : Str) (st : Stmt) (f : Addr) (fd : FuncData) : Prop := FunD K x x (defArgs st) (defBody st) (defScope st) [] [] f fd
/-! ### the mirrors -/
def numD : PyData → Bool
  | .int _ => true
  | _ => false
def betD (d : PyData) (lo hi : Int) : Bool := match d with
  | .int i => decide (lo ≤ i) && decide (i ≤ hi)
  | _ => false
theorem numD_is (d : PyData) : (isD "int" d && !isD "bool" d) = numD d := by cases d <;> rfl
def numsD (p : Int) (d : PyData) : Bool := match d with
  | .tuple ds => ds.all fun x => betD x 0 (p - 1)
  | _ => false
def lenD : PyData → Nat
  | .tuple ds => ds.length
  | _ => 0
def tupD (d : PyData) (n : Int) : Bool := match d with
  | .tuple ds => (ds.length : Int) == n
  | _ => false
def fields : List Int := [41, 97, 193, 641, 7681, 12289, 40961]
def mosts : List Int := [2, 8, 16, 32, 128, 1024, 2048]
def fldB (p : Int) : Bool := (decide ((41 : Int) ≤ p) && decide (p ≤ 40961)) && inV (.int p) (fields.map V.int)
/-- the fields that the law asks for, and how many doublings fit -/
def Fld (p : Int) (k : Nat) : Prop := (p = 41 ∧ k = 1) ∨ (p = 97 ∧ k = 3) ∨ (p = 193 ∧ k = 4) ∨ (p = 641 ∧ k = 5) ∨ (p = 7681 ∧ k = 7)
def szs (k : Nat) : List V := (List.range k).map fun i => V.int (2 ^ (i + 1))
def sizD (k : Nat) (d : PyData) : Bool := match d with
  | .int i => (decide ((2 : Int) ≤ i) && decide (i ≤ 2 ^ k)) && inV (.int i) (szs k)
  | _ => false
/-! ### promises -/
section
variable (K : PySem.W.Frag)
def spNum : Sp := fun vs H Q _ => ∃ v d, vs = [v] ∧ Dp K H v d ∧ RetV (.bl (numD d)) H Q
def spBet : Sp := fun vs H Q _ => ∃ v d lo hi, vs = [v, .int lo, .int hi] ∧ Dp K H v d ∧ RetV (.bl (betD d lo hi)) H Q
def spTup : Sp := fun vs H Q _ => ∃ v d n, vs = [v, .int n] ∧ Dp K H v d ∧ lenD d ≤ sizeLine ∧ RetV (.bl (tupD d n)) H Q
def spNeedBet (C : Addr) : Sp := fun vs H Q E => ∃ v d lo hi part, vs = [v, .int lo, .int hi, .str part] ∧ Dp K H v d ∧ (betD d lo hi = true → RetV .non H Q) ∧ (betD d lo hi = false → Thr C "part" (.str part) H E)
def spIsFld : Sp := fun vs H Q _ => ∃ p, vs = [.int p] ∧ RetV (.bl (fldB p)) H Q
def spNeedFld (CF : Addr) : Sp := fun vs H Q E => ∃ p, vs = [.int p] ∧ (fldB p = true → RetV .non H Q) ∧ (fldB p = false → ∀ H', Ex H H' → E (.ref CF) none H')
def spNums : Sp := fun vs H Q _ => ∃ p v d, vs = [.int p, v] ∧ Dp K H v d ∧ lenD d ≤ 40000 ∧ RetV (.bl (numsD p d)) H Q
def spMost : Sp := fun vs H Q _ => ∃ p k, vs = [.int p] ∧ Fld p k ∧ RetV (.int (2 ^ k)) H Q
def spSizes : Sp := fun vs H Q _ => ∃ p k, vs = [.int p] ∧ Fld p k ∧ RetL (szs k) H Q
end
/-- what the head leaves: names of built-ins, classes, tables -/
structure Bf (P : Program) (K : PySem.W.Frag) (mg : Str → Option Value) (CN CF CT fN fT aF aM : Addr) : Prop where
  isi : mg "isinstance" = none
  int : mg "int" = none
  bool : mg "bool" = none
  tuple : mg "tuple" = none
  list : mg "list" = none
  len : mg "len" = none
  all : mg "all" = none
  abs : mg "abs" = none
  range : mg "range" = none
  enumerate : mg "enumerate" = none
  min : mg "min" = none
  repr : mg "repr" = none
  xN : JX.SupTxt P K mg CN fN "BadNumber" "a number is wrong" "part"
  xT : JX.SupTxt P K mg CT fT "BadTalk" "no talk" "at"
  xF : BareX K mg CF "BadField"
  gF : mg "FIELDS" = some (.ref aF)
  gM : mg "MOST_ROWS" = some (.ref aM)
  tF : ∀ H, SqT K H aF (fields.map V.int)
  tM : ∀ H, SqT K H aM (mosts.map V.int)
  kF : ∃ o, K.lookup aF = some o ∧ o.cls = .type "tuple" ∧ o.dict = none
  gFM : ∃ t, mg "FIRST_MANY" = some (.int 50 t)
  gSM : ∃ t, mg "SECOND_MANY" = some (.int 18 t)
theorem b_int : bootBuiltins "int" = some (.type "int") := by decide +kernel
theorem b_bool : bootBuiltins "bool" = some (.type "bool") := by decide +kernel
theorem b_tuple : bootBuiltins "tuple" = some (.type "tuple") := by decide +kernel
theorem b_list : bootBuiltins "list" = some (.type "list") := by decide +kernel
section
variable {P : Program} {w : World} {K : PySem.W.Frag} {mg : Str → Option Value} {base : Heap} {CN CF CT fN fT aF aM : Addr}
/-! ### kinds -/
abbrev s_is_number : Stmt := topS 6
theorem sc_is_number : FnScope ["thing"] ["thing"] (defScope s_is_number) := ⟨rfl, rfl, rfl, by decide +kernel, rfl, by decide +kernel, by decide +kernel⟩
theorem ok_is_number {f : Addr} {fd : FuncData} (F : FnP K "is_number" s_is_number f fd) (B : Bf P K mg CN CF CT fN fT aF aM) : FnOk P w K mg base CX0 1 f fd ["thing"] (spNum K) := by
  refine F.ok sc_is_number (fun vs H Q E h => ?_) (fun cdv A outer s H vs Q E hr h => ⟨_, (PSs.nox (pss_one (ps_ret (pe_and (pe_callB call_isi (by rfl) B.isi (by decide +kernel) (pa_cons (pv 0) (pa_cons (pe_bltn (v := .ty "int") (by rfl) B.int b_int rfl) pa_nil))) (pe_one (pe_not (pe_callB call_isi (by rfl) B.isi (by decide +kernel) (pa_cons (pv 0) (pa_cons (pe_bltn (v := .ty "bool") (by rfl) B.bool b_bool rfl) pa_nil))))))))), ?_⟩)
  · obtain ⟨v, d, rfl, _⟩ := h
    rfl
  · obtain ⟨v, d, rfl, hd, q⟩ := h
    refine s_ret (ev_is (ev_andV (ev_isi (ev_var rfl) hd) fun _ => ev_notV (ev_isi (ev_var rfl) hd)) ?_) q
    rw [numD_is]
abbrev s_is_between : Stmt := topS 7
theorem sc_is_between : FnScope ["thing", "low", "high"] ["thing", "low", "high"] (defScope s_is_between) := ⟨rfl, rfl, rfl, by decide +kernel, rfl, by decide +kernel, by decide +kernel⟩
theorem ok_is_between {f : Addr} {fd : FuncData} (F : FnP K "is_between" s_is_between f fd) (D1 : Dn P w K mg base CX0 1 "is_number" ["thing"] (spNum K)) : FnOk P w K mg base CX0 2 f fd ["thing", "low", "high"] (spBet K) := by
  refine F.ok sc_is_between (fun vs H Q E h => ?_) (fun cdv A outer s H vs Q E hr h => ⟨_, (PSs.nox (pss_one (ps_ret (pe_and (pe_d D1 hr (by decide) (pa_cons (pv 0) pa_nil)) (pe_one (pe_chain op_le op_le (pv 1) (pv 0) (pv 2))))))), ?_⟩)
  · obtain ⟨v, d, lo, hi, rfl, _⟩ := h
    rfl
  · obtain ⟨v, d, lo, hi, rfl, hd, q⟩ := h
    refine s_ret (Evl.ev_is (v := .bl (numD d && betD d lo hi)) (ev_andV (ev_call (ea_cons (ev_var rfl) ea_nil) (SpV.of fun H1 e Q q E => ⟨v, d, rfl, hd.same e, q⟩)) fun hn => ?_) ?_) q
    · cases hd <;> first | (exact absurd hn Bool.false_ne_true) | skip
      rename_i i
      exact ev_chain (f := fun a b => decide (a ≤ b)) (g := fun a b => decide (a ≤ b)) (ev_var (v := .int lo) rfl) (ev_var (v := .int i) rfl) (ev_var (v := .int hi) rfl)
    · cases d <;> rfl
abbrev s_is_tuple : Stmt := topS 8
theorem sc_is_tuple : FnScope ["thing", "size"] ["thing", "size"] (defScope s_is_tuple) := ⟨rfl, rfl, rfl, by decide +kernel, rfl, by decide +kernel, by decide +kernel⟩
theorem ok_is_tuple {f : Addr} {fd : FuncData} (F : FnP K "is_tuple" s_is_tuple f fd) (B : Bf P K mg CN CF CT fN fT aF aM) : FnOk P w K mg base CX0 1 f fd ["thing", "size"] (spTup K) := by
  refine F.ok sc_is_tuple (fun vs H Q E h => ?_) (fun cdv A outer s H vs Q E hr h => ⟨_, (PSs.nox (pss_one (ps_ret (pe_and (pe_callB call_isi (by rfl) B.isi (by decide +kernel) (pa_cons (pv 0) (pa_cons (pe_bltn (v := .ty "tuple") (by rfl) B.tuple b_tuple rfl) pa_nil))) (pe_one (pe_cmpR op_eq (pe_callB call_len_seq (by rfl) B.len (by decide +kernel) (pa_cons (pv 0) pa_nil)) (pv 1) (nomark _))))))), ?_⟩)
  · obtain ⟨v, d, n, rfl, _⟩ := h
    rfl
  · obtain ⟨v, d, n, rfl, hd, hz, q⟩ := h
    refine s_ret (Evl.ev_is (v := .bl (isD "tuple" d && tupD d n)) (ev_andV (ev_isi (ev_var rfl) hd) fun hn => ?_) ?_) q
    · cases d <;> first | (exact absurd hn Bool.false_ne_true) | skip
      rename_i ds
      refine Evl.ev_is (ev_op (ev_lenD (evD_of (ev_var rfl) hd)) (ev_var rfl) (rv_eq rfl)) ?_
      rw [dec_int]
      rfl
    · cases d <;> rfl
abbrev s_need_between : Stmt := topS 9
theorem sc_need_between : FnScope ["number", "low", "high", "part"] ["number", "low", "high", "part"] (defScope s_need_between) := ⟨rfl, rfl, rfl, by decide +kernel, rfl, by decide +kernel, by decide +kernel⟩
theorem ok_need_between {f : Addr} {fd : FuncData} (F : FnP K "need_between" s_need_between f fd) (B : Bf P K mg CN CF CT fN fT aF aM) (D1 : Dn P w K mg base CX0 2 "is_between" ["thing", "low", "high"] (spBet K)) : FnOk P w K mg base (CX P w) 4 f fd ["number", "low", "high", "part"] (spNeedBet K CN) := by
  refine F.ok sc_need_between (fun vs H Q E h => ?_) (fun cdv A outer s H vs Q E hr h => ⟨_, (pss_one (ps_if (pt_not (pt_val (pe_d D1 hr (by decide) (pa_cons (pv 0) (pa_cons (pv 1) (pa_cons (pv 2) pa_nil)))))) (pss_one (ps_raiseSup (W := fun cls d _ H' => E cls d H') (k := 3) rfl B.xN hr (takes_of rfl rfl rfl rfl) (pa_cons (pv 3) pa_nil) (by rfl))) pss_nil)), ?_⟩)
  · obtain ⟨v, d, lo, hi, part, rfl, _⟩ := h
    rfl
  · obtain ⟨v, d, lo, hi, part, rfl, hd, q1, q2⟩ := h
    refine s_if (et_not (et_B (ev_call (ea_cons (ev_var rfl) (ea_cons (ev_var rfl) (ea_cons (ev_var rfl) ea_nil))) (SpV.of fun H1 e Q q E => ⟨v, d, lo, hi, rfl, hd.same e, q⟩)))) (fun hb H1 e => ?_) (fun hb H1 e => ?_)
    · exact s_thr (ea_cons (ev_var rfl) ea_nil) ((q2 (by simpa using hb)).go e)
    · exact q1 (by simpa using hb) H1 e
end
end K51
set_option Elab.async false
set_option linter.all false
set_option maxRecDepth 100000
set_option maxHeartbeats 4000000
namespace K51
open PySem PySem.Spec PyProof.Rows L2 Evl
section
variable {P : Program} {w : World} {K : PySem.W.Frag} {mg : Str → Option Value} {base : Heap} {CN CF CT fN fT aF aM : Addr}
abbrev s_is_field : Stmt := topS 13
theorem sc_is_field : FnScope ["thing"] ["thing"] (defScope s_is_field) := ⟨rfl, rfl, rfl, by decide +kernel, rfl, by decide +kernel, by decide +kernel⟩
theorem ok_is_field {f : Addr} {fd : FuncData} (F : FnP K "is_field" s_is_field f fd) (B : Bf P K mg CN CF CT fN fT aF aM) (D1 : Dn P w K mg base CX0 2 "is_between" ["thing", "low", "high"] (spBet K)) : FnOk P w K mg base CX0 3 f fd ["thing"] spIsFld := by
  refine F.ok sc_is_field (fun vs H Q E h => ?_) (fun cdv A outer s H vs Q E hr h => ⟨_, (PSs.nox (pss_one (ps_ret (pe_and (pe_d D1 hr (by decide) (pa_cons (pv 0) (pa_cons (pe_ix ix_tup (pe_glob (v := .ref aF) (by rfl) B.gF rfl) pe_int (fun _ _ => rfl)) (pa_cons (pe_ix ix_tup (pe_glob (v := .ref aF) (by rfl) B.gF rfl) (pe_un un_neg pe_int) (fun _ _ => rfl)) pa_nil)))) (pe_one (pe_cmpR op_in_seq (pv 0) (pe_glob (v := .ref aF) (by rfl) B.gF rfl) (by with_unfolding_all rfl))))))), ?_⟩)
  · obtain ⟨p, rfl, _⟩ := h
    rfl
  · obtain ⟨p, rfl, q⟩ := h
    refine s_ret (ev_andV (ev_call (ea_cons (ev_var rfl) (ea_cons (ev_op ev_c ev_c (rv_ixT (v := .int 41) (B.tF _) rfl)) (ea_cons (ev_op ev_c (ev_un ev_c ru_neg) (rv_ixT (v := .int 40961) (B.tF _) rfl)) ea_nil))) (SpV.of fun H1 e Q q E => ⟨_, _, _, _, rfl, .int p, q⟩)) fun _ => ev_op (ev_var rfl) ev_c (rv_isT (B.tF _) rfl (flat_ints _))) q
abbrev s_need_field : Stmt := topS 14
theorem sc_need_field : FnScope ["p"] ["p"] (defScope s_need_field) := ⟨rfl, rfl, rfl, by decide +kernel, rfl, by decide +kernel, by decide +kernel⟩
theorem ok_need_field {f : Addr} {fd : FuncData} (F : FnP K "need_field" s_need_field f fd) (B : Bf P K mg CN CF CT fN fT aF aM) (D1 : Dn P w K mg base CX0 3 "is_field" ["thing"] spIsFld) : FnOk P w K mg base (CX P w) 4 f fd ["p"] (spNeedFld CF) := by
  refine F.ok sc_need_field (fun vs H Q E h => ?_) (fun cdv A outer s H vs Q E hr h => ⟨_, (pss_one (ps_if (pt_not (pt_val (pe_d D1 hr (by decide) (pa_cons (pv 0) pa_nil)))) (pss_one (ps_raise0 (W := fun cls d _ H' => E cls d H') rfl B.xF (takes_of rfl rfl rfl rfl) (by rfl))) pss_nil)), ?_⟩)
  · obtain ⟨p, rfl, _⟩ := h
    rfl
  · obtain ⟨p, rfl, q1, q2⟩ := h
    refine s_if (et_not (et_B (ev_call (ea_cons (ev_var rfl) ea_nil) (SpV.of fun H1 e Q q E => ⟨p, rfl, q⟩)))) (fun hb H1 e => ?_) (fun hb H1 e => ?_)
    · exact q2 (by simpa using hb) H1 e
    · exact q1 (by simpa using hb) H1 e
abbrev s_are_numbers : Stmt := topS 15
theorem sc_are_numbers : FnScope ["p", "thing", "x"] ["p", "thing"] (defScope s_are_numbers) := ⟨rfl, rfl, rfl, by decide +kernel, rfl, by decide +kernel, by decide +kernel⟩
theorem ok_are_numbers {f : Addr} {fd : FuncData} (F : FnP K "are_numbers" s_are_numbers f fd) (B : Bf P K mg CN CF CT fN fT aF aM) (D1 : Dn P w K mg base CX0 2 "is_between" ["thing", "low", "high"] (spBet K)) : FnOk P w K mg base CX0 3 f fd ["p", "thing"] (spNums K) := by
  refine F.ok sc_are_numbers (fun vs H Q E h => ?_) (fun cdv A outer s H vs Q E hr h => ⟨_, (PSs.nox (pss_one (ps_ret (pe_and (pe_callB call_isi (by rfl) B.isi (by decide +kernel) (pa_cons (pv 1) (pa_cons (pe_bltn (v := .ty "tuple") (by rfl) B.tuple b_tuple rfl) pa_nil))) (pe_one (pe_callB (cr_all rfl) (by rfl) B.all (by decide +kernel) (pa_cons (pe_lc (own := [("x", 2)]) (by rfl) sc_are_numbers.nd (pi_tup (pv 1)) (blkOk_by (own := [("x", 2)]) (by kernel_rfl)) (fun _ _ _ _ _ => pg_name (i := 2) sc_are_numbers.nd rfl (.inl rfl)) (fun _ _ _ _ _ => pts_nil) (fun _ _ _ _ _ => (pe_d D1 hr (by decide) (pa_cons (pv 2) (pa_cons pe_int (pa_cons (pe_op op_sub (pv 0) pe_int) pa_nil)))))) pa_nil))))))), ?_⟩)
  · obtain ⟨p, v, d, rfl, _⟩ := h
    rfl
  · obtain ⟨p, v, d, rfl, hd, hz, q⟩ := h
    refine s_ret (Evl.ev_is (v := .bl (isD "tuple" d && numsD p d)) (ev_andV (ev_isi (ev_var rfl) hd) fun hn => ?_) ?_) q
    · cases d <;> first | (exact absurd hn Bool.false_ne_true) | skip
      rename_i ds
      exact ev_allT (fun x => betD x 0 (p - 1)) hd (ev_var rfl) hz (fun _ => rfl) fun y d H1 e _ hy => ev_call (ea_cons (ev_var rfl) (ea_cons ev_c (ea_cons (ev_op (ev_var rfl) ev_c rv_I0) ea_nil))) (SpV.of fun H2 e2 Q q E => ⟨y, d, 0, p - 1, rfl, hy.same e2, q⟩)
    · cases d <;> rfl
abbrev s_most_rows : Stmt := topS 16
theorem sc_most_rows : FnScope ["p"] ["p"] (defScope s_most_rows) := ⟨rfl, rfl, rfl, by decide +kernel, rfl, by decide +kernel, by decide +kernel⟩
theorem ok_most_rows {f : Addr} {fd : FuncData} (F : FnP K "most_rows" s_most_rows f fd) (B : Bf P K mg CN CF CT fN fT aF aM) : FnOk P w K mg base CX0 1 f fd ["p"] spMost := by
  refine F.ok sc_most_rows (fun vs H Q E h => ?_) (fun cdv A outer s H vs Q E hr h => ⟨_, (PSs.nox (pss_one (ps_ret (pe_ix ix_tup (pe_glob (v := .ref aM) (by rfl) B.gM rfl) (pe_bm PySem.F.plainAttrs_tuple PySem.F.slot_tuple_index PySem.F.type_tuple_index mt_tindexI (pe_glob (v := .ref aF) (by rfl) B.gF rfl) (pa_cons (pv 0) pa_nil)) (fun _ _ => rfl))))), ?_⟩)
  · obtain ⟨p, k, rfl, _⟩ := h
    rfl
  · obtain ⟨p, k, rfl, hp, q⟩ := h
    have key : ∃ j : Nat, fields[j]? = some p ∧ (∀ m, m < j → fields[m]? ≠ some p) ∧ atI (mosts.map V.int) (j : Int) = some (.int (2 ^ k)) := by
      rcases hp with ⟨rfl, rfl⟩ | ⟨rfl, rfl⟩ | ⟨rfl, rfl⟩ | ⟨rfl, rfl⟩ | ⟨rfl, rfl⟩
      · exact ⟨0, rfl, by decide, rfl⟩
      · exact ⟨1, rfl, by decide, rfl⟩
      · exact ⟨2, rfl, by decide, rfl⟩
      · exact ⟨3, rfl, by decide, rfl⟩
      · exact ⟨4, rfl, by decide, rfl⟩
    obtain ⟨j, k1, k2, k3⟩ := key
    refine s_ret (ev_op (y := .int (j : Nat)) ev_c (fun H1 e Q q => ?_) (rv_ixT (B.tM _) k3)) q
    exact ⟨.inr (.inl ⟨rfl, B.kF⟩), ea_cons (ev_var rfl) ea_nil H1 e _ fun H2 e2 => ⟨aF, fields, p, j, rfl, rfl, B.tF _, k1, k2, q H2 e2⟩⟩
end
end K51
set_option Elab.async false
set_option linter.all false
set_option maxRecDepth 100000
set_option maxHeartbeats 4000000
namespace K51
open PySem PySem.Spec PyProof.Rows L2 Evl
theorem p2c (a : Nat) : (2 : Int) ^ a = ((2 ^ a : Nat) : Int) := by
  rw [Int.natCast_pow]; rfl
theorem p2_le {a b : Nat} : ((2 : Int) ^ a ≤ 2 ^ b) ↔ a ≤ b := by
  rw [p2c, p2c, Int.ofNat_le, Nat.pow_le_pow_iff_right (by decide)]
theorem p2_half (m : Nat) : ((2 : Int) ^ (m + 1)).fdiv 2 = 2 ^ m := by
  rw [Int.fdiv_eq_ediv_of_nonneg _ (by decide), Int.pow_succ, Int.mul_ediv_cancel _ (by decide)]
theorem p2_one {m : Nat} : decide ((1 : Int) < 2 ^ m) = decide (0 < m) := by
  cases m with
  | zero => rfl
  | succ m =>
    have h1 : (1 : Int) ≤ 2 ^ m := by have := p2_le (a := 0) (b := m); simpa using this.mpr (Nat.zero_le _)
    rw [decide_eq_true (show 0 < m + 1 by omega), decide_eq_true]
    rw [Int.pow_succ]
    omega
theorem szs_succ (j : Nat) : szs (j + 1) = szs j ++ [.int (2 ^ (j + 1))] := by
  unfold szs
  rw [List.range_succ, List.map_append]
  rfl
theorem szs_len (j : Nat) : (szs j).length = j := by
  unfold szs
  simp
theorem szs_flat (j : Nat) : (szs j).all flatV = true := by
  unfold szs
  rw [List.all_map]
  exact List.all_eq_true.mpr fun _ _ => rfl
theorem Fld.le {p : Int} {k : Nat} (h : Fld p k) : k ≤ 7 := by
  rcases h with ⟨_, rfl⟩ | ⟨_, rfl⟩ | ⟨_, rfl⟩ | ⟨_, rfl⟩ | ⟨_, rfl⟩ <;> decide
theorem Fld.fld {p : Int} {k : Nat} (h : Fld p k) : fldB p = true := by
  rcases h with ⟨rfl, _⟩ | ⟨rfl, _⟩ | ⟨rfl, _⟩ | ⟨rfl, _⟩ | ⟨rfl, _⟩ <;> decide
section
variable (K : PySem.W.Frag)
def spIsSz (CF : Addr) : Sp := fun vs H Q E => ∃ p v d, vs = [.int p, v] ∧ Dp K H v d ∧ ((fldB p = false ∧ ∀ H', Ex H H' → E (.ref CF) none H') ∨ ∃ k, Fld p k ∧ RetV (.bl (sizD k d)) H Q)
def spNeedSz (CN CF : Addr) : Sp := fun vs H Q E => ∃ p v d, vs = [.int p, v] ∧ Dp K H v d ∧ ((fldB p = false ∧ ∀ H', Ex H H' → E (.ref CF) none H') ∨ ∃ k, Fld p k ∧ (sizD k d = true → RetV .non H Q) ∧ (sizD k d = false → Thr CN "part" (.str "n") H E))
def spRnd : Sp := fun vs H Q _ => ∃ r : Nat, vs = [.int (2 ^ r)] ∧ RetV (.int (1 + r)) H Q
def spCnt : Sp := fun vs H Q _ => ∃ r l : Nat, vs = [.int (2 ^ r), .int l] ∧ l ≤ r + 2 ∧ r ≤ 1000 ∧ RetV (.int (2 ^ (r + 2 - l))) H Q
end
section
variable {P : Program} {w : World} {K : PySem.W.Frag} {mg : Str → Option Value} {base : Heap} {CN CF CT fN fT aF aM : Addr}
abbrev s_sizes_of : Stmt := topS 18
theorem sc_sizes_of : FnScope ["p", "found", "n"] ["p"] (defScope s_sizes_of) := ⟨rfl, rfl, rfl, by decide +kernel, rfl, by decide +kernel, by decide +kernel⟩
theorem ok_sizes_of {f : Addr} {fd : FuncData} (F : FnP K "sizes_of" s_sizes_of f fd) (D1 : Dn P w K mg base CX0 1 "most_rows" ["p"] spMost) : FnOk P w K mg base CX0 2 f fd ["p"] spSizes := by
  refine F.ok sc_sizes_of (fun vs H Q E h => ?_) (fun cdv A outer s H vs Q E hr h => ⟨_, (PSs.nox (pss_cons (ps_par (i := 1) (j := 2) (by rfl) sc_sizes_of.nd rfl rfl (by decide) rfl rfl (pa_cons (pe_lst pa_nil) (pa_cons pe_int pa_nil)) (by rfl))
      (pss_cons (ps_while PassesOwn.never (pt_cmpR op_le (pv 2) (pe_d D1 hr (by decide) (pa_cons (pv 0) pa_nil)) (nomark _)) (pss_cons (ps_expr (pe_bm PySem.F.plainAttrs_list PySem.F.slot_list_append PySem.F.type_list_append mt_append (pv 1) (pa_cons (pv 2) pa_nil)))
        (pss_one (ps_set (i := 2) sc_sizes_of.nd rfl (.inl rfl) (pe_op op_mul pe_int (pv 2))))))
      (pss_one (ps_ret (pv 1)))))), ?_⟩)
  · obtain ⟨p, k, rfl, _⟩ := h
    rfl
  · obtain ⟨p, k, rfl, hp, q⟩ := h
    have hk := hp.le
    refine q_parL (el_lst ea_nil (by decide)) ev_c fun l H1 hl e h1 => ?_
    refine q_while (fun m σ' H' => ∃ j, m + j = k ∧ σ' = [some (.int p), some (.ref l), some (.int (2 ^ (j + 1)))] ∧ Ex H H' ∧ H' l = some (.lst (szs j))) k ⟨0, rfl, rfl, e, h1⟩ ?_
    rintro m σ' H' ⟨j, hm, rfl, e1, hj⟩
    refine ⟨_, et_test (ev_op (ev_var rfl) (ev_call (ea_cons (ev_var rfl) ea_nil) (SpV.of fun H1 e Q q E => ⟨p, k, rfl, hp, q⟩)) rv_I0), fun hb H2 e2 => ?_, fun hb H2 e2 => ?_⟩
    · have hb' : j + 1 ≤ k := p2_le.mp (by simpa using hb)
      refine ⟨fun σ2 H2 => ∃ j', j' = j + 1 ∧ σ2 = [some (.int p), some (.ref l), some (.int (2 ^ (j' + 1)))] ∧ Ex H H2 ∧ H2 l = some (.lst (szs j')), ?_, ?_⟩
      · rintro σ2 H2 ⟨j', rfl, h2⟩
        exact ⟨m - 1, by omega, j + 1, by omega, h2⟩
      · refine q_app (e2 l _ hj) (ev_var rfl) (ev_var rfl) (by rw [szs_len]; omega) fun H3 e3 => ?_
        refine s_asg (ev_op ev_c (ev_var rfl) (rv_I (.inl (by decide)))) fun H4 e4 => ⟨j + 1, rfl, ?_, ?_, ?_⟩
        · show [some (V.int p), some (.ref l), some (.int (2 * 2 ^ (j + 1)))] = _
          rw [Int.pow_succ (n := j + 1), Int.mul_comm]
        · exact (Ex.mut ((e1.trans e2).trans e3) hl).trans e4
        · rw [szs_succ]
          exact e4 l _ upd_same
    · have hb' : ¬ (j + 1 ≤ k) := fun z => by
        have := p2_le.mpr z
        simp only [decide_eq_false_iff_not] at hb
        exact hb this
      have hjk : j = k := by omega
      subst hjk
      exact s_ret (ev_var (v := .ref l) rfl) fun H3 e3 => q l H3 hl ((e1.trans e2).trans e3) (e3 l _ (e2 l _ hj))
abbrev s_is_size : Stmt := topS 19
theorem sc_is_size : FnScope ["p", "thing"] ["p", "thing"] (defScope s_is_size) := ⟨rfl, rfl, rfl, by decide +kernel, rfl, by decide +kernel, by decide +kernel⟩
theorem ok_is_size {f : Addr} {fd : FuncData} (F : FnP K "is_size" s_is_size f fd) (D1 : Dn P w K mg base CX0 1 "most_rows" ["p"] spMost) (D2 : Dn P w K mg base CX0 2 "sizes_of" ["p"] spSizes) (D3 : Dn P w K mg base CX0 2 "is_between" ["thing", "low", "high"] (spBet K)) (D4 : Dn P w K mg base (CX P w) 4 "need_field" ["p"] (spNeedFld CF)) :
    FnOk P w K mg base (CX P w) 5 f fd ["p", "thing"] (spIsSz K CF) := by
  refine F.ok sc_is_size (fun vs H Q E h => ?_) (fun cdv A outer s H vs Q E hr h => ⟨_, (pss_cons (ps_expr (pe_dX D4 (W := fun cls d _ H' => E cls d H') (takes_of rfl rfl rfl rfl) (fun _ _ _ _ h => h) hr (by decide) (pa_cons (pv 0) pa_nil)))
      (pss_one (ps_ret (pe_and (pe_d D3 hr (by decide) (pa_cons (pv 1) (pa_cons pe_int (pa_cons (pe_d D1 hr (by decide) (pa_cons (pv 0) pa_nil)) pa_nil)))) (pe_one (pe_cmpR op_in_seq (pv 1) (pe_d D2 hr (by decide) (pa_cons (pv 0) pa_nil)) (by with_unfolding_all rfl))))))), ?_⟩)
  · obtain ⟨p, v, d, rfl, _⟩ := h
    rfl
  · obtain ⟨p, v, d, rfl, hd, h⟩ := h
    refine q_call (ea_cons (ev_var rfl) ea_nil) fun H1 e1 => ?_
    rcases h with ⟨hp, q⟩ | ⟨k, hp, q⟩
    · exact ⟨p, rfl, fun z => absurd (hp.symm.trans z) (by decide), fun _ H' e' => q H' (e1.trans e')⟩
    refine ⟨p, rfl, fun _ H2 e2 => ?_, fun z => absurd (hp.fld.symm.trans z) (by decide)⟩
    refine s_ret (Evl.ev_is (v := .bl (betD d 2 (2 ^ k) && sizD k d)) (ev_andV (ev_call (ea_cons (ev_var rfl) (ea_cons ev_c (ea_cons (ev_call (ea_cons (ev_var rfl) ea_nil) (SpV.of fun H1 e Q q E => ⟨p, k, rfl, hp, q⟩)) ea_nil))) (SpV.of fun H3 e Q q E => ⟨v, d, _, _, rfl, hd.same ((e1.trans e2).trans e), q⟩)) fun hb => ?_) ?_) fun H3 e3 => q H3 ((e1.trans e2).trans e3)
    · cases hd <;> first | (exact absurd hb Bool.false_ne_true) | skip
      rename_i i
      refine Evl.ev_is (v := .bl (inV (.int i) (szs k))) (ev_opL (ev_var rfl) (el_call (ea_cons (ev_var rfl) ea_nil) fun H1 e Q q E => ⟨p, k, rfl, hp, q⟩) fun a H3 h3 e3 => rv_isL (sq_of h3) rfl (szs_flat k)) ?_
      have : (decide ((2 : Int) ≤ i) && decide (i ≤ 2 ^ k)) = true := hb
      show _ = V.bl ((decide ((2 : Int) ≤ i) && decide (i ≤ 2 ^ k)) && inV (.int i) (szs k))
      rw [this, Bool.true_and]
    · cases d <;> first | rfl | skip
      rename_i i
      show V.bl ((decide ((2 : Int) ≤ i) && decide (i ≤ 2 ^ k)) && ((decide ((2 : Int) ≤ i) && decide (i ≤ 2 ^ k)) && inV (.int i) (szs k))) = .bl ((decide ((2 : Int) ≤ i) && decide (i ≤ 2 ^ k)) && inV (.int i) (szs k))
      rw [← Bool.and_assoc, Bool.and_self]
abbrev s_need_size : Stmt := topS 20
theorem sc_need_size : FnScope ["p", "n"] ["p", "n"] (defScope s_need_size) := ⟨rfl, rfl, rfl, by decide +kernel, rfl, by decide +kernel, by decide +kernel⟩
theorem ok_need_size {f : Addr} {fd : FuncData} (F : FnP K "need_size" s_need_size f fd) (B : Bf P K mg CN CF CT fN fT aF aM) (D1 : Dn P w K mg base (CX P w) 5 "is_size" ["p", "thing"] (spIsSz K CF)) :
    FnOk P w K mg base (CX P w) 6 f fd ["p", "n"] (spNeedSz K CN CF) := by
  refine F.ok sc_need_size (fun vs H Q E h => ?_) (fun cdv A outer s H vs Q E hr h => ⟨_, (pss_one (ps_if (pt_not (pt_val (pe_dX D1 (W := fun cls d _ H' => E cls d H') (takes_of rfl rfl rfl rfl) (fun _ _ _ _ h => h) hr (by decide) (pa_cons (pv 0) (pa_cons (pv 1) pa_nil))))) (pss_one (ps_raiseSup (W := fun cls d _ H' => E cls d H') (k := 5) rfl B.xN hr (takes_of rfl rfl rfl rfl) (pa_cons pe_str pa_nil) (by rfl))) pss_nil)), ?_⟩)
  · obtain ⟨p, v, d, rfl, _⟩ := h
    rfl
  · obtain ⟨p, v, d, rfl, hd, h⟩ := h
    refine s_ifNC (ea_cons (ev_var rfl) (ea_cons (ev_var rfl) ea_nil)) (fun H1 e1 => ⟨p, v, d, rfl, hd.same e1, ?_⟩) ?_
    · rcases h with ⟨hp, q⟩ | ⟨k, hp, q1, q2⟩
      · exact .inl ⟨hp, fun H' e' => q H' (e1.trans e')⟩
      exact .inr ⟨k, hp, fun H2 e2 => ⟨_, rfl, fun hb => s_thr (ea_cons ev_c ea_nil) ((q2 hb).go (e1.trans e2)), fun hb => q1 hb H2 (e1.trans e2)⟩⟩
    · rintro H1 Q1 Q2 hq ⟨p, v, d, h1, h2, h3⟩
      refine ⟨p, v, d, h1, h2, ?_⟩
      rcases h3 with h3 | ⟨k, h3, h4⟩
      · exact .inl h3
      · exact .inr ⟨k, h3, fun H' e' => hq _ _ (h4 H' e')⟩
abbrev s_rounds_of : Stmt := topS 21
theorem sc_rounds_of : FnScope ["n", "told", "left"] ["n"] (defScope s_rounds_of) := ⟨rfl, rfl, rfl, by decide +kernel, rfl, by decide +kernel, by decide +kernel⟩
theorem ok_rounds_of {f : Addr} {fd : FuncData} (F : FnP K "rounds_of" s_rounds_of f fd) : FnOk P w K mg base CX0 1 f fd ["n"] spRnd := by
  refine F.ok sc_rounds_of (fun vs H Q E h => ?_) (fun cdv A outer s H vs Q E hr h => ⟨_, (PSs.nox (pss_cons (ps_par (i := 1) (j := 2) (by rfl) sc_rounds_of.nd rfl rfl (by decide) rfl rfl (pa_cons pe_int (pa_cons (pv 0) pa_nil)) (by rfl))
      (pss_cons (ps_while PassesOwn.never (pt_cmpR op_gt (pv 2) pe_int (nomark _)) (pss_one (ps_par (i := 1) (j := 2) (by rfl) sc_rounds_of.nd rfl rfl (by decide) rfl rfl (pa_cons (pe_op op_add (pv 1) pe_int) (pa_cons (pe_op op_fdivN (pv 2) pe_int) pa_nil)) (by rfl))))
      (pss_one (ps_ret (pv 1)))))), ?_⟩)
  · obtain ⟨r, rfl, _⟩ := h
    rfl
  · obtain ⟨r, rfl, q⟩ := h
    refine q_par (ea_cons ev_c (ea_cons (ev_var rfl) ea_nil)) fun H1 e1 => ?_
    refine q_while (fun m σ' H' => ∃ j : Nat, m + j = r ∧ σ' = [some (.int (2 ^ r)), some (.int (1 + (j : Int))), some (.int (2 ^ m))] ∧ Ex H H') r ⟨0, rfl, rfl, e1⟩ ?_
    rintro m σ' H' ⟨j, hm, rfl, e1⟩
    refine ⟨decide (0 < m), et_is (et_test (ev_op (ev_var rfl) ev_c rv_I0)) p2_one, fun hb H2 e2 => ?_, fun hb H2 e2 => ?_⟩
    · have hb' : 0 < m := by simpa using hb
      obtain ⟨m', rfl⟩ : ∃ m', m = m' + 1 := ⟨m - 1, by omega⟩
      refine ⟨fun σ2 H2 => σ2 = [some (.int (2 ^ r)), some (.int (1 + ((j + 1 : Nat) : Int))), some (.int (2 ^ m'))] ∧ Ex H H2, ?_, ?_⟩
      · rintro σ2 H2 ⟨rfl, e3⟩
        exact ⟨m', by omega, j + 1, by omega, rfl, e3⟩
      · refine s_par (ea_cons (ev_op (ev_var rfl) ev_c rv_I0) (ea_cons (ev_op (ev_var rfl) ev_c (rv_I ⟨by decide, by decide⟩)) ea_nil)) fun H3 e3 => ⟨?_, (e1.trans e2).trans e3⟩
        show [some (V.int (2 ^ r)), some (.int (1 + (j : Int) + 1)), some (.int (((2 : Int) ^ (m' + 1)).fdiv 2))] = _
        rw [p2_half, show (1 + (j : Int) + 1) = 1 + ((j + 1 : Nat) : Int) by omega]
    · have hm0 : m = 0 := by simpa using hb
      have hj : j = r := by omega
      subst hj
      exact s_ret (ev_var rfl) fun H3 e3 => q H3 ((e1.trans e2).trans e3)
abbrev s_count_of : Stmt := topS 22
theorem sc_count_of : FnScope ["n", "level", "told", "k"] ["n", "level"] (defScope s_count_of) := ⟨rfl, rfl, rfl, by decide +kernel, rfl, by decide +kernel, by decide +kernel⟩
theorem ok_count_of {f : Addr} {fd : FuncData} (F : FnP K "count_of" s_count_of f fd) (B : Bf P K mg CN CF CT fN fT aF aM) : FnOk P w K mg base CX0 1 f fd ["n", "level"] spCnt := by
  refine F.ok sc_count_of (fun vs H Q E h => ?_) (fun cdv A outer s H vs Q E hr h => ⟨_, (PSs.nox (pss_cons (ps_set (i := 2) sc_count_of.nd rfl (.inl rfl) (pe_op op_mul pe_int (pv 0)))
      (pss_cons (ps_for PassesOwn.never rfl (pi_range1 (by rfl) B.range (pa_cons (pv 1) pa_nil)) (pg_name (i := 3) sc_count_of.nd rfl (.inl rfl))
        (pss_one (ps_set (i := 2) sc_count_of.nd rfl (.inl rfl) (pe_op op_fdivN (pv 2) pe_int))))
      (pss_one (ps_ret (pv 2)))))), ?_⟩)
  · obtain ⟨r, l, rfl, _⟩ := h
    rfl
  · obtain ⟨r, l, rfl, hl, hr, q⟩ := h
    refine q_asg (ev_op ev_c (ev_var rfl) (rv_I (.inl (by decide)))) fun H1 e1 => ?_
    refine q_forR1 (n := (l : Int)) (ea_cons (ev_var rfl) ea_nil) (by omega) (fun i σ' H' => (∃ x, σ' = [some (.int (2 ^ r)), some (.int l), some (.int (2 ^ (r + 2 - i))), x]) ∧ Ex H H') (fun H2 e2 => ⟨⟨none, ?_⟩, e1.trans e2⟩) ?_ ?_
    · show [some (V.int (2 ^ r)), some (.int l), some (.int (4 * 2 ^ r)), none] = _
      rw [show (4 : Int) * 2 ^ r = 2 ^ (r + 2 - 0) by rw [Nat.sub_zero, Int.pow_succ, Int.pow_succ]; omega]
    · rintro i σ' H' hi ⟨⟨x, rfl⟩, e2⟩
      refine s_asg (ev_op (ev_var rfl) ev_c (rv_I ⟨by decide, by decide⟩)) fun H3 e3 => ⟨⟨some (.int i), ?_⟩, e2.trans e3⟩
      show [some (V.int (2 ^ r)), some (.int l), some (.int (((2 : Int) ^ (r + 2 - i)).fdiv 2)), some (.int (i : Int))] = _
      rw [show r + 2 - i = (r + 2 - (i + 1)) + 1 by omega, p2_half]
    · rintro σ' H' ⟨⟨x, rfl⟩, e2⟩
      exact s_ret (ev_var rfl) fun H3 e3 => by rw [Int.toNat_natCast]; exact q H3 (e2.trans e3)
end
end K51
set_option Elab.async false
set_option linter.all false
set_option maxRecDepth 100000
set_option maxHeartbeats 4000000
namespace K51
open PySem PySem.Spec PyProof.Rows L2 Evl
/-! ### mirrors: shapes, what fits -/
def wordD (p m : Int) (d : PyData) : Bool := tupD d m && numsD p d
inductive Sh where
  | dr (m : Nat)
  | wo (m k : Nat)
def shD : Sh → PyData
  | .dr m => .tuple [.str "draws", .int m]
  | .wo m k => .tuple [.str "words", .int m, .int k]
def shp (r i : Nat) : Sh := if i % 2 = 1 then .dr (if i < 4 then 2 else 1) else if i < 4 then .wo (if i = 0 then 50 else 18) (4 * 2 ^ r) else .wo 1 (if i < 2 * r + 6 then 2 ^ (r + 2 - (i / 2 - 2)) else 1)
def allD (B : PyData → Bool) : PyData → Bool
  | .tuple ds => ds.all B
  | _ => true
def fitD (p : Int) (s : Sh) (d : PyData) : Bool := match s with
  | .dr m => numsD p d && ((lenD d : Int) == m)
  | .wo m k => tupD d m && allD (wordD p k) d
/-- few enough items, two layers down -/
def sm1 (d : PyData) : Prop := lenD d ≤ 30000 ∧ ∀ ds, d = .tuple ds → ∀ x ∈ ds, lenD x ≤ 30000
def sm2 (d : PyData) : Prop := lenD d ≤ 30000 ∧ ∀ ds, d = .tuple ds → ∀ x ∈ ds, sm1 x
def faultL (p : Int) (r : Nat) : Nat → List PyData → Option Nat
  | _, [] => none
  | i, d :: ds => if (decide (2 * r + 6 < i) || !fitD p (shp r i) d) = true then some i else faultL p r (i + 1) ds
def faultD (p : Int) (r : Nat) : PyData → Option Nat
  | .tuple ds => faultL p r 0 ds
  | _ => some 0
def optV : Option Nat → V
  | none => .non
  | some i => .int i
theorem faultL_all {p : Int} {r : Nat} : ∀ {i : Nat} {ds : List PyData}, (∀ j d, ds[j]? = some d → (decide (2 * r + 6 < i + j) || !fitD p (shp r (i + j)) d) = false) → faultL p r i ds = none
  | _, [], _ => rfl
  | i, d :: ds, h => by
    unfold faultL
    rw [if_neg (by have := h 0 d rfl; simp only [Nat.add_zero] at this; rw [this]; decide)]
    exact faultL_all fun j d' hj => by
      have := h (j + 1) d' hj
      rwa [show i + (j + 1) = i + 1 + j by omega] at this
theorem faultL_at {p : Int} {r : Nat} : ∀ {i j : Nat} {ds : List PyData} {d : PyData}, (∀ m d, m < j → ds[m]? = some d → (decide (2 * r + 6 < i + m) || !fitD p (shp r (i + m)) d) = false) → ds[j]? = some d → (decide (2 * r + 6 < i + j) || !fitD p (shp r (i + j)) d) = true → faultL p r i ds = some (i + j)
  | i, 0, e :: ds, d, _, hd, hb => by
    cases hd
    unfold faultL
    simp only [Nat.add_zero] at hb
    rw [if_pos hb, Nat.add_zero]
  | i, j + 1, e :: ds, d, h, hd, hb => by
    unfold faultL
    rw [if_neg (by have := h 0 e (by omega) rfl; simp only [Nat.add_zero] at this; rw [this]; decide)]
    rw [show i + (j + 1) = i + 1 + j by omega] at hb ⊢
    exact faultL_at (fun m d' hm hj => by
      have := h (m + 1) d' (by omega) hj
      rwa [show i + (m + 1) = i + 1 + m by omega] at this) hd hb
  | _, 0, [], _, _, hd, _ => by cases hd
  | _, _ + 1, [], _, _, hd, _ => by cases hd
section
variable (K : PySem.W.Frag)
def spWord : Sp := fun vs H Q _ => ∃ p m v d, vs = [.int p, .int m, v] ∧ Dp K H v d ∧ lenD d ≤ 30000 ∧ RetV (.bl (wordD p m d)) H Q
def spLast : Sp := fun vs H Q _ => ∃ r : Nat, vs = [.int (2 ^ r)] ∧ RetV (.int ((2 * r + 6 : Nat) : Int)) H Q
def spShape : Sp := fun vs H Q _ => ∃ r i : Nat, vs = [.int (2 ^ r), .int i] ∧ r ≤ 10 ∧ i ≤ 2 * r + 6 ∧ RetD K (shD (shp r i)) H Q
def spFits : Sp := fun vs H Q _ => ∃ p sv s v d, vs = [.int p, sv, v] ∧ Dp K H sv (shD s) ∧ Dp K H v d ∧ sm1 d ∧ RetV (.bl (fitD p s d)) H Q
end
section
variable {P : Program} {w : World} {K : PySem.W.Frag} {mg : Str → Option Value} {base : Heap} {CN CF CT fN fT aF aM : Addr}
abbrev s_is_word_told : Stmt := topS 24
theorem sc_is_word_told : FnScope ["p", "many", "thing"] ["p", "many", "thing"] (defScope s_is_word_told) := ⟨rfl, rfl, rfl, by decide +kernel, rfl, by decide +kernel, by decide +kernel⟩
theorem ok_is_word_told {f : Addr} {fd : FuncData} (F : FnP K "is_word_told" s_is_word_told f fd) (B : Bf P K mg CN CF CT fN fT aF aM) (D1 : Dn P w K mg base CX0 3 "are_numbers" ["p", "thing"] (spNums K)) : FnOk P w K mg base CX0 4 f fd ["p", "many", "thing"] (spWord K) := by
  refine F.ok sc_is_word_told (fun vs H Q E h => ?_) (fun cdv A outer s H vs Q E hr h => ⟨_, (PSs.nox (pss_one (ps_ret (pe_and (pe_callB call_isi (by rfl) B.isi (by decide +kernel) (pa_cons (pv 2) (pa_cons (pe_bltn (v := .ty "tuple") (by rfl) B.tuple b_tuple rfl) pa_nil))) (pe_and (pe_cmpR op_eq (pe_callB call_len_seq (by rfl) B.len (by decide +kernel) (pa_cons (pv 2) pa_nil)) (pv 1) (nomark _)) (pe_one (pe_d D1 hr (by decide) (pa_cons (pv 0) (pa_cons (pv 2) pa_nil))))))))), ?_⟩)
  · obtain ⟨p, m, v, d, rfl, _⟩ := h
    rfl
  · obtain ⟨p, m, v, d, rfl, hd, hz, q⟩ := h
    refine s_ret (Evl.ev_is (v := .bl (isD "tuple" d && (tupD d m && numsD p d))) (ev_andV (ev_isi (ev_var rfl) hd) fun hn => ?_) ?_) q
    · cases d <;> first | (exact absurd hn Bool.false_ne_true) | skip
      rename_i ds
      refine ev_andV (Evl.ev_is (ev_op (ev_lenD (evD_of (ev_var rfl) hd)) (ev_var rfl) (rv_eq rfl)) (by rw [dec_int]; rfl)) fun _ => ev_call (ea_cons (ev_var rfl) (ea_cons (ev_var rfl) ea_nil)) (SpV.of fun H1 e Q q E => ⟨p, v, _, rfl, hd.same e, by omega, q⟩)
    · cases d <;> rfl
abbrev s_last_piece : Stmt := topS 28
theorem sc_last_piece : FnScope ["n"] ["n"] (defScope s_last_piece) := ⟨rfl, rfl, rfl, by decide +kernel, rfl, by decide +kernel, by decide +kernel⟩
theorem ok_last_piece {f : Addr} {fd : FuncData} (F : FnP K "last_piece" s_last_piece f fd) (D1 : Dn P w K mg base CX0 1 "rounds_of" ["n"] spRnd) : FnOk P w K mg base CX0 2 f fd ["n"] spLast := by
  refine F.ok sc_last_piece (fun vs H Q E h => ?_) (fun cdv A outer s H vs Q E hr h => ⟨_, (PSs.nox (pss_one (ps_ret (pe_op op_add pe_int (pe_op op_mul pe_int (pe_d D1 hr (by decide) (pa_cons (pv 0) pa_nil))))))), ?_⟩)
  · obtain ⟨r, rfl, _⟩ := h
    rfl
  · obtain ⟨r, rfl, q⟩ := h
    refine s_ret (Evl.ev_is (ev_op ev_c (ev_op ev_c (ev_call (ea_cons (ev_var rfl) ea_nil) (SpV.of fun H1 e Q q E => ⟨r, rfl, q⟩)) (rv_I (.inl (by decide)))) rv_I0) ?_) q
    show V.int (4 + 2 * (1 + (r : Int))) = _
    rw [show (4 + 2 * (1 + (r : Int))) = ((2 * r + 6 : Nat) : Int) by omega]
theorem par_int (i : Nat) (c : Nat) : decide (V.int (((i : Nat) : Int).fmod 2) = V.int c) = decide (i % 2 = c) := by
  rw [Int.fmod_eq_emod_of_nonneg _ (by decide)]
  by_cases h : i % 2 = c
  · rw [decide_eq_true h, decide_eq_true]
    rw [show ((i : Int) % 2) = ((i % 2 : Nat) : Int) by omega, h]
  · rw [decide_eq_false h, decide_eq_false]
    intro z
    injection z with z
    omega
theorem lt_int_nat (i c : Nat) : decide ((i : Int) < (c : Int)) = decide (i < c) := by
  by_cases h : i < c
  · rw [decide_eq_true h, decide_eq_true (by omega)]
  · rw [decide_eq_false h, decide_eq_false (by omega)]
theorem eq_int_nat (i c : Nat) : decide (V.int (i : Int) = V.int (c : Int)) = decide (i = c) := by
  by_cases h : i = c
  · subst h
    rw [decide_eq_true rfl, decide_eq_true rfl]
  · rw [decide_eq_false h, decide_eq_false]
    intro z
    injection z with z
    omega
abbrev s_shape_told : Stmt := topS 29
theorem sc_shape_told : FnScope ["n", "at"] ["n", "at"] (defScope s_shape_told) := ⟨rfl, rfl, rfl, by decide +kernel, rfl, by decide +kernel, by decide +kernel⟩
theorem ok_shape_told {f : Addr} {fd : FuncData} (F : FnP K "shape_told" s_shape_told f fd) (B : Bf P K mg CN CF CT fN fT aF aM) (D1 : Dn P w K mg base CX0 2 "last_piece" ["n"] spLast) (D2 : Dn P w K mg base CX0 1 "count_of" ["n", "level"] spCnt) : FnOk P w K mg base CX0 3 f fd ["n", "at"] (spShape K) := by
  obtain ⟨t1, hFM⟩ := B.gFM
  obtain ⟨t2, hSM⟩ := B.gSM
  refine F.ok sc_shape_told (fun vs H Q E h => ?_) (fun cdv A outer s H vs Q E hr h => ⟨_, (PSs.nox (pss_cons (ps_if (pt_cmpR op_eq (pe_op op_modN (pv 1) pe_int) pe_int (nomark _)) (pss_one (ps_ret (pe_tup (pa_cons pe_str (pa_cons (pe_ifExp (pt_cmpR op_lt (pv 1) pe_int (nomark _)) pe_int pe_int) pa_nil))))) pss_nil)
      (pss_cons (ps_if (pt_cmpR op_lt (pv 1) pe_int (nomark _)) (pss_one (ps_ret (pe_tup (pa_cons pe_str (pa_cons (pe_ifExp (pt_cmpR op_eq (pv 1) pe_int (nomark _)) (pe_glob (v := .int 50) (by rfl) hFM ⟨_, rfl⟩) (pe_glob (v := .int 18) (by rfl) hSM ⟨_, rfl⟩)) (pa_cons (pe_op op_mul pe_int (pv 0)) pa_nil)))))) pss_nil)
      (pss_one (ps_ret (pe_tup (pa_cons pe_str (pa_cons pe_int (pa_cons (pe_ifExp (pt_cmpR op_lt (pv 1) (pe_d D1 hr (by decide) (pa_cons (pv 0) pa_nil)) (nomark _)) (pe_d D2 hr (by decide) (pa_cons (pv 0) (pa_cons (pe_op op_sub (pe_op op_fdivN (pv 1) pe_int) pe_int) pa_nil))) pe_int) pa_nil))))))))), ?_⟩)
  · obtain ⟨r, i, rfl, _⟩ := h
    rfl
  · obtain ⟨r, i, rfl, hr, hi, q⟩ := h
    refine q_when (et_is (et_test (ev_op (ev_op (ev_var rfl) ev_c (rv_I (by decide))) ev_c (rv_eq rfl))) (par_int i 1)) (fun hb H1 e1 => ?_) (fun hb H1 e1 => ?_)
    · have hb' : i % 2 = 1 := by simpa using hb
      refine s_retU (eu_tup (ea_cons ev_c (ea_cons (ev_if (v := .int ((if i < 4 then 2 else 1 : Nat) : Int)) (et_is (et_test (ev_op (ev_var rfl) ev_c rv_I0)) (lt_int_nat i 4)) (fun h => ?_) (fun h => ?_)) ea_nil)) (by simp)) fun a H2 _ e2 h2 => q _ H2 (e1.trans e2) ?_
      · rw [if_pos (by simpa using h)]
        exact ev_c
      · rw [if_neg (by simpa using h)]
        exact ev_c
      · unfold shp
        rw [if_pos hb']
        exact .tup (.inl (.inl h2)) (.cons (.str _) (.cons (.int _) .nil))
    have hb' : ¬ i % 2 = 1 := by simpa using hb
    refine q_when (et_is (et_test (ev_op (ev_var rfl) ev_c rv_I0)) (lt_int_nat i 4)) (fun hc H2 e2 => ?_) (fun hc H2 e2 => ?_)
    · have hc' : i < 4 := by simpa using hc
      refine s_retU (eu_tup (ea_cons ev_c (ea_cons (ev_if (v := .int ((if i = 0 then 50 else 18 : Nat) : Int)) (et_is (et_test (ev_op (ev_var rfl) ev_c (rv_eq rfl))) (eq_int_nat i 0)) (fun h => ?_) (fun h => ?_)) (ea_cons (ev_op ev_c (ev_var rfl) (rv_I (.inl (by decide)))) ea_nil))) (by simp)) fun a H3 _ e3 h3 => q _ H3 ((e1.trans e2).trans e3) ?_
      · rw [if_pos (by simpa using h)]
        exact ev_c
      · rw [if_neg (by simpa using h)]
        exact ev_c
      · unfold shp
        rw [if_neg hb', if_pos hc']
        refine .tup (.inl (.inl h3)) (.cons (.str _) (.cons (.int _) (.cons ?_ .nil)))
        rw [show ((4 * 2 ^ r : Nat) : Int) = 4 * 2 ^ r by rw [Int.natCast_mul, ← p2c]; rfl]
        exact .int _
    have hc' : ¬ i < 4 := by simpa using hc
    refine s_retU (eu_tup (ea_cons ev_c (ea_cons ev_c (ea_cons (ev_if (v := .int ((if i < 2 * r + 6 then 2 ^ (r + 2 - (i / 2 - 2)) else 1 : Nat) : Int)) (et_is (et_test (ev_op (ev_var rfl) (ev_call (ea_cons (ev_var rfl) ea_nil) (SpV.of fun H1 e Q q E => ⟨r, rfl, q⟩)) rv_I0)) (lt_int_nat i (2 * r + 6))) (fun h => ?_) (fun h => ?_)) ea_nil))) (by simp)) fun a H3 _ e3 h3 => q _ H3 ((e1.trans e2).trans e3) ?_
    · rw [if_pos (by simpa using h)]
      have h' : i < 2 * r + 6 := by simpa using h
      rw [← p2c]
      refine ev_call (ea_cons (ev_var rfl) (ea_cons (Evl.ev_is (w := .int ((i / 2 - 2 : Nat) : Int)) (ev_op (ev_op (ev_var rfl) ev_c (rv_I ⟨by decide, by decide⟩)) ev_c rv_I0) ?_) ea_nil)) (SpV.of fun H1 e Q q E => ⟨r, i / 2 - 2, rfl, by omega, by omega, q⟩)
      show V.int (((i : Int).fdiv 2) - 2) = _
      rw [Int.fdiv_eq_ediv_of_nonneg _ (by decide), show ((i : Int) / 2 - 2) = ((i / 2 - 2 : Nat) : Int) by omega]
    · rw [if_neg (by simpa using h)]
      exact ev_c
    · unfold shp
      rw [if_neg hb', if_neg hc']
      exact .tup (.inl (.inl h3)) (.cons (.str _) (.cons (.int _) (.cons (.int _) .nil)))
abbrev s_fits_shape : Stmt := topS 31
theorem sc_fits_shape : FnScope ["p", "shape", "thing", "word"] ["p", "shape", "thing"] (defScope s_fits_shape) := ⟨rfl, rfl, rfl, by decide +kernel, rfl, by decide +kernel, by decide +kernel⟩
theorem ok_fits_shape {f : Addr} {fd : FuncData} (F : FnP K "fits_shape" s_fits_shape f fd) (B : Bf P K mg CN CF CT fN fT aF aM) (D1 : Dn P w K mg base CX0 3 "are_numbers" ["p", "thing"] (spNums K)) (D2 : Dn P w K mg base CX0 1 "is_tuple" ["thing", "size"] (spTup K)) (D3 : Dn P w K mg base CX0 4 "is_word_told" ["p", "many", "thing"] (spWord K)) :
    FnOk P w K mg base CX0 5 f fd ["p", "shape", "thing"] (spFits K) := by
  refine F.ok sc_fits_shape (fun vs H Q E h => ?_) (fun cdv A outer s H vs Q E hr h => ⟨_, (PSs.nox (pss_cons (ps_if (pt_cmpR op_eq (pe_ix ix_tup (pv 1) pe_int (fun _ _ => rfl)) pe_str (nomark _)) (pss_one (ps_ret (pe_and (pe_d D1 hr (by decide) (pa_cons (pv 0) (pa_cons (pv 2) pa_nil))) (pe_one (pe_cmpR op_eq (pe_callB call_len_seq (by rfl) B.len (by decide +kernel) (pa_cons (pv 2) pa_nil)) (pe_ix ix_tup (pv 1) pe_int (fun _ _ => rfl)) (nomark _)))))) pss_nil)
      (pss_one (ps_ret (pe_and (pe_d D2 hr (by decide) (pa_cons (pv 2) (pa_cons (pe_ix ix_tup (pv 1) pe_int (fun _ _ => rfl)) pa_nil))) (pe_one (pe_callB (cr_all rfl) (by rfl) B.all (by decide +kernel) (pa_cons (pe_lc (own := [("word", 3)]) (by rfl) sc_fits_shape.nd (pi_tup (pv 2)) (blkOk_by (own := [("word", 3)]) (by kernel_rfl)) (fun _ _ _ _ _ => pg_name (i := 3) sc_fits_shape.nd rfl (.inl rfl)) (fun _ _ _ _ _ => pts_nil) (fun _ _ _ _ _ => (pe_d D3 hr (by decide) (pa_cons (pv 0) (pa_cons (pe_ix (r := rIxT K) ix_tup (pv 1) pe_int (fun _ _ => rfl)) (pa_cons (pv 3) pa_nil)))))) pa_nil)))))))), ?_⟩)
  · obtain ⟨p, sv, s, v, d, rfl, _⟩ := h
    rfl
  · obtain ⟨p, sv, s, v, d, rfl, hs, hd, hz, q⟩ := h
    have hz1 : lenD d ≤ sizeLine := Nat.le_trans hz.1 (by decide)
    cases s with
    | dr m =>
      refine q_when (b := true) (et_is (et_test (ev_op (ev_ofS (ed_ix (i := 0) (evD_of (ev_var rfl) hs) ev_c rfl (by simp))) ev_c (rv_eq rfl))) (by decide)) (fun hb H1 e1 => ?_) (fun hb H1 e1 => by cases hb)
      refine s_ret (ev_andV (ev_call (ea_cons (ev_var rfl) (ea_cons (ev_var rfl) ea_nil)) (SpV.of fun H1 e Q q E => ⟨p, v, d, rfl, hd.same (e1.trans e), by have := hz.1; omega, q⟩)) fun hn => ?_) fun H2 e2 => q H2 (e1.trans e2)
      cases d <;> first | (exact absurd hn Bool.false_ne_true) | skip
      rename_i ds
      exact Evl.ev_is (ev_op (ev_lenD (evD_of (ev_var rfl) (hd.same e1))) (ev_ofD (ed_ix (i := 1) (evD_of (ev_var rfl) (hs.same e1)) ev_c rfl (by simp))) (rv_eq rfl)) (by rw [dec_int]; rfl)
    | wo m k =>
      refine q_when (b := false) (et_is (et_test (ev_op (ev_ofS (ed_ix (i := 0) (evD_of (ev_var rfl) hs) ev_c rfl (by simp))) ev_c (rv_eq rfl))) (by decide)) (fun hb H1 e1 => by cases hb) (fun hb H1 e1 => ?_)
      refine s_ret (ev_andV (ev_call (ea_cons (ev_var rfl) (ea_cons (ev_ofD (ed_ix (i := 1) (evD_of (ev_var rfl) (hs.same e1)) ev_c rfl (by simp))) ea_nil)) (SpV.of fun H1 e Q q E => ⟨v, d, m, rfl, hd.same (e1.trans e), hz1, q⟩)) fun hn => ?_) fun H2 e2 => q H2 (e1.trans e2)
      cases d <;> first | (exact absurd hn Bool.false_ne_true) | skip
      rename_i ds
      have hz2 := hz.2 ds rfl
      exact ev_allT (wordD p k) (hd.same e1) (ev_var rfl) (by have : ds.length ≤ 30000 := hz.1; omega) (fun _ => rfl) fun y d H1 e hm hy => ev_call (ea_cons (ev_var rfl) (ea_cons (ev_ofD (ed_ix (i := 2) (evD_of (ev_var rfl) (hs.same (e1.trans e))) ev_c rfl (by simp))) (ea_cons (ev_var rfl) ea_nil))) (SpV.of fun H2 e2 Q q E => ⟨p, k, y, d, rfl, hy.same e2, hz2 d hm, q⟩)
end
end K51
set_option Elab.async false
set_option linter.all false
set_option maxRecDepth 100000
set_option maxHeartbeats 4000000
namespace K51
open PySem PySem.Spec PyProof.Rows L2 Evl
theorem inV_mem {x : V} {xs : List V} (y : V) (h : y ∈ xs) (e : eqV y x = true) : inV x xs = true := List.any_eq_true.mpr ⟨y, h, e⟩
theorem siz_ok {k r : Nat} (h1 : 1 ≤ r) (h2 : r ≤ k) : sizD k (.int (2 ^ r)) = true := by
  show ((decide ((2 : Int) ≤ 2 ^ r) && decide ((2 : Int) ^ r ≤ 2 ^ k)) && inV (.int (2 ^ r)) (szs k)) = true
  have a1 : (2 : Int) ≤ 2 ^ r := p2_le (a := 1).mpr h1
  rw [decide_eq_true a1, decide_eq_true (p2_le.mpr h2), Bool.true_and, Bool.true_and]
  refine inV_mem (.int (2 ^ r)) (List.mem_map.mpr ⟨r - 1, List.mem_range.mpr (by omega), by rw [show r - 1 + 1 = r by omega]⟩) ?_
  show ((2 : Int) ^ r == 2 ^ r) = true
  exact beq_self_eq_true _
theorem bet_true {d : PyData} {n : Nat} (h : betD d 0 (n : Int) = true) : ∃ i : Nat, d = .int i ∧ i ≤ n := by
  cases d <;> first | (exact absurd h Bool.false_ne_true) | skip
  rename_i i
  have h' : (decide ((0 : Int) ≤ i) && decide (i ≤ n)) = true := h
  rw [Bool.and_eq_true, decide_eq_true_iff, decide_eq_true_iff] at h'
  exact ⟨i.toNat, by rw [Int.toNat_of_nonneg h'.1], by omega⟩
theorem bet_ok {i n : Nat} (h : i ≤ n) : betD (.int i) 0 (n : Int) = true := by
  show (decide ((0 : Int) ≤ i) && decide ((i : Int) ≤ n)) = true
  rw [decide_eq_true (by omega), decide_eq_true (by omega)]
  rfl
theorem sm2.sub {ds : List PyData} {d : PyData} (h : sm2 (.tuple ds)) (hd : d ∈ ds) : sm1 d := h.2 ds rfl d hd
section
variable (K : PySem.W.Frag)
def spPShape (CN : Addr) : Sp := fun vs H Q E => ∃ p k r v d, vs = [.int p, .int (2 ^ r), v] ∧ Fld p k ∧ 1 ≤ r ∧ r ≤ k ∧ Dp K H v d ∧ (betD d 0 ((2 * r + 6 : Nat) : Int) = false → Thr CN "part" (.str "at") H E) ∧ (∀ i : Nat, d = .int i → i ≤ 2 * r + 6 → RetD K (shD (shp r i)) H Q)
def spPiece (CN : Addr) : Sp := fun vs H Q E => ∃ p k r v d u e, vs = [.int p, .int (2 ^ r), v, u] ∧ Fld p k ∧ 1 ≤ r ∧ r ≤ k ∧ Dp K H v d ∧ Dp K H u e ∧ sm1 e ∧ (betD d 0 ((2 * r + 6 : Nat) : Int) = false → Thr CN "part" (.str "at") H E) ∧ (∀ i : Nat, d = .int i → i ≤ 2 * r + 6 → RetV (.bl (fitD p (shp r i) e)) H Q)
def spFault : Sp := fun vs H Q _ => ∃ p r v d, vs = [.int p, .int (2 ^ r), v] ∧ r ≤ 10 ∧ Dp K H v d ∧ sm2 d ∧ RetV (optV (faultD p r d)) H Q
def spPFault (CN : Addr) : Sp := fun vs H Q E => ∃ p k u e v d, vs = [.int p, u, v] ∧ Fld p k ∧ Dp K H u e ∧ Dp K H v d ∧ ((sizD k e = false ∧ Thr CN "part" (.str "n") H E) ∨ ∃ r : Nat, e = .int (2 ^ r) ∧ 1 ≤ r ∧ r ≤ k ∧ sm2 d ∧ RetV (optV (faultD p r d)) H Q)
def spNeedPc (CT : Addr) : Sp := fun vs H Q E => ∃ p r v d, vs = [.int p, .int (2 ^ r), v] ∧ r ≤ 10 ∧ Dp K H v d ∧ sm2 d ∧ (faultD p r d = none → RetV .non H Q) ∧ (∀ i, faultD p r d = some i → Thr CT "at" (.int i) H E)
def spWhole (CF CT : Addr) : Sp := fun vs H Q E => ∃ p n v d, vs = [.int p, .int n, v] ∧ Dp K H v d ∧ ((fldB p = false ∧ ∀ H', Ex H H' → E (.ref CF) none H') ∨
  ∃ k r : Nat, n = 2 ^ r ∧ Fld p k ∧ 1 ≤ r ∧ r ≤ k ∧ sm2 d ∧ (∀ i, faultD p r d = some i → Thr CT "at" (.int i) H E) ∧ (faultD p r d = none → RetV (.bl (lenD d == 2 * r + 7)) H Q))
end
section
variable {P : Program} {w : World} {K : PySem.W.Frag} {mg : Str → Option Value} {base : Heap} {CN CF CT fN fT aF aM : Addr}
abbrev s_piece_shape : Stmt := topS 30
theorem sc_piece_shape : FnScope ["p", "n", "at"] ["p", "n", "at"] (defScope s_piece_shape) := ⟨rfl, rfl, rfl, by decide +kernel, rfl, by decide +kernel, by decide +kernel⟩
theorem ok_piece_shape {f : Addr} {fd : FuncData} (F : FnP K "piece_shape" s_piece_shape f fd) (D1 : Dn P w K mg base (CX P w) 6 "need_size" ["p", "n"] (spNeedSz K CN CF)) (D2 : Dn P w K mg base (CX P w) 4 "need_between" ["number", "low", "high", "part"] (spNeedBet K CN))
    (D3 : Dn P w K mg base CX0 2 "last_piece" ["n"] spLast) (D4 : Dn P w K mg base CX0 3 "shape_told" ["n", "at"] (spShape K)) : FnOk P w K mg base (CX P w) 7 f fd ["p", "n", "at"] (spPShape K CN) := by
  refine F.ok sc_piece_shape (fun vs H Q E h => ?_) (fun cdv A outer s H vs Q E hr h => ⟨_, (pss_cons (ps_expr (pe_dX D1 (W := fun cls d _ H' => E cls d H') (takes_of rfl rfl rfl rfl) (fun _ _ _ _ h => h) hr (by decide) (pa_cons (pv 0) (pa_cons (pv 1) pa_nil))))
      (pss_cons (ps_expr (pe_dX D2 (W := fun cls d _ H' => E cls d H') (takes_of rfl rfl rfl rfl) (fun _ _ _ _ h => h) hr (by decide) (pa_cons (pv 2) (pa_cons pe_int (pa_cons (pe_d D3 hr (by decide) (pa_cons (pv 1) pa_nil)) (pa_cons pe_str pa_nil))))))
      (pss_one (ps_ret (pe_d D4 hr (by decide) (pa_cons (pv 1) (pa_cons (pv 2) pa_nil))))))), ?_⟩)
  · obtain ⟨p, k, r, v, d, rfl, _⟩ := h
    rfl
  · obtain ⟨p, k, r, v, d, rfl, hp, h1, h2, hd, q1, q2⟩ := h
    have hk := hp.le
    refine q_call (ea_cons (ev_var rfl) (ea_cons (ev_var rfl) ea_nil)) fun H1 e1 => ⟨p, _, .int (2 ^ r), rfl, .int _, .inr ⟨k, hp, fun _ H2 e2 => ?_, fun z => absurd ((siz_ok h1 h2).symm.trans z) (by decide)⟩⟩
    refine q_call (ea_cons (ev_var rfl) (ea_cons ev_c (ea_cons (ev_call (ea_cons (ev_var rfl) ea_nil) (SpV.of fun H1 e Q q E => ⟨r, rfl, q⟩)) (ea_cons ev_c ea_nil)))) fun H3 e3 => ⟨v, d, _, _, _, rfl, hd.same ((e1.trans e2).trans e3), fun hb H4 e4 => ?_, fun hb => (q1 hb).go ((e1.trans e2).trans e3)⟩
    obtain ⟨i, rfl, hi⟩ := bet_true hb
    cases hd
    exact s_retC (ea_cons (ev_var rfl) (ea_cons (ev_var rfl) ea_nil)) fun H5 e5 => ⟨r, i, rfl, by omega, hi, (q2 i rfl hi).mono ((((e1.trans e2).trans e3).trans e4).trans e5)⟩
abbrev s_is_piece : Stmt := topS 32
theorem sc_is_piece : FnScope ["p", "n", "at", "thing"] ["p", "n", "at", "thing"] (defScope s_is_piece) := ⟨rfl, rfl, rfl, by decide +kernel, rfl, by decide +kernel, by decide +kernel⟩
theorem ok_is_piece {f : Addr} {fd : FuncData} (F : FnP K "is_piece" s_is_piece f fd) (D1 : Dn P w K mg base (CX P w) 6 "need_size" ["p", "n"] (spNeedSz K CN CF)) (D2 : Dn P w K mg base (CX P w) 4 "need_between" ["number", "low", "high", "part"] (spNeedBet K CN))
    (D3 : Dn P w K mg base CX0 2 "last_piece" ["n"] spLast) (D4 : Dn P w K mg base CX0 3 "shape_told" ["n", "at"] (spShape K)) (D5 : Dn P w K mg base CX0 5 "fits_shape" ["p", "shape", "thing"] (spFits K)) : FnOk P w K mg base (CX P w) 7 f fd ["p", "n", "at", "thing"] (spPiece K CN) := by
  refine F.ok sc_is_piece (fun vs H Q E h => ?_) (fun cdv A outer s H vs Q E hr h => ⟨_, (pss_cons (ps_expr (pe_dX D1 (W := fun cls d _ H' => E cls d H') (takes_of rfl rfl rfl rfl) (fun _ _ _ _ h => h) hr (by decide) (pa_cons (pv 0) (pa_cons (pv 1) pa_nil))))
      (pss_cons (ps_expr (pe_dX D2 (W := fun cls d _ H' => E cls d H') (takes_of rfl rfl rfl rfl) (fun _ _ _ _ h => h) hr (by decide) (pa_cons (pv 2) (pa_cons pe_int (pa_cons (pe_d D3 hr (by decide) (pa_cons (pv 1) pa_nil)) (pa_cons pe_str pa_nil))))))
      (pss_one (ps_ret (pe_d D5 hr (by decide) (pa_cons (pv 0) (pa_cons (pe_d D4 hr (by decide) (pa_cons (pv 1) (pa_cons (pv 2) pa_nil))) (pa_cons (pv 3) pa_nil)))))))), ?_⟩)
  · obtain ⟨p, k, r, v, d, u, e, rfl, _⟩ := h
    rfl
  · obtain ⟨p, k, r, v, d, u, e, rfl, hp, h1, h2, hd, hu, hz, q1, q2⟩ := h
    have hk := hp.le
    refine q_call (ea_cons (ev_var rfl) (ea_cons (ev_var rfl) ea_nil)) fun H1 e1 => ⟨p, _, .int (2 ^ r), rfl, .int _, .inr ⟨k, hp, fun _ H2 e2 => ?_, fun z => absurd ((siz_ok h1 h2).symm.trans z) (by decide)⟩⟩
    refine q_call (ea_cons (ev_var rfl) (ea_cons ev_c (ea_cons (ev_call (ea_cons (ev_var rfl) ea_nil) (SpV.of fun H1 e Q q E => ⟨r, rfl, q⟩)) (ea_cons ev_c ea_nil)))) fun H3 e3 => ⟨v, d, _, _, _, rfl, hd.same ((e1.trans e2).trans e3), fun hb H4 e4 => ?_, fun hb => (q1 hb).go ((e1.trans e2).trans e3)⟩
    obtain ⟨i, rfl, hi⟩ := bet_true hb
    cases hd
    have e5 := ((e1.trans e2).trans e3).trans e4
    exact s_ret (ev_callD2 (d := shD (shp r i)) (ev_var rfl) (ed_call (ea_cons (ev_var rfl) (ea_cons (ev_var rfl) ea_nil)) fun H1 e Q q => ⟨r, i, rfl, by omega, hi, q⟩) (ev_var rfl) fun sv H1 e hs Q q => ⟨p, sv, shp r i, u, _, rfl, hs, hu.same (e5.trans e), hz, q⟩) ((q2 i rfl hi).mono e5)
abbrev s_fault_told : Stmt := topS 33
theorem sc_fault_told : FnScope ["p", "n", "pieces", "at", "piece"] ["p", "n", "pieces"] (defScope s_fault_told) := ⟨rfl, rfl, rfl, by decide +kernel, rfl, by decide +kernel, by decide +kernel⟩
theorem ok_fault_told {f : Addr} {fd : FuncData} (F : FnP K "fault_told" s_fault_told f fd) (B : Bf P K mg CN CF CT fN fT aF aM) (D3 : Dn P w K mg base CX0 2 "last_piece" ["n"] spLast) (D4 : Dn P w K mg base CX0 3 "shape_told" ["n", "at"] (spShape K)) (D5 : Dn P w K mg base CX0 5 "fits_shape" ["p", "shape", "thing"] (spFits K)) :
    FnOk P w K mg base CX0 6 f fd ["p", "n", "pieces"] (spFault K) := by
  refine F.ok sc_fault_told (fun vs H Q E h => ?_) (fun cdv A outer s H vs Q E hr h => ⟨_, (PSs.nox (pss_cons (ps_if (pt_not (pt_val (pe_callB call_isi (by rfl) B.isi (by decide +kernel) (pa_cons (pv 2) (pa_cons (pe_bltn (v := .ty "tuple") (by rfl) B.tuple b_tuple rfl) pa_nil))))) (pss_one (ps_ret pe_int)) pss_nil)
      (pss_cons (ps_for PassesOwn.never rfl (pi_enumT (by rfl) B.enumerate (pa_cons (pv 2) pa_nil)) (pg_tup rfl (pgs_cons (pg_name (i := 3) sc_fault_told.nd rfl (.inl rfl)) (pgs_cons (pg_name (i := 4) sc_fault_told.nd rfl (.inl rfl)) pgs_nil)))
        (pss_one (ps_if (PW.pt (pw_or (pt_cmpR op_gt (pv 3) (pe_d D3 hr (by decide) (pa_cons (pv 1) pa_nil)) (nomark _)) (pw_or1 (pt_not (pt_val (pe_d D5 hr (by decide) (pa_cons (pv 0) (pa_cons (pe_d D4 hr (by decide) (pa_cons (pv 1) (pa_cons (pv 3) pa_nil))) (pa_cons (pv 4) pa_nil))))))))) (pss_one (ps_ret (pv 3))) pss_nil)))
      (pss_one (ps_ret pe_non))))), ?_⟩)
  · obtain ⟨p, r, v, d, rfl, _⟩ := h
    rfl
  · obtain ⟨p, r, v, d, rfl, hr, hd, hz, q⟩ := h
    refine q_when (et_not (et_B (ev_isi (ev_var rfl) hd))) (fun hb H1 e1 => ?_) (fun hb H1 e1 => ?_)
    · refine s_ret (Evl.ev_is ev_c ?_) fun H2 e2 => q H2 (e1.trans e2)
      cases d <;> first | rfl | (exact absurd hb Bool.false_ne_true)
    · have : ∃ ds, d = .tuple ds := by
        cases d <;> first | exact ⟨_, rfl⟩ | exact absurd (show true = false from hb) (by decide)
      obtain ⟨ds, rfl⟩ := this
      refine q_forE (ev_var rfl) (hd.same e1) (fun i σ' H' => (∃ x y, σ' = [some (.int p), some (.int (2 ^ r)), some v, x, y]) ∧ Ex H1 H' ∧ ∀ j d, j < i → ds[j]? = some d → (decide (2 * r + 6 < 0 + j) || !fitD p (shp r (0 + j)) d) = false) (fun H2 e2 => ⟨⟨none, none, rfl⟩, e2, fun j d hj => absurd hj (by omega)⟩) (fun i σ' H' h => h.2.1) ?_ ?_
      · rintro i d y σ' H' hi ⟨⟨x1, y1, rfl⟩, e2, hall⟩ H2 e3 hy
        refine s_when (b := decide (2 * r + 6 < i) || !fitD p (shp r i) d) (et_or (et_is (et_test (ev_op (ev_var (v := .int i) rfl) (ev_call (ea_cons (ev_var rfl) ea_nil) (SpV.of fun H1 e Q q E => ⟨r, rfl, q⟩)) rv_I0)) (lt_int_nat _ i)) fun hlt => ?_) (fun hb H3 e4 => ?_) (fun hb H3 e4 => ?_)
        · have hle : i ≤ 2 * r + 6 := by simpa using hlt
          refine et_not (et_B (ev_callD2 (d := shD (shp r i)) (ev_var rfl) (ed_call (ea_cons (ev_var rfl) (ea_cons (ev_var (v := .int i) rfl) ea_nil)) fun H1 e Q q => ⟨r, i, rfl, by omega, hle, q⟩) (ev_var (v := y) rfl) fun sv H1 e hs Q q => ⟨p, sv, shp r i, y, d, rfl, hs, hy.same e, hz.sub (List.mem_of_getElem? hi), q⟩))
        · refine s_ret (ev_var (v := .int i) rfl) fun H4 e5 => ?_
          have : faultD p r (.tuple ds) = some i := by
            have := faultL_at (i := 0) (j := i) hall hi (by rwa [Nat.zero_add])
            rwa [Nat.zero_add] at this
          have g := q H4 ((((e1.trans e2).trans e3).trans e4).trans e5)
          rwa [this] at g
        · refine ⟨⟨_, _, rfl⟩, (e2.trans e3).trans e4, fun j d' hj hd' => ?_⟩
          by_cases hji : j = i
          · subst hji
            rw [hi] at hd'
            cases hd'
            rw [Nat.zero_add]
            exact hb
          · exact hall j d' (by omega) hd'
      · rintro σ' H' ⟨⟨x1, y1, rfl⟩, e2, hall⟩
        refine s_ret ev_c fun H2 e3 => ?_
        have : faultD p r (.tuple ds) = none := faultL_all fun j d hd => hall j d (List.getElem?_eq_some_iff.mp hd).1 hd
        have g := q H2 ((e1.trans e2).trans e3)
        rwa [this] at g
abbrev s_pieces_fault : Stmt := topS 34
theorem sc_pieces_fault : FnScope ["p", "n", "pieces"] ["p", "n", "pieces"] (defScope s_pieces_fault) := ⟨rfl, rfl, rfl, by decide +kernel, rfl, by decide +kernel, by decide +kernel⟩
theorem ok_pieces_fault {f : Addr} {fd : FuncData} (F : FnP K "pieces_fault" s_pieces_fault f fd) (D1 : Dn P w K mg base (CX P w) 6 "need_size" ["p", "n"] (spNeedSz K CN CF)) (D2 : Dn P w K mg base CX0 6 "fault_told" ["p", "n", "pieces"] (spFault K)) :
    FnOk P w K mg base (CX P w) 7 f fd ["p", "n", "pieces"] (spPFault K CN) := by
  refine F.ok sc_pieces_fault (fun vs H Q E h => ?_) (fun cdv A outer s H vs Q E hr h => ⟨_, (pss_cons (ps_expr (pe_dX D1 (W := fun cls d _ H' => E cls d H') (takes_of rfl rfl rfl rfl) (fun _ _ _ _ h => h) hr (by decide) (pa_cons (pv 0) (pa_cons (pv 1) pa_nil))))
      (pss_one (ps_ret (pe_d D2 hr (by decide) (pa_cons (pv 0) (pa_cons (pv 1) (pa_cons (pv 2) pa_nil))))))), ?_⟩)
  · obtain ⟨p, k, u, e, v, d, rfl, _⟩ := h
    rfl
  · obtain ⟨p, k, u, e, v, d, rfl, hp, hu, hd, h⟩ := h
    have hk := hp.le
    refine q_call (ea_cons (ev_var rfl) (ea_cons (ev_var rfl) ea_nil)) fun H1 e1 => ⟨p, u, e, rfl, hu.same e1, .inr ⟨k, hp, fun hb H2 e2 => ?_, fun hb => ?_⟩⟩
    · rcases h with ⟨hs, _⟩ | ⟨r, rfl, h1, h2, hz, q⟩
      · exact absurd (hs.symm.trans hb) (by decide)
      · cases hu
        exact s_retC (ea_cons (ev_var rfl) (ea_cons (ev_var rfl) (ea_cons (ev_var rfl) ea_nil))) fun H3 e3 => ⟨p, r, v, d, rfl, by omega, hd.same ((e1.trans e2).trans e3), hz, q.mono ((e1.trans e2).trans e3)⟩
    · rcases h with ⟨hs, q⟩ | ⟨r, rfl, h1, h2, hz, q⟩
      · exact q.go e1
      · exact absurd ((siz_ok h1 h2).symm.trans hb) (by decide)
abbrev s_need_pieces : Stmt := topS 35
theorem sc_need_pieces : FnScope ["p", "n", "pieces", "at"] ["p", "n", "pieces"] (defScope s_need_pieces) := ⟨rfl, rfl, rfl, by decide +kernel, rfl, by decide +kernel, by decide +kernel⟩
theorem ok_need_pieces {f : Addr} {fd : FuncData} (F : FnP K "need_pieces" s_need_pieces f fd) (B : Bf P K mg CN CF CT fN fT aF aM) (D2 : Dn P w K mg base CX0 6 "fault_told" ["p", "n", "pieces"] (spFault K)) :
    FnOk P w K mg base (CX P w) 7 f fd ["p", "n", "pieces"] (spNeedPc K CT) := by
  refine F.ok sc_need_pieces (fun vs H Q E h => ?_) (fun cdv A outer s H vs Q E hr h => ⟨_, (pss_cons (ps_set (i := 3) sc_need_pieces.nd rfl (.inl rfl) (pe_d D2 hr (by decide) (pa_cons (pv 0) (pa_cons (pv 1) (pa_cons (pv 2) pa_nil)))))
      (pss_one (ps_if (pt_cmpR op_notN (pv 3) pe_non (nomark _)) (pss_one (ps_raiseSup (W := fun cls d _ H' => E cls d H') (k := 6) rfl B.xT hr (takes_of rfl rfl rfl rfl) (pa_cons (pv 3) pa_nil) (by rfl))) pss_nil))), ?_⟩)
  · obtain ⟨p, r, v, d, rfl, _⟩ := h
    rfl
  · obtain ⟨p, r, v, d, rfl, hr, hd, hz, q1, q2⟩ := h
    refine q_asg (v := optV (faultD p r d)) (ev_call (ea_cons (ev_var rfl) (ea_cons (ev_var rfl) (ea_cons (ev_var rfl) ea_nil))) (SpV.of fun H1 e Q q E => ⟨p, r, v, d, rfl, hr, hd.same e, hz, q⟩)) fun H1 e1 => ?_
    refine s_when (b := !decide (optV (faultD p r d) = .non)) (et_test (ev_op (ev_var rfl) ev_c fun H1 _ Q q => ⟨rfl, q H1 (Ex.refl H1)⟩)) (fun hb H2 e2 => ?_) (fun hb H2 e2 => ?_)
    · cases hf : faultD p r d with
      | none => rw [hf] at hb; exact absurd hb (by decide)
      | some i => exact s_thr (ea_cons (ev_var rfl) ea_nil) ((q2 i hf).go (e1.trans e2))
    · cases hf : faultD p r d with
      | none => exact q1 hf H2 (e1.trans e2)
      | some i => rw [hf] at hb; simp [optV] at hb
abbrev s_is_whole : Stmt := topS 36
theorem sc_is_whole : FnScope ["p", "n", "pieces"] ["p", "n", "pieces"] (defScope s_is_whole) := ⟨rfl, rfl, rfl, by decide +kernel, rfl, by decide +kernel, by decide +kernel⟩
theorem ok_is_whole {f : Addr} {fd : FuncData} (F : FnP K "is_whole" s_is_whole f fd) (B : Bf P K mg CN CF CT fN fT aF aM) (D1 : Dn P w K mg base (CX P w) 6 "need_size" ["p", "n"] (spNeedSz K CN CF)) (D2 : Dn P w K mg base (CX P w) 7 "need_pieces" ["p", "n", "pieces"] (spNeedPc K CT)) (D3 : Dn P w K mg base CX0 2 "last_piece" ["n"] spLast) :
    FnOk P w K mg base (CX P w) 8 f fd ["p", "n", "pieces"] (spWhole K CF CT) := by
  refine F.ok sc_is_whole (fun vs H Q E h => ?_) (fun cdv A outer s H vs Q E hr h => ⟨_, (pss_cons (ps_expr (pe_dX D1 (W := fun cls d _ H' => E cls d H') (takes_of rfl rfl rfl rfl) (fun _ _ _ _ h => h) hr (by decide) (pa_cons (pv 0) (pa_cons (pv 1) pa_nil))))
      (pss_cons (ps_expr (pe_dX D2 (W := fun cls d _ H' => E cls d H') (takes_of rfl rfl rfl rfl) (fun _ _ _ _ h => h) hr (by decide) (pa_cons (pv 0) (pa_cons (pv 1) (pa_cons (pv 2) pa_nil)))))
      (pss_one (ps_ret (pe_cmpR op_eq (pe_callB call_len_seq (by rfl) B.len (by decide +kernel) (pa_cons (pv 2) pa_nil)) (pe_op op_add (pe_d D3 hr (by decide) (pa_cons (pv 1) pa_nil)) pe_int) (nomark _)))))), ?_⟩)
  · obtain ⟨p, n, v, d, rfl, _⟩ := h
    rfl
  · obtain ⟨p, n, v, d, rfl, hd, h⟩ := h
    refine q_call (ea_cons (ev_var rfl) (ea_cons (ev_var rfl) ea_nil)) fun H1 e1 => ⟨p, .int n, .int n, rfl, .int _, ?_⟩
    rcases h with ⟨hp, q⟩ | ⟨k, r, rfl, hp, h1, h2, hz, q1, q2⟩
    · exact .inl ⟨hp, fun H' e' => q H' (e1.trans e')⟩
    have hk := hp.le
    refine .inr ⟨k, hp, fun _ H2 e2 => ?_, fun z => absurd ((siz_ok h1 h2).symm.trans z) (by decide)⟩
    refine q_call (ea_cons (ev_var rfl) (ea_cons (ev_var rfl) (ea_cons (ev_var rfl) ea_nil))) fun H3 e3 => ⟨p, r, v, d, rfl, by omega, hd.same ((e1.trans e2).trans e3), hz, fun hf H4 e4 => ?_, fun i hf => (q1 i hf).go ((e1.trans e2).trans e3)⟩
    have : ∃ ds, d = .tuple ds := by
      cases d <;> first | exact ⟨_, rfl⟩ | exact absurd hf (by simp [faultD])
    obtain ⟨ds, rfl⟩ := this
    have e5 := ((e1.trans e2).trans e3).trans e4
    refine s_ret (Evl.ev_is (ev_op (ev_lenD (evD_of (ev_var rfl) (hd.same e5))) (ev_op (ev_call (ea_cons (ev_var rfl) ea_nil) (SpV.of fun H1 e Q q E => ⟨r, rfl, q⟩)) ev_c rv_I0) (rv_eq rfl)) ?_) fun H5 e6 => q2 hf H5 (e5.trans e6)
    rw [dec_int]
    show V.bl ((ds.length : Int) == ((2 * r + 6 : Nat) : Int) + 1) = .bl (ds.length == 2 * r + 7)
    by_cases hh : ds.length = 2 * r + 7
    · rw [hh, beq_self_eq_true, show (((2 * r + 7 : Nat) : Int) == ((2 * r + 6 : Nat) : Int) + 1) = true from beq_iff_eq.mpr (by omega)]
    · rw [beq_false_of_ne hh, beq_false_of_ne (by omega)]
end
end K51
set_option Elab.async false
set_option linter.all false
set_option maxRecDepth 100000
set_option maxHeartbeats 4000000
namespace Evl
open PySem L2
section
variable {K : PySem.W.Frag} {σ : L2.St} {H H' : Hp} {ta tb tc te tx td ty tv : TE} {t u : TT} {x y z v : V} {D : Ends} {tu tw tz : TS} {g : TG}
theorem ev_dget {a : Addr} {k : Str} {kvs : List (Key × V)} (h1 : Ev td σ H (.ref a)) (h2 : Ev ty σ H (.str k)) (e : H a = some (.dK kvs)) (hv : valV kvs (Sum.inr k) = some v) : Ev (tDGet td ty) σ H v := fun H1 e1 Q q =>
  h1 H1 e1 _ fun H2 e2 => h2 H2 (e1.trans e2) _ fun H3 e3 => ⟨a, v, rfl, by rw [← hv]; exact DGet.k (k := Sum.inr k) (((e1.trans e2).trans e3) a _ e), q H3 (e2.trans e3)⟩
theorem s_dput {a : Addr} {k : Str} {kvs : List (Key × V)} (hv : Ev tv σ H v) (h1 : Ev td σ H (.ref a)) (h2 : Ev ty σ H (.str k)) (e : H a = some (.dK kvs)) (hz : kvs.length < 1000) (q : ∀ H1, Ex H H1 → D.nx σ (upd H1 a (.dK (putK kvs (Sum.inr k) v)))) : sDPut td ty tv D σ H :=
  hv H (Ex.refl H) _ fun H1 e1 => h1 H1 e1 _ fun H2 e2 => h2 H2 (e1.trans e2) _ fun H3 e3 => ⟨a, _, rfl, DPut.k (k := Sum.inr k) (((e1.trans e2).trans e3) a _ e) (Nat.lt_of_lt_of_le hz (by decide)), q H3 ((e1.trans e2).trans e3)⟩
theorem q_dput {a : Addr} {k : Str} {kvs : List (Key × V)} (hv : Ev tv σ H v) (h1 : Ev td σ H (.ref a)) (h2 : Ev ty σ H (.str k)) (e : H a = some (.dK kvs)) (hz : kvs.length < 1000) (q : ∀ H1, Ex H H1 → tz D σ (upd H1 a (.dK (putK kvs (Sum.inr k) v)))) : tSeq (sDPut td ty tv) tz D σ H :=
  s_dput (D := { D with nx := tz D }) hv h1 h2 e hz q
/-- a put behind a value that a promise gives -/
theorem q_dputC {sp : Sp} {dvs vs : List V} {E : XK} {ta : TA} (h : EvA ta σ H vs) (k : ∀ H1, Ex H H1 → sp (vs ++ dvs) H1 (fun v H2 => ∃ (a : Addr) (k : Str) (kvs : List (Key × V)), Ev td σ H2 (.ref a) ∧ Ev ty σ H2 (.str k) ∧ H2 a = some (.dK kvs) ∧ kvs.length < 1000 ∧ ∀ H3, Ex H2 H3 → D.nx σ (upd H3 a (.dK (putK kvs (Sum.inr k) v)))) E)
    (mono : ∀ H1 Q Q', (∀ x H, Q x H → Q' x H) → sp (vs ++ dvs) H1 Q E → sp (vs ++ dvs) H1 Q' E) : sDPut td ty (tCall sp dvs E ta) D σ H :=
  h H (Ex.refl H) _ fun H1 e1 => mono H1 _ _ (fun v H2 ⟨a, k, kvs, h1, h2, e, hz, q⟩ => h1 H2 (Ex.refl H2) _ fun H3 e3 => h2 H3 e3 _ fun H4 e4 => ⟨a, _, rfl, DPut.k (k := Sum.inr k) ((e3.trans e4) a _ e) (Nat.lt_of_lt_of_le hz (by decide)), q H4 (e3.trans e4)⟩) (k H1 e1)
theorem ev_int1 {i : Int} {ta : TE} (h : Ev ta σ H (.int i)) : Ev (tCB (fun xs H Q => (∃ i, xs = [.int i] ∧ Q (.int i) H) ∨ ∃ k, xs = [.bl k] ∧ Q (.int (if k then 1 else 0)) H) (tCons ta tNil)) σ H (.int i) := fun H1 e Q q =>
  h H1 e _ fun H2 e2 => .inl ⟨i, rfl, q H2 e2⟩
end
end Evl
namespace K51
open PySem PySem.Spec PyProof.Rows L2 Evl
/-! ### the law's draws -/
def kvsOf (la ca : Addr) (rest turn : Int) : List (Key × V) := [(.inr "large", .ref la), (.inr "cells", .ref ca), (.inr "rest", .int rest), (.inr "turn", .int turn)]
structure DrX (H : Hp) (a la ca : Addr) (rest turn : Int) (large cells : List Int) : Prop where
  d : H a = some (.dK (kvsOf la ca rest turn))
  l : H la = some (.lst (large.map V.int))
  c : H ca = some (.lst (cells.map V.int))
  ne : la ≠ ca
def Dr (H : Hp) (a la ca : Addr) : Prop := ∃ rest turn large cells, DrX H a la ca rest turn large cells
def hm (a la : Addr) (b : Addr) : Bool := decide (b = a ∨ b = la)
abbrev mask (a la : Addr) (H : Hp) : Hp := hide (hm a la) H
theorem mask_ex {a la : Addr} {H : Hp} : Ex (mask a la H) H := hide_ex
theorem mask_of {a la : Addr} {H H' : Hp} (e : Ex H H') : Ex (mask a la H) (mask a la H') := hide_of e
theorem mask_upd_a {a la : Addr} {H : Hp} {o : HO} : mask a la (upd H a o) = mask a la H := by
  funext b
  unfold mask hide hm
  by_cases h : b = a ∨ b = la
  · rw [if_pos (decide_eq_true h), if_pos (decide_eq_true h)]
  · rw [if_neg (fun z => h (of_decide_eq_true z)), if_neg (fun z => h (of_decide_eq_true z)), upd_ne (fun z => h (.inl z))]
theorem mask_upd_l {a la : Addr} {H : Hp} {o : HO} : mask a la (upd H la o) = mask a la H := by
  funext b
  unfold mask hide hm
  by_cases h : b = a ∨ b = la
  · rw [if_pos (decide_eq_true h), if_pos (decide_eq_true h)]
  · rw [if_neg (fun z => h (of_decide_eq_true z)), if_neg (fun z => h (of_decide_eq_true z)), upd_ne (fun z => h (.inr z))]
theorem DrX.ex {H H' : Hp} {a la ca : Addr} {rest turn : Int} {large cells : List Int} (h : DrX H a la ca rest turn large cells) (e : Ex H H') : DrX H' a la ca rest turn large cells :=
  ⟨e _ _ h.d, e _ _ h.l, e _ _ h.c, h.ne⟩
theorem Dr.ex {H H' : Hp} {a la ca : Addr} (h : Dr H a la ca) (e : Ex H H') : Dr H' a la ca := let ⟨r, t, l, c, d⟩ := h; ⟨r, t, l, c, d.ex e⟩
theorem Dr.hd {H : Hp} {a la ca : Addr} (h : Dr H a la ca) : Hd (hm a la) H := fun b hb z => by
  obtain ⟨r, t, l, c, d⟩ := h
  rcases of_decide_eq_true hb with rfl | rfl
  · rw [d.d] at z
    cases z
  · rw [d.l] at z
    cases z
theorem DrX.al {H : Hp} {a la ca : Addr} {rest turn : Int} {large cells : List Int} (h : DrX H a la ca rest turn large cells) : a ≠ la := fun z => by
  have h1 := h.d
  rw [z, h.l] at h1
  cases h1
theorem DrX.ac {H : Hp} {a la ca : Addr} {rest turn : Int} {large cells : List Int} (h : DrX H a la ca rest turn large cells) : a ≠ ca := fun z => by
  have h1 := h.d
  rw [z, h.c] at h1
  cases h1
theorem DrX.put {H : Hp} {a la ca : Addr} {rest turn rest' turn' : Int} {large cells : List Int} (h : DrX H a la ca rest turn large cells) : DrX (upd H a (.dK (kvsOf la ca rest' turn'))) a la ca rest' turn' large cells :=
  ⟨upd_same, (upd_ne h.al.symm).trans h.l, (upd_ne h.ac.symm).trans h.c, h.ne⟩
theorem DrX.pop {H : Hp} {a la ca : Addr} {rest turn : Int} {large large' cells : List Int} (h : DrX H a la ca rest turn large cells) : DrX (upd H la (.lst (large'.map V.int))) a la ca rest turn large' cells :=
  ⟨(upd_ne h.al).trans h.d, upd_same, (upd_ne h.ne.symm).trans h.c, h.ne⟩
/-- a step of the draws: all but the dict and its list of large draws stays -/
def Stp (a la ca : Addr) (H H' : Hp) : Prop := Dr H' a la ca ∧ Ex (mask a la H) (mask a la H')
theorem Stp.of {a la ca : Addr} {H H' : Hp} (h : Dr H a la ca) (e : Ex H H') : Stp a la ca H H' := ⟨h.ex e, mask_of e⟩
theorem Stp.trans {a la ca : Addr} {H H1 H2 : Hp} (h : Stp a la ca H H1) (h2 : Stp a la ca H1 H2) : Stp a la ca H H2 := ⟨h2.1, h.2.trans h2.2⟩
theorem Stp.ex {a la ca : Addr} {H H1 H2 : Hp} (h : Stp a la ca H H1) (e : Ex H1 H2) : Stp a la ca H H2 := ⟨h.1.ex e, h.2.trans (mask_of e)⟩
theorem put_turn {la ca : Addr} {rest turn t : Int} : putK (kvsOf la ca rest turn) (Sum.inr "turn") (.int t) = kvsOf la ca rest t := by
  with_unfolding_all rfl
theorem put_rest {la ca : Addr} {rest turn t : Int} : putK (kvsOf la ca rest turn) (Sum.inr "rest") (.int t) = kvsOf la ca t turn := by
  with_unfolding_all rfl
theorem get_large {la ca : Addr} {rest turn : Int} : valV (kvsOf la ca rest turn) (Sum.inr "large") = some (.ref la) := by with_unfolding_all rfl
theorem get_cells {la ca : Addr} {rest turn : Int} : valV (kvsOf la ca rest turn) (Sum.inr "cells") = some (.ref ca) := by with_unfolding_all rfl
theorem get_rest {la ca : Addr} {rest turn : Int} : valV (kvsOf la ca rest turn) (Sum.inr "rest") = some (.int rest) := by with_unfolding_all rfl
theorem get_turn {la ca : Addr} {rest turn : Int} : valV (kvsOf la ca rest turn) (Sum.inr "turn") = some (.int turn) := by with_unfolding_all rfl
theorem shaped_ints : ∀ ns : List Int, SeqAt.shaped (.list (ns.map PyData.int)) = true := fun ns => by
  have h1 : ∀ ns : List Int, PyData.canLayAll0 (ns.map PyData.int) = true := fun ns => by
    induction ns with
    | nil => rfl
    | cons n r ih => show (true && _) = true; rw [ih]; rfl
  have h2 : ∀ ns : List Int, PyData.depthAll (ns.map PyData.int) = 0 := fun ns => by
    induction ns with
    | nil => rfl
    | cons n r ih => show max 0 _ = 0; rw [ih]; rfl
  show (PyData.canLayAll0 _ && decide (PyData.depthAll _ + 1 ≤ 64)) = true
  rw [h1, h2]
  rfl
def spBlend : Sp := fun vs H Q _ => ∃ a la ca rest turn large cells, vs = [.ref a] ∧ DrX H a la ca rest turn large cells ∧ ∀ x t H', DrX H' a la ca rest t large cells → Ex (mask a la H) (mask a la H') → Q (.int x) H'
def spTake : Sp := fun vs H Q _ => ∃ a la ca n, vs = [.ref a, .int n] ∧ Dr H a la ca ∧ 0 < n ∧ n < 1000000000 ∧ ∀ x H', 0 ≤ x → x < n → Stp a la ca H H' → Q (.int x) H'
def spBegun (K : PySem.W.Frag) : Sp := fun vs H Q _ => ∃ (s : Addr) (ns : List Int), vs = [.ref s] ∧ SqL K H s (ns.map V.int) ∧ ns.length ≤ 40000 ∧ ∀ a la ca H', H a = none → H la = none → Dr H' a la ca → Ex H H' → Q (.ref a) H'
section
variable {P : Program} {w : World} {K : PySem.W.Frag} {mg : Str → Option Value} {base : Heap} {CN CF CT fN fT aF aM : Addr}
abbrev s_law_blend : Stmt := topS 39
theorem sc_law_blend : FnScope ["draw", "laps", "found", "prime", "stirred", "cell"] ["draw"] (defScope s_law_blend) := ⟨rfl, rfl, rfl, by decide +kernel, rfl, by decide +kernel, by decide +kernel⟩
theorem fmod_bd {x p : Int} (h : 0 < p) (h2 : p < 3000000000) : 0 ≤ x.fmod p ∧ x.fmod p < 3000000000 := by
  rw [Int.fmod_eq_emod_of_nonneg _ (by omega)]
  have h1 := Int.emod_nonneg x (show p ≠ 0 by omega)
  have h3 := Int.emod_lt_of_pos x h
  exact ⟨h1, by omega⟩
theorem ok_law_blend {f : Addr} {fd : FuncData} (F : FnP K "_law_blend" s_law_blend f fd) (B : Bf P K mg CN CF CT fN fT aF aM) : FnOk P w K mg base CX0 1 f fd ["draw"] spBlend := by
  refine F.ok sc_law_blend (fun vs H Q E h => ?_) (fun cdv A outer s H vs Q E hr h => ⟨_, (PSs.nox (pss_cons (ps_par (i := 1) (j := 2) (by rfl) sc_law_blend.nd rfl rfl (by decide) rfl rfl (pa_cons (pe_op op_add (pe_dget (hu_of hr) (pv 0) pe_str (fun _ _ => rfl)) pe_int) (pa_cons pe_int pa_nil)) (by rfl))
      (pss_cons (ps_dput (hu_of hr) (pv 0) pe_str (pv 1) rfl)
      (pss_cons (ps_for PassesOwn.never rfl (pi_list (pe_lst (pa_cons pe_int (pa_cons pe_int (pa_cons pe_int pa_nil))))) (pg_name (i := 3) sc_law_blend.nd rfl (.inl rfl))
        (pss_cons (ps_set (i := 4) sc_law_blend.nd rfl (.inl rfl) (pe_op op_modN (pe_callTy call_int1 (by rfl) B.int (by decide +kernel) (pa_cons (pe_op op_add (pe_op op_mul (pv 1) pe_int) (pe_op op_fdivN (pv 3) pe_int)) pa_nil)) (pv 3)))
        (pss_cons (ps_for PassesOwn.never rfl (pi_list (pe_dget (hu_of hr) (pv 0) pe_str (fun _ _ => rfl))) (pg_name (i := 5) sc_law_blend.nd rfl (.inl rfl))
          (pss_one (ps_set (i := 4) sc_law_blend.nd rfl (.inl rfl) (pe_op op_modN (pe_callTy call_int1 (by rfl) B.int (by decide +kernel) (pa_cons (pe_op op_add (pe_op op_add (pe_op op_mul (pv 4) pe_int) (pe_callTy call_int1 (by rfl) B.int (by decide +kernel) (pa_cons (pv 5) pa_nil))) pe_int) pa_nil)) (pv 3)))))
        (pss_one (ps_set (i := 2) sc_law_blend.nd rfl (.inl rfl) (pe_op op_add (pe_op op_mul (pv 2) pe_int) (pe_op op_modN (pe_callTy call_int1 (by rfl) B.int (by decide +kernel) (pa_cons (pe_op op_pow (pv 4) pe_int) pa_nil)) (pv 3))))))))
      (pss_one (ps_ret (pv 2))))))), ?_⟩)
  · obtain ⟨a, la, ca, rest, turn, large, cells, rfl, _⟩ := h
    rfl
  · obtain ⟨a, la, ca, rest, turn, large, cells, rfl, hd, q⟩ := h
    refine q_par (ea_cons (ev_op (ev_dget (ev_var rfl) ev_c hd.d get_turn) ev_c rv_I0) (ea_cons ev_c ea_nil)) fun H1 e1 => ?_
    refine q_dput (ev_var rfl) (ev_var rfl) ev_c (hd.ex e1).d (by show 4 < 1000; decide) fun H2 e2 => ?_
    rw [put_turn]
    have hd2 := (hd.ex (e1.trans e2)).put (rest' := rest) (turn' := turn + 1)
    have em2 : Ex (mask a la H) (mask a la (upd H2 a (.dK (kvsOf la ca rest (turn + 1))))) := by
      rw [mask_upd_a]
      exact mask_of (e1.trans e2)
    generalize upd H2 a (.dK (kvsOf la ca rest (turn + 1))) = H3 at hd2 em2
    refine q_forNL (xs := [.int 2147483629, .int 2147483587, .int 2147483579]) (el_lst (ea_cons ev_c (ea_cons ev_c (ea_cons ev_c ea_nil))) (by decide)) (fun p i σ' H' => (∃ found x y z, σ' = [some (.ref a), some (.int (turn + 1)), some (.int found), x, y, z]) ∧ Ex H3 H' ∧ H' p = some (.lst [.int 2147483629, .int 2147483587, .int 2147483579]))
      (fun p H4 hp e4 h4 => ⟨⟨0, none, none, none, rfl⟩, e4, h4⟩) (fun p i σ' H' _ h => sq_of h.2.2) ?_ ?_
    · rintro p i x σ' H' hi ⟨⟨found, y1, y2, y3, rfl⟩, e4, hl⟩
      have hx : ∃ pr : Int, x = .int pr ∧ 0 < pr ∧ pr < 3000000000 := by
        have hm := List.mem_of_getElem? hi
        simp at hm
        rcases hm with rfl | rfl | rfl
        · exact ⟨_, rfl, by decide, by decide⟩
        · exact ⟨_, rfl, by decide, by decide⟩
        · exact ⟨_, rfl, by decide, by decide⟩
      obtain ⟨pr, rfl, hp0, hp1⟩ := hx
      refine q_asg (ev_op (ev_int1 (ev_op (ev_op (ev_var rfl) ev_c (rv_I (.inr (by decide)))) (ev_op (ev_var rfl) ev_c (rv_I ⟨by decide, by decide⟩)) rv_I0)) (ev_var rfl) (rv_I (by omega))) fun H5 e5 => ?_
      have hb := fmod_bd (x := (turn + 1) * 69621 + pr.fdiv 13) hp0 hp1
      generalize ((turn + 1) * 69621 + pr.fdiv 13).fmod pr = st at hb
      refine q_forLn (ev_dget (ev_var rfl) ev_c (hd2.ex (e4.trans e5)).d get_cells) (sq_of (hd2.ex (e4.trans e5)).c) (fun i σ' H' => (∃ (st : Int) (z : Option V), 0 ≤ st ∧ st < 3000000000 ∧ σ' = [some (.ref a), some (.int (turn + 1)), some (.int found), some (.int pr), some (.int st), z]) ∧ Ex H3 H' ∧ H' p = some (.lst [.int 2147483629, .int 2147483587, .int 2147483579]))
        (fun H6 e6 => ⟨⟨st, y3, hb.1, hb.2, rfl⟩, (e4.trans e5).trans e6, e6 _ _ (e5 _ _ hl)⟩) (fun i σ' H' _ h => sq_of (hd2.ex h.2.1).c) ?_ ?_
      · rintro j y σ' H' hj ⟨⟨st', z, hs0, hs1, rfl⟩, e6, hl6⟩
        obtain ⟨c, rfl⟩ : ∃ c : Int, y = .int c := by
          have hm := List.mem_of_getElem? hj
          obtain ⟨c, _, rfl⟩ := List.mem_map.mp hm
          exact ⟨c, rfl⟩
        refine s_asg (ev_op (ev_int1 (ev_op (ev_op (ev_op (ev_var rfl) ev_c (rv_I (.inr (by decide)))) (ev_int1 (ev_var rfl)) rv_I0) ev_c rv_I0)) (ev_var rfl) (rv_I (by omega))) fun H7 e7 => ⟨⟨_, _, (fmod_bd hp0 hp1).1, (fmod_bd hp0 hp1).2, rfl⟩, e6.trans e7, e7 _ _ hl6⟩
      · rintro σ' H' ⟨⟨st', z, hs0, hs1, rfl⟩, e6, hl6⟩
        refine s_asg (ev_op (ev_op (ev_var rfl) ev_c (rv_I (.inr (by decide)))) (ev_op (ev_int1 (ev_op (ev_var rfl) ev_c (rv_I ⟨by decide, by decide, by omega⟩))) (ev_var rfl) (rv_I (by omega))) rv_I0) fun H7 e7 => ⟨⟨_, _, _, _, rfl⟩, e6.trans e7, e7 _ _ hl6⟩
    · rintro p σ' H' ⟨⟨found, y1, y2, y3, rfl⟩, e4, hl⟩
      exact s_ret (ev_var rfl) fun H5 e5 => q found (turn + 1) H5 (hd2.ex (e4.trans e5)) (em2.trans (mask_of (e4.trans e5)))
end
end K51
set_option Elab.async false
set_option linter.all false
set_option maxRecDepth 100000
set_option maxHeartbeats 4000000
namespace Evl
open PySem L2
section
variable {K : PySem.W.Frag} {σ : L2.St} {H H' : Hp} {ta tb tc te tx td ty tv : TE} {t u : TT} {x y z v : V} {D : Ends} {tu tw tz : TS} {g : TG} {Q : VK}
theorem x_op {r : R2} (h : Ev ta σ H x) (k : ∀ H1, Ex H H1 → tb σ H1 fun y H2 => r x y H2 Q) : tOp r ta tb σ H Q := h H (Ex.refl H) _ k
theorem x_ret (k : te σ H D.rt) : tRet te D σ H := k
theorem x_asg {i : Nat} (k : te σ H fun v H1 => tz D (σ.set i (some v)) H1) : tSeq (tAsg te (gName i)) tz D σ H := k
theorem x_lst {ta : TA} (k : ta σ H fun vs H1 => vs.length ≤ sizeLine ∧ ∀ p, H1 p = none → Q (.ref p) (upd H1 p (.lst vs))) : tLst ta σ H Q := k
theorem x_cons {tr : TA} {R : List V → Hp → Prop} (k : te σ H fun x H1 => tr σ H1 fun xs H2 => R (x :: xs) H2) : tCons te tr σ H R := k
theorem x_nil {R : List V → Hp → Prop} (k : R [] H) : tNil σ H R := k
/-- d[k] = l.pop(0) -/
theorem s_dputPop {a l : Addr} {k : Str} {kvs : List (Key × V)} {xs : List V} (ho : Ev te σ H (.ref l)) (hl : H l = some (.lst (x :: xs))) (h1 : ∀ H1, Ev td σ H1 (.ref a)) (h2 : ∀ H1, Ev ty σ H1 (.str k)) (e : H a = some (.dK kvs)) (al : a ≠ l) (hz : kvs.length < 1000)
    (q : ∀ H1 H2, Ex H H1 → Ex (upd H1 l (.lst xs)) H2 → D.nx σ (upd H2 a (.dK (putK kvs (Sum.inr k) x)))) : sDPut td ty (tBM K "list" rPopAt te (tCons (tC (.int 0)) tNil)) D σ H :=
  ho H (Ex.refl H) _ fun H1 e1 => ⟨.inl ⟨rfl, _, sq_of (e1 _ _ hl)⟩, l, x :: xs, 0, 0, x, rfl, rfl, e1 _ _ hl, by decide, by decide, (ixN_seq (ixN_nat (n := (x :: xs).length) (j := 0) (by simp))).1, rfl, h1 _ _ (Ex.refl _) _ fun H2 e2 => h2 _ _ (Ex.refl _) _ fun H3 e3 => ⟨a, _, rfl, DPut.k (k := Sum.inr k) ((e2.trans e3) a _ ((upd_ne al).trans (e1 _ _ e))) (Nat.lt_of_lt_of_le hz (by decide)), q H1 H3 e1 (e2.trans e3)⟩⟩
theorem DpAll.of_get : ∀ {vs : List V} {ds : List PyData}, vs.length = ds.length → (∀ (i : Nat) v d, vs[i]? = some v → ds[i]? = some d → Dp K H v d) → DpAll K H vs ds
  | [], [], _, _ => .nil
  | v :: vs, d :: ds, hl, h => .cons (h 0 v d rfl rfl) (DpAll.of_get (by simpa using hl) fun i v d h1 h2 => h (i + 1) v d (by simpa using h1) (by simpa using h2))
  | [], _ :: _, hl, _ => by simp at hl
  | _ :: _, [], hl, _ => by simp at hl
/-- tuple([row for i in range(n)]), each row a new tuple of ints -/
theorem eh_tupLc {h : Addr → Bool} {ta : TA} {j : Nat} {vs : List Nat} {n : Nat} (row : Nat → List Int) (hh : Hd h H) (k : EvA ta σ H [.int (n : Int)]) (hn : n ≤ 40000) (hw : ∀ x, wipe ((wipe σ vs).set j (some x)) vs = wipe σ vs)
    (he : ∀ (i : Nat) H1, Ex H H1 → i < n → EvU te ((wipe σ vs).set j (some (.int (i : Int)))) H1 ((row i).map V.int)) :
    EvH K h (tCB (rTupOf K) (tCons (tLc (iRng1 ta) (gName j) tYes te vs) tNil)) σ H (.tuple ((List.range n).map fun i => .tuple ((row i).map PyData.int))) := fun H1 e Q q => by
  show tLc (iRng1 ta) (gName j) tYes te vs σ H1 fun x H2 => rTupOf K [x] H2 Q
  exact el_lcU (fun i => (row i).map V.int) k hn hw he H1 e _ fun p ps H2 hp e2 hl pl pa => ⟨p, ps.map V.ref, rfl, .inl ⟨sq_of hl, fun T hT => q _ _ (e2.trans (Ex.new hT)) (.tup (.inl (.inl (hide_at (hh.ex (e.trans e2)) hT upd_same)))
    (DpAll.of_get (by simp [pl]) fun i v d h1 h2 => by
      rw [List.getElem?_map] at h1 h2
      cases hb : ps[i]? with
      | none => rw [hb] at h1; cases h1
      | some b =>
        rw [hb] at h1
        cases h1
        obtain ⟨b1, b2⟩ := pa i b hb
        have hi : i < n := by rw [← pl]; exact (List.getElem?_eq_some_iff.mp hb).1
        rw [List.getElem?_range hi] at h2
        cases h2
        have bT : b ≠ T := fun z => by rw [z, hT] at b2; cases b2
        exact .tup (.inl (.inl (hide_at (hh.ex e) b1 ((upd_ne bT).trans b2)))) (DpAll.ints _)))⟩⟩
end
end Evl
namespace K51
open PySem PySem.Spec PyProof.Rows L2 Evl
def domB (H : Hp) (b : Addr) : Bool := (H b).isSome
theorem Stp.dom {a la ca : Addr} {H H' : Hp} (h : Stp a la ca H H') : Hd (domB H) H' := fun b hb z => by
  obtain ⟨⟨r, t, l, c, d⟩, e⟩ := h
  cases q : H b with
  | none => simp [domB, q] at hb
  | some o =>
    by_cases hz : b = a ∨ b = la
    · rcases hz with rfl | rfl
      · rw [d.d] at z; cases z
      · rw [d.l] at z; cases z
    · have h1 : mask a la H b = some o := by
        unfold mask hide hm
        rw [if_neg (fun z => hz (of_decide_eq_true z))]
        exact q
      have := mask_ex b o (e b o h1)
      rw [z] at this
      cases this
theorem dom_mask {a la ca : Addr} {H H' : Hp} (h : Dr H a la ca) : Ex (hide (domB H) H') (mask a la H') := hide_le fun b hb => by
  have := h.hd b hb
  cases q : H b with
  | none => exact absurd q this
  | some o => simp [domB, q]
/-! ### mirrors -/
def shOK : Sh → Prop
  | .dr m => 1 ≤ m ∧ m ≤ 3
  | .wo m k => 1 ≤ m ∧ m ≤ 50 ∧ 1 ≤ k ∧ k ≤ 64
theorem mod_bet {x p : Int} (h : 0 < p) : betD (.int (x.fmod p)) 0 (p - 1) = true := by
  show (decide (0 ≤ x.fmod p) && decide (x.fmod p ≤ p - 1)) = true
  rw [Int.fmod_eq_emod_of_nonneg _ (by omega)]
  have h1 := Int.emod_nonneg x (show p ≠ 0 by omega)
  have h3 := Int.emod_lt_of_pos x h
  rw [decide_eq_true h1, decide_eq_true (by omega)]
  rfl
theorem fit_len {p : Int} {s : Sh} {ds : List PyData} {m : Nat} (hs : s = .dr m ∨ ∃ k, s = .wo m k) (h : ds.length ≠ m) : fitD p s (.tuple ds) = false := by
  have e : (((ds.length : Int)) == (m : Int)) = false := beq_false_of_ne (by omega)
  rcases hs with rfl | ⟨k, rfl⟩
  · show (_ && ((ds.length : Int) == m)) = false
    rw [e, Bool.and_false]
  · show (((ds.length : Int) == m) && _) = false
    rw [e, Bool.false_and]
theorem fit_dr {p : Int} {m : Nat} {x : PyData} {ds : List PyData} (h : betD x 0 (p - 1) = false) : fitD p (.dr m) (.tuple (x :: ds)) = false := by
  show ((betD x 0 (p - 1) && _) && _) = false
  rw [h]
  rfl
theorem fit_wo {p : Int} {m k : Nat} {x : PyData} {ds : List PyData} (h : wordD p k x = false) : fitD p (.wo m k) (.tuple (x :: ds)) = false := by
  show (_ && (wordD p k x && _)) = false
  rw [h, Bool.false_and, Bool.and_false]
theorem word_len {p : Int} {k : Nat} {ds : List PyData} (h : ds.length ≠ k) : wordD p k (.tuple ds) = false := by
  have e : (((ds.length : Int)) == (k : Int)) = false := beq_false_of_ne (by omega)
  show (((ds.length : Int) == k) && _) = false
  rw [e, Bool.false_and]
theorem word_bad {p : Int} {k : Nat} {ds : List PyData} {x : PyData} (hx : x ∈ ds) (h : betD x 0 (p - 1) = false) : wordD p k (.tuple ds) = false := by
  show (_ && ds.all _) = false
  have : (ds.all fun x => betD x 0 (p - 1)) = false := by
    rw [List.all_eq_false]
    exact ⟨x, hx, by rw [h]; decide⟩
  rw [this, Bool.and_false]
theorem bet_p {p : Int} : betD (.int p) 0 (p - 1) = false := by
  show (decide ((0 : Int) ≤ p) && decide (p ≤ p - 1)) = false
  rw [decide_eq_false (show ¬ p ≤ p - 1 by omega), Bool.and_false]
theorem bet_m1 {p : Int} : betD (.int (-1)) 0 (p - 1) = false := rfl
section
variable (K : PySem.W.Frag)
def spPick : Sp := fun vs H Q _ => ∃ a la ca v ds, vs = [.ref a, v] ∧ Dr H a la ca ∧ Dp K (mask a la H) v (.list ds) ∧ 0 < ds.length ∧ ds.length < 1000 ∧ ∀ x d H', d ∈ ds → Dp K (mask a la H') x d → Stp a la ca H H' → Q x H'
def spLShape : Sp := spShape K
def spLPiece : Sp := fun vs H Q _ => ∃ a la ca p sv s, vs = [.ref a, .int p, sv] ∧ Dr H a la ca ∧ Dp K (mask a la H) sv (shD s) ∧ shOK s ∧ 0 < p ∧ p < 1000000 ∧ ∀ x d H', fitD p s d = true → Dp K (hide (domB H) H') x d → Stp a la ca H H' → Q x H'
def spOdd : Sp := fun vs H Q _ => ∃ a la ca p v d s, vs = [.ref a, .int p, v] ∧ Dr H a la ca ∧ Dp K (mask a la H) v d ∧ shOK s ∧ fitD p s d = true ∧ 0 < p ∧ p < 1000000 ∧ ∀ x e H', fitD p s e = false → sm1 e → Dp K (mask a la H') x e → Stp a la ca H H' → Q x H'
def shOk (d : PyData) : Prop := d.showable = true ∧ d.hasDict = false ∧ d.depth ≤ 64 ∧ d.shown.length ≤ sizeLine
def spSame : Sp := fun vs H Q _ => ∃ v u d, vs = [v, u] ∧ Dp K H v d ∧ Dp K H u d ∧ shOk d ∧ RetV (.bl true) H Q
end
section
variable {P : Program} {w : World} {K : PySem.W.Frag} {mg : Str → Option Value} {base : Heap} {CN CF CT fN fT aF aM : Addr}
abbrev s_law_take : Stmt := topS 40
theorem sc_law_take : FnScope ["draw", "size", "found"] ["draw", "size"] (defScope s_law_take) := ⟨rfl, rfl, rfl, by decide +kernel, rfl, by decide +kernel, by decide +kernel⟩
theorem ok_law_take {f : Addr} {fd : FuncData} (F : FnP K "_law_take" s_law_take f fd) (B : Bf P K mg CN CF CT fN fT aF aM) (D1 : Dn P w K mg base CX0 1 "_law_blend" ["draw"] spBlend) : FnOk P w K mg base CX0 2 f fd ["draw", "size"] spTake := by
  refine F.ok sc_law_take (fun vs H Q E h => ?_) (fun cdv A outer s H vs Q E hr h => ⟨_, (PSs.nox (pss_cons (ps_while PassesOwn.never (PW.pt (pw_and (pt_cmpR op_eq (pe_dget (hu_of hr) (pv 0) pe_str (fun _ _ => rfl)) pe_int (nomark _)) (pw_and1 (pt_cmpR (op_neD hr.units) (pe_dget (hu_of hr) (pv 0) pe_str (fun _ _ => rfl)) (pe_lst pa_nil) (nomark _))))) (pss_one (ps_dput (hu_of hr) (pv 0) pe_str (pe_bm PySem.F.plainAttrs_list PySem.F.slot_list_pop PySem.F.type_list_pop mt_popAt (pe_dget (hu_of hr) (pv 0) pe_str (fun _ _ => rfl)) (pa_cons pe_int pa_nil)) rfl)))
      (pss_cons (ps_if (pt_cmpR op_eq (pe_dget (hu_of hr) (pv 0) pe_str (fun _ _ => rfl)) pe_int (nomark _)) (pss_one (ps_dput (hu_of hr) (pv 0) pe_str (pe_d D1 hr (by decide) (pa_cons (pv 0) pa_nil)) rfl)) pss_nil)
      (pss_cons (ps_set (i := 2) sc_law_take.nd rfl (.inl rfl) (pe_op op_modN (pe_callTy call_int1 (by rfl) B.int (by decide +kernel) (pa_cons (pe_dget (hu_of hr) (pv 0) pe_str (fun _ _ => rfl)) pa_nil)) (pv 1)))
      (pss_cons (ps_dput (hu_of hr) (pv 0) pe_str (pe_op op_fdivN (pe_callTy call_int1 (by rfl) B.int (by decide +kernel) (pa_cons (pe_dget (hu_of hr) (pv 0) pe_str (fun _ _ => rfl)) pa_nil)) (pv 1)) rfl)
      (pss_one (ps_ret (pv 2)))))))), ?_⟩)
  · obtain ⟨a, la, ca, n, rfl, _⟩ := h
    rfl
  · obtain ⟨a, la, ca, n, rfl, ⟨rest, turn, large, cells, hd⟩, hn0, hn1, q⟩ := h
    refine q_while (fun m σ' H' => ∃ rest large, large.length = m ∧ σ' = [some (.ref a), some (.int n), none] ∧ DrX H' a la ca rest turn large cells ∧ Ex (mask a la H) (mask a la H')) large.length ⟨rest, large, rfl, rfl, hd, Ex.refl _⟩ ?_
    rintro m σ' H' ⟨rest, large, hm, rfl, hd, em⟩
    refine ⟨_, et_and (et_test (ev_op (ev_dget (ev_var rfl) ev_c hd.d get_rest) ev_c (rv_eq rfl))) (fun _ => et_test (ev_opL (z := .bl (!PyData.eqv (.list (large.map PyData.int)) (.list []))) (ev_dget (ev_var rfl) ev_c hd.d get_large) (el_lst ea_nil (by decide)) fun p H1 hp e1 H2 e2 Q q =>
      ⟨_, _, .lst (sq_of (e2 _ _ (e1 _ _ hd.l))) (DpAll.ints _), .lst (sq_of (e2 _ _ hp)) .nil, shaped_ints _, rfl, q H2 (Ex.refl _)⟩)), fun hb H1 e1 => ?_, fun hb H1 e1 => ?_⟩
    · cases large with
      | nil =>
        rw [Bool.and_eq_true] at hb
        exact absurd hb.2 (by decide)
      | cons x r =>
        have hd1 := hd.ex e1
        refine ⟨fun σ2 H2 => ∃ rest, σ2 = [some (.ref a), some (.int n), none] ∧ DrX H2 a la ca rest turn r cells ∧ Ex (mask a la H) (mask a la H2), ?_, ?_⟩
        · rintro σ2 H2 ⟨rest, h1, h2, h3⟩
          exact ⟨r.length, by simp at hm; omega, rest, r, rfl, h1, h2, h3⟩
        · refine s_dputPop (x := .int x) (xs := r.map V.int) (ev_dget (ev_var rfl) ev_c hd1.d get_large) hd1.l (fun _ => ev_var rfl) (fun _ => ev_c) hd1.d hd.al (by show 4 < 1000; decide) fun H2 H3 e2 e3 => ⟨x, rfl, ?_, ?_⟩
          · rw [put_rest]
            exact (((hd1.ex e2).pop (large' := r)).ex e3).put
          · rw [mask_upd_a]
            refine (em.trans (mask_of (e1.trans e2))).trans ?_
            have := mask_of (a := a) (la := la) e3
            rwa [mask_upd_l] at this
    · have hd1 := hd.ex e1
      have em1 := em.trans (mask_of (a := a) (la := la) e1)
      have fin : ∀ rest turn H', DrX H' a la ca rest turn large cells → Ex (mask a la H) (mask a la H') → tSeq (tAsg (tOp (rI (fun _ j => j ≠ 0) fun i j => .int (i.fmod j)) (tCB (fun xs H Q => (∃ i, xs = [.int i] ∧ Q (.int i) H) ∨ ∃ k, xs = [.bl k] ∧ Q (.int (if k then 1 else 0)) H) (tCons (tDGet (tVar 0) (tC (.str "rest"))) tNil)) (tVar 1)) (gName 2))
          (tSeq (sDPut (tVar 0) (tC (.str "rest")) (tOp (rI CDivN fun i j => .int (i.fdiv j)) (tCB (fun xs H Q => (∃ i, xs = [.int i] ∧ Q (.int i) H) ∨ ∃ k, xs = [.bl k] ∧ Q (.int (if k then 1 else 0)) H) (tCons (tDGet (tVar 0) (tC (.str "rest"))) tNil)) (tVar 1))) (tRet (tVar 2))) { nx := fun _ H' => Q .non H', rt := Q } [some (.ref a), some (.int n), none] H' := by
        intro rest turn H' hd em
        refine q_asg (ev_op (ev_int1 (ev_dget (ev_var rfl) ev_c hd.d get_rest)) (ev_var rfl) (rv_I (by omega))) fun H1 e1 => ?_
        refine q_dput (ev_op (ev_int1 (ev_dget (ev_var rfl) ev_c (hd.ex e1).d get_rest)) (ev_var rfl) (rv_I ⟨by omega, by omega⟩)) (ev_var rfl) ev_c (hd.ex e1).d (by show 4 < 1000; decide) fun H2 e2 => ?_
        rw [put_rest]
        refine s_ret (ev_var rfl) fun H3 e3 => ?_
        have hx : 0 ≤ rest.fmod n ∧ rest.fmod n < n := by
          rw [Int.fmod_eq_emod_of_nonneg _ (by omega)]
          exact ⟨Int.emod_nonneg _ (by omega), Int.emod_lt_of_pos _ hn0⟩
        refine q _ H3 hx.1 hx.2 ⟨⟨_, _, _, _, (((hd.ex (e1.trans e2)).put).ex e3)⟩, ?_⟩
        refine Ex.trans ?_ (mask_of e3)
        rw [mask_upd_a]
        exact em.trans (mask_of (e1.trans e2))
      refine q_when (et_test (ev_op (ev_dget (ev_var rfl) ev_c hd1.d get_rest) ev_c (rv_eq rfl))) (fun hb2 H2 e2 => ?_) (fun hb2 H2 e2 => fin rest turn H2 (hd1.ex e2) (em1.trans (mask_of e2)))
      refine q_dputC (ea_cons (ev_var rfl) ea_nil) (fun H3 e3 => ⟨a, la, ca, rest, turn, large, cells, rfl, hd1.ex (e2.trans e3), fun x t H4 h4 e4 => ⟨a, "rest", _, ev_var rfl, ev_c, h4.d, by show 4 < 1000; decide, fun H5 e5 => ?_⟩⟩) ?_
      · rw [put_rest]
        refine fin x t _ ((h4.ex e5).put) ?_
        rw [mask_upd_a]
        exact ((em1.trans (mask_of (e2.trans e3))).trans e4).trans (mask_of e5)
      · rintro H1 Q1 Q2 hq ⟨a, la, ca, rest, turn, large, cells, h1, h2, h3⟩
        exact ⟨a, la, ca, rest, turn, large, cells, h1, h2, fun x t H' h4 h5 => hq _ _ (h3 x t H' h4 h5)⟩
abbrev s_law_pick : Stmt := topS 41
theorem sc_law_pick : FnScope ["draw", "some"] ["draw", "some"] (defScope s_law_pick) := ⟨rfl, rfl, rfl, by decide +kernel, rfl, by decide +kernel, by decide +kernel⟩
theorem ok_law_pick {f : Addr} {fd : FuncData} (F : FnP K "_law_pick" s_law_pick f fd) (B : Bf P K mg CN CF CT fN fT aF aM) (D1 : Dn P w K mg base CX0 2 "_law_take" ["draw", "size"] spTake) : FnOk P w K mg base CX0 3 f fd ["draw", "some"] (spPick K) := by
  refine F.ok sc_law_pick (fun vs H Q E h => ?_) (fun cdv A outer s H vs Q E hr h => ⟨_, (PSs.nox (pss_one (ps_ret (pe_ix ix_list (pv 1) (pe_d D1 hr (by decide) (pa_cons (pv 0) (pa_cons (pe_callB call_len_seq (by rfl) B.len (by decide +kernel) (pa_cons (pv 1) pa_nil)) pa_nil))) (fun _ _ => rfl))))), ?_⟩)
  · obtain ⟨a, la, ca, v, ds, rfl, _⟩ := h
    rfl
  · obtain ⟨a, la, ca, v, ds, rfl, hd, hv, h0, h1, q⟩ := h
    refine x_ret (x_op (ev_var rfl) fun H1 e1 => x_call (ea_cons (ev_var rfl) (ea_cons (ev_lenLD (evD_of (ev_var rfl) ((hv.same (show Same _ H1 from mask_ex.trans e1))))) ea_nil)) fun H2 e2 => ⟨a, la, ca, _, rfl, hd.ex (e1.trans e2), by omega, by omega, fun x H3 x0 x1 st => ?_⟩)
    have st' : Stp a la ca H H3 := (Stp.of hd (e1.trans e2)).trans st
    have hv3 := hv.same (show Same _ _ from st'.2)
    cases hv3 with
    | lst hs ha =>
      rename_i p xs
      have hl := ha.length
      have hx : x.toNat < xs.length := by omega
      obtain ⟨y, hy⟩ : ∃ y, xs[x.toNat]? = some y := ⟨xs[x.toNat], List.getElem?_eq_getElem hx⟩
      obtain ⟨d, d1, d2⟩ := ha.get hy
      refine ⟨p, xs, x, y, rfl, rfl, Same.seq (show Same _ _ from mask_ex) hs, ?_, q y d H3 (List.mem_of_getElem? d1) d2 st'⟩
      unfold atI
      have : ixN xs.length ((x.toNat : Nat) : Int) = some x.toNat := ixN_nat hx
      rw [Int.toNat_of_nonneg x0] at this
      rw [this]
      exact hy
end
end K51
set_option Elab.async false
set_option linter.all false
set_option maxRecDepth 100000
set_option maxHeartbeats 4000000
namespace Evl
open PySem L2
section
variable {K : PySem.W.Frag} {σ : L2.St} {H H' : Hp} {ta tb tc te tx td ty tv : TE} {t u : TT} {x y z v : V} {D : Ends} {tu tw tz : TS} {g : TG} {Q : VK}
theorem ev_abs {i : Int} {ta : TE} (h : Ev ta σ H (.int i)) : Ev (tCB (fun xs H Q => ∃ i, xs = [.int i] ∧ Q (.int (if i < 0 then -i else i)) H) (tCons ta tNil)) σ H (.int (if i < 0 then -i else i)) := fun H1 e Q q =>
  h H1 e _ fun H2 e2 => ⟨i, rfl, q H2 e2⟩
theorem given_int (n : Nat) (f : Nat → Bool) (g : Nat → Int) : given n f (fun i => V.int (g i)) = (((List.range n).filter f).map g).map V.int := by
  unfold given
  rw [List.map_map]
  rfl
/-- {k: v, ..} of four -/
theorem x_disp4 {a1 a2 a3 a4 b1 b2 b3 b4 : TE} {k1 k2 k3 k4 : Str} {v1 v3 v4 : V} (ha1 : ∀ H, Ev a1 σ H (.str k1)) (ha2 : ∀ H, Ev a2 σ H (.str k2)) (ha3 : ∀ H, Ev a3 σ H (.str k3)) (ha4 : ∀ H, Ev a4 σ H (.str k4))
    (hb1 : Ev b1 σ H v1) (xs : List V) (hb2 : EvL b2 σ H xs) (hb3 : ∀ H, Ev b3 σ H v3) (hb4 : ∀ H, Ev b4 σ H v4)
    (q : ∀ p l H1, H p = none → H l = none → Ex H H1 → H1 l = some (.lst xs) → H1 p = some (.dK (mergeK [] [(.inr k1, v1), (.inr k2, .ref l), (.inr k3, v3), (.inr k4, v4)])) → Q (.ref p) H1) : tDisp [(a1, b1), (a2, b2), (a3, b3), (a4, b4)] σ H Q := fun p hp =>
  ha1 _ _ (Ex.refl _) _ fun H1 e1 => hb1 _ ((Ex.new hp).trans e1) _ fun H2 e2 => ha2 _ _ (Ex.refl _) _ fun H3 e3 => hb2 _ ((((Ex.new hp).trans e1).trans e2).trans e3) _ fun l H4 hl e4 h4 => ha3 _ _ (Ex.refl _) _ fun H5 e5 => hb3 _ _ (Ex.refl _) _ fun H6 e6 =>
  ha4 _ _ (Ex.refl _) _ fun H7 e7 => hb4 _ _ (Ex.refl _) _ fun H8 e8 => by
    have eall := ((((((e1.trans e2).trans e3).trans e4).trans e5).trans e6).trans e7).trans e8
    have hp8 : H8 p = some (.dK []) := eall _ _ upd_same
    have lp : l ≠ p := fun z => by
      have := ((e1.trans e2).trans e3) p _ upd_same
      rw [z, this] at hl
      cases hl
    refine ⟨hp8, [(.inr k1, v1), (.inr k2, .ref l), (.inr k3, v3), (.inr k4, v4)], rfl, by simp, q p l _ hp ?_ ?_ ?_ upd_same⟩
    · exact fresh_back (((Ex.new hp).trans e1).trans (e2.trans e3)) hl
    · exact Ex.mut ((Ex.new hp).trans eall) hp
    · rw [upd_ne lp]
      exact (((e5.trans e6).trans e7).trans e8) _ _ h4
end
end Evl
namespace K51
open PySem PySem.Spec PyProof.Rows L2 Evl
section
variable {P : Program} {w : World} {K : PySem.W.Frag} {mg : Str → Option Value} {base : Heap} {CN CF CT fN fT aF aM : Addr}
abbrev s_law_begun : Stmt := topS 38
theorem sc_law_begun : FnScope ["script", "large", "cell"] ["script"] (defScope s_law_begun) := ⟨rfl, rfl, rfl, by decide +kernel, rfl, by decide +kernel, by decide +kernel⟩
theorem mergeDr {la ca : Addr} : mergeK [] [(Sum.inr "large", V.ref la), (Sum.inr "cells", V.ref ca), (Sum.inr "rest", V.int 0), (Sum.inr "turn", V.int 0)] = kvsOf la ca 0 0 := by with_unfolding_all rfl
theorem room80 {k : Nat} {A : Around} (r : Room k A) : A.units + 80 < cLine := by have := r.un; omega
def absI (i : Int) : Int := if i < 0 then -i else i
theorem ok_law_begun {f : Addr} {fd : FuncData} (F : FnP K "_law_begun" s_law_begun f fd) (B : Bf P K mg CN CF CT fN fT aF aM) : FnOk P w K mg base CX0 1 f fd ["script"] (spBegun K) := by
  refine F.ok sc_law_begun (fun vs H Q E h => ?_) (fun cdv A outer s H vs Q E hr h => ⟨_, (PSs.nox (pss_cons (ps_setLc (i := 1) (own := [("cell", 2)]) (by rfl) sc_law_begun.nd rfl rfl (sw_true rfl rfl rfl (by decide +kernel)) (pi_list (pv 0)) (blkOk_by (own := [("cell", 2)]) (by kernel_rfl)) (fun _ _ _ _ _ => pg_name (i := 2) sc_law_begun.nd rfl (.inl rfl)) (fun _ _ _ _ _ => pts_one (pt_cmpR op_ge (pe_callB call_abs (by rfl) B.abs (by decide +kernel) (pa_cons (pv 2) pa_nil)) (pe_op op_pow pe_int pe_int) (nomark _))) (fun _ _ _ _ _ => (pe_op op_sub (pe_callB call_abs (by rfl) B.abs (by decide +kernel) (pa_cons (pv 2) pa_nil)) (pe_op op_pow pe_int pe_int))))
      (pss_one (ps_ret (pe_disp (pps_cons pe_str (pv 1) (pps_cons pe_str (pe_lc (own := [("cell", 2)]) (by rfl) sc_law_begun.nd (pi_list (pv 0)) (blkOk_by (own := [("cell", 2)]) (by kernel_rfl)) (fun _ _ _ _ _ => pg_name (i := 2) sc_law_begun.nd rfl (.inl rfl)) (fun _ _ _ _ _ => pts_nil) (fun _ _ _ _ _ => (pe_callB call_abs (by rfl) B.abs (by decide +kernel) (pa_cons (pv 2) pa_nil)))) (pps_cons pe_str pe_int (pps_cons pe_str pe_int pps_nil)))) (by rfl) (by rfl) (fun z => by cases z) (by decide)))))), ?_⟩)
  · obtain ⟨s, ns, rfl, _⟩ := h
    rfl
  · obtain ⟨s, ns, rfl, hs, hz, q⟩ := h
    have hx : ∀ (i : Nat) (x : V), (ns.map V.int)[i]? = some x → x = .int (ns.getD i 0) := fun i x hi => by
      rw [List.getElem?_map] at hi
      rw [List.getD_eq_getElem?_getD]
      cases hn : ns[i]? with
      | none => rw [hn] at hi; cases hi
      | some n => rw [hn] at hi; cases hi; rfl
    have hl : (ns.map V.int).length ≤ 40000 := by rw [List.length_map]; exact hz
    refine q_asgL (el_lcL (fun i => decide ((10 : Int) ^ 18 ≤ absI (ns.getD i 0))) (fun i => .int (absI (ns.getD i 0) - 10 ^ 18)) (ev_var rfl) hs hl (fun _ => rfl) (fun i x H1 e1 hi => ?_) (fun i x H1 e1 hi _ => ?_)) fun la H1 hla e1 h1 => ?_
    · rw [hx i x hi]
      exact et_test (ev_op (ev_abs (ev_var rfl)) (ev_op ev_c ev_c (rv_I ⟨by decide, by decide, by decide⟩)) rv_I0)
    · rw [hx i x hi]
      exact ev_op (ev_abs (ev_var rfl)) (ev_op ev_c ev_c (rv_I ⟨by decide, by decide, by decide⟩)) rv_I0
    · refine x_ret (x_disp4 (k1 := "large") (k2 := "cells") (k3 := "rest") (k4 := "turn") (v3 := .int 0) (v4 := .int 0) (fun _ => ev_c) (fun _ => ev_c) (fun _ => ev_c) (fun _ => ev_c) (ev_var (v := .ref la) rfl) _ (el_lcL (t := tYes) (fun i => true) (fun i => .int (absI (ns.getD i 0))) (ev_var rfl) (Same.seq (show Same H H1 from e1) hs) hl (fun _ => rfl) (fun i x H1 e1 hi H2 _ Q q => q H2 (Ex.refl _)) (fun i x H1 e1 hi _ => ?_)) (fun _ => ev_c) (fun _ => ev_c) fun a ca H2 ha hca e2 h2 h3 => ?_)
      · rw [hx i x hi]
        exact ev_abs (ev_var rfl)
      · rw [mergeDr] at h3
        rw [given_int] at h2
        have h1' := e2 _ _ h1
        rw [given_int] at h1'
        exact q a la ca H2 (fresh_back e1 ha) hla ⟨0, 0, _, _, h3, h1', h2, fun z => by rw [← z, h1] at hca; cases hca⟩ (e1.trans e2)
abbrev s_law_same : Stmt := topS 43
theorem sc_law_same : FnScope ["told", "due"] ["told", "due"] (defScope s_law_same) := ⟨rfl, rfl, rfl, by decide +kernel, rfl, by decide +kernel, by decide +kernel⟩
theorem ok_law_same {f : Addr} {fd : FuncData} (F : FnP K "_law_same" s_law_same f fd) (B : Bf P K mg CN CF CT fN fT aF aM) : FnG P w K mg base 1 f fd ["told", "due"] (spSame K) := by
  refine F.okG sc_law_same (fun vs H Q E h => ?_) (fun cdv A outer s H vs Q E hcd hG hr h => ⟨_, (PSs.nox (pss_one (ps_ret (pe_cmpR op_eq (pe_callB (call_reprD hG (room80 hr)) (by rfl) B.repr (by decide +kernel) (pa_cons (pv 0) pa_nil)) (pe_callB (call_reprD hG (room80 hr)) (by rfl) B.repr (by decide +kernel) (pa_cons (pv 1) pa_nil)) (nomark _))))), ?_⟩)
  · obtain ⟨v, u, d, rfl, _⟩ := h
    rfl
  · obtain ⟨v, u, d, rfl, hv, hu, hs, q⟩ := h
    have rp : ∀ {te : TE} {x : V}, Ev te (start ["told", "due"] [v, u]) H x → Dp K H x d → Ev (tCB (rRepr K) (tCons te tNil)) (start ["told", "due"] [v, u]) H (.str d.shown) := fun {te x} he hd H1 e1 Q q =>
      he H1 e1 _ fun H2 e2 => ⟨x, d, rfl, hd.same (show Same H H2 from e1.trans e2), hs.1, hs.2.1, hs.2.2.1, hs.2.2.2, q H2 e2⟩
    refine s_ret (Evl.ev_is (ev_op (rp (ev_var rfl) hv) (rp (ev_var rfl) hu) (rv_eq rfl)) ?_) q
    rw [decide_eq_true rfl]
abbrev s_law_rounds : Stmt := topS 44
theorem sc_law_rounds : FnScope ["n", "found", "left"] ["n"] (defScope s_law_rounds) := ⟨rfl, rfl, rfl, by decide +kernel, rfl, by decide +kernel, by decide +kernel⟩
theorem ok_law_rounds {f : Addr} {fd : FuncData} (F : FnP K "_law_rounds" s_law_rounds f fd) : FnOk P w K mg base CX0 1 f fd ["n"] spRnd := by
  refine F.ok sc_law_rounds (fun vs H Q E h => ?_) (fun cdv A outer s H vs Q E hr h => ⟨_, (PSs.nox (pss_cons (ps_par (i := 1) (j := 2) (by rfl) sc_law_rounds.nd rfl rfl (by decide) rfl rfl (pa_cons pe_int (pa_cons (pv 0) pa_nil)) (by rfl))
      (pss_cons (ps_while PassesOwn.never (pt_cmpR op_gt (pv 2) pe_int (nomark _)) (pss_one (ps_par (i := 1) (j := 2) (by rfl) sc_law_rounds.nd rfl rfl (by decide) rfl rfl (pa_cons (pe_op op_add (pv 1) pe_int) (pa_cons (pe_op op_fdivN (pv 2) pe_int) pa_nil)) (by rfl))))
      (pss_one (ps_ret (pv 1)))))), ?_⟩)
  · obtain ⟨r, rfl, _⟩ := h
    rfl
  · obtain ⟨r, rfl, q⟩ := h
    refine q_par (ea_cons ev_c (ea_cons (ev_var rfl) ea_nil)) fun H1 e1 => ?_
    refine q_while (fun m σ' H' => ∃ j : Nat, m + j = r ∧ σ' = [some (.int (2 ^ r)), some (.int (1 + (j : Int))), some (.int (2 ^ m))] ∧ Ex H H') r ⟨0, rfl, rfl, e1⟩ ?_
    rintro m σ' H' ⟨j, hm, rfl, e1⟩
    refine ⟨decide (0 < m), et_is (et_test (ev_op (ev_var rfl) ev_c rv_I0)) p2_one, fun hb H2 e2 => ?_, fun hb H2 e2 => ?_⟩
    · have hb' : 0 < m := by simpa using hb
      obtain ⟨m', rfl⟩ : ∃ m', m = m' + 1 := ⟨m - 1, by omega⟩
      refine ⟨fun σ2 H2 => σ2 = [some (.int (2 ^ r)), some (.int (1 + ((j + 1 : Nat) : Int))), some (.int (2 ^ m'))] ∧ Ex H H2, ?_, ?_⟩
      · rintro σ2 H2 ⟨rfl, e3⟩
        exact ⟨m', by omega, j + 1, by omega, rfl, e3⟩
      · refine s_par (ea_cons (ev_op (ev_var rfl) ev_c rv_I0) (ea_cons (ev_op (ev_var rfl) ev_c (rv_I ⟨by decide, by decide⟩)) ea_nil)) fun H3 e3 => ⟨?_, (e1.trans e2).trans e3⟩
        show [some (V.int (2 ^ r)), some (.int (1 + (j : Int) + 1)), some (.int (((2 : Int) ^ (m' + 1)).fdiv 2))] = _
        rw [p2_half, show (1 + (j : Int) + 1) = 1 + ((j + 1 : Nat) : Int) by omega]
    · have hm0 : m = 0 := by simpa using hb
      have hj : j = r := by omega
      subst hj
      exact s_ret (ev_var rfl) fun H3 e3 => q H3 ((e1.trans e2).trans e3)
abbrev s_law_shape : Stmt := topS 45
theorem sc_law_shape : FnScope ["n", "at", "last"] ["n", "at"] (defScope s_law_shape) := ⟨rfl, rfl, rfl, by decide +kernel, rfl, by decide +kernel, by decide +kernel⟩
/-- the law's shapes: few rounds -/
def RetN (K : PySem.W.Frag) (d : PyData) (H : Hp) (Q : VK) : Prop := ∀ v H2, Ex H H2 → Dp K (hide (domB H) H2) v d → Q v H2
theorem dom_hd {H H1 : Hp} (e : Ex H H1) : Hd (domB H) H1 := fun b hb z => by
  cases q : H b with
  | none => simp [domB, q] at hb
  | some o => rw [e b o q] at z; cases z
def spLSh (K : PySem.W.Frag) : Sp := fun vs H Q _ => ∃ r i : Nat, vs = [.int (2 ^ r), .int i] ∧ r ≤ 4 ∧ i ≤ 2 * r + 6 ∧ RetN K (shD (shp r i)) H Q
theorem ok_law_shape {f : Addr} {fd : FuncData} (F : FnP K "_law_shape" s_law_shape f fd) (D1 : Dn P w K mg base CX0 1 "_law_rounds" ["n"] spRnd) : FnOk P w K mg base CX0 2 f fd ["n", "at"] (spLSh K) := by
  refine F.ok sc_law_shape (fun vs H Q E h => ?_) (fun cdv A outer s H vs Q E hr h => ⟨_, (PSs.nox (pss_cons (ps_set (i := 2) sc_law_shape.nd rfl (.inl rfl) (pe_op op_add pe_int (pe_op op_mul pe_int (pe_d D1 hr (by decide) (pa_cons (pv 0) pa_nil)))))
      (pss_cons (ps_if (pt_cmpR op_eq (pe_op op_modN (pv 1) pe_int) pe_int (nomark _)) (pss_one (ps_ret (pe_tup (pa_cons pe_str (pa_cons (pe_ifExp (pt_cmpR op_lt (pv 1) pe_int (nomark _)) pe_int pe_int) pa_nil))))) pss_nil)
      (pss_cons (ps_if (pt_cmpR op_lt (pv 1) pe_int (nomark _)) (pss_one (ps_ret (pe_tup (pa_cons pe_str (pa_cons (pe_ifExp (pt_cmpR op_eq (pv 1) pe_int (nomark _)) pe_int pe_int) (pa_cons (pe_op op_mul pe_int (pv 0)) pa_nil)))))) pss_nil)
      (pss_one (ps_ret (pe_tup (pa_cons pe_str (pa_cons pe_int (pa_cons (pe_ifExp (pt_cmpR op_eq (pv 1) (pv 2) (nomark _)) pe_int (pe_op op_fdivN (pe_op op_mul pe_int (pv 0)) (pe_ix ix_list (pe_lst (pa_cons pe_int (pa_cons pe_int (pa_cons pe_int (pa_cons pe_int (pa_cons pe_int (pa_cons pe_int pa_nil))))))) (pe_op op_sub (pe_op op_fdivN (pv 1) pe_int) pe_int) (fun _ _ => rfl)))) pa_nil)))))))))), ?_⟩)
  · obtain ⟨r, i, rfl, _⟩ := h
    rfl
  · obtain ⟨r, i, rfl, hr, hi, q⟩ := h
    refine q_asg (v := .int ((2 * r + 6 : Nat) : Int)) (Evl.ev_is (ev_op ev_c (ev_op ev_c (ev_call (ea_cons (ev_var rfl) ea_nil) (SpV.of fun H1 e Q q E => ⟨r, rfl, q⟩)) (rv_I (.inl (by decide)))) rv_I0) ?_) fun H0 e0 => ?_
    · show V.int (4 + 2 * (1 + (r : Int))) = _
      rw [show (4 + 2 * (1 + (r : Int))) = ((2 * r + 6 : Nat) : Int) by omega]
    refine q_when (et_is (et_test (ev_op (ev_op (ev_var rfl) ev_c (rv_I (by decide))) ev_c (rv_eq rfl))) (par_int i 1)) (fun hb H1 e1 => ?_) (fun hb H1 e1 => ?_)
    · have hb' : i % 2 = 1 := by simpa using hb
      refine s_retU (eu_tup (ea_cons ev_c (ea_cons (ev_if (v := .int ((if i < 4 then 2 else 1 : Nat) : Int)) (et_is (et_test (ev_op (ev_var rfl) ev_c rv_I0)) (lt_int_nat i 4)) (fun h => ?_) (fun h => ?_)) ea_nil)) (by simp)) fun a H2 hp e2 h2 => q _ H2 ((e0.trans e1).trans e2) ?_
      · rw [if_pos (by simpa using h)]
        exact ev_c
      · rw [if_neg (by simpa using h)]
        exact ev_c
      · unfold shp
        rw [if_pos hb']
        exact .tup (.inl (.inl (hide_at (dom_hd (e0.trans e1)) hp h2))) (.cons (.str _) (.cons (.int _) .nil))
    have hb' : ¬ i % 2 = 1 := by simpa using hb
    refine q_when (et_is (et_test (ev_op (ev_var rfl) ev_c rv_I0)) (lt_int_nat i 4)) (fun hc H2 e2 => ?_) (fun hc H2 e2 => ?_)
    · have hc' : i < 4 := by simpa using hc
      refine s_retU (eu_tup (ea_cons ev_c (ea_cons (ev_if (v := .int ((if i = 0 then 50 else 18 : Nat) : Int)) (et_is (et_test (ev_op (ev_var rfl) ev_c (rv_eq rfl))) (eq_int_nat i 0)) (fun h => ?_) (fun h => ?_)) (ea_cons (ev_op ev_c (ev_var rfl) (rv_I (.inl (by decide)))) ea_nil))) (by simp)) fun a H3 hp e3 h3 => q _ H3 (((e0.trans e1).trans e2).trans e3) ?_
      · rw [if_pos (by simpa using h)]
        exact ev_c
      · rw [if_neg (by simpa using h)]
        exact ev_c
      · unfold shp
        rw [if_neg hb', if_pos hc']
        refine .tup (.inl (.inl (hide_at (dom_hd ((e0.trans e1).trans e2)) hp h3))) (.cons (.str _) (.cons (.int _) (.cons ?_ .nil)))
        rw [show ((4 * 2 ^ r : Nat) : Int) = 4 * 2 ^ r by rw [Int.natCast_mul, ← p2c]; rfl]
        exact .int _
    have hc' : ¬ i < 4 := by simpa using hc
    refine s_retU (eu_tup (ea_cons ev_c (ea_cons ev_c (ea_cons (ev_if (v := .int ((if i < 2 * r + 6 then 2 ^ (r + 2 - (i / 2 - 2)) else 1 : Nat) : Int)) (et_is (et_test (ev_op (ev_var rfl) (ev_var rfl) (rv_eq rfl))) (eq_int_nat i (2 * r + 6))) (fun h => ?_) (fun h => ?_)) ea_nil))) (by simp)) fun a H3 hp e3 h3 => q _ H3 (((e0.trans e1).trans e2).trans e3) ?_
    · have h' : i = 2 * r + 6 := by simpa using h
      rw [if_neg (by omega)]
      exact ev_c
    · have h' : ¬ i = 2 * r + 6 := by simpa using h
      rw [if_pos (by omega), ← p2c]
      have hlev : i / 2 - 2 ≤ r := by omega
      refine Evl.ev_is (ev_op (ev_op ev_c (ev_var rfl) (rv_I (.inl (by decide)))) (ev_opL1 (y := .int ((i / 2 - 2 : Nat) : Int)) (z := .int (2 ^ (i / 2 - 2))) (el_lst (ea_cons ev_c (ea_cons ev_c (ea_cons ev_c (ea_cons ev_c (ea_cons ev_c (ea_cons ev_c ea_nil)))))) (by decide)) (fun H1 e1 => Evl.ev_is (ev_op (ev_op (ev_var rfl) ev_c (rv_I ⟨by decide, by decide⟩)) ev_c rv_I0) ?_) fun p H1 hp e1 => rv_ixL (sq_of hp) ?_) (rv_I ⟨?_, ?_⟩)) ?_
      · show V.int (((i : Int).fdiv 2) - 2) = _
        rw [Int.fdiv_eq_ediv_of_nonneg _ (by decide), show ((i : Int) / 2 - 2) = ((i / 2 - 2 : Nat) : Int) by omega]
      · generalize i / 2 - 2 = l at hlev
        have : l = 0 ∨ l = 1 ∨ l = 2 ∨ l = 3 ∨ l = 4 := by omega
        rcases this with rfl | rfl | rfl | rfl | rfl <;> rfl
      · have := p2_le (a := 0) (b := i / 2 - 2)
        have := this.mpr (Nat.zero_le _)
        intro z
        rw [z] at this
        exact absurd this (by decide)
      · generalize i / 2 - 2 = l at hlev
        have : l = 0 ∨ l = 1 ∨ l = 2 ∨ l = 3 ∨ l = 4 := by omega
        rcases this with rfl | rfl | rfl | rfl | rfl <;> decide
      · generalize i / 2 - 2 = l at hlev
        have h1 : r = 0 ∨ r = 1 ∨ r = 2 ∨ r = 3 ∨ r = 4 := by omega
        have h2 : l = 0 ∨ l = 1 ∨ l = 2 ∨ l = 3 ∨ l = 4 := by omega
        rcases h1 with rfl | rfl | rfl | rfl | rfl <;> rcases h2 with rfl | rfl | rfl | rfl | rfl <;> first | rfl | omega
    · unfold shp
      rw [if_neg hb', if_neg hc']
      exact .tup (.inl (.inl (hide_at (dom_hd ((e0.trans e1).trans e2)) hp h3))) (.cons (.str _) (.cons (.int _) (.cons (.int _) .nil)))
end
end K51
set_option Elab.async false
set_option linter.all false
set_option maxRecDepth 100000
set_option maxHeartbeats 4000000
namespace K51
open PySem PySem.Spec PyProof.Rows L2 Evl
section
variable {P : Program} {w : World} {K : PySem.W.Frag} {mg : Str → Option Value} {base : Heap} {CN CF CT fN fT aF aM : Addr}
theorem nums_tuple {p : Int} (h : 0 < p) : ∀ ns : List Int, (∀ n ∈ ns, 0 ≤ n ∧ n < p) → numsD p (.tuple (ns.map PyData.int)) = true := fun ns hn => by
  show ((ns.map PyData.int).all fun x => betD x 0 (p - 1)) = true
  rw [List.all_map, List.all_eq_true]
  intro n h1
  have := hn n h1
  show (decide (0 ≤ n) && decide (n ≤ p - 1)) = true
  rw [decide_eq_true this.1, decide_eq_true (by omega)]
  rfl
abbrev s_law_piece : Stmt := topS 46
theorem sc_law_piece : FnScope ["draw", "p", "shape", "numbers", "j", "k"] ["draw", "p", "shape"] (defScope s_law_piece) := ⟨rfl, rfl, rfl, by decide +kernel, rfl, by decide +kernel, by decide +kernel⟩
theorem ok_law_piece {f : Addr} {fd : FuncData} (F : FnP K "_law_piece" s_law_piece f fd) (B : Bf P K mg CN CF CT fN fT aF aM) (D1 : Dn P w K mg base CX0 2 "_law_take" ["draw", "size"] spTake) : FnOk P w K mg base CX0 3 f fd ["draw", "p", "shape"] (spLPiece K) := by
  refine F.ok sc_law_piece (fun vs H Q E h => ?_) (fun cdv A outer s H vs Q E hr h => ⟨_, (PSs.nox (pss_cons (ps_set (i := 3) sc_law_piece.nd rfl (.inr rfl) (pe_lst (pa_cons (pe_d D1 hr (by decide) (pa_cons (pv 0) (pa_cons (pv 1) pa_nil))) (pa_cons (pe_d D1 hr (by decide) (pa_cons (pv 0) (pa_cons (pv 1) pa_nil))) (pa_cons (pe_d D1 hr (by decide) (pa_cons (pv 0) (pa_cons (pv 1) pa_nil))) pa_nil)))))
      (pss_cons (ps_if (pt_cmpR op_eq (pe_ix ix_tup (pv 2) pe_int (fun _ _ => rfl)) pe_str (nomark _)) (pss_one (ps_ret (pe_callTy call_tuple_of (by rfl) B.tuple (by decide +kernel) (pa_cons (pe_slice sl_list (pv 3) po_none (po_some (pe_ix ix_tup (pv 2) pe_int (fun _ _ => rfl)))) pa_nil)))) pss_nil)
      (pss_one (ps_ret (pe_callTy call_tuple_of (by rfl) B.tuple (by decide +kernel) (pa_cons (pe_lc (own := [("k", 5)]) (by rfl) sc_law_piece.nd (pi_range1 (by rfl) B.range (pa_cons (pe_ix ix_tup (pv 2) pe_int (fun _ _ => rfl)) pa_nil)) (blkOk_by (own := [("k", 5)]) (by kernel_rfl)) (fun _ _ _ _ _ => pg_name (i := 5) sc_law_piece.nd rfl (.inr rfl)) (fun _ _ _ _ _ => pts_nil) (fun _ _ _ _ _ => (pe_callTy (r := rTupOf K) call_tuple_of (by rfl) B.tuple (by decide +kernel) (pa_cons (pe_lc (own := [("j", 4)]) (by rfl) sc_law_piece.nd (pi_range1 (by rfl) B.range (pa_cons (pe_ix (r := rIxT K) ix_tup (pv 2) pe_int (fun _ _ => rfl)) pa_nil)) (blkOk_by (own := [("j", 4)]) (by kernel_rfl)) (fun _ _ _ _ _ => pg_name (i := 4) sc_law_piece.nd rfl (.inl rfl)) (fun _ _ _ _ _ => pts_nil) (fun _ _ _ _ _ => (pe_op op_modN (pe_callTy call_int1 (by rfl) B.int (by decide +kernel) (pa_cons (pe_op op_add (pe_op op_add (pe_ix (r := rIxL K) ix_list (pv 3) pe_int (fun _ _ => rfl)) (pe_op op_mul (pe_ix (r := rIxL K) ix_list (pv 3) pe_int (fun _ _ => rfl)) (pv 5))) (pe_op op_mul (pe_op op_mul (pe_ix (r := rIxL K) ix_list (pv 3) pe_int (fun _ _ => rfl)) (pv 4)) (pv 4))) pa_nil)) (pv 1)))) pa_nil)))) pa_nil))))))), ?_⟩)
  · obtain ⟨a, la, ca, p, sv, s, rfl, _⟩ := h
    rfl
  · obtain ⟨a, la, ca, p, sv, s, rfl, hd, hs, hok, hp0, hp1, q⟩ := h
    refine x_asg (x_lst (x_cons (x_call (ea_cons (ev_var rfl) (ea_cons (ev_var rfl) ea_nil)) fun H1 e1 => ⟨a, la, ca, p, rfl, hd.ex e1, hp0, by omega, fun x1 H2 a1 b1 st1 => ?_⟩)))
    have t1 := (Stp.of hd e1).trans st1
    refine x_cons (x_call (ea_cons (ev_var rfl) (ea_cons (ev_var rfl) ea_nil)) fun H3 e3 => ⟨a, la, ca, p, rfl, t1.1.ex e3, hp0, by omega, fun x2 H4 a2 b2 st2 => ?_⟩)
    have t2 := (t1.ex e3).trans st2
    refine x_cons (x_call (ea_cons (ev_var rfl) (ea_cons (ev_var rfl) ea_nil)) fun H5 e5 => ⟨a, la, ca, p, rfl, t2.1.ex e5, hp0, by omega, fun x3 H6 a3 b3 st3 => ?_⟩)
    have t3 := (t2.ex e5).trans st3
    refine x_nil ⟨by show 3 ≤ sizeLine; decide, fun l hl => ?_⟩
    have t4 := t3.ex (Ex.new (o := .lst [.int x1, .int x2, .int x3]) hl)
    have hl4 : upd H6 l (.lst [.int x1, .int x2, .int x3]) l = some (.lst [.int x1, .int x2, .int x3]) := upd_same
    generalize upd H6 l (.lst [.int x1, .int x2, .int x3]) = H7 at t4 hl4
    have hs7 : Dp K H7 sv (shD s) := (hs.same (show Same _ _ from t4.2)).same (show Same _ _ from mask_ex)
    have hdom := t4.dom
    have hsq : SqL K H7 l ([x1, x2, x3].map V.int) := sq_of hl4
    cases s with
    | dr m =>
      refine q_when (b := true) (et_is (et_test (ev_op (ev_ofS (ed_ix (i := 0) (evD_of (ev_var rfl) hs7) ev_c rfl (by simp))) ev_c (rv_eq rfl))) (by decide)) (fun hb H1 e1 => ?_) (fun hb H1 e1 => by cases hb)
      refine s_retU (eu_tupOf (el_sl (ev_var rfl) eo_none (eo_some (ev_ofD (ed_ix (i := 1) (evD_of (ev_var rfl) (hs7.same e1)) ev_c rfl (by simp)))) (Same.seq (show Same _ _ from e1) hsq))) fun T H8 hT e8 h8 => ?_
      rw [cut_to, ← List.map_take] at h8
      refine q (.ref T) (.tuple ((([x1, x2, x3].take m)).map PyData.int)) H8 ?_ (.tup (.inl (.inl (hide_at (hdom.ex e1) hT h8))) (DpAll.ints _)) (t4.ex (e1.trans e8))
      have hm := hok
      show (numsD p _ && ((((([x1, x2, x3].take m)).map PyData.int).length : Int) == m)) = true
      rw [nums_tuple hp0 _ (fun n hn => by
        have := List.mem_of_mem_take hn
        simp at this
        rcases this with rfl | rfl | rfl
        · exact ⟨a1, b1⟩
        · exact ⟨a2, b2⟩
        · exact ⟨a3, b3⟩), Bool.true_and, List.length_map, List.length_take]
      have : min m [x1, x2, x3].length = m := by have := hm.2; simp; omega
      rw [this]
      exact beq_self_eq_true _
    | wo m k =>
      refine q_when (b := false) (et_is (et_test (ev_op (ev_ofS (ed_ix (i := 0) (evD_of (ev_var rfl) hs7) ev_c rfl (by simp))) ev_c (rv_eq rfl))) (by decide)) (fun hb H1 e1 => by cases hb) (fun hb H1 e1 => ?_)
      obtain ⟨hm0, hm1, hk0, hk1⟩ := hok
      refine x_ret (eh_tupLc (h := domB H) (n := m) (fun i => (List.range k).map fun (j : Nat) => (x1 + x2 * (i : Int) + x3 * (j : Int) * (j : Int)).fmod p) (hdom.ex e1) (ea_cons (ev_ofD (ed_ix (i := 1) (evD_of (ev_var rfl) (hs7.same e1)) ev_c rfl (by simp))) ea_nil) (by omega) (fun _ => rfl) (fun i H2 e2 hi => ?_) H1 (Ex.refl H1) _ fun v H8 e8 hv => ?_)
      · have e12 := e1.trans e2
        have hsq2 := Same.seq (show Same _ _ from e12) hsq
        have hsh := hs7.same (show Same _ _ from e12)
        have key := el_lcR1 (σ := (wipe (List.set (start ["draw", "p", "shape", "numbers", "j", "k"] [.ref a, .int p, sv]) 3 (some (.ref l))) [5]).set 5 (some (.int (i : Int)))) (H := H2) (t := tYes) (j := 4) (vs := [4]) (n := (k : Int))
          (te := tOp (rI (fun _ j => j ≠ 0) fun i j => .int (i.fmod j)) (tCB (fun xs H Q => (∃ i, xs = [.int i] ∧ Q (.int i) H) ∨ ∃ k, xs = [.bl k] ∧ Q (.int (if k then 1 else 0)) H) (tCons (tOp (rI0 fun i j => .int (i + j)) (tOp (rI0 fun i j => .int (i + j)) (tOp (rIxL K) (tVar 3) (tC (.int 0))) (tOp (rI CMul fun i j => .int (i * j)) (tOp (rIxL K) (tVar 3) (tC (.int 1))) (tVar 5))) (tOp (rI CMul fun i j => .int (i * j)) (tOp (rI CMul fun i j => .int (i * j)) (tOp (rIxL K) (tVar 3) (tC (.int 2))) (tVar 4)) (tVar 4))) tNil)) (tVar 1))
          (fun _ => true) (fun (j : Nat) => V.int ((x1 + x2 * (i : Int) + x3 * (j : Int) * (j : Int)).fmod p)) (ea_cons (ev_ofD (ed_ix (i := 2) (evD_of (ev_var (v := sv) (i := 2) rfl) hsh) ev_c rfl (by simp))) ea_nil) (by omega) (fun _ => rfl) (fun j H3 e3 _ H4 _ Q q => q H4 (Ex.refl _)) (fun j H3 e3 hj _ => by
            have hj' : j < 64 := by omega
            have hsq3 := Same.seq (show Same _ _ from e3) hsq2
            exact ev_op (ev_int1 (ev_op (ev_op (ev_op (ev_var (v := .ref l) rfl) ev_c (rv_ixL (v := .int x1) hsq3 rfl)) (ev_op (ev_op (ev_var (v := .ref l) rfl) ev_c (rv_ixL (v := .int x2) hsq3 rfl)) (ev_var (v := .int (i : Int)) rfl) (rv_I (.inr ⟨by omega, by omega⟩))) rv_I0) (ev_op (ev_op (ev_op (ev_var (v := .ref l) rfl) ev_c (rv_ixL (v := .int x3) hsq3 rfl)) (ev_var (v := .int (j : Int)) rfl) (rv_I (.inr ⟨by omega, by omega⟩))) (ev_var (v := .int (j : Int)) rfl) (rv_I (.inr ⟨by omega, by omega⟩))) rv_I0)) (ev_var (v := .int p) rfl) (rv_I (by omega)))
        rw [given_all, Int.toNat_natCast] at key
        have e3 : (List.range k).map (fun (j : Nat) => V.int ((x1 + x2 * (i : Int) + x3 * (j : Int) * (j : Int)).fmod p)) = ((List.range k).map fun (j : Nat) => (x1 + x2 * (i : Int) + x3 * (j : Int) * (j : Int)).fmod p).map V.int := by
          rw [List.map_map]
          rfl
        rw [e3] at key
        exact eu_tupOf key
      · refine q v _ H8 ?_ hv (t4.ex (e1.trans e8))
        show ((((List.range m).map _).length : Int) == m && ((List.range m).map _).all _) = true
        rw [List.length_map, List.length_range, beq_self_eq_true, Bool.true_and, List.all_map, List.all_eq_true]
        intro i _
        show ((((((List.range k).map _).map PyData.int).length : Int) == k) && numsD p _) = true
        rw [List.length_map, List.length_map, List.length_range, beq_self_eq_true, Bool.true_and]
        refine nums_tuple hp0 _ fun n hn => ?_
        obtain ⟨j, _, rfl⟩ := List.mem_map.mp hn
        rw [Int.fmod_eq_emod_of_nonneg _ (by omega)]
        exact ⟨Int.emod_nonneg _ (by omega), Int.emod_lt_of_pos _ hp0⟩
end
end K51
set_option Elab.async false
set_option linter.all false
set_option maxRecDepth 100000
set_option maxHeartbeats 4000000
namespace K51
open PySem PySem.Spec PyProof.Rows L2 Evl
theorem fit_shape {p : Int} {s : Sh} {d : PyData} (hok : shOK s) (h : fitD p s d = true) : ∃ m ds, d = .tuple ds ∧ ds.length = m ∧ 1 ≤ m ∧ m ≤ 50 ∧ (s = .dr m ∨ ∃ k, s = .wo m k) := by
  cases s with
  | dr m =>
    have h' : (numsD p d && ((lenD d : Int) == m)) = true := h
    rw [Bool.and_eq_true] at h'
    cases d <;> first | (exact absurd h'.1 Bool.false_ne_true) | skip
    rename_i ds
    have e : (ds.length : Int) = m := by simpa [lenD] using h'.2
    exact ⟨m, ds, rfl, by omega, hok.1, by have := hok.2; omega, .inl rfl⟩
  | wo m k =>
    have h' : (tupD d m && allD (wordD p k) d) = true := h
    rw [Bool.and_eq_true] at h'
    cases d <;> first | (exact absurd h'.1 Bool.false_ne_true) | skip
    rename_i ds
    have e : (ds.length : Int) = m := by simpa [tupD] using h'.1
    exact ⟨m, ds, rfl, by omega, hok.1, hok.2.1, .inr ⟨k, rfl⟩⟩
theorem fit_dr_all {p : Int} {m : Nat} {ds : List PyData} (h : fitD p (.dr m) (.tuple ds) = true) : ∀ x ∈ ds, betD x 0 (p - 1) = true := by
  have h' : (numsD p (.tuple ds) && ((ds.length : Int) == m)) = true := h
  rw [Bool.and_eq_true] at h'
  exact List.all_eq_true.mp h'.1
theorem fit_wo_all {p : Int} {m k : Nat} {ds : List PyData} (h : fitD p (.wo m k) (.tuple ds) = true) : ∀ x ∈ ds, wordD p k x = true := by
  have h' : (_ && ds.all (wordD p k)) = true := h
  rw [Bool.and_eq_true] at h'
  exact List.all_eq_true.mp h'.2
theorem word_tup {p : Int} {k : Nat} {d : PyData} (h : wordD p k d = true) : ∃ ws, d = .tuple ws ∧ ws.length = k ∧ ∀ x ∈ ws, betD x 0 (p - 1) = true := by
  have h' : (tupD d k && numsD p d) = true := h
  rw [Bool.and_eq_true] at h'
  cases d <;> first | (exact absurd h'.1 Bool.false_ne_true) | skip
  rename_i ws
  have e : (ws.length : Int) = k := by simpa [tupD] using h'.1
  exact ⟨ws, rfl, by omega, List.all_eq_true.mp h'.2⟩
theorem bet_len {d : PyData} {lo hi : Int} (h : betD d lo hi = true) : lenD d = 0 := by
  cases d <;> first | rfl | exact absurd h Bool.false_ne_true
theorem word_lenD {p : Int} {k : Nat} {d : PyData} (h : wordD p k d = true) : lenD d = k := by
  obtain ⟨ws, rfl, h1, _⟩ := word_tup h
  exact h1
theorem sm1_tup {ds : List PyData} (h : ds.length ≤ 30000) (h2 : ∀ x ∈ ds, lenD x ≤ 30000) : sm1 (.tuple ds) := ⟨h, fun es e x hx => by cases e; exact h2 x hx⟩
theorem sm1_fit {p : Int} {s : Sh} {d : PyData} (hok : shOK s) (h : fitD p s d = true) : sm1 d := by
  obtain ⟨m, ds, rfl, hl, h1, h2, hs⟩ := fit_shape hok h
  refine sm1_tup (by omega) fun x hx => ?_
  rcases hs with rfl | ⟨k, rfl⟩
  · rw [bet_len (fit_dr_all h x hx)]; omega
  · rw [word_lenD (fit_wo_all h x hx)]; have := hok.2.2.2; omega
section
variable {P : Program} {w : World} {K : PySem.W.Frag} {mg : Str → Option Value} {base : Heap} {CN CF CT fN fT aF aM : Addr}
abbrev s_law_odd : Stmt := topS 47
theorem sc_law_odd : FnScope ["draw", "p", "piece", "some", "word"] ["draw", "p", "piece"] (defScope s_law_odd) := ⟨rfl, rfl, rfl, by decide +kernel, rfl, by decide +kernel, by decide +kernel⟩
theorem ok_law_odd {f : Addr} {fd : FuncData} (F : FnP K "_law_odd" s_law_odd f fd) (B : Bf P K mg CN CF CT fN fT aF aM) (D1 : Dn P w K mg base CX0 3 "_law_pick" ["draw", "some"] (spPick K)) : FnOk P w K mg base CX0 4 f fd ["draw", "p", "piece"] (spOdd K) := by
  refine F.ok sc_law_odd (fun vs H Q E h => ?_) (fun cdv A outer s H vs Q E hr h => ⟨_, (PSs.nox (pss_cons (ps_set (i := 3) sc_law_odd.nd rfl (.inl rfl) (pe_lst (pa_cons (pe_callTy call_list_of (by rfl) B.list (by decide +kernel) (pa_cons (pv 2) pa_nil)) (pa_cons (pe_op op_catA (pv 2) (pe_slice sl_tupA (pv 2) po_none (po_some pe_int))) (pa_cons (pe_slice sl_tupA (pv 2) po_none (po_some (pe_un un_neg pe_int))) (pa_cons pe_non (pa_cons (pe_op op_catA (pe_tup (pa_cons (pv 1) pa_nil)) (pe_slice sl_tupA (pv 2) (po_some pe_int) po_none)) (pa_cons (pe_op op_catA (pe_tup (pa_cons pe_bl pa_nil)) (pe_slice sl_tupA (pv 2) (po_some pe_int) po_none)) (pa_cons (pe_tup pa_nil) pa_nil)))))))))
      (pss_cons (ps_if (pt_val (pe_callB call_isi (by rfl) B.isi (by decide +kernel) (pa_cons (pe_ix ix_tup (pv 2) pe_int (fun _ _ => rfl)) (pa_cons (pe_bltn (v := .ty "tuple") (by rfl) B.tuple b_tuple rfl) pa_nil)))) (pss_cons (ps_set (i := 4) sc_law_odd.nd rfl (.inl rfl) (pe_ix ix_tup (pv 2) pe_int (fun _ _ => rfl)))
        (pss_one (ps_set (i := 3) sc_law_odd.nd rfl (.inl rfl) (pe_op op_cat (pe_slice sl_list (pv 3) po_none (po_some pe_int)) (pe_lst (pa_cons (pe_op op_catA (pe_tup (pa_cons (pe_op op_catA (pv 4) (pe_tup (pa_cons pe_int pa_nil))) pa_nil)) (pe_slice sl_tupA (pv 2) (po_some pe_int) po_none)) (pa_cons (pe_op op_catA (pe_tup (pa_cons (pe_slice sl_tupA (pv 4) po_none (po_some (pe_un un_neg pe_int))) pa_nil)) (pe_slice sl_tupA (pv 2) (po_some pe_int) po_none)) (pa_cons (pe_op op_catA (pe_tup (pa_cons (pe_callTy call_list_of (by rfl) B.list (by decide +kernel) (pa_cons (pv 4) pa_nil)) pa_nil)) (pe_slice sl_tupA (pv 2) (po_some pe_int) po_none)) (pa_cons (pe_op op_catA (pe_tup (pa_cons (pe_op op_catA (pe_tup (pa_cons (pv 1) pa_nil)) (pe_slice sl_tupA (pv 4) (po_some pe_int) po_none)) pa_nil)) (pe_slice sl_tupA (pv 2) (po_some pe_int) po_none)) (pa_cons (pe_op op_catA (pe_tup (pa_cons (pe_op op_catA (pe_slice sl_tupA (pv 4) po_none (po_some (pe_un un_neg pe_int))) (pe_tup (pa_cons (pe_un un_neg pe_int) pa_nil))) pa_nil)) (pe_slice sl_tupA (pv 2) (po_some pe_int) po_none)) pa_nil)))))))))) pss_nil)
      (pss_one (ps_ret (pe_d D1 hr (by decide) (pa_cons (pv 0) (pa_cons (pv 3) pa_nil)))))))), ?_⟩)
  · obtain ⟨a, la, ca, p, v, d, s, rfl, _⟩ := h
    rfl
  · obtain ⟨a, la, ca, p, v, d, s, rfl, hd, hv, hok, hfit, hp0, hp1, q⟩ := h
    obtain ⟨m, ds, rfl, hlen, hm1, hm2, hsm⟩ := fit_shape hok hfit
    have hh : Hd (hm a la) H := hd.hd
    have sm := (sm1_fit hok hfit).2 ds rfl
    have smt : ∀ k, ∀ x ∈ ds.take k, lenD x ≤ 30000 := fun k x hx => sm x (List.mem_of_mem_take hx)
    have smd : ∀ k, ∀ x ∈ ds.drop k, lenD x ≤ 30000 := fun k x hx => sm x (List.mem_of_mem_drop hx)
    have E2 : ∀ {σ : L2.St}, σ[2]? = some (some v) → EvH K (hm a la) (tVar 2) σ H (.tuple ds) := fun h => eh_of (ev_var h) hv
    have ES1 : ∀ {σ : L2.St}, σ[2]? = some (some v) → EvH K (hm a la) (tSl (rSlA K) (tVar 2) (tPart (tC (.int 1))) tNoPart) σ H (.tuple (ds.drop 1)) := fun h => by
      have := eh_sl (K := K) (lo := some (1 : Nat)) (hi := none) hh (E2 h) (eo_some (ev_c (v := .int 1))) eo_none
      rwa [cutD_from] at this
    have cat1 : ∀ {σ : L2.St} {te : TE} {d : PyData}, σ[2]? = some (some v) → EvH K (hm a la) te σ H d → EvH K (hm a la) (tOp (rCatA K) (tTup (tCons te tNil)) (tSl (rSlA K) (tVar 2) (tPart (tC (.int 1))) tNoPart)) σ H (.tuple (d :: ds.drop 1)) := fun {σ te d} h1 h2 => by
      have := eh_cat (K := K) hh (eh_tup hh (ehs_cons h2 ehs_nil) (by simp)) (ES1 h1) (by simp; omega)
      exact this
    have c1 : ∀ {σ : L2.St}, σ[2]? = some (some v) → EvH K (hm a la) (tOp (rCatA K) (tVar 2) (tSl (rSlA K) (tVar 2) tNoPart (tPart (tC (.int 1))))) σ H (.tuple (ds ++ ds.take 1)) := fun h => by
      have := eh_sl (K := K) (lo := none) (hi := some (1 : Nat)) hh (E2 h) eo_none (eo_some (ev_c (v := .int 1)))
      rw [cutD_to] at this
      exact eh_cat hh (E2 h) this (by simp; omega)
    have c2 : ∀ {σ : L2.St}, σ[2]? = some (some v) → EvH K (hm a la) (tSl (rSlA K) (tVar 2) tNoPart (tPart (tUn (rU fun i => .int (-i)) (tC (.int 1))))) σ H (.tuple (ds.take (ds.length - 1))) := fun h => by
      have := eh_sl (K := K) (lo := none) (hi := some (-1)) hh (E2 h) eo_none (eo_some (ev_un (ev_c (v := .int 1)) ru_neg))
      rwa [cutD_last] at this
    have good : ∀ {e : PyData}, (e = .none ∨ ∃ l, e = .list l) → fitD p s e = false ∧ sm1 e := fun {e} h => by
      rcases hsm with rfl | ⟨k, rfl⟩ <;> rcases h with rfl | ⟨l, rfl⟩ <;> exact ⟨rfl, by show (0 : Nat) ≤ 30000; omega, fun _ z => by cases z⟩
    have goodL : ∀ {es : List PyData}, es.length ≠ m → es.length ≤ 30000 → (∀ x ∈ es, lenD x ≤ 30000) → fitD p s (.tuple es) = false ∧ sm1 (.tuple es) := fun h1 h2 h3 => ⟨fit_len hsm h1, sm1_tup h2 h3⟩
    have tail : ∀ {x : PyData}, lenD x ≤ 30000 → sm1 (.tuple (x :: ds.drop 1)) := fun {x} hx => sm1_tup (by simp; omega) fun y hy => by
      rcases List.mem_cons.mp hy with rfl | hy
      · exact hx
      · exact smd 1 y hy
    have g1 : fitD p s (.tuple (ds ++ ds.take 1)) = false ∧ sm1 (.tuple (ds ++ ds.take 1)) := goodL (by simp; omega) (by simp; omega) fun x hx => by
      rcases List.mem_append.mp hx with hx | hx
      · exact sm x hx
      · exact smt 1 x hx
    have g2 : fitD p s (.tuple (ds.take (ds.length - 1))) = false ∧ sm1 (.tuple (ds.take (ds.length - 1))) := goodL (by simp; omega) (by simp; omega) (smt _)
    refine q_asgHL (ehl_lst hh (ehs_cons (eh_list hh (E2 rfl)) (ehs_cons (c1 rfl) (ehs_cons (c2 rfl) (ehs_cons (eh_non ev_c) (ehs_cons (cat1 rfl (eh_int (ev_var rfl))) (ehs_cons (cat1 rfl (eh_bl ev_c)) (ehs_cons (eh_tup hh ehs_nil (by simp)) ehs_nil))))))) (by simp)) fun l vs H1 hl e1 h1 a1 => ?_
    have hl1 : Dp K (mask a la H1) (.ref l) (.list [.list ds, .tuple (ds ++ ds.take 1), .tuple (ds.take (ds.length - 1)), .none, .tuple (.int p :: ds.drop 1), .tuple (.bool true :: ds.drop 1), .tuple []]) := .lst (.inl (.inl (hide_at hh hl h1))) a1
    have hd1 := hd.ex e1
    obtain ⟨d0, r0, hds⟩ : ∃ d0 r0, ds = d0 :: r0 := by
      cases ds with
      | nil => simp at hlen; omega
      | cons d0 r0 => exact ⟨_, _, rfl⟩
    have h0 : ds[0]? = some d0 := by rw [hds]; rfl
    have hd0 : d0 ∈ ds := List.mem_of_getElem? h0
    rcases hsm with rfl | ⟨k, rfl⟩
    · have hb0 : isD "tuple" d0 = false := by
        have := fit_dr_all hfit d0 hd0
        cases d0 <;> first | rfl | exact absurd this Bool.false_ne_true
      refine q_when (b := false) (et_is (et_B (ev_isiD (ed_ofH (eh_ix ((E2 rfl).mono e1) ev_c h0)))) hb0) (fun z => by cases z) fun _ H2 e2 => ?_
      refine s_retC (ea_cons (ev_var rfl) (ea_cons (ev_var rfl) ea_nil)) fun H3 e3 => ⟨a, la, ca, _, _, rfl, hd1.ex (e2.trans e3), hl1.same (show Same _ _ from mask_of (e2.trans e3)), by simp, by simp, fun x e H4 he hx st => ?_⟩
      have st' : Stp a la ca H H4 := (Stp.of hd ((e1.trans e2).trans e3)).trans st
      have key : fitD p (.dr m) e = false ∧ sm1 e := by
        simp only [List.mem_cons, List.not_mem_nil, or_false] at he
        rcases he with rfl | rfl | rfl | rfl | rfl | rfl | rfl
        · exact good (.inr ⟨_, rfl⟩)
        · exact g1
        · exact g2
        · exact good (.inl rfl)
        · exact ⟨fit_dr bet_p, tail (Nat.zero_le _)⟩
        · exact ⟨fit_dr rfl, tail (Nat.zero_le _)⟩
        · exact goodL (by simp; omega) (by simp) (by simp)
      exact q x e H4 key.1 key.2 hx st'
    · obtain ⟨ws, rfl, hw1, hw2⟩ := word_tup (fit_wo_all hfit d0 hd0)
      obtain ⟨hk0, hk1⟩ : 1 ≤ k ∧ k ≤ 64 := hok.2.2
      refine q_when (b := true) (et_is (et_B (ev_isiD (ed_ofH (eh_ix ((E2 rfl).mono e1) ev_c h0)))) rfl) (fun _ H2 e2 => ?_) (fun z => by cases z)
      refine q_asgH (eh_ix ((E2 rfl).mono (e1.trans e2)) ev_c h0) fun wv H3 e3 hw => ?_
      have e123 := (e1.trans e2).trans e3
      have hh3 : Hd (hm a la) H3 := hh.ex e123
      have W4 : ∀ {σ : L2.St}, σ[4]? = some (some wv) → EvH K (hm a la) (tVar 4) σ H3 (.tuple ws) := fun h => eh_of (ev_var h) hw
      have wlast : ∀ {σ : L2.St}, σ[4]? = some (some wv) → EvH K (hm a la) (tSl (rSlA K) (tVar 4) tNoPart (tPart (tUn (rU fun i => .int (-i)) (tC (.int 1))))) σ H3 (.tuple (ws.take (ws.length - 1))) := fun h => by
        have := eh_sl (K := K) (lo := none) (hi := some (-1)) hh3 (W4 h) eo_none (eo_some (ev_un (ev_c (v := .int 1)) ru_neg))
        rwa [cutD_last] at this
      have wfrom : ∀ {σ : L2.St}, σ[4]? = some (some wv) → EvH K (hm a la) (tSl (rSlA K) (tVar 4) (tPart (tC (.int 1))) tNoPart) σ H3 (.tuple (ws.drop 1)) := fun h => by
        have := eh_sl (K := K) (lo := some (1 : Nat)) (hi := none) hh3 (W4 h) (eo_some (ev_c (v := .int 1))) eo_none
        rwa [cutD_from] at this
      have hd3 := hd.ex e123
      have ES3 : ∀ {σ : L2.St}, σ[2]? = some (some v) → EvH K (hm a la) (tSl (rSlA K) (tVar 2) (tPart (tC (.int 1))) tNoPart) σ H3 (.tuple (ds.drop 1)) := fun h => (ES1 h).mono e123
      have cat3 : ∀ {σ : L2.St} {te : TE} {d : PyData}, σ[2]? = some (some v) → EvH K (hm a la) te σ H3 d → EvH K (hm a la) (tOp (rCatA K) (tTup (tCons te tNil)) (tSl (rSlA K) (tVar 2) (tPart (tC (.int 1))) tNoPart)) σ H3 (.tuple (d :: ds.drop 1)) := fun {σ te d} h1 h2 => by
        have := eh_cat (K := K) hh3 (eh_tup hh3 (ehs_cons h2 ehs_nil) (by simp)) (ES3 h1) (by simp; omega)
        exact this
      have w1 : ∀ {σ : L2.St}, σ[4]? = some (some wv) → EvH K (hm a la) (tOp (rCatA K) (tVar 4) (tTup (tCons (tC (.int 0)) tNil))) σ H3 (.tuple (ws ++ [.int 0])) := fun h => eh_cat hh3 (W4 h) (eh_tup hh3 (ehs_cons (eh_int ev_c) ehs_nil) (by simp)) (by simp; omega)
      have w4 : ∀ {σ : L2.St}, σ[4]? = some (some wv) → σ[1]? = some (some (.int p)) → EvH K (hm a la) (tOp (rCatA K) (tTup (tCons (tVar 1) tNil)) (tSl (rSlA K) (tVar 4) (tPart (tC (.int 1))) tNoPart)) σ H3 (.tuple (.int p :: ws.drop 1)) := fun h h2 => eh_cat hh3 (eh_tup hh3 (ehs_cons (eh_int (ev_var h2)) ehs_nil) (by simp)) (wfrom h) (by simp; omega)
      have w5 : ∀ {σ : L2.St}, σ[4]? = some (some wv) → EvH K (hm a la) (tOp (rCatA K) (tSl (rSlA K) (tVar 4) tNoPart (tPart (tUn (rU fun i => .int (-i)) (tC (.int 1))))) (tTup (tCons (tUn (rU fun i => .int (-i)) (tC (.int 1))) tNil))) σ H3 (.tuple (ws.take (ws.length - 1) ++ [.int (-1)])) := fun h => eh_cat hh3 (wlast h) (eh_tup hh3 (ehs_cons (eh_int (ev_un ev_c ru_neg)) ehs_nil) (by simp)) (by simp; omega)
      have first4 : EvHL K (hm a la) (tSl (rSlL K) (tVar 3) tNoPart (tPart (tC (.int 4)))) ((List.set (List.set (start ["draw", "p", "piece", "some", "word"] [.ref a, .int p, v]) 3 (some (.ref l))) 4 (some wv))) H3 [.list ds, .tuple (ds ++ ds.take 1), .tuple (ds.take (ds.length - 1)), .none] := by
        have := ehl_sl (K := K) (lo := none) (hi := some (4 : Nat)) (σ := ((List.set (List.set (start ["draw", "p", "piece", "some", "word"] [.ref a, .int p, v]) 3 (some (.ref l))) 4 (some wv)))) hh3 (eh_of (ev_var (v := .ref l) (i := 3) rfl) (hl1.same (show Same _ _ from mask_of (e2.trans e3)))) eo_none (eo_some (ev_c (v := .int 4)))
        rwa [cutD_to] at this
      refine s_asgHL (ehl_cat hh3 first4 (ehl_lst hh3 (ehs_cons (cat3 rfl (w1 rfl)) (ehs_cons (cat3 rfl (wlast rfl)) (ehs_cons (cat3 rfl (eh_list hh3 (W4 rfl))) (ehs_cons (cat3 rfl (w4 rfl rfl)) (ehs_cons (cat3 rfl (w5 rfl)) ehs_nil))))) (by simp)) (by simp)) fun l2 vs2 H4 hl2 e4 h4 a4 => ?_
      have hl4 : Dp K (mask a la H4) (.ref l2) (.list _) := .lst (.inl (.inl (hide_at hh3 hl2 h4))) a4
      refine s_retC (ea_cons (ev_var rfl) (ea_cons (ev_var rfl) ea_nil)) fun H5 e5 => ⟨a, la, ca, _, _, rfl, hd3.ex (e4.trans e5), hl4.same (show Same _ _ from mask_of e5), by simp, by simp, fun x e H6 he hx st => ?_⟩
      have st' : Stp a la ca H H6 := (Stp.of hd ((e123.trans e4).trans e5)).trans st
      have key : fitD p (.wo m k) e = false ∧ sm1 e := by
        simp only [List.cons_append, List.nil_append, List.mem_cons, List.not_mem_nil, or_false] at he
        rcases he with rfl | rfl | rfl | rfl | rfl | rfl | rfl | rfl | rfl
        · exact good (.inr ⟨_, rfl⟩)
        · exact g1
        · exact g2
        · exact good (.inl rfl)
        · exact ⟨fit_wo (word_len (by simp; omega)), tail (by show (ws ++ [_]).length ≤ 30000; simp; omega)⟩
        · exact ⟨fit_wo (word_len (by simp; omega)), tail (by show (ws.take _).length ≤ 30000; simp; omega)⟩
        · exact ⟨fit_wo rfl, tail (Nat.zero_le _)⟩
        · exact ⟨fit_wo (word_bad (x := .int p) (by simp) bet_p), tail (by show (PyData.int p :: ws.drop 1).length ≤ 30000; simp; omega)⟩
        · exact ⟨fit_wo (word_bad (x := .int (-1)) (by simp) bet_m1), tail (by show (ws.take _ ++ [_]).length ≤ 30000; simp; omega)⟩
      exact q x e H6 key.1 key.2 hx st'
end
end K51
set_option Elab.async false
set_option linter.all false
set_option maxRecDepth 100000
set_option maxHeartbeats 4000000
namespace L2
open PySem PySem.Spec PyProof.Rows LamX
/-! what is left when only tables were written -/
theorem ExtN.rd {H H' : Hp} (e : ExtN H H') {a : Addr} {xs : List V} (h : Rd H a (.tup xs)) : Rd H' a (.tup xs) := by
  rcases h with h | ⟨o, h⟩
  · exact .inl (e _ _ h fun _ z => by cases z)
  · exact .inr ⟨o, e _ _ h fun _ z => by cases z⟩
theorem ExtN.seqT {K : PySem.W.Frag} {H H' : Hp} {a : Addr} {xs : List V} (e : ExtN H H') (h : SqT K H a xs) : SqT K H' a xs := by
  rcases h with (h | ⟨o, h⟩) | h
  · exact .inl (.inl (e _ _ h fun _ z => by cases z))
  · exact .inl (.inr ⟨o, e _ _ h fun _ z => by cases z⟩)
  · exact .inr h
theorem ExtN.seqL {K : PySem.W.Frag} {H H' : Hp} {a : Addr} {xs : List V} (e : ExtN H H') (h : SqL K H a xs) : SqL K H' a xs := by
  rcases h with (h | ⟨o, h⟩) | h
  · exact .inl (.inl (e _ _ h fun _ z => by cases z))
  · exact .inl (.inr ⟨o, e _ _ h fun _ z => by cases z⟩)
  · exact .inr h
mutual
theorem Dp.extN {K : PySem.W.Frag} {H H' : Hp} (e : ExtN H H') : ∀ {v : V} {d : PyData}, Dp K H v d → Dp K H' v d
  | _, _, .non => .non
  | _, _, .bl b => .bl b
  | _, _, .int i => .int i
  | _, _, .str x => .str x
  | _, _, .lst h a => .lst (ExtN.seqL e h) (DpAll.extN e a)
  | _, _, .tup h a => .tup (ExtN.seqT e h) (DpAll.extN e a)
theorem DpAll.extN {K : PySem.W.Frag} {H H' : Hp} (e : ExtN H H') : ∀ {vs : List V} {ds : List PyData}, DpAll K H vs ds → DpAll K H' vs ds
  | _, _, .nil => .nil
  | _, _, .cons h a => .cons (Dp.extN e h) (DpAll.extN e a)
end
/-- a def that knows its code object and that no repr is under way -/
theorem FunD.okC {P : Program} {w : World} {K : PySem.W.Frag} {mg : Str → Option Value} {base : Heap} {x qual : Str} {params : Arguments} {body : List Stmt} {scope : Scope} {dvs : List V} {kws : List (Str × V)} {f : Addr} {fd : FuncData} {N ps : List Str} {k : Nat} {sp : Sp} (F : FunD K x qual params body scope dvs kws f fd) (S : FnScope N ps scope) (len : ∀ vs H Q E, sp vs H Q E → vs.length = ps.length)
    (hbody : ∀ (A : Around) (outer : List Env) (s : Shared) (H : Hp) (vs : List V) (Q : VK) (E : XK), (A.deeper (envOfC qual scope s.heap.objs.size f fd.code)).guards = some [] → Room k (A.deeper (envOfC qual scope s.heap.objs.size f fd.code)) → sp vs H Q E →
      ∃ t, PSs (cxOf CX0 P w K mg base N qual scope f fd.code A outer s H E) body t ∧ t { nx := fun _ H' => Q .non H', rt := Q } (start N vs) H) : FnG P w K mg base (k + 1) f fd ps sp := by
  obtain ⟨oc, od, dV, kV, doc, pm, an, cdv, ct, osl, rfl, lk, hcd, _, _⟩ := F.ex
  exact ⟨len, fun A outer s H args us vs Q E hg hr e0 hb r hsp => run_ofS lk hcd S hr e0 hb r (len _ _ _ _ hsp) fun hr' => hbody A outer s H vs Q E hg hr' hsp⟩
end L2
namespace Evl
open PySem L2 LamX
section
variable {K : PySem.W.Frag} {σ : L2.St} {H H' : Hp} {ta tb tc te tx : TE} {t u : TT} {x y z v : V} {D : Ends} {tu tw tz : TS} {g : TG} {Q : VK}
theorem hide_extN {h : Addr → Bool} {H H' : Hp} (e : ExtN H H') : ExtN (hide h H) (hide h H') := fun b o q n => by
  unfold hide at q ⊢
  split at q
  · cases q
  · rename_i hn
    rw [if_neg hn]
    exact e b o q n
/-- what an exception that is kept gives -/
def Kpt (K : PySem.W.Frag) (CJ : Addr) (Q : VK) : XK := fun cls d H' => PySem.W.exmOne K cls (.ref CJ) = some true ∧ ∀ a, H' a = none → Q (.ref a) (upd H' a (ExK a cls d))
theorem x_lam {T : List (Addr × Str)} {CJ : Addr} {tt : XK → TE} (hT : Tabs T H) (k : ∀ H1, ExtN H H1 → Tabs T H1 → tt (Kpt K CJ Q) σ H1 fun _ H' => Q .non H') : tLam T (TKept K (.ref CJ)) tt σ H Q := ⟨hT, k⟩
theorem kpt_thr {C CJ : Addr} {f : Str} (he : PySem.W.exmOne K (.ref C) (.ref CJ) = some true) (q : ∀ a dd H1, H a = none → Ex H H1 → H1 dd = some (.xd [(f, v)]) → H1 a = some (ExK a (.ref C) (some dd)) → Q (.ref a) H1) : Thr C f v H (Kpt K CJ Q) := fun dd H' hd e hx => ⟨he, fun a ha =>
  q a dd _ (fresh_back e ha) (e.trans (Ex.new ha)) ((upd_ne (fun z => by rw [z, ha] at hx; cases hx)).trans hx) upd_same⟩
theorem Tabs.ex {T : List (Addr × Str)} (t : Tabs T H) (e : Ex H H') : Tabs T H' := fun p hp => (t p hp).ext e
end
end Evl
namespace K51
open PySem PySem.Spec PyProof.Rows L2 Evl LamX
theorem DrX.extN {H H' : Hp} {a la ca : Addr} {rest turn : Int} {large cells : List Int} (h : DrX H a la ca rest turn large cells) (e : ExtN H H') : DrX H' a la ca rest turn large cells :=
  ⟨e _ _ h.d (fun _ z => by cases z), e _ _ h.l (fun _ z => by cases z), e _ _ h.c (fun _ z => by cases z), h.ne⟩
theorem Dr.extN {H H' : Hp} {a la ca : Addr} (h : Dr H a la ca) (e : ExtN H H') : Dr H' a la ca := let ⟨r, t, l, c, d⟩ := h; ⟨r, t, l, c, d.extN e⟩
theorem Tabs.stp {T : List (Addr × Str)} {H H' : Hp} {a la ca : Addr} (t : Tabs T H) (h : Dr H a la ca) (s : Stp a la ca H H') : Tabs T H' := fun p hp => by
  obtain ⟨r, tn, l, c, d⟩ := h
  obtain ⟨ps, h1, h2, h3⟩ := t p hp
  have key : ∀ b o, H b = some o → (∀ ks, o ≠ .dK ks) → (∀ ks, o ≠ .lst ks) → H' b = some o := fun b o e n1 n2 => by
    have hz : ¬ (b = a ∨ b = la) := fun z => by
      rcases z with rfl | rfl
      · rw [d.d] at e; cases e; exact n1 _ rfl
      · rw [d.l] at e; cases e; exact n2 _ rfl
    have h1 : mask a la H b = some o := by
      unfold mask hide hm
      rw [if_neg (fun q => hz (of_decide_eq_true q))]
      exact e
    exact mask_ex b o (s.2 b o h1)
  refine ⟨ps, key _ _ h1 (fun _ z => by cases z) (fun _ z => by cases z), h2, fun pos cv hc => ?_⟩
  obtain ⟨c1, e1, e2⟩ := h3 pos cv hc
  exact ⟨c1, e1, key _ _ e2 (fun _ z => by cases z) (fun _ z => by cases z)⟩
/-- what the law's own defs need besides: the classes as values -/
structure Bx (K : PySem.W.Frag) (mg : Str → Option Value) (CN CF CT CJ fC : Addr) (fdC : FuncData) : Prop where
  gJ : mg "JudgeError" = some (.ref CJ)
  gN : mg "BadNumber" = some (.ref CN)
  gT : mg "BadTalk" = some (.ref CT)
  gF : mg "BadField" = some (.ref CF)
  eN : PySem.W.exmOne K (.ref CN) (.ref CJ) = some true
  eT : PySem.W.exmOne K (.ref CT) (.ref CJ) = some true
  eF : PySem.W.exmOne K (.ref CF) (.ref CJ) = some true
  kN : KepC K CN
  kT : KepC K CT
  kF : KepC K CF
  iN : PySem.W.kitOne K (.ref CN) (.ref CN) = some true
  iT : PySem.W.kitOne K (.ref CT) (.ref CT) = some true
  iF : PySem.W.kitOne K (.ref CF) (.ref CF) = some true
  xN : XfC K CN
  xT : XfC K CT
  fN : PySem.W.findIn K (.ref CN) "part" = some none
  fT : PySem.W.findIn K (.ref CT) "at" = some none
  FC : FnP K "_law_caught" (topS 42) fC fdC
  bC : Binds K fdC ["work"] []
  gC : mg "_law_caught" = some (.ref fC)
abbrev s_law_caught : Stmt := topS 42
theorem sc_law_caught : FnScope ["work", "caught", "error"] ["work"] (defScope s_law_caught) := ⟨rfl, rfl, rfl, by decide +kernel, rfl, by decide +kernel, by decide +kernel⟩
theorem pe_caught {X : Cx} {CN CF CT CJ fC c P : Addr} {fdC : FuncData} {T : List (Addr × Str)} {k : Nat} {params : Arguments} {body : Expr} {scope : Scope} {t : XK → TE} {p lpos pos : Pos} (B : Bx X.K X.mg CN CF CT CJ fC fdC)
    (TB : TabB X.base X.mg c P) (hcode : X.env.code = .ref c) (hmT : (P, X.env.qual ++ "<lambda>") ∈ T) (hu : ∀ p ∈ T, p.1 = P → p.2 = X.env.qual ++ "<lambda>") (hr : Room (k + 2) X.A)
    (hbody : ∀ (A : Around) (outer : List Env) (s : Shared) (H : Hp) (E : XK) (f c' : Addr), Room k (A.deeper (lamEnv X scope s.heap.objs.size f c')) → PE (lamCx X A outer s H E scope f c') body (t E))
    (hg : Gl X "_law_caught") (L : LamS X.env.scope scope) (hdef : defaultsOf params X.env = ([], []))
    (hbind : ∀ (q : Str) (cl : List (Str × Addr)) (pm cv ctv : Value), bindArgs (PySem.W.kla_fn "<lambda>" q params body scope cl pm cv ctv) ⟨[], []⟩ = pure []) :
    PE X (.Call (.Name "_law_caught" p) [.Lambda params body scope lpos] [] pos) (tLam T (TKept X.K (.ref CJ)) t) := by
  obtain ⟨oc, od, dV, kV, doc, pm, an, cdv, ct, osl, e, lk, hcd, _, _⟩ := B.FC.ex
  have hb := B.bC
  subst e
  exact pe_lamcall hg B.gC B.FC.kp lk hcd hb sc_law_caught rfl (.inl rfl) (kept_gives sc_law_caught rfl rfl rfl (by decide) B.gJ) TB hcode hmT hu hr L hdef hbind hbody
end K51
set_option Elab.async false
set_option linter.all false
set_option maxRecDepth 100000
set_option maxHeartbeats 4000000
namespace Evl
open PySem L2 LamX
section
variable {K : PySem.W.Frag} {σ : L2.St} {H H' : Hp} {ta tb tc te tx : TE} {t u : TT} {x y z v : V} {D : Ends} {tu tw tz : TS} {g : TG} {Q : VK} {d : PyData}
theorem x_callD3 {sp : Sp} {E : XK} (ha : Ev ta σ H x) (hb : Ev tb σ H y) (hc : EvD K tc σ H d) (k : ∀ v H1, Ex H H1 → Dp K H1 v d → sp [x, y, v] H1 Q E) : tCall sp [] E (tCons ta (tCons tb (tCons tc tNil))) σ H Q :=
  ha H (Ex.refl H) _ fun H1 e1 => hb H1 e1 _ fun H2 e2 => hc H2 (e1.trans e2) _ fun v H3 e3 hd => k v H3 ((e1.trans e2).trans e3) hd
theorem x_callD4 {sp : Sp} {E : XK} (ha : Ev ta σ H x) (hb : Ev tb σ H y) (hx : Ev tx σ H z) (hc : EvD K tc σ H d) (k : ∀ v H1, Ex H H1 → Dp K H1 v d → sp [x, y, z, v] H1 Q E) : tCall sp [] E (tCons ta (tCons tb (tCons tx (tCons tc tNil)))) σ H Q :=
  ha H (Ex.refl H) _ fun H1 e1 => hb H1 e1 _ fun H2 e2 => hx H2 (e1.trans e2) _ fun H3 e3 => hc H3 ((e1.trans e2).trans e3) _ fun v H4 e4 hd => k v H4 (((e1.trans e2).trans e3).trans e4) hd
theorem x_cb {r : List V → Hp → VK → Prop} {ta : TA} (k : ta σ H fun vs H1 => r vs H1 Q) : tCB r ta σ H Q := k
theorem x_par {i j : Nat} {ta : TA} (k : ta σ H fun vs H1 => ∃ v w, vs = [v, w] ∧ tz D ((σ.set i (some v)).set j (some w)) H1) : tSeq (tPar i j ta) tz D σ H := k
theorem ed_tup0 : EvD K (tTup tNil) σ H (.tuple []) := ed_ofH (h := fun _ => false) (eh_tup (fun b hb => by cases hb) ehs_nil (by simp))
/-- isinstance of a kept exception -/
theorem ev_isK {a C D dd : Addr} {fs : List (Str × V)} {b : Bool} (ha : Ev ta σ H (.ref a)) (hb : Ev tb σ H (.ref C)) (kc : KepC K D) (e : H a = some (ExK a (.ref D) (some dd))) (ed : H dd = some (.xd fs)) (hk : PySem.W.kitOne K (.ref D) (.ref C) = some b) :
    Ev (tCB (rIsK K) (tCons ta (tCons tb tNil))) σ H (.bl b) := fun H1 e1 Q q => ha H1 e1 _ fun H2 e2 => hb H2 (e1.trans e2) _ fun H3 e3 =>
  ⟨a, D, C, some dd, b, rfl, kc, ((e1.trans e2).trans e3) _ _ e, fun d' z => by cases z; exact ⟨fs, ((e1.trans e2).trans e3) _ _ ed⟩, hk, q H3 (e2.trans e3)⟩
theorem ev_xk {a C dd : Addr} {fs : List (Str × V)} {n : Str} (ha : Ev te σ H (.ref a)) (xc : XfC K C) (hn : PySem.W.findIn K (.ref C) n = some none) (e : H a = some (ExK a (.ref C) (some dd))) (ed : H dd = some (.xd fs)) (hv : fs.lookup n = some v) :
    Ev (tXK K n te) σ H v := fun H1 e1 Q q => ha H1 e1 _ fun H2 e2 => ⟨a, C, dd, fs, v, rfl, xc, hn, (e1.trans e2) _ _ e, (e1.trans e2) _ _ ed, hv, q H2 e2⟩
/-- a kept exception and its dict -/
structure Kpd (C : Addr) (f : Str) (v : V) (a dd : Addr) (H : Hp) : Prop where
  a : H a = some (ExK a (.ref C) (some dd))
  d : H dd = some (.xd [(f, v)])
theorem Kpd.ex {C : Addr} {f : Str} {a dd : Addr} (k : Kpd C f v a dd H) (e : Ex H H') : Kpd C f v a dd H' := ⟨e _ _ k.a, e _ _ k.d⟩
theorem Kpd.extN {C : Addr} {f : Str} {a dd : Addr} (k : Kpd C f v a dd H) (e : ExtN H H') : Kpd C f v a dd H' := ⟨e _ _ k.a (fun _ z => by unfold ExK at z; cases z), e _ _ k.d (fun _ z => by cases z)⟩
theorem Kpd.lk {f : Str} : ([(f, v)] : List (Str × V)).lookup f = some v := by
  have e : (f == f) = true := beq_self_eq_true f
  simp only [List.lookup, e]
theorem kpd_thr {C CJ : Addr} {f : Str} (he : PySem.W.exmOne K (.ref C) (.ref CJ) = some true) (q : ∀ a dd H1, Ex H H1 → Kpd C f v a dd H1 → Q (.ref a) H1) : Thr C f v H (Kpt K CJ Q) := kpt_thr he fun a dd H1 _ e h1 h2 => q a dd H1 e ⟨h2, h1⟩
end
end Evl
namespace K51
open PySem PySem.Spec PyProof.Rows L2 Evl LamX
def Lw (p : Int) (r : Nat) : Prop := (p = 41 ∧ r = 1) ∨ (p = 97 ∧ r = 3) ∨ (p = 193 ∧ r = 2) ∨ (p = 641 ∧ r = 1) ∨ (p = 7681 ∧ r = 4) ∨ (p = 641 ∧ r = 3)
theorem Lw.fld {p : Int} {r : Nat} (h : Lw p r) : ∃ k, Fld p k ∧ 1 ≤ r ∧ r ≤ k ∧ r ≤ 4 ∧ k ≤ 7 ∧ 0 < p ∧ p < 1000000 := by
  rcases h with ⟨rfl, rfl⟩ | ⟨rfl, rfl⟩ | ⟨rfl, rfl⟩ | ⟨rfl, rfl⟩ | ⟨rfl, rfl⟩ | ⟨rfl, rfl⟩
  · exact ⟨1, .inl ⟨rfl, rfl⟩, by decide, by decide, by decide, by decide, by decide, by decide⟩
  · exact ⟨3, .inr (.inl ⟨rfl, rfl⟩), by decide, by decide, by decide, by decide, by decide, by decide⟩
  · exact ⟨4, .inr (.inr (.inl ⟨rfl, rfl⟩)), by decide, by decide, by decide, by decide, by decide, by decide⟩
  · exact ⟨5, .inr (.inr (.inr (.inl ⟨rfl, rfl⟩))), by decide, by decide, by decide, by decide, by decide, by decide⟩
  · exact ⟨7, .inr (.inr (.inr (.inr ⟨rfl, rfl⟩))), by decide, by decide, by decide, by decide, by decide, by decide⟩
  · exact ⟨5, .inr (.inr (.inr (.inl ⟨rfl, rfl⟩))), by decide, by decide, by decide, by decide, by decide, by decide⟩
def lamT (P1 P2 : Addr) : List (Addr × Str) := [(P1, ("_law_pieces_right" : Str) ++ ".<locals>." ++ "<lambda>"), (P2, ("_law_errors_right" : Str) ++ ".<locals>." ++ "<lambda>")]
def spErrs (T : List (Addr × Str)) : Sp := fun vs H Q _ => ∃ p r, vs = [.int p, .int (2 ^ r)] ∧ Lw p r ∧ Tabs T H ∧ ∀ H', ExtN H H' → Tabs T H' → Q (.bl true) H'
theorem siz_big {k r : Nat} (h : k ≤ 7) : sizD k (.int (4 * 2 ^ r * 2 ^ r * 4096)) = false := by
  have e : (4 * 2 ^ r * 2 ^ r * 4096 : Int) = 2 ^ (r + r + 14) := by
    rw [Int.pow_add, Int.pow_add]
    have : (2 : Int) ^ 14 = 4 * 4096 := by decide
    rw [this, Int.mul_comm 4 (2 ^ r), Int.mul_assoc (2 ^ r) 4 (2 ^ r), Int.mul_comm 4 (2 ^ r), ← Int.mul_assoc, Int.mul_assoc]
  rw [e]
  have e2 : decide ((2 : Int) ^ (r + r + 14) ≤ 2 ^ k) = false := decide_eq_false (fun z => by have := p2_le.mp z; omega)
  show ((decide ((2 : Int) ≤ 2 ^ (r + r + 14)) && decide ((2 : Int) ^ (r + r + 14) ≤ 2 ^ k)) && _) = false
  rw [e2, Bool.and_false, Bool.false_and]
theorem siz_3 {p : Int} {k : Nat} (h : Fld p k) : sizD k (.int 3) = false := by
  rcases h with ⟨_, rfl⟩ | ⟨_, rfl⟩ | ⟨_, rfl⟩ | ⟨_, rfl⟩ | ⟨_, rfl⟩ <;> decide
section
variable {P : Program} {w : World} {K : PySem.W.Frag} {mg : Str → Option Value} {base : Heap} {CN CF CT CJ fN fT aF aM fC c1 c2 P1 P2 : Addr} {fdC : FuncData}
abbrev s_law_errors_right : Stmt := topS 49
theorem sc_law_errors_right : FnScope ["p", "n", "last", "odd", "error", "other"] ["p", "n"] (defScope s_law_errors_right) := ⟨rfl, rfl, rfl, by decide +kernel, rfl, by decide +kernel, by decide +kernel⟩
theorem ok_law_errors_right {f : Addr} {fd : FuncData} (F : FnP K "_law_errors_right" s_law_errors_right f fd) (B : Bf P K mg CN CF CT fN fT aF aM) (B2 : Bx K mg CN CF CT CJ fC fdC) (TB : TabB base mg c2 P2) (hcode : fd.code = .ref c2) (hP : P1 ≠ P2)
    (D1 : Dn P w K mg base CX0 1 "_law_rounds" ["n"] spRnd) (D2 : Dn P w K mg base (CX P w) 7 "piece_shape" ["p", "n", "at"] (spPShape K CN)) (D3 : Dn P w K mg base (CX P w) 7 "is_piece" ["p", "n", "at", "thing"] (spPiece K CN))
    (D4 : Dn P w K mg base (CX P w) 7 "pieces_fault" ["p", "n", "pieces"] (spPFault K CN)) (D5 : Dn P w K mg base (CX P w) 8 "is_whole" ["p", "n", "pieces"] (spWhole K CF CT)) : FnG P w K mg base 11 f fd ["p", "n"] (spErrs (lamT P1 P2)) := by
  have hmT : (P2, ("_law_errors_right" : Str) ++ ".<locals>." ++ "<lambda>") ∈ lamT P1 P2 := .tail _ (.head _)
  have hu : ∀ p ∈ lamT P1 P2, p.1 = P2 → p.2 = ("_law_errors_right" : Str) ++ ".<locals>." ++ "<lambda>" := fun p hp e => by
    rcases List.mem_cons.mp hp with rfl | hp
    · exact absurd e hP
    · rcases List.mem_cons.mp hp with rfl | hp
      · rfl
      · cases hp
  refine F.okC sc_law_errors_right (fun vs H Q E h => ?_) (fun A outer s H vs Q E hG hr h => ⟨_, (PSs.nox (pss_cons (ps_set (i := 2) sc_law_errors_right.nd rfl (.inl rfl) (pe_op op_add pe_int (pe_op op_mul pe_int (pe_d D1 hr (by decide) (pa_cons (pv 1) pa_nil)))))
      (pss_cons (ps_for PassesOwn.never rfl (pi_list (pe_lst (pa_cons (pe_un un_neg pe_int) (pa_cons (pe_op op_add (pv 2) pe_int) (pa_cons pe_non (pa_cons pe_bl (pa_cons pe_str pa_nil))))))) (pg_name (i := 3) sc_law_errors_right.nd rfl (.inr rfl))
        (pss_cons (ps_par (i := 4) (j := 5) (by rfl) sc_law_errors_right.nd rfl rfl (by decide) rfl rfl (pa_cons (pe_caught (k := 8) (t := fun E => tCall (spPShape K CN) [] E (tCons (tVar 0) (tCons (tVar 1) (tCons (tVar 3) tNil)))) B2 TB hcode hmT hu hr (fun A outer s H E f c' hr' => pe_dX D2 (takes_of rfl rfl rfl rfl) (fun _ _ _ _ h => h) hr' (by decide) (pa_cons (pv 0) (pa_cons (pv 1) (pa_cons (pv 3) pa_nil)))) (by rfl) (lamS_by (by kernel_rfl)) rfl (fun _ _ _ _ _ => rfl)) (pa_cons pe_non pa_nil)) (by rfl))
        (pss_cons (ps_set (i := 5) sc_law_errors_right.nd rfl (.inl rfl) (pe_caught (k := 8) (t := fun E => tCall (spPiece K CN) [] E (tCons (tVar 0) (tCons (tVar 1) (tCons (tVar 3) (tCons (tTup tNil) tNil))))) B2 TB hcode hmT hu hr (fun A outer s H E f c' hr' => pe_dX D3 (takes_of rfl rfl rfl rfl) (fun _ _ _ _ h => h) hr' (by decide) (pa_cons (pv 0) (pa_cons (pv 1) (pa_cons (pv 3) (pa_cons (pe_tup pa_nil) pa_nil))))) (by rfl) (lamS_by (by kernel_rfl)) rfl (fun _ _ _ _ _ => rfl)))
        (pss_one (ps_if (PW.pt (pw_or (pt_not (pt_val (pe_callB call_isK (by rfl) B.isi (by decide +kernel) (pa_cons (pv 4) (pa_cons (pe_glob (v := .ref CN) (by rfl) B2.gN rfl) pa_nil))))) (pw_or (pt_not (pt_val (pe_callB call_isK (by rfl) B.isi (by decide +kernel) (pa_cons (pv 5) (pa_cons (pe_glob (v := .ref CN) (by rfl) B2.gN rfl) pa_nil))))) (pw_or1 (pt_cmpR (op_neD hr.units) (pe_lst (pa_cons (pe_xk (pv 4)) (pa_cons (pe_xk (pv 5)) pa_nil))) (pe_lst (pa_cons pe_str (pa_cons pe_str pa_nil))) (nomark _)))))) (pss_one (ps_ret pe_bl)) pss_nil)))))
      (pss_cons (ps_for PassesOwn.never rfl (pi_list (pe_lst (pa_cons pe_int (pa_cons pe_int (pa_cons (pe_op op_mul (pe_op op_mul (pe_op op_mul pe_int (pv 1)) (pv 1)) pe_int) (pa_cons pe_non (pa_cons pe_bl pa_nil))))))) (pg_name (i := 3) sc_law_errors_right.nd rfl (.inr rfl))
        (pss_cons (ps_set (i := 4) sc_law_errors_right.nd rfl (.inl rfl) (pe_caught (k := 8) (t := fun E => tCall (spPFault K CN) [] E (tCons (tVar 0) (tCons (tVar 3) (tCons (tTup tNil) tNil)))) B2 TB hcode hmT hu hr (fun A outer s H E f c' hr' => pe_dX D4 (takes_of rfl rfl rfl rfl) (fun _ _ _ _ h => h) hr' (by decide) (pa_cons (pv 0) (pa_cons (pv 3) (pa_cons (pe_tup pa_nil) pa_nil)))) (by rfl) (lamS_by (by kernel_rfl)) rfl (fun _ _ _ _ _ => rfl)))
        (pss_one (ps_if (PW.pt (pw_or (pt_not (pt_val (pe_callB call_isK (by rfl) B.isi (by decide +kernel) (pa_cons (pv 4) (pa_cons (pe_glob (v := .ref CN) (by rfl) B2.gN rfl) pa_nil))))) (pw_or1 (pt_cmpR op_ne (pe_xk (pv 4)) pe_str (nomark _))))) (pss_one (ps_ret pe_bl)) pss_nil))))
      (pss_one (ps_ret (pe_callB call_isK (by rfl) B.isi (by decide +kernel) (pa_cons (pe_caught (k := 8) (t := fun E => tCall (spWhole K CF CT) [] E (tCons (tC (.int 40)) (tCons (tVar 1) (tCons (tC .non) tNil)))) B2 TB hcode hmT hu hr (fun A outer s H E f c' hr' => pe_dX D5 (takes_of rfl rfl rfl rfl) (fun _ _ _ _ h => h) hr' (by decide) (pa_cons pe_int (pa_cons (pv 1) (pa_cons pe_non pa_nil)))) (by rfl) (lamS_by (by kernel_rfl)) rfl (fun _ _ _ _ _ => rfl)) (pa_cons (pe_glob (v := .ref CF) (by rfl) B2.gF rfl) pa_nil))))))))), ?_⟩)
  · obtain ⟨p, r, rfl, _⟩ := h
    rfl
  · obtain ⟨p, r, rfl, hL, hT, q⟩ := h
    obtain ⟨k, hF, h1, h2, h4, hk7, hp0, hp1⟩ := hL.fld
    refine q_asg (v := .int ((2 * r + 6 : Nat) : Int)) (Evl.ev_is (ev_op ev_c (ev_op ev_c (ev_call (ea_cons (ev_var rfl) ea_nil) (SpV.of fun H1 e Q q E => ⟨r, rfl, q⟩)) (rv_I (.inl (by decide)))) rv_I0) ?_) fun H0 e0 => ?_
    · show V.int (4 + 2 * (1 + (r : Int))) = _
      rw [show (4 + 2 * (1 + (r : Int))) = ((2 * r + 6 : Nat) : Int) by omega]
    have N0 : ExtN H H0 := ExtN.of e0
    have T0 : Tabs (lamT P1 P2) H0 := Evl.Tabs.ex hT e0
    refine q_forNLn (xs := [.int (-1), .int (((2 * r + 6 : Nat) : Int) + 1), .non, .bl true, .str "0"]) (el_lst (ea_cons (ev_un ev_c ru_neg) (ea_cons (ev_op (ev_var rfl) ev_c rv_I0) (ea_cons ev_c (ea_cons ev_c (ea_cons ev_c ea_nil))))) (by simp))
      (fun l i σ' H' => (∃ x y z, σ' = [some (.int p), some (.int (2 ^ r)), some (.int ((2 * r + 6 : Nat) : Int)), x, y, z]) ∧ ExtN H H' ∧ Tabs (lamT P1 P2) H' ∧ H' l = some (.lst [.int (-1), .int (((2 * r + 6 : Nat) : Int) + 1), .non, .bl true, .str "0"]))
      (fun l H1 hl e1 hl1 => ⟨⟨none, none, none, rfl⟩, N0.trans (ExtN.of e1), Evl.Tabs.ex T0 e1, hl1⟩) (fun l i σ' H' _ h => sq_of h.2.2.2) ?_ ?_
    · rintro l i x σ' H' hi ⟨⟨x1, y1, z1, rfl⟩, N1, T1, hl1⟩
      obtain ⟨d, hd, hb⟩ : ∃ d, (∀ H, Dp K H x d) ∧ betD d 0 ((2 * r + 6 : Nat) : Int) = false := by
        have hm := List.mem_of_getElem? hi
        simp only [List.mem_cons, List.not_mem_nil, or_false] at hm
        rcases hm with rfl | rfl | rfl | rfl | rfl
        · exact ⟨_, fun _ => .int _, rfl⟩
        · refine ⟨_, fun _ => .int _, ?_⟩
          show (decide ((0 : Int) ≤ ((2 * r + 6 : Nat) : Int) + 1) && decide (((2 * r + 6 : Nat) : Int) + 1 ≤ ((2 * r + 6 : Nat) : Int))) = false
          rw [decide_eq_false (show ¬ ((2 * r + 6 : Nat) : Int) + 1 ≤ ((2 * r + 6 : Nat) : Int) by omega), Bool.and_false]
        · exact ⟨_, fun _ => .non, rfl⟩
        · exact ⟨_, fun _ => .bl _, rfl⟩
        · exact ⟨_, fun _ => .str _, rfl⟩
      have hno : ∀ i : Nat, d = .int i → i ≤ 2 * r + 6 → False := fun i e hi => by
        rw [e, bet_ok hi] at hb
        cases hb
      refine x_par (x_cons (x_lam T1 fun H2 n2 T2 => x_call (ea_cons (ev_var rfl) (ea_cons (ev_var rfl) (ea_cons (ev_var rfl) ea_nil))) fun H3 e3 => ⟨p, k, r, x, d, rfl, hF, h1, h2, hd _, fun _ => kpd_thr B2.eN fun a dd H4 e4 k1 => ?_, fun i e hi => (hno i e hi).elim⟩))
      refine ⟨.ref a, .non, rfl, ?_⟩
      have N4 : ExtN H H4 := ((N1.trans n2).trans (ExtN.of e3)).trans (ExtN.of e4)
      have T4 : Tabs (lamT P1 P2) H4 := Evl.Tabs.ex (Evl.Tabs.ex T2 e3) e4
      have L4 := e4 _ _ (e3 _ _ (n2 _ _ hl1 (fun _ z => by cases z)))
      refine x_asg (x_lam T4 fun H5 n5 T5 => x_callD4 (ev_var rfl) (ev_var rfl) (ev_var rfl) ed_tup0 fun v H6 e6 hv => ⟨p, k, r, x, d, v, .tuple [], rfl, hF, h1, h2, hd _, hv, sm1_tup (by simp) (by simp), fun _ => kpd_thr B2.eN fun a2 dd2 H7 e7 k2 => ?_, fun i e hi => (hno i e hi).elim⟩)
      have k1' := (k1.extN n5).ex (e6.trans e7)
      have L7 := e7 _ _ (e6 _ _ (n5 _ _ L4 (fun _ z => by cases z)))
      refine s_when (b := false) (et_is (et_or (et_not (et_B (ev_isK (ev_var rfl) ev_c B2.kN k1'.a k1'.d B2.iN))) fun _ => et_or (et_not (et_B (ev_isK (ev_var rfl) ev_c B2.kN k2.a k2.d B2.iN))) fun _ => et_test (ev_opLL (z := .bl (!PyData.eqv (.list [.str "at", .str "at"]) (.list [.str "at", .str "at"]))) (el_lst (ea_cons (ev_xk (ev_var rfl) B2.xN B2.fN k1'.a k1'.d Kpd.lk) (ea_cons (ev_xk (ev_var rfl) B2.xN B2.fN k2.a k2.d Kpd.lk) ea_nil)) (by simp)) (el_lst (ea_cons ev_c (ea_cons ev_c ea_nil)) (by simp))
        fun p q H1 hp hq e H2 e2 Q' q' => ⟨_, _, .lst (sq_of (e2 _ _ hp)) (.cons (.str _) (.cons (.str _) .nil)), .lst (sq_of (e2 _ _ hq)) (.cons (.str _) (.cons (.str _) .nil)), by decide +kernel, by decide +kernel, q' H2 (Ex.refl _)⟩)) (by simp [PyData.eqv, PyData.eqvAll])) (fun z => by cases z) fun _ H8 e8 => ⟨⟨_, _, _, rfl⟩, ((N4.trans n5).trans (ExtN.of (e6.trans e7))).trans (ExtN.of e8), Evl.Tabs.ex T5 ((e6.trans e7).trans e8), e8 _ _ L7⟩
    · rintro l0 σ' H' ⟨⟨x1, y1, z1, rfl⟩, N1, T1, _⟩
      have hr1 : (2 : Int) ^ r ≤ 16 := p2_le (b := 4).mpr h4
      have hr0 : (1 : Int) ≤ 2 ^ r := p2_le (a := 0).mpr (Nat.zero_le _)
      refine q_forNLn (xs := [.int 0, .int 3, .int (4 * 2 ^ r * 2 ^ r * 4096), .non, .bl false]) (el_lst (ea_cons ev_c (ea_cons ev_c (ea_cons (ev_op (ev_op (ev_op ev_c (ev_var rfl) (rv_I (.inl (by decide)))) (ev_var rfl) (rv_I (.inr ⟨by omega, by omega⟩))) ev_c (rv_I (.inr (by decide)))) (ea_cons ev_c (ea_cons ev_c ea_nil))))) (by simp))
        (fun l i σ' H' => (∃ x y z, σ' = [some (.int p), some (.int (2 ^ r)), some (.int ((2 * r + 6 : Nat) : Int)), x, y, z]) ∧ ExtN H H' ∧ Tabs (lamT P1 P2) H' ∧ H' l = some (.lst [.int 0, .int 3, .int (4 * 2 ^ r * 2 ^ r * 4096), .non, .bl false]))
        (fun l H1 hl e1 hl1 => ⟨⟨_, _, _, rfl⟩, N1.trans (ExtN.of e1), Evl.Tabs.ex T1 e1, hl1⟩) (fun l i σ' H' _ h => sq_of h.2.2.2) ?_ ?_
      · rintro l i x σ' H' hi ⟨⟨x1, y1, z1, rfl⟩, N1, T1, hl1⟩
        obtain ⟨d, hd, hb⟩ : ∃ d, (∀ H, Dp K H x d) ∧ sizD k d = false := by
          have hm := List.mem_of_getElem? hi
          simp only [List.mem_cons, List.not_mem_nil, or_false] at hm
          rcases hm with rfl | rfl | rfl | rfl | rfl
          · exact ⟨_, fun _ => .int _, rfl⟩
          · exact ⟨_, fun _ => .int _, siz_3 hF⟩
          · exact ⟨_, fun _ => .int _, siz_big hk7⟩
          · exact ⟨_, fun _ => .non, rfl⟩
          · exact ⟨_, fun _ => .bl _, rfl⟩
        refine x_asg (x_lam T1 fun H2 n2 T2 => x_callD3 (ev_var rfl) (ev_var rfl) ed_tup0 fun v H3 e3 hv => ⟨p, k, x, d, v, .tuple [], rfl, hF, hd _, hv, .inl ⟨hb, kpd_thr B2.eN fun a dd H4 e4 k1 => ?_⟩⟩)
        have L4 := e4 _ _ (e3 _ _ (n2 _ _ hl1 (fun _ z => by cases z)))
        exact s_when (b := false) (et_is (et_or (et_not (et_B (ev_isK (ev_var rfl) ev_c B2.kN k1.a k1.d B2.iN))) fun _ => et_test (ev_op (ev_xk (ev_var rfl) B2.xN B2.fN k1.a k1.d Kpd.lk) ev_c (rv_ne rfl))) (by simp)) (fun z => by cases z) fun _ H8 e8 => ⟨⟨_, _, _, rfl⟩, (N1.trans n2).trans (ExtN.of ((e3.trans e4).trans e8)), Evl.Tabs.ex T2 ((e3.trans e4).trans e8), e8 _ _ L4⟩
      · rintro l σ' H' ⟨⟨x1, y1, z1, rfl⟩, N1, T1, _⟩
        refine x_ret (x_cb (x_cons (x_lam T1 fun H2 n2 T2 => x_call (ea_cons ev_c (ea_cons (ev_var rfl) (ea_cons ev_c ea_nil))) fun H3 e3 => ⟨40, 2 ^ r, .non, .none, rfl, .non, .inl ⟨by decide, fun H4 e4 => ⟨B2.eF, fun a ha => ?_⟩⟩⟩)))
        have e5 := (e3.trans e4).trans (Ex.new (o := ExK a (.ref CF) none) ha)
        exact ⟨a, CF, CF, none, true, rfl, B2.kF, upd_same, (fun d z => by cases z), B2.iF, q _ ((N1.trans n2).trans (ExtN.of e5)) (Evl.Tabs.ex T2 e5)⟩
end
end K51
set_option Elab.async false
set_option linter.all false
set_option maxRecDepth 100000
set_option maxHeartbeats 4000000
namespace Evl
open PySem L2 LamX
section
variable {K : PySem.W.Frag} {σ : L2.St} {H H' : Hp} {ta tb tc te tx : TE} {t u : TT} {x y z v : V} {D : Ends} {tu tw tz : TS} {g : TG} {Q : VK} {d : PyData} {h : Addr → Bool}
theorem x_callH3 {sp : Sp} {E : XK} (ha : Ev ta σ H x) (hb : Ev tb σ H y) (hc : EvH K h tc σ H d) (k : ∀ v H1, Ex H H1 → Dp K (hide h H1) v d → sp [x, y, v] H1 Q E) : tCall sp [] E (tCons ta (tCons tb (tCons tc tNil))) σ H Q :=
  ha H (Ex.refl H) _ fun H1 e1 => hb H1 e1 _ fun H2 e2 => hc H2 (e1.trans e2) _ fun v H3 e3 hd => k v H3 ((e1.trans e2).trans e3) hd
theorem ev_callD3 {sp : Sp} {E : XK} (ha : Ev ta σ H x) (hb : Ev tb σ H y) (hc : EvD K tc σ H d) (hs : ∀ v H1, Ex H H1 → Dp K H1 v d → ∀ Q : VK, RetV z H1 Q → sp [x, y, v] H1 Q E) : Ev (tCall sp [] E (tCons ta (tCons tb (tCons tc tNil)))) σ H z := fun H1 e Q q =>
  ha H1 e _ fun H2 e2 => hb H2 (e.trans e2) _ fun H3 e3 => hc H3 ((e.trans e2).trans e3) _ fun v H4 e4 hd => hs v H4 (((e.trans e2).trans e3).trans e4) hd Q fun H5 e5 => q H5 (((e2.trans e3).trans e4).trans e5)
theorem ev_callD4 {sp : Sp} {E : XK} {w : V} (ha : Ev ta σ H x) (hb : Ev tb σ H y) (hx : Ev tx σ H z) (hc : EvD K tc σ H d) (hs : ∀ v H1, Ex H H1 → Dp K H1 v d → ∀ Q : VK, RetV w H1 Q → sp [x, y, z, v] H1 Q E) : Ev (tCall sp [] E (tCons ta (tCons tb (tCons tx (tCons tc tNil))))) σ H w := fun H1 e Q q =>
  ha H1 e _ fun H2 e2 => hb H2 (e.trans e2) _ fun H3 e3 => hx H3 ((e.trans e2).trans e3) _ fun H4 e4 => hc H4 (((e.trans e2).trans e3).trans e4) _ fun v H5 e5 hd => hs v H5 ((((e.trans e2).trans e3).trans e4).trans e5) hd Q fun H6 e6 => q H6 ((((e2.trans e3).trans e4).trans e5).trans e6)
theorem rv_notB {a b : Bool} : RV rNotB (.bl a) (.bl b) H (.bl (!decide (a = b))) := fun H1 _ _ q => ⟨a, b, rfl, rfl, q H1 (Ex.refl H1)⟩
theorem x_lcR1 {ta : TA} {j : Nat} {vs : List Nat} {n : Nat} (k : EvA ta σ H [.int (n : Int)]) (hn : n ≤ 40000)
    (he : ∀ H1, Ex H H1 → ∀ D, H1 D = none → ∃ Pv : Nat → Hp → Prop, Pv 0 (upd H1 D (.lst [])) ∧ (∀ (i : Nat) H', i < n → Pv i H' → wipe ((wipe σ vs).set j (some (.int (i : Int)))) vs = wipe σ vs ∧ te ((wipe σ vs).set j (some (.int (i : Int)))) H' fun y H4 => ∃ acc, H4 D = some (.lst acc) ∧ acc.length < sizeLine ∧ Pv (i + 1) (upd H4 D (.lst (acc ++ [y])))) ∧ ∀ H', Pv n H' → Q (.ref D) H') :
    tLc (iRng1 ta) (gName j) tYes te vs σ H Q := k H (Ex.refl H) _ fun H1 e1 => ⟨(n : Int), rfl, by omega, by omega, fun Dl hD => by
  obtain ⟨Pv, p0, ps, pd⟩ := he H1 e1 Dl hD
  refine lc_range (lo := 0) (n := (n : Int).toNat) Pv p0 (fun i H' hi p => ?_) (by rw [Int.toNat_natCast]; exact pd)
  have e0 : (0 : Int) + (i : Int) = (i : Int) := Int.zero_add _
  rw [e0]
  obtain ⟨q1, q2⟩ := ps i H' (by omega) p
  exact ⟨q1, q2⟩⟩
end
end Evl
namespace L2
open PySem PySem.Spec PyProof.Rows
/-- a if c else b as a test -/
def tIfT (c t u : TT) : TT := fun σ H Q => c σ H fun b H1 => if b = true then t σ H1 Q else u σ H1 Q
theorem pt_ifExp {X : Cx} {c a b : Expr} {tc tt tu : TT} {pos : Pos} (hc : PT X c tc) (ha : PT X a tt) (hb : PT X b tu) : PT X (.IfExp c a b pos) (tIfT tc tt tu) := by
  refine ⟨fun pins s σ H Q I h => ?_⟩
  refine PyProof.Rows.isTrue_IfExp (thn (hc.run pins s σ H _ I h) fun d s1 ⟨H1, I1, q1⟩ => ?_)
  cases d with
  | true => exact ha.run pins s1 σ H1 Q I1 q1
  | false => exact hb.run pins s1 σ H1 Q I1 q1
end L2
namespace Evl
open PySem L2
theorem et_if {σ : L2.St} {H : Hp} {t u w : TT} {b c : Bool} (h : EvT t σ H b) (h1 : b = true → EvT u σ H c) (h2 : b = false → EvT w σ H c) : EvT (tIfT t u w) σ H c := fun H1 e Q q => h H1 e _ fun H2 e2 => by
  cases b with
  | true => exact h1 rfl H2 (e.trans e2) Q fun H3 e3 => q H3 (e2.trans e3)
  | false => exact h2 rfl H2 (e.trans e2) Q fun H3 e3 => q H3 (e2.trans e3)
end Evl
namespace K51
open PySem PySem.Spec PyProof.Rows L2 Evl LamX
def kbg {α : Type} (us ws : List α) : List α := match us, ws with
  | [a], [b, c, d] => [a, b, c, d]
  | _, _ => []
theorem kb_is_piece {K : PySem.W.Frag} {f : Addr} {fd : FuncData} (F : FnP K "is_piece" s_is_piece f fd) : KBinds K fd ["p", "n", "at", "thing"] ["n", "at", "thing"] kbg kbg := by
  obtain ⟨oc, od, dV, kV, doc, pm, an, cdv, ct, osl, rfl, lk, hcd, hD, hK⟩ := F.ex
  rcases hD with ⟨_, rfl⟩ | ⟨e, _⟩
  · refine ⟨fun s us ws _ hl => ?_, fun r1 r2 => ?_⟩
    · match us, ws, hl with
      | [a], [b, c, d], _ => exact .of_eq (by rfl)
      | [], _, hl => exact absurd hl (by simp [kbg])
      | _ :: _ :: _, _, hl => exact absurd hl (by simp [kbg])
      | [a], [], hl => exact absurd hl (by simp [kbg])
      | [a], [_], hl => exact absurd hl (by simp [kbg])
      | [a], [_, _], hl => exact absurd hl (by simp [kbg])
      | [a], _ :: _ :: _ :: _ :: _, hl => exact absurd hl (by simp [kbg])
    · cases r1 with
      | nil => exact .nil
      | cons h1 r1 =>
        cases r1 with
        | cons _ _ => exact .nil
        | nil =>
          cases r2 with
          | nil => exact .nil
          | cons h2 r2 =>
            cases r2 with
            | nil => exact .nil
            | cons h3 r2 =>
              cases r2 with
              | nil => exact .nil
              | cons h4 r2 =>
                cases r2 with
                | nil => exact .cons h1 (.cons h2 (.cons h3 (.cons h4 .nil)))
                | cons _ _ => exact .nil
  · exact absurd rfl e
end K51
set_option Elab.async false
set_option linter.all false
set_option maxRecDepth 100000
set_option maxHeartbeats 4000000
namespace Evl
open PySem L2 LamX
section
variable {K : PySem.W.Frag} {σ : L2.St} {H H' : Hp} {ta tb tc te tx : TE} {t u : TT} {x y z v : V} {D : Ends} {tu tw tz : TS} {g : TG} {Q : VK} {d : PyData} {h : Addr → Bool}
theorem ed_lst {vs : List V} {ds : List PyData} (k : EvL te σ H vs) (hd : ∀ H, DpAll K H vs ds) : EvD K te σ H (.list ds) := fun H1 e Q q => k H1 e Q fun p H2 _ e2 h2 => q _ H2 e2 (.lst (sq_of h2) (hd H2))
theorem Tabs.upd {T : List (Addr × Str)} {b : Addr} {xs ys : List V} (t : Tabs T H) (e : H b = some (.lst xs)) : Tabs T (upd H b (.lst ys)) := fun p hp => by
  obtain ⟨ps, h1, h2, h3⟩ := t p hp
  have n1 : p.1 ≠ b := fun z => by rw [z, e] at h1; cases h1
  refine ⟨ps, (upd_ne n1).trans h1, h2, fun pos cv hc => ?_⟩
  obtain ⟨c, e1, e2⟩ := h3 pos cv hc
  have n2 : c ≠ b := fun z => by rw [z, e] at e2; cases e2
  exact ⟨c, e1, (upd_ne n2).trans e2⟩
end
end Evl
namespace K51
open PySem PySem.Spec PyProof.Rows L2 Evl LamX
theorem ev_callK4 {K : PySem.W.Frag} {σ : L2.St} {H : Hp} {ta tb tc tx : TE} {x y z w : V} {d : PyData} {sp : Sp} {E : XK} (ha : Ev ta σ H x) (hb : Ev tb σ H y) (hx : Ev tx σ H z) (hc : EvD K tc σ H d) (hs : ∀ v H1, Ex H H1 → Dp K H1 v d → ∀ Q : VK, RetV w H1 Q → sp [x, y, z, v] H1 Q E) :
    Ev (tCallK sp kbg E (tCons ta tNil) (tCons tb (tCons tx (tCons tc tNil)))) σ H w := fun H1 e Q q =>
  ha H1 e _ fun H2 e2 => hb H2 (e.trans e2) _ fun H3 e3 => hx H3 ((e.trans e2).trans e3) _ fun H4 e4 => hc H4 (((e.trans e2).trans e3).trans e4) _ fun v H5 e5 hd => hs v H5 ((((e.trans e2).trans e3).trans e4).trans e5) hd Q fun H6 e6 => q H6 ((((e2.trans e3).trans e4).trans e5).trans e6)
theorem ev_callSame {K : PySem.W.Frag} {σ : L2.St} {H : Hp} {ta tb : TE} {d : PyData} {E : XK} (h1 : EvD K ta σ H d) (h2 : EvD K tb σ H d) (hs : shOk d) : Ev (tCall (spSame K) [] E (tCons ta (tCons tb tNil))) σ H (.bl true) := fun H1 e Q q =>
  h1 H1 e _ fun v H2 e2 hv => h2 H2 (e.trans e2) _ fun u H3 e3 hu => ⟨v, u, d, rfl, hv.same e3, hu, hs, fun H4 e4 => q H4 ((e2.trans e3).trans e4)⟩
theorem ehN_call {K : PySem.W.Frag} {σ : L2.St} {H : Hp} {h : Addr → Bool} {sp : Sp} {vs : List V} {E : XK} {ta : TA} {d : PyData} (hh : Hd h H) (k : EvA ta σ H vs) (hs : ∀ H1, Ex H H1 → ∀ Q : VK, RetN K d H1 Q → sp (vs ++ []) H1 Q E) : EvH K h (tCall sp [] E ta) σ H d := fun H1 e Q q =>
  k H1 e _ fun H2 e2 => hs H2 (e.trans e2) Q fun v H3 e3 hd => q v H3 (e2.trans e3) (hd.same (hide_le fun b hb => by
    cases z : H2 b with
    | none => exact absurd z (hh.ex (e.trans e2) b hb)
    | some o => simp [domB, z]))
/-! ### the shown data are short -/
def shOkB (d : PyData) : Bool := d.showable && !d.hasDict && decide (d.depth ≤ 64) && decide (d.shown.length ≤ 10000)
theorem shOk_of {d : PyData} (h : shOkB d = true) : shOk d := by
  unfold shOkB at h
  rw [Bool.and_eq_true, Bool.and_eq_true, Bool.and_eq_true] at h
  exact ⟨h.1.1.1, by simpa using h.1.1.2, by simpa using h.1.2, Nat.le_trans (of_decide_eq_true h.2) (by decide)⟩
theorem sh_all : (List.range 5).all (fun r => (List.range 15).all fun i => shOkB (shD (shp r i))) = true := by decide +kernel
theorem sh_shape {r i : Nat} (hr : r ≤ 4) (hi : i ≤ 2 * r + 6) : shOk (shD (shp r i)) :=
  shOk_of (List.all_eq_true.mp (List.all_eq_true.mp sh_all r (List.mem_range.mpr (by omega))) i (List.mem_range.mpr (by omega)))
def optD : Option Nat → PyData
  | none => .none
  | some i => .int i
theorem opt_dp {K : PySem.W.Frag} {H : Hp} : ∀ o : Option Nat, Dp K H (optV o) (optD o)
  | none => .non
  | some i => .int i
theorem sh_opts : shOkB (.list [.none, .none]) = true ∧ (List.range 16).all (fun i => shOkB (.list [.int (i : Nat), .none]) && shOkB (.int (i : Nat)) && shOkB (.list [.int (i : Nat), .int 0, .int 0])) = true := by
  constructor <;> decide +kernel
theorem sh_opt {i : Nat} (h : i < 16) : shOk (.list [.int (i : Nat), .none]) ∧ shOk (.int (i : Nat)) ∧ shOk (.list [.int (i : Nat), .int 0, .int 0]) := by
  have := List.all_eq_true.mp sh_opts.2 i (List.mem_range.mpr h)
  rw [Bool.and_eq_true, Bool.and_eq_true] at this
  exact ⟨shOk_of this.1.1, shOk_of this.1.2, shOk_of this.2⟩
theorem shp_ok {r i : Nat} (h1 : 1 ≤ r) (h4 : r ≤ 4) : shOK (shp r i) := by
  have pw : ∀ e, e ≤ 6 → 1 ≤ 2 ^ e ∧ 2 ^ e ≤ 64 := fun e he => ⟨Nat.one_le_two_pow, by have := Nat.pow_le_pow_right (n := 2) (by decide) he; simpa using this⟩
  unfold shp
  split
  · split
    · exact ⟨by decide, by decide⟩
    · exact ⟨by decide, by decide⟩
  · split
    · have e : 4 * 2 ^ r = 2 ^ (r + 2) := by rw [Nat.pow_succ, Nat.pow_succ]; omega
      rw [e]
      have := pw (r + 2) (by omega)
      split
      · exact ⟨by decide, by decide, this.1, this.2⟩
      · exact ⟨by decide, by decide, this.1, this.2⟩
    · split
      · have := pw (r + 2 - (i / 2 - 2)) (by omega)
        exact ⟨by decide, by decide, this.1, this.2⟩
      · exact ⟨by decide, by decide, by decide, by decide⟩
/-! ### faults of the law's talks -/
section
variable {p : Int} {r : Nat} {ds : List PyData}
theorem flt_none (hl : ds.length = 2 * r + 7) (hf : ∀ j d, ds[j]? = some d → fitD p (shp r j) d = true) (m : Nat) : faultD p r (.tuple (ds.take m)) = none := faultL_all fun j d hj => by
  have h1 : ds[j]? = some d := by
    rw [List.getElem?_take] at hj
    split at hj
    · exact hj
    · cases hj
  have h2 := (List.getElem?_eq_some_iff.mp h1).1
  rw [Nat.zero_add, hf j d h1, decide_eq_false (by omega)]
  rfl
theorem flt_bent {i m : Nat} {e : PyData} (hl : ds.length = 2 * r + 7) (hf : ∀ j d, ds[j]? = some d → fitD p (shp r j) d = true) (hi : i < 2 * r + 7) (he : fitD p (shp r i) e = false) : faultD p r (.tuple ((ds.set i e).take m)) = if i < m then some i else none := by
  have key : ∀ j d, j ≠ i → ((ds.set i e).take m)[j]? = some d → (decide (2 * r + 6 < 0 + j) || !fitD p (shp r (0 + j)) d) = false := fun j d hn hj => by
    have h1 : ds[j]? = some d := by
      rw [List.getElem?_take] at hj
      split at hj
      · rwa [List.getElem?_set_ne (Ne.symm hn)] at hj
      · cases hj
    have h2 := (List.getElem?_eq_some_iff.mp h1).1
    rw [Nat.zero_add, hf j d h1, decide_eq_false (by omega)]
    rfl
  by_cases him : i < m
  · rw [if_pos him]
    have hj : ((ds.set i e).take m)[i]? = some e := by
      rw [List.getElem?_take, if_pos him, List.getElem?_set_self (by omega)]
    have := faultL_at (p := p) (r := r) (i := 0) (j := i) (fun j d hj' hd => key j d (by omega) hd) hj (by rw [Nat.zero_add, he]; simp)
    rwa [Nat.zero_add] at this
  · rw [if_neg him]
    refine faultL_all fun j d hd => key j d (fun z => ?_) hd
    have := (List.getElem?_eq_some_iff.mp hd).1
    rw [List.length_take] at this
    omega
theorem flt_full {i : Nat} {e : PyData} (hl : ds.length = 2 * r + 7) (hf : ∀ j d, ds[j]? = some d → fitD p (shp r j) d = true) (hi : i < 2 * r + 7) (he : fitD p (shp r i) e = false) : faultD p r (.tuple (ds.set i e)) = some i := by
  have := flt_bent (m := 2 * r + 7) hl hf hi he
  rwa [if_pos hi, List.take_of_length_le (by rw [List.length_set]; omega)] at this
theorem flt_ext {e : PyData} (hl : ds.length = 2 * r + 7) (hf : ∀ j d, ds[j]? = some d → fitD p (shp r j) d = true) : faultD p r (.tuple (ds ++ [e])) = some (2 * r + 7) := by
  have hj : (ds ++ [e])[2 * r + 7]? = some e := by
    rw [List.getElem?_append_right (by omega), hl, Nat.sub_self]
    rfl
  have := faultL_at (p := p) (r := r) (i := 0) (j := 2 * r + 7) (fun j d hj' hd => by
    rw [List.getElem?_append_left (by omega)] at hd
    rw [Nat.zero_add, hf j d hd, decide_eq_false (by omega)]
    rfl) hj (by rw [decide_eq_true (by omega)]; rfl)
  rwa [Nat.zero_add] at this
theorem sm2_tup {es : List PyData} (h : es.length ≤ 30000) (h2 : ∀ x ∈ es, sm1 x) : sm2 (.tuple es) := ⟨h, fun xs e x hx => by cases e; exact h2 x hx⟩
theorem sm2_oth {d : PyData} (h : ∀ es, d ≠ .tuple es) : sm2 d := ⟨by cases d <;> first | exact Nat.zero_le _ | exact absurd rfl (h _), fun es e => absurd e (h es)⟩
theorem set_cut {i : Nat} {e : PyData} (h : i < ds.length) : (cutD ds none (some (i : Int)) ++ [e]) ++ cutD ds (some ((i + 1 : Nat) : Int)) none = ds.set i e := by
  rw [cutD_to, cutD_from, List.set_eq_take_append_cons_drop, if_pos h, List.append_assoc]
  rfl
end
/-- the law's talk as it stands -/
structure PcS (K : PySem.W.Frag) (T : List (Addr × Str)) (a la ca : Addr) (pv : V) (ds : List PyData) (H : Hp) : Prop where
  d : Dr H a la ca
  t : Tabs T H
  v : Dp K (mask a la H) pv (.tuple ds)
section
variable {K : PySem.W.Frag} {T : List (Addr × Str)} {a la ca : Addr} {pv : V} {ds : List PyData} {H H' : Hp}
theorem PcS.ex (S : PcS K T a la ca pv ds H) (e : Ex H H') : PcS K T a la ca pv ds H' := ⟨S.d.ex e, Evl.Tabs.ex S.t e, S.v.same (show Same _ _ from mask_of e)⟩
theorem PcS.stp (S : PcS K T a la ca pv ds H) (s : Stp a la ca H H') : PcS K T a la ca pv ds H' := ⟨s.1, Tabs.stp S.t S.d s, S.v.same (show Same _ _ from s.2)⟩
theorem PcS.extN (S : PcS K T a la ca pv ds H) (e : ExtN H H') (t : Tabs T H') : PcS K T a la ca pv ds H' := ⟨S.d.extN e, t, S.v.extN (hide_extN e)⟩
/-- hidden: the draws and one list more -/
def hmD (a la D : Addr) (b : Addr) : Bool := hm a la b || decide (b = D)
theorem hmD_stp {D : Addr} (s : Stp a la ca H H') : Ex (hide (hmD a la D) H) (hide (hmD a la D) H') := fun b o q => by
  unfold hide at q ⊢
  split at q
  · cases q
  · rename_i hn
    rw [if_neg hn]
    have hn2 : ¬ hm a la b = true := fun z => hn (by unfold hmD; rw [z]; rfl)
    have : mask a la H b = some o := by
      unfold mask hide
      rw [if_neg hn2]
      exact q
    exact mask_ex b o (s.2 b o this)
theorem hmD_upd {D : Addr} {o : HO} : hide (hmD a la D) (upd H D o) = hide (hmD a la D) H := by
  funext b
  unfold hide
  by_cases h : b = D
  · subst h
    have : hmD a la b b = true := by unfold hmD; simp
    rw [if_pos this, if_pos this]
  · by_cases h2 : hmD a la D b = true
    · rw [if_pos h2, if_pos h2]
    · rw [if_neg h2, if_neg h2, upd_ne h]
theorem Dr.upd {D : Addr} {o : HO} (h : Dr H a la ca) (n1 : D ≠ a) (n2 : D ≠ la) (n3 : D ≠ ca) : Dr (upd H D o) a la ca := by
  obtain ⟨r, t, l, c, d⟩ := h
  exact ⟨r, t, l, c, (upd_ne n1.symm).trans d.d, (upd_ne n2.symm).trans d.l, (upd_ne n3.symm).trans d.c, d.ne⟩
theorem mask_at {b : Addr} (n1 : b ≠ a) (n2 : b ≠ la) : mask a la H b = H b := by
  unfold mask hide hm
  rw [if_neg (fun z => (of_decide_eq_true z).elim n1 n2)]
end
def spPcs (T : List (Addr × Str)) : Sp := fun vs H Q _ => ∃ a la ca p r, vs = [.ref a, .int p, .int (2 ^ r)] ∧ Lw p r ∧ Dr H a la ca ∧ Tabs T H ∧ ∀ H', Dr H' a la ca → Tabs T H' → Q (.bl true) H'
section
variable {P : Program} {w : World} {K : PySem.W.Frag} {mg : Str → Option Value} {base : Heap} {CN CF CT CJ fN fT aF aM fC c1 c2 P1 P2 : Addr} {fdC : FuncData}
abbrev s_law_pieces_right : Stmt := topS 48
theorem sc_law_pieces_right : FnScope ["draw", "p", "n", "last", "pieces", "at", "piece", "lap", "many", "odd", "bent", "due", "error"] ["draw", "p", "n"] (defScope s_law_pieces_right) := ⟨rfl, rfl, rfl, by decide +kernel, rfl, by decide +kernel, by decide +kernel⟩
theorem ok_law_pieces_right {f : Addr} {fd : FuncData} (F : FnP K "_law_pieces_right" s_law_pieces_right f fd) (B : Bf P K mg CN CF CT fN fT aF aM) (B2 : Bx K mg CN CF CT CJ fC fdC) (TB : TabB base mg c1 P1) (hcode : fd.code = .ref c1) (hP : P1 ≠ P2)
    (D1 : Dn P w K mg base CX0 1 "_law_rounds" ["n"] spRnd) (D2 : Dn P w K mg base (CX P w) 7 "piece_shape" ["p", "n", "at"] (spPShape K CN)) (D3 : Dn P w K mg base (CX P w) 7 "is_piece" ["p", "n", "at", "thing"] (spPiece K CN)) (kb : KBinds K D3.fd ["p", "n", "at", "thing"] ["n", "at", "thing"] kbg kbg)
    (D4 : Dn P w K mg base (CX P w) 7 "pieces_fault" ["p", "n", "pieces"] (spPFault K CN)) (D5 : Dn P w K mg base (CX P w) 8 "is_whole" ["p", "n", "pieces"] (spWhole K CF CT)) (D6 : Dn P w K mg base CX0 3 "_law_piece" ["draw", "p", "shape"] (spLPiece K)) (D7 : Dn P w K mg base CX0 2 "_law_shape" ["n", "at"] (spLSh K))
    (D8 : DnG P w K mg base 1 "_law_same" ["told", "due"] (spSame K)) (D9 : Dn P w K mg base CX0 2 "_law_take" ["draw", "size"] spTake) (D10 : Dn P w K mg base CX0 4 "_law_odd" ["draw", "p", "piece"] (spOdd K)) : FnG P w K mg base 11 f fd ["draw", "p", "n"] (spPcs (lamT P1 P2)) := by
  have hmT : (P1, ("_law_pieces_right" : Str) ++ ".<locals>." ++ "<lambda>") ∈ lamT P1 P2 := .head _
  have hu : ∀ p ∈ lamT P1 P2, p.1 = P1 → p.2 = ("_law_pieces_right" : Str) ++ ".<locals>." ++ "<lambda>" := fun p hp e => by
    rcases List.mem_cons.mp hp with rfl | hp
    · rfl
    · rcases List.mem_cons.mp hp with rfl | hp
      · exact absurd e.symm hP
      · cases hp
  refine F.okC sc_law_pieces_right (fun vs H Q E h => ?_) (fun A outer s H vs Q E hG hr h => ⟨_, (PSs.nox (pss_cons (ps_set (i := 3) sc_law_pieces_right.nd rfl (.inl rfl) (pe_op op_add pe_int (pe_op op_mul pe_int (pe_d D1 hr (by decide) (pa_cons (pv 2) pa_nil)))))
      (pss_cons (ps_set (i := 4) sc_law_pieces_right.nd rfl (.inl rfl) (pe_callTy call_tuple_of (by rfl) B.tuple (by decide +kernel) (pa_cons (pe_lc (own := [("at", 5)]) (by rfl) sc_law_pieces_right.nd (pi_range1 (by rfl) B.range (pa_cons (pe_op op_add (pv 3) pe_int) pa_nil)) (blkOk_by (own := [("at", 5)]) (by kernel_rfl)) (fun _ _ _ _ _ => pg_name (i := 5) sc_law_pieces_right.nd rfl (.inl rfl)) (fun _ _ _ _ _ => pts_nil) (fun _ _ _ _ _ => (pe_d D6 hr (by decide) (pa_cons (pv 0) (pa_cons (pv 1) (pa_cons (pe_d D7 hr (by decide) (pa_cons (pv 2) (pa_cons (pv 5) pa_nil))) pa_nil)))))) pa_nil)))
      (pss_cons (ps_for PassesOwn.never rfl (pi_enumT (by rfl) B.enumerate (pa_cons (pv 4) pa_nil)) (pg_tup rfl (pgs_cons (pg_name (i := 5) sc_law_pieces_right.nd rfl (.inl rfl)) (pgs_cons (pg_name (i := 6) sc_law_pieces_right.nd rfl (.inl rfl)) pgs_nil)))
        (pss_one (ps_if (PW.pt (pw_or (pt_not (pt_val (pe_dG D8 hG hr (by decide) (pa_cons (pe_dN D2 hr (by decide) (pa_cons (pv 1) (pa_cons (pv 2) (pa_cons (pv 5) pa_nil)))) (pa_cons (pe_d D7 hr (by decide) (pa_cons (pv 2) (pa_cons (pv 5) pa_nil))) pa_nil))))) (pw_or1 (pt_cmpR op_notBl (pe_dN D3 hr (by decide) (pa_cons (pv 1) (pa_cons (pv 2) (pa_cons (pv 5) (pa_cons (pv 6) pa_nil))))) pe_bl (nomark _))))) (pss_one (ps_ret pe_bl)) pss_nil)))
      (pss_cons (ps_for PassesOwn.never rfl (pi_range1 (by rfl) B.range (pa_cons pe_int pa_nil)) (pg_name (i := 7) sc_law_pieces_right.nd rfl (.inl rfl))
        (pss_cons (ps_par (i := 5) (j := 8) (by rfl) sc_law_pieces_right.nd rfl rfl (by decide) rfl rfl (pa_cons (pe_d D9 hr (by decide) (pa_cons (pv 0) (pa_cons (pe_op op_add (pv 3) pe_int) pa_nil))) (pa_cons (pe_d D9 hr (by decide) (pa_cons (pv 0) (pa_cons (pe_op op_add (pv 3) pe_int) pa_nil))) pa_nil)) (by rfl))
        (pss_cons (ps_set (i := 9) sc_law_pieces_right.nd rfl (.inl rfl) (pe_d D10 hr (by decide) (pa_cons (pv 0) (pa_cons (pv 1) (pa_cons (pe_ix ix_tup (pv 4) (pv 5) (fun _ _ => rfl)) pa_nil)))))
        (pss_cons (ps_if (PW.pt (pw_or (pt_cmpR op_notBl (pe_dN D3 hr (by decide) (pa_cons (pv 1) (pa_cons (pv 2) (pa_cons (pv 5) (pa_cons (pv 9) pa_nil))))) pe_bl (nomark _)) (pw_or1 (pt_cmpR op_notBl (pe_callK (E := E0) D3.ok (hr.mono (by decide)) (by rfl) D3.g D3.kp kb passL (pa_cons (pv 1) pa_nil) (pk_cons (pv 2) (pk_cons (pv 5) (pk_cons (pe_ix ix_tup (pv 4) (pv 5) (fun _ _ => rfl)) pk_nil)))) pe_bl (nomark _))))) (pss_one (ps_ret pe_bl)) pss_nil)
        (pss_cons (ps_set (i := 10) sc_law_pieces_right.nd rfl (.inr rfl) (pe_op op_catA (pe_op op_catA (pe_slice sl_tupA (pv 4) po_none (po_some (pv 5))) (pe_tup (pa_cons (pv 9) pa_nil))) (pe_slice sl_tupA (pv 4) (po_some (pe_op op_add (pv 5) pe_int)) po_none)))
        (pss_cons (ps_set (i := 11) sc_law_pieces_right.nd rfl (.inl rfl) (pe_ifExp (pt_cmpR op_lt (pv 5) (pv 8) (nomark _)) (pv 5) pe_non))
        (pss_cons (ps_if (pt_not (pt_val (pe_dG D8 hG hr (by decide) (pa_cons (pe_lst (pa_cons (pe_dN D4 hr (by decide) (pa_cons (pv 1) (pa_cons (pv 2) (pa_cons (pe_slice sl_tupA (pv 10) po_none (po_some (pv 8))) pa_nil)))) (pa_cons (pe_dN D4 hr (by decide) (pa_cons (pv 1) (pa_cons (pv 2) (pa_cons (pe_slice sl_tupA (pv 4) po_none (po_some (pv 8))) pa_nil)))) pa_nil))) (pa_cons (pe_lst (pa_cons (pv 11) (pa_cons pe_non pa_nil))) pa_nil))))) (pss_one (ps_ret pe_bl)) pss_nil)
        (pss_cons (ps_if (pt_ifExp (pt_cmpR op_eq (pv 8) (pe_op op_add (pv 3) pe_int) (nomark _)) (pt_cmpR op_notBl (pe_dN D5 hr (by decide) (pa_cons (pv 1) (pa_cons (pv 2) (pa_cons (pe_slice sl_tupA (pv 4) po_none (po_some (pv 8))) pa_nil)))) pe_bl (nomark _)) (pt_cmpR op_notBl (pe_dN D5 hr (by decide) (pa_cons (pv 1) (pa_cons (pv 2) (pa_cons (pe_slice sl_tupA (pv 4) po_none (po_some (pv 8))) pa_nil)))) pe_bl (nomark _))) (pss_one (ps_ret pe_bl)) pss_nil)
        (pss_cons (ps_set (i := 12) sc_law_pieces_right.nd rfl (.inl rfl) (pe_caught (k := 8) (t := fun E => tCall (spWhole K CF CT) [] E (tCons (tVar 1) (tCons (tVar 2) (tCons (tVar 10) tNil)))) B2 TB hcode hmT hu hr (fun A outer s H E f c' hr' => pe_dX D5 (takes_of rfl rfl rfl rfl) (fun _ _ _ _ h => h) hr' (by decide) (pa_cons (pv 1) (pa_cons (pv 2) (pa_cons (pv 10) pa_nil)))) (by rfl) (lamS_by (by kernel_rfl)) rfl (fun _ _ _ _ _ => rfl)))
        (pss_one (ps_if (PW.pt (pw_or (pt_not (pt_val (pe_callB call_isK (by rfl) B.isi (by decide +kernel) (pa_cons (pv 12) (pa_cons (pe_glob (v := .ref CT) (by rfl) B2.gT rfl) pa_nil))))) (pw_or1 (pt_not (pt_val (pe_dG D8 hG hr (by decide) (pa_cons (pe_xk (pv 12)) (pa_cons (pv 5) pa_nil)))))))) (pss_one (ps_ret pe_bl)) pss_nil)))))))))))
      (pss_one (ps_ret (pe_dG D8 hG hr (by decide) (pa_cons (pe_lst (pa_cons (pe_dN D4 hr (by decide) (pa_cons (pv 1) (pa_cons (pv 2) (pa_cons (pe_op op_catA (pv 4) (pe_tup (pa_cons (pe_ix ix_tup (pv 4) pe_int (fun _ _ => rfl)) pa_nil))) pa_nil)))) (pa_cons (pe_dN D4 hr (by decide) (pa_cons (pv 1) (pa_cons (pv 2) (pa_cons (pe_callTy call_list_of (by rfl) B.list (by decide +kernel) (pa_cons (pv 4) pa_nil)) pa_nil)))) (pa_cons (pe_dN D4 hr (by decide) (pa_cons (pv 1) (pa_cons (pv 2) (pa_cons pe_non pa_nil)))) pa_nil)))) (pa_cons (pe_lst (pa_cons (pe_op op_add (pv 3) pe_int) (pa_cons pe_int (pa_cons pe_int pa_nil)))) pa_nil)))))))))), ?_⟩)
  · obtain ⟨a, la, ca, p, r, rfl, _⟩ := h
    rfl
  · obtain ⟨a, la, ca, p, r, rfl, hL, hDr, hT, q⟩ := h
    obtain ⟨k, hF, h1, h2, h4, hk7, hp0, hp1⟩ := hL.fld
    refine q_asg (v := .int ((2 * r + 6 : Nat) : Int)) (Evl.ev_is (ev_op ev_c (ev_op ev_c (ev_call (ea_cons (ev_var rfl) ea_nil) (SpV.of fun H1 e Q q E => ⟨r, rfl, q⟩)) (rv_I (.inl (by decide)))) rv_I0) ?_) fun H0 e0 => ?_
    · show V.int (4 + 2 * (1 + (r : Int))) = _
      rw [show (4 + 2 * (1 + (r : Int))) = ((2 * r + 6 : Nat) : Int) by omega]
    have T0 : Tabs (lamT P1 P2) H0 := Evl.Tabs.ex hT e0
    have D0 := hDr.ex e0
    refine x_asg (x_cb (x_cons (x_lcR1 (n := 2 * r + 7) (ea_cons (Evl.ev_is (ev_op (ev_var rfl) ev_c rv_I0) (by
      show V.int (((2 * r + 6 : Nat) : Int) + 1) = _
      rw [show (((2 * r + 6 : Nat) : Int) + 1) = ((2 * r + 7 : Nat) : Int) by omega])) ea_nil) (by omega) fun H1 e1 D hD => ?_)))
    have D1' := D0.ex e1
    have T1' := Evl.Tabs.ex T0 e1
    have nD : D ≠ a ∧ D ≠ la ∧ D ≠ ca := by
      obtain ⟨r0, t0, l0, c0, d0⟩ := D1'
      refine ⟨fun z => ?_, fun z => ?_, fun z => ?_⟩
      · rw [z, d0.d] at hD; cases hD
      · rw [z, d0.l] at hD; cases hD
      · rw [z, d0.c] at hD; cases hD
    refine ⟨fun i H' => Dr H' a la ca ∧ Tabs (lamT P1 P2) H' ∧ ∃ acc ds, H' D = some (.lst acc) ∧ ds.length = i ∧ DpAll K (hide (hmD a la D) H') acc ds ∧ ∀ j d, ds[j]? = some d → fitD p (shp r j) d = true,
      ⟨D1'.ex (Ex.new hD), Evl.Tabs.ex T1' (Ex.new hD), [], [], upd_same, rfl, .nil, fun j d hd => by cases hd⟩, ?_, ?_⟩
    · rintro i H' hi ⟨dr, tb, acc, ds, hD1, hl, ha, hf⟩
      refine ⟨rfl, ?_⟩
      refine x_callH3 (h := hm a la) (d := shD (shp r i)) (ev_var rfl) (ev_var rfl) (ehN_call dr.hd (ea_cons (ev_var rfl) (ea_cons (ev_var (v := .int (i : Int)) rfl) ea_nil)) fun H2 e Q q => ⟨r, i, rfl, h4, by omega, q⟩) fun sv H2 e2 hs => ⟨a, la, ca, p, sv, shp r i, rfl, dr.ex e2, hs, shp_ok h1 h4, hp0, hp1, fun y d H4 hfd hyd st => ?_⟩
      have hDm : mask a la H2 D = some (.lst acc) := by
        rw [mask_at nD.1 nD.2.1]
        exact e2 _ _ hD1
      have hD4 : H4 D = some (.lst acc) := mask_ex D _ (st.2 D _ hDm)
      refine ⟨acc, hD4, by rw [ha.length, hl]; exact sz_lt (by omega), Dr.upd st.1 nD.1 nD.2.1 nD.2.2, Evl.Tabs.upd (Tabs.stp (Evl.Tabs.ex tb e2) (dr.ex e2) st) hD4, acc ++ [y], ds ++ [d], upd_same, by simp [hl], ?_, ?_⟩
      · rw [hmD_upd]
        refine (ha.same (show Same _ _ from (hide_of e2).trans (hmD_stp st))).append (.cons (hyd.same (show Same _ _ from hide_le fun b hb => ?_)) .nil)
        unfold hmD at hb
        rw [Bool.or_eq_true] at hb
        cases z : H2 b with
        | some o => simp [domB, z]
        | none =>
          rcases hb with hb | hb
          · exact absurd z ((dr.ex e2).hd b hb)
          · have hb' : b = D := of_decide_eq_true hb
            rw [hb', e2 _ _ hD1] at z
            cases z
      · intro j d' hj
        by_cases hjl : j < ds.length
        · rw [List.getElem?_append_left hjl] at hj
          exact hf j d' hj
        · rw [List.getElem?_append_right (by omega)] at hj
          have hj0 : j = ds.length := by
            cases hz : j - ds.length with
            | zero => omega
            | succ n => rw [hz] at hj; cases hj
          rw [hj0, Nat.sub_self] at hj
          cases hj
          rw [hj0, hl]
          exact hfd
    rintro H2 ⟨dr, tb, acc, ds, hD1, hlen, ha, hf⟩
    refine ⟨D, acc, rfl, .inl ⟨sq_of hD1, fun l hl => ?_⟩⟩
    have S : PcS K (lamT P1 P2) a la ca (.ref l) ds (upd H2 l (.tup acc)) := ⟨dr.ex (Ex.new hl), Evl.Tabs.ex tb (Ex.new hl), .tup (.inl (.inl (hide_at dr.hd hl upd_same))) (ha.same (show Same _ _ from (hide_le (fun b hb => by unfold hmD; rw [hb]; rfl)).trans (hide_of (Ex.new hl))))⟩
    generalize upd H2 l (.tup acc) = H3 at S
    generalize V.ref l = pv at S
    have hsm : ∀ x ∈ ds, sm1 x := fun x hx => by
      obtain ⟨j, hj⟩ := List.mem_iff_getElem?.mp hx
      exact sm1_fit (shp_ok h1 h4) (hf j x hj)
    have smT : ∀ es : List PyData, es.length ≤ 100 → (∀ x ∈ es, x ∈ ds) → sm2 (.tuple es) := fun es hl hx => sm2_tup (by omega) fun x h => hsm x (hx x h)
    refine q_forE (ev_var rfl) (S.v.same (show Same _ _ from mask_ex)) (fun i σ' H' => (∃ x5 x6, σ' = [some (.ref a), some (.int p), some (.int (2 ^ r)), some (.int ((2 * r + 6 : Nat) : Int)), some pv, x5, x6, none, none, none, none, none, none]) ∧ Ex H3 H') (fun H1 e1 => ⟨⟨none, none, rfl⟩, e1⟩) (fun i σ' H' h => h.2) ?_ ?_
    · rintro i d y σ' H' hi ⟨⟨x5, x6, rfl⟩, e1⟩ H4 e2 hy
      have hil : i < ds.length := (List.getElem?_eq_some_iff.mp hi).1
      have hi6 : i ≤ 2 * r + 6 := by omega
      refine s_when (b := false) (et_is (et_or (et_not (et_B (ev_callSame (d := shD (shp r i)) (ed_call (ea_cons (ev_var rfl) (ea_cons (ev_var rfl) (ea_cons (ev_var (v := .int (i : Int)) rfl) ea_nil))) fun H1 e Q q => ⟨p, k, r, .int (i : Int), .int (i : Int), rfl, hF, h1, h2, .int _, (fun z => by rw [bet_ok hi6] at z; cases z), fun i' e' _ => by
          obtain rfl : i = i' := by
            injection e' with e'
            omega
          exact q⟩) (ed_ofH (h := fun _ => false) (ehN_call (fun b hb => by cases hb) (ea_cons (ev_var rfl) (ea_cons (ev_var (v := .int (i : Int)) rfl) ea_nil)) fun H2 e Q q => ⟨r, i, rfl, h4, hi6, q⟩)) (sh_shape h4 hi6)))) fun _ =>
        et_test (ev_op (ev_callD4 (w := .bl true) (ev_var rfl) (ev_var rfl) (ev_var (v := .int (i : Int)) rfl) (evD_of (ev_var (v := y) rfl) hy) fun v H1 e1 hv Q q => ⟨p, k, r, .int (i : Int), .int (i : Int), v, d, rfl, hF, h1, h2, .int _, hv, hsm d (List.mem_of_getElem? hi), (fun z => by rw [bet_ok hi6] at z; cases z), fun i' e' _ => by
          obtain rfl : i = i' := by
            injection e' with e'
            omega
          rw [hf i d hi]
          exact q⟩) ev_c rv_notB)) (by decide)) (fun z => by cases z) fun _ H5 e5 => ⟨⟨_, _, rfl⟩, (e1.trans e2).trans e5⟩
    rintro σ' H4 ⟨⟨x5, x6, rfl⟩, e4⟩
    refine q_forR1 (n := 6) (ea_cons ev_c ea_nil) ⟨by decide, by decide⟩ (fun i σ' H' => (∃ x5 x6 x7 x8 x9 x10 x11 x12, σ' = [some (.ref a), some (.int p), some (.int (2 ^ r)), some (.int ((2 * r + 6 : Nat) : Int)), some pv, x5, x6, x7, x8, x9, x10, x11, x12]) ∧ PcS K (lamT P1 P2) a la ca pv ds H') (fun H1 e1 => ⟨⟨_, _, _, _, _, _, _, _, rfl⟩, S.ex (e4.trans e1)⟩) ?_ ?_
    · rintro i0 σ' H' _ ⟨⟨x5, x6, x7, x8, x9, x10, x11, x12, rfl⟩, S⟩
      refine x_par (x_cons (x_call (ea_cons (ev_var rfl) (ea_cons (ev_op (ev_var rfl) ev_c rv_I0) ea_nil)) fun H1 e1 => ⟨a, la, ca, _, rfl, S.d.ex e1, by omega, by omega, fun at0 H2 b1 b2 st1 => ?_⟩))
      have S2 := (S.ex e1).stp st1
      refine x_cons (x_call (ea_cons (ev_var rfl) (ea_cons (ev_op (ev_var rfl) ev_c rv_I0) ea_nil)) fun H3 e3 => ⟨a, la, ca, _, rfl, S2.d.ex e3, by omega, by omega, fun many0 H4 b3 b4 st2 => ?_⟩)
      have S4 := (S2.ex e3).stp st2
      refine x_nil ⟨_, _, rfl, ?_⟩
      obtain ⟨i, rfl⟩ : ∃ i : Nat, at0 = i := ⟨at0.toNat, by omega⟩
      obtain ⟨m, rfl⟩ : ∃ m : Nat, many0 = m := ⟨many0.toNat, by omega⟩
      have hi : i < 2 * r + 7 := by omega
      have hm' : m < 2 * r + 8 := by omega
      have hi6 : i ≤ 2 * r + 6 := by omega
      obtain ⟨d, hdi⟩ : ∃ d, ds[i]? = some d := ⟨ds[i]'(by omega), List.getElem?_eq_getElem (by omega)⟩
      have hfd := hf i d hdi
      refine x_asg (x_callH3 (ev_var rfl) (ev_var rfl) (eh_ix (eh_of (ev_var rfl) S4.v) (ev_var (v := .int (i : Int)) rfl) hdi) fun dv H5 e5 hdv => ⟨a, la, ca, p, dv, d, shp r i, rfl, S4.d.ex e5, hdv, shp_ok h1 h4, hfd, hp0, hp1, fun ov e H6 hbad hsme hov st3 => ?_⟩)
      have S6 := (S4.ex e5).stp st3
      have S6v := S6.v.same (show Same _ _ from mask_ex)
      refine q_when (b := false) (et_is (et_or (et_test (ev_op (ev_callD4 (w := .bl false) (ev_var rfl) (ev_var rfl) (ev_var (v := .int (i : Int)) rfl) (evD_of (ev_var (v := ov) rfl) (hov.same (show Same _ _ from mask_ex))) fun v H1 e1 hv Q q => ⟨p, k, r, .int (i : Int), .int (i : Int), v, e, rfl, hF, h1, h2, .int _, hv, hsme, (fun z => by rw [bet_ok hi6] at z; cases z), fun i' e' _ => by
          obtain rfl : i = i' := by
            injection e' with e'
            omega
          rw [hbad]
          exact q⟩) ev_c rv_notB)) fun _ => et_test (ev_op (ev_callK4 (w := .bl true) (ev_var rfl) (ev_var rfl) (ev_var (v := .int (i : Int)) rfl) (ed_ofH (eh_ix (eh_of (ev_var rfl) S6.v) (ev_var (v := .int (i : Int)) rfl) hdi)) fun v H1 e1 hv Q q => ⟨p, k, r, .int (i : Int), .int (i : Int), v, d, rfl, hF, h1, h2, .int _, hv, hsm d (List.mem_of_getElem? hdi), (fun z => by rw [bet_ok hi6] at z; cases z), fun i' e' _ => by
          obtain rfl : i = i' := by
            injection e' with e'
            omega
          rw [hfd]
          exact q⟩) ev_c rv_notB)) (by decide)) (fun z => by cases z) fun _ H7 e7 => ?_
      have S7 := S6.ex e7
      have hh7 := S7.d.hd
      have hov7 := hov.same (show Same _ _ from mask_of e7)
      have hbent : EvH K (hm a la) (tOp (rCatA K) (tOp (rCatA K) (tSl (rSlA K) (tVar 4) tNoPart (tPart (tVar 5))) (tTup (tCons (tVar 9) tNil))) (tSl (rSlA K) (tVar 4) (tPart (tOp (rI0 fun i j => .int (i + j)) (tVar 5) (tC (.int 1)))) tNoPart)) [some (.ref a), some (.int p), some (.int (2 ^ r)), some (.int ((2 * r + 6 : Nat) : Int)), some pv, some (.int (i : Int)), x6, some (.int (i0 : Int)), some (.int (m : Int)), some ov, x10, x11, x12] H7 (.tuple (ds.set i e)) := by
        have A1 := eh_sl (K := K) (h := hm a la) (lo := none) (hi := some (i : Int)) (σ := [some (.ref a), some (.int p), some (.int (2 ^ r)), some (.int ((2 * r + 6 : Nat) : Int)), some pv, some (.int (i : Int)), x6, some (.int (i0 : Int)), some (.int (m : Int)), some ov, x10, x11, x12]) hh7 (eh_of (ev_var (i := 4) rfl) S7.v) eo_none (eo_some (ev_var (i := 5) rfl))
        have A2 := eh_sl (K := K) (h := hm a la) (lo := some ((i + 1 : Nat) : Int)) (hi := none) (σ := [some (.ref a), some (.int p), some (.int (2 ^ r)), some (.int ((2 * r + 6 : Nat) : Int)), some pv, some (.int (i : Int)), x6, some (.int (i0 : Int)), some (.int (m : Int)), some ov, x10, x11, x12]) hh7 (eh_of (ev_var (i := 4) rfl) S7.v) (eo_some (Evl.ev_is (ev_op (ev_var (v := .int (i : Int)) (i := 5) rfl) (ev_c (v := .int 1)) (rv_I0 (g := fun i j => .int (i + j)))) (by rw [show ((i : Int) + 1) = ((i + 1 : Nat) : Int) by omega]))) eo_none
        have := eh_cat (K := K) hh7 (eh_cat hh7 A1 (eh_tup hh7 (ehs_cons (eh_of (ev_var (v := ov) (i := 9) rfl) hov7) ehs_nil) (by simp)) (by rw [cutD_to]; simp; omega)) A2 (by rw [cutD_to, cutD_from]; simp; omega)
        rwa [set_cut (by omega)] at this
      refine q_asgH hbent fun bv H8 e8 hb8 => ?_
      have S8 := S7.ex e8
      refine q_asg (v := optV (if i < m then some i else none)) (ev_if (et_is (et_test (ev_op (ev_var (v := .int (i : Int)) rfl) (ev_var (v := .int (m : Int)) rfl) rv_I0)) (lt_int_nat i m)) (fun h => ?_) (fun h => ?_)) fun H9 e9 => ?_
      · rw [if_pos (by simpa using h)]
        exact ev_var rfl
      · rw [if_neg (by simpa using h)]
        exact ev_c
      have S9 := S8.ex e9
      have hb9 := hb8.same (show Same _ _ from mask_of e9)
      have smB : ∀ es : List PyData, es.length ≤ 100 → (∀ x ∈ es, x ∈ ds.set i e) → sm2 (.tuple es) := fun es hl hx => sm2_tup (by omega) fun x h => by
        rcases List.mem_or_eq_of_mem_set (hx x h) with h | rfl
        · exact hsm x h
        · exact hsme
      have hsl : ∀ {σ : L2.St} {H : Hp} {j : Nat} {v : V} {es : List PyData}, σ[j]? = some (some v) → σ[8]? = some (some (.int (m : Int))) → Hd (hm a la) H → Dp K (mask a la H) v (.tuple es) → EvD K (tSl (rSlA K) (tVar j) tNoPart (tPart (tVar 8))) σ H (.tuple (es.take m)) := fun {σ H j v es} g1 g2 g3 g4 => by
        have := eh_sl (K := K) (h := hm a la) (lo := none) (hi := some (m : Int)) g3 (eh_of (ev_var g1) g4) eo_none (eo_some (ev_var g2))
        rw [cutD_to] at this
        exact ed_ofH this
      have hdue : (if i < m then some i else none) = none ∨ (if i < m then some i else none) = some i := by
        by_cases h : i < m
        · rw [if_pos h]; exact .inr rfl
        · rw [if_neg h]; exact .inl rfl
      have hsh : shOk (.list [optD (if i < m then some i else none), .none]) := by
        rcases hdue with h | h <;> rw [h]
        · exact shOk_of sh_opts.1
        · exact (sh_opt (by omega)).1
      refine q_when (b := false) (et_is (et_not (et_B (ev_callSame (d := .list [optD (if i < m then some i else none), .none]) (ed_lst (el_lst (ea_cons (ev_callD3 (z := optV (if i < m then some i else none)) (ev_var rfl) (ev_var rfl) (hsl (v := bv) rfl rfl S9.d.hd hb9) fun v H1 e1 hv Q q => ⟨p, k, .int (2 ^ r), .int (2 ^ r), v, _, rfl, hF, .int _, hv, .inr ⟨r, rfl, h1, h2, smB _ (by rw [List.length_take, List.length_set]; omega) (fun x hx => List.mem_of_mem_take hx), by rw [flt_bent hlen hf hi hbad]; exact q⟩⟩)
          (ea_cons (ev_callD3 (z := .non) (ev_var rfl) (ev_var rfl) (hsl (v := pv) rfl rfl S9.d.hd S9.v) fun v H1 e1 hv Q q => ⟨p, k, .int (2 ^ r), .int (2 ^ r), v, _, rfl, hF, .int _, hv, .inr ⟨r, rfl, h1, h2, smT _ (by rw [List.length_take]; omega) (fun x hx => List.mem_of_mem_take hx), by rw [flt_none hlen hf]; exact q⟩⟩) ea_nil)) (by simp)) fun _ => .cons (opt_dp _) (.cons .non .nil))
          (ed_lst (el_lst (ea_cons (ev_var rfl) (ea_cons ev_c ea_nil)) (by simp)) fun _ => .cons (opt_dp _) (.cons .non .nil)) hsh))) rfl) (fun z => by cases z) fun _ H10 e10 => ?_
      have S10 := S9.ex e10
      have hb10 := hb9.same (show Same _ _ from mask_of e10)
      have wholeP : ∀ {b : Bool}, ((ds.take m).length == 2 * r + 7) = b → ∀ v H1, Ex H10 H1 → Dp K H1 v (.tuple (ds.take m)) → ∀ Q : VK, RetV (.bl b) H1 Q → ∀ E : XK, spWhole K CF CT [.int p, .int (2 ^ r), v] H1 Q E := fun {b} hb v H1 e1 hv Q q E => ⟨p, 2 ^ r, v, _, rfl, hv, .inr ⟨k, r, rfl, hF, h1, h2, smT _ (by rw [List.length_take]; omega) (fun x hx => List.mem_of_mem_take hx), (fun i hi => by rw [flt_none hlen hf] at hi; cases hi), fun _ => by
        rw [show lenD (.tuple (ds.take m)) = (ds.take m).length from rfl, hb]
        exact q⟩⟩
      have hml : decide (V.int (m : Int) = V.int (((2 * r + 6 : Nat) : Int) + 1)) = decide (m = 2 * r + 7) := by
        rw [show (((2 * r + 6 : Nat) : Int) + 1) = ((2 * r + 7 : Nat) : Int) by omega]
        exact eq_int_nat m (2 * r + 7)
      refine q_when (b := false) (et_if (et_is (et_test (ev_op (ev_var (v := .int (m : Int)) rfl) (ev_op (ev_var rfl) ev_c rv_I0) (rv_eq rfl))) hml) (fun h => et_is (et_test (ev_op (ev_callD3 (z := .bl true) (ev_var rfl) (ev_var rfl) (hsl (v := pv) rfl rfl S10.d.hd S10.v) fun v H1 e1 hv Q q => wholeP (by
          have : m = 2 * r + 7 := by simpa using h
          rw [List.length_take, hlen, this, Nat.min_self, beq_self_eq_true]) v H1 e1 hv Q q _) ev_c rv_notB)) (by decide))
        (fun h => et_is (et_test (ev_op (ev_callD3 (z := .bl false) (ev_var rfl) (ev_var rfl) (hsl (v := pv) rfl rfl S10.d.hd S10.v) fun v H1 e1 hv Q q => wholeP (by
          have : ¬ m = 2 * r + 7 := by simpa using h
          rw [List.length_take, hlen]
          exact beq_false_of_ne (by omega)) v H1 e1 hv Q q _) ev_c rv_notB)) (by decide))) (fun z => by cases z) fun _ H11 e11 => ?_
      have S11 := S10.ex e11
      have hb11 := hb10.same (show Same _ _ from mask_of e11)
      refine x_asg (x_lam S11.t fun H12 n12 T12 => x_call (ea_cons (ev_var rfl) (ea_cons (ev_var rfl) (ea_cons (ev_var (v := bv) rfl) ea_nil))) fun H13 e13 => ⟨p, 2 ^ r, bv, .tuple (ds.set i e), rfl, ((hb11.extN (hide_extN n12)).same (show Same _ _ from mask_of e13)).same (show Same _ _ from mask_ex), .inr ⟨k, r, rfl, hF, h1, h2, smB _ (by rw [List.length_set]; omega) (fun x hx => hx), fun i' hi' => ?_, fun hn => by rw [flt_full hlen hf hi hbad] at hn; cases hn⟩⟩)
      rw [flt_full hlen hf hi hbad] at hi'
      cases hi'
      refine kpd_thr B2.eT fun ax dd H14 e14 k1 => ?_
      have S14 := ((S11.extN n12 T12).ex e13).ex e14
      exact s_when (b := false) (et_is (et_or (et_not (et_B (ev_isK (ev_var rfl) ev_c B2.kT k1.a k1.d B2.iT))) fun _ => et_not (et_B (ev_callSame (d := .int (i : Int)) (evD_of (ev_xk (ev_var rfl) B2.xT B2.fT k1.a k1.d Kpd.lk) (.int _)) (evD_of (ev_var (v := .int (i : Int)) rfl) (.int _)) (sh_opt (by omega)).2.1))) (by decide)) (fun z => by cases z) fun _ H15 e15 => ⟨⟨_, _, _, _, _, _, _, _, rfl⟩, S14.ex e15⟩
    · rintro σ' H5 ⟨⟨x5, x6, x7, x8, x9, x10, x11, x12, rfl⟩, S⟩
      have hh := S.d.hd
      obtain ⟨d1, hd1⟩ : ∃ d, ds[1]? = some d := ⟨ds[1]'(by omega), List.getElem?_eq_getElem (by omega)⟩
      have hd1m := List.mem_of_getElem? hd1
      refine s_ret (ev_callSame (d := .list [.int ((2 * r + 7 : Nat) : Int), .int 0, .int 0])
        (ed_lst (vs := [.int ((2 * r + 7 : Nat) : Int), .int 0, .int 0]) (el_lst (ea_cons (ev_callD3 (ev_var rfl) (ev_var rfl) (ed_ofH (eh_cat hh (eh_of (ev_var rfl) S.v) (eh_tup hh (ehs_cons (eh_ix (eh_of (ev_var rfl) S.v) (ev_c (v := .int ((1 : Nat) : Int))) hd1) ehs_nil) (by simp)) (by simp; omega))) fun v H1 e1 hv Q q => ⟨p, k, .int (2 ^ r), .int (2 ^ r), v, _, rfl, hF, .int _, hv, .inr ⟨r, rfl, h1, h2, smT _ (by simp; omega) (fun x hx => by
            rcases List.mem_append.mp hx with hx | hx
            · exact hx
            · rw [List.mem_singleton.mp hx]; exact hd1m), by rw [flt_ext hlen hf]; exact q⟩⟩)
          (ea_cons (ev_callD3 (z := .int 0) (ev_var rfl) (ev_var rfl) (ed_ofH (eh_list hh (eh_of (ev_var rfl) S.v))) fun v H1 e1 hv Q q => ⟨p, k, .int (2 ^ r), .int (2 ^ r), v, _, rfl, hF, .int _, hv, .inr ⟨r, rfl, h1, h2, sm2_oth (fun es z => by cases z), q⟩⟩)
          (ea_cons (ev_callD3 (z := .int 0) (ev_var rfl) (ev_var rfl) (ed_ofH (h := hm a la) (eh_non ev_c)) fun v H1 e1 hv Q q => ⟨p, k, .int (2 ^ r), .int (2 ^ r), v, _, rfl, hF, .int _, hv, .inr ⟨r, rfl, h1, h2, sm2_oth (fun es z => by cases z), q⟩⟩) ea_nil))) (by simp)) fun _ => .cons (.int _) (.cons (.int _) (.cons (.int _) .nil)))
        (ed_lst (vs := [.int ((2 * r + 7 : Nat) : Int), .int 0, .int 0]) (el_lst (ea_cons (Evl.ev_is (ev_op (ev_var rfl) ev_c rv_I0) (by
          show V.int (((2 * r + 6 : Nat) : Int) + 1) = _
          rw [show (((2 * r + 6 : Nat) : Int) + 1) = ((2 * r + 7 : Nat) : Int) by omega])) (ea_cons ev_c (ea_cons ev_c ea_nil))) (by simp)) fun _ => .cons (.int _) (.cons (.int _) (.cons (.int _) .nil))) (sh_opt (by omega)).2.2) fun H6 e6 => q H6 (S.d.ex e6) (Evl.Tabs.ex S.t e6)
end
end K51
set_option Elab.async false
set_option linter.all false
set_option maxRecDepth 100000
set_option maxHeartbeats 4000000
namespace Evl
open PySem L2 LamX
section
variable {K : PySem.W.Frag} {σ : L2.St} {H H' : Hp} {ta tb tc te tx : TE} {t u : TT} {x y z v : V} {D : Ends} {tu tw tz : TS} {g : TG} {Q : VK} {d : PyData} {h : Addr → Bool}
theorem x_asgG {te : TE} {g : TG} (k : te σ H fun v H1 => g v σ H1 fun σ2 H2 => tz D σ2 H2) : tSeq (tAsg te g) tz D σ H := k
theorem x_callH2 {sp : Sp} {E : XK} (ha : Ev ta σ H x) (hc : EvH K h tc σ H d) (k : ∀ v H1, Ex H H1 → Dp K (hide h H1) v d → sp [x, v] H1 Q E) : tCall sp [] E (tCons ta (tCons tc tNil)) σ H Q :=
  ha H (Ex.refl H) _ fun H1 e1 => hc H1 e1 _ fun v H3 e3 hd => k v H3 (e1.trans e3) hd
theorem ev_min2 {i j : Int} (ha : Ev ta σ H (.int i)) (hb : Ev tb σ H (.int j)) : Ev (tCB (fun xs H Q => ∃ i j, xs = [.int i, .int j] ∧ Q (.int (if j < i then j else i)) H) (tCons ta (tCons tb tNil))) σ H (.int (if j < i then j else i)) := fun H1 e Q q =>
  ha H1 e _ fun H2 e2 => hb H2 (e.trans e2) _ fun H3 e3 => ⟨i, j, rfl, q H3 (e2.trans e3)⟩
theorem x_if {c : TT} (k : c σ H fun b H1 => if b = true then tu D σ H1 else tw D σ H1) : tIfS c tu tw D σ H := k
end
end Evl
namespace K51
open PySem PySem.Spec PyProof.Rows L2 Evl LamX
def spLaw (K : PySem.W.Frag) (T : List (Addr × Str)) : Sp := fun vs H Q _ => ∃ (s : Addr) (ns : List Int), vs = [.ref s] ∧ SqL K H s (ns.map V.int) ∧ ns.length ≤ 40000 ∧ Tabs T H ∧ ∀ H', Q (.bl true) H'
section
variable {P : Program} {w : World} {K : PySem.W.Frag} {mg : Str → Option Value} {base : Heap} {CN CF CT CJ fN fT aF aM fC c1 c2 P1 P2 : Addr} {fdC : FuncData}
abbrev s_law : Stmt := topS 50
theorem sc_law : FnScope ["script", "draw", "turn", "p", "n"] ["script"] (defScope s_law) := ⟨rfl, rfl, rfl, by decide +kernel, rfl, by decide +kernel, by decide +kernel⟩
theorem ok_law {f : Addr} {fd : FuncData} (F : FnP K "law" s_law f fd) (B : Bf P K mg CN CF CT fN fT aF aM) (D1 : Dn P w K mg base CX0 1 "_law_begun" ["script"] (spBegun K)) (D2 : Dn P w K mg base CX0 3 "_law_pick" ["draw", "some"] (spPick K))
    (D3 : DnG P w K mg base 11 "_law_pieces_right" ["draw", "p", "n"] (spPcs (lamT P1 P2))) (D4 : DnG P w K mg base 11 "_law_errors_right" ["p", "n"] (spErrs (lamT P1 P2))) : FnG P w K mg base 12 f fd ["script"] (spLaw K (lamT P1 P2)) := by
  refine F.okC sc_law (fun vs H Q E h => ?_) (fun A outer s H vs Q E hG hr h => ⟨_, (PSs.nox (pss_cons (ps_set (i := 1) sc_law.nd rfl (.inl rfl) (pe_d D1 hr (by decide) (pa_cons (pv 0) pa_nil)))
      (pss_cons (ps_for PassesOwn.never rfl (pi_range1 (by rfl) B.range (pa_cons (pe_op op_add pe_int (pe_callB (call_min2 rfl) (by rfl) B.min (by decide +kernel) (pa_cons (pe_callB call_len_seq (by rfl) B.len (by decide +kernel) (pa_cons (pv 0) pa_nil)) (pa_cons pe_int pa_nil)))) pa_nil)) (pg_name (i := 2) sc_law.nd rfl (.inl rfl))
        (pss_cons (ps_asg (pe_d D2 hr (by decide) (pa_cons (pv 1) (pa_cons (pe_lst (pa_cons (pe_tup (pa_cons pe_int (pa_cons pe_int pa_nil))) (pa_cons (pe_tup (pa_cons pe_int (pa_cons pe_int pa_nil))) (pa_cons (pe_tup (pa_cons pe_int (pa_cons pe_int pa_nil))) (pa_cons (pe_tup (pa_cons pe_int (pa_cons pe_int pa_nil))) (pa_cons (pe_tup (pa_cons pe_int (pa_cons pe_int pa_nil))) (pa_cons (pe_tup (pa_cons pe_int (pa_cons pe_int pa_nil))) pa_nil))))))) pa_nil))) (pg_tup rfl (pgs_cons (pg_name (i := 3) sc_law.nd rfl (.inl rfl)) (pgs_cons (pg_name (i := 4) sc_law.nd rfl (.inl rfl)) pgs_nil))))
        (pss_one (ps_if (PW.pt (pw_or (pt_not (pt_val (pe_dG D3 hG hr (by decide) (pa_cons (pv 1) (pa_cons (pv 3) (pa_cons (pv 4) pa_nil)))))) (pw_or1 (pt_not (pt_val (pe_dG D4 hG hr (by decide) (pa_cons (pv 3) (pa_cons (pv 4) pa_nil)))))))) (pss_one (ps_ret pe_bl)) pss_nil))))
      (pss_one (ps_ret pe_bl))))), ?_⟩)
  · obtain ⟨s, ns, rfl, _⟩ := h
    rfl
  · obtain ⟨s, ns, rfl, hs, hz, hT, q⟩ := h
    refine q_asgC (ea_cons (ev_var rfl) ea_nil) fun H1 e1 => ⟨s, ns, rfl, Same.seq (show Same H H1 from e1) hs, hz, fun a la ca H2 _ _ hDr e2 => ?_⟩
    have T2 := Evl.Tabs.ex hT (e1.trans e2)
    have hs2 : SqL K H2 s (ns.map V.int) := Same.seq (show Same H H2 from e1.trans e2) hs
    have hlen : Ev (tCB (rLenS K) (tCons (tVar 0) tNil)) ((start ["script", "draw", "turn", "p", "n"] [.ref s]).set 1 (some (.ref a))) H2 (.int (ns.length : Int)) := by
      have := ev_len (K := K) (ta := tVar 0) (σ := (start ["script", "draw", "turn", "p", "n"] [.ref s]).set 1 (some (.ref a))) (ev_var rfl) hs2
      rwa [List.length_map] at this
    refine q_forR1 (n := 1 + (if (2 : Int) < (ns.length : Int) then (2 : Int) else (ns.length : Int))) (ea_cons (ev_op ev_c (ev_min2 hlen ev_c) rv_I0) ea_nil) (by split <;> omega) (fun i σ' H' => (∃ x2 x3 x4, σ' = [some (.ref s), some (.ref a), x2, x3, x4]) ∧ Dr H' a la ca ∧ Tabs (lamT P1 P2) H') (fun H3 e3 => ⟨⟨_, _, _, rfl⟩, hDr.ex e3, Evl.Tabs.ex T2 e3⟩) ?_ ?_
    · rintro i σ' H' _ ⟨⟨x2, x3, x4, rfl⟩, dr, tb⟩
      have hh := dr.hd
      refine x_asgG (x_callH2 (h := hm a la) (d := .list [.tuple [.int 41, .int 2], .tuple [.int 97, .int 8], .tuple [.int 193, .int 4], .tuple [.int 641, .int 2], .tuple [.int 7681, .int 16], .tuple [.int 641, .int 8]]) (ev_var rfl)
        (eh_lst hh (ehl_lst hh (ehs_cons (eh_tup hh (ehs_cons (eh_int ev_c) (ehs_cons (eh_int ev_c) ehs_nil)) (by simp)) (ehs_cons (eh_tup hh (ehs_cons (eh_int ev_c) (ehs_cons (eh_int ev_c) ehs_nil)) (by simp)) (ehs_cons (eh_tup hh (ehs_cons (eh_int ev_c) (ehs_cons (eh_int ev_c) ehs_nil)) (by simp)) (ehs_cons (eh_tup hh (ehs_cons (eh_int ev_c) (ehs_cons (eh_int ev_c) ehs_nil)) (by simp)) (ehs_cons (eh_tup hh (ehs_cons (eh_int ev_c) (ehs_cons (eh_int ev_c) ehs_nil)) (by simp)) (ehs_cons (eh_tup hh (ehs_cons (eh_int ev_c) (ehs_cons (eh_int ev_c) ehs_nil)) (by simp)) ehs_nil)))))) (by simp))) fun v H3 e3 hv => ⟨a, la, ca, v, _, rfl, dr.ex e3, hv, by simp, by simp, fun x d H4 hd hx st => ?_⟩)
      have dr4 : Dr H4 a la ca := st.1
      have tb4 : Tabs (lamT P1 P2) H4 := Tabs.stp (Evl.Tabs.ex tb e3) (dr.ex e3) st
      obtain ⟨p, r, hL, rfl⟩ : ∃ p r, Lw p r ∧ d = .tuple [.int p, .int (2 ^ r)] := by
        simp only [List.mem_cons, List.not_mem_nil, or_false] at hd
        rcases hd with rfl | rfl | rfl | rfl | rfl | rfl
        · exact ⟨41, 1, .inl ⟨rfl, rfl⟩, rfl⟩
        · exact ⟨97, 3, .inr (.inl ⟨rfl, rfl⟩), rfl⟩
        · exact ⟨193, 2, .inr (.inr (.inl ⟨rfl, rfl⟩)), rfl⟩
        · exact ⟨641, 1, .inr (.inr (.inr (.inl ⟨rfl, rfl⟩))), rfl⟩
        · exact ⟨7681, 4, .inr (.inr (.inr (.inr (.inl ⟨rfl, rfl⟩)))), rfl⟩
        · exact ⟨641, 3, .inr (.inr (.inr (.inr (.inr ⟨rfl, rfl⟩)))), rfl⟩
      cases hx with
      | tup hq ha =>
        rename_i t xs
        cases ha with
        | cons h1 ha =>
          cases h1
          cases ha with
          | cons h2 ha =>
            cases h2
            cases ha
            refine ⟨t, _, rfl, Same.seqT (show Same _ _ from mask_ex) hq, rfl, _, _, rfl, _, _, rfl, rfl, ?_⟩
            refine x_if (x_call (ea_cons (ev_var rfl) (ea_cons (ev_var rfl) (ea_cons (ev_var rfl) ea_nil))) fun H5 e5 => ⟨a, la, ca, p, r, rfl, hL, dr4.ex e5, Evl.Tabs.ex tb4 e5, fun H6 dr6 tb6 => ⟨true, rfl, ?_⟩⟩)
            refine x_call (sp := spErrs (lamT P1 P2)) (E := E0) (dvs := []) (ea_cons (ev_var (i := 3) rfl) (ea_cons (ev_var (i := 4) rfl) ea_nil)) fun H7 e7 => ⟨p, r, rfl, hL, Evl.Tabs.ex tb6 e7, fun H8 n8 tb8 => ⟨true, rfl, ?_⟩⟩
            exact ⟨⟨_, _, _, rfl⟩, (dr6.ex e7).extN n8, tb8⟩
    · rintro σ' H' ⟨⟨x2, x3, x4, rfl⟩, dr, tb⟩
      exact s_ret ev_c fun H3 e3 => q H3
end
end K51
set_option Elab.async false
set_option linter.all false
set_option maxRecDepth 100000
set_option maxHeartbeats 4000000
/-! what a kernel run of the head tells of classes whose __init__ calls super().__init__; the Hook -/
namespace JX
open PySem PySem.W PySem.Calls PyProof.Rows PySem.HandSPX
def clsB (K : Frag) (C : Addr) : Bool := match K.lookup C with
  | some ⟨.type t, _, .cls cd, sl⟩ => (match cd.mro, sl.toList with
    | .ref C' :: bm, [_, _, _, _, some (.builtin n), _] => t == "type" && C' == C && n == "ValueError.__new__" && !cd.hasDel && cd.hasDict && refsVE bm
    | _, _ => false)
  | _ => false
theorem clsB_ok {K : Frag} {C : Addr} (q : clsB K C = true) : ∃ nm q N bs bm sn sub ab col dd k0 k1 k2 k3 k5, K.lookup C = some (excClassObj nm q C N bs bm true sn sub ab col dd k0 k1 k2 k3 k5 "ValueError.__new__") ∧ refsVE bm = true := by
  unfold clsB at q
  split at q
  · rename_i t dd cd sl ho
    split at q
    · rename_i C' bm k0 k1 k2 k3 n k5 hm hs
      simp only [Bool.and_eq_true, beq_iff_eq, Bool.not_eq_true'] at q
      obtain ⟨⟨⟨⟨⟨rfl, rfl⟩, rfl⟩, hdel⟩, hdct⟩, ht⟩ := q
      obtain ⟨nm, bs, mro, ns, qn, hd, sn, sub, ab, col, del⟩ := cd
      dsimp only at hm hdel hdct
      subst hm hdel hdct
      have hsl : sl = #[k0, k1, k2, k3, some (.builtin "ValueError.__new__"), k5] := by
        obtain ⟨l⟩ := sl
        simp only at hs
        rw [hs]
      subst hsl
      exact ⟨nm, qn, ns, bs, bm, sn, sub, ab, col, dd, k0, k1, k2, k3, k5, ho, ht⟩
    · cases q
  · cases q
/-- what is seen of a class's __init__ -/
abbrev FnI : Type := Option (Str × Str × Arguments × FuncBody × Scope × Addr × List Str × Addr)
def fnI (K : Frag) (x : Str) : FnI := match K.lookup (He.ma K (He.ga K x) "__init__") with
  | some ⟨_, _, .func fd, _⟩ => some (fd.name, fd.qualname, fd.params, fd.body, fd.scope, fd.globals, fd.closure.map (·.1), fd.builtins)
  | _ => none
def iniV (qual : Str) (a : Arguments) (b : List Stmt) (sc : Scope) : FnI := some (("__init__" : Str), qual, a, FuncBody.stmts b, sc, mainGlobals, [("__class__" : Str)], builtinsNs)
def initB (K : Frag) (file : Str) (x : Str) : Bool := match K.lookup (He.ma K (He.ga K x) "__init__") with
  | some ⟨_, _, .func fd, _⟩ => (match fd.defaults, fd.kwdefaults, fd.code, fd.closure with
    | .none, .none, .ref cda, [(_, cc)] => codeIn K (.ref cda) fd.qualname && (match K.lookup cda with
      | some ⟨_, _, .fields vs, _⟩ => (match (vs : Array Value)[2]? with
        | some (Value.str z _) => file == z
        | _ => false)
      | _ => false) && (match K.lookup cc with
      | some ⟨_, _, .cell (some (.ref C')), _⟩ => C' == He.ga K x
      | _ => false)
    | _, _, _, _ => false)
  | _ => false
def supB (K : Frag) (file : Str) (x fld : Str) : Bool :=
  clsB K (He.ga K x) && (decide (findIn K (.ref (He.ga K x)) "__setattr__" = some (some (.builtin "object.__setattr__"))) && (decide (findIn K (.ref (He.ga K x)) fld = some none) &&
  (decide (findIn K (.ref (He.ga K x)) "__init__" = some (some (.ref (He.ma K (He.ga K x) "__init__")))) && (decide (typeIn K (.ref (He.ma K (He.ga K x) "__init__")) = some (.type "function")) && (keepIn K (.ref (He.ga K x)) &&
  (decide (subIn K (.ref (He.ga K x)) (.type "BaseException") = some true) && (decide (typeIn K (.ref (He.ga K x)) = some (.type "type")) && (decide (ks_superIn K (He.ga K x) (He.ga K x) "__init__" = some (some (.builtin "ValueError.__init__"))) &&
  (decide (nsIn K cStatics "thirdparty.any" = some none) && (decide (subIn K (.ref (He.ga K x)) (.type "ValueError") = some true) && (decide (mroIn K (He.ga K x) (.ref (He.ga K x)) = some true) && initB K file x)))))))))))
theorem sup_txt {prog : Program} {K : Frag} {mg : Str → Option Value} {x msg fld qual : Str} {scope : Scope} {p1 p2 q1 q2 q3 q4 q5 q6 q7 q8 q9 q10 : Pos} (g : mg x = some (.ref (He.ga K x))) (ns : mg "super" = none) (b : supB K (prog.main.file : Str) x fld = true)
    (e : fnI K x = iniV qual (supArgs fld p1 p2) (supBody msg fld q1 q2 q3 q4 q5 q6 q7 q8 q9 q10) scope) (top : (prog.main.scope.names.lookup ("super" : Str)).isSome = false) (S : SupScope fld scope)
    (hb : ∀ (doc pm ct : Value) (an : Option Addr) (cda cc : Addr) (y : Addr) (v : Value), bindArgs (ksFn "__init__" qual (supArgs fld p1 p2) (supBody msg fld q1 q2 q3 q4 q5 q6 q7 q8 q9 q10) scope .none .none doc pm an (.ref cda) ct cc) ⟨[.ref y, v], []⟩ = pure [(("self" : Str), .ref y), (fld, v)])
    (hm : ∀ env : Env, eval (.Call (.Attribute (.Call (.Name "super" q1) [] [] q2) "__init__" q3) [.Constant (.str msg) 0 q4] [] q5) env = (do
        let ov ← attributeBase (.Call (.Name "super" q1) [] [] q2) "__init__" env (eval (.Call (.Name "super" q1) [] [] q2) env)
        standAt q3.atName
        let (f, first) ← holding [ov] (getMethod ov "__init__" (L2.plainOf (.Call (.Name "super" q1) [] [] q2) env))
        callWith q5 f first (backTo q5 (starEach [.Constant (.str msg) 0 q4] env)) [])) : SupTxt prog K mg (He.ga K x) (He.ma K (He.ga K x) "__init__") x msg fld := by
  unfold supB at b
  simp only [Bool.and_eq_true, decide_eq_true_eq] at b
  obtain ⟨b1, b2, b3, b4, b5, b6, b7, b8, b9, b10, b11, b12, b13⟩ := b
  refine ⟨g, clsB_ok b1, b2, b3, b4, b5, b6, b7, b8, b9, b10, b11, b12, ns, top, ?_⟩
  unfold initB at b13
  unfold fnI at e
  split at b13
  · rename_i oc od fd osl lk
    rw [lk] at e
    obtain ⟨n1, n2, n3, n4, n5, n6, n7, n8, n9, n10, n11, n12, n13, n14, n15⟩ := fd
    have e2 : (some (n1, n2, n3, n4, n5, n6, n7.map (·.1), n15) : FnI) = some (("__init__" : Str), qual, supArgs fld p1 p2, FuncBody.stmts (supBody msg fld q1 q2 q3 q4 q5 q6 q7 q8 q9 q10), scope, mainGlobals, [("__class__" : Str)], builtinsNs) := e
    simp only [Option.some.injEq, Prod.mk.injEq] at e2
    obtain ⟨h1, h2, h3, h4, h5, h6, h7, h8⟩ := e2
    subst h1 h2 h3 h4 h5 h6 h8
    dsimp only at b13
    split at b13
    · rename_i cda k cc
      have hk : k = "__class__" := by simpa using h7
      subst hk
      simp only [Bool.and_eq_true] at b13
      obtain ⟨⟨c1, c2⟩, c3⟩ := b13
      split at c2
      · rename_i ccl cdd vs ccs lk2
        split at c2
        · rename_i z tf hz
          split at c3
          · rename_i cl cld C' csl lk3
            have hC : C' = He.ga K x := eq_of_beq c3
            subst hC
            exact ⟨oc, od, _, _, n10, n11, n14, n12, osl, p1, p2, q1, q2, q3, q4, q5, q6, q7, q8, q9, q10, cda, cc, ccl, cl, cdd, cld, vs, ccs, csl, z, tf, lk, S, c1, lk2, hz, c2, lk3, hb n10 n11 n14 n12 cda cc, hm⟩
          · cases c3
        · cases c2
      · cases c2
    · cases b13
  · cases b13
end JX
set_option Elab.async false
set_option linter.all false
set_option maxRecDepth 100000
set_option maxHeartbeats 4000000
namespace JX
open PySem PySem.W PySem.Calls PyProof.Rows PySem.HandSPX
def KJ (n : Nat) (g : Addr → Option Obj) : Frag := He.frT g (cStatics :: He.asD g n)
abbrev AlJ : Type := He.AlD × List FnI × Bool
def obsJ (n : Nat) (fa : List He.Fa) (fn : List He.DefD) (ini : List Str) (tf : List He.Defn) (ex : Frag → Bool) (g : Addr → Option Obj) : AlJ := (He.obsD fa fn (KJ n g), ini.map (fnI (KJ n g)), ex (KJ n g) && He.tabsB g tf (KJ n g))
def valJ (fn : List He.DefD) (iv : List FnI) : AlJ := (He.valD fn, iv, true)
structure SaysJ (fa : List He.Fa) (fn : List He.DefD) (ini : List Str) (iv : List FnI) (tf : List He.Defn) (ex : Frag → Bool) (h : Heap) (K : Frag) : Prop where
  d : He.SaysD fa fn K
  i : ini.map (fnI K) = iv
  more : ex K = true
  hd : ∀ p ∈ tf, codeHdIn K (He.cT K p).1 (He.cT K p).2 = true
  out : ∀ p ∈ tf, K.lookup (He.cT K p).2 = none
  empty : ∀ p ∈ tf, h.get? (He.cT K p).2 = some { cls := .none, data := .fields #[] }
theorem saysJ_of {n : Nat} {fa : List He.Fa} {fn : List He.DefD} {ini : List Str} {iv : List FnI} {tf : List He.Defn} {ex : Frag → Bool} {h : Heap} (e : obsJ n fa fn ini tf ex h.get? = valJ fn iv) : SaysJ fa fn ini iv tf ex h (KJ n h.get?) := by
  have e1 : He.obsD fa fn (KJ n h.get?) = He.valD fn := congrArg (fun z : AlJ => z.1) e
  have e3 : ini.map (fnI (KJ n h.get?)) = iv := congrArg (fun z : AlJ => z.2.1) e
  have e2 : (ex (KJ n h.get?) && He.tabsB h.get? tf (KJ n h.get?)) = true := congrArg (fun z : AlJ => z.2.2) e
  obtain ⟨h1, h2⟩ := He.ba e2
  have key : ∀ p ∈ tf, codeHdIn (KJ n h.get?) (He.cT (KJ n h.get?) p).1 (He.cT (KJ n h.get?) p).2 = true ∧ ∃ o, h.get? (He.cT (KJ n h.get?) p).2 = some o ∧ He.emptyTab o = true := fun p hp => by
    obtain ⟨h3, h4⟩ := He.ba (List.all_eq_true.mp h2 p hp)
    refine ⟨h3, ?_⟩
    cases q : h.get? (He.cT (KJ n h.get?) p).2 with
    | none =>
      rw [q] at h4
      cases h4
    | some o =>
      rw [q] at h4
      exact ⟨o, rfl, h4⟩
  exact ⟨e1, e3, h1, fun p hp => (key p hp).1, fun p hp => by
    obtain ⟨_, o, q, z⟩ := key p hp
    exact He.frT_none q z, fun p hp => by
    obtain ⟨_, o, q, z⟩ := key p hp
    rw [q, He.emptyTab_eq z]⟩
def hookJ (n : Nat) (fa : List He.Fa) (fn : List He.DefD) (ini : List Str) (iv : List FnI) (tf : List He.Defn) (ex : Frag → Bool) : Hook where
  α := AlJ
  obs := fun s => obsJ n fa fn ini tf ex s.heap.get?
  val := fun _ => valJ fn iv
  says := fun _ h => ∃ K : Frag, K.In h ∧ SaysJ fa fn ini iv tf ex h K
  of := fun _ _ e => ⟨_, He.frT_in, saysJ_of e⟩
  keeps := fun _ _ _ ⟨K, hK, c⟩ k => ⟨K, Frag.In.keeps hK k, ⟨c.d, c.i, c.more, c.hd, c.out, fun p hp => k _ _ (c.empty p hp)⟩⟩
theorem obsJ_eq {n : Nat} {fa : List He.Fa} {fn : List He.DefD} {ini : List Str} {iv : List FnI} {tf : List He.Defn} {ex : Frag → Bool} {g : Addr → Option Obj} {s : Shared} (h : ∀ a, g a = s.heap.get? a) : obsJ n fa fn ini tf ex g = (hookJ n fa fn ini iv tf ex).obs s := by
  have e : g = s.heap.get? := funext h
  rw [e] <;> rfl
end JX
namespace K51
open PySem PySem.Spec PyProof.Rows L2 Evl LamX
def dOf (x : Str) (i : Nat) : He.DefD := ⟨(x, none), x, x, defArgs (topS i), defBody (topS i), defScope (topS i), [], []⟩
def fnL1 : List He.DefD := [dOf "is_number" 6, dOf "is_between" 7, dOf "is_tuple" 8, dOf "need_between" 9, dOf "is_field" 13, dOf "need_field" 14, dOf "are_numbers" 15, dOf "most_rows" 16, dOf "sizes_of" 18, dOf "is_size" 19, dOf "need_size" 20, dOf "rounds_of" 21,
  dOf "count_of" 22, dOf "is_word_told" 24, dOf "last_piece" 28, dOf "shape_told" 29, dOf "piece_shape" 30, dOf "fits_shape" 31, dOf "is_piece" 32, dOf "fault_told" 33]
def fnL2 : List He.DefD := [dOf "pieces_fault" 34, dOf "need_pieces" 35, dOf "is_whole" 36, dOf "_law_begun" 38, dOf "_law_blend" 39, dOf "_law_take" 40, dOf "_law_pick" 41, dOf "_law_caught" 42, dOf "_law_same" 43, dOf "_law_rounds" 44, dOf "_law_shape" 45, dOf "_law_piece" 46,
  dOf "_law_odd" 47, dOf "_law_pieces_right" 48, dOf "_law_errors_right" 49, dOf "law" 50]
def fnL : List He.DefD := fnL1 ++ fnL2
def freeL : List Str := ["isinstance", "int", "bool", "tuple", "list", "len", "all", "abs", "range", "enumerate", "min", "repr", "super"]
def faL : List He.Fa := freeL.map He.Fa.free ++ fnL.map (fun d => He.Fa.glo d.name) ++ ([.glo "JudgeError", .glo "BadNumber", .glo "BadField", .glo "BadTalk", .glo "FIELDS", .glo "MOST_ROWS", .int "FIRST_MANY" 50, .int "SECOND_MANY" 18, .exc "BadField", .exm "BadNumber" "JudgeError" true, .exm "BadTalk" "JudgeError" true, .exm "BadField" "JudgeError" true, .noat "BadNumber" "part", .noat "BadTalk" "at"] : List He.Fa)
def tfL : List He.Defn := [("_law_pieces_right", none), ("_law_errors_right", none)]
def kepB (K : PySem.W.Frag) (D : Addr) : Bool := (PySem.W.clsIn K D).isSome && (decide (PySem.W.findIn K (.ref D) "__getattribute__" = some (some (.builtin "BaseException.__getattribute__"))) && (decide (PySem.W.findIn K (.ref D) "__getattr__" = some none) && (decide (PySem.W.subIn K (.ref D) (.type "BaseException") = some true) &&
  (PySem.W.hasDictIn K D && (decide (PySem.W.findIn K (.ref D) "__class__" = some (some (.builtin "object.__class__"))) && (decide (PySem.W.specialIn K (.builtin "object.__class__") "__get__" = some (some (.builtin "getset_descriptor.__get__"))) && (decide (PySem.W.takesIn K (.builtin "object.__class__") = some true) && decide (PySem.W.mroIn K D (.type "object") = some true))))))))
theorem kepB_ok {K : PySem.W.Frag} {D : Addr} (h : kepB K D = true) : KepC K D := by
  unfold kepB at h
  simp only [Bool.and_eq_true, decide_eq_true_eq] at h
  obtain ⟨h1, h2, h3, h4, h5, h6, h7, h8, h9⟩ := h
  exact ⟨h1, h2, h3, h4, h5, h6, h7, h8, h9⟩
def tupK (K : PySem.W.Frag) (a : Addr) : Bool := match K.lookup a with
  | some ⟨.type c, none, _, _⟩ => c == "tuple"
  | _ => false
theorem tupK_ok {K : PySem.W.Frag} {a : Addr} (h : tupK K a = true) : ∃ o, K.lookup a = some o ∧ o.cls = .type "tuple" ∧ o.dict = none := by
  unfold tupK at h
  split at h
  · rename_i c dt sl lk
    have hc : c = "tuple" := eq_of_beq h
    subst hc
    exact ⟨_, lk, rfl, rfl⟩
  · cases h
def kitB (K : PySem.W.Frag) (x : Str) : Bool := decide (PySem.W.kitOne K (.ref (He.ga K x)) (.ref (He.ga K x)) = some true)
abbrev rowL : PySem.W.OpenLaw := PySem.Challenge.rw_judgedunrun_k51_whole_talks_and_their_pi
abbrev RJ : PySem.W.OpenRow := PySem.W.OpenLaw.row rowL
def fileJ : Str := (RJ.prog.main.file : Str)
def exB (K : PySem.W.Frag) : Bool := JX.supB K fileJ "BadNumber" "part" && (JX.supB K fileJ "BadTalk" "at" && (kepB K (He.ga K "BadNumber") && (kepB K (He.ga K "BadTalk") && (kepB K (He.ga K "BadField") && (kitB K "BadNumber" && (kitB K "BadTalk" && (kitB K "BadField" && (L2.xfB K (He.ga K "BadNumber") && (L2.xfB K (He.ga K "BadTalk") &&
  (He.tupB K "FIELDS" [.int 41, .int 97, .int 193, .int 641, .int 7681, .int 12289, .int 40961] && (He.tupB K "MOST_ROWS" [.int 2, .int 8, .int 16, .int 32, .int 128, .int 1024, .int 2048] && (tupK K (He.ga K "FIELDS") && !((He.cT K ("_law_pieces_right", none)).2 == (He.cT K ("_law_errors_right", none)).2)))))))))))))
def iniL : List Str := ["BadNumber", "BadTalk"]
def ivL : List JX.FnI := [JX.iniV "BadNumber.__init__" (defArgs (inClass (topS 2) 0)) (defBody (inClass (topS 2) 0)) (defScope (inClass (topS 2) 0)), JX.iniV "BadTalk.__init__" (defArgs (inClass (topS 4) 0)) (defBody (inClass (topS 4) 0)) (defScope (inClass (topS 4) 0))]
abbrev hkJ : PySem.W.Hook := JX.hookJ 5 faL fnL iniL ivL tfL exB
def obK (s : PySem.W.SharedT) : JX.AlJ := JX.obsJ 5 faL fnL iniL tfL exB (HandSHeadRun.getT s)
theorem obK_eq (s : PySem.W.SharedT) : obK s = hkJ.obs s.abs := JX.obsJ_eq (HandSHeadRun.getT_eq s)
def namesA : List PySem.Str := ["JudgeError", "BadNumber", "BadField", "BadTalk", "is_number", "is_between", "is_tuple", "need_between", "FIELDS", "MOST_ROWS", "is_field", "need_field", "are_numbers", "most_rows", "sizes_of", "is_size", "need_size", "rounds_of", "count_of", "is_word_told"]
def namesB : List PySem.Str := ["FIRST_MANY", "SECOND_MANY", "last_piece", "shape_told", "piece_shape", "fits_shape", "is_piece", "fault_told", "pieces_fault", "need_pieces", "is_whole", "_law_begun", "_law_blend", "_law_take", "_law_pick", "_law_caught", "_law_same", "_law_rounds", "_law_shape", "_law_piece"]
def namesC : List PySem.Str := ["_law_odd", "_law_pieces_right", "_law_errors_right", "__name__"]
def namesJ : List PySem.Str := namesA ++ namesB ++ namesC
end K51
set_option Elab.async false
set_option linter.all false
set_option maxRecDepth 100000
set_option maxHeartbeats 0
namespace K51
open PySem PySem.Spec PyProof.Rows L2 Evl LamX
theorem code_eq {K : PySem.W.Frag} {x : Str} {st : Stmt} {fd : FuncData} (F : FnP K x st (He.ga K x) fd) : fd.code = .ref (He.codeOf K (x, none)) := by
  obtain ⟨oc, od, dV, kV, doc, pm, an, cdv, ct, osl, rfl, lk, hcd, _, _⟩ := F.ex
  obtain ⟨c, rfl⟩ := He.codeIn_ref hcd
  rw [He.codeOf_eq (p := (x, none)) lk rfl]
theorem supS {fld : Str} {sc : Scope} (h : sc.kind = .function ∧ sc.isCoroutine = false ∧ sc.isGenerator = false ∧ (∀ x ∈ sc.names, x.2 ≠ .cell) ∧ sc.names.lookup ("super" : Str) = some .globalImplicit ∧ sc.names.lookup ("__class__" : Str) = some .free ∧ sc.names.lookup ("self" : Str) = some .local ∧ sc.names.lookup fld = some .local ∧ (fld == ("self" : Str)) = false ∧ (fld == ("__debug__" : Str)) = false) : JX.SupScope fld sc :=
  ⟨h.1, h.2.1, h.2.2.1, h.2.2.2.1, h.2.2.2.2.1, h.2.2.2.2.2.1, h.2.2.2.2.2.2.1, h.2.2.2.2.2.2.2.1, h.2.2.2.2.2.2.2.2.1, h.2.2.2.2.2.2.2.2.2⟩
theorem mem_glo {x : Str} {i : Nat} (h : dOf x i ∈ fnL) : He.Fa.glo x ∈ faL := List.mem_append_left _ (List.mem_append_right _ (List.mem_map.mpr ⟨dOf x i, h, rfl⟩))
theorem mem_free {x : Str} (h : x ∈ freeL) : He.Fa.free x ∈ faL := List.mem_append_left _ (List.mem_append_left _ (List.mem_map.mpr ⟨x, h, rfl⟩))
theorem facts {w : World} {h : Heap} {K : PySem.W.Frag} {mg : Str → Option Value} {fa : Addr} (X : K.In h) (G : h.Ns mainGlobals mg) (hfa : mg ("law" : Str) = some (.ref fa)) (c : JX.SaysJ faL fnL iniL ivL tfL exB h K) : LawAtG rowL w K 12 63 "script" mg fa h := by
  have fr : ∀ {x : Str}, x ∈ freeL → mg x = none := fun hx => He.free_ok X G (c.d.facts (mem_free hx))
  have gl : ∀ {x : Str} {i : Nat}, dOf x i ∈ fnL → mg x = some (.ref (He.ga K x)) := fun hx => He.glo_ok X G (c.d.facts (mem_glo hx))
  have gx : ∀ {f : He.Fa}, f ∈ ([.glo "JudgeError", .glo "BadNumber", .glo "BadField", .glo "BadTalk", .glo "FIELDS", .glo "MOST_ROWS", .int "FIRST_MANY" 50, .int "SECOND_MANY" 18, .exc "BadField", .exm "BadNumber" "JudgeError" true, .exm "BadTalk" "JudgeError" true, .exm "BadField" "JudgeError" true, .noat "BadNumber" "part", .noat "BadTalk" "at"] : List He.Fa) → f.ok K = true := fun hx => c.d.facts (List.mem_append_right _ hx)
  have hex := c.more
  unfold exB at hex
  simp only [Bool.and_eq_true] at hex
  obtain ⟨x1, x2, x3, x4, x5, x6, x7, x8, x9, x10, x11, x12, x13, x14⟩ := hex
  have hP : (He.cT K ("_law_pieces_right", none)).2 ≠ (He.cT K ("_law_errors_right", none)).2 := fun z => by
    rw [z, beq_self_eq_true] at x14
    cases x14
  have i1 : JX.fnI K "BadNumber" = JX.iniV "BadNumber.__init__" (defArgs (inClass (topS 2) 0)) (defBody (inClass (topS 2) 0)) (defScope (inClass (topS 2) 0)) := (List.cons.inj c.i).1
  have i2 : JX.fnI K "BadTalk" = JX.iniV "BadTalk.__init__" (defArgs (inClass (topS 4) 0)) (defBody (inClass (topS 4) 0)) (defScope (inClass (topS 4) 0)) := (List.cons.inj (List.cons.inj c.i).2).1
  have gN : mg ("BadNumber" : Str) = some (.ref (He.ga K "BadNumber")) := He.glo_ok X G (gx (by simp))
  have gT : mg ("BadTalk" : Str) = some (.ref (He.ga K "BadTalk")) := He.glo_ok X G (gx (by simp))
  have gF : mg ("BadField" : Str) = some (.ref (He.ga K "BadField")) := He.glo_ok X G (gx (by simp))
  have gJ : mg ("JudgeError" : Str) = some (.ref (He.ga K "JudgeError")) := He.glo_ok X G (gx (by simp))
  have hsup : mg ("super" : Str) = none := fr (by decide +kernel)
  have TN : JX.SupTxt rowL.prog K mg (He.ga K "BadNumber") (He.ma K (He.ga K "BadNumber") "__init__") "BadNumber" "a number is wrong" "part" := JX.sup_txt gN hsup x1 i1 (by decide +kernel) (supS ⟨rfl, rfl, rfl, by decide +kernel, rfl, rfl, rfl, rfl, by decide, by decide⟩) (fun _ _ _ _ _ _ _ _ => rfl) (fun _ => rfl)
  have TT : JX.SupTxt rowL.prog K mg (He.ga K "BadTalk") (He.ma K (He.ga K "BadTalk") "__init__") "BadTalk" "no talk" "at" := JX.sup_txt gT hsup x2 i2 (by decide +kernel) (supS ⟨rfl, rfl, rfl, by decide +kernel, rfl, rfl, rfl, rfl, by decide, by decide⟩) (fun _ _ _ _ _ _ _ _ => rfl) (fun _ => rfl)
  obtain ⟨eq, ek, es, et⟩ := He.exc_ok (gx (f := .exc "BadField") (by simp))
  have B : Bf rowL.prog K mg (He.ga K "BadNumber") (He.ga K "BadField") (He.ga K "BadTalk") (He.ma K (He.ga K "BadNumber") "__init__") (He.ma K (He.ga K "BadTalk") "__init__") (He.ga K "FIELDS") (He.ga K "MOST_ROWS") :=
    ⟨fr (by decide +kernel), fr (by decide +kernel), fr (by decide +kernel), fr (by decide +kernel), fr (by decide +kernel), fr (by decide +kernel), fr (by decide +kernel), fr (by decide +kernel), fr (by decide +kernel), fr (by decide +kernel), fr (by decide +kernel), fr (by decide +kernel),
      TN, TT, ⟨eq, gF, ek, es, et⟩, He.glo_ok X G (gx (by simp)), He.glo_ok X G (gx (by simp)), fun H => He.tupB_ok x11 H, fun H => He.tupB_ok x12 H, tupK_ok x13, He.int_ok X G (gx (by simp)), He.int_ok X G (gx (by simp))⟩

  obtain ⟨d_is_number, F_is_number⟩ := c.d.def_ 0 (d := dOf "is_number" 6) rfl
  have m_is_number : dOf "is_number" 6 ∈ fnL := List.mem_of_getElem? (i := 0) rfl
  obtain ⟨d_is_between, F_is_between⟩ := c.d.def_ 1 (d := dOf "is_between" 7) rfl
  have m_is_between : dOf "is_between" 7 ∈ fnL := List.mem_of_getElem? (i := 1) rfl
  obtain ⟨d_is_tuple, F_is_tuple⟩ := c.d.def_ 2 (d := dOf "is_tuple" 8) rfl
  have m_is_tuple : dOf "is_tuple" 8 ∈ fnL := List.mem_of_getElem? (i := 2) rfl
  obtain ⟨d_need_between, F_need_between⟩ := c.d.def_ 3 (d := dOf "need_between" 9) rfl
  have m_need_between : dOf "need_between" 9 ∈ fnL := List.mem_of_getElem? (i := 3) rfl
  obtain ⟨d_is_field, F_is_field⟩ := c.d.def_ 4 (d := dOf "is_field" 13) rfl
  have m_is_field : dOf "is_field" 13 ∈ fnL := List.mem_of_getElem? (i := 4) rfl
  obtain ⟨d_need_field, F_need_field⟩ := c.d.def_ 5 (d := dOf "need_field" 14) rfl
  have m_need_field : dOf "need_field" 14 ∈ fnL := List.mem_of_getElem? (i := 5) rfl
  obtain ⟨d_are_numbers, F_are_numbers⟩ := c.d.def_ 6 (d := dOf "are_numbers" 15) rfl
  have m_are_numbers : dOf "are_numbers" 15 ∈ fnL := List.mem_of_getElem? (i := 6) rfl
  obtain ⟨d_most_rows, F_most_rows⟩ := c.d.def_ 7 (d := dOf "most_rows" 16) rfl
  have m_most_rows : dOf "most_rows" 16 ∈ fnL := List.mem_of_getElem? (i := 7) rfl
  obtain ⟨d_sizes_of, F_sizes_of⟩ := c.d.def_ 8 (d := dOf "sizes_of" 18) rfl
  have m_sizes_of : dOf "sizes_of" 18 ∈ fnL := List.mem_of_getElem? (i := 8) rfl
  obtain ⟨d_is_size, F_is_size⟩ := c.d.def_ 9 (d := dOf "is_size" 19) rfl
  have m_is_size : dOf "is_size" 19 ∈ fnL := List.mem_of_getElem? (i := 9) rfl
  obtain ⟨d_need_size, F_need_size⟩ := c.d.def_ 10 (d := dOf "need_size" 20) rfl
  have m_need_size : dOf "need_size" 20 ∈ fnL := List.mem_of_getElem? (i := 10) rfl
  obtain ⟨d_rounds_of, F_rounds_of⟩ := c.d.def_ 11 (d := dOf "rounds_of" 21) rfl
  have m_rounds_of : dOf "rounds_of" 21 ∈ fnL := List.mem_of_getElem? (i := 11) rfl
  obtain ⟨d_count_of, F_count_of⟩ := c.d.def_ 12 (d := dOf "count_of" 22) rfl
  have m_count_of : dOf "count_of" 22 ∈ fnL := List.mem_of_getElem? (i := 12) rfl
  obtain ⟨d_is_word_told, F_is_word_told⟩ := c.d.def_ 13 (d := dOf "is_word_told" 24) rfl
  have m_is_word_told : dOf "is_word_told" 24 ∈ fnL := List.mem_of_getElem? (i := 13) rfl
  obtain ⟨d_last_piece, F_last_piece⟩ := c.d.def_ 14 (d := dOf "last_piece" 28) rfl
  have m_last_piece : dOf "last_piece" 28 ∈ fnL := List.mem_of_getElem? (i := 14) rfl
  obtain ⟨d_shape_told, F_shape_told⟩ := c.d.def_ 15 (d := dOf "shape_told" 29) rfl
  have m_shape_told : dOf "shape_told" 29 ∈ fnL := List.mem_of_getElem? (i := 15) rfl
  obtain ⟨d_piece_shape, F_piece_shape⟩ := c.d.def_ 16 (d := dOf "piece_shape" 30) rfl
  have m_piece_shape : dOf "piece_shape" 30 ∈ fnL := List.mem_of_getElem? (i := 16) rfl
  obtain ⟨d_fits_shape, F_fits_shape⟩ := c.d.def_ 17 (d := dOf "fits_shape" 31) rfl
  have m_fits_shape : dOf "fits_shape" 31 ∈ fnL := List.mem_of_getElem? (i := 17) rfl
  obtain ⟨d_is_piece, F_is_piece⟩ := c.d.def_ 18 (d := dOf "is_piece" 32) rfl
  have m_is_piece : dOf "is_piece" 32 ∈ fnL := List.mem_of_getElem? (i := 18) rfl
  obtain ⟨d_fault_told, F_fault_told⟩ := c.d.def_ 19 (d := dOf "fault_told" 33) rfl
  have m_fault_told : dOf "fault_told" 33 ∈ fnL := List.mem_of_getElem? (i := 19) rfl
  obtain ⟨d_pieces_fault, F_pieces_fault⟩ := c.d.def_ 20 (d := dOf "pieces_fault" 34) rfl
  have m_pieces_fault : dOf "pieces_fault" 34 ∈ fnL := List.mem_of_getElem? (i := 20) rfl
  obtain ⟨d_need_pieces, F_need_pieces⟩ := c.d.def_ 21 (d := dOf "need_pieces" 35) rfl
  have m_need_pieces : dOf "need_pieces" 35 ∈ fnL := List.mem_of_getElem? (i := 21) rfl
  obtain ⟨d_is_whole, F_is_whole⟩ := c.d.def_ 22 (d := dOf "is_whole" 36) rfl
  have m_is_whole : dOf "is_whole" 36 ∈ fnL := List.mem_of_getElem? (i := 22) rfl
  obtain ⟨d_law_begun, F_law_begun⟩ := c.d.def_ 23 (d := dOf "_law_begun" 38) rfl
  have m_law_begun : dOf "_law_begun" 38 ∈ fnL := List.mem_of_getElem? (i := 23) rfl
  obtain ⟨d_law_blend, F_law_blend⟩ := c.d.def_ 24 (d := dOf "_law_blend" 39) rfl
  have m_law_blend : dOf "_law_blend" 39 ∈ fnL := List.mem_of_getElem? (i := 24) rfl
  obtain ⟨d_law_take, F_law_take⟩ := c.d.def_ 25 (d := dOf "_law_take" 40) rfl
  have m_law_take : dOf "_law_take" 40 ∈ fnL := List.mem_of_getElem? (i := 25) rfl
  obtain ⟨d_law_pick, F_law_pick⟩ := c.d.def_ 26 (d := dOf "_law_pick" 41) rfl
  have m_law_pick : dOf "_law_pick" 41 ∈ fnL := List.mem_of_getElem? (i := 26) rfl
  obtain ⟨d_law_caught, F_law_caught⟩ := c.d.def_ 27 (d := dOf "_law_caught" 42) rfl
  have m_law_caught : dOf "_law_caught" 42 ∈ fnL := List.mem_of_getElem? (i := 27) rfl
  obtain ⟨d_law_same, F_law_same⟩ := c.d.def_ 28 (d := dOf "_law_same" 43) rfl
  have m_law_same : dOf "_law_same" 43 ∈ fnL := List.mem_of_getElem? (i := 28) rfl
  obtain ⟨d_law_rounds, F_law_rounds⟩ := c.d.def_ 29 (d := dOf "_law_rounds" 44) rfl
  have m_law_rounds : dOf "_law_rounds" 44 ∈ fnL := List.mem_of_getElem? (i := 29) rfl
  obtain ⟨d_law_shape, F_law_shape⟩ := c.d.def_ 30 (d := dOf "_law_shape" 45) rfl
  have m_law_shape : dOf "_law_shape" 45 ∈ fnL := List.mem_of_getElem? (i := 30) rfl
  obtain ⟨d_law_piece, F_law_piece⟩ := c.d.def_ 31 (d := dOf "_law_piece" 46) rfl
  have m_law_piece : dOf "_law_piece" 46 ∈ fnL := List.mem_of_getElem? (i := 31) rfl
  obtain ⟨d_law_odd, F_law_odd⟩ := c.d.def_ 32 (d := dOf "_law_odd" 47) rfl
  have m_law_odd : dOf "_law_odd" 47 ∈ fnL := List.mem_of_getElem? (i := 32) rfl
  obtain ⟨d_law_pieces_right, F_law_pieces_right⟩ := c.d.def_ 33 (d := dOf "_law_pieces_right" 48) rfl
  have m_law_pieces_right : dOf "_law_pieces_right" 48 ∈ fnL := List.mem_of_getElem? (i := 33) rfl
  obtain ⟨d_law_errors_right, F_law_errors_right⟩ := c.d.def_ 34 (d := dOf "_law_errors_right" 49) rfl
  have m_law_errors_right : dOf "_law_errors_right" 49 ∈ fnL := List.mem_of_getElem? (i := 34) rfl
  obtain ⟨d_law, F_law⟩ := c.d.def_ 35 (d := dOf "law" 50) rfl
  have m_law : dOf "law" 50 ∈ fnL := List.mem_of_getElem? (i := 35) rfl
  have B2 : Bx K mg (He.ga K "BadNumber") (He.ga K "BadField") (He.ga K "BadTalk") (He.ga K "JudgeError") (He.ga K "_law_caught") d_law_caught := ⟨gJ, gN, gT, gF, He.exm_ok (gx (f := .exm "BadNumber" "JudgeError" true) (by simp)), He.exm_ok (gx (f := .exm "BadTalk" "JudgeError" true) (by simp)), He.exm_ok (gx (f := .exm "BadField" "JudgeError" true) (by simp)),
    kepB_ok x3, kepB_ok x4, kepB_ok x5, of_decide_eq_true x6, of_decide_eq_true x7, of_decide_eq_true x8, L2.xfB_ok x9, L2.xfB_ok x10, He.noat_ok (x := "BadNumber") (f := "part") (gx (by simp)), He.noat_ok (x := "BadTalk") (f := "at") (gx (by simp)), F_law_caught,
    FunD.bindsN F_law_caught (fun _ _ _ _ _ _ us hl => match us, hl with | [_], _ => rfl), gl m_law_caught⟩
  have bLaw := FunD.bindsA (ps := ["script"]) F_law fun _ _ _ _ _ _ us hl => match us, hl with | [_], _ => rfl
  have ef := hfa.symm.trans (gl m_law)
  cases ef
  refine ⟨d_law, tfL.map (He.cT K), spLaw K (lamT (He.cT K ("_law_pieces_right", none)).2 (He.cT K ("_law_errors_right", none)).2), fun p hp => ?_, fun p hp => ?_, fun p hp => ?_, fun s u => bLaw s [u] rfl, fun H a ns hl _ hT hS => ?_, fun base KX GX TB => ?_⟩
  · obtain ⟨q, hq, rfl⟩ := List.mem_map.mp hp
    exact c.empty q hq
  · obtain ⟨q, hq, rfl⟩ := List.mem_map.mp hp
    exact c.out q hq
  · obtain ⟨q, hq, rfl⟩ := List.mem_map.mp hp
    exact PySem.W.codeHd_of_K X (c.hd q hq)
  · refine ⟨a, ns, rfl, hS, Nat.le_trans hl (by decide), fun p hp => ?_, fun _ => rfl⟩
    rcases List.mem_cons.mp hp with rfl | hp
    · exact TabS.nil (hT _ (.head _))
    · rcases List.mem_cons.mp hp with rfl | hp
      · exact TabS.nil (hT _ (.tail _ (.head _)))
      · cases hp

  have D_is_number : Dn rowL.prog w K mg base CX0 1 "is_number" ["thing"] (spNum K) := ⟨_, _, ok_is_number F_is_number B, gl m_is_number, F_is_number.kp, FunD.bindsN F_is_number fun _ _ _ _ _ _ us hl => match us, hl with | [_], _ => rfl⟩
  have D_is_between : Dn rowL.prog w K mg base CX0 2 "is_between" ["thing", "low", "high"] (spBet K) := ⟨_, _, ok_is_between F_is_between D_is_number, gl m_is_between, F_is_between.kp, FunD.bindsN F_is_between fun _ _ _ _ _ _ us hl => match us, hl with | [_, _, _], _ => rfl⟩
  have D_is_tuple : Dn rowL.prog w K mg base CX0 1 "is_tuple" ["thing", "size"] (spTup K) := ⟨_, _, ok_is_tuple F_is_tuple B, gl m_is_tuple, F_is_tuple.kp, FunD.bindsN F_is_tuple fun _ _ _ _ _ _ us hl => match us, hl with | [_, _], _ => rfl⟩
  have D_need_between : Dn rowL.prog w K mg base (CX rowL.prog w) 4 "need_between" ["number", "low", "high", "part"] (spNeedBet K (He.ga K "BadNumber")) := ⟨_, _, ok_need_between F_need_between B D_is_between, gl m_need_between, F_need_between.kp, FunD.bindsN F_need_between fun _ _ _ _ _ _ us hl => match us, hl with | [_, _, _, _], _ => rfl⟩
  have D_is_field : Dn rowL.prog w K mg base CX0 3 "is_field" ["thing"] spIsFld := ⟨_, _, ok_is_field F_is_field B D_is_between, gl m_is_field, F_is_field.kp, FunD.bindsN F_is_field fun _ _ _ _ _ _ us hl => match us, hl with | [_], _ => rfl⟩
  have D_need_field : Dn rowL.prog w K mg base (CX rowL.prog w) 4 "need_field" ["p"] (spNeedFld (He.ga K "BadField")) := ⟨_, _, ok_need_field F_need_field B D_is_field, gl m_need_field, F_need_field.kp, FunD.bindsN F_need_field fun _ _ _ _ _ _ us hl => match us, hl with | [_], _ => rfl⟩
  have D_are_numbers : Dn rowL.prog w K mg base CX0 3 "are_numbers" ["p", "thing"] (spNums K) := ⟨_, _, ok_are_numbers F_are_numbers B D_is_between, gl m_are_numbers, F_are_numbers.kp, FunD.bindsN F_are_numbers fun _ _ _ _ _ _ us hl => match us, hl with | [_, _], _ => rfl⟩
  have D_most_rows : Dn rowL.prog w K mg base CX0 1 "most_rows" ["p"] spMost := ⟨_, _, ok_most_rows F_most_rows B, gl m_most_rows, F_most_rows.kp, FunD.bindsN F_most_rows fun _ _ _ _ _ _ us hl => match us, hl with | [_], _ => rfl⟩
  have D_sizes_of : Dn rowL.prog w K mg base CX0 2 "sizes_of" ["p"] spSizes := ⟨_, _, ok_sizes_of F_sizes_of D_most_rows, gl m_sizes_of, F_sizes_of.kp, FunD.bindsN F_sizes_of fun _ _ _ _ _ _ us hl => match us, hl with | [_], _ => rfl⟩
  have D_is_size : Dn rowL.prog w K mg base (CX rowL.prog w) 5 "is_size" ["p", "thing"] (spIsSz K (He.ga K "BadField")) := ⟨_, _, ok_is_size F_is_size D_most_rows D_sizes_of D_is_between D_need_field, gl m_is_size, F_is_size.kp, FunD.bindsN F_is_size fun _ _ _ _ _ _ us hl => match us, hl with | [_, _], _ => rfl⟩
  have D_need_size : Dn rowL.prog w K mg base (CX rowL.prog w) 6 "need_size" ["p", "n"] (spNeedSz K (He.ga K "BadNumber") (He.ga K "BadField")) := ⟨_, _, ok_need_size F_need_size B D_is_size, gl m_need_size, F_need_size.kp, FunD.bindsN F_need_size fun _ _ _ _ _ _ us hl => match us, hl with | [_, _], _ => rfl⟩
  have D_rounds_of : Dn rowL.prog w K mg base CX0 1 "rounds_of" ["n"] spRnd := ⟨_, _, ok_rounds_of F_rounds_of , gl m_rounds_of, F_rounds_of.kp, FunD.bindsN F_rounds_of fun _ _ _ _ _ _ us hl => match us, hl with | [_], _ => rfl⟩
  have D_count_of : Dn rowL.prog w K mg base CX0 1 "count_of" ["n", "level"] spCnt := ⟨_, _, ok_count_of F_count_of B, gl m_count_of, F_count_of.kp, FunD.bindsN F_count_of fun _ _ _ _ _ _ us hl => match us, hl with | [_, _], _ => rfl⟩
  have D_is_word_told : Dn rowL.prog w K mg base CX0 4 "is_word_told" ["p", "many", "thing"] (spWord K) := ⟨_, _, ok_is_word_told F_is_word_told B D_are_numbers, gl m_is_word_told, F_is_word_told.kp, FunD.bindsN F_is_word_told fun _ _ _ _ _ _ us hl => match us, hl with | [_, _, _], _ => rfl⟩
  have D_last_piece : Dn rowL.prog w K mg base CX0 2 "last_piece" ["n"] spLast := ⟨_, _, ok_last_piece F_last_piece D_rounds_of, gl m_last_piece, F_last_piece.kp, FunD.bindsN F_last_piece fun _ _ _ _ _ _ us hl => match us, hl with | [_], _ => rfl⟩
  have D_shape_told : Dn rowL.prog w K mg base CX0 3 "shape_told" ["n", "at"] (spShape K) := ⟨_, _, ok_shape_told F_shape_told B D_last_piece D_count_of, gl m_shape_told, F_shape_told.kp, FunD.bindsN F_shape_told fun _ _ _ _ _ _ us hl => match us, hl with | [_, _], _ => rfl⟩
  have D_fits_shape : Dn rowL.prog w K mg base CX0 5 "fits_shape" ["p", "shape", "thing"] (spFits K) := ⟨_, _, ok_fits_shape F_fits_shape B D_are_numbers D_is_tuple D_is_word_told, gl m_fits_shape, F_fits_shape.kp, FunD.bindsN F_fits_shape fun _ _ _ _ _ _ us hl => match us, hl with | [_, _, _], _ => rfl⟩
  have D_piece_shape : Dn rowL.prog w K mg base (CX rowL.prog w) 7 "piece_shape" ["p", "n", "at"] (spPShape K (He.ga K "BadNumber")) := ⟨_, _, ok_piece_shape F_piece_shape D_need_size D_need_between D_last_piece D_shape_told, gl m_piece_shape, F_piece_shape.kp, FunD.bindsN F_piece_shape fun _ _ _ _ _ _ us hl => match us, hl with | [_, _, _], _ => rfl⟩
  obtain ⟨D_is_piece, kb⟩ : ∃ D : Dn rowL.prog w K mg base (CX rowL.prog w) 7 "is_piece" ["p", "n", "at", "thing"] (spPiece K (He.ga K "BadNumber")), KBinds K D.fd ["p", "n", "at", "thing"] ["n", "at", "thing"] kbg kbg := ⟨⟨_, _, ok_is_piece F_is_piece D_need_size D_need_between D_last_piece D_shape_told D_fits_shape, gl m_is_piece, F_is_piece.kp, FunD.bindsN F_is_piece fun _ _ _ _ _ _ us hl => match us, hl with | [_, _, _, _], _ => rfl⟩, kb_is_piece F_is_piece⟩
  have D_fault_told : Dn rowL.prog w K mg base CX0 6 "fault_told" ["p", "n", "pieces"] (spFault K) := ⟨_, _, ok_fault_told F_fault_told B D_last_piece D_shape_told D_fits_shape, gl m_fault_told, F_fault_told.kp, FunD.bindsN F_fault_told fun _ _ _ _ _ _ us hl => match us, hl with | [_, _, _], _ => rfl⟩
  have D_pieces_fault : Dn rowL.prog w K mg base (CX rowL.prog w) 7 "pieces_fault" ["p", "n", "pieces"] (spPFault K (He.ga K "BadNumber")) := ⟨_, _, ok_pieces_fault F_pieces_fault D_need_size D_fault_told, gl m_pieces_fault, F_pieces_fault.kp, FunD.bindsN F_pieces_fault fun _ _ _ _ _ _ us hl => match us, hl with | [_, _, _], _ => rfl⟩
  have D_need_pieces : Dn rowL.prog w K mg base (CX rowL.prog w) 7 "need_pieces" ["p", "n", "pieces"] (spNeedPc K (He.ga K "BadTalk")) := ⟨_, _, ok_need_pieces F_need_pieces B D_fault_told, gl m_need_pieces, F_need_pieces.kp, FunD.bindsN F_need_pieces fun _ _ _ _ _ _ us hl => match us, hl with | [_, _, _], _ => rfl⟩
  have D_is_whole : Dn rowL.prog w K mg base (CX rowL.prog w) 8 "is_whole" ["p", "n", "pieces"] (spWhole K (He.ga K "BadField") (He.ga K "BadTalk")) := ⟨_, _, ok_is_whole F_is_whole B D_need_size D_need_pieces D_last_piece, gl m_is_whole, F_is_whole.kp, FunD.bindsN F_is_whole fun _ _ _ _ _ _ us hl => match us, hl with | [_, _, _], _ => rfl⟩
  have D_law_begun : Dn rowL.prog w K mg base CX0 1 "_law_begun" ["script"] (spBegun K) := ⟨_, _, ok_law_begun F_law_begun B, gl m_law_begun, F_law_begun.kp, FunD.bindsN F_law_begun fun _ _ _ _ _ _ us hl => match us, hl with | [_], _ => rfl⟩
  have D_law_blend : Dn rowL.prog w K mg base CX0 1 "_law_blend" ["draw"] spBlend := ⟨_, _, ok_law_blend F_law_blend B, gl m_law_blend, F_law_blend.kp, FunD.bindsN F_law_blend fun _ _ _ _ _ _ us hl => match us, hl with | [_], _ => rfl⟩
  have D_law_take : Dn rowL.prog w K mg base CX0 2 "_law_take" ["draw", "size"] spTake := ⟨_, _, ok_law_take F_law_take B D_law_blend, gl m_law_take, F_law_take.kp, FunD.bindsN F_law_take fun _ _ _ _ _ _ us hl => match us, hl with | [_, _], _ => rfl⟩
  have D_law_pick : Dn rowL.prog w K mg base CX0 3 "_law_pick" ["draw", "some"] (spPick K) := ⟨_, _, ok_law_pick F_law_pick B D_law_take, gl m_law_pick, F_law_pick.kp, FunD.bindsN F_law_pick fun _ _ _ _ _ _ us hl => match us, hl with | [_, _], _ => rfl⟩
  have D_law_same : DnG rowL.prog w K mg base 1 "_law_same" ["told", "due"] (spSame K) := ⟨_, _, ok_law_same F_law_same B, gl m_law_same, F_law_same.kp, FunD.bindsN F_law_same fun _ _ _ _ _ _ us hl => match us, hl with | [_, _], _ => rfl⟩
  have D_law_rounds : Dn rowL.prog w K mg base CX0 1 "_law_rounds" ["n"] spRnd := ⟨_, _, ok_law_rounds F_law_rounds , gl m_law_rounds, F_law_rounds.kp, FunD.bindsN F_law_rounds fun _ _ _ _ _ _ us hl => match us, hl with | [_], _ => rfl⟩
  have D_law_shape : Dn rowL.prog w K mg base CX0 2 "_law_shape" ["n", "at"] (spLSh K) := ⟨_, _, ok_law_shape F_law_shape D_law_rounds, gl m_law_shape, F_law_shape.kp, FunD.bindsN F_law_shape fun _ _ _ _ _ _ us hl => match us, hl with | [_, _], _ => rfl⟩
  have D_law_piece : Dn rowL.prog w K mg base CX0 3 "_law_piece" ["draw", "p", "shape"] (spLPiece K) := ⟨_, _, ok_law_piece F_law_piece B D_law_take, gl m_law_piece, F_law_piece.kp, FunD.bindsN F_law_piece fun _ _ _ _ _ _ us hl => match us, hl with | [_, _, _], _ => rfl⟩
  have D_law_odd : Dn rowL.prog w K mg base CX0 4 "_law_odd" ["draw", "p", "piece"] (spOdd K) := ⟨_, _, ok_law_odd F_law_odd B D_law_pick, gl m_law_odd, F_law_odd.kp, FunD.bindsN F_law_odd fun _ _ _ _ _ _ us hl => match us, hl with | [_, _, _], _ => rfl⟩
  have D_law_pieces_right : DnG rowL.prog w K mg base 11 "_law_pieces_right" ["draw", "p", "n"] (spPcs (lamT (He.cT K ("_law_pieces_right", none)).2 (He.cT K ("_law_errors_right", none)).2)) := ⟨_, _, ok_law_pieces_right F_law_pieces_right B B2 (TB _ (.head _)) (code_eq (x := "_law_pieces_right") (st := topS 48) F_law_pieces_right) hP D_law_rounds D_piece_shape D_is_piece kb D_pieces_fault D_is_whole D_law_piece D_law_shape D_law_same D_law_take D_law_odd, gl m_law_pieces_right, F_law_pieces_right.kp, FunD.bindsN F_law_pieces_right fun _ _ _ _ _ _ us hl => match us, hl with | [_, _, _], _ => rfl⟩
  have D_law_errors_right : DnG rowL.prog w K mg base 11 "_law_errors_right" ["p", "n"] (spErrs (lamT (He.cT K ("_law_pieces_right", none)).2 (He.cT K ("_law_errors_right", none)).2)) := ⟨_, _, ok_law_errors_right F_law_errors_right B B2 (TB _ (.tail _ (.head _))) (code_eq (x := "_law_errors_right") (st := topS 49) F_law_errors_right) hP D_law_rounds D_piece_shape D_is_piece D_pieces_fault D_is_whole, gl m_law_errors_right, F_law_errors_right.kp, FunD.bindsN F_law_errors_right fun _ _ _ _ _ _ us hl => match us, hl with | [_, _], _ => rfl⟩
  exact ok_law F_law B D_law_begun D_law_pick D_law_pieces_right D_law_errors_right
end K51
set_option Elab.async false
set_option linter.all false
set_option maxRecDepth 100000
set_option maxHeartbeats 0
namespace K51
open PySem PySem.Spec PyProof.Rows L2 Evl LamX
theorem runJ (w : World) : HandSHeadRun.RunEq RJ (PySem.W.view RJ.prog [50]) hkJ obK 2600 namesJ w := by
  intro os
  kernel_rfl
end K51
set_option Elab.async false
set_option linter.all false
set_option maxRecDepth 100000
set_option maxHeartbeats 0
open PySem PySem.W PySem.Calls PyProof.Rows
theorem PySem.Challenge.cw_judgedunrun_k51_whole_talks_and_their_pi_holds : PySem.Challenge.rw_judgedunrun_k51_whole_talks_and_their_pi.Holds := by
  w_on; o_law
  refine HandSHeadRun.head_any (r := OpenLaw.row PySem.Challenge.rw_judgedunrun_k51_whole_talks_and_their_pi) (q := view (OpenLaw.row PySem.Challenge.rw_judgedunrun_k51_whole_talks_and_their_pi).prog [50]) (H := K51.hkJ) (ob := K51.obK) (M := 2600) (loose := K51.namesJ) (d := HandSHeadRun.topDef (OpenLaw.row PySem.Challenge.rw_judgedunrun_k51_whole_talks_and_their_pi).prog 50) (kwd := []) K51.obK_eq
    (by kernel_rfl) (fun s => by kernel_rfl) K51.runJ (by kernel_rfl) (by kernel_rfl) (by kernel_rfl) (by rfl) (by first | assumption | decide +kernel) (by decide +kernel) ⟨rfl, rfl, rfl, rfl, rfl, by decide +kernel⟩ ?hw ?hc
  case hw => w_witness2
  case hc =>
    refine L2.walk_ofG (l := PySem.Challenge.rw_judgedunrun_k51_whole_talks_and_their_pi) (n := 63) (k := 12) (x := "script") rfl (by decide) (by kernel_rfl) ⟨rfl, by decide, by decide⟩ ?F
    intro w mg fa h Y G hmg0
    obtain ⟨K, KX, c⟩ := Y
    have hmg : mg ("law" : PySem.Str) = some (.ref fa) := by
      have e : (HandSHeadRun.topDef (OpenLaw.row PySem.Challenge.rw_judgedunrun_k51_whole_talks_and_their_pi).prog 50).name = ("law" : PySem.Str) := by kernel_rfl
      rw [← e]
      exact hmg0
    exact ⟨K, KX, K51.facts KX G hmg c⟩
